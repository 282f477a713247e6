import PyProof.Rows.All
import Wide.All
import OpenK.AllK
import Wide.FinOn
import PyProof.EqAt
import PyProof.EqKinds
import PyProof.TupleCall
import HandS.ForMost
import HandS.ForExc
import HandS.TryMany
import HandS.SortKw
import HandS.Wide
import HandS.ExcIs
import HandS.IsInst
import HandS.EndBits
import HandS.More
import KE.SortData
import HandS.Lambda
import HandS.Style
import KE.SortKeyHeap
import KE.KSortKey
import HandS.Conv
import HandS.EndTab
import KE.KNestM
import KE.GoesEnum
import KE.GoesZip
import KE.GoesMore
import HandS.RevTup
import HandS.Rev
import HandS.Deep
import HandS.SetFor
import HandS.Zip
import HandS.TupLe
import HandS.TupAny
import HandS.Strs
import KE.DataFind
import PySem.Challenge.RW_tallyweb_k39_whole_lone_or_exchanged
set_option Elab.async false
set_option linter.all false
set_option autoImplicit false
set_option maxRecDepth 100000
set_option maxHeartbeats 4000000
/-! DL: readings without a heap. A value of the heap is told by data (PyData); what a def owns and may change is told apart from what stands still. -/
namespace DL
open PySem PySem.Spec PyProof.Rows L2
variable {T : List (Addr × Str)}

abbrev D := PyData
def keyD : Key → D
  | .inl i => .int i
  | .inr x => .str x
def keyT (k : List Key) : D := .tuple (k.map keyD)
/-- a dict by tuples -/
def dctT (kds : List (List Key × D)) : D := .dict (kds.map fun p => (keyT p.1, p.2))
/-- a dict by ints and texts (a mark ahead tells it from the other kind) -/
def dctK (kds : List (Key × D)) : D := .dict ((.none, .none) :: kds.map fun p => (keyD p.1, p.2))
theorem keyD_inj {a b : Key} (h : keyD a = keyD b) : a = b := by
  cases a <;> cases b <;> simp [keyD] at h <;> rw [h]
theorem map_inj' {α β : Type} {f : α → β} (hf : ∀ a b, f a = f b → a = b) : ∀ {xs ys : List α}, xs.map f = ys.map f → xs = ys
  | [], [], _ => rfl
  | [], _ :: _, h => by simp at h
  | _ :: _, [], h => by simp at h
  | x :: xs, y :: ys, h => by
    simp only [List.map_cons, List.cons.injEq] at h
    rw [hf _ _ h.1, map_inj' hf h.2]
theorem keyT_inj {a b : List Key} (h : keyT a = keyT b) : a = b := by
  simp only [keyT, PyData.tuple.injEq] at h
  exact map_inj' (fun _ _ => keyD_inj) h
theorem dctT_inj {a b : List (List Key × D)} (h : dctT a = dctT b) : a = b := by
  simp only [dctT, PyData.dict.injEq] at h
  refine map_inj' (fun x y h => ?_) h
  simp only [Prod.mk.injEq] at h
  exact Prod.ext (keyT_inj h.1) h.2
theorem dctK_inj {a b : List (Key × D)} (h : dctK a = dctK b) : a = b := by
  simp only [dctK, PyData.dict.injEq, List.cons.injEq, true_and] at h
  refine map_inj' (fun x y h => ?_) h
  simp only [Prod.mk.injEq] at h
  exact Prod.ext (keyD_inj h.1) h.2
/-- a dict by tuples that is locked for good: only read, and walked -/
def lkT (kds : List (List Key × D)) : D := .dict ((.bool true, .none) :: kds.map fun p => (keyT p.1, p.2))
/-- .. one by ints and texts -/
def lkK (kds : List (Key × D)) : D := .dict ((.bool false, .none) :: kds.map fun p => (keyD p.1, p.2))
def lkB : D → Bool
  | .dict ((.bool _, .none) :: _) => true
  | _ => false
theorem lkT_inj {a b : List (List Key × D)} (h : lkT a = lkT b) : a = b := by
  simp only [lkT, PyData.dict.injEq, List.cons.injEq, true_and] at h
  refine map_inj' (fun x y h => ?_) h
  simp only [Prod.mk.injEq] at h
  exact Prod.ext (keyT_inj h.1) h.2
theorem dctT_lk {a b : List (List Key × D)} (h : dctT a = lkT b) : False := by
  simp only [dctT, lkT, PyData.dict.injEq] at h
  cases a with
  | nil => simp at h
  | cons p r => simp [keyT] at h
theorem dctK_lk {a : List (Key × D)} {b : List (List Key × D)} (h : dctK a = lkT b) : False := by
  simp only [dctK, lkT, PyData.dict.injEq, List.cons.injEq, Prod.mk.injEq] at h
  simp at h
theorem lkK_inj {a b : List (Key × D)} (h : lkK a = lkK b) : a = b := by
  simp only [lkK, PyData.dict.injEq, List.cons.injEq, true_and] at h
  refine map_inj' (fun x y h => ?_) h
  simp only [Prod.mk.injEq] at h
  exact Prod.ext (keyD_inj h.1) h.2
theorem dctT_lkK {a : List (List Key × D)} {b : List (Key × D)} (h : dctT a = lkK b) : False := by
  simp only [dctT, lkK, PyData.dict.injEq] at h
  cases a with
  | nil => simp at h
  | cons p r => simp [keyT] at h
theorem dctK_lkK {a b : List (Key × D)} (h : dctK a = lkK b) : False := by
  simp only [dctK, lkK, PyData.dict.injEq, List.cons.injEq, Prod.mk.injEq] at h
  simp at h
theorem lkT_lkK {a : List (List Key × D)} {b : List (Key × D)} (h : lkT a = lkK b) : False := by
  simp only [lkT, lkK, PyData.dict.injEq, List.cons.injEq, Prod.mk.injEq] at h
  simp at h
theorem dctT_ne {a : List (List Key × D)} {b : List (Key × D)} (h : dctT a = dctK b) : False := by
  simp only [dctT, dctK, PyData.dict.injEq] at h
  cases a with
  | nil => simp at h
  | cons p r => simp [keyT] at h

mutual
/-- v stands for the data d by objects that stand still (those of F) -/
inductive Dq (F : Hp) : V → D → Prop
  | non : Dq F .non .none
  | bl (b : Bool) : Dq F (.bl b) (.bool b)
  | int (i : Int) : Dq F (.int i) (.int i)
  | str (x : Str) : Dq F (.str x) (.str x)
  | lst {a : Addr} {xs : List V} {ds : List D} : F a = some (.lst xs) → DqA F xs ds → Dq F (.ref a) (.list ds)
  | tup {a : Addr} {xs : List V} {ds : List D} : F a = some (.tup xs) → DqA F xs ds → Dq F (.ref a) (.tuple ds)
  | dT {a : Addr} {kvs : List (List Key × V)} {kds : List (List Key × D)} : F a = some (.dT kvs) → kvs.map (·.1) = kds.map (·.1) → DqA F (kvs.map (·.2)) (kds.map (·.2)) → Dq F (.ref a) (.dict (kds.map fun p => (keyT p.1, p.2)))
  | dK {a : Addr} {kvs : List (Key × V)} {kds : List (Key × D)} : F a = some (.dK kvs) → kvs.map (·.1) = kds.map (·.1) → DqA F (kvs.map (·.2)) (kds.map (·.2)) → Dq F (.ref a) (.dict ((.none, .none) :: kds.map fun p => (keyD p.1, p.2)))
  | dL {a : Addr} {o : Obj} {kvs : List (List Key × V)} {kds : List (List Key × D)} : F a = some (.frz o (.dT kvs)) → kvs.map (·.1) = kds.map (·.1) → DqA F (kvs.map (·.2)) (kds.map (·.2)) → Dq F (.ref a) (.dict ((.bool true, .none) :: kds.map fun p => (keyT p.1, p.2)))
  | dM {a : Addr} {o : Obj} {kvs : List (Key × V)} {kds : List (Key × D)} : F a = some (.frz o (.dK kvs)) → kvs.map (·.1) = kds.map (·.1) → DqA F (kvs.map (·.2)) (kds.map (·.2)) → Dq F (.ref a) (.dict ((.bool false, .none) :: kds.map fun p => (keyD p.1, p.2)))
inductive DqA (F : Hp) : List V → List D → Prop
  | nil : DqA F [] []
  | cons {v : V} {vs : List V} {d : D} {ds : List D} : Dq F v d → DqA F vs ds → DqA F (v :: vs) (d :: ds)
end

mutual
theorem Dq.mono {F F' : Hp} (h : Same F F') : ∀ {v : V} {d : D}, Dq F v d → Dq F' v d
  | _, _, .non => .non
  | _, _, .bl b => .bl b
  | _, _, .int i => .int i
  | _, _, .str x => .str x
  | _, _, .lst e q => .lst (h _ _ e) (DqA.mono h q)
  | _, _, .tup e q => .tup (h _ _ e) (DqA.mono h q)
  | _, _, .dT e k q => .dT (h _ _ e) k (DqA.mono h q)
  | _, _, .dK e k q => .dK (h _ _ e) k (DqA.mono h q)
  | _, _, .dL e k q => .dL (h _ _ e) k (DqA.mono h q)
  | _, _, .dM e k q => .dM (h _ _ e) k (DqA.mono h q)
theorem DqA.mono {F F' : Hp} (h : Same F F') : ∀ {vs : List V} {ds : List D}, DqA F vs ds → DqA F' vs ds
  | _, _, .nil => .nil
  | _, _, .cons a b => .cons (Dq.mono h a) (DqA.mono h b)
end
theorem DqA.length {F : Hp} : ∀ {vs : List V} {ds : List D}, DqA F vs ds → vs.length = ds.length
  | _, _, .nil => rfl
  | _, _, .cons _ q => congrArg (· + 1) (DqA.length q)
theorem DqA.get {F : Hp} : ∀ {vs : List V} {ds : List D} {k : Nat} {d : D}, DqA F vs ds → ds[k]? = some d → ∃ v, vs[k]? = some v ∧ Dq F v d
  | _, _, _, _, .nil, h => by simp at h
  | _, _, 0, d, .cons a _, h => by
    simp at h
    subst h
    exact ⟨_, rfl, a⟩
  | _, _, k + 1, d, .cons _ b, h => by
    obtain ⟨v, h1, h2⟩ := DqA.get (k := k) b (by simpa using h)
    exact ⟨v, by simpa using h1, h2⟩
theorem DqA.get' {F : Hp} : ∀ {vs : List V} {ds : List D} {k : Nat} {v : V}, DqA F vs ds → vs[k]? = some v → ∃ d, ds[k]? = some d ∧ Dq F v d
  | _, _, _, _, .nil, h => by simp at h
  | _, _, 0, d, .cons a _, h => by
    simp at h
    subst h
    exact ⟨_, rfl, a⟩
  | _, _, k + 1, d, .cons _ b, h => by
    obtain ⟨v, h1, h2⟩ := DqA.get' (k := k) b (by simpa using h)
    exact ⟨v, by simpa using h1, h2⟩
theorem DqA.append {F : Hp} : ∀ {vs ws : List V} {ds es : List D}, DqA F vs ds → DqA F ws es → DqA F (vs ++ ws) (ds ++ es)
  | _, _, _, _, .nil, q => q
  | _, _, _, _, .cons a b, q => .cons a (DqA.append b q)
theorem DqA.snoc {F : Hp} {vs : List V} {v : V} {ds : List D} {d : D} (a : DqA F vs ds) (b : Dq F v d) : DqA F (vs ++ [v]) (ds ++ [d]) := a.append (.cons b .nil)
theorem DqA.take {F : Hp} : ∀ {vs : List V} {ds : List D} (n : Nat), DqA F vs ds → DqA F (vs.take n) (ds.take n)
  | _, _, 0, _ => .nil
  | _, _, _ + 1, .nil => .nil
  | _, _, n + 1, .cons a b => .cons a (DqA.take n b)
theorem DqA.drop {F : Hp} : ∀ {vs : List V} {ds : List D} (n : Nat), DqA F vs ds → DqA F (vs.drop n) (ds.drop n)
  | _, _, 0, q => q
  | _, _, _ + 1, .nil => .nil
  | _, _, n + 1, .cons _ b => DqA.drop n b
theorem DqA.set {F : Hp} : ∀ {vs : List V} {ds : List D} {v : V} {d : D} (k : Nat), DqA F vs ds → Dq F v d → DqA F (vs.set k v) (ds.set k d)
  | _, _, _, _, _, .nil, _ => .nil
  | _, _, _, _, 0, .cons _ b, q => .cons q b
  | _, _, _, _, k + 1, .cons a b, q => .cons a (DqA.set k b q)
theorem DqA.reverse {F : Hp} : ∀ {vs : List V} {ds : List D}, DqA F vs ds → DqA F vs.reverse ds.reverse
  | _, _, .nil => .nil
  | _, _, .cons a b => by
    rw [List.reverse_cons, List.reverse_cons]
    exact DqA.append (DqA.reverse b) (.cons a .nil)
theorem DqA.eraseIdx {F : Hp} : ∀ {vs : List V} {ds : List D} (k : Nat), DqA F vs ds → DqA F (vs.eraseIdx k) (ds.eraseIdx k)
  | _, _, _, .nil => .nil
  | _, _, 0, .cons _ b => b
  | _, _, k + 1, .cons a b => .cons a (DqA.eraseIdx k b)
theorem DqA.insertIdx {F : Hp} {v : V} {d : D} (q : Dq F v d) : ∀ {vs : List V} {ds : List D} (k : Nat), DqA F vs ds → DqA F (vs.insertIdx k v) (ds.insertIdx k d)
  | _, _, 0, h => .cons q h
  | _, _, _ + 1, .nil => .nil
  | _, _, k + 1, .cons a b => .cons a (DqA.insertIdx q k b)

/-! ### tracked objects stay, tables of code objects grow well -/
def NoT (F : Hp) : Prop := ∀ a ps, F a ≠ some (.tbl ps)
def IsD (o : HO) : Prop := match o with
  | .lst _ => True
  | .tup _ => True
  | .dT _ => True
  | .dK _ => True
  | _ => False
/-- nothing but a table is told of a -/
def Nn (H : Hp) (a : Addr) : Prop := ∀ u, H a = some u → ∃ ps, u = HO.tbl ps
theorem nn_of {H : Hp} {a : Addr} (h : H a = none) : Nn H a := fun u e => by
  rw [h] at e
  cases e
theorem nn_ne {H : Hp} {a c : Addr} {u : HO} (h : Nn H a) (e : H c = some u) (n : ∀ ps, u ≠ .tbl ps) : c ≠ a := fun z => by
  subst z
  obtain ⟨ps, q⟩ := h u e
  exact n ps q
structure Ext (T : List (Addr × Str)) (H H' : Hp) : Prop where
  e : LamX.ExtN H H'
  t : LamX.Tabs T H → LamX.Tabs T H'
theorem Ext.refl (H : Hp) : Ext T H H := ⟨LamX.ExtN.refl H, fun h => h⟩
theorem Ext.trans {H H1 H2 : Hp} (a : Ext T H H1) (b : Ext T H1 H2) : Ext T H H2 := ⟨a.e.trans b.e, fun h => b.t (a.t h)⟩
theorem Ext.nn {H H' : Hp} (x : Ext T H H') {a : Addr} (h : Nn H' a) : Nn H a := fun u e => by
  refine Classical.byContradiction fun c => ?_
  obtain ⟨ps, q⟩ := h u (x.e a u e fun ps z => c ⟨ps, z⟩)
  exact c ⟨ps, q⟩
theorem Ext.free {H H' : Hp} (x : Ext T H H') {a : Addr} (h : H' a = none) : Nn H a := x.nn (nn_of h)
theorem Ext.ap {H H' : Hp} (x : Ext T H H') {a : Addr} {o : HO} (h : H a = some o) (n : ∀ ps, o ≠ .tbl ps := by intro ps z; cases z) : H' a = some o := x.e a o h n
theorem Ext.new {H : Hp} {p : Addr} {o : HO} (h : H p = none) : Ext T H (upd H p o) := by
  have e : ∀ b u, H b = some u → upd H p o b = some u := fun b u q => by
    rw [upd_ne (ne_of_none q h)]
    exact q
  exact ⟨LamX.ExtN.of e, fun t => t.ext e⟩
theorem Ext.put {H H1 : Hp} (x : Ext T H H1) {p : Addr} (o : HO) (hp : Nn H p) (hd : ∀ u, H1 p = some u → IsD u) : Ext T H (upd H1 p o) := by
  refine ⟨fun b u q n => ?_, fun t => ?_⟩
  · rw [upd_ne (nn_ne hp q n)]
    exact x.e b u q n
  · intro r hr
    obtain ⟨ps, h1, h2, h3⟩ := x.t t r hr
    have n1 : r.1 ≠ p := fun z => by
      rw [z] at h1
      exact hd _ h1
    refine ⟨ps, by rw [upd_ne n1]; exact h1, h2, fun pos cv hc => ?_⟩
    obtain ⟨c, e1, e2⟩ := h3 pos cv hc
    refine ⟨c, e1, ?_⟩
    have n2 : c ≠ p := fun z => by
      rw [z] at e2
      exact hd _ e2
    rw [upd_ne n2]
    exact e2
theorem tabs_put {H1 : Hp} {T : List (Addr × Str)} (t : LamX.Tabs T H1) {p : Addr} (o : HO) (hd : ∀ u, H1 p = some u → IsD u) : LamX.Tabs T (upd H1 p o) := by
  intro r hr
  obtain ⟨ps, h1, h2, h3⟩ := t r hr
  have n1 : r.1 ≠ p := fun z => by
    rw [z] at h1
    exact hd _ h1
  refine ⟨ps, by rw [upd_ne n1]; exact h1, h2, fun pos cv hc => ?_⟩
  obtain ⟨c, e1, e2⟩ := h3 pos cv hc
  refine ⟨c, e1, ?_⟩
  have n2 : c ≠ p := fun z => by
    rw [z] at e2
    exact hd _ e2
  rw [upd_ne n2]
  exact e2
theorem seqE {K : PySem.W.Frag} {H H' : Hp} {a : Addr} {xs : List V} (x : Ext T H H') (h : SqL K H a xs) : SqL K H' a xs := by
  rcases h with (h | ⟨o, h⟩) | h
  · exact .inl (.inl (x.ap h))
  · exact .inl (.inr ⟨o, x.ap h⟩)
  · exact .inr h
/-- an own root: what it holds stands still -/
def Own (F H : Hp) (p : Addr) : D → Prop
  | .list ds => ∃ xs, H p = some (.lst xs) ∧ DqA F xs ds
  | .dict ps => (∃ (kvs : List (List Key × V)) (kds : List (List Key × D)), ps = (kds.map fun p => (keyT p.1, p.2)) ∧ H p = some (.dT kvs) ∧ kvs.map (·.1) = kds.map (·.1) ∧ DqA F (kvs.map (·.2)) (kds.map (·.2))) ∨
      (∃ (kvs : List (Key × V)) (kds : List (Key × D)), ps = ((.none, .none) :: kds.map fun p => (keyD p.1, p.2)) ∧ H p = some (.dK kvs) ∧ kvs.map (·.1) = kds.map (·.1) ∧ DqA F (kvs.map (·.2)) (kds.map (·.2)))
  | _ => False
/-- a root that may be read -/
def Rdb (K : PySem.W.Frag) (F H : Hp) (p : Addr) : D → Prop
  | .list ds => ∃ xs, SqL K H p xs ∧ DqA F xs ds
  | .tuple ds => ∃ xs, SqT K H p xs ∧ DqA F xs ds
  | .dict kds => Own F H p (.dict kds)
  | _ => False
theorem SqT.same {K : PySem.W.Frag} {H H' : Hp} {a : Addr} {xs : List V} (e : Ext T H H') (h : SqT K H a xs) : SqT K H' a xs := by
  rcases h with (h | ⟨o, h⟩) | h
  · exact .inl (.inl (e.ap h))
  · exact .inl (.inr ⟨o, e.ap h⟩)
  · exact .inr h
theorem Own.mono {F F' H H' : Hp} (f : Same F F') {p : Addr} (h : H' p = H p) : ∀ {d : D}, Own F H p d → Own F' H' p d
  | .list ds, ⟨xs, e, q⟩ => ⟨xs, h.trans e, q.mono f⟩
  | .dict kds, .inl ⟨kvs, ds, e1, e, k, q⟩ => .inl ⟨kvs, ds, e1, h.trans e, k, q.mono f⟩
  | .dict kds, .inr ⟨kvs, ds, e1, e, k, q⟩ => .inr ⟨kvs, ds, e1, h.trans e, k, q.mono f⟩
theorem Own.some {F H : Hp} {p : Addr} : ∀ {d : D}, Own F H p d → ∃ o, H p = some o ∧ IsD o
  | .list ds, ⟨xs, e, q⟩ => ⟨_, e, trivial⟩
  | .dict kds, .inl ⟨kvs, ds, e1, e, k, q⟩ => ⟨_, e, trivial⟩
  | .dict kds, .inr ⟨kvs, ds, e1, e, k, q⟩ => ⟨_, e, trivial⟩
theorem Own.notup {F H : Hp} {p : Addr} {d : D} (o : Own F H p d) (k : List Key) (z : H p = Option.some (.tup (k.map kV))) : False := by
  cases d with
  | list ds => obtain ⟨xs, e, q⟩ := o; rw [z] at e; cases e
  | dict ds =>
    rcases o with ⟨_, _, _, e, _⟩ | ⟨_, _, _, e, _⟩
    · rw [z] at e; cases e
    · rw [z] at e; cases e
  | _ => exact o.elim
theorem isD_n {o : HO} (h : IsD o) : ∀ ps, o ≠ .tbl ps := fun ps e => by
  subst e
  exact h
theorem Own.same {F F' H H' : Hp} (f : Same F F') (hh : Ext T H H') {p : Addr} {d : D} (o : Own F H p d) : Own F' H' p d := by
  obtain ⟨u, e, i⟩ := o.some
  exact o.mono f ((hh.ap e (isD_n i)).trans e.symm)
theorem Own.dq {F : Hp} {p : Addr} : ∀ {d : D}, Own F F p d → Dq F (.ref p) d
  | .list ds, ⟨xs, e, q⟩ => .lst e q
  | .dict kds, .inl ⟨kvs, ds, e1, e, k, q⟩ => by
    subst e1
    exact .dT e k q
  | .dict kds, .inr ⟨kvs, ds, e1, e, k, q⟩ => by
    subst e1
    exact .dK e k q
theorem Own.rdb {K : PySem.W.Frag} {F H : Hp} {p : Addr} : ∀ {d : D}, Own F H p d → Rdb K F H p d
  | .list ds, ⟨xs, e, q⟩ => ⟨xs, .of e, q⟩
  | .dict kds, h => h
theorem Rdb.same {K : PySem.W.Frag} {F F' H H' : Hp} (f : Same F F') (h : Ext T H H') {p : Addr} : ∀ {d : D}, Rdb K F H p d → Rdb K F' H' p d
  | .list ds, ⟨xs, e, q⟩ => ⟨xs, seqE h e, q.mono f⟩
  | .tuple ds, ⟨xs, e, q⟩ => ⟨xs, SqT.same h e, q.mono f⟩
  | .dict kds, o => Own.same (d := .dict kds) f h o

/-! ### how a heap grows -/
theorem same_new {H : Hp} {p : Addr} {o : HO} (h : H p = none) : Same H (upd H p o) := fun a u e => by
  rw [upd_ne (ne_of_none e h)]
  exact e
/-- the tuples of ints and texts stand still -/
def KTs (F H : Hp) : Prop := ∀ (a : Addr) (k : List Key), H a = some (.tup (k.map kV)) → F a = some (.tup (k.map kV))
/-- what stood still stays; what stands still anew is new altogether -/
structure Grow (T : List (Addr × Str)) (F H F' H' : Hp) : Prop where
  h : Ext T H H'
  f : Same F F'
  s : Same F' H'
  k : ∀ a o, H a = some o → (∀ ps, o ≠ .tbl ps) → F' a = F a
  n : NoT F'
  c : KTs F' H'
theorem Grow.refl {F0 H0 F H : Hp} (g : Grow T F0 H0 F H) : Grow T F H F H := ⟨.refl _, Same.refl _, g.s, fun _ _ _ _ => rfl, g.n, g.c⟩
theorem Grow.trans {F H F1 H1 F2 H2 : Hp} (a : Grow T F H F1 H1) (b : Grow T F1 H1 F2 H2) : Grow T F H F2 H2 :=
  ⟨a.h.trans b.h, a.f.trans b.f, b.s, fun x o e n => (b.k x o (a.h.ap e n) n).trans (a.k x o e n), b.n, b.c⟩
/-- a new object that stands still -/
theorem Grow.new {F0 H0 F H : Hp} (g : Grow T F0 H0 F H) {p : Addr} (o : HO) (h : H p = none) (hn : ∀ ps, o ≠ .tbl ps := by intro ps z; cases z) : Grow T F H (upd F p o) (upd H p o) := by
  have s := g.s
  have hf : F p = none := s.free h
  refine ⟨.new h, same_new hf, fun a u e => ?_, fun a u e _ => upd_ne (ne_of_none e h), fun a ps e => ?_, fun a k e => ?_⟩
  · by_cases q : a = p
    · subst q
      rw [upd_same] at e ⊢
      exact e
    · rw [upd_ne q] at e ⊢
      exact s a u e
  · by_cases q : a = p
    · subst q
      rw [upd_same] at e
      exact hn ps (Option.some.inj e)
    · rw [upd_ne q] at e
      exact g.n a ps e
  · by_cases q : a = p
    · subst q
      rw [upd_same] at e ⊢
      exact e
    · rw [upd_ne q] at e ⊢
      exact g.c a k e
/-- a new object that does not -/
theorem Grow.own {F0 H0 F H : Hp} (g : Grow T F0 H0 F H) {p : Addr} (o : HO) (h : H p = none) (hk : ∀ k : List Key, o ≠ .tup (k.map kV) := by intro k z; cases z) : Grow T F H F (upd H p o) :=
  ⟨.new h, Same.refl _, g.s.trans (same_new h), fun _ _ _ _ => rfl, g.n, fun a k e => by
    by_cases q : a = p
    · subst q
      rw [upd_same] at e
      exact absurd (Option.some.inj e) (hk k)
    · rw [upd_ne q] at e
      exact g.c a k e⟩
/-- the heap behind that is not told -/
theorem Grow.put {F H F1 H1 : Hp} (g : Grow T F H F1 H1) {p : Addr} (o : HO) (h : Nn H p) (hf : F1 p = none) (hd : ∀ u, H1 p = some u → IsD u) (hk : ∀ k : List Key, o ≠ .tup (k.map kV) := by intro k z; cases z) : Grow T F H F1 (upd H1 p o) := by
  refine ⟨g.h.put o h hd, g.f, fun a u e => ?_, g.k, g.n, fun a k e => ?_⟩
  rotate_left
  · by_cases q : a = p
    · subst q
      rw [upd_same] at e
      exact absurd (Option.some.inj e) (hk k)
    · rw [upd_ne q] at e
      exact g.c a k e
  rw [upd_ne (ne_of_none e hf)]
  exact g.s a u e

/-! ### atoms, trees (a root and children that may be changed) -/
/-- no address -/
def Atm (v : V) (d : D) : Prop := Dq (fun _ => none) v d
theorem Atm.dq {F : Hp} {v : V} {d : D} (h : Atm v d) : Dq F v d := Dq.mono (fun _ _ e => by cases e) h
def atmB : D → Bool
  | .list _ => false
  | .tuple _ => false
  | .dict _ => false
  | _ => true
theorem atm_of {F : Hp} {v : V} {d : D} (h : Dq F v d) (a : atmB d = true) : Atm v d := by
  cases h <;> first | (simp [atmB] at a; done) | constructor
theorem atm_list {v : V} {ds : List D} (h : Atm v (.list ds)) : False := by
  unfold Atm at h
  cases h with
  | lst e _ => cases e
theorem atm_tuple {v : V} {ds : List D} (h : Atm v (.tuple ds)) : False := by
  unfold Atm at h
  cases h with
  | tup e _ => cases e
theorem atm_dict {v : V} {ds : List (D × D)} (h : Atm v (.dict ds)) : False := by
  unfold Atm at h
  cases h with
  | dT e _ _ => cases e
  | dK e _ _ => cases e
  | dL e _ _ => cases e
  | dM e _ _ => cases e
theorem atm_ref {p : Addr} {d : D} (h : Atm (.ref p) d) : False := by
  unfold Atm at h
  cases h with
  | lst e _ => cases e
  | tup e _ => cases e
  | dT e _ _ => cases e
  | dK e _ _ => cases e
  | dL e _ _ => cases e
  | dM e _ _ => cases e
/-- the children of a tree, and where those stand that may be changed -/
inductive Kids (F H : Hp) : List V → List D → List Addr → Prop
  | nil : Kids F H [] [] []
  | own {q : Addr} {d : D} {vs : List V} {ds : List D} {A : List Addr} : F q = none → Own F H q d → Kids F H vs ds A → q ∉ A → Kids F H (.ref q :: vs) (d :: ds) (q :: A)
  | atm {v : V} {d : D} {vs : List V} {ds : List D} {A : List Addr} : Atm v d → Kids F H vs ds A → Kids F H (v :: vs) (d :: ds) A
/-- .. its root -/
def TrR (F H : Hp) (p : Addr) : D → List Addr → Prop
  | .list ds, A => ∃ xs, H p = some (.lst xs) ∧ Kids F H xs ds A
  | .tuple ds, A => ∃ xs, H p = some (.tup xs) ∧ Kids F H xs ds A
  | .dict ps, A => ∃ (kvs : List (List Key × V)) (kds : List (List Key × D)), ps = (kds.map fun p => (keyT p.1, p.2)) ∧ H p = some (.dT kvs) ∧ kvs.map (·.1) = kds.map (·.1) ∧ Kids F H (kvs.map (·.2)) (kds.map (·.2)) A
  | _, _ => False
/-- a tree: A its places -/
def Tr (F H : Hp) (v : V) (d : D) (A : List Addr) : Prop := ∃ p A', v = .ref p ∧ F p = none ∧ A = p :: A' ∧ p ∉ A' ∧ TrR F H p d A'
theorem Own.inv {F H : Hp} {p : Addr} {d : D} (o : Own F H p d) : (∃ ds, d = .list ds) ∨ ∃ ps, d = .dict ps := by
  cases d with
  | list ds => exact .inl ⟨_, rfl⟩
  | dict ds => exact .inr ⟨_, rfl⟩
  | _ => exact o.elim
theorem Own.noatm {F H : Hp} {p : Addr} {v : V} {d : D} (o : Own F H p d) (a : Atm v d) : False := by
  rcases o.inv with ⟨_, rfl⟩ | ⟨_, rfl⟩
  · exact atm_list a
  · exact atm_dict a
theorem Kids.nn {F H : Hp} : ∀ {vs : List V} {ds : List D} {A : List Addr}, Kids F H vs ds A → ∀ a ∈ A, F a = none ∧ ∃ u, H a = some u ∧ IsD u
  | _, _, _, .nil, a, h => by simp at h
  | _, _, _, .own n o k _, a, h => by
    rcases List.mem_cons.mp h with rfl | h
    · exact ⟨n, o.some⟩
    · exact k.nn a h
  | _, _, _, .atm _ k, a, h => k.nn a h
theorem Kids.len {F H : Hp} : ∀ {vs : List V} {ds : List D} {A : List Addr}, Kids F H vs ds A → vs.length = ds.length
  | _, _, _, .nil => rfl
  | _, _, _, .own _ _ k _ => congrArg (· + 1) k.len
  | _, _, _, .atm _ k => congrArg (· + 1) k.len
/-- the places stand in the list -/
theorem Kids.uniq {F F2 H H2 : Hp} : ∀ {vs : List V} {ds : List D} {A B : List Addr}, Kids F H vs ds A → Kids F2 H2 vs ds B → A = B
  | _, _, _, _, .nil, .nil => rfl
  | _, _, _, _, .own _ _ k _, .own _ _ k2 _ => by rw [k.uniq k2]
  | _, _, _, _, .own _ o _ _, .atm a _ => (o.noatm a).elim
  | _, _, _, _, .atm a _, .own _ o _ _ => (o.noatm a).elim
  | _, _, _, _, .atm _ k, .atm _ k2 => k.uniq k2
theorem Kids.mono {F F' H H' : Hp} (f : Same F F') : ∀ {vs : List V} {ds : List D} {A : List Addr}, Kids F H vs ds A → (∀ a ∈ A, F' a = none ∧ H' a = H a) → Kids F' H' vs ds A
  | _, _, _, .nil, _ => .nil
  | _, _, _, .own n o k q, h => .own (h _ (by simp)).1 (o.mono f (h _ (by simp)).2) (k.mono f fun a ha => h a (by simp [ha])) q
  | _, _, _, .atm a k, h => .atm a (k.mono f h)
theorem Kids.append {F H : Hp} : ∀ {vs ws : List V} {ds es : List D} {A B : List Addr}, Kids F H vs ds A → Kids F H ws es B → (∀ a ∈ A, a ∉ B) → Kids F H (vs ++ ws) (ds ++ es) (A ++ B)
  | _, _, _, _, _, _, .nil, q, _ => q
  | _, _, _, _, _, _, .own n o k m, q, h => .own n o (k.append q fun a ha => h a (by simp [ha])) (by
      intro z
      rcases List.mem_append.mp z with z | z
      · exact m z
      · exact h _ (by simp) z)
  | _, _, _, _, _, _, .atm a k, q, h => .atm a (k.append q h)
theorem TrR.som {F H : Hp} {p : Addr} {d : D} {A : List Addr} (t : TrR F H p d A) : ∃ o, H p = some o ∧ IsD o := by
  cases d with
  | list ds => obtain ⟨xs, e, _⟩ := t; exact ⟨_, e, trivial⟩
  | tuple ds => obtain ⟨xs, e, _⟩ := t; exact ⟨_, e, trivial⟩
  | dict ds => obtain ⟨xs, _, _, e, _⟩ := t; exact ⟨_, e, trivial⟩
  | _ => exact t.elim
theorem TrR.kids {F H : Hp} {p : Addr} {d : D} {A : List Addr} (t : TrR F H p d A) : ∀ a ∈ A, F a = none ∧ ∃ u, H a = some u ∧ IsD u := by
  cases d with
  | list ds => obtain ⟨xs, e, k⟩ := t; exact k.nn
  | tuple ds => obtain ⟨xs, e, k⟩ := t; exact k.nn
  | dict ds => obtain ⟨xs, _, _, e, _, k⟩ := t; exact k.nn
  | _ => exact t.elim
theorem Tr.nn {F H : Hp} {v : V} {d : D} {A : List Addr} (t : Tr F H v d A) : ∀ a ∈ A, F a = none ∧ ∃ u, H a = some u ∧ IsD u := by
  obtain ⟨p, A', rfl, n, rfl, h, t⟩ := t
  intro a ha
  rcases List.mem_cons.mp ha with rfl | ha
  · exact ⟨n, t.som⟩
  · exact t.kids a ha
theorem TrR.mono {F F' H H' : Hp} (f : Same F F') {p : Addr} {d : D} {A : List Addr} (t : TrR F H p d A) (hp : H' p = H p) (h : ∀ a ∈ A, F' a = none ∧ H' a = H a) : TrR F' H' p d A := by
  cases d with
  | list ds => obtain ⟨xs, e, k⟩ := t; exact ⟨xs, hp.trans e, k.mono f h⟩
  | tuple ds => obtain ⟨xs, e, k⟩ := t; exact ⟨xs, hp.trans e, k.mono f h⟩
  | dict ds => obtain ⟨kvs, kds, e1, e, e2, k⟩ := t; exact ⟨kvs, kds, e1, hp.trans e, e2, k.mono f h⟩
  | _ => exact t.elim
theorem Tr.mono {F F' H H' : Hp} (f : Same F F') {v : V} {d : D} {A : List Addr} (t : Tr F H v d A) (h : ∀ a ∈ A, F' a = none ∧ H' a = H a) : Tr F' H' v d A := by
  obtain ⟨p, A', rfl, n, rfl, q, t⟩ := t
  exact ⟨p, A', rfl, (h p (by simp)).1, rfl, q, t.mono f (h p (by simp)).2 fun a ha => h a (by simp [ha])⟩
theorem TrR.uniq {F F2 H H2 : Hp} (s : ∀ a o, H a = some o → (∀ ps, o ≠ .tbl ps) → H2 a = some o) {p : Addr} {d : D} {A B : List Addr} (t : TrR F H p d A) (t2 : TrR F2 H2 p d B) : A = B := by
  cases d with
  | list ds =>
    obtain ⟨xs, e, k⟩ := t
    obtain ⟨ys, e2, k2⟩ := t2
    have := s _ _ e (by intro ps z; cases z)
    rw [e2] at this
    cases this
    exact k.uniq k2
  | tuple ds =>
    obtain ⟨xs, e, k⟩ := t
    obtain ⟨ys, e2, k2⟩ := t2
    have := s _ _ e (by intro ps z; cases z)
    rw [e2] at this
    cases this
    exact k.uniq k2
  | dict ds =>
    obtain ⟨kvs, kds, e1, e, e3, k⟩ := t
    obtain ⟨kws, kes, f1, e2, f3, k2⟩ := t2
    have := s _ _ e (by intro ps z; cases z)
    rw [e2] at this
    cases this
    have q : kds = kes := dctT_inj (congrArg PyData.dict (e1.symm.trans f1))
    subst q
    exact k.uniq k2
  | _ => exact t.elim
theorem Tr.uniq {F F2 H H2 : Hp} (s : ∀ a o, H a = some o → (∀ ps, o ≠ .tbl ps) → H2 a = some o) {v : V} {d : D} {A B : List Addr} (t : Tr F H v d A) (t2 : Tr F2 H2 v d B) : A = B := by
  obtain ⟨p, A', rfl, n, rfl, q, t⟩ := t
  obtain ⟨p2, A2, e, n2, rfl, q2, t2⟩ := t2
  cases e
  rw [t.uniq s t2]
/-! trees that are read -/
inductive RKids (K : PySem.W.Frag) (F H : Hp) : List V → List D → Prop
  | nil : RKids K F H [] []
  | cons {v : V} {d : D} {vs : List V} {ds : List D} : (Dq F v d ∨ ∃ p, v = .ref p ∧ Rdb K F H p d) → RKids K F H vs ds → RKids K F H (v :: vs) (d :: ds)
/-- a tree that may be read -/
def RTr (K : PySem.W.Frag) (F H : Hp) (v : V) (d : D) : Prop := (Dq F v d ∨ ∃ p, v = .ref p ∧ Rdb K F H p d) ∨ ∃ p, v = .ref p ∧ match d with
  | .list ds => ∃ xs, SqL K H p xs ∧ RKids K F H xs ds
  | .tuple ds => ∃ xs, SqT K H p xs ∧ RKids K F H xs ds
  | _ => False
theorem RKids.same {K : PySem.W.Frag} {F F' H H' : Hp} (f : Same F F') (h : Ext T H H') : ∀ {vs : List V} {ds : List D}, RKids K F H vs ds → RKids K F' H' vs ds
  | _, _, .nil => .nil
  | _, _, .cons a q => .cons (by
      rcases a with a | ⟨p, e, a⟩
      · exact .inl (a.mono f)
      · exact .inr ⟨p, e, a.same f h⟩) (q.same f h)
theorem RTr.same {K : PySem.W.Frag} {F F' H H' : Hp} (f : Same F F') (h : Ext T H H') {v : V} {d : D} (r : RTr K F H v d) : RTr K F' H' v d := by
  rcases r with (a | ⟨p, e, a⟩) | ⟨p, e, a⟩
  · exact .inl (.inl (a.mono f))
  · exact .inl (.inr ⟨p, e, a.same f h⟩)
  · refine .inr ⟨p, e, ?_⟩
    cases d with
    | list ds => obtain ⟨xs, s, k⟩ := a; exact ⟨xs, seqE h s, k.same f h⟩
    | tuple ds => obtain ⟨xs, s, k⟩ := a; exact ⟨xs, SqT.same h s, k.same f h⟩
    | _ => exact a.elim
theorem Kids.rd {K : PySem.W.Frag} {F H : Hp} : ∀ {vs : List V} {ds : List D} {A : List Addr}, Kids F H vs ds A → RKids K F H vs ds
  | _, _, _, .nil => .nil
  | _, _, _, .own _ o k _ => .cons (.inr ⟨_, rfl, o.rdb⟩) k.rd
  | _, _, _, .atm a k => .cons (.inl a.dq) k.rd
def isLT : D → Bool
  | .list _ => true
  | .tuple _ => true
  | _ => false
theorem Tr.rd {K : PySem.W.Frag} {F H : Hp} {v : V} {d : D} {A : List Addr} (t : Tr F H v d A) (hd : isLT d = true) : RTr K F H v d := by
  obtain ⟨p, A', rfl, n, rfl, q, t⟩ := t
  refine .inr ⟨p, rfl, ?_⟩
  cases d with
  | list ds => obtain ⟨xs, e, k⟩ := t; exact ⟨xs, .of e, k.rd⟩
  | tuple ds => obtain ⟨xs, e, k⟩ := t; exact ⟨xs, .of e, k.rd⟩
  | _ => simp [isLT] at hd

/-! ### modes -/
/-- fz: stands still; st: may be read as long as the def runs; rd: may be read now; nw: a new root, or an atom; rt: a tree, read now; n2: a new tree -/
inductive Md where
  | fz | st | rd | nw | rt | n2
def Md.sh : Md → Bool
  | .rt => false
  | .n2 => false
  | _ => true
structure B where
  F : Hp
  H : Hp
  T : List (Addr × Str)
def VR (m : Md) (K : PySem.W.Frag) (b : B) (F H : Hp) (v : V) (d : D) : Prop := match m with
  | .fz => Dq F v d
  | .st => Dq F v d ∨ ∃ p, v = .ref p ∧ Rdb K b.F b.H p d
  | .rd => Dq F v d ∨ ∃ p, v = .ref p ∧ Rdb K F H p d
  | .nw => (∃ p, v = .ref p ∧ F p = none ∧ Own F H p d) ∨ Atm v d
  | .rt => RTr K F H v d
  | .n2 => ∃ A, Tr F H v d A
def Fr (m : Md) (H F' H' : Hp) (v : V) (d : D) : Prop := match m with
  | .nw => ∀ p, v = .ref p → Nn H p
  | .n2 => ∀ A, Tr F' H' v d A → ∀ a ∈ A, Nn H a
  | _ => True
theorem Tr.grow {F H F' H' : Hp} (g : Grow T F H F' H') {v : V} {d : D} {A : List Addr} (t : Tr F H v d A) : Tr F' H' v d A :=
  t.mono g.f fun a ha => by
    obtain ⟨n, u, e, i⟩ := t.nn a ha
    exact ⟨(g.k a u e (isD_n i)).trans n, (g.h.ap e (isD_n i)).trans e.symm⟩
theorem VR.grow {m : Md} {K : PySem.W.Frag} {b : B} {F H F' H' : Hp} {v : V} {d : D} (g : Grow b.T F H F' H') (r : VR m K b F H v d) : VR m K b F' H' v d := by
  cases m with
  | fz => exact Dq.mono g.f r
  | st =>
    rcases r with r | r
    · exact .inl (r.mono g.f)
    · exact .inr r
  | rd =>
    rcases r with r | ⟨p, e, r⟩
    · exact .inl (r.mono g.f)
    · exact .inr ⟨p, e, r.same g.f g.h⟩
  | nw =>
    rcases r with ⟨p, e, n, o⟩ | r
    · obtain ⟨u, eu, iu⟩ := o.some
      exact .inl ⟨p, e, (g.k p u eu (isD_n iu)).trans n, o.same g.f g.h⟩
    · exact .inr r
  | rt => exact RTr.same g.f g.h r
  | n2 =>
    obtain ⟨A, t⟩ := r
    exact ⟨A, t.grow g⟩
theorem VR.rd {m : Md} {K : PySem.W.Frag} {b : B} {F H : Hp} {v : V} {d : D} (hm : m.sh = true) (g : Grow b.T b.F b.H F H) (r : VR m K b F H v d) : VR .rd K b F H v d := by
  cases m with
  | fz => exact .inl r
  | st =>
    rcases r with r | ⟨p, e, r⟩
    · exact .inl r
    · exact .inr ⟨p, e, r.same g.f g.h⟩
  | rd => exact r
  | nw =>
    rcases r with ⟨p, e, n, o⟩ | r
    · exact .inr ⟨p, e, o.rdb⟩
    · exact .inl r.dq
  | rt => cases hm
  | n2 => cases hm
theorem VR.rt {m : Md} {K : PySem.W.Frag} {b : B} {F H : Hp} {v : V} {d : D} (g : Grow b.T b.F b.H F H) (r : VR m K b F H v d) (hd : m = .n2 → isLT d = true) : VR .rt K b F H v d := by
  cases m with
  | rt => exact r
  | n2 =>
    obtain ⟨A, t⟩ := r
    exact t.rd (hd rfl)
  | fz => exact .inl (VR.rd (m := .fz) rfl g r)
  | st => exact .inl (VR.rd (m := .st) rfl g r)
  | rd => exact .inl (VR.rd (m := .rd) rfl g r)
  | nw => exact .inl (VR.rd (m := .nw) rfl g r)
theorem Fr.back {m : Md} {H H' F2 H2 : Hp} {v : V} {d : D} (e : Ext T H H') (h : Fr m H' F2 H2 v d) : Fr m H F2 H2 v d := by
  cases m with
  | nw => exact fun p q => e.nn (h p q)
  | n2 => exact fun A t a ha => e.nn (h A t a ha)
  | _ => trivial

/-! what a readable value is -/
section
variable {K : PySem.W.Frag} {b : B} {F H : Hp} {v : V}
theorem vr_int {i : Int} (r : VR .rd K b F H v (.int i)) : v = .int i := by
  rcases r with r | ⟨p, e, r⟩
  · cases r
    rfl
  · exact r.elim
theorem vr_bl {i : Bool} (r : VR .rd K b F H v (.bool i)) : v = .bl i := by
  rcases r with r | ⟨p, e, r⟩
  · cases r
    rfl
  · exact r.elim
theorem vr_str {i : Str} (r : VR .rd K b F H v (.str i)) : v = .str i := by
  rcases r with r | ⟨p, e, r⟩
  · cases r
    rfl
  · exact r.elim
theorem vr_non (r : VR .rd K b F H v .none) : v = .non := by
  rcases r with r | ⟨p, e, r⟩
  · cases r
    rfl
  · exact r.elim
theorem vr_lst {ds : List D} (s : Same F H) (r : VR .rd K b F H v (.list ds)) : ∃ p xs, v = .ref p ∧ SqL K H p xs ∧ DqA F xs ds := by
  rcases r with r | ⟨p, e, xs, r, q⟩
  · cases r with
    | lst e q => exact ⟨_, _, rfl, .of (s _ _ e), q⟩
  · exact ⟨p, xs, e, r, q⟩
theorem vr_tup {ds : List D} (s : Same F H) (r : VR .rd K b F H v (.tuple ds)) : ∃ p xs, v = .ref p ∧ SqT K H p xs ∧ DqA F xs ds := by
  rcases r with r | ⟨p, e, xs, r, q⟩
  · cases r with
    | tup e q => exact ⟨_, _, rfl, .of (s _ _ e), q⟩
  · exact ⟨p, xs, e, r, q⟩
/-- a locked dict -/
def LkD (F H : Hp) (p : Addr) (ps : List (D × D)) : Prop := (∃ (o : Obj) (kvs : List (List Key × V)) (kds : List (List Key × D)), ps = ((.bool true, .none) :: kds.map fun p => (keyT p.1, p.2)) ∧ H p = some (.frz o (.dT kvs)) ∧ kvs.map (·.1) = kds.map (·.1) ∧ DqA F (kvs.map (·.2)) (kds.map (·.2))) ∨
  ∃ (o : Obj) (kvs : List (Key × V)) (kds : List (Key × D)), ps = ((.bool false, .none) :: kds.map fun p => (keyD p.1, p.2)) ∧ H p = some (.frz o (.dK kvs)) ∧ kvs.map (·.1) = kds.map (·.1) ∧ DqA F (kvs.map (·.2)) (kds.map (·.2))
theorem vr_dict {kds : List (D × D)} (s : Same F H) (r : VR .rd K b F H v (.dict kds)) : ∃ p, v = .ref p ∧ (Own F H p (.dict kds) ∨ LkD F H p kds) := by
  rcases r with r | ⟨p, e, r⟩
  · cases r with
    | dT e k q => exact ⟨_, rfl, .inl (.inl ⟨_, _, rfl, s _ _ e, k, q⟩)⟩
    | dK e k q => exact ⟨_, rfl, .inl (.inr ⟨_, _, rfl, s _ _ e, k, q⟩)⟩
    | dL e k q => exact ⟨_, rfl, .inr (.inl ⟨_, _, _, rfl, s _ _ e, k, q⟩)⟩
    | dM e k q => exact ⟨_, rfl, .inr (.inr ⟨_, _, _, rfl, s _ _ e, k, q⟩)⟩
  · exact ⟨p, e, .inl r⟩
end
mutual
/-- data without dicts -/
def flat : D → Bool
  | .list ds => flatA ds
  | .tuple ds => flatA ds
  | .dict _ => false
  | _ => true
def flatA : List D → Bool
  | [] => true
  | d :: ds => flat d && flatA ds
end
mutual
theorem Dq.dp {K : PySem.W.Frag} {F H : Hp} (s : Same F H) : ∀ {d : D} {v : V}, Dq F v d → flat d = true → Dp K H v d
  | .none, _, h, _ => by cases h; exact .non
  | .bool _, _, h, _ => by cases h; exact .bl _
  | .int _, _, h, _ => by cases h; exact .int _
  | .str _, _, h, _ => by cases h; exact .str _
  | .list ds, _, h, f => by
    cases h with
    | lst e q => exact .lst (.of (s _ _ e)) (DqA.dp s q (by simpa [flat] using f))
  | .tuple ds, _, h, f => by
    cases h with
    | tup e q => exact .tup (.of (s _ _ e)) (DqA.dp s q (by simpa [flat] using f))
  | .dict _, _, _, f => by simp [flat] at f
theorem DqA.dp {K : PySem.W.Frag} {F H : Hp} (s : Same F H) : ∀ {ds : List D} {vs : List V}, DqA F vs ds → flatA ds = true → DpAll K H vs ds
  | [], _, h, _ => by cases h; exact .nil
  | d :: ds, _, h, f => by
    simp only [flatA, Bool.and_eq_true] at f
    cases h with
    | cons a q => exact .cons (Dq.dp s a f.1) (DqA.dp s q f.2)
end
theorem VR.dp {K : PySem.W.Frag} {b : B} {F H : Hp} {v : V} {d : D} (s : Same F H) (r : VR .rd K b F H v d) (f : flat d = true) : Dp K H v d := by
  rcases r with r | ⟨p, e, r⟩
  · exact r.dp s f
  · subst e
    cases d with
    | list ds =>
      obtain ⟨xs, e, q⟩ := r
      exact .lst e (q.dp s (by simpa [flat] using f))
    | tuple ds =>
      obtain ⟨xs, e, q⟩ := r
      exact .tup e (q.dp s (by simpa [flat] using f))
    | dict _ => simp [flat] at f
    | _ => exact r.elim

/-! ### the slots -/
inductive Sl where
  | un | fz (d : D) | ow (d : D) | ln (d : D) | at (a : Addr) | tr (v : V) (d : D) | lt (d : D)
/-- what a slot holds; A: the places that may be changed through it -/
def SlF (K : PySem.W.Frag) (b : B) (F H : Hp) (x : Option (Option V)) (s : Sl) (A : List Addr) : Prop := match s with
  | .un => A = []
  | .fz d => A = [] ∧ ∃ v, x = some (some v) ∧ Dq F v d
  | .ow d => ∃ v, x = some (some v) ∧ ((A = [] ∧ Atm v d) ∨ ∃ p, v = .ref p ∧ A = [p] ∧ F p = none ∧ Nn b.H p ∧ Own F H p d)
  | .ln d => A = [] ∧ ∃ v, x = some (some v) ∧ VR .st K b F H v d
  | .at a => A = [] ∧ x = some (some (.ref a))
  | .tr v d => x = some (some v) ∧ Tr F H v d A ∧ ∀ a ∈ A, Nn b.H a
  | .lt d => A = [] ∧ ∃ v, x = some (some v) ∧ RTr K b.F b.H v d
def SlOk (K : PySem.W.Frag) (b : B) (F H : Hp) (x : Option (Option V)) : Sl → Prop
  | .un => True
  | .fz d => ∃ v, x = some (some v) ∧ Dq F v d
  | .ow d => ∃ v, x = some (some v) ∧ ((∃ p, v = .ref p ∧ F p = none ∧ Nn b.H p ∧ Own F H p d) ∨ Atm v d)
  | .ln d => ∃ v, x = some (some v) ∧ VR .st K b F H v d
  | .at a => x = some (some (.ref a))
  | .tr v d => x = some (some v) ∧ ∃ A, Tr F H v d A ∧ ∀ a ∈ A, Nn b.H a
  | .lt d => ∃ v, x = some (some v) ∧ RTr K b.F b.H v d
def ovr (fp : Nat → List Addr) (p : Nat → Bool) (A : List Addr) : Nat → List Addr := fun j => if p j = true then A else fp j
theorem ovr_pos {fp : Nat → List Addr} {p : Nat → Bool} {A : List Addr} {j : Nat} (h : p j = true) : ovr fp p A j = A := by unfold ovr; rw [if_pos h]
theorem ovr_neg {fp : Nat → List Addr} {p : Nat → Bool} {A : List Addr} {j : Nat} (h : ¬ p j = true) : ovr fp p A j = fp j := by unfold ovr; rw [if_neg h]
structure Rep (K : PySem.W.Frag) (b : B) (F H : Hp) (σ : L2.St) (ρ : List Sl) : Prop where
  g : Grow b.T b.F b.H F H
  tt : LamX.Tabs b.T H
  len : σ.length = ρ.length
  ex : ∃ fp : Nat → List Addr, (∀ (i : Nat) (s : Sl), ρ[i]? = some s → SlF K b F H σ[i]? s (fp i)) ∧ (∀ i, ρ[i]? = none → fp i = []) ∧ ∀ i j a, i ≠ j → a ∈ fp i → a ∉ fp j
section
variable {K : PySem.W.Frag} {b : B} {F H F' H' : Hp} {σ : L2.St} {ρ : List Sl}
theorem SlF.ok {x : Option (Option V)} {s : Sl} {A : List Addr} (h : SlF K b F H x s A) : SlOk K b F H x s := by
  cases s with
  | un => trivial
  | fz d => exact h.2
  | ow d =>
    obtain ⟨v, e, h⟩ := h
    refine ⟨v, e, ?_⟩
    rcases h with ⟨_, h⟩ | ⟨p, e1, _, h⟩
    · exact .inr h
    · exact .inl ⟨p, e1, h⟩
  | ln d => exact h.2
  | «at» a => exact h.2
  | tr v d => exact ⟨h.1, A, h.2⟩
  | lt d => exact h.2
theorem SlF.mem {x : Option (Option V)} {s : Sl} {A : List Addr} (h : SlF K b F H x s A) : ∀ a ∈ A, F a = none ∧ Nn b.H a ∧ ∃ u, H a = some u ∧ IsD u := by
  intro a ha
  cases s with
  | un => rw [h] at ha; simp at ha
  | fz d => rw [h.1] at ha; simp at ha
  | ow d =>
    obtain ⟨v, e, h⟩ := h
    rcases h with ⟨h, _⟩ | ⟨p, e1, e2, n, n2, o⟩
    · rw [h] at ha; simp at ha
    · rw [e2, List.mem_singleton] at ha
      subst ha
      exact ⟨n, n2, o.some⟩
  | ln d => rw [h.1] at ha; simp at ha
  | «at» a => rw [h.1] at ha; simp at ha
  | tr v d =>
    obtain ⟨n, u⟩ := h.2.1.nn a ha
    exact ⟨n, h.2.2 a ha, u⟩
  | lt d => rw [h.1] at ha; simp at ha
theorem Rep.sl (R : Rep K b F H σ ρ) (i : Nat) (s : Sl) (h : ρ[i]? = some s) : SlOk K b F H σ[i]? s := by
  obtain ⟨fp, f1, _, _⟩ := R.ex
  exact (f1 i s h).ok
/-- what a slot holds stays where its places stay -/
theorem SlF.mono {x : Option (Option V)} {s : Sl} {A : List Addr} (h : SlF K b F H x s A) (f : Same F F') (hA : ∀ a ∈ A, F' a = none ∧ H' a = H a) : SlF K b F' H' x s A := by
  cases s with
  | un => exact h
  | fz d =>
    obtain ⟨e, v, e1, q⟩ := h
    exact ⟨e, v, e1, q.mono f⟩
  | ow d =>
    obtain ⟨v, e, h⟩ := h
    refine ⟨v, e, ?_⟩
    rcases h with h | ⟨p, e1, e2, n, n2, o⟩
    · exact .inl h
    · subst e2
      exact .inr ⟨p, e1, rfl, (hA p (by simp)).1, n2, o.mono f (hA p (by simp)).2⟩
  | ln d =>
    obtain ⟨e, v, e1, q⟩ := h
    refine ⟨e, v, e1, ?_⟩
    rcases q with q | q
    · exact .inl (q.mono f)
    · exact .inr q
  | «at» a => exact h
  | tr v d => exact ⟨h.1, h.2.1.mono f hA, h.2.2⟩
  | lt d => exact h
theorem SlF.grow {x : Option (Option V)} {s : Sl} {A : List Addr} (h : SlF K b F H x s A) (g : Grow b.T F H F' H') : SlF K b F' H' x s A :=
  h.mono g.f fun a ha => by
    obtain ⟨n, _, u, e, i⟩ := h.mem a ha
    exact ⟨(g.k a u e (isD_n i)).trans n, (g.h.ap e (isD_n i)).trans e.symm⟩
theorem Rep.grow (R : Rep K b F H σ ρ) (g : Grow b.T F H F' H') : Rep K b F' H' σ ρ := by
  obtain ⟨fp, f1, f2, f3⟩ := R.ex
  exact ⟨R.g.trans g, g.h.t R.tt, R.len, fp, fun i s e => (f1 i s e).grow g, f2, f3⟩
theorem Rep.same (R : Rep K b F H σ ρ) : Same F H := R.g.s
/-- an object that a slot may change is written -/
theorem Rep.chg (R : Rep K b F H σ ρ) (g : Grow b.T F H F' H') {i : Nat} {q : Addr} {s s' : Sl} {o : HO} (h : ρ[i]? = some s)
    (hn : ∀ A, SlF K b F H σ[i]? s A → SlF K b F' H' σ[i]? s A → q ∈ A ∧ ∃ A', SlF K b F' (upd H' q o) σ[i]? s' A' ∧ ∀ a ∈ A', a ∈ A ∨ Nn H a) (hk : ∀ k : List Key, o ≠ .tup (k.map kV) := by intro k z; cases z) : Rep K b F' (upd H' q o) σ (ρ.set i s') := by
  obtain ⟨fp, f1, f2, f3⟩ := R.ex
  obtain ⟨hq, A', ok, hA⟩ := hn _ (f1 i s h) ((f1 i s h).grow g)
  have hi : i < ρ.length := (List.getElem?_eq_some_iff.mp h).1
  obtain ⟨n, n2, u, eu, iu⟩ := (f1 i s h).mem q hq
  have eu' : H' q = some u := g.h.ap eu (isD_n iu)
  have n' : F' q = none := (g.k q u eu (isD_n iu)).trans n
  have hd : ∀ w, H' q = some w → IsD w := fun w e => by rw [eu'] at e; cases e; exact iu
  refine ⟨(R.g.trans g).put o n2 n' hd hk, tabs_put (g.h.t R.tt) _ hd, by rw [List.length_set]; exact R.len, ovr fp (fun j => decide (j = i)) A', fun j t e => ?_, fun j e => ?_, fun j k a hjk h1 h2 => ?_⟩
  · by_cases hj : j = i
    · subst hj
      rw [List.getElem?_set_self hi] at e
      cases e
      rw [ovr_pos (by simp)]
      exact ok
    · rw [List.getElem?_set_ne (Ne.symm hj)] at e
      rw [ovr_neg (by simpa using hj)]
      have q0 := (f1 j t e).grow g
      refine q0.mono (Same.refl _) fun a ha => ⟨(q0.mem a ha).1, ?_⟩
      rw [upd_ne]
      rintro rfl
      exact f3 j i a hj ha hq
  · have hj : j ≠ i := by
      rintro rfl
      rw [List.getElem?_set_self hi] at e
      cases e
    rw [List.getElem?_set_ne (Ne.symm hj)] at e
    rw [ovr_neg (by simpa using hj)]
    exact f2 j e
  · have out : ∀ m, m ≠ i → a ∈ fp m → a ∈ A' → False := fun m hm h1 h2 => by
      rcases hA a h2 with h2 | h2
      · exact f3 m i a hm h1 h2
      · cases e : ρ[m]? with
        | none => rw [f2 m e] at h1; simp at h1
        | some t =>
          obtain ⟨_, _, u, e, i⟩ := (f1 m t e).mem a h1
          obtain ⟨ps, z⟩ := h2 u e
          exact isD_n i ps z
    by_cases hj : j = i
    · rw [ovr_pos (by simpa using hj)] at h1
      by_cases hk : k = i
      · exact hjk (hj.trans hk.symm)
      · rw [ovr_neg (by simpa using hk)] at h2
        exact out k hk h2 h1
    · rw [ovr_neg (by simpa using hj)] at h1
      by_cases hk : k = i
      · rw [ovr_pos (by simpa using hk)] at h2
        exact out j hj h1 h2
      · rw [ovr_neg (by simpa using hk)] at h2
        exact f3 j k a hjk h1 h2
/-- an own root is written -/
theorem Rep.write (R : Rep K b F H σ ρ) {i : Nat} {p : Addr} {d e : D} {o : HO} (h : ρ[i]? = some (.ow d)) (hs : σ[i]? = some (some (.ref p))) (hn : Own F (upd H p o) p e) : Rep K b F (upd H p o) σ (ρ.set i (.ow e)) := by
  refine R.chg (hk := fun k z => hn.notup k (by rw [upd_same, z])) (Grow.refl R.g) h fun A q _ => ?_
  obtain ⟨v, e1, q⟩ := q
  rw [hs] at e1
  cases e1
  rcases q with ⟨_, q⟩ | ⟨p', e2, rfl, n, n2, ow⟩
  · exact (atm_ref q).elim
  · cases e2
    exact ⟨by simp, [p], ⟨_, hs, .inr ⟨p, rfl, rfl, n, n2, hn⟩⟩, fun a ha => .inl ha⟩
/-- an own list, an own dict -/
theorem Rep.ow (R : Rep K b F H σ ρ) {i : Nat} {d : D} (h : ρ[i]? = some (.ow d)) (ha : atmB d = false) : ∃ p, σ[i]? = some (some (.ref p)) ∧ F p = none ∧ Nn b.H p ∧ Own F H p d := by
  obtain ⟨v, e, q⟩ := R.sl i _ h
  rcases q with ⟨p, rfl, q⟩ | q
  · exact ⟨p, e, q⟩
  · unfold Atm at q
    cases q <;> first | (simp [atmB] at ha; done) | (rename_i z _; cases z) | (rename_i z _ _; cases z)
/-- an object that no slot owns is written -/
theorem Rep.aside (R : Rep K b F H σ ρ) {p : Addr} {o : HO} (n : F p = none) (n2 : Nn b.H p) (hd : ∀ u, H p = some u → IsD u) (hn : ∀ fp : Nat → List Addr, (∀ (i : Nat) (s : Sl), ρ[i]? = some s → SlF K b F H σ[i]? s (fp i)) → ∀ (i : Nat) (s : Sl), ρ[i]? = some s → p ∉ fp i) (hk : ∀ k : List Key, o ≠ .tup (k.map kV) := by intro k z; cases z) : Rep K b F (upd H p o) σ ρ := by
  obtain ⟨fp, f1, f2, f3⟩ := R.ex
  refine ⟨R.g.put o n2 n hd hk, tabs_put R.tt _ hd, R.len, fp, fun j s e => ?_, f2, f3⟩
  refine (f1 j s e).mono (Same.refl _) fun a ha => ⟨((f1 j s e).mem a ha).1, upd_ne ?_⟩
  rintro rfl
  exact hn fp f1 j s e ha
/-- two tellings of a slot's places are one -/
theorem SlF.uniq {F2 H2 : Hp} (s : ∀ a o, H a = some o → (∀ ps, o ≠ .tbl ps) → H2 a = some o) {x : Option (Option V)} {t : Sl} {A A' : List Addr} (h : SlF K b F H x t A) (h2 : SlF K b F2 H2 x t A') : A = A' := by
  cases t with
  | un => rw [h, h2]
  | fz d => rw [h.1, h2.1]
  | ow d =>
    obtain ⟨v, e, h⟩ := h
    obtain ⟨v2, e2, h2⟩ := h2
    rw [e] at e2
    cases e2
    rcases h with ⟨h, a1⟩ | ⟨p, e1, h, _, _, o⟩ <;> rcases h2 with ⟨h2, a2⟩ | ⟨p2, e2, h2, _, _, o2⟩
    · rw [h, h2]
    · exact (o2.noatm a1).elim
    · exact (o.noatm a2).elim
    · subst e1
      cases e2
      rw [h, h2]
  | ln d => rw [h.1, h2.1]
  | «at» a => rw [h.1, h2.1]
  | tr v d => exact h.2.1.uniq s h2.2.1
  | lt d => rw [h.1, h2.1]
/-- what is new in H is no place of a slot -/
theorem Rep.owner (R : Rep K b F H σ ρ) {p : Addr} (h : Nn H p) {F' H' : Hp} (g : Ext b.T H H') : ∀ fp : Nat → List Addr, (∀ (i : Nat) (s : Sl), ρ[i]? = some s → SlF K b F' H' σ[i]? s (fp i)) → ∀ (i : Nat) (s : Sl), ρ[i]? = some s → p ∉ fp i := fun fp hf i s e hp => by
  obtain ⟨fp0, f1, _, _⟩ := R.ex
  have q := (f1 i s e).uniq (fun a o h n => g.ap h n) (hf i s e)
  rw [← q] at hp
  obtain ⟨_, _, u, eu, iu⟩ := (f1 i s e).mem p hp
  obtain ⟨ps, z⟩ := h u eu
  exact isD_n iu ps z
/-- a slot is stored -/
theorem Rep.store (R : Rep K b F H σ ρ) (g : Grow b.T F H F' H') (i : Nat) (v : Option V) (s : Sl) {A : List Addr} (ok : SlF K b F' H' (some v) s A) (fr : ∀ a ∈ A, Nn H a) : Rep K b F' H' (σ.set i v) (ρ.set i s) := by
  obtain ⟨fp, f1, f2, f3⟩ := R.ex
  by_cases hi : i < ρ.length
  · refine ⟨R.g.trans g, g.h.t R.tt, by rw [List.length_set, List.length_set]; exact R.len, ovr fp (fun j => decide (j = i)) A, fun j t e => ?_, fun j e => ?_, fun j k a hjk h1 h2 => ?_⟩
    · by_cases hj : j = i
      · subst hj
        rw [List.getElem?_set_self hi] at e
        cases e
        rw [ovr_pos (by simp), List.getElem?_set_self (by rw [R.len]; exact hi)]
        exact ok
      · rw [List.getElem?_set_ne (Ne.symm hj)] at e ⊢
        rw [ovr_neg (by simpa using hj)]
        exact (f1 j t e).grow g
    · have hj : j ≠ i := by
        rintro rfl
        rw [List.getElem?_set_self hi] at e
        cases e
      rw [List.getElem?_set_ne (Ne.symm hj)] at e
      rw [ovr_neg (by simpa using hj)]
      exact f2 j e
    · have out : ∀ m, a ∈ fp m → a ∈ A → False := fun m h1 h2 => by
        cases e : ρ[m]? with
        | none => rw [f2 m e] at h1; simp at h1
        | some t =>
          obtain ⟨_, _, u, e, i⟩ := (f1 m t e).mem a h1
          obtain ⟨ps, z⟩ := fr a h2 u e
          exact isD_n i ps z
      by_cases hj : j = i
      · rw [ovr_pos (by simpa using hj)] at h1
        by_cases hk : k = i
        · exact hjk (hj.trans hk.symm)
        · rw [ovr_neg (by simpa using hk)] at h2
          exact out k h2 h1
      · rw [ovr_neg (by simpa using hj)] at h1
        by_cases hk : k = i
        · rw [ovr_pos (by simpa using hk)] at h2
          exact out j h1 h2
        · rw [ovr_neg (by simpa using hk)] at h2
          exact f3 j k a hjk h1 h2
  · rw [List.set_eq_of_length_le (by rw [R.len]; omega), List.set_eq_of_length_le (by omega)]
    exact R.grow g
/-- .. one that may not be changed -/
theorem Rep.setX (R : Rep K b F H σ ρ) (i : Nat) (v : Option V) (s : Sl) (ok : SlF K b F H (some v) s []) : Rep K b F H (σ.set i v) (ρ.set i s) :=
  R.store (.refl R.g) i v s ok fun _ h => by simp at h
/-- .. data that stands still -/
theorem Rep.setF (R : Rep K b F H σ ρ) {v : V} {d : D} (i : Nat) (q : Dq F v d) : Rep K b F H (σ.set i (some v)) (ρ.set i (.fz d)) := R.setX i _ _ ⟨rfl, v, rfl, q⟩
/-- slot states alone -/
theorem Rep.slot (R : Rep K b F H σ ρ) (g : Same F F') (gg : Grow b.T b.F b.H F' H) {i : Nat} {s s' : Sl} (h : ρ[i]? = some s)
    (hn : ∀ A, SlF K b F H σ[i]? s A → (∀ a, a ∉ A → F' a = F a) ∧ SlF K b F' H σ[i]? s' []) : Rep K b F' H σ (ρ.set i s') := by
  obtain ⟨fp, f1, f2, f3⟩ := R.ex
  have hi : i < ρ.length := (List.getElem?_eq_some_iff.mp h).1
  obtain ⟨ho, ok⟩ := hn _ (f1 i s h)
  refine ⟨gg, R.tt, by rw [List.length_set]; exact R.len, ovr fp (fun j => decide (j = i)) [], fun j t e => ?_, fun j e => ?_, fun j k a hjk h1 h2 => ?_⟩
  · by_cases hj : j = i
    · subst hj
      rw [List.getElem?_set_self hi] at e
      cases e
      rw [ovr_pos (by simp)]
      exact ok
    · rw [List.getElem?_set_ne (Ne.symm hj)] at e
      rw [ovr_neg (by simpa using hj)]
      refine (f1 j t e).mono g fun a ha => ⟨?_, rfl⟩
      rw [ho a fun q => f3 j i a hj ha q]
      exact ((f1 j t e).mem a ha).1
  · have hj : j ≠ i := by
      rintro rfl
      rw [List.getElem?_set_self hi] at e
      cases e
    rw [List.getElem?_set_ne (Ne.symm hj)] at e
    rw [ovr_neg (by simpa using hj)]
    exact f2 j e
  · by_cases hj : j = i
    · rw [ovr_pos (by simpa using hj)] at h1
      simp at h1
    · rw [ovr_neg (by simpa using hj)] at h1
      by_cases hk : k = i
      · rw [ovr_pos (by simpa using hk)] at h2
        simp at h2
      · rw [ovr_neg (by simpa using hk)] at h2
        exact f3 j k a hjk h1 h2
/-- some places stand still from now on -/
def sealA (F H : Hp) (A : List Addr) : Hp := fun a => if a ∈ A then H a else F a
theorem seal_in {A : List Addr} {a : Addr} (h : a ∈ A) : sealA F H A a = H a := by unfold sealA; rw [if_pos h]
theorem seal_out {A : List Addr} {a : Addr} (h : a ∉ A) : sealA F H A a = F a := by unfold sealA; rw [if_neg h]
theorem seal_same {A : List Addr} (h : ∀ a ∈ A, F a = none) : Same F (sealA F H A) := fun a u e => by
  rw [seal_out fun ha => by
    rw [h a ha] at e
    cases e]
  exact e
theorem seal_grow {F0 H0 : Hp} {T : List (Addr × Str)} (g : Grow T F0 H0 F H) {A : List Addr} (h : ∀ a ∈ A, F a = none ∧ Nn H0 a ∧ ∃ u, H a = some u ∧ IsD u) : Grow T F0 H0 (sealA F H A) H := by
  have sf := seal_same (H := H) fun a ha => (h a ha).1
  refine ⟨g.h, g.f.trans sf, fun a x e => ?_, fun a x e nt => ?_, fun a ps e => ?_, fun a k e => ?_⟩
  rotate_right
  · by_cases q : a ∈ A
    · rw [seal_in q]
      exact e
    · rw [seal_out q]
      exact g.c a k e
  · by_cases q : a ∈ A
    · rw [seal_in q] at e
      exact e
    · rw [seal_out q] at e
      exact g.s a x e
  · rw [seal_out fun q => by
      obtain ⟨ps, z⟩ := (h a q).2.1 x e
      exact nt ps z]
    exact g.k a x e nt
  · by_cases q : a ∈ A
    · rw [seal_in q] at e
      obtain ⟨_, _, u, e2, i⟩ := h a q
      rw [e2] at e
      exact isD_n i ps (Option.some.inj e)
    · rw [seal_out q] at e
      exact g.n a ps e
theorem Own.seal {p : Addr} {d : D} (o : Own F H p d) (s : Same F F') (e : F' p = H p) : Dq F' (.ref p) d := (o.mono (F' := F') (H' := F') s e).dq
theorem Kids.seal (s : Same F F') : ∀ {vs : List V} {ds : List D} {A : List Addr}, Kids F H vs ds A → (∀ a ∈ A, F' a = H a) → DqA F' vs ds
  | _, _, _, .nil, _ => .nil
  | _, _, _, .own _ o k _, h => .cons (o.seal s (h _ (by simp))) (k.seal s fun a ha => h a (by simp [ha]))
  | _, _, _, .atm a k, h => .cons a.dq (k.seal s h)
theorem Tr.seal (s : Same F F') {v : V} {d : D} {A : List Addr} (t : Tr F H v d A) (h : ∀ a ∈ A, F' a = H a) : Dq F' v d := by
  obtain ⟨p, A', rfl, n, rfl, q, t⟩ := t
  have hp := h p (by simp)
  have hk : ∀ a ∈ A', F' a = H a := fun a ha => h a (by simp [ha])
  cases d with
  | list ds => obtain ⟨xs, e, k⟩ := t; exact .lst (hp.trans e) (k.seal s hk)
  | tuple ds => obtain ⟨xs, e, k⟩ := t; exact .tup (hp.trans e) (k.seal s hk)
  | dict ds =>
    obtain ⟨kvs, kds, rfl, e, e2, k⟩ := t
    exact .dT (hp.trans e) e2 (k.seal s hk)
  | _ => exact t.elim
/-- an own root, or a tree, is to stand still from now on -/
theorem Rep.freeze (R : Rep K b F H σ ρ) {i : Nat} {d : D} {s : Sl} (h : ρ[i]? = some s) (hs : s = .ow d ∨ ∃ v, s = .tr v d) : ∃ F', Same F F' ∧ Rep K b F' H σ (ρ.set i (.fz d)) := by
  obtain ⟨fp, f1, f2, f3⟩ := R.ex
  have q := f1 i s h
  have hm := q.mem
  have sf := seal_same (H := H) fun a ha => (hm a ha).1
  refine ⟨sealA F H (fp i), sf, R.slot sf (seal_grow R.g hm) h fun A hA => ?_⟩
  have eA : A = fp i := hA.uniq (fun a o e _ => e) q
  subst eA
  refine ⟨fun a ha => seal_out ha, rfl, ?_⟩
  rcases hs with rfl | ⟨v, rfl⟩
  · obtain ⟨v, e, q⟩ := q
    refine ⟨v, e, ?_⟩
    rcases q with ⟨_, q⟩ | ⟨p, rfl, e2, n, n2, o⟩
    · exact q.dq
    · exact o.seal sf (seal_in (by rw [e2]; simp))
  · exact ⟨v, q.1, q.2.1.seal sf fun a ha => seal_in ha⟩
/-- slots forgotten -/
def fgt : List Nat → List Sl → List Sl
  | [], ρ => ρ
  | i :: is, ρ => (fgt is ρ).set i .un
theorem fgt_len : ∀ (is : List Nat) (ρ : List Sl), (fgt is ρ).length = ρ.length
  | [], _ => rfl
  | i :: is, ρ => by
    unfold fgt
    rw [List.length_set]
    exact fgt_len is ρ
theorem fgt_some : ∀ {is : List Nat} {ρ : List Sl} {j : Nat} {s : Sl}, (fgt is ρ)[j]? = some s → s = .un ∨ (ρ[j]? = some s ∧ j ∉ is)
  | [], _, _, _, h => .inr ⟨h, by simp⟩
  | i :: is, ρ, j, s, h => by
    unfold fgt at h
    by_cases hj : i = j
    · subst hj
      by_cases hi : i < (fgt is ρ).length
      · rw [List.getElem?_set_self hi] at h
        cases h
        exact .inl rfl
      · rw [List.getElem?_eq_none (by rw [List.length_set]; omega)] at h
        cases h
    · rw [List.getElem?_set_ne hj] at h
      rcases fgt_some h with a | ⟨a, c⟩
      · exact .inl a
      · exact .inr ⟨a, by simp only [List.mem_cons, not_or]; exact ⟨fun e => hj e.symm, c⟩⟩
theorem fgt_in : ∀ {is : List Nat} {ρ : List Sl} {j : Nat} {s : Sl}, (fgt is ρ)[j]? = some s → j ∈ is → s = .un
  | i :: is, ρ, j, s, h, hj => by
    unfold fgt at h
    by_cases e : i = j
    · subst e
      by_cases hi : i < (fgt is ρ).length
      · rw [List.getElem?_set_self hi] at h
        cases h
        rfl
      · rw [List.getElem?_eq_none (by rw [List.length_set]; omega)] at h
        cases h
    · rw [List.getElem?_set_ne e] at h
      exact fgt_in h (by simpa [Ne.symm e] using hj)
/-- .. whatever they hold -/
theorem Rep.lose (R : Rep K b F H σ ρ) (is : List Nat) {τ : L2.St} (hl : τ.length = σ.length) (ht : ∀ j, j ∉ is → τ[j]? = σ[j]?) : Rep K b F H τ (DL.fgt is ρ) := by
  obtain ⟨fp, f1, f2, f3⟩ := R.ex
  refine ⟨R.g, R.tt, by rw [hl, fgt_len]; exact R.len, ovr fp (fun j => decide (j ∈ is)) [], fun j s e => ?_, fun j e => ?_, fun j k a hjk h1 h2 => ?_⟩
  · by_cases hj : j ∈ is
    · rw [ovr_pos (by simpa using hj)]
      have := fgt_in e hj
      subst this
      rfl
    · rw [ovr_neg (by simpa using hj), ht j hj]
      rcases fgt_some e with a | ⟨a, _⟩
      · subst a
        cases e2 : ρ[j]? with
        | none => exact f2 j e2
        | some s' =>
          have hlt : j < ρ.length := (List.getElem?_eq_some_iff.mp e2).1
          have : (DL.fgt is ρ)[j]? = ρ[j]? := by
            clear e hl ht R f1 f2 f3
            induction is with
            | nil => rfl
            | cons m is ih =>
              simp only [List.mem_cons, not_or] at hj
              unfold DL.fgt
              rw [List.getElem?_set_ne (Ne.symm hj.1)]
              exact ih hj.2
          rw [this, e2] at e
          cases e
          exact f1 j _ e2
      · exact f1 j s a
  · by_cases hj : j ∈ is
    · rw [ovr_pos (by simpa using hj)]
    · rw [ovr_neg (by simpa using hj)]
      refine f2 j ?_
      rw [List.getElem?_eq_none_iff] at e ⊢
      rw [fgt_len] at e
      exact e
  · by_cases hj : j ∈ is
    · rw [ovr_pos (by simpa using hj)] at h1
      simp at h1
    · by_cases hk : k ∈ is
      · rw [ovr_pos (by simpa using hk)] at h2
        simp at h2
      · rw [ovr_neg (by simpa using hj)] at h1
        rw [ovr_neg (by simpa using hk)] at h2
        exact f3 j k a hjk h1 h2
theorem Rep.fgt (R : Rep K b F H σ ρ) (is : List Nat) : Rep K b F H σ (fgt is ρ) := R.lose is rfl fun _ _ => rfl
/-- a comprehension's block begins -/
theorem Rep.wipe (R : Rep K b F H σ ρ) (is : List Nat) : Rep K b F H (L2.wipe σ is) (DL.fgt is ρ) := R.lose is (wipe_length ..) fun _ hj => L2.wipe_out hj
end
end DL
set_option maxRecDepth 100000
set_option maxHeartbeats 4000000
namespace DL
open PySem PySem.Spec PyProof.Rows L2
variable {T : List (Addr × Str)}

/-! ### judgements -/
/-- what is wanted of exceptions, and the tables of code objects that are known -/
structure WT where
  w : WX
  T : List (Addr × Str)
/-- what is wanted of an exception, by its class's name -/
abbrev Zs := List Sl → String → Prop
abbrev DT := List Sl → (D → Prop) → Zs → Prop
abbrev DTt := List Sl → (Bool → Prop) → Zs → Prop
abbrev DTa := List Sl → (List D → Prop) → Zs → Prop
structure DEnds where
  nx : List Sl → Prop
  rt : D → Prop
  bk : List Sl → Prop := fun _ => False
  ct : List Sl → Prop := fun _ => False
abbrev DS := DEnds → Zs → List Sl → Prop
/-- what is wanted of an exception -/
structure ZOk (mg : Str → Option Value) (K : PySem.W.Frag) (b : B) (F : Hp) (Z : Zs) (W : WT) : Prop where
  t : b.T = W.T
  z : ∀ ρ F' H σ (x : String) C, Same F F' → mg (x : Str) = some (.ref C) → Rep K b F' H σ ρ → Z ρ x → W.w (.ref C) none σ H
theorem ZOk.mono {mg : Str → Option Value} {K : PySem.W.Frag} {b : B} {F F' : Hp} {Z : Zs} {W : WT} (z : ZOk mg K b F Z W) (s : Same F F') : ZOk mg K b F' Z W := ⟨z.t, fun ρ F2 H σ x C s2 => z.z ρ F2 H σ x C (s.trans s2)⟩
/-- what a value rule goes on with -/
def Goes (m : Md) (K : PySem.W.Frag) (b : B) (F H : Hp) (P : D → Prop) (Q : VK) : Prop := ∀ d v F' H', P d → Grow b.T F H F' H' → VR m K b F' H' v d → Fr m H F' H' v d → Q v H'
structure DE (X : Cx) (W : WT) (m : Md) (e : Expr) (t : DT) : Prop where
  ok : ∃ te : TE, PE X e te ∧ ∀ (b : B) (F H : Hp) (σ : L2.St) (ρ : List Sl) (Q : VK) (P : D → Prop) (Z : Zs), Rep X.K b F H σ ρ → ZOk X.mg X.K b F Z W → t ρ P Z → Goes m X.K b F H P Q → te σ H Q
structure DEt (X : Cx) (W : WT) (e : Expr) (t : DTt) : Prop where
  ok : ∃ te : TT, PT X e te ∧ ∀ (b : B) (F H : Hp) (σ : L2.St) (ρ : List Sl) (Q : Bool → Hp → Prop) (P : Bool → Prop) (Z : Zs), Rep X.K b F H σ ρ → ZOk X.mg X.K b F Z W → t ρ P Z → (∀ c F' H', P c → Grow b.T F H F' H' → Q c H') → te σ H Q
/-- a test of whatever whole (and, or) -/
structure DEw (X : Cx) (W : WT) (e : Expr) (t : DTt) : Prop where
  ok : ∃ te : TT, PW X e te ∧ ∀ (b : B) (F H : Hp) (σ : L2.St) (ρ : List Sl) (Q : Bool → Hp → Prop) (P : Bool → Prop) (Z : Zs), Rep X.K b F H σ ρ → ZOk X.mg X.K b F Z W → t ρ P Z → (∀ c F' H', P c → Grow b.T F H F' H' → Q c H') → te σ H Q
/-- a list of values in a heap, by modes -/
inductive VRs (K : PySem.W.Frag) (b : B) (F H : Hp) : List Md → List V → List D → Prop
  | nil : VRs K b F H [] [] []
  | cons {m ms v vs d ds} : VR m K b F H v d → VRs K b F H ms vs ds → VRs K b F H (m :: ms) (v :: vs) (d :: ds)
structure DA (X : Cx) (W : WT) (ms : List Md) (es : List Expr) (t : DTa) : Prop where
  ok : ∃ ta : TA, PA X es ta ∧ ∀ (b : B) (F H : Hp) (σ : L2.St) (ρ : List Sl) (Q : List V → Hp → Prop) (P : List D → Prop) (Z : Zs), Rep X.K b F H σ ρ → ZOk X.mg X.K b F Z W → t ρ P Z →
    (∀ ds vs F' H', P ds → Grow b.T F H F' H' → VRs X.K b F' H' ms vs ds → Q vs H') → ta σ H Q
structure Conn (K : PySem.W.Frag) (b : B) (rm : Md) (F : Hp) (d : DEnds) (D : Ends) : Prop where
  nx : ∀ ρ F' H σ, Same F F' → Rep K b F' H σ ρ → d.nx ρ → D.nx σ H
  bk : ∀ ρ F' H σ, Same F F' → Rep K b F' H σ ρ → d.bk ρ → D.bk σ H
  ct : ∀ ρ F' H σ, Same F F' → Rep K b F' H σ ρ → d.ct ρ → D.ct σ H
  rt : ∀ x v F' H, Grow b.T b.F b.H F' H → VR rm K b F' H v x → Fr rm b.H F' H v x → d.rt x → D.rt v H
theorem Conn.mono {K : PySem.W.Frag} {b : B} {rm : Md} {F F' : Hp} {d : DEnds} {D : Ends} (c : Conn K b rm F d D) (s : Same F F') : Conn K b rm F' d D :=
  ⟨fun ρ F2 H σ s2 => c.nx ρ F2 H σ (s.trans s2), fun ρ F2 H σ s2 => c.bk ρ F2 H σ (s.trans s2), fun ρ F2 H σ s2 => c.ct ρ F2 H σ (s.trans s2), c.rt⟩
structure DS1 (X : Cx) (W : WT) (rm : Md) (st : Stmt) (t : DS) : Prop where
  ok : ∃ ts : TS, PS X st ts ∧ ∀ (b : B) (F H : Hp) (σ : L2.St) (ρ : List Sl) (D : Ends) (d : DEnds) (Z : Zs), Rep X.K b F H σ ρ → ZOk X.mg X.K b F Z W → t d Z ρ → Conn X.K b rm F d D → ts D σ H
structure DSs (X : Cx) (W : WT) (rm : Md) (sts : List Stmt) (t : DS) : Prop where
  ok : ∃ ts : TS, PSs X sts ts ∧ ∀ (b : B) (F H : Hp) (σ : L2.St) (ρ : List Sl) (D : Ends) (d : DEnds) (Z : Zs), Rep X.K b F H σ ρ → ZOk X.mg X.K b F Z W → t d Z ρ → Conn X.K b rm F d D → ts D σ H

/-! ### expressions: names, constants -/
section
variable {X : Cx} {W : WT}
theorem DE.rd {m : Md} {e : Expr} {t : DT} (h : DE X W m e t) (hm : m.sh = true := by rfl) : DE X W .rd e t := by
  obtain ⟨te, pe, s⟩ := h.ok
  exact ⟨te, pe, fun b F H σ ρ Q P Z R z q k => s b F H σ ρ Q P Z R z q fun d v F' H' p g r _ => k d v F' H' p g (r.rd hm (R.g.trans g)) trivial⟩
theorem DE.st {e : Expr} {t : DT} (h : DE X W .fz e t) : DE X W .st e t := by
  obtain ⟨te, pe, s⟩ := h.ok
  exact ⟨te, pe, fun b F H σ ρ Q P Z R z q k => s b F H σ ρ Q P Z R z q fun d v F' H' p g r _ => k d v F' H' p g (.inl r) trivial⟩
/-- a new root is left to stand still -/
theorem DE.fz {e : Expr} {t : DT} (h : DE X W .nw e t) : DE X W .fz e t := by
  obtain ⟨te, pe, s⟩ := h.ok
  refine ⟨te, pe, fun b F H σ ρ Q P Z R z q k => s b F H σ ρ Q P Z R z q fun d v F' H' p g r f => ?_⟩
  rcases r with ⟨a, e1, n, o⟩ | r
  rotate_left
  · exact k d v F' H' p g r.dq trivial
  have ha := f a e1
  obtain ⟨u, eu, iu⟩ := o.some
  have sf : Same F' (upd F' a u) := same_new n
  refine k d v (upd F' a u) H' p ⟨g.h, g.f.trans sf, fun c x e => ?_, fun c x e nt => ?_, fun c ps e => ?_, fun c k e => ?_⟩ ?_ trivial
  · by_cases q : c = a
    · subst q
      rw [upd_same] at e
      cases e
      exact eu
    · rw [upd_ne q] at e
      exact g.s c x e
  · rw [upd_ne (nn_ne ha e nt)]
    exact g.k c x e nt
  · by_cases q : c = a
    · subst q
      rw [upd_same] at e
      exact isD_n iu ps (Option.some.inj e)
    · rw [upd_ne q] at e
      exact g.n c ps e
  · by_cases q : c = a
    · subst q
      rw [upd_same, ← eu]
      exact e
    · rw [upd_ne q]
      exact g.c c k e
  · subst e1
    exact (o.mono (F' := upd F' a u) (H' := upd F' a u) sf (upd_same.trans eu.symm)).dq
/-- an atom is as good as a new root -/
def dAtm (t : DT) : DT := fun ρ P Z => t ρ (fun x => atmB x = true ∧ P x) Z
theorem DE.atm {e : Expr} {t : DT} (h : DE X W .fz e t) : DE X W .nw e (dAtm t) := by
  obtain ⟨te, pe, s⟩ := h.ok
  refine ⟨te, pe, fun b F H σ ρ Q P Z R z q k => s b F H σ ρ _ _ Z R z q fun d v F' H' p g r _ => ?_⟩
  have a : Atm v d := atm_of r p.1
  exact k d v F' H' p.2 g (.inr a) fun q e => by subst e; exact (atm_ref a).elim
/-- a tree is read -/
def dTr (t : DT) : DT := fun ρ P Z => t ρ (fun x => isLT x = true ∧ P x) Z
theorem DE.rt {m : Md} {e : Expr} {t : DT} (h : DE X W m e t) (hm : m ≠ .n2 := by intro z; cases z) : DE X W .rt e t := by
  obtain ⟨te, pe, s⟩ := h.ok
  exact ⟨te, pe, fun b F H σ ρ Q P Z R z q k => s b F H σ ρ _ _ Z R z q fun d v F' H' p g r _ => k d v F' H' p g (r.rt (R.g.trans g) fun z => absurd z hm) trivial⟩
theorem DE.rt2 {e : Expr} {t : DT} (h : DE X W .n2 e t) : DE X W .rt e (dTr t) := by
  obtain ⟨te, pe, s⟩ := h.ok
  exact ⟨te, pe, fun b F H σ ρ Q P Z R z q k => s b F H σ ρ _ _ Z R z q fun d v F' H' p g r _ => k d v F' H' p.2 g (r.rt (R.g.trans g) fun _ => p.1) trivial⟩
/-- a new tree is left to stand still -/
theorem DE.fz2 {e : Expr} {t : DT} (h : DE X W .n2 e t) : DE X W .fz e t := by
  obtain ⟨te, pe, s⟩ := h.ok
  refine ⟨te, pe, fun b F H σ ρ Q P Z R z q k => s b F H σ ρ Q P Z R z q fun d v F' H' p g r f => ?_⟩
  obtain ⟨A, t⟩ := r
  have hm : ∀ a ∈ A, F' a = none ∧ Nn H a ∧ ∃ u, H' a = some u ∧ IsD u := fun a ha => ⟨(t.nn a ha).1, f A t a ha, (t.nn a ha).2⟩
  have sf := seal_same (H := H') fun a ha => (hm a ha).1
  exact k d v _ H' p (seal_grow g hm) (t.seal sf fun a ha => seal_in ha) trivial
def dV (i : Nat) : DT := fun ρ P _ => ∃ d, ρ[i]? = some (.fz d) ∧ P d
def Sl.st : Sl → Option D
  | .fz d => some d
  | .ln d => some d
  | _ => none
def Sl.rd : Sl → Option D
  | .fz d => some d
  | .ln d => some d
  | .ow d => some d
  | _ => none
def dVs (i : Nat) : DT := fun ρ P _ => ∃ d, ρ[i]?.bind Sl.st = some d ∧ P d
def dVr (i : Nat) : DT := fun ρ P _ => ∃ d, ρ[i]?.bind Sl.rd = some d ∧ P d
theorem goes_now {m : Md} {K : PySem.W.Frag} {b : B} {F H F0 H0 : Hp} {P : D → Prop} {Q : VK} (k : Goes m K b F H P Q) (s : Grow b.T F0 H0 F H) {d : D} {v : V} (p : P d) (r : VR m K b F H v d) (f : Fr m H F H v d) : Q v H := k d v F H p (.refl s) r f
theorem de_v (i : Nat) {x : Str} {pos : Pos} (hN : X.N[i]? = some x := by rfl) (hv : Vis X.env.scope x := by first | exact Or.inl rfl | exact Or.inr (Or.inl rfl) | exact Or.inr (Or.inr rfl)) (hd : (x == ("__debug__" : Str)) = false := by decide)
    (hcd : (x == ("__classdict__" : Str)) = false := by decide) : DE X W .fz (.Name x pos) (dV i) := by
  refine ⟨_, pe_var hN hv hd hcd, fun b F H σ ρ Q P Z R z q k => ?_⟩
  obtain ⟨d, e, p⟩ := q
  obtain ⟨v, e1, r⟩ := R.sl i _ e
  exact ⟨v, e1, goes_now k R.g p r trivial⟩
theorem de_vs (i : Nat) {x : Str} {pos : Pos} (hN : X.N[i]? = some x := by rfl) (hv : Vis X.env.scope x := by first | exact Or.inl rfl | exact Or.inr (Or.inl rfl) | exact Or.inr (Or.inr rfl)) (hd : (x == ("__debug__" : Str)) = false := by decide)
    (hcd : (x == ("__classdict__" : Str)) = false := by decide) : DE X W .st (.Name x pos) (dVs i) := by
  refine ⟨_, pe_var hN hv hd hcd, fun b F H σ ρ Q P Z R z q k => ?_⟩
  obtain ⟨d, e, p⟩ := q
  obtain ⟨s, es, e⟩ := Option.bind_eq_some_iff.mp e
  have q := R.sl i _ es
  cases s with
  | «at» _ => cases e
  | un => cases e
  | tr _ _ => cases e
  | lt _ => cases e
  | ow d' => cases e
  | fz d' =>
    cases e
    obtain ⟨v, e1, r⟩ := q
    exact ⟨v, e1, goes_now k R.g p (.inl r) trivial⟩
  | ln d' =>
    cases e
    obtain ⟨v, e1, r⟩ := q
    exact ⟨v, e1, goes_now k R.g p r trivial⟩
theorem de_vr (i : Nat) {x : Str} {pos : Pos} (hN : X.N[i]? = some x := by rfl) (hv : Vis X.env.scope x := by first | exact Or.inl rfl | exact Or.inr (Or.inl rfl) | exact Or.inr (Or.inr rfl)) (hd : (x == ("__debug__" : Str)) = false := by decide)
    (hcd : (x == ("__classdict__" : Str)) = false := by decide) : DE X W .rd (.Name x pos) (dVr i) := by
  refine ⟨_, pe_var hN hv hd hcd, fun b F H σ ρ Q P Z R z q k => ?_⟩
  obtain ⟨d, e, p⟩ := q
  obtain ⟨s, es, e⟩ := Option.bind_eq_some_iff.mp e
  have q := R.sl i _ es
  cases s with
  | «at» _ => cases e
  | un => cases e
  | tr _ _ => cases e
  | lt _ => cases e
  | ow d' =>
    cases e
    obtain ⟨v, e1, q⟩ := q
    refine ⟨_, e1, goes_now k R.g p ?_ trivial⟩
    rcases q with ⟨a, e2, n, n2, o⟩ | q
    · exact .inr ⟨a, e2, o.rdb⟩
    · exact .inl q.dq
  | fz d' =>
    cases e
    obtain ⟨v, e1, r⟩ := q
    exact ⟨v, e1, goes_now k R.g p (.inl r) trivial⟩
  | ln d' =>
    cases e
    obtain ⟨v, e1, r⟩ := q
    exact ⟨v, e1, goes_now k R.g p (VR.rd rfl R.g r) trivial⟩
def dC (d : D) : DT := fun _ P _ => P d
theorem de_int {i j pos} : DE X W .fz (.Constant (.int i) j pos) (dC (.int i)) := ⟨_, pe_int, fun b F H σ ρ Q P Z R z q k => goes_now k R.g q (Dq.int i) trivial⟩
theorem de_bl {i j pos} : DE X W .fz (.Constant (.bool i) j pos) (dC (.bool i)) := ⟨_, pe_bl, fun b F H σ ρ Q P Z R z q k => goes_now k R.g q (Dq.bl i) trivial⟩
theorem de_str {i j pos} : DE X W .fz (.Constant (.str i) j pos) (dC (.str i)) := ⟨_, pe_str, fun b F H σ ρ Q P Z R z q k => goes_now k R.g q (Dq.str i) trivial⟩
theorem de_non {j pos} : DE X W .fz (.Constant .none j pos) (dC .none) := ⟨_, pe_non, fun b F H σ ρ Q P Z R z q k => goes_now k R.g q Dq.non trivial⟩
/-- a module's constant -/
theorem de_glob {x : Str} {v : V} {d : D} {u : Value} {pos : Pos} (hg : Gl X x) (hm : X.mg x = some u) (r : RelV v u) (q : ∀ F, Dq F v d) (hd : (x == ("__debug__" : Str)) = false := by decide) : DE X W .fz (.Name x pos) (dC d) :=
  ⟨_, pe_glob hg hm r hd, fun b F H σ ρ Q P Z R z p k => goes_now k R.g p (q F) trivial⟩

/-! ### a rule on two values, on one, on a list -/
def R2ok (K : PySem.W.Frag) (ma mb m : Md) (r : R2) (rd : D → D → (D → Prop) → Prop) : Prop :=
  ∀ (b : B) (F H : Hp) (x y : V) (dx dy : D) (Q : VK) (P : D → Prop), Grow b.T b.F b.H F H → VR ma K b F H x dx → VR mb K b F H y dy → rd dx dy P → Goes m K b F H P Q → r x y H Q
def R1ok (K : PySem.W.Frag) (ma m : Md) (r : V → Hp → VK → Prop) (rd : D → (D → Prop) → Prop) : Prop :=
  ∀ (b : B) (F H : Hp) (x : V) (dx : D) (Q : VK) (P : D → Prop), Grow b.T b.F b.H F H → VR ma K b F H x dx → rd dx P → Goes m K b F H P Q → r x H Q
def RAok (K : PySem.W.Frag) (ms : List Md) (m : Md) (r : List V → Hp → VK → Prop) (rd : List D → (D → Prop) → Prop) : Prop :=
  ∀ (b : B) (F H : Hp) (xs : List V) (ds : List D) (Q : VK) (P : D → Prop), Grow b.T b.F b.H F H → VRs K b F H ms xs ds → rd ds P → Goes m K b F H P Q → r xs H Q
def d2 (rd : D → D → (D → Prop) → Prop) (ta tb : DT) : DT := fun ρ P Z => ta ρ (fun x => tb ρ (fun y => rd x y P) Z) Z
def d1 (rd : D → (D → Prop) → Prop) (ta : DT) : DT := fun ρ P Z => ta ρ (fun x => rd x P) Z
def dA (rd : List D → (D → Prop) → Prop) (ta : DTa) : DT := fun ρ P Z => ta ρ (fun xs => rd xs P) Z
theorem Goes.after {m : Md} {K : PySem.W.Frag} {b : B} {F H F1 H1 : Hp} {P : D → Prop} {Q : VK} (k : Goes m K b F H P Q) (g : Grow b.T F H F1 H1) : Goes m K b F1 H1 P Q := fun d v F' H' p g' r f => k d v F' H' p (g.trans g') r (f.back g.h)
theorem sem2 {ma mb m : Md} {ea eb : Expr} {ta tb : DT} {r : R2} {rd : D → D → (D → Prop) → Prop} {te1 te2 : TE} (hr : R2ok X.K ma mb m r rd)
    (s1 : ∀ (b : B) (F H : Hp) (σ : L2.St) (ρ : List Sl) (Q : VK) (P : D → Prop) (Z : Zs), Rep X.K b F H σ ρ → ZOk X.mg X.K b F Z W → ta ρ P Z → Goes ma X.K b F H P Q → te1 σ H Q)
    (s2 : ∀ (b : B) (F H : Hp) (σ : L2.St) (ρ : List Sl) (Q : VK) (P : D → Prop) (Z : Zs), Rep X.K b F H σ ρ → ZOk X.mg X.K b F Z W → tb ρ P Z → Goes mb X.K b F H P Q → te2 σ H Q) :
    ∀ (b : B) (F H : Hp) (σ : L2.St) (ρ : List Sl) (Q : VK) (P : D → Prop) (Z : Zs), Rep X.K b F H σ ρ → ZOk X.mg X.K b F Z W → d2 rd ta tb ρ P Z → Goes m X.K b F H P Q → tOp r te1 te2 σ H Q :=
  fun b F H σ ρ Q P Z R z q k => s1 b F H σ ρ _ _ Z R z q fun d v F1 H1 p g r1 _ => s2 b F1 H1 σ ρ _ _ Z (R.grow g) (z.mono g.f) p fun d' v' F2 H2 p2 g2 r2 _ =>
    hr b F2 H2 v v' d d' Q P (R.g.trans (g.trans g2)) (r1.grow g2) r2 p2 (k.after (g.trans g2))
theorem de_op {ma mb m : Md} {op : Operator} {ea eb : Expr} {ta tb : DT} {r : R2} {rd : D → D → (D → Prop) → Prop} {pos : Pos} (ho : OpR X (binaryOp op) r) (hr : R2ok X.K ma mb m r rd) (ha : DE X W ma ea ta) (hb : DE X W mb eb tb) :
    DE X W m (.BinOp ea op eb pos) (d2 rd ta tb) := by
  obtain ⟨te1, p1, s1⟩ := ha.ok
  obtain ⟨te2, p2, s2⟩ := hb.ok
  exact ⟨_, pe_op ho p1 p2, sem2 (ea := ea) (eb := eb) hr s1 s2⟩
theorem de_cmp {ma mb m : Md} {op : CmpOp} {ea eb : Expr} {ta tb : DT} {r : R2} {rd : D → D → (D → Prop) → Prop} {pos : Pos} (ho : OpR X (compareOp op) r) (hr : R2ok X.K ma mb m r rd) (ha : DE X W ma ea ta) (hb : DE X W mb eb tb) (hm : behindInMarks op eb = false) :
    DE X W m (.Compare ea [op] [eb] pos) (d2 rd ta tb) := by
  obtain ⟨te1, p1, s1⟩ := ha.ok
  obtain ⟨te2, p2, s2⟩ := hb.ok
  exact ⟨_, pe_cmpR ho p1 p2 hm, sem2 (ea := ea) (eb := eb) hr s1 s2⟩
theorem de_ix {ma mb m : Md} {ea eb : Expr} {ta tb : DT} {r : R2} {rd : D → D → (D → Prop) → Prop} {pos : Pos} (ho : IxR X r) (hr : R2ok X.K ma mb m r rd) (ha : DE X W ma ea ta) (hb : DE X W mb eb tb) (hs : PlainIx eb) :
    DE X W m (.Subscript ea eb pos) (d2 rd ta tb) := by
  obtain ⟨te1, p1, s1⟩ := ha.ok
  obtain ⟨te2, p2, s2⟩ := hb.ok
  exact ⟨_, pe_ix ho p1 p2 hs, sem2 (ea := ea) (eb := eb) hr s1 s2⟩
theorem de_un {ma m : Md} {op : UnaryOp} {ea : Expr} {ta : DT} {r : V → Hp → VK → Prop} {rd : D → (D → Prop) → Prop} {pos : Pos} (ho : UnR X (unaryOp op) r) (hr : R1ok X.K ma m r rd) (ha : DE X W ma ea ta) : DE X W m (.UnaryOp op ea pos) (d1 rd ta) := by
  obtain ⟨te1, p1, s1⟩ := ha.ok
  exact ⟨_, pe_un ho p1, fun b F H σ ρ Q P Z R z q k => s1 b F H σ ρ _ _ Z R z q fun d v F1 H1 p g r1 _ => hr b F1 H1 v d Q P (R.g.trans g) r1 p (k.after g)⟩

/-! ### arguments -/
def dNil : DTa := fun _ P _ => P []
def dCons (ta : DT) (tr : DTa) : DTa := fun ρ P Z => ta ρ (fun x => tr ρ (fun xs => P (x :: xs)) Z) Z
theorem da_nil : DA X W [] [] dNil := ⟨_, pa_nil, fun b F H σ ρ Q P Z R z q k => k [] [] F H q (.refl R.g) .nil⟩
theorem da_cons {m : Md} {ms : List Md} {e : Expr} {es : List Expr} {ta : DT} {tr : DTa} (ha : DE X W m e ta) (hr : DA X W ms es tr) (hs : starEach (e :: es) X.env = (false, eval e X.env) :: starEach es X.env := by rfl) : DA X W (m :: ms) (e :: es) (dCons ta tr) := by
  obtain ⟨te1, p1, s1⟩ := ha.ok
  obtain ⟨te2, p2, s2⟩ := hr.ok
  exact ⟨_, pa_cons p1 p2 hs, fun b F H σ ρ Q P Z R z q k => s1 b F H σ ρ _ _ Z R z q fun d v F1 H1 p g r1 _ => s2 b F1 H1 σ ρ _ _ Z (R.grow g) (z.mono g.f) p fun ds vs F2 H2 p2 g2 r2 =>
    k (d :: ds) (v :: vs) F2 H2 p2 (g.trans g2) (.cons (r1.grow g2) r2)⟩
theorem semA {ms : List Md} {m : Md} {ta : DTa} {te : TA} {r : List V → Hp → VK → Prop} {rd : List D → (D → Prop) → Prop} (hr : RAok X.K ms m r rd)
    (s1 : ∀ (b : B) (F H : Hp) (σ : L2.St) (ρ : List Sl) (Q : List V → Hp → Prop) (P : List D → Prop) (Z : Zs), Rep X.K b F H σ ρ → ZOk X.mg X.K b F Z W → ta ρ P Z → (∀ ds vs F' H', P ds → Grow b.T F H F' H' → VRs X.K b F' H' ms vs ds → Q vs H') → te σ H Q) :
    ∀ (b : B) (F H : Hp) (σ : L2.St) (ρ : List Sl) (Q : VK) (P : D → Prop) (Z : Zs), Rep X.K b F H σ ρ → ZOk X.mg X.K b F Z W → dA rd ta ρ P Z → Goes m X.K b F H P Q → tCB r te σ H Q :=
  fun b F H σ ρ Q P Z R z q k => s1 b F H σ ρ _ _ Z R z q fun ds vs F1 H1 p g r1 => hr b F1 H1 vs ds Q P (R.g.trans g) r1 p (k.after g)
theorem de_bi {ms : List Md} {m : Md} {x : Str} {id : String} {e : Expr} {es : List Expr} {ta : DTa} {r : List V → Hp → VK → Prop} {rd : List D → (D → Prop) → Prop} {p pos : Pos} (hc : CallR X (.builtin id) r) (hr : RAok X.K ms m r rd) (hg : Gl X x) (hm : X.mg x = none) (hv : bootBuiltins x = some (.builtin id))
    (ha : DA X W ms (e :: es) ta) (hn : x ≠ "__name__" := by decide) (hdb : (x == ("__debug__" : Str)) = false := by decide) (he : starEach (e :: es) X.env = (false, eval e X.env) :: starEach es X.env := by rfl) (hpl : (backTo pos (starEach es X.env)).any (·.1) = false := by rfl) : DE X W m (.Call (.Name x p) (e :: es) [] pos) (dA rd ta) := by
  obtain ⟨te, p1, s1⟩ := ha.ok
  exact ⟨_, pe_callB hc hg hm hv p1 hn hdb he hpl, semA hr s1⟩
theorem de_ty {ms : List Md} {m : Md} {x : Str} {T : String} {e : Expr} {es : List Expr} {ta : DTa} {r : List V → Hp → VK → Prop} {rd : List D → (D → Prop) → Prop} {p pos : Pos} (hc : CallR X (.type T) r) (hr : RAok X.K ms m r rd) (hg : Gl X x) (hm : X.mg x = none) (hv : bootBuiltins x = some (.type T))
    (ha : DA X W ms (e :: es) ta) (hn : x ≠ "__name__" := by decide) (hdb : (x == ("__debug__" : Str)) = false := by decide) (he : starEach (e :: es) X.env = (false, eval e X.env) :: starEach es X.env := by rfl) (hpl : (backTo pos (starEach es X.env)).any (·.1) = false := by rfl) : DE X W m (.Call (.Name x p) (e :: es) [] pos) (dA rd ta) := by
  obtain ⟨te, p1, s1⟩ := ha.ok
  exact ⟨_, pe_callTy hc hg hm hv p1 hn hdb he hpl, semA hr s1⟩
theorem vrs_len {K : PySem.W.Frag} {b : B} {F H : Hp} : ∀ {ms : List Md} {vs : List V} {ds : List D}, VRs K b F H ms vs ds → vs.length = ms.length ∧ ds.length = ms.length
  | _, _, _, .nil => ⟨rfl, rfl⟩
  | _, _, _, .cons _ q => ⟨congrArg (· + 1) (vrs_len q).1, congrArg (· + 1) (vrs_len q).2⟩
/-- all of them stand still -/
theorem vrs_fz {K : PySem.W.Frag} {b : B} {F H : Hp} : ∀ {n : Nat} {vs : List V} {ds : List D}, VRs K b F H (List.replicate n .fz) vs ds → DqA F vs ds
  | 0, _, _, .nil => .nil
  | n + 1, _, _, .cons a q => .cons a (vrs_fz q)
def dTup (ta : DTa) : DT := dA (fun ds P => ds.length ≤ 100000 ∧ P (.tuple ds)) ta
def dLst (ta : DTa) : DT := dA (fun ds P => ds.length ≤ 100000 ∧ P (.list ds)) ta
theorem sz5 {n : Nat} (h : n ≤ 100000) : n ≤ sizeLine := Nat.le_trans h (by decide)
theorem de_tup {n : Nat} {es : List Expr} {x1} {pos : Pos} {ta : DTa} (h : DA X W (List.replicate n .fz) es ta) : DE X W .fz (.Tuple es x1 pos) (dTup ta) := by
  obtain ⟨te, p1, s1⟩ := h.ok
  refine ⟨_, pe_tup p1, fun b F H σ ρ Q P Z R z q k => s1 b F H σ ρ _ _ Z R z q fun ds vs F1 H1 p g r1 => ?_⟩
  have hl := vrs_fz r1
  refine ⟨sz5 (by rw [hl.length]; exact p.1), fun a na => ?_⟩
  have g2 := Grow.new (R.grow g).g (HO.tup vs) na
  exact k _ _ _ _ p.2 (g.trans g2) (Dq.tup upd_same (hl.mono g2.f)) trivial
theorem de_lst {n : Nat} {es : List Expr} {pos : Pos} {ta : DTa} (h : DA X W (List.replicate n .fz) es ta) : DE X W .nw (.List es pos) (dLst ta) := by
  obtain ⟨te, p1, s1⟩ := h.ok
  refine ⟨_, pe_lst p1, fun b F H σ ρ Q P Z R z q k => s1 b F H σ ρ _ _ Z R z q fun ds vs F1 H1 p g r1 => ?_⟩
  have hl := vrs_fz r1
  refine ⟨sz5 (by rw [hl.length]; exact p.1), fun a na => ?_⟩
  have g2 := Grow.own (R.grow g).g (HO.lst vs) na
  refine k _ _ _ _ p.2 (g.trans g2) (.inl ⟨a, rfl, (R.grow g).same.free na, vs, upd_same, hl⟩) fun q e => ?_
  cases e
  exact g.h.free na
/-! the empty dict: its keys will be tuples, or ints and texts -/
theorem de_dnewT {pos : Pos} : DE X W .nw (.Dict [] [] pos) (dC (dctT [])) := ⟨_, pe_dnewT, fun b F H σ ρ Q P Z R z q k a na =>
  k _ _ _ _ q (.own R.g (HO.dT []) na) (.inl ⟨a, rfl, R.same.free na, .inl ⟨[], [], rfl, upd_same, rfl, .nil⟩⟩) fun q e => by cases e; exact nn_of na⟩
theorem de_dnewK {pos : Pos} : DE X W .nw (.Dict [] [] pos) (dC (dctK [])) := ⟨_, pe_dnewK, fun b F H σ ρ Q P Z R z q k a na =>
  k _ _ _ _ q (.own R.g (HO.dK []) na) (.inl ⟨a, rfl, R.same.free na, .inr ⟨[], [], rfl, upd_same, rfl, .nil⟩⟩) fun q e => by cases e; exact nn_of na⟩

/-! ### tests -/
def dB (t : DT) : DTt := fun ρ P Z => t ρ (fun d => ∃ c, d = .bool c ∧ P c) Z
theorem dt_val {m : Md} {e : Expr} {t : DT} (h : DE X W m e t) (hsh : m.sh = true := by rfl) (he : ∀ whole, isTrue e X.env whole = (do let v ← whole; standAt e.pos; holding [v] (truthy v)) := by intro _; rfl) : DEt X W e (dB t) := by
  obtain ⟨te, p1, s1⟩ := (h.rd hsh).ok
  refine ⟨_, pt_val p1 he, fun b F H σ ρ Q P Z R z q k => s1 b F H σ ρ _ _ Z R z q fun d v F1 H1 p g r1 _ => ?_⟩
  obtain ⟨c, rfl, p⟩ := p
  exact ⟨c, vr_bl r1, k c F1 H1 p g⟩
theorem dt_cmp {ma mb m : Md} {op : CmpOp} {ea eb : Expr} {ta tb : DT} {r : R2} {rd : D → D → (D → Prop) → Prop} {pos : Pos} (ho : OpR X (compareOp op) r) (hr : R2ok X.K ma mb m r rd) (ha : DE X W ma ea ta) (hb : DE X W mb eb tb) (hm : behindInMarks op eb = false) (hsh : m.sh = true := by rfl) :
    DEt X W (.Compare ea [op] [eb] pos) (dB (d2 rd ta tb)) := by
  obtain ⟨te1, p1, s1⟩ := ha.ok
  obtain ⟨te2, p2, s2⟩ := hb.ok
  refine ⟨_, pt_cmpR ho p1 p2 hm, fun b F H σ ρ Q P Z R z q k => ?_⟩
  refine sem2 (ea := ea) (eb := eb) hr s1 s2 b F H σ ρ _ _ Z R z q fun d v F1 H1 p g r1 _ => ?_
  obtain ⟨c, rfl, p⟩ := p
  exact ⟨c, vr_bl (r1.rd hsh (R.g.trans g)), k c F1 H1 p g⟩
def dNot (t : DTt) : DTt := fun ρ P Z => t ρ (fun c => P (!c)) Z
theorem dt_not {e : Expr} {t : DTt} {pos : Pos} (h : DEt X W e t) : DEt X W (.UnaryOp .Not e pos) (dNot t) := by
  obtain ⟨te, p1, s1⟩ := h.ok
  exact ⟨_, pt_not p1, fun b F H σ ρ Q P Z R z q k => s1 b F H σ ρ _ _ Z R z q fun c F1 H1 p g => k _ F1 H1 p g⟩
theorem DEw.dt {e : Expr} {t : DTt} (h : DEw X W e t) : DEt X W e t := by
  obtain ⟨te, p1, s1⟩ := h.ok
  exact ⟨te, p1.pt, s1⟩
def dAnd (t u : DTt) : DTt := fun ρ P Z => t ρ (fun c => (c = true → u ρ P Z) ∧ (c = false → P false)) Z
def dOr (t u : DTt) : DTt := fun ρ P Z => t ρ (fun c => (c = true → P true) ∧ (c = false → u ρ P Z)) Z
theorem dw_and1 {e : Expr} {t : DTt} {pos : Pos} (h : DEt X W e t) : DEw X W (.BoolOp .And [e] pos) t := by
  obtain ⟨te, p1, s1⟩ := h.ok
  exact ⟨te, pw_and1 p1, s1⟩
theorem dw_or1 {e : Expr} {t : DTt} {pos : Pos} (h : DEt X W e t) : DEw X W (.BoolOp .Or [e] pos) t := by
  obtain ⟨te, p1, s1⟩ := h.ok
  exact ⟨te, pw_or1 p1, s1⟩
theorem dw_and {e f : Expr} {rest : List Expr} {t u : DTt} {pos : Pos} (h : DEt X W e t) (h2 : DEw X W (.BoolOp .And (f :: rest) pos) u) : DEw X W (.BoolOp .And (e :: f :: rest) pos) (dAnd t u) := by
  obtain ⟨te, p1, s1⟩ := h.ok
  obtain ⟨te2, p2, s2⟩ := h2.ok
  refine ⟨_, pw_and p1 p2, fun b F H σ ρ Q P Z R z q k => s1 b F H σ ρ _ _ Z R z q fun c F1 H1 p g => ?_⟩
  cases c with
  | true => exact s2 b F1 H1 σ ρ _ _ Z (R.grow g) (z.mono g.f) (p.1 rfl) fun c F2 H2 p2 g2 => k c F2 H2 p2 (g.trans g2)
  | false => exact k false F1 H1 (p.2 rfl) g
theorem dw_or {e f : Expr} {rest : List Expr} {t u : DTt} {pos : Pos} (h : DEt X W e t) (h2 : DEw X W (.BoolOp .Or (f :: rest) pos) u) : DEw X W (.BoolOp .Or (e :: f :: rest) pos) (dOr t u) := by
  obtain ⟨te, p1, s1⟩ := h.ok
  obtain ⟨te2, p2, s2⟩ := h2.ok
  refine ⟨_, pw_or p1 p2, fun b F H σ ρ Q P Z R z q k => s1 b F H σ ρ _ _ Z R z q fun c F1 H1 p g => ?_⟩
  cases c with
  | true => exact k true F1 H1 (p.1 rfl) g
  | false => exact s2 b F1 H1 σ ρ _ _ Z (R.grow g) (z.mono g.f) (p.2 rfl) fun c F2 H2 p2 g2 => k c F2 H2 p2 (g.trans g2)
/-! .. as values -/
def dAndV (t u : DT) : DT := fun ρ P Z => t ρ (fun d => ∃ c, d = .bool c ∧ (c = true → u ρ P Z) ∧ (c = false → P (.bool false))) Z
def dOrV (t u : DT) : DT := fun ρ P Z => t ρ (fun d => ∃ c, d = .bool c ∧ (c = true → P (.bool true)) ∧ (c = false → u ρ P Z)) Z
def dNotV (t : DT) : DT := fun ρ P Z => t ρ (fun d => ∃ c, d = .bool c ∧ P (.bool (!c))) Z
theorem de_one {op} {e : Expr} {t : DT} {pos : Pos} (h : DE X W .fz e t) : DE X W .fz (.BoolOp op [e] pos) t := by
  obtain ⟨te, p1, s1⟩ := h.ok
  exact ⟨te, pe_one p1, s1⟩
theorem de_and {m : Md} {e f : Expr} {rest : List Expr} {t u : DT} {pos : Pos} (h : DE X W m e t) (h2 : DE X W .fz (.BoolOp .And (f :: rest) pos) u) (hsh : m.sh = true := by rfl) : DE X W .fz (.BoolOp .And (e :: f :: rest) pos) (dAndV t u) := by
  obtain ⟨te, p1, s1⟩ := (h.rd hsh).ok
  obtain ⟨te2, p2, s2⟩ := h2.ok
  refine ⟨_, pe_and p1 p2, fun b F H σ ρ Q P Z R z q k => s1 b F H σ ρ _ _ Z R z q fun d v F1 H1 p g r1 _ => ?_⟩
  obtain ⟨c, rfl, p⟩ := p
  refine ⟨c, vr_bl r1, ?_⟩
  cases c with
  | true => exact s2 b F1 H1 σ ρ _ _ Z (R.grow g) (z.mono g.f) (p.1 rfl) (k.after g)
  | false => exact k _ _ F1 H1 (p.2 rfl) g (Dq.bl _) trivial
theorem de_or {m : Md} {e f : Expr} {rest : List Expr} {t u : DT} {pos : Pos} (h : DE X W m e t) (h2 : DE X W .fz (.BoolOp .Or (f :: rest) pos) u) (hsh : m.sh = true := by rfl) : DE X W .fz (.BoolOp .Or (e :: f :: rest) pos) (dOrV t u) := by
  obtain ⟨te, p1, s1⟩ := (h.rd hsh).ok
  obtain ⟨te2, p2, s2⟩ := h2.ok
  refine ⟨_, pe_or p1 p2, fun b F H σ ρ Q P Z R z q k => s1 b F H σ ρ _ _ Z R z q fun d v F1 H1 p g r1 _ => ?_⟩
  obtain ⟨c, rfl, p⟩ := p
  refine ⟨c, vr_bl r1, ?_⟩
  cases c with
  | true => exact k _ _ F1 H1 (p.1 rfl) g (Dq.bl _) trivial
  | false => exact s2 b F1 H1 σ ρ _ _ Z (R.grow g) (z.mono g.f) (p.2 rfl) (k.after g)
theorem de_not {m : Md} {e : Expr} {t : DT} {pos : Pos} (h : DE X W m e t) (hsh : m.sh = true := by rfl) : DE X W .fz (.UnaryOp .Not e pos) (dNotV t) := by
  obtain ⟨te, p1, s1⟩ := (h.rd hsh).ok
  refine ⟨_, pe_not p1, fun b F H σ ρ Q P Z R z q k => s1 b F H σ ρ _ _ Z R z q fun d v F1 H1 p g r1 _ => ?_⟩
  obtain ⟨c, rfl, p⟩ := p
  exact ⟨c, vr_bl r1, k _ _ F1 H1 p g (Dq.bl _) trivial⟩
def dIfE (t : DTt) (u w : DT) : DT := fun ρ P Z => t ρ (fun c => (c = true → u ρ P Z) ∧ (c = false → w ρ P Z)) Z
theorem de_ife {m : Md} {c e f : Expr} {t : DTt} {u w : DT} {pos : Pos} (h : DEt X W c t) (h1 : DE X W m e u) (h2 : DE X W m f w) : DE X W m (.IfExp c e f pos) (dIfE t u w) := by
  obtain ⟨te, p1, s1⟩ := h.ok
  obtain ⟨te2, p2, s2⟩ := h1.ok
  obtain ⟨te3, p3, s3⟩ := h2.ok
  refine ⟨_, pe_ifExp p1 p2 p3, fun b F H σ ρ Q P Z R z q k => s1 b F H σ ρ _ _ Z R z q fun c F1 H1 p g => ?_⟩
  cases c with
  | true => exact s2 b F1 H1 σ ρ _ _ Z (R.grow g) (z.mono g.f) (p.1 rfl) (k.after g)
  | false => exact s3 b F1 H1 σ ρ _ _ Z (R.grow g) (z.mono g.f) (p.2 rfl) (k.after g)
end
end DL
set_option maxRecDepth 100000
set_option maxHeartbeats 4000000
/-! DL2: statements, targets, loops, comprehensions, calls, a def's contract. -/
namespace DL
open PySem PySem.Spec PyProof.Rows L2
variable {T : List (Addr × Str)}

/-! ### readings that hang on K alone -/
def cE (mg : Str → Option Value) (K : PySem.W.Frag) (W : WT) (m : Md) (t : DT) : TE := fun σ H Q => ∃ (b : B) (F : Hp) (ρ : List Sl) (P : D → Prop) (Z : Zs), Rep K b F H σ ρ ∧ ZOk mg K b F Z W ∧ t ρ P Z ∧ Goes m K b F H P Q
def cT (mg : Str → Option Value) (K : PySem.W.Frag) (W : WT) (t : DTt) : TT := fun σ H Q => ∃ (b : B) (F : Hp) (ρ : List Sl) (P : Bool → Prop) (Z : Zs), Rep K b F H σ ρ ∧ ZOk mg K b F Z W ∧ t ρ P Z ∧ ∀ c F' H', P c → Grow b.T F H F' H' → Q c H'
def cS (mg : Str → Option Value) (K : PySem.W.Frag) (W : WT) (rm : Md) (t : DS) : TS := fun D σ H => ∃ (b : B) (F : Hp) (ρ : List Sl) (d : DEnds) (Z : Zs), Rep K b F H σ ρ ∧ ZOk mg K b F Z W ∧ t d Z ρ ∧ Conn K b rm F d D
section
variable {X : Cx} {W : WT}
theorem DE.pe {m : Md} {e : Expr} {t : DT} (h : DE X W m e t) : PE X e (cE X.mg X.K W m t) := by
  obtain ⟨te, p, s⟩ := h.ok
  exact ⟨fun pins s0 σ H Q I ⟨b, F, ρ, P, Z, R, z, q, k⟩ => p.run pins s0 σ H Q I (s b F H σ ρ Q P Z R z q k)⟩
theorem DEt.pt {e : Expr} {t : DTt} (h : DEt X W e t) : PT X e (cT X.mg X.K W t) := by
  obtain ⟨te, p, s⟩ := h.ok
  exact ⟨fun pins s0 σ H Q I ⟨b, F, ρ, P, Z, R, z, q, k⟩ => p.run pins s0 σ H Q I (s b F H σ ρ Q P Z R z q k)⟩
theorem DSs.ps {rm : Md} {sts : List Stmt} {t : DS} (h : DSs X W rm sts t) : PSs X sts (cS X.mg X.K W rm t) := by
  obtain ⟨te, p, s⟩ := h.ok
  exact ⟨fun pins s0 σ H D I ⟨b, F, ρ, d, Z, R, z, q, c⟩ => p.run pins s0 σ H D I (s b F H σ ρ D d Z R z q c)⟩
theorem DE.of_pe {m : Md} {e : Expr} {t : DT} (h : PE X e (cE X.mg X.K W m t)) : DE X W m e t := ⟨_, h, fun b F H σ ρ Q P Z R z q k => ⟨b, F, ρ, P, Z, R, z, q, k⟩⟩

/-! ### blocks -/
def dNext : DS := fun d _ ρ => d.nx ρ
def dSeq (t u : DS) : DS := fun d Z ρ => t { d with nx := fun ρ' => u d Z ρ' } Z ρ
variable {rm : Md} {pos : Pos}
theorem dss_nil : DSs X W rm [] dNext := ⟨_, pss_nil, fun b F H σ ρ D d Z R z q c => c.nx ρ F H σ (Same.refl _) R q⟩
theorem dss_cons {st : Stmt} {sts : List Stmt} {t u : DS} (h : DS1 X W rm st t) (h2 : DSs X W rm sts u) : DSs X W rm (st :: sts) (dSeq t u) := by
  obtain ⟨te1, p1, s1⟩ := h.ok
  obtain ⟨te2, p2, s2⟩ := h2.ok
  exact ⟨_, pss_cons p1 p2, fun b F H σ ρ D d Z R z q c => s1 b F H σ ρ _ _ Z R z q ⟨fun ρ' F' H' σ' s R' q' => s2 b F' H' σ' ρ' D d Z R' (z.mono s) q' (c.mono s), c.bk, c.ct, c.rt⟩⟩
theorem dss_one {st : Stmt} {t : DS} (h : DS1 X W rm st t) : DSs X W rm [st] t := by
  obtain ⟨te1, p1, s1⟩ := h.ok
  exact ⟨_, pss_one p1, s1⟩
/-- an own root stands still from here on -/
def frz (i : Nat) (ρ : List Sl) : List Sl := match ρ[i]? with
  | some (.ow x) => ρ.set i (.fz x)
  | some (.tr _ x) => ρ.set i (.fz x)
  | _ => ρ
def dFrz (i : Nat) (t : DS) : DS := fun d Z ρ => t d Z (frz i ρ)
theorem dss_frz (i : Nat) {sts : List Stmt} {t : DS} (h : DSs X W rm sts t) : DSs X W rm sts (dFrz i t) := by
  obtain ⟨te1, p1, s1⟩ := h.ok
  refine ⟨_, p1, fun b F H σ ρ D d Z R z q c => ?_⟩
  unfold dFrz frz at q
  split at q
  · rename_i x e
    obtain ⟨F', s, R'⟩ := R.freeze e (.inl rfl)
    exact s1 b F' H σ _ D d Z R' (z.mono s) q (c.mono s)
  · rename_i v x e
    obtain ⟨F', s, R'⟩ := R.freeze e (.inr ⟨v, rfl⟩)
    exact s1 b F' H σ _ D d Z R' (z.mono s) q (c.mono s)
  · exact s1 b F H σ ρ D d Z R z q c
theorem ds_pass : DS1 X W rm (.Pass pos) dNext := ⟨_, ps_pass, fun b F H σ ρ D d Z R z q c => c.nx ρ F H σ (Same.refl _) R q⟩
theorem ds_break : DS1 X W rm (.Break pos) (fun d _ ρ => d.bk ρ) := ⟨_, ps_break, fun b F H σ ρ D d Z R z q c => c.bk ρ F H σ (Same.refl _) R q⟩
theorem ds_continue : DS1 X W rm (.Continue pos) (fun d _ ρ => d.ct ρ) := ⟨_, ps_continue, fun b F H σ ρ D d Z R z q c => c.ct ρ F H σ (Same.refl _) R q⟩
def dDrop (t : DT) : DS := fun d Z ρ => t ρ (fun _ => d.nx ρ) Z
theorem ds_drop {m : Md} {e : Expr} {t : DT} (h : DE X W m e t) (hs : swapsWith e none pos.line X.env = pure false := by rfl) : DS1 X W rm (.Expr e pos) (dDrop t) := by
  obtain ⟨te, p, s⟩ := h.ok
  exact ⟨_, ps_expr p hs, fun b F H σ ρ D d Z R z q c => s b F H σ ρ _ _ Z R z q fun x v F' H' p g r f => c.nx ρ F' H' σ g.f (R.grow g) p⟩
def dRet (t : DT) : DS := fun d Z ρ => t ρ d.rt Z
theorem ds_ret {e : Expr} {t : DT} (h : DE X W rm e t) : DS1 X W rm (.Return (some e) pos) (dRet t) := by
  obtain ⟨te, p, s⟩ := h.ok
  exact ⟨_, ps_ret p, fun b F H σ ρ D d Z R z q c => s b F H σ ρ _ _ Z R z q fun x v F' H' p g r f => c.rt x v F' H' (R.g.trans g) r (f.back R.g.h) p⟩
/-- an own root goes out -/
def dRetO (i : Nat) : DS := fun d _ ρ => ∃ x, ρ[i]? = some (.ow x) ∧ d.rt x
theorem ds_retO (i : Nat) {x : Str} {p0 : Pos} (hN : X.N[i]? = some x := by rfl) (hv : Vis X.env.scope x := by first | exact Or.inl rfl | exact Or.inr (Or.inl rfl) | exact Or.inr (Or.inr rfl)) (hd : (x == ("__debug__" : Str)) = false := by decide)
    (hcd : (x == ("__classdict__" : Str)) = false := by decide) : DS1 X W .nw (.Return (some (.Name x p0)) pos) (dRetO i) := by
  refine ⟨_, ps_ret (pe_var hN hv hd hcd), fun b F H σ ρ D d Z R z q c => ?_⟩
  obtain ⟨y, e, p⟩ := q
  obtain ⟨v, e1, q⟩ := R.sl i _ e
  refine ⟨_, e1, ?_⟩
  rcases q with ⟨a, rfl, n, n2, o⟩ | q
  · exact c.rt y _ F H R.g (.inl ⟨a, rfl, n, o⟩) (fun q e => by cases e; exact n2) p
  · exact c.rt y _ F H R.g (.inr q) (fun q' e => by subst e; exact (atm_ref q).elim) p
/-- a tree goes out -/
def dRetT (i : Nat) : DS := fun d _ ρ => ∃ v x, ρ[i]? = some (.tr v x) ∧ d.rt x
theorem ds_retT (i : Nat) {x : Str} {p0 : Pos} (hN : X.N[i]? = some x := by rfl) (hv : Vis X.env.scope x := by first | exact Or.inl rfl | exact Or.inr (Or.inl rfl) | exact Or.inr (Or.inr rfl)) (hd : (x == ("__debug__" : Str)) = false := by decide)
    (hcd : (x == ("__classdict__" : Str)) = false := by decide) : DS1 X W .n2 (.Return (some (.Name x p0)) pos) (dRetT i) := by
  refine ⟨_, ps_ret (pe_var hN hv hd hcd), fun b F H σ ρ D d Z R z q c => ?_⟩
  obtain ⟨v, y, e, p⟩ := q
  obtain ⟨e1, A, t, n⟩ := R.sl i _ e
  exact ⟨_, e1, c.rt y _ F H R.g ⟨A, t⟩ (fun A2 t2 => by rw [← t.uniq (fun _ _ e _ => e) t2]; exact n) p⟩
/-- .. and stands still for the caller -/
theorem ds_retF (i : Nat) {x : Str} {p0 : Pos} (hN : X.N[i]? = some x := by rfl) (hv : Vis X.env.scope x := by first | exact Or.inl rfl | exact Or.inr (Or.inl rfl) | exact Or.inr (Or.inr rfl)) (hd : (x == ("__debug__" : Str)) = false := by decide)
    (hcd : (x == ("__classdict__" : Str)) = false := by decide) : DS1 X W .fz (.Return (some (.Name x p0)) pos) (dRetO i) := by
  refine ⟨_, ps_ret (pe_var hN hv hd hcd), fun b F H σ ρ D d Z R z q c => ?_⟩
  obtain ⟨y, e, p⟩ := q
  obtain ⟨F', s, R'⟩ := R.freeze e (.inl rfl)
  have hi : i < ρ.length := (List.getElem?_eq_some_iff.mp e).1
  obtain ⟨v, e1, r⟩ := R'.sl i (.fz y) (List.getElem?_set_self hi)
  exact ⟨v, e1, c.rt y v F' H R'.g r trivial p⟩
theorem ds_retN : DS1 X W rm (.Return none pos) (fun d _ _ => d.rt .none ∧ rm = .fz) := ⟨_, ps_retN, fun b F H σ ρ D d Z R z q c => by
  obtain ⟨q, rfl⟩ := q
  exact c.rt _ _ F H R.g (Dq.non) trivial q⟩
def dIf (t : DTt) (u w : DS) : DS := fun d Z ρ => t ρ (fun c => (c = true → u d Z ρ) ∧ (c = false → w d Z ρ)) Z
theorem ds_if {c : Expr} {a b : List Stmt} {t : DTt} {u w : DS} (h : DEt X W c t) (h1 : DSs X W rm a u) (h2 : DSs X W rm b w) : DS1 X W rm (.If c a b pos) (dIf t u w) := by
  obtain ⟨te, p, s⟩ := h.ok
  obtain ⟨te1, p1, s1⟩ := h1.ok
  obtain ⟨te2, p2, s2⟩ := h2.ok
  refine ⟨_, ps_if p p1 p2, fun b F H σ ρ D d Z R z q c => s b F H σ ρ _ _ Z R z q fun k F' H' p g => ?_⟩
  cases k with
  | true => exact s1 b F' H' σ ρ D d Z (R.grow g) (z.mono g.f) (p.1 rfl) (c.mono g.f)
  | false => exact s2 b F' H' σ ρ D d Z (R.grow g) (z.mono g.f) (p.2 rfl) (c.mono g.f)

/-! ### names stored -/
def dSet (i : Nat) (t : DT) : DS := fun d Z ρ => t ρ (fun x => d.nx (ρ.set i (.fz x))) Z
def dSetN (i : Nat) (t : DT) : DS := fun d Z ρ => t ρ (fun x => d.nx (ρ.set i (.ow x))) Z
def dSetS (i : Nat) (t : DT) : DS := fun d Z ρ => t ρ (fun x => d.nx (ρ.set i (.ln x))) Z
theorem Rep.setS {K : PySem.W.Frag} {b : B} {F H : Hp} {σ : L2.St} {ρ : List Sl} (R : Rep K b F H σ ρ) {v : V} {d : D} (i : Nat) (q : VR .st K b F H v d) : Rep K b F H (σ.set i (some v)) (ρ.set i (.ln d)) := R.setX i _ _ ⟨rfl, v, rfl, q⟩
/-- a value just told is stored -/
theorem Rep.put {K : PySem.W.Frag} {b : B} {F H F' H' : Hp} {σ : L2.St} {ρ : List Sl} (R : Rep K b F H σ ρ) (g : Grow b.T F H F' H') {v : V} {d : D} (i : Nat) (r : VR .nw K b F' H' v d) (f : Fr .nw H F' H' v d) : Rep K b F' H' (σ.set i (some v)) (ρ.set i (.ow d)) := by
  rcases r with ⟨p, rfl, n, o⟩ | r
  · exact R.store g i _ _ (A := [p]) ⟨_, rfl, .inr ⟨p, rfl, rfl, n, R.g.h.nn (f p rfl), o⟩⟩ fun a ha => by
      rw [List.mem_singleton] at ha
      subst ha
      exact f _ rfl
  · exact R.store g i _ _ (A := []) ⟨_, rfl, .inl ⟨rfl, r⟩⟩ fun a ha => by simp at ha
theorem Rep.putT {K : PySem.W.Frag} {b : B} {F H F' H' : Hp} {σ : L2.St} {ρ : List Sl} (R : Rep K b F H σ ρ) (g : Grow b.T F H F' H') {v : V} {d : D} (i : Nat) (r : VR .n2 K b F' H' v d) (f : Fr .n2 H F' H' v d) : Rep K b F' H' (σ.set i (some v)) (ρ.set i (.tr v d)) := by
  obtain ⟨A, t⟩ := r
  exact R.store g i _ _ (A := A) ⟨rfl, t, fun a ha => R.g.h.nn (f A t a ha)⟩ (f A t)
/-- .. a tree -/
def dSetT (i : Nat) (t : DT) : DS := fun d Z ρ => t ρ (fun x => ∀ v, d.nx (ρ.set i (.tr v x))) Z
section
variable {i : Nat} {x : Str} {e : Expr} {t : DT} {pos' : Pos}
theorem ds_set (i : Nat) (hN : X.N.Nodup) (h : DE X W .fz e t) (hi : X.N[i]? = some x := by rfl) (hx : Loc X.env.scope x := by first | exact Or.inl rfl | exact Or.inr rfl) (hs : swapsWith e (some (.Name x pos')) pos.line X.env = pure false := by rfl)
    (hf : X.fn x = true ∨ X.env.scope.names.lookup x = some .local := by first | exact .inl rfl | exact .inr rfl) : DS1 X W rm (.Assign [.Name x pos'] e pos) (dSet i t) := by
  obtain ⟨te, p, s⟩ := h.ok
  exact ⟨_, ps_set hN hi hx p hs hf, fun b F H σ ρ D d Z R z q c => s b F H σ ρ _ _ Z R z q fun y v F' H' p g r f => c.nx _ F' H' _ g.f ((R.grow g).setF i r) p⟩
theorem ds_setN (i : Nat) (hN : X.N.Nodup) (h : DE X W .nw e t) (hi : X.N[i]? = some x := by rfl) (hx : Loc X.env.scope x := by first | exact Or.inl rfl | exact Or.inr rfl) (hs : swapsWith e (some (.Name x pos')) pos.line X.env = pure false := by rfl)
    (hf : X.fn x = true ∨ X.env.scope.names.lookup x = some .local := by first | exact .inl rfl | exact .inr rfl) : DS1 X W rm (.Assign [.Name x pos'] e pos) (dSetN i t) := by
  obtain ⟨te, p, s⟩ := h.ok
  exact ⟨_, ps_set hN hi hx p hs hf, fun b F H σ ρ D d Z R z q c => s b F H σ ρ _ _ Z R z q fun y v F' H' p g r f => c.nx _ F' H' _ g.f (R.put g i r f) p⟩
theorem ds_setT (i : Nat) (hN : X.N.Nodup) (h : DE X W .n2 e t) (hi : X.N[i]? = some x := by rfl) (hx : Loc X.env.scope x := by first | exact Or.inl rfl | exact Or.inr rfl) (hs : swapsWith e (some (.Name x pos')) pos.line X.env = pure false := by rfl)
    (hf : X.fn x = true ∨ X.env.scope.names.lookup x = some .local := by first | exact .inl rfl | exact .inr rfl) : DS1 X W rm (.Assign [.Name x pos'] e pos) (dSetT i t) := by
  obtain ⟨te, p, s⟩ := h.ok
  exact ⟨_, ps_set hN hi hx p hs hf, fun b F H σ ρ D d Z R z q c => s b F H σ ρ _ _ Z R z q fun y v F' H' p g r f => c.nx _ F' H' _ g.f (R.putT g i r f) (p v)⟩
theorem ds_setS (i : Nat) (hN : X.N.Nodup) (h : DE X W .st e t) (hi : X.N[i]? = some x := by rfl) (hx : Loc X.env.scope x := by first | exact Or.inl rfl | exact Or.inr rfl) (hs : swapsWith e (some (.Name x pos')) pos.line X.env = pure false := by rfl)
    (hf : X.fn x = true ∨ X.env.scope.names.lookup x = some .local := by first | exact .inl rfl | exact .inr rfl) : DS1 X W rm (.Assign [.Name x pos'] e pos) (dSetS i t) := by
  obtain ⟨te, p, s⟩ := h.ok
  exact ⟨_, ps_set hN hi hx p hs hf, fun b F H σ ρ D d Z R z q c => s b F H σ ρ _ _ Z R z q fun y v F' H' p g r f => c.nx _ F' H' _ g.f ((R.grow g).setS i r) p⟩
end

/-! ### targets -/
abbrev DGt := D → List Sl → (List Sl → Prop) → Prop
abbrev DGts := List D → List Sl → (List Sl → Prop) → Prop
def Outs (vs : List Nat) (σ σ' : L2.St) : Prop := ∀ is : List Nat, (∀ i ∈ vs, i ∈ is) → L2.wipe σ' is = L2.wipe σ is
def cG (K : PySem.W.Frag) (vs : List Nat) (g : DGt) : TG := fun v σ H Q => ∃ (b : B) (F : Hp) (ρ : List Sl) (x : D) (P : List Sl → Prop), Rep K b F H σ ρ ∧ Dq F v x ∧ g x ρ P ∧ ∀ ρ' σ', Rep K b F H σ' ρ' → Outs vs σ σ' → P ρ' → Q σ' H
def cGs (K : PySem.W.Frag) (vs : List Nat) (g : DGts) : TGs := fun us σ H Q => ∃ (b : B) (F : Hp) (ρ : List Sl) (xs : List D) (P : List Sl → Prop), Rep K b F H σ ρ ∧ DqA F us xs ∧ g xs ρ P ∧ ∀ ρ' σ', Rep K b F H σ' ρ' → Outs vs σ σ' → P ρ' → Q σ' H
structure DG (X : Cx) (vs : List Nat) (tg : Expr) (g : DGt) : Prop where
  ok : PG X tg (cG X.K vs g)
structure DGs (X : Cx) (vs : List Nat) (tgs : List Expr) (g : DGts) : Prop where
  ok : PGs X tgs (cGs X.K vs g)
theorem PG.imp {tg : Expr} {t t' : TG} (h : PG X tg t) (k : ∀ v σ H Q, t' v σ H Q → t v σ H Q) : PG X tg t' := ⟨fun pins s σ H v u Q I r q => h.run pins s σ H v u Q I r (k _ _ _ _ q)⟩
theorem PGs.imp {tg : List Expr} {t t' : TGs} (h : PGs X tg t) (k : ∀ v σ H Q, t' v σ H Q → t v σ H Q) : PGs X tg t' := ⟨fun pins s σ H v u Q I r q => h.run pins s σ H v u Q I r (k _ _ _ _ q)⟩
theorem wipe_set {σ : L2.St} {i : Nat} {v : Option V} : ∀ {is : List Nat}, i ∈ is → L2.wipe (σ.set i v) is = L2.wipe σ is := by
  intro is hi
  refine List.ext_getElem? fun j => ?_
  by_cases hj : j ∈ is
  · have e : ∀ τ : L2.St, τ.length = σ.length → (L2.wipe τ is)[j]? = if j < σ.length then some none else none := fun τ hl => by
      cases h : (L2.wipe τ is)[j]? with
      | none =>
        rw [List.getElem?_eq_none_iff, L2.wipe_length, hl] at h
        rw [if_neg (by omega)]
      | some o =>
        have h1 : j < (L2.wipe τ is).length := (List.getElem?_eq_some_iff.mp h).1
        rw [L2.wipe_length, hl] at h1
        rw [if_pos h1]
        cases o with
        | none => rfl
        | some x => exact absurd hj (L2.wipe_some h).2
    rw [e _ (by rw [List.length_set]), e _ rfl]
  · have ne : i ≠ j := fun e => hj (e ▸ hi)
    rw [L2.wipe_out hj, L2.wipe_out hj, List.getElem?_set_ne ne]
def gNm (i : Nat) : DGt := fun x ρ P => P (ρ.set i (.fz x))
def gNil : DGts := fun xs ρ P => xs = [] ∧ P ρ
def gCns (g : DGt) (gs : DGts) : DGts := fun xs ρ P => ∃ x r, xs = x :: r ∧ g x ρ (fun ρ' => gs r ρ' P)
def gTp (n : Nat) (gs : DGts) : DGt := fun x ρ P => ∃ xs, x = .tuple xs ∧ xs.length = n ∧ gs xs ρ P
theorem dg_name (i : Nat) {x : Str} (hN : X.N.Nodup) (hi : X.N[i]? = some x := by rfl) (hx : Loc X.env.scope x := by first | exact Or.inl rfl | exact Or.inr rfl)
    (hf : X.fn x = true ∨ X.env.scope.names.lookup x = some .local := by first | exact .inl rfl | exact .inr rfl) : DG X [i] (.Name x pos) (gNm i) :=
  ⟨PG.imp (pg_name hN hi hx hf) fun v σ H Q ⟨b, F, ρ, y, P, R, q, p, k⟩ => k _ _ (R.setF i q) (fun is h => wipe_set (h i (by simp))) p⟩
theorem dgs_nil : DGs X [] [] gNil := ⟨PGs.imp pgs_nil fun v σ H Q ⟨b, F, ρ, y, P, R, q, p, k⟩ => by
  obtain ⟨rfl, p⟩ := p
  cases q
  exact ⟨rfl, k _ _ R (fun _ _ => rfl) p⟩⟩
theorem dgs_cons {vs ws : List Nat} {e : Expr} {es : List Expr} {g : DGt} {gs : DGts} (h : DG X vs e g) (h2 : DGs X ws es gs) (hs : (assignEach (e :: es) X.env).map (·.2) = assign e X.env :: (assignEach es X.env).map (·.2) := by rfl) : DGs X (vs ++ ws) (e :: es) (gCns g gs) :=
  ⟨PGs.imp (pgs_cons h.ok h2.ok hs) fun us σ H Q ⟨b, F, ρ, xs, P, R, q, p, k⟩ => by
    obtain ⟨x, r, rfl, p⟩ := p
    cases q with
    | cons q1 q2 =>
      refine ⟨_, _, rfl, b, F, ρ, x, _, R, q1, p, fun ρ1 σ1 R1 o1 p1 => ⟨b, F, ρ1, r, P, R1, q2, p1, fun ρ2 σ2 R2 o2 p2 => k ρ2 σ2 R2 (fun is hi => ?_) p2⟩⟩
      rw [o2 is fun i m => hi i (List.mem_append_right _ m), o1 is fun i m => hi i (List.mem_append_left _ m)]⟩
theorem dg_tup {vs : List Nat} {es : List Expr} {k n : Nat} {gs : DGts} (hc : X.calm = true) (h : DGs X vs es gs) (hn : (assignEach es X.env).length = n := by rfl) (hst : (assignEach es X.env).findIdx? (·.1) = none := by rfl) : DG X vs (.Tuple es k pos) (gTp n gs) :=
  ⟨PG.imp (pg_tup hc h.ok hn hst) fun v σ H Q ⟨b, F, ρ, y, P, R, q, p, k⟩ => by
    obtain ⟨xs, rfl, hl, p⟩ := p
    cases q with
    | tup e q => exact ⟨_, _, rfl, .of (R.same _ _ e), q.length.trans hl, b, F, ρ, xs, P, R, q, p, k⟩⟩
def dAsg (t : DT) (g : DGt) : DS := fun d Z ρ => t ρ (fun x => g x ρ d.nx) Z
theorem ds_asg {vs : List Nat} {tg e : Expr} {t : DT} {g : DGt} (h : DE X W .fz e t) (hg : DG X vs tg g) (hs : swapsWithSole [tg] e pos.line X.env = pure false := by rfl) (hw : swappedStores [tg] e X.env = pure none := by rfl)
    (h1 : (assignEach [tg] X.env).map (·.2) = [assign tg X.env] := by rfl) : DS1 X W rm (.Assign [tg] e pos) (dAsg t g) := by
  obtain ⟨te, p, s⟩ := h.ok
  exact ⟨_, ps_asg p hg.ok hs hw h1, fun b F H σ ρ D d Z R z q c => s b F H σ ρ _ _ Z R z q fun y v F' H' p g r f =>
    ⟨b, F', ρ, y, _, R.grow g, r, p, fun ρ' σ' R' _ p' => c.nx ρ' F' H' σ' g.f R' p'⟩⟩
end
end DL
set_option maxRecDepth 100000
set_option maxHeartbeats 4000000
/-! DL3: own roots changed, loops, comprehensions, calls, a def's contract. -/
namespace DL
open PySem PySem.Spec PyProof.Rows L2
variable {T : List (Addr × Str)}

/-! ### dicts by data -/
def OV (F : Hp) : Option V → Option D → Prop
  | none, none => True
  | some v, some d => Dq F v d
  | _, _ => False
theorem OV.is {F : Hp} {o : Option V} {r : Option D} (h : OV F o r) : o.isSome = r.isSome := by
  cases o <;> cases r <;> first | rfl | exact h.elim
theorem OV.val {F : Hp} {o : Option V} {d : D} (h : OV F o (some d)) : ∃ v, o = some v ∧ Dq F v d := by
  cases o with
  | none => exact h.elim
  | some v => exact ⟨v, rfl, h⟩
section
variable {κ : Type} [DecidableEq κ]
def valD (kds : List (κ × D)) (k : κ) : Option D := (kds.find? fun p => decide (p.1 = k)).map (·.2)
def putD (kds : List (κ × D)) (k : κ) (x : D) : List (κ × D) := if (kds.any fun p => decide (p.1 = k)) = true then kds.map (fun p => if p.1 = k then (p.1, x) else p) else kds ++ [(k, x)]
theorem kd_any {kvs : List (κ × V)} {kds : List (κ × D)} (h : kvs.map (·.1) = kds.map (·.1)) (k : κ) : (kvs.any fun p => decide (p.1 = k)) = kds.any fun p => decide (p.1 = k) := by
  have e : ∀ {β : Type} (l : List (κ × β)), (l.any fun p => decide (p.1 = k)) = (l.map (·.1)).any fun y => decide (y = k) := fun l => by rw [List.any_map]; rfl
  rw [e, e, h]
theorem kd_val {F : Hp} : ∀ {kvs : List (κ × V)} {kds : List (κ × D)} (k : κ), kvs.map (·.1) = kds.map (·.1) → DqA F (kvs.map (·.2)) (kds.map (·.2)) → OV F (valV kvs k) (valD kds k)
  | [], [], _, _, _ => by simp [valD, valV, OV]
  | [], _ :: _, _, h, _ => by simp at h
  | _ :: _, [], _, h, _ => by simp at h
  | p :: kvs, q :: kds, k, h, a => by
    simp only [List.map_cons, List.cons.injEq] at h
    cases a with
    | cons a1 a2 =>
      have ih := kd_val k h.2 a2
      by_cases e : q.1 = k
      · have e' : p.1 = k := h.1.trans e
        rw [show valD (q :: kds) k = some q.2 by simp [valD, List.find?_cons, e], valV_pos e']
        exact a1
      · have e' : ¬ p.1 = k := fun z => e (h.1.symm.trans z)
        rw [show valD (q :: kds) k = valD kds k by simp [valD, List.find?_cons, e], valV_neg e']
        exact ih
theorem kd_put_keys {kvs : List (κ × V)} {kds : List (κ × D)} (h : kvs.map (·.1) = kds.map (·.1)) (k : κ) (v : V) (x : D) : (putK kvs k v).map (·.1) = (putD kds k x).map (·.1) := by
  unfold putK putD
  rw [kd_any h k]
  split
  · rw [List.map_map, List.map_map]
    have e : ∀ {β : Type} (l : List (κ × β)) (y : β), l.map ((·.1) ∘ fun p => if p.1 = k then (p.1, y) else p) = l.map (·.1) := fun l y => by
      refine List.map_congr_left fun p _ => ?_
      show (if p.1 = k then (p.1, y) else p).1 = p.1
      split <;> rfl
    rw [e, e, h]
  · rw [List.map_append, List.map_append, h]
    rfl
theorem kd_put_vals {F : Hp} {v : V} {x : D} (hv : Dq F v x) (k : κ) : ∀ {kvs : List (κ × V)} {kds : List (κ × D)}, kvs.map (·.1) = kds.map (·.1) → DqA F (kvs.map (·.2)) (kds.map (·.2)) →
    DqA F ((kvs.map fun p => if p.1 = k then (p.1, v) else p).map (·.2)) ((kds.map fun p => if p.1 = k then (p.1, x) else p).map (·.2))
  | [], [], _, _ => .nil
  | [], _ :: _, h, _ => by simp at h
  | _ :: _, [], h, _ => by simp at h
  | p :: kvs, q :: kds, h, a => by
    simp only [List.map_cons, List.cons.injEq] at h
    cases a with
    | cons a1 a2 =>
      refine .cons ?_ (kd_put_vals hv k h.2 a2)
      by_cases e : q.1 = k
      · show Dq F (if p.1 = k then (p.1, v) else p).2 (if q.1 = k then (q.1, x) else q).2
        rw [if_pos (h.1.trans e), if_pos e]
        exact hv
      · show Dq F (if p.1 = k then (p.1, v) else p).2 (if q.1 = k then (q.1, x) else q).2
        rw [if_neg (fun z => e (h.1.symm.trans z)), if_neg e]
        exact a1
theorem kd_put {F : Hp} {kvs : List (κ × V)} {kds : List (κ × D)} {v : V} {x : D} (h : kvs.map (·.1) = kds.map (·.1)) (a : DqA F (kvs.map (·.2)) (kds.map (·.2))) (hv : Dq F v x) (k : κ) : DqA F ((putK kvs k v).map (·.2)) ((putD kds k x).map (·.2)) := by
  have e := kd_any h k
  unfold putK putD
  by_cases c : (kds.any fun p => decide (p.1 = k)) = true
  · rw [if_pos c, if_pos (e.trans c)]
    exact kd_put_vals hv k h a
  · rw [if_neg c, if_neg (by rw [e]; exact c), List.map_append, List.map_append]
    exact a.append (.cons hv .nil)
theorem kd_len {kvs : List (κ × V)} {kds : List (κ × D)} (h : kvs.map (·.1) = kds.map (·.1)) : kvs.length = kds.length := by
  have := congrArg List.length h
  simpa using this
end
theorem key_dq {F : Hp} : ∀ {ks : List Key} {vs : List V}, DqA F vs (ks.map keyD) → vs = ks.map kV
  | [], _, h => by cases h; rfl
  | k :: ks, _, h => by
    cases h with
    | cons a b =>
      rw [key_dq b]
      cases k with
      | inl i => cases a; rfl
      | inr x => cases a; rfl
theorem key1_dq {F : Hp} {k : Key} {v : V} (h : Dq F v (keyD k)) : v = kV k := by
  cases k with
  | inl i => cases h; rfl
  | inr x => cases h; rfl
theorem keyT_dq {F : Hp} {ks : List Key} {v : V} (h : Dq F v (keyT ks)) : ∃ a, v = .ref a ∧ F a = some (.tup (ks.map kV)) := by
  unfold keyT at h
  cases h with
  | tup e q =>
    rw [key_dq q] at e
    exact ⟨_, rfl, e⟩

section
variable {X : Cx} {W : WT} {rm : Md} {pos : Pos}
theorem lt5 {n : Nat} (h : n ≤ 100000) : n < sizeLine := Nat.lt_of_le_of_lt h (by decide)

/-! ### own roots changed -/
theorem own_mkL {F H : Hp} {p : Addr} {xs : List V} {ds : List D} (e : H p = some (.lst xs)) (q : DqA F xs ds) : Own F H p (.list ds) := ⟨xs, e, q⟩
theorem own_mkT {F H : Hp} {p : Addr} {kvs : List (List Key × V)} {kds : List (List Key × D)} (e : H p = some (.dT kvs)) (k : kvs.map (·.1) = kds.map (·.1)) (q : DqA F (kvs.map (·.2)) (kds.map (·.2))) : Own F H p (DL.dctT kds) := .inl ⟨kvs, kds, rfl, e, k, q⟩
theorem own_mkK {F H : Hp} {p : Addr} {kvs : List (Key × V)} {kds : List (Key × D)} (e : H p = some (.dK kvs)) (k : kvs.map (·.1) = kds.map (·.1)) (q : DqA F (kvs.map (·.2)) (kds.map (·.2))) : Own F H p (DL.dctK kds) := .inr ⟨kvs, kds, rfl, e, k, q⟩
section
variable {e : Expr} {x : Str} {p0 apos cpos : Pos} {t : DT}
def dApp (i : Nat) (t : DT) : DS := fun d Z ρ => ∃ ds, ρ[i]? = some (.ow (.list ds)) ∧ ds.length ≤ 100000 ∧ t ρ (fun y => d.nx (ρ.set i (.ow (.list (ds ++ [y]))))) Z
theorem ds_app (i : Nat) (hx : PE X (.Name x p0) (tVar i)) (h : DE X W .fz e t) (hs0 : swapsWith (.Call (.Attribute (.Name x p0) "append" apos) [e] [] cpos) none pos.line X.env = pure false := by rfl)
    (hbase : attributeBase (.Name x p0) "append" X.env (eval (.Name x p0) X.env) = eval (.Name x p0) X.env := by rfl)
    (hfew : ((backTo cpos (starEach (e :: []) X.env)).all (fun x => !x.1) && (backToKw cpos (keywordEach [] X.env)).all (fun x => x.1.isSome)
      && decide ((e :: []).length + ([] : List Keyword).length + (if ([] : List Keyword).isEmpty then 0 else 1) < 30)) = true := by rfl)
    (hline : (apos.endLine == cpos.line) = true := by rfl) (hs : starEach (e :: []) X.env = (false, eval e X.env) :: starEach [] X.env := by rfl) (hplain : (backTo cpos (starEach [] X.env)).any (·.1) = false := by rfl) :
    DS1 X W rm (.Expr (.Call (.Attribute (.Name x p0) "append" apos) [e] [] cpos) pos) (dApp i t) := by
  obtain ⟨te, p, s⟩ := h.ok
  refine ⟨_, ps_expr (pe_bm PySem.F.plainAttrs_list PySem.F.slot_list_append PySem.F.type_list_append mt_append hx (pa_cons p pa_nil hs) hbase hfew hline hs hplain) hs0, fun b F H σ ρ D d Z R z q c => ?_⟩
  obtain ⟨ds, e1, hl, q⟩ := q
  obtain ⟨a, es, n, n2, xs, hH, hq⟩ := R.ow e1 rfl
  refine ⟨.ref a, es, .inl ⟨rfl, _, SqL.of hH⟩, s b F H σ ρ _ _ Z R z q fun y v F1 H1 p1 g r f => ?_⟩
  refine ⟨a, xs, v, rfl, rfl, g.h.ap hH, by rw [hq.length]; exact lt5 hl, ?_⟩
  exact c.nx _ F1 _ σ g.f ((R.grow g).write e1 es (own_mkL upd_same ((hq.mono g.f).snoc r))) p1
def dExt (i : Nat) (t : DT) : DS := fun d Z ρ => ∃ ds, ρ[i]? = some (.ow (.list ds)) ∧ t ρ (fun y => ∃ es, y = .list es ∧ ds.length + es.length ≤ 100000 ∧ d.nx (ρ.set i (.ow (.list (ds ++ es))))) Z
theorem ds_ext (i : Nat) (hx : PE X (.Name x p0) (tVar i)) (h : DE X W .fz e t) (hs0 : swapsWith (.Call (.Attribute (.Name x p0) "extend" apos) [e] [] cpos) none pos.line X.env = pure false := by rfl)
    (hbase : attributeBase (.Name x p0) "extend" X.env (eval (.Name x p0) X.env) = eval (.Name x p0) X.env := by rfl)
    (hfew : ((backTo cpos (starEach (e :: []) X.env)).all (fun x => !x.1) && (backToKw cpos (keywordEach [] X.env)).all (fun x => x.1.isSome)
      && decide ((e :: []).length + ([] : List Keyword).length + (if ([] : List Keyword).isEmpty then 0 else 1) < 30)) = true := by rfl)
    (hline : (apos.endLine == cpos.line) = true := by rfl) (hs : starEach (e :: []) X.env = (false, eval e X.env) :: starEach [] X.env := by rfl) (hplain : (backTo cpos (starEach [] X.env)).any (·.1) = false := by rfl) :
    DS1 X W rm (.Expr (.Call (.Attribute (.Name x p0) "extend" apos) [e] [] cpos) pos) (dExt i t) := by
  obtain ⟨te, p, s⟩ := h.ok
  refine ⟨_, ps_expr (pe_bm PySem.F.plainAttrs_list PySem.F.slot_list_extend PySem.F.type_list_extend mt_extend hx (pa_cons p pa_nil hs) hbase hfew hline hs hplain) hs0, fun b F H σ ρ D d Z R z q c => ?_⟩
  obtain ⟨ds, e1, q⟩ := q
  obtain ⟨a, es, n, n2, xs, hH, hq⟩ := R.ow e1 rfl
  refine ⟨.ref a, es, .inl ⟨rfl, _, SqL.of hH⟩, s b F H σ ρ _ _ Z R z q fun y v F1 H1 p1 g r f => ?_⟩
  obtain ⟨ls, rfl, hl, p1⟩ := p1
  cases r with
  | lst eF qF =>
    rename_i a2 ys
    refine ⟨a, a2, xs, ys, rfl, rfl, g.h.ap hH, g.s _ _ eF, by rw [hq.length, qF.length]; exact sz5 hl, ?_⟩
    exact c.nx _ F1 _ σ g.f ((R.grow g).write e1 es (own_mkL upd_same ((hq.mono g.f).append qF))) p1
def dRev (i : Nat) : DS := fun d Z ρ => ∃ ds, ρ[i]? = some (.ow (.list ds)) ∧ d.nx (ρ.set i (.ow (.list ds.reverse)))
theorem ds_rev (i : Nat) (hx : PE X (.Name x p0) (tVar i)) (hs0 : swapsWith (.Call (.Attribute (.Name x p0) "reverse" apos) [] [] cpos) none pos.line X.env = pure false := by rfl)
    (hbase : attributeBase (.Name x p0) "reverse" X.env (eval (.Name x p0) X.env) = eval (.Name x p0) X.env := by rfl) (hline : (apos.endLine == cpos.line) = true := by rfl) :
    DS1 X W rm (.Expr (.Call (.Attribute (.Name x p0) "reverse" apos) [] [] cpos) pos) (dRev i) := by
  refine ⟨_, ps_expr (pe_bm0 PySem.F.plainAttrs_list PySem.F.slot_list_reverse PySem.F.type_list_reverse mt_reverse hx hbase hline) hs0, fun b F H σ ρ D d Z R z q c => ?_⟩
  obtain ⟨ds, e1, q⟩ := q
  obtain ⟨a, es, n, n2, xs, hH, hq⟩ := R.ow e1 rfl
  refine ⟨.ref a, es, .inl ⟨rfl, _, SqL.of hH⟩, a, xs, rfl, rfl, hH, ?_⟩
  exact c.nx _ F _ σ (Same.refl _) (R.write e1 es (own_mkL upd_same hq.reverse)) q
end
/-- xs[k] = e -/
def dPutL (i : Nat) (tk t : DT) : DS := fun d Z ρ => ∃ ds, ρ[i]? = some (.ow (.list ds)) ∧ t ρ (fun y => tk ρ (fun k => ∃ n j, k = .int n ∧ ixN ds.length n = some j ∧ d.nx (ρ.set i (.ow (.list (ds.set j y))))) Z) Z
theorem ds_putL (i : Nat) {x : Str} {p0 tpos : Pos} {k e : Expr} {tk t : DT} (hx : PE X (.Name x p0) (tVar i)) (hk : DE X W .fz k tk) (h : DE X W .fz e t)
    (ha : ∀ v, assign (.Subscript (.Name x p0) k tpos) X.env v = (do
      let ov ← holding [v] (eval (.Name x p0) X.env)
      let iv ← holding [v, ov] (eval k X.env)
      standAt tpos
      holding [v, ov, iv] (setItem ov iv v)
      release [v, ov, iv] []) := by intro _; rfl)
    (hs : swapsWithSole [.Subscript (.Name x p0) k tpos] e pos.line X.env = pure false := by rfl) (hw : swappedStores [.Subscript (.Name x p0) k tpos] e X.env = pure none := by rfl)
    (h1 : (assignEach [.Subscript (.Name x p0) k tpos] X.env).map (·.2) = [assign (.Subscript (.Name x p0) k tpos) X.env] := by rfl) : DS1 X W rm (.Assign [.Subscript (.Name x p0) k tpos] e pos) (dPutL i tk t) := by
  obtain ⟨te, p, s⟩ := h.ok
  obtain ⟨tek, pk, sk⟩ := hk.ok
  refine ⟨_, ps_asg p (pg_sub hx pk set_list ha) hs hw h1, fun b F H σ ρ D d Z R z q c => ?_⟩
  obtain ⟨ds, e1, q⟩ := q
  obtain ⟨a, es, n, n2, xs, hH, hq⟩ := R.ow e1 rfl
  refine s b F H σ ρ _ _ Z R z q fun y v F1 H1 p1 g r f => ⟨.ref a, es, sk b F1 H1 σ ρ _ _ Z (R.grow g) (z.mono g.f) p1 fun y2 v2 F2 H2 p2 g2 r2 f2 => ?_⟩
  obtain ⟨m, j, rfl, hj, p2⟩ := p2
  cases r2
  have hl : xs.length = ds.length := hq.length
  refine ⟨a, xs, m, j, rfl, rfl, g2.h.ap (g.h.ap hH), by rw [hl]; exact hj, ?_⟩
  exact c.nx _ F2 _ σ (g.f.trans g2.f) (((R.grow g).grow g2).write e1 es (own_mkL upd_same (((hq.mono g.f).mono g2.f).set j (r.mono g2.f)))) p2
/-- d[k] = e: keys are tuples -/
def dPutT (i : Nat) (tk t : DT) : DS := fun d Z ρ => ∃ kds, ρ[i]? = some (.ow (dctT kds)) ∧ kds.length ≤ 100000 ∧ t ρ (fun y => tk ρ (fun k => ∃ ks, k = keyT ks ∧ d.nx (ρ.set i (.ow (dctT (putD kds ks y))))) Z) Z
theorem own_T {F H : Hp} {p : Addr} {kds : List (List Key × D)} (o : Own F H p (dctT kds)) : ∃ kvs : List (List Key × V), H p = some (.dT kvs) ∧ kvs.map (·.1) = kds.map (·.1) ∧ DqA F (kvs.map (·.2)) (kds.map (·.2)) := by
  rcases o with ⟨kvs, kds', e1, e, k, q⟩ | ⟨kvs, kds', e1, e, k, q⟩
  · have h : kds = kds' := dctT_inj (congrArg PyData.dict e1)
    subst h
    exact ⟨kvs, e, k, q⟩
  · exact (dctT_ne (congrArg PyData.dict e1)).elim
theorem own_K {F H : Hp} {p : Addr} {kds : List (Key × D)} (o : Own F H p (dctK kds)) : ∃ kvs : List (Key × V), H p = some (.dK kvs) ∧ kvs.map (·.1) = kds.map (·.1) ∧ DqA F (kvs.map (·.2)) (kds.map (·.2)) := by
  rcases o with ⟨kvs, kds', e1, e, k, q⟩ | ⟨kvs, kds', e1, e, k, q⟩
  · exact (dctT_ne (congrArg PyData.dict e1).symm).elim
  · have h : kds = kds' := dctK_inj (congrArg PyData.dict e1)
    subst h
    exact ⟨kvs, e, k, q⟩
theorem ds_putT (i : Nat) {x : Str} {p0 tpos : Pos} {k e : Expr} {tk t : DT} (hu : X.A.units + 1 < cLine) (hx : PE X (.Name x p0) (tVar i)) (hk : DE X W .fz k tk) (h : DE X W .fz e t)
    (hs : swapsWith e (some (.Subscript (.Name x p0) k tpos)) pos.line X.env = pure false := by rfl) : DS1 X W rm (.Assign [.Subscript (.Name x p0) k tpos] e pos) (dPutT i tk t) := by
  obtain ⟨te, p, s⟩ := h.ok
  obtain ⟨tek, pk, sk⟩ := hk.ok
  refine ⟨_, ps_dput hu hx pk p hs, fun b F H σ ρ D d Z R z q c => ?_⟩
  obtain ⟨kds, e1, hl, q⟩ := q
  obtain ⟨a, es, n, n2, o⟩ := R.ow e1 rfl
  obtain ⟨kvs, hH, hk1, hq⟩ := own_T o
  refine s b F H σ ρ _ _ Z R z q fun y v F1 H1 p1 g r f => ⟨.ref a, es, sk b F1 H1 σ ρ _ _ Z (R.grow g) (z.mono g.f) p1 fun y2 v2 F2 H2 p2 g2 r2 f2 => ?_⟩
  obtain ⟨ks, rfl, p2⟩ := p2
  obtain ⟨c2, rfl, ec⟩ := keyT_dq r2
  refine ⟨a, _, rfl, DPut.t (g2.h.ap (g.h.ap hH)) (g2.s _ _ ec) (by rw [kd_len hk1]; exact lt5 hl), ?_⟩
  exact c.nx _ F2 _ σ (g.f.trans g2.f) (((R.grow g).grow g2).write e1 es (own_mkT upd_same (kd_put_keys hk1 ks v y) (kd_put hk1 ((hq.mono g.f).mono g2.f) (r.mono g2.f) ks))) p2
/-- .. ints or texts -/
def dPutK (i : Nat) (tk t : DT) : DS := fun d Z ρ => ∃ kds, ρ[i]? = some (.ow (dctK kds)) ∧ kds.length ≤ 100000 ∧ t ρ (fun y => tk ρ (fun k => ∃ ks, k = keyD ks ∧ d.nx (ρ.set i (.ow (dctK (putD kds ks y))))) Z) Z
theorem ds_putK (i : Nat) {x : Str} {p0 tpos : Pos} {k e : Expr} {tk t : DT} (hu : X.A.units + 1 < cLine) (hx : PE X (.Name x p0) (tVar i)) (hk : DE X W .fz k tk) (h : DE X W .fz e t)
    (hs : swapsWith e (some (.Subscript (.Name x p0) k tpos)) pos.line X.env = pure false := by rfl) : DS1 X W rm (.Assign [.Subscript (.Name x p0) k tpos] e pos) (dPutK i tk t) := by
  obtain ⟨te, p, s⟩ := h.ok
  obtain ⟨tek, pk, sk⟩ := hk.ok
  refine ⟨_, ps_dput hu hx pk p hs, fun b F H σ ρ D d Z R z q c => ?_⟩
  obtain ⟨kds, e1, hl, q⟩ := q
  obtain ⟨a, es, n, n2, o⟩ := R.ow e1 rfl
  obtain ⟨kvs, hH, hk1, hq⟩ := own_K o
  refine s b F H σ ρ _ _ Z R z q fun y v F1 H1 p1 g r f => ⟨.ref a, es, sk b F1 H1 σ ρ _ _ Z (R.grow g) (z.mono g.f) p1 fun y2 v2 F2 H2 p2 g2 r2 f2 => ?_⟩
  obtain ⟨ks, rfl, p2⟩ := p2
  have ec := key1_dq r2
  subst ec
  refine ⟨a, _, rfl, DPut.k (g2.h.ap (g.h.ap hH)) (by rw [kd_len hk1]; exact lt5 hl), ?_⟩
  exact c.nx _ F2 _ σ (g.f.trans g2.f) (((R.grow g).grow g2).write e1 es (own_mkK upd_same (kd_put_keys hk1 ks v y) (kd_put hk1 ((hq.mono g.f).mono g2.f) (r.mono g2.f) ks))) p2
end
end DL
set_option maxRecDepth 100000
set_option maxHeartbeats 4000000
/-! DL4: loops, comprehensions, calls, a def's contract. -/
namespace DL
open PySem PySem.Spec PyProof.Rows L2
variable {T : List (Addr × Str)}

/-! ### what is walked -/
/-- c: no own root is written while it is walked (a comprehension) -/
structure ItOk (c : Bool) (b : B) (F0 H0 : Hp) (J : It) (L : List D) : Prop where
  go : ∀ i F H, i < L.length → Same F0 F → Grow b.T b.F b.H F H → (c = true → Ext b.T H0 H) → J.go i H
  stop : ∀ F H, Same F0 F → Grow b.T b.F b.H F H → (c = true → Ext b.T H0 H) → J.stop L.length H
  yld : ∀ i F H x H' d, L[i]? = some d → Same F0 F → Grow b.T b.F b.H F H → (c = true → Ext b.T H0 H) → J.yld i H x H' → ∃ F', Grow b.T F H F' H' ∧ Dq F' x d
abbrev DTi := List Sl → (List D → Prop) → Zs → Prop
structure DI (X : Cx) (W : WT) (c : Bool) (tg iter : Expr) (t : DTi) : Prop where
  ok : ∃ wi : TI, PI X tg iter wi ∧ ∀ (b : B) (F H : Hp) (σ : L2.St) (ρ : List Sl) (R : It → Hp → Prop) (P : List D → Prop) (Z : Zs), Rep X.K b F H σ ρ → ZOk X.mg X.K b F Z W → t ρ P Z →
    (∀ L J F' H', P L → Grow b.T F H F' H' → ItOk c b F' H' J L → R J H') → wi σ H R
section
variable {X : Cx} {W : WT} {tg : Expr}
/-- a list or a tuple -/
theorem pi_seq {l : Expr} {tl : TE} (hl : PE X l tl) : PI X tg l (fun σ H R => tl σ H fun x H1 => ∃ a, x = .ref a ∧ (((∃ xs, SqL X.K H1 a xs) ∧ R (Itl X.K a) H1) ∨ ((∃ xs, SqT X.K H1 a xs) ∧ R (Itt X.K a) H1))) := by
  refine ⟨fun pins s σ H R I h => ?_⟩
  refine thn (hl.run pins s σ H _ I h) fun v s1 ⟨x, H1, I1, r1, q1⟩ => ?_
  obtain ⟨a, e, q1⟩ := q1
  subst e
  cases r1
  rcases q1 with ⟨⟨xs, hq⟩, q⟩ | ⟨⟨xs, hq⟩, q⟩
  · obtain ⟨its, rv, p, hz⟩ := I1.list hq
    refine wpAny_pyIter_list p.isList ?_
    refine ⟨s1.heap.objs.size, [s1.heap.objs.size], _, _, H1, rfl, I1.kept (t' := s1.toks) fun b o e => Heap.get?_push_of_some _ e, turn_list a _, ⟨_, Heap.get?_push_size _ rfl, rfl, rfl⟩, fun b hb => ?_, q⟩
    have e : b = s1.heap.objs.size := by simpa using hb
    subst e
    exact I1.fpOk (Nat.le_refl _) (I1.hok.fresh (Nat.le_refl _))
  · obtain ⟨its, rv, p, hz⟩ := I1.tuple hq
    refine wpAny_pyIter_tuple (show s1.heap.IsTuple a its.toArray from p) ?_
    refine ⟨s1.heap.objs.size, [s1.heap.objs.size], _, _, H1, rfl, I1.kept (t' := s1.toks) fun b o e => Heap.get?_push_of_some _ e, turn_tuple a _, ⟨_, Heap.get?_push_size _ rfl, rfl, rfl⟩, fun b hb => ?_, q⟩
    have e : b = s1.heap.objs.size := by simpa using hb
    subst e
    exact I1.fpOk (Nat.le_refl _) (I1.hok.fresh (Nat.le_refl _))
/-- a list is only one -/
theorem sqL_inj {K : PySem.W.Frag} {H : Hp} {a : Addr} {xs ys : List V} (h : ∀ zs, SqL K H a zs → zs = xs) (h2 : SqL K H a ys) : ys = xs := h ys h2
/-- what is readable for good, now -/
theorem vr_now {K : PySem.W.Frag} {b : B} {F H F' H' : Hp} {v : V} {d : D} (r : VR .st K b F H v d) (s : Same F F') (g : Grow b.T b.F b.H F' H') : VR .rd K b F' H' v d := by
  rcases r with r | ⟨p, e, r⟩
  · exact .inl (r.mono s)
  · exact .inr ⟨p, e, r.same g.f g.h⟩
def dIt (t : DT) : DTi := fun ρ P Z => t ρ (fun x => ∃ ds, (x = .list ds ∨ x = .tuple ds) ∧ P ds) Z
theorem itl_ok {c : Bool} {K : PySem.W.Frag} {b : B} {F0 H0 : Hp} {a : Addr} {ds : List D} (get : ∀ F H, Same F0 F → Grow b.T b.F b.H F H → (c = true → Ext b.T H0 H) → ∃ xs, SqL K H a xs ∧ DqA F xs ds) : ItOk c b F0 H0 (Itl K a) ds := by
  refine ⟨fun i F H hi s g hc => ?_, fun F H s g hc => ?_, fun i F H x H' d hd s g hc y => ?_⟩
  · obtain ⟨xs, q, dq⟩ := get F H s g hc
    have hx : i < xs.length := by rw [dq.length]; exact hi
    exact ⟨xs, xs[i], q, List.getElem?_eq_getElem hx⟩
  · obtain ⟨xs, q, dq⟩ := get F H s g hc
    exact ⟨xs, q, by rw [dq.length]; exact Nat.le_refl _⟩
  · obtain ⟨xs, q, dq⟩ := get F H s g hc
    obtain ⟨rfl, y⟩ := y
    obtain ⟨d', h1, h2⟩ := dq.get' (y xs q)
    rw [hd] at h1
    cases h1
    exact ⟨F, .refl g, h2⟩
theorem itt_ok {c : Bool} {K : PySem.W.Frag} {b : B} {F0 H0 : Hp} {a : Addr} {ds : List D} (get : ∀ F H, Same F0 F → Grow b.T b.F b.H F H → (c = true → Ext b.T H0 H) → ∃ xs, SqT K H a xs ∧ DqA F xs ds) : ItOk c b F0 H0 (Itt K a) ds := by
  refine ⟨fun i F H hi s g hc => ?_, fun F H s g hc => ?_, fun i F H x H' d hd s g hc y => ?_⟩
  · obtain ⟨xs, q, dq⟩ := get F H s g hc
    have hx : i < xs.length := by rw [dq.length]; exact hi
    exact ⟨xs, xs[i], q, List.getElem?_eq_getElem hx⟩
  · obtain ⟨xs, q, dq⟩ := get F H s g hc
    exact ⟨xs, q, by rw [dq.length]; exact Nat.le_refl _⟩
  · obtain ⟨xs, q, dq⟩ := get F H s g hc
    obtain ⟨rfl, y⟩ := y
    obtain ⟨d', h1, h2⟩ := dq.get' (y xs q)
    rw [hd] at h1
    cases h1
    exact ⟨F, .refl g, h2⟩
theorem getL {c : Bool} {K : PySem.W.Frag} {b : B} {F0 H0 : Hp} {v : V} {ds : List D} (r : ∀ F H, Same F0 F → Grow b.T b.F b.H F H → (c = true → Ext b.T H0 H) → VR .rd K b F H v (.list ds)) {a : Addr} (e : v = .ref a) : ∀ F H, Same F0 F → Grow b.T b.F b.H F H → (c = true → Ext b.T H0 H) → ∃ xs, SqL K H a xs ∧ DqA F xs ds := fun F H s g hc => by
  obtain ⟨p, xs, e2, q, dq⟩ := vr_lst g.s (r F H s g hc)
  rw [e] at e2
  cases e2
  exact ⟨xs, q, dq⟩
theorem getT {c : Bool} {K : PySem.W.Frag} {b : B} {F0 H0 : Hp} {v : V} {ds : List D} (r : ∀ F H, Same F0 F → Grow b.T b.F b.H F H → (c = true → Ext b.T H0 H) → VR .rd K b F H v (.tuple ds)) {a : Addr} (e : v = .ref a) : ∀ F H, Same F0 F → Grow b.T b.F b.H F H → (c = true → Ext b.T H0 H) → ∃ xs, SqT K H a xs ∧ DqA F xs ds := fun F H s g hc => by
  obtain ⟨p, xs, e2, q, dq⟩ := vr_tup g.s (r F H s g hc)
  rw [e] at e2
  cases e2
  exact ⟨xs, q, dq⟩
/-- readable as long as it is walked -/
def Wkb (c : Bool) (m : Md) : Prop := m = .st ∨ (c = true ∧ m = .rd)
theorem wk_vr {c : Bool} {m : Md} (hm : Wkb c m) {K : PySem.W.Frag} {b : B} {F0 H0 : Hp} {v : V} {d : D} (r : VR m K b F0 H0 v d) : ∀ F H, Same F0 F → Grow b.T b.F b.H F H → (c = true → Ext b.T H0 H) → VR .rd K b F H v d := fun F H s g hc => by
  rcases hm with rfl | ⟨hc1, rfl⟩
  · exact vr_now r s g
  · rcases r with r | ⟨p, e, r⟩
    · exact .inl (r.mono s)
    · exact .inr ⟨p, e, r.same s (hc hc1)⟩
theorem di_seq {c : Bool} {m : Md} {e : Expr} {t : DT} (h : DE X W m e t) (hm : Wkb c m := by first | exact .inl rfl | exact .inr ⟨rfl, rfl⟩) : DI X W c tg e (dIt t) := by
  obtain ⟨te, p, s⟩ := h.ok
  refine ⟨_, pi_seq p, fun b F H σ ρ R P Z R1 z q k => s b F H σ ρ _ _ Z R1 z q fun x v F' H' p g r f => ?_⟩
  obtain ⟨ds, e, p⟩ := p
  have g0 := R1.g.trans g
  have w := wk_vr hm r
  rcases e with rfl | rfl
  · obtain ⟨a, xs, e, q, dq⟩ := vr_lst g0.s (w F' H' (Same.refl _) g0 fun _ => Ext.refl _)
    exact ⟨a, e, .inl ⟨⟨xs, q⟩, k ds _ F' H' p g (itl_ok (getL w e))⟩⟩
  · obtain ⟨a, xs, e, q, dq⟩ := vr_tup g0.s (w F' H' (Same.refl _) g0 fun _ => Ext.refl _)
    exact ⟨a, e, .inr ⟨⟨xs, q⟩, k ds _ F' H' p g (itt_ok (getT w e))⟩⟩
def rangeD (lo : Int) (n : Nat) : List D := (List.range n).map fun i => .int (lo + (i : Nat))
theorem itr_ok {c : Bool} {b : B} {F0 H0 : Hp} {lo : Int} {n : Nat} : ItOk c b F0 H0 (Itr lo n) (rangeD lo n) := by
  have hl : (rangeD lo n).length = n := by unfold rangeD; rw [List.length_map, List.length_range]
  refine ⟨fun i F H hi s g _ => by rw [hl] at hi; exact hi, fun F H s g _ => by rw [hl]; exact Nat.le_refl _, fun i F H x H' d hd s g _ y => ?_⟩
  obtain ⟨rfl, rfl⟩ := y
  unfold rangeD at hd
  rw [List.getElem?_map] at hd
  obtain ⟨j, hj, rfl⟩ := Option.map_eq_some_iff.mp hd
  have : j = i := by
    obtain ⟨hlt, e⟩ := List.getElem?_eq_some_iff.mp hj
    rw [List.getElem_range] at e
    exact e.symm
  subst this
  exact ⟨F, .refl g, .int _⟩
def dRng1 (ta : DTa) : DTi := fun ρ P Z => ta ρ (fun ds => ∃ j : Int, ds = [.int j] ∧ -(2 ^ 62) ≤ j ∧ j < 2 ^ 62 ∧ P (rangeD 0 j.toNat)) Z
def dRng2 (ta : DTa) : DTi := fun ρ P Z => ta ρ (fun ds => ∃ i j : Int, ds = [.int i, .int j] ∧ (-(2 ^ 62) ≤ i ∧ i < 2 ^ 62 ∧ -(2 ^ 62) ≤ j ∧ j < 2 ^ 62) ∧ P (rangeD i (j - i).toNat)) Z
theorem di_range1 {c : Bool} {a : Expr} {ta : DTa} {p pos : Pos} (hm : X.mg "range" = none) (ha : DA X W [.fz] [a] ta) (hg : Gl X "range" := by rfl) (hs : starEach [a] X.env = [(false, eval a X.env)] := by rfl) : DI X W c tg (.Call (.Name "range" p) [a] [] pos) (dRng1 ta) := by
  obtain ⟨te, p, s⟩ := ha.ok
  refine ⟨_, pi_range1 hg hm p hs, fun b F H σ ρ R P Z R1 z q k => s b F H σ ρ _ _ Z R1 z q fun ds vs F' H' p g r => ?_⟩
  obtain ⟨j, rfl, h1, h2, p⟩ := p
  cases r with
  | cons r rr =>
    cases rr
    cases r
    exact ⟨j, rfl, h1, h2, k _ _ F' H' p g itr_ok⟩
theorem di_range2 {cc : Bool} {a c : Expr} {ta : DTa} {p pos : Pos} (hm : X.mg "range" = none) (ha : DA X W [.fz, .fz] [a, c] ta) (hg : Gl X "range" := by rfl) (hs : starEach [a, c] X.env = [(false, eval a X.env), (false, eval c X.env)] := by rfl) (hs2 : starEach [c] X.env = [(false, eval c X.env)] := by rfl) : DI X W cc tg (.Call (.Name "range" p) [a, c] [] pos) (dRng2 ta) := by
  obtain ⟨te, p, s⟩ := ha.ok
  refine ⟨_, pi_range2 hg hm p hs hs2, fun b F H σ ρ R P Z R1 z q k => s b F H σ ρ _ _ Z R1 z q fun ds vs F' H' p g r => ?_⟩
  obtain ⟨i, j, rfl, h1, p⟩ := p
  cases r with
  | cons r rr =>
    cases r
    cases rr with
    | cons r rr =>
      cases r
      cases rr
      exact ⟨i, j, rfl, h1, k _ _ F' H' p g itr_ok⟩
/-- enumerate -/
def enumD (ds : List D) : List D := ds.mapIdx fun i x => .tuple [.int (i : Nat), x]
def dEnum (ta : DTa) : DTi := fun ρ P Z => ta ρ (fun ds => ∃ xs, ds = [.list xs] ∧ P (enumD xs)) Z
theorem ite_ok {c : Bool} {K : PySem.W.Frag} {b : B} {F0 H0 : Hp} {a : Addr} {ds : List D} (get : ∀ F H, Same F0 F → Grow b.T b.F b.H F H → (c = true → Ext b.T H0 H) → ∃ xs, SqL K H a xs ∧ DqA F xs ds) : ItOk c b F0 H0 (Ite K a) (enumD ds) := by
  have hl : (enumD ds).length = ds.length := by unfold enumD; rw [List.length_mapIdx]
  refine ⟨fun i F H hi s g hc => ?_, fun F H s g hc => ?_, fun i F H x H' d hd s g hc y => ?_⟩
  · obtain ⟨xs, q, dq⟩ := get F H s g hc
    have hx : i < xs.length := by rw [dq.length, ← hl]; exact hi
    exact ⟨xs, xs[i], q, List.getElem?_eq_getElem hx⟩
  · obtain ⟨xs, q, dq⟩ := get F H s g hc
    exact ⟨xs, q, by rw [dq.length, hl]; exact Nat.le_refl _⟩
  · obtain ⟨xs, q, dq⟩ := get F H s g hc
    obtain ⟨T, w, rfl, nT, rfl, y⟩ := y
    obtain ⟨d', h1, h2⟩ := dq.get' (y xs q)
    unfold enumD at hd
    rw [List.getElem?_mapIdx, h1] at hd
    cases hd
    have g2 := Grow.new g (HO.tup [.int (i : Nat), w]) nT
    exact ⟨_, g2, .tup upd_same (.cons (.int _) (.cons (h2.mono g2.f) .nil))⟩
theorem di_enum {c : Bool} {m : Md} {elts : List Expr} {kk : Nat} {tpos p pos : Pos} {e : Expr} {ta : DTa} (hm : X.mg "enumerate" = none) (ha : DA X W [m] [e] ta) (hw : Wkb c m := by first | exact .inl rfl | exact .inr ⟨rfl, rfl⟩) (hg : Gl X "enumerate" := by rfl) (hs : starEach [e] X.env = [(false, eval e X.env)] := by rfl) : DI X W c (.Tuple elts kk tpos) (.Call (.Name "enumerate" p) [e] [] pos) (dEnum ta) := by
  obtain ⟨te, p, s⟩ := ha.ok
  refine ⟨_, pi_enum hg hm p hs, fun b F H σ ρ R P Z R1 z q k => s b F H σ ρ _ _ Z R1 z q fun ds vs F' H' p g r => ?_⟩
  obtain ⟨xs, rfl, p⟩ := p
  cases r with
  | cons r rr =>
    cases rr
    have g0 := R1.g.trans g
    have w := wk_vr hw r
    obtain ⟨a, ys, e, q, dq⟩ := vr_lst g0.s (w F' H' (Same.refl _) g0 fun _ => Ext.refl _)
    exact ⟨a, ys, by rw [e], q, k _ _ F' H' p g (ite_ok (getL w e))⟩

/-! ### for -/
variable {rm : Md} {pos : Pos}
/-- fs: the slots that a turn leaves behind -/
def dFor (fs : List Nat) (ti : DTi) (g : DGt) (tb : DS) : DS := fun d Z ρ => ti ρ (fun L => ∃ I : Nat → List Sl → Prop, I 0 (fgt fs ρ) ∧ (∀ ρ', I L.length ρ' → d.nx ρ') ∧
  ∀ i x ρ', L[i]? = some x → I i ρ' → g x ρ' (fun ρ2 => tb { d with nx := fun ρ3 => I (i + 1) (fgt fs ρ3), ct := fun ρ3 => I (i + 1) (fgt fs ρ3), bk := d.nx } Z ρ2)) Z
theorem ds_for (fs : List Nat) {vs : List Nat} {iter : Expr} {body : List Stmt} {ti : DTi} {g : DGt} {tb : DS} (hp : PassesOwn (model X.prog X.w) X.A X.env X.xe) (hc : X.calm = true) (hi : DI X W false tg iter ti) (hg : DG X vs tg g) (hb : DSs X W rm body tb)
    (hs : ∀ x, foldedSetIterable iter X.env x = pure x := by intro _; rfl) : DS1 X W rm (.For tg iter body [] pos) (dFor fs ti g tb) := by
  obtain ⟨wi, pi, si⟩ := hi.ok
  obtain ⟨tbb, pb, sb⟩ := hb.ok
  refine ⟨_, ps_for hp hc pi hg.ok pb hs, fun b F H σ ρ D d Z R z q c => si b F H σ ρ _ _ Z R z q fun L J F1 H1 p g1 ok => ?_⟩
  obtain ⟨I, i0, ie, it⟩ := p
  refine ⟨fun i m σ' H' => i + m = L.length ∧ ∃ F' ρ', Same F1 F' ∧ Rep X.K b F' H' σ' ρ' ∧ I i ρ', ⟨L.length, by omega, F1, _, Same.refl _, (R.grow g1).fgt fs, i0⟩, ?_⟩
  rintro i m σ' H' ⟨em, F', ρ', s, R', hI⟩
  by_cases hi : i < L.length
  · refine .inr ⟨ok.go i F' H' hi s R'.g (fun z => nomatch z), fun σ2 H2 => ∃ F2 ρ2, Same F1 F2 ∧ Rep X.K b F2 H2 σ2 ρ2 ∧ I (i + 1) ρ2, fun σ2 H2 hN => ⟨m - 1, by omega, by omega, hN⟩, fun x H2 hy => ?_⟩
    obtain ⟨F2, g2, dq⟩ := ok.yld i F' H' x H2 _ (List.getElem?_eq_getElem hi) s R'.g (fun z => nomatch z) hy
    refine ⟨b, F2, ρ', _, _, R'.grow g2, dq, it i _ ρ' (List.getElem?_eq_getElem hi) hI, fun ρ3 σ3 R3 _ p3 => ?_⟩
    have s2 : Same F1 F2 := s.trans g2.f
    refine sb b F2 H2 σ3 ρ3 _ _ Z R3 (z.mono (g1.f.trans s2)) p3 ⟨fun ρ4 F4 H4 σ4 s4 R4 p4 => ⟨F4, _, s2.trans s4, R4.fgt fs, p4⟩, fun ρ4 F4 H4 σ4 s4 R4 p4 => c.nx ρ4 F4 H4 σ4 (g1.f.trans (s2.trans s4)) R4 p4, fun ρ4 F4 H4 σ4 s4 R4 p4 => ⟨F4, _, s2.trans s4, R4.fgt fs, p4⟩, c.rt⟩
  · have e : i = L.length := by omega
    subst e
    exact .inl ⟨ok.stop F' H' s R'.g (fun z => nomatch z), c.nx ρ' F' H' σ' (g1.f.trans s) R' (ie ρ' hI)⟩
/-- while: the invariant by a measure -/
def dWhile (fs : List Nat) (t : DTt) (tb : DS) : DS := fun d Z ρ => ∃ I : Nat → List Sl → Prop, (∃ m, I m (fgt fs ρ)) ∧ ∀ m ρ', I m ρ' →
  t ρ' (fun c => (c = true → tb { d with nx := fun ρ3 => ∃ m', m' < m ∧ I m' (fgt fs ρ3), ct := fun ρ3 => ∃ m', m' < m ∧ I m' (fgt fs ρ3), bk := d.nx } Z ρ') ∧ (c = false → d.nx ρ')) Z
theorem ds_while (fs : List Nat) {c : Expr} {body : List Stmt} {t : DTt} {tb : DS} (hp : PassesOwn (model X.prog X.w) X.A X.env X.xe) (hc : DEt X W c t) (hb : DSs X W rm body tb) : DS1 X W rm (.While c body [] pos) (dWhile fs t tb) := by
  obtain ⟨tt, pt, st⟩ := hc.ok
  obtain ⟨tbb, pb, sb⟩ := hb.ok
  refine ⟨_, ps_while hp pt pb, fun b F H σ ρ D d Z R z q cn => ?_⟩
  obtain ⟨I, ⟨m0, i0⟩, it⟩ := q
  refine ⟨fun m σ' H' => ∃ F' ρ', Same F F' ∧ Rep X.K b F' H' σ' ρ' ∧ I m ρ', ⟨m0, F, _, Same.refl _, R.fgt fs, i0⟩, ?_⟩
  rintro m σ' H' ⟨F', ρ', s, R', hI⟩
  refine st b F' H' σ' ρ' _ _ Z R' (z.mono s) (it m ρ' hI) fun k F2 H2 p2 g2 => ?_
  have s2 : Same F F2 := s.trans g2.f
  cases k with
  | true =>
    refine ⟨fun σ3 H3 => ∃ F3 ρ3, Same F F3 ∧ Rep X.K b F3 H3 σ3 ρ3 ∧ ∃ m', m' < m ∧ I m' ρ3, fun σ3 H3 ⟨F3, ρ3, s3, R3, m', hm, p⟩ => ⟨m', hm, F3, ρ3, s3, R3, p⟩, ?_⟩
    exact sb b F2 H2 σ' ρ' _ _ Z (R'.grow g2) (z.mono s2) (p2.1 rfl) ⟨fun ρ4 F4 H4 σ4 s4 R4 ⟨m', hm, p4⟩ => ⟨F4, _, s2.trans s4, R4.fgt fs, m', hm, p4⟩, fun ρ4 F4 H4 σ4 s4 R4 p4 => cn.nx ρ4 F4 H4 σ4 (s2.trans s4) R4 p4, fun ρ4 F4 H4 σ4 s4 R4 ⟨m', hm, p4⟩ => ⟨F4, _, s2.trans s4, R4.fgt fs, m', hm, p4⟩, cn.rt⟩
  | false => exact cn.nx ρ' F2 H2 σ' s2 (R'.grow g2) (p2.2 rfl)

/-! ### comprehensions -/
abbrev W0 (T : List (Addr × Str)) : WT := ⟨fun _ _ _ _ => False, T⟩
abbrev Z0 : Zs := fun _ _ => False
theorem zok0 {mg : Str → Option Value} {K : PySem.W.Frag} {b : B} {F : Hp} {T : List (Addr × Str)} (h : b.T = T) : ZOk mg K b F Z0 (W0 T) := ⟨h, fun _ _ _ _ _ _ _ _ _ h => h⟩
def dYes : DTt := fun _ P _ => P true
structure DTs (X : Cx) (W : WT) (ifs : List Expr) (t : DTt) : Prop where
  ok : PTs X ifs (cT X.mg X.K W t)
theorem PTs.imp {ifs : List Expr} {t t' : TT} (h : PTs X ifs t) (k : ∀ σ H Q, t' σ H Q → t σ H Q) : PTs X ifs t' := ⟨fun pins s σ H Q I q => h.run pins s σ H Q I (k _ _ _ q)⟩
theorem dts_nil : DTs X W [] dYes := ⟨PTs.imp pts_nil fun σ H Q ⟨b, F, ρ, P, Z, R, z, q, k⟩ => k true F H q (.refl R.g)⟩
theorem dts_one {c : Expr} {t : DTt} (h : DEt X W c t) : DTs X W [c] t := ⟨pts_one h.pt⟩
/-- M i: what is made before turn i -/
def dLc (vs : List Nat) (ti : DTi) (g : DGt) (tt : DTt) (te : DT) : DT := fun ρ P Z => ti ρ (fun L => ∃ M : Nat → List D, M 0 = [] ∧ P (.list (M L.length)) ∧
  ∀ i x, L[i]? = some x → g x (fgt vs ρ) (fun ρ2 => tt ρ2 (fun c => (c = true → te ρ2 (fun y => M (i + 1) = M i ++ [y] ∧ (M i).length ≤ 100000) Z0) ∧ (c = false → M (i + 1) = M i)) Z0)) Z
theorem lc_sem {gv vs : List Nat} {wi : TI} {ti : DTi} {g : DGt} {tt : DTt} {te : DT} (hv : ∀ i ∈ gv, i ∈ vs)
    (si : ∀ (b : B) (F H : Hp) (σ : L2.St) (ρ : List Sl) (R : It → Hp → Prop) (P : List D → Prop) (Z : Zs), Rep X.K b F H σ ρ → ZOk X.mg X.K b F Z W → ti ρ P Z → (∀ L J F' H', P L → Grow b.T F H F' H' → ItOk true b F' H' J L → R J H') → wi σ H R) :
    ∀ (b : B) (F H : Hp) (σ : L2.St) (ρ : List Sl) (Q : VK) (P : D → Prop) (Z : Zs), Rep X.K b F H σ ρ → ZOk X.mg X.K b F Z W → dLc vs ti g tt te ρ P Z → Goes .nw X.K b F H P Q → tLc wi (cG X.K gv g) (cT X.mg X.K (W0 W.T) tt) (cE X.mg X.K (W0 W.T) .fz te) vs σ H Q := by
  refine fun b F H σ ρ Q P Z R z q k => si b F H σ ρ _ _ Z R z q fun L J F1 H1 p g1 ok => ?_
  obtain ⟨M, m0, mP, it⟩ := p
  intro A na
  have R1 := R.grow g1
  have nA : Nn H A := g1.h.free na
  have nF : F1 A = none := R1.same.free na
  have nb : Nn b.H A := R.g.h.nn nA
  have gA : Grow b.T F1 H1 F1 (upd H1 A (.lst [])) := Grow.own R1.g _ na
  -- what stands before turn i
  refine ⟨fun i m H' => i + m = L.length ∧ ∃ F' acc, Grow b.T F H F' H' ∧ (Same F1 F' ∧ Ext b.T H1 H') ∧ Rep X.K b F' H' σ ρ ∧ F' A = none ∧ H' A = some (.lst acc) ∧ DqA F' acc (M i),
    ⟨L.length, by omega, F1, [], g1.trans gA, ⟨Same.refl _, gA.h⟩, R1.grow gA, nF, upd_same, by rw [m0]; exact .nil⟩, ?_⟩
  rintro i m H' ⟨em, F', acc, g', ⟨s', sH⟩, R', nF', hA, dq⟩
  by_cases hi : i < L.length
  · refine .inr ⟨ok.go i F' H' hi s' R'.g (fun _ => sH), fun H2 => ∃ F2 acc, Grow b.T F H F2 H2 ∧ (Same F1 F2 ∧ Ext b.T H1 H2) ∧ Rep X.K b F2 H2 σ ρ ∧ F2 A = none ∧ H2 A = some (.lst acc) ∧ DqA F2 acc (M (i + 1)), fun H2 hN => ⟨m - 1, by omega, by omega, hN⟩, fun x H2 hy => ?_⟩
    obtain ⟨F2, g2, dx⟩ := ok.yld i F' H' x H2 _ (List.getElem?_eq_getElem hi) s' R'.g (fun _ => sH) hy
    have R2 := R'.grow g2
    have nF2 : F2 A = none := (g2.k A _ hA (fun ps z => by cases z)).trans nF'
    have hA2 : H2 A = some (.lst acc) := g2.h.ap hA
    refine ⟨b, F2, _, _, _, R2.wipe (vs), dx, it i _ (List.getElem?_eq_getElem hi), fun ρ3 σ3 R3 o3 p3 => ?_⟩
    refine ⟨(o3 (vs) fun i hi => hv i hi).trans ?_, b, F2, ρ3, _, Z0, R3, zok0 z.t, p3, fun c F3 H3 p4 g3 => ?_⟩
    · refine List.ext_getElem? fun j => ?_
      by_cases hj : j ∈ vs
      · have e : ∀ τ : L2.St, τ.length = σ.length → (L2.wipe τ (vs))[j]? = if j < σ.length then some none else none := fun τ hl => by
          cases h : (L2.wipe τ (vs))[j]? with
          | none =>
            rw [List.getElem?_eq_none_iff, L2.wipe_length, hl] at h
            rw [if_neg (by omega)]
          | some o =>
            have h1 : j < (L2.wipe τ (vs)).length := (List.getElem?_eq_some_iff.mp h).1
            rw [L2.wipe_length, hl] at h1
            rw [if_pos h1]
            cases o with
            | none => rfl
            | some x => exact absurd hj (L2.wipe_some h).2
        rw [e _ (by rw [L2.wipe_length]), e _ rfl]
      · rw [L2.wipe_out hj]
    · have R4 := R2.grow g3
      have nF3 : F3 A = none := (g3.k A _ hA2 (fun ps z => by cases z)).trans nF2
      have hA3 := g3.h.ap hA2
      cases c with
      | false =>
        refine iteF ?_
        refine ⟨F3, acc, g'.trans (g2.trans g3), ⟨s'.trans (g2.f.trans g3.f), sH.trans (g2.h.trans g3.h)⟩, R4, nF3, hA3, ?_⟩
        rw [p4.2 rfl]
        exact (dq.mono g2.f).mono g3.f
      | true =>
        refine iteT ?_
        refine ⟨b, F3, ρ3, _, Z0, R3.grow g3, zok0 z.t, p4.1 rfl, fun y v F4 H4 p5 g4 r4 _ => ?_⟩
        have hA4 := g4.h.ap hA3
        have nF4 : F4 A = none := (g4.k A _ hA3 (fun ps z => by cases z)).trans nF3
        have dq4 := ((dq.mono g2.f).mono g3.f).mono g4.f
        refine ⟨acc, hA4, by rw [dq4.length]; exact lt5 p5.2, F4, acc ++ [v], ?_, ⟨s'.trans (g2.f.trans (g3.f.trans g4.f)), ?_⟩, (R4.grow g4).aside nF4 nb (fun u e => by rw [hA4] at e; cases e; trivial) (R.owner nA (g'.trans (g2.trans (g3.trans g4))).h), nF4, upd_same, ?_⟩
        · exact (g'.trans (g2.trans (g3.trans g4))).put _ nA nF4 (fun u e => by rw [hA4] at e; cases e; trivial)
        · exact (sH.trans (g2.h.trans (g3.h.trans g4.h))).put _ (nn_of na) (fun u e => by rw [hA4] at e; cases e; trivial)
        · rw [p5.1]
          exact dq4.snoc r4
  · have e : i = L.length := by omega
    subst e
    exact .inl ⟨ok.stop F' H' s' R'.g (fun _ => sH), k _ _ F' H' mP g' (.inl ⟨A, rfl, nF', acc, hA, dq⟩) fun p e => by cases e; exact nA⟩
/-- .. whose items are new roots -/
theorem lc_sem2 {gv vs : List Nat} {wi : TI} {ti : DTi} {g : DGt} {tt : DTt} {te : DT} (hv : ∀ i ∈ gv, i ∈ vs)
    (si : ∀ (b : B) (F H : Hp) (σ : L2.St) (ρ : List Sl) (R : It → Hp → Prop) (P : List D → Prop) (Z : Zs), Rep X.K b F H σ ρ → ZOk X.mg X.K b F Z W → ti ρ P Z → (∀ L J F' H', P L → Grow b.T F H F' H' → ItOk true b F' H' J L → R J H') → wi σ H R) :
    ∀ (b : B) (F H : Hp) (σ : L2.St) (ρ : List Sl) (Q : VK) (P : D → Prop) (Z : Zs), Rep X.K b F H σ ρ → ZOk X.mg X.K b F Z W → dLc vs ti g tt te ρ P Z → Goes .n2 X.K b F H P Q → tLc wi (cG X.K gv g) (cT X.mg X.K (W0 W.T) tt) (cE X.mg X.K (W0 W.T) .nw te) vs σ H Q := by
  refine fun b F H σ ρ Q P Z R z q k => si b F H σ ρ _ _ Z R z q fun L J F1 H1 p g1 ok => ?_
  obtain ⟨M, m0, mP, it⟩ := p
  intro A na
  have R1 := R.grow g1
  have nA : Nn H A := g1.h.free na
  have nF : F1 A = none := R1.same.free na
  have nb : Nn b.H A := R.g.h.nn nA
  have gA : Grow b.T F1 H1 F1 (upd H1 A (.lst [])) := Grow.own R1.g _ na
  refine ⟨fun i m H' => i + m = L.length ∧ ∃ F' acc C, Grow b.T F H F' H' ∧ (Same F1 F' ∧ Ext b.T H1 H') ∧ Rep X.K b F' H' σ ρ ∧ F' A = none ∧ H' A = some (.lst acc) ∧ Kids F' H' acc (M i) C ∧ A ∉ C ∧ ∀ a ∈ C, Nn H a,
    ⟨L.length, by omega, F1, [], [], g1.trans gA, ⟨Same.refl _, gA.h⟩, R1.grow gA, nF, upd_same, by rw [m0]; exact .nil, by simp, fun a h => by simp at h⟩, ?_⟩
  rintro i m H' ⟨em, F', acc, C, g', ⟨s', sH⟩, R', nF', hA, dq, hC, nC⟩
  by_cases hi : i < L.length
  · refine .inr ⟨ok.go i F' H' hi s' R'.g (fun _ => sH), fun H2 => ∃ F2 acc C, Grow b.T F H F2 H2 ∧ (Same F1 F2 ∧ Ext b.T H1 H2) ∧ Rep X.K b F2 H2 σ ρ ∧ F2 A = none ∧ H2 A = some (.lst acc) ∧ Kids F2 H2 acc (M (i + 1)) C ∧ A ∉ C ∧ ∀ a ∈ C, Nn H a, fun H2 hN => ⟨m - 1, by omega, by omega, hN⟩, fun x H2 hy => ?_⟩
    obtain ⟨F2, g2, dx⟩ := ok.yld i F' H' x H2 _ (List.getElem?_eq_getElem hi) s' R'.g (fun _ => sH) hy
    have R2 := R'.grow g2
    have nF2 : F2 A = none := (g2.k A _ hA (fun ps z => by cases z)).trans nF'
    have hA2 : H2 A = some (.lst acc) := g2.h.ap hA
    have kg : ∀ {F H F' H' : Hp} {vs : List V} {ds : List D} {C : List Addr}, Grow b.T F H F' H' → Kids F H vs ds C → Kids F' H' vs ds C := fun g k => k.mono g.f fun a ha => by
      obtain ⟨n, u, e, i⟩ := k.nn a ha
      exact ⟨(g.k a u e (isD_n i)).trans n, (g.h.ap e (isD_n i)).trans e.symm⟩
    have kids_put : ∀ {F H : Hp} {vs : List V} {ds : List D} {C : List Addr} {o : HO}, Kids F H vs ds C → A ∉ C → Kids F (upd H A o) vs ds C := fun k h => k.mono (Same.refl _) fun a ha => ⟨(k.nn a ha).1, upd_ne (by rintro rfl; exact h ha)⟩
    refine ⟨b, F2, _, _, _, R2.wipe (vs), dx, it i _ (List.getElem?_eq_getElem hi), fun ρ3 σ3 R3 o3 p3 => ?_⟩
    refine ⟨(o3 (vs) fun i hi => hv i hi).trans ?_, b, F2, ρ3, _, Z0, R3, zok0 z.t, p3, fun c F3 H3 p4 g3 => ?_⟩
    · refine List.ext_getElem? fun j => ?_
      by_cases hj : j ∈ vs
      · have e : ∀ τ : L2.St, τ.length = σ.length → (L2.wipe τ (vs))[j]? = if j < σ.length then some none else none := fun τ hl => by
          cases h : (L2.wipe τ (vs))[j]? with
          | none =>
            rw [List.getElem?_eq_none_iff, L2.wipe_length, hl] at h
            rw [if_neg (by omega)]
          | some o =>
            have h1 : j < (L2.wipe τ (vs)).length := (List.getElem?_eq_some_iff.mp h).1
            rw [L2.wipe_length, hl] at h1
            rw [if_pos h1]
            cases o with
            | none => rfl
            | some x => exact absurd hj (L2.wipe_some h).2
        rw [e _ (by rw [L2.wipe_length]), e _ rfl]
      · rw [L2.wipe_out hj]
    · have R4 := R2.grow g3
      have nF3 : F3 A = none := (g3.k A _ hA2 (fun ps z => by cases z)).trans nF2
      have hA3 := g3.h.ap hA2
      cases c with
      | false =>
        refine iteF ?_
        refine ⟨F3, acc, C, g'.trans (g2.trans g3), ⟨s'.trans (g2.f.trans g3.f), sH.trans (g2.h.trans g3.h)⟩, R4, nF3, hA3, ?_, hC, nC⟩
        rw [p4.2 rfl]
        exact kg g3 (kg g2 dq)
      | true =>
        refine iteT ?_
        refine ⟨b, F3, ρ3, _, Z0, R3.grow g3, zok0 z.t, p4.1 rfl, fun y v F4 H4 p5 g4 r4 f4 => ?_⟩
        have hA4 := g4.h.ap hA3
        have nF4 : F4 A = none := (g4.k A _ hA3 (fun ps z => by cases z)).trans nF3
        have gg := g2.trans (g3.trans g4)
        have dq4 := kg gg dq
        have hl : acc.length < sizeLine := by rw [dq4.len]; exact lt5 p5.2
        have fin : ∀ C4, Kids F4 H4 (acc ++ [v]) (M i ++ [y]) C4 → A ∉ C4 → (∀ a ∈ C4, Nn H a) → ∃ F2 acc' C, Grow b.T F H F2 (upd H4 A (.lst (acc ++ [v]))) ∧ (Same F1 F2 ∧ Ext b.T H1 (upd H4 A (.lst (acc ++ [v])))) ∧ Rep X.K b F2 (upd H4 A (.lst (acc ++ [v]))) σ ρ ∧ F2 A = none ∧ (upd H4 A (.lst (acc ++ [v]))) A = some (.lst acc') ∧ Kids F2 (upd H4 A (.lst (acc ++ [v]))) acc' (M (i + 1)) C ∧ A ∉ C ∧ (∀ a ∈ C, Nn H a) := fun C4 k4 h4 n4 => by
          refine ⟨F4, acc ++ [v], C4, ?_, ⟨s'.trans gg.f, ?_⟩, (R4.grow g4).aside nF4 nb (fun u e => by rw [hA4] at e; cases e; trivial) (R.owner nA (g'.trans gg).h), nF4, upd_same, ?_, h4, n4⟩
          · exact (g'.trans gg).put _ nA nF4 (fun u e => by rw [hA4] at e; cases e; trivial)
          · exact (sH.trans gg.h).put _ (nn_of na) (fun u e => by rw [hA4] at e; cases e; trivial)
          · rw [p5.1]
            exact kids_put k4 h4
        refine ⟨acc, hA4, hl, ?_⟩
        rcases r4 with ⟨q, rfl, nq, oq⟩ | r4
        · have hq := f4 q rfl
          have qC : ∀ a ∈ C, a ∉ [q] := fun a ha hq2 => by
            rw [List.mem_singleton] at hq2
            subst hq2
            obtain ⟨_, u, e, i⟩ := (kg (g2.trans g3) dq).nn a ha
            obtain ⟨ps, z⟩ := hq u e
            exact isD_n i ps z
          refine fin (C ++ [q]) (dq4.append (.own nq oq .nil (by simp)) qC) ?_ fun a ha => ?_
          · rw [List.mem_append, not_or]
            refine ⟨hC, fun h => ?_⟩
            rw [List.mem_singleton] at h
            subst h
            obtain ⟨ps, z⟩ := hq _ hA3
            cases z
          · rcases List.mem_append.mp ha with ha | ha
            · exact nC a ha
            · rw [List.mem_singleton] at ha
              subst ha
              exact (g'.trans (g2.trans g3)).h.nn hq
        · have := dq4.append (.atm r4 .nil) (fun a _ h => by simp at h)
          rw [List.append_nil] at this
          exact fin C this hC nC
  · have e : i = L.length := by omega
    subst e
    have hm : ∀ B, Tr F' H' (.ref A) (.list (M L.length)) B → ∀ a ∈ B, Nn H a := fun B t a ha => by
      have t0 : Tr F' H' (.ref A) (.list (M L.length)) (A :: C) := ⟨A, C, rfl, nF', rfl, hC, acc, hA, dq⟩
      rw [← t0.uniq (fun _ _ e _ => e) t] at ha
      rcases List.mem_cons.mp ha with rfl | ha
      · exact nA
      · exact nC a ha
    exact .inl ⟨ok.stop F' H' s' R'.g (fun _ => sH), k _ _ F' H' mP g' ⟨_, A, C, rfl, nF', rfl, hC, acc, hA, dq⟩ hm⟩
theorem de_lc2 {gv : List Nat} {elt iter : Expr} {ifs : List Expr} {scope : Scope} {own : List (Str × Nat)} {ti : DTi} {g : DGt} {tt : DTt} {te : DT} (hc : X.calm = true) (hN : X.N.Nodup) (hi : DI X W true tg iter ti) (ok : BlkOk X.N X.env.scope scope own)
    (hv : ∀ i ∈ gv, i ∈ own.map (·.2))
    (hg : ∀ (s : Shared) (H : Hp) (C : Addr) (cl : List (Str × Addr)) (fp : List Addr), DG (X.blk s H scope (compEnvC scope cl C X.env) fp) gv tg g)
    (ht : ∀ (s : Shared) (H : Hp) (C : Addr) (cl : List (Str × Addr)) (fp : List Addr), DTs (X.blk s H scope (compEnvC scope cl C X.env) fp) (W0 W.T) ifs tt)
    (he : ∀ (s : Shared) (H : Hp) (C : Addr) (cl : List (Str × Addr)) (fp : List Addr), DE (X.blk s H scope (compEnvC scope cl C X.env) fp) (W0 W.T) .nw elt te)
    (hs : ∀ x, foldedSetIterable iter X.env x = pure x := by intro _; rfl) : DE X W .n2 (.ListComp elt [⟨tg, iter, ifs, 0⟩] scope pos) (dLc (own.map (·.2)) ti g tt te) := by
  obtain ⟨wi, pi, si⟩ := hi.ok
  exact ⟨_, pe_lc hc hN pi ok (g := cG X.K gv g) (tt := cT X.mg X.K (W0 W.T) tt) (te := cE X.mg X.K (W0 W.T) .nw te) (fun s H C cl fp => (hg s H C cl fp).ok) (fun s H C cl fp => (ht s H C cl fp).ok) (fun s H C cl fp => (he s H C cl fp).pe) hs, lc_sem2 hv si⟩
theorem de_lc {gv : List Nat} {elt iter : Expr} {ifs : List Expr} {scope : Scope} {own : List (Str × Nat)} {ti : DTi} {g : DGt} {tt : DTt} {te : DT} (hc : X.calm = true) (hN : X.N.Nodup) (hi : DI X W true tg iter ti) (ok : BlkOk X.N X.env.scope scope own)
    (hv : ∀ i ∈ gv, i ∈ own.map (·.2))
    (hg : ∀ (s : Shared) (H : Hp) (C : Addr) (cl : List (Str × Addr)) (fp : List Addr), DG (X.blk s H scope (compEnvC scope cl C X.env) fp) gv tg g)
    (ht : ∀ (s : Shared) (H : Hp) (C : Addr) (cl : List (Str × Addr)) (fp : List Addr), DTs (X.blk s H scope (compEnvC scope cl C X.env) fp) (W0 W.T) ifs tt)
    (he : ∀ (s : Shared) (H : Hp) (C : Addr) (cl : List (Str × Addr)) (fp : List Addr), DE (X.blk s H scope (compEnvC scope cl C X.env) fp) (W0 W.T) .fz elt te)
    (hs : ∀ x, foldedSetIterable iter X.env x = pure x := by intro _; rfl) : DE X W .nw (.ListComp elt [⟨tg, iter, ifs, 0⟩] scope pos) (dLc (own.map (·.2)) ti g tt te) := by
  obtain ⟨wi, pi, si⟩ := hi.ok
  exact ⟨_, pe_lc hc hN pi ok (g := cG X.K gv g) (tt := cT X.mg X.K (W0 W.T) tt) (te := cE X.mg X.K (W0 W.T) .fz te) (fun s H C cl fp => (hg s H C cl fp).ok) (fun s H C cl fp => (ht s H C cl fp).ok) (fun s H C cl fp => (he s H C cl fp).pe) hs, lc_sem hv si⟩
end
end DL
set_option maxRecDepth 100000
set_option maxHeartbeats 4000000
/-! DL5: calls, a def's contract, raise. -/
namespace DL
open PySem PySem.Spec PyProof.Rows L2
variable {T : List (Addr × Str)}

def Md.sl : Md → D → Sl
  | .fz, d => .fz d
  | .st, d => .ln d
  | .rd, d => .ln d
  | .rt, d => .lt d
  | .nw, _ => .un
  | .n2, _ => .un
def initD (n : Nat) (ms : List Md) (ds : List D) : List Sl := List.zipWith Md.sl ms ds ++ List.replicate (n - ms.length) .un
abbrev CW := List D → (D → Prop) → (String → Prop) → Prop
/-- what a def asks and tells, by data -/
def spD (mg : Str → Option Value) (K : PySem.W.Frag) (T : List (Addr × Str)) (ms : List Md) (rm : Md) (w : CW) : Sp := fun vs H Q E => ∃ (F : Hp) (ds : List D) (P : D → Prop) (Z : String → Prop), Grow T F H F H ∧ LamX.Tabs T H ∧ VRs K ⟨F, H, T⟩ F H ms vs ds ∧ w ds P Z ∧
  (∀ d v F' H', P d → Grow T F H F' H' → VR rm K ⟨F, H, T⟩ F' H' v d → Fr rm H F' H' v d → Q v H') ∧ ∀ (x : String) C F' H', mg (x : Str) = some (.ref C) → Z x → Grow T F H F' H' → E (.ref C) none H'
theorem vrs_sl {K : PySem.W.Frag} {F H : Hp} {T : List (Addr × Str)} : ∀ {ms : List Md} {vs : List V} {ds : List D}, VRs K ⟨F, H, T⟩ F H ms vs ds → ∀ (i : Nat) (s : Sl), (List.zipWith Md.sl ms ds)[i]? = some s → SlF K ⟨F, H, T⟩ F H (vs.map some)[i]? s []
  | _, _, _, .nil, i, s, h => by simp at h
  | _, _, _, .cons (m := m) (v := v) (d := d) r q, 0, s, h => by
    simp only [List.zipWith_cons_cons, List.getElem?_cons_zero, Option.some.injEq] at h
    subst h
    cases m with
    | fz => exact ⟨rfl, v, rfl, r⟩
    | st => exact ⟨rfl, v, rfl, r⟩
    | rd => exact ⟨rfl, v, rfl, r⟩
    | rt => exact ⟨rfl, v, rfl, r⟩
    | nw => rfl
    | n2 => rfl
  | _, _, _, .cons r q, i + 1, s, h => by
    simp only [List.zipWith_cons_cons, List.getElem?_cons_succ] at h
    exact vrs_sl q i s h
theorem rep_start {K : PySem.W.Frag} {F H : Hp} {T : List (Addr × Str)} {N : List Str} {ms : List Md} {vs : List V} {ds : List D} (s : Grow T F H F H) (tt : LamX.Tabs T H) (r : VRs K ⟨F, H, T⟩ F H ms vs ds) : Rep K ⟨F, H, T⟩ F H (L2.start N vs) (initD N.length ms ds) := by
  obtain ⟨l1, l2⟩ := vrs_len r
  have lz : (List.zipWith Md.sl ms ds).length = vs.length := by rw [List.length_zipWith]; omega
  have main : ∀ (i : Nat) (s : Sl), (initD N.length ms ds)[i]? = some s → SlF K ⟨F, H, T⟩ F H (L2.start N vs)[i]? s [] := fun i s h => by
    unfold initD at h
    unfold L2.start
    by_cases hi : i < vs.length
    · rw [List.getElem?_append_left (by rw [lz]; exact hi)] at h
      rw [List.getElem?_append_left (by rw [List.length_map]; exact hi)]
      exact vrs_sl r i s h
    · rw [List.getElem?_append_right (by rw [lz]; omega), List.getElem?_replicate] at h
      split at h
      · cases h
        rfl
      · cases h
  refine ⟨s, tt, ?_, fun _ => [], main, fun _ _ => rfl, fun _ _ _ _ h => by simp at h⟩
  unfold L2.start initD
  rw [List.length_append, List.length_append, List.length_map, List.length_replicate, List.length_replicate, lz, l1]
def endN (rm : Md) (P : D → Prop) : Prop := match rm with
  | .n2 => False
  | _ => P .none
/-- the reading of a body as a promise -/
def bodyW (n : Nat) (ms : List Md) (rm : Md) (t : DS) : CW := fun ds P Z => t { nx := fun _ => endN rm P, rt := P } (fun _ x => Z x) (initD n ms ds)
def bodyW0 (n : Nat) (ms : List Md) (rm : Md) (t : DS) : CW := fun ds P _ => t { nx := fun _ => endN rm P, rt := P } Z0 (initD n ms ds)
section
variable {P : Program} {w : World} {K : PySem.W.Frag} {mg : Str → Option Value} {base : Heap}
theorem conn_body {F H : Hp} {T : List (Addr × Str)} {rm : Md} {Pd : D → Prop} {Q : VK} (k : ∀ d v F' H', Pd d → Grow T F H F' H' → VR rm K ⟨F, H, T⟩ F' H' v d → Fr rm H F' H' v d → Q v H') :
    Conn K ⟨F, H, T⟩ rm F { nx := fun _ => endN rm Pd, rt := Pd } { nx := fun _ H' => Q .non H', rt := Q } := by
  refine ⟨fun ρ F' H' σ s R q => ?_, fun _ _ _ _ _ _ q => q.elim, fun _ _ _ _ _ _ q => q.elim, fun x v F' H' g r f p => k x v F' H' p g r f⟩
  cases rm with
  | n2 => exact q.elim
  | nw => exact k _ _ F' H' q R.g (.inr .non) (fun p e => by cases e)
  | rt => exact k _ _ F' H' q R.g (.inl (.inl .non)) trivial
  | fz => exact k _ _ F' H' q R.g .non trivial
  | st => exact k _ _ F' H' q R.g (.inl .non) trivial
  | rd => exact k _ _ F' H' q R.g (.inl .non) trivial
theorem fnok0 {x qual : Str} {st : Stmt} {f : Addr} {fd : FuncData} {N ps : List Str} {k : Nat} {ms : List Md} {rm : Md} {t : DS} {T : List (Addr × Str)} (F : Fun K x qual st f fd) (S : FnScope N ps (defScope st)) (hl : ms.length = ps.length)
    (hb : ∀ (cdv : Value) (A : Around) (outer : List Env) (s : Shared) (H : Hp) (E : XK), Room k (A.deeper (envOfC qual (defScope st) s.heap.objs.size f cdv)) → DSs (cxOf CX0 P w K mg base N qual (defScope st) f cdv A outer s H E).nox (W0 T) rm (defBody st) t) :
    FnOk P w K mg base CX0 (k + 1) f fd ps (spD mg K T ms rm (bodyW0 N.length ms rm t)) := by
  refine F.ok S (fun vs H Q E h => ?_) fun cdv A outer s H vs Q E hr h => ?_
  · obtain ⟨_, ds, _, _, _, _, r, _⟩ := h
    rw [← hl]
    exact (vrs_len r).1
  · obtain ⟨F0, ds, Pd, Z, sm, tt, r, hw, k1, k2⟩ := h
    obtain ⟨ts, p, sem⟩ := (hb cdv A outer s H E hr).ok
    exact ⟨ts, p, sem ⟨F0, H, T⟩ F0 H _ _ _ _ Z0 (rep_start sm tt r) (zok0 rfl) hw (conn_body k1)⟩
theorem fnokX {x qual : Str} {st : Stmt} {f : Addr} {fd : FuncData} {N ps : List Str} {k : Nat} {ms : List Md} {rm : Md} {t : DS} {T : List (Addr × Str)} (F : Fun K x qual st f fd) (S : FnScope N ps (defScope st)) (hl : ms.length = ps.length)
    (hb : ∀ (cdv : Value) (A : Around) (outer : List Env) (s : Shared) (H : Hp) (E : XK), Room k (A.deeper (envOfC qual (defScope st) s.heap.objs.size f cdv)) → DSs (cxOf (L2.CX P w) P w K mg base N qual (defScope st) f cdv A outer s H E) ⟨fun cls d _ H => E cls d H, T⟩ rm (defBody st) t) :
    FnOk P w K mg base (L2.CX P w) (k + 1) f fd ps (spD mg K T ms rm (bodyW N.length ms rm t)) := by
  refine F.okX S (fun vs H Q E h => ?_) fun cdv A outer s H vs Q E hr h => ?_
  · obtain ⟨_, ds, _, _, _, _, r, _⟩ := h
    rw [← hl]
    exact (vrs_len r).1
  · obtain ⟨F0, ds, Pd, Z, sm, tt, r, hw, k1, k2⟩ := h
    obtain ⟨ts, p, sem⟩ := (hb cdv A outer s H E hr).ok
    exact ⟨ts, p, sem ⟨F0, H, T⟩ F0 H _ _ _ _ (fun _ x => Z x) (rep_start sm tt r) ⟨rfl, fun ρ F' H' σ x C _ hm R q => k2 x C F' H' hm q R.g⟩ hw (conn_body k1)⟩
end
/-- a def that may be called -/
structure Df (P : Program) (w : World) (K : PySem.W.Frag) (mg : Str → Option Value) (base : Heap) (T : List (Addr × Str)) (CX : CXT) (k : Nat) (x : Str) (ms : List Md) (rm : Md) (W : CW) : Prop where
  ex : ∃ (f : Addr) (fd : FuncData) (ps : List Str), FnOk P w K mg base CX k f fd ps (spD mg K T ms rm W) ∧ mg x = some (.ref f) ∧ PySem.W.keepIn K (.ref f) = true ∧ Binds K fd ps []
section
variable {X : Cx} {W : WT}
def dCall (w : CW) (ta : DTa) : DT := fun ρ P Z => ta ρ (fun ds => w ds P (fun _ => False)) Z
def dCallX (w : CW) (ta : DTa) : DT := fun ρ P Z => ta ρ (fun ds => w ds P (Z ρ)) Z
theorem vr_b {rm : Md} {K : PySem.W.Frag} {b b' : B} {F H : Hp} {v : V} {d : D} (h : rm ≠ .st) (r : VR rm K b F H v d) : VR rm K b' F H v d := by
  cases rm with
  | fz => exact r
  | st => exact absurd rfl h
  | rd => exact r
  | nw => exact r
  | rt => exact r
  | n2 => exact r
theorem vrs_b {K : PySem.W.Frag} {b b' : B} {F H : Hp} : ∀ {ms : List Md} {vs : List V} {ds : List D}, (∀ m ∈ ms, m ≠ .st) → VRs K b F H ms vs ds → VRs K b' F H ms vs ds
  | _, _, _, _, .nil => .nil
  | _, _, _, h, .cons a q => .cons (vr_b (h _ (by simp)) a) (vrs_b (fun m hm => h m (by simp [hm])) q)
section
variable {k : Nat} {x : Str} {ms : List Md} {rm : Md} {w : CW} {e : Expr} {es : List Expr} {ta : DTa} {p pos : Pos}
theorem grow_t {T T' : List (Addr × Str)} (e : T = T') {F H F' H' : Hp} (g : Grow T F H F' H') : Grow T' F H F' H' := e ▸ g
theorem de_call {CX : CXT} (G : Df X.prog X.w X.K X.mg X.base W.T CX k x ms rm w) (hx : Passes CX X E0) (hr : Room k X.A) (ha : DA X W ms (e :: es) ta) (hms : ∀ m ∈ ms, m ≠ .st := by simp) (hrm : rm ≠ .st := by simp) (hg : Gl X x := by rfl) (hdb : (x == ("__debug__" : Str)) = false := by decide)
    (he : starEach (e :: es) X.env = (false, eval e X.env) :: starEach es X.env := by rfl) (hpl : (backTo pos (starEach es X.env)).any (·.1) = false := by rfl) : DE X W rm (.Call (.Name x p) (e :: es) [] pos) (dCall w ta) := by
  obtain ⟨f, fd, ps, F, hm, hk, hb⟩ := G.ex
  obtain ⟨te, pa, s⟩ := ha.ok
  refine ⟨_, pe_call F hr hg hm hk hb .nil hx pa hdb he hpl, fun b F0 H σ ρ Q P Z R z q kk => s b F0 H σ ρ _ _ Z R z q fun ds vs F1 H1 p1 g r => ?_⟩
  rw [List.append_nil]
  exact ⟨F1, ds, P, _, grow_t z.t (.refl (R.grow g).g), z.t ▸ (R.grow g).tt, vrs_b hms r, p1, fun d v F' H' pd g' r' f' => kk d v F' H' pd (g.trans (grow_t z.t.symm g')) (vr_b hrm r') (f'.back g.h), fun _ _ _ _ _ h => h.elim⟩
theorem de_callX (tk : Takes X W.w) (G : Df X.prog X.w X.K X.mg X.base W.T (L2.CX X.prog X.w) k x ms rm w) (hr : Room k X.A) (ha : DA X W ms (e :: es) ta) (hms : ∀ m ∈ ms, m ≠ .st := by simp) (hrm : rm ≠ .st := by simp) (hg : Gl X x := by rfl) (hdb : (x == ("__debug__" : Str)) = false := by decide)
    (he : starEach (e :: es) X.env = (false, eval e X.env) :: starEach es X.env := by rfl) (hpl : (backTo pos (starEach es X.env)).any (·.1) = false := by rfl) : DE X W rm (.Call (.Name x p) (e :: es) [] pos) (dCallX w ta) := by
  obtain ⟨f, fd, ps, F, hm, hk, hb⟩ := G.ex
  obtain ⟨te, pa, s⟩ := ha.ok
  refine ⟨_, pe_callS F hr hg hm hk hb (fun σ => passAt tk σ) pa hdb he hpl, fun b F0 H σ ρ Q P Z R z q kk => s b F0 H σ ρ _ _ Z R z q fun ds vs F1 H1 p1 g r => ?_⟩
  exact ⟨F1, ds, P, _, grow_t z.t (.refl (R.grow g).g), z.t ▸ (R.grow g).tt, vrs_b hms r, p1, fun d v F' H' pd g' r' f' => kk d v F' H' pd (g.trans (grow_t z.t.symm g')) (vr_b hrm r') (f'.back g.h), fun y C F' H' hy h g' => z.z ρ F' H' σ y C (g.f.trans g'.f) hy ((R.grow g).grow (grow_t z.t.symm g')) h⟩
end
/-! ### raise -/
/-- an own class over ValueError, without __init__ -/
structure Exd (K : PySem.W.Frag) (mg : Str → Option Value) (x : String) : Prop where
  ex : ∃ C : Addr, mg (x : Str) = some (.ref C) ∧ PySem.W.excIn K C [.type "ValueError", .type "Exception", .type "BaseException", .type "object"] "ValueError.__new__" = true ∧ PySem.W.keepIn K (.ref C) = true ∧
    PySem.W.subIn K (.ref C) (.type "BaseException") = some true ∧ PySem.W.typeIn K (.ref C) = some (.type "type")
def dRaise (x : String) : DS := fun _ Z ρ => Z ρ x
theorem ds_raise {rm : Md} {pos pos2 p p2 : Pos} {x : String} {m : Str} {j : Nat} (tk : Takes X W.w) (hc : X.calm = true) (G : Exd X.K X.mg x) (hg : Gl X (x : Str) := by rfl) (hdb : ((x : Str) == ("__debug__" : Str)) = false := by decide) :
    DS1 X W rm (.Raise (some (.Call (.Name (x : Str) p) [.Constant (.str m) j p2] [] pos)) none pos2) (dRaise x) := by
  obtain ⟨C, gC, xC, kC, bC, tC⟩ := G.ex
  exact ⟨_, ps_raise hc tk (pmk_own PySem.F.excBase_ValueError xC gC kC (raises_own bC tC) hg hdb), fun b F H σ ρ D d Z R z q c => z.z ρ F H σ x C (Same.refl _) gC R q⟩
end
end DL
set_option maxRecDepth 100000
set_option maxHeartbeats 4000000
/-! DL6: operators and built-in calls by data. -/
namespace DL
open PySem PySem.Spec PyProof.Rows L2
variable {T : List (Addr × Str)}

/-! ### shapes -/
def Shp : Nat → D → Prop
  | _, .none => True
  | _, .bool _ => True
  | _, .int _ => True
  | _, .str x => PyData.strOk x = true
  | n + 1, .list ds => ∀ d ∈ ds, Shp n d
  | n + 1, .tuple ds => ∀ d ∈ ds, Shp n d
  | _, _ => False
theorem shpA {n : Nat} (ih : ∀ d, Shp n d → d.canLay0 = true ∧ d.depth ≤ n ∧ flat d = true) : ∀ ds : List D, (∀ d ∈ ds, Shp n d) → PyData.canLayAll0 ds = true ∧ PyData.depthAll ds ≤ n ∧ flatA ds = true
  | [], _ => ⟨rfl, Nat.zero_le _, rfl⟩
  | d :: ds, h => by
    obtain ⟨a1, a2, a3⟩ := ih d (h d (by simp))
    obtain ⟨b1, b2, b3⟩ := shpA ih ds (fun x hx => h x (by simp [hx]))
    exact ⟨by simp [PyData.canLayAll0, a1, b1], by simp only [PyData.depthAll]; omega, by simp [flatA, a3, b3]⟩
theorem shp_ok : ∀ (n : Nat) (d : D), Shp n d → d.canLay0 = true ∧ d.depth ≤ n ∧ flat d = true
  | _, .none, _ => ⟨by simp [PyData.canLay0], by simp [PyData.depth], by simp [flat]⟩
  | _, .bool _, _ => ⟨by simp [PyData.canLay0], by simp [PyData.depth], by simp [flat]⟩
  | _, .int _, _ => ⟨by simp [PyData.canLay0], by simp [PyData.depth], by simp [flat]⟩
  | n, .str x, h => ⟨by cases n <;> simpa [PyData.canLay0, Shp] using h, by simp [PyData.depth], by simp [flat]⟩
  | 0, .list ds, h => by simp [Shp] at h
  | 0, .tuple ds, h => by simp [Shp] at h
  | 0, .dict ds, h => by simp [Shp] at h
  | n + 1, .list ds, h => by
    obtain ⟨b1, b2, b3⟩ := shpA (shp_ok n) ds (by simpa [Shp] using h)
    exact ⟨by simp [PyData.canLay0, b1], by simp only [PyData.depth]; omega, by simp [flat, b3]⟩
  | n + 1, .tuple ds, h => by
    obtain ⟨b1, b2, b3⟩ := shpA (shp_ok n) ds (by simpa [Shp] using h)
    exact ⟨by simp [PyData.canLay0, b1], by simp only [PyData.depth]; omega, by simp [flat, b3]⟩
  | n + 1, .dict ds, h => by simp [Shp] at h
theorem shp_sh {d : D} (h : Shp 8 d) : SeqAt.shaped d = true := by
  obtain ⟨a, b, _⟩ := shp_ok 8 d h
  simp [SeqAt.shaped, a]
  omega
/-- no bools -/
def Nb : Nat → D → Prop
  | _, .none => True
  | _, .int _ => True
  | _, .str _ => True
  | n + 1, .list ds => ∀ d ∈ ds, Nb n d
  | n + 1, .tuple ds => ∀ d ∈ ds, Nb n d
  | _, _ => False
theorem nbA {n m : Nat} (ih : ∀ d e, Nb n d → Nb m e → (PyData.eqv d e = true ↔ d = e)) : ∀ ds es : List D, (∀ d ∈ ds, Nb n d) → (∀ d ∈ es, Nb m d) → (PyData.eqvAll ds es = true ↔ ds = es)
  | [], [], _, _ => by simp [PyData.eqvAll]
  | [], _ :: _, _, _ => by simp [PyData.eqvAll]
  | _ :: _, [], _, _ => by simp [PyData.eqvAll]
  | d :: ds, e :: es, h, k => by
    have a := ih d e (h d (by simp)) (k e (by simp))
    have b := nbA ih ds es (fun x hx => h x (by simp [hx])) (fun x hx => k x (by simp [hx]))
    simp only [PyData.eqvAll, Bool.and_eq_true, a, b, List.cons.injEq]
theorem nb_eqv : ∀ (n m : Nat) (d e : D), Nb n d → Nb m e → (PyData.eqv d e = true ↔ d = e)
  | 0, 0, d, e, h, k => by cases d <;> simp only [Nb] at h <;> cases e <;> simp only [Nb] at k <;> simp [PyData.eqv]
  | 0, m + 1, d, e, h, k => by cases d <;> simp only [Nb] at h <;> cases e <;> simp only [Nb] at k <;> simp [PyData.eqv]
  | n + 1, 0, d, e, h, k => by cases d <;> simp only [Nb] at h <;> cases e <;> simp only [Nb] at k <;> simp [PyData.eqv]
  | n + 1, m + 1, d, e, h, k => by
    have q := nbA (nb_eqv n m)
    cases d <;> simp only [Nb] at h <;> cases e <;> simp only [Nb] at k <;> simp [PyData.eqv]
    · exact q _ _ h k
    · exact q _ _ h k
theorem eqv_nb {n m : Nat} {d e : D} (h : Nb n d) (k : Nb m e) [Decidable (d = e)] : PyData.eqv d e = decide (d = e) := by
  have q := nb_eqv n m d e h k
  by_cases c : d = e
  · rw [q.mpr c, decide_eq_true c]
  · rw [decide_eq_false c]
    cases z : PyData.eqv d e with
    | false => rfl
    | true => exact absurd (q.mp z) c

section
variable {K : PySem.W.Frag} {ma mb m : Md}
/-! ### ints -/
def d2I (g : Int → Int → D) : D → D → (D → Prop) → Prop := fun x y P => ∃ i j, x = .int i ∧ y = .int j ∧ P (g i j)
def d2C (C : Int → Int → Prop) (g : Int → Int → D) : D → D → (D → Prop) → Prop := fun x y P => ∃ i j, x = .int i ∧ y = .int j ∧ C i j ∧ P (g i j)
theorem r2_int {g : Int → Int → Int} (ha : ma.sh = true := by rfl) (hb : mb.sh = true := by rfl) : R2ok K ma mb .fz (rI0 fun i j => .int (g i j)) (d2I fun i j => .int (g i j)) := fun b F H x y dx dy Q P g0 rx ry h k => by
  obtain ⟨i, j, rfl, rfl, p⟩ := h
  exact ⟨i, j, vr_int (rx.rd ha g0), vr_int (ry.rd hb g0), k _ _ F H p (.refl g0) (Dq.int _) trivial⟩
theorem r2_intB {g : Int → Int → Bool} (ha : ma.sh = true := by rfl) (hb : mb.sh = true := by rfl) : R2ok K ma mb .fz (rI0 fun i j => .bl (g i j)) (d2I fun i j => .bool (g i j)) := fun b F H x y dx dy Q P g0 rx ry h k => by
  obtain ⟨i, j, rfl, rfl, p⟩ := h
  exact ⟨i, j, vr_int (rx.rd ha g0), vr_int (ry.rd hb g0), k _ _ F H p (.refl g0) (Dq.bl _) trivial⟩
theorem r2_intC {C : Int → Int → Prop} {g : Int → Int → Int} (ha : ma.sh = true := by rfl) (hb : mb.sh = true := by rfl) : R2ok K ma mb .fz (rI C fun i j => .int (g i j)) (d2C C fun i j => .int (g i j)) := fun b F H x y dx dy Q P g0 rx ry h k => by
  obtain ⟨i, j, rfl, rfl, c, p⟩ := h
  exact ⟨i, j, vr_int (rx.rd ha g0), vr_int (ry.rd hb g0), c, k _ _ F H p (.refl g0) (Dq.int _) trivial⟩
def CMulD (i j : Int) : Prop := CMul i j ∨ CMulW i j
theorem op_mulD {X : Cx} : OpR X (binaryOp .Mult) (rI CMulD fun i j => .int (i * j)) := opI fun _ _ _ _ _ _ _ hc q => mul_int q (hc.elim CMul.ok CMulW.ok)
def d1I (g : Int → Int) : D → (D → Prop) → Prop := fun x P => ∃ i, x = .int i ∧ P (.int (g i))
theorem r1_int {g : Int → Int} (ha : ma.sh = true := by rfl) : R1ok K ma .fz (rU fun i => .int (g i)) (d1I g) := fun b F H x dx Q P g0 rx h k => by
  obtain ⟨i, rfl, p⟩ := h
  exact ⟨i, vr_int (rx.rd ha g0), k _ _ F H p (.refl g0) (Dq.int _) trivial⟩
/-! ### + -/
def addD : D → D → (D → Prop) → Prop
  | .int i, .int j, P => P (.int (i + j))
  | .list a, .list b, P => a.length + b.length ≤ 100000 ∧ P (.list (a ++ b))
  | .tuple a, .tuple b, P => a ≠ [] ∧ a.length + b.length ≤ 100000 ∧ P (.tuple (a ++ b))
  | .str a, .str b, P => a.length + b.length ≤ 100000 ∧ P (.str (a ++ b))
  | _, _, _ => False
def rAdd (K : PySem.W.Frag) : R2 := fun x y H Q => (rI0 (fun i j => .int (i + j))) x y H Q ∨ rCat x y H Q ∨ rCatT K x y H Q ∨ ∃ i j, x = .str i ∧ y = .str j ∧ i.length + j.length ≤ sizeLine ∧ Q (.str (i ++ j)) H
theorem op_addD {X : Cx} : OpR X (binaryOp .Add) (rAdd X.K) := op_add.or (op_cat.or (op_catT.or op_add_str))
theorem r2_add : R2ok K .fz .fz .fz (rAdd K) addD := fun b F H x y dx dy Q P g0 rx ry h k => by
  cases dx with
  | int i =>
    cases dy with
    | int j =>
      cases rx
      cases ry
      exact .inl ⟨i, j, rfl, rfl, k _ _ F H h (.refl g0) (Dq.int _) trivial⟩
    | _ => exact h.elim
  | str i =>
    cases dy with
    | str j =>
      cases rx
      cases ry
      exact .inr (.inr (.inr ⟨i, j, rfl, rfl, sz5 h.1, k _ _ F H h.2 (.refl g0) (Dq.str _) trivial⟩))
    | _ => exact h.elim
  | list ds =>
    cases dy with
    | list es =>
      cases rx with
      | lst e1 q1 =>
        cases ry with
        | lst e2 q2 =>
          rename_i a1 xs a2 ys
          refine .inr (.inl ⟨_, _, _, _, rfl, rfl, g0.s _ _ e1, g0.s _ _ e2, by rw [q1.length, q2.length]; exact sz5 h.1, fun p np => ?_⟩)
          have g2 := Grow.new g0 (HO.lst (xs ++ ys)) np
          exact k _ _ _ _ h.2 g2 (Dq.lst upd_same ((q1.append q2).mono g2.f)) trivial
    | _ => exact h.elim
  | tuple ds =>
    cases dy with
    | tuple es =>
      cases rx with
      | tup e1 q1 =>
        cases ry with
        | tup e2 q2 =>
          rename_i a1 xs a2 ys
          obtain ⟨h1, h2, p⟩ := h
          have hx : xs ≠ [] := by
            rintro rfl
            exact h1 (List.eq_nil_of_length_eq_zero q1.length.symm)
          refine .inr (.inr (.inl ⟨_, _, _, _, rfl, rfl, .of (g0.s _ _ e1), .of (g0.s _ _ e2), hx, by rw [q1.length, q2.length]; exact sz5 h2, fun e => ?_, fun _ q nq => ?_⟩))
          · subst e
            have e3 : es = [] := List.eq_nil_of_length_eq_zero q2.length.symm
            subst e3
            rw [List.append_nil] at p
            exact k _ _ F H p (.refl g0) (Dq.tup e1 q1) trivial
          · have g2 := Grow.new g0 (HO.tup (xs ++ ys)) nq
            exact k _ _ _ _ p g2 (Dq.tup upd_same ((q1.append q2).mono g2.f)) trivial
    | _ => exact h.elim
  | _ => exact h.elim
def catD : D → D → (D → Prop) → Prop := fun x y P => ∃ a b, x = .list a ∧ y = .list b ∧ a.length + b.length ≤ 100000 ∧ P (.list (a ++ b))
theorem r2_catN : R2ok K .fz .fz .nw rCat catD := fun b F H x y dx dy Q P g0 rx ry h k => by
  obtain ⟨ds, es, rfl, rfl, hl, p⟩ := h
  cases rx with
  | lst e1 q1 =>
    cases ry with
    | lst e2 q2 =>
      rename_i a1 xs a2 ys
      refine ⟨_, _, _, _, rfl, rfl, g0.s _ _ e1, g0.s _ _ e2, by rw [q1.length, q2.length]; exact sz5 hl, fun a na => ?_⟩
      have g2 := Grow.own g0 (HO.lst (xs ++ ys)) na
      exact k _ _ _ _ p g2 (.inl ⟨a, rfl, g0.s.free na, own_mkL upd_same (q1.append q2)⟩) fun q e => by cases e; exact nn_of na
theorem RKids.len {K : PySem.W.Frag} {F H : Hp} : ∀ {vs : List V} {ds : List D}, RKids K F H vs ds → vs.length = ds.length
  | _, _, .nil => rfl
  | _, _, .cons _ q => congrArg (· + 1) q.len
theorem RKids.get {K : PySem.W.Frag} {F H : Hp} : ∀ {vs : List V} {ds : List D} {k : Nat} {d : D}, RKids K F H vs ds → ds[k]? = some d → ∃ v, vs[k]? = some v ∧ (Dq F v d ∨ ∃ p, v = .ref p ∧ Rdb K F H p d)
  | _, _, _, _, .nil, h => by simp at h
  | _, _, 0, d, .cons a _, h => by
    simp at h
    subst h
    exact ⟨_, rfl, a⟩
  | _, _, k + 1, d, .cons _ b, h => by
    obtain ⟨v, h1, h2⟩ := RKids.get (k := k) b (by simpa using h)
    exact ⟨v, by simpa using h1, h2⟩
theorem DqA.rk {K : PySem.W.Frag} {F H : Hp} : ∀ {vs : List V} {ds : List D}, DqA F vs ds → RKids K F H vs ds
  | _, _, .nil => .nil
  | _, _, .cons a q => .cons (.inl a) q.rk
theorem vrt_lst {K : PySem.W.Frag} {b : B} {F H : Hp} {v : V} {ds : List D} (s : Same F H) (r : VR .rt K b F H v (.list ds)) : ∃ p xs, v = .ref p ∧ SqL K H p xs ∧ RKids K F H xs ds := by
  rcases r with r | ⟨p, e, xs, r, q⟩
  · obtain ⟨p, xs, e, s, q⟩ := vr_lst (b := b) s r
    exact ⟨p, xs, e, s, q.rk⟩
  · exact ⟨p, xs, e, r, q⟩
theorem vrt_tup {K : PySem.W.Frag} {b : B} {F H : Hp} {v : V} {ds : List D} (s : Same F H) (r : VR .rt K b F H v (.tuple ds)) : ∃ p xs, v = .ref p ∧ SqT K H p xs ∧ RKids K F H xs ds := by
  rcases r with r | ⟨p, e, xs, r, q⟩
  · obtain ⟨p, xs, e, s, q⟩ := vr_tup (b := b) s r
    exact ⟨p, xs, e, s, q.rk⟩
  · exact ⟨p, xs, e, r, q⟩
theorem vrt_atm {K : PySem.W.Frag} {b : B} {F H : Hp} {v : V} {d : D} (ha : isLT d = false) (r : VR .rt K b F H v d) : VR .rd K b F H v d := by
  rcases r with r | ⟨p, e, r⟩
  · exact r
  · cases d with
    | list _ => cases ha
    | tuple _ => cases ha
    | _ => exact r.elim
theorem RKids.dp {K : PySem.W.Frag} {F H : Hp} (s : Same F H) : ∀ {vs : List V} {ds : List D}, RKids K F H vs ds → flatA ds = true → DpAll K H vs ds
  | _, _, .nil, _ => .nil
  | _, _, .cons a q, f => by
    simp only [flatA, Bool.and_eq_true] at f
    exact .cons (VR.dp (b := ⟨F, H, []⟩) s a f.1) (RKids.dp s q f.2)
theorem VR.dpT {K : PySem.W.Frag} {b : B} {F H : Hp} {v : V} {d : D} (s : Same F H) (r : VR .rt K b F H v d) (f : flat d = true) : Dp K H v d := by
  rcases r with r | ⟨p, e, r⟩
  · exact VR.dp (b := b) s r f
  · subst e
    cases d with
    | list ds =>
      obtain ⟨xs, e, q⟩ := r
      exact .lst e (q.dp s (by simpa [flat] using f))
    | tuple ds =>
      obtain ⟨xs, e, q⟩ := r
      exact .tup e (q.dp s (by simpa [flat] using f))
    | _ => exact r.elim
/-! ### ==, in -/
def eqR (neg : Bool) : D → D → (D → Prop) → Prop := fun x y P => Shp 8 x ∧ Shp 8 y ∧ P (.bool (PyData.eqv x y ^^ neg))
theorem r2_eq (ha : ma ≠ .n2 := by intro z; cases z) (hb : mb ≠ .n2 := by intro z; cases z) : R2ok K ma mb .fz (rEqD K) (eqR false) := fun b F H x y dx dy Q P g0 rx ry h k => by
  obtain ⟨h1, h2, p⟩ := h
  rw [Bool.xor_false] at p
  exact ⟨dx, dy, VR.dpT g0.s (rx.rt g0 fun z => absurd z ha) (shp_ok 8 _ h1).2.2, VR.dpT g0.s (ry.rt g0 fun z => absurd z hb) (shp_ok 8 _ h2).2.2, shp_sh h1, shp_sh h2, k _ _ F H p (.refl g0) (Dq.bl _) trivial⟩
theorem r2_ne (ha : ma ≠ .n2 := by intro z; cases z) (hb : mb ≠ .n2 := by intro z; cases z) : R2ok K ma mb .fz (rNeD K) (eqR true) := fun b F H x y dx dy Q P g0 rx ry h k => by
  obtain ⟨h1, h2, p⟩ := h
  rw [Bool.xor_true] at p
  exact ⟨dx, dy, VR.dpT g0.s (rx.rt g0 fun z => absurd z ha) (shp_ok 8 _ h1).2.2, VR.dpT g0.s (ry.rt g0 fun z => absurd z hb) (shp_ok 8 _ h2).2.2, shp_sh h1, shp_sh h2, k _ _ F H p (.refl g0) (Dq.bl _) trivial⟩
def rInS (K : PySem.W.Frag) (neg : Bool) : R2 := fun x y H Q => ∃ d ds, Dp K H x d ∧ (Dp K H y (.list ds) ∨ Dp K H y (.tuple ds)) ∧ Shp 8 d ∧ (∀ z ∈ ds, Shp 8 z) ∧ Q (.bl ((ds.any fun z => PyData.eqv z d) ^^ neg)) H
theorem op_inS {X : Cx} (hu : X.A.units + 64 < cLine) : OpR X (compareOp .In) (rInS X.K false) := by
  intro pins s σ H x y v u Q I rx ry h
  obtain ⟨d, ds, hd, he, sd, se, q⟩ := h
  rw [Bool.xor_false] at q
  obtain ⟨as, r1⟩ := Dp.reads I d x v hd rx
  obtain ⟨d1, d2, _⟩ := shp_ok 8 _ sd
  obtain ⟨e1, e2, _⟩ := shpA (shp_ok 8) ds se
  have hm : X.A.units + 1 + min (PyData.depthAll ds) d.depth < cLine := by have := Nat.min_le_right (PyData.depthAll ds) d.depth; omega
  rcases he with he | he
  · obtain ⟨bs, r2⟩ := Dp.reads I (.list ds) y u he ry
    exact SeqAt.in_list_reads r2 r1 e1 d1 hm ⟨.bl _, H, I, rfl, q⟩
  · obtain ⟨bs, r2⟩ := Dp.reads I (.tuple ds) y u he ry
    exact SeqAt.in_tuple_reads r2 r1 e1 d1 hm ⟨.bl _, H, I, rfl, q⟩
theorem op_notInS {X : Cx} (hu : X.A.units + 64 < cLine) : OpR X (compareOp .NotIn) (rInS X.K true) := by
  intro pins s σ H x y v u Q I rx ry h
  obtain ⟨d, ds, hd, he, sd, se, q⟩ := h
  rw [Bool.xor_true] at q
  obtain ⟨as, r1⟩ := Dp.reads I d x v hd rx
  obtain ⟨d1, d2, _⟩ := shp_ok 8 _ sd
  obtain ⟨e1, e2, _⟩ := shpA (shp_ok 8) ds se
  have hm : X.A.units + 1 + min (PyData.depthAll ds) d.depth < cLine := by have := Nat.min_le_right (PyData.depthAll ds) d.depth; omega
  rcases he with he | he
  · obtain ⟨bs, r2⟩ := Dp.reads I (.list ds) y u he ry
    exact SeqAt.notIn_list_reads r2 r1 e1 d1 hm ⟨.bl _, H, I, rfl, q⟩
  · obtain ⟨bs, r2⟩ := Dp.reads I (.tuple ds) y u he ry
    exact SeqAt.notIn_tuple_reads r2 r1 e1 d1 hm ⟨.bl _, H, I, rfl, q⟩
def inR (neg : Bool) : D → D → (D → Prop) → Prop := fun x y P => ∃ ds, (y = .list ds ∨ y = .tuple ds) ∧ Shp 8 x ∧ (∀ z ∈ ds, Shp 8 z) ∧ P (.bool ((ds.any fun z => PyData.eqv z x) ^^ neg))
theorem r2_in {neg : Bool} (ha : ma.sh = true := by rfl) (hb : mb.sh = true := by rfl) : R2ok K ma mb .fz (rInS K neg) (inR neg) := fun b F H x y dx dy Q P g0 rx ry h k => by
  obtain ⟨ds, e, h1, h2, p⟩ := h
  have fl := (shpA (shp_ok 8) ds h2).2.2
  refine ⟨dx, ds, VR.dp g0.s (rx.rd ha g0) (shp_ok 8 _ h1).2.2, ?_, h1, h2, k _ _ F H p (.refl g0) (Dq.bl _) trivial⟩
  rcases e with rfl | rfl
  · exact .inl (VR.dp g0.s (ry.rd hb g0) (by simpa [flat] using fl))
  · exact .inr (VR.dp g0.s (ry.rd hb g0) (by simpa [flat] using fl))
/-! is None -/
def isN : D → Bool
  | .none => true
  | _ => false
def isR (neg : Bool) : D → D → (D → Prop) → Prop := fun x y P => (y = .none ∧ P (.bool (isN x ^^ neg))) ∨ ∃ a b, x = .bool a ∧ y = .bool b ∧ P (.bool (decide (a = b) ^^ neg))
theorem vr_isN {b : B} {F H : Hp} {x : V} {dx : D} (r : VR .rd K b F H x dx) : decide (x = .non) = isN dx := by
  rcases r with r | ⟨p, e, r⟩
  · cases r <;> simp [isN]
  · subst e
    cases dx with
    | list _ => simp [isN]
    | tuple _ => simp [isN]
    | dict _ => simp [isN]
    | _ => exact r.elim
def rIs (neg : Bool) : R2 := fun x y H Q => (y = .non ∧ Q (.bl (decide (x = .non) ^^ neg)) H) ∨ ∃ a b, x = .bl a ∧ y = .bl b ∧ Q (.bl (decide (a = b) ^^ neg)) H
theorem op_isD {X : Cx} : OpR X (compareOp .Is) (rIs false) := (show OpR X (compareOp .Is) (fun x y H Q => y = .non ∧ Q (.bl (decide (x = .non) ^^ false)) H) by simpa only [Bool.xor_false] using op_isN (X := X)).or (by simpa only [Bool.xor_false] using op_is_bl (X := X))
theorem op_isnotD {X : Cx} : OpR X (compareOp .IsNot) (rIs true) := (show OpR X (compareOp .IsNot) (fun x y H Q => y = .non ∧ Q (.bl (decide (x = .non) ^^ true)) H) by simpa only [Bool.xor_true] using op_notN (X := X)).or (by simpa only [Bool.xor_true] using op_isnot_bl (X := X))
theorem r2_is {neg : Bool} (ha : ma.sh = true := by rfl) (hb : mb.sh = true := by rfl) : R2ok K ma mb .fz (rIs neg) (isR neg) := fun b F H x y dx dy Q P g0 rx ry h k => by
  rcases h with ⟨rfl, p⟩ | ⟨a, c, rfl, rfl, p⟩
  · refine .inl ⟨vr_non (ry.rd hb g0), ?_⟩
    rw [vr_isN (rx.rd ha g0)]
    exact k _ _ F H p (.refl g0) (Dq.bl _) trivial
  · exact .inr ⟨a, c, vr_bl (rx.rd ha g0), vr_bl (ry.rd hb g0), k _ _ F H p (.refl g0) (Dq.bl _) trivial⟩
/-! ### subscripts -/
theorem atI_dq {F : Hp} {xs : List V} {ds : List D} {n : Int} {d : D} (q : DqA F xs ds) (h : atI ds n = some d) : ∃ v, atI xs n = some v ∧ Dq F v d := by
  unfold atI at h ⊢
  obtain ⟨j, hj, h⟩ := Option.bind_eq_some_iff.mp h
  obtain ⟨v, h1, h2⟩ := q.get h
  exact ⟨v, by rw [q.length, hj]; exact h1, h2⟩
def ixR : D → D → (D → Prop) → Prop := fun x y P => ∃ ds n d, (x = .list ds ∨ x = .tuple ds) ∧ y = .int n ∧ atI ds n = some d ∧ P d
def rIxS2 (K : PySem.W.Frag) : R2 := fun x y H Q => rIxL K x y H Q ∨ rIxT K x y H Q
theorem ix_two {X : Cx} : IxR X (rIxS2 X.K) := ix_list.or ix_tup
theorem r2_ix (ha : ma.sh = true := by rfl) (hb : mb.sh = true := by rfl) : R2ok K ma mb .fz (rIxS2 K) ixR := fun b F H x y dx dy Q P g0 rx ry h k => by
  obtain ⟨ds, n, d, e, rfl, hd, p⟩ := h
  have ey := vr_int (ry.rd hb g0)
  rcases e with rfl | rfl
  · obtain ⟨a, xs, rfl, s, q⟩ := vr_lst g0.s (rx.rd ha g0)
    obtain ⟨v, h1, h2⟩ := atI_dq q hd
    exact .inl ⟨a, xs, n, v, rfl, ey, s, h1, k _ _ F H p (.refl g0) h2 trivial⟩
  · obtain ⟨a, xs, rfl, s, q⟩ := vr_tup g0.s (rx.rd ha g0)
    obtain ⟨v, h1, h2⟩ := atI_dq q hd
    exact .inr ⟨a, xs, n, v, rfl, ey, s, h1, k _ _ F H p (.refl g0) h2 trivial⟩
/-- a child of a tree, read -/
theorem r2_ixT (ha : ma ≠ .n2 := by intro z; cases z) (hb : mb.sh = true := by rfl) : R2ok K ma mb .rd (rIxS2 K) ixR := fun b F H x y dx dy Q P g0 rx ry h k => by
  obtain ⟨ds, n, d, e, rfl, hd, p⟩ := h
  have ey := vr_int (ry.rd hb g0)
  have rx := rx.rt g0 fun z => absurd z ha
  unfold atI at hd
  obtain ⟨j, hj, hd⟩ := Option.bind_eq_some_iff.mp hd
  rcases e with rfl | rfl
  · obtain ⟨a, xs, rfl, s, q⟩ := vrt_lst g0.s rx
    obtain ⟨v, h1, h2⟩ := q.get hd
    exact .inl ⟨a, xs, n, v, rfl, ey, s, by unfold atI; rw [q.len, hj]; exact h1, k _ _ F H p (.refl g0) h2 trivial⟩
  · obtain ⟨a, xs, rfl, s, q⟩ := vrt_tup g0.s rx
    obtain ⟨v, h1, h2⟩ := q.get hd
    exact .inr ⟨a, xs, n, v, rfl, ey, s, by unfold atI; rw [q.len, hj]; exact h1, k _ _ F H p (.refl g0) h2 trivial⟩
end
section
variable {X : Cx} {W : WT} {ma mb : Md} {pos : Pos}
/-! ### dicts: d[k], k in d -/
def DGetD (x y : D) (r : Option D) : Prop := (∃ kds ks, x = dctT kds ∧ y = keyT ks ∧ r = valD kds ks) ∨ (∃ kds ks, x = dctK kds ∧ y = keyD ks ∧ r = valD kds ks) ∨ (∃ kds ks, x = lkT kds ∧ y = keyT ks ∧ r = valD kds ks) ∨ ∃ kds ks, x = lkK kds ∧ y = keyD ks ∧ r = valD kds ks
theorem lk_noT {F H : Hp} {p : Addr} {kds : List (List Key × D)} (z : LkD F H p (kds.map fun p => (keyT p.1, p.2))) : False := by
  rcases z with ⟨_, _, _, e, _⟩ | ⟨_, _, _, e, _⟩
  · exact dctT_lk (congrArg PyData.dict e)
  · exact dctT_lkK (congrArg PyData.dict e)
theorem lk_noK {F H : Hp} {p : Addr} {kds : List (Key × D)} (z : LkD F H p ((.none, .none) :: kds.map fun p => (keyD p.1, p.2))) : False := by
  rcases z with ⟨_, _, _, e, _⟩ | ⟨_, _, _, e, _⟩
  · exact dctK_lk (congrArg PyData.dict e)
  · exact dctK_lkK (congrArg PyData.dict e)
theorem own_noL {F H : Hp} {p : Addr} {kds : List (List Key × D)} (z : Own F H p (lkT kds)) : False := by
  rcases z with ⟨_, _, e, _⟩ | ⟨_, _, e, _⟩
  · exact dctT_lk (congrArg PyData.dict e).symm
  · exact dctK_lk (congrArg PyData.dict e).symm
theorem lk_T {F H : Hp} {p : Addr} {kds : List (List Key × D)} (z : LkD F H p ((.bool true, .none) :: kds.map fun p => (keyT p.1, p.2))) : ∃ (o : Obj) (kvs : List (List Key × V)), H p = some (.frz o (.dT kvs)) ∧ kvs.map (·.1) = kds.map (·.1) ∧ DqA F (kvs.map (·.2)) (kds.map (·.2)) := by
  rcases z with ⟨o, kvs, kds', e1, e, k, q⟩ | ⟨_, _, _, e1, _⟩
  rotate_left
  · exact (lkT_lkK (congrArg PyData.dict e1)).elim
  have h : kds = kds' := lkT_inj (congrArg PyData.dict e1)
  subst h
  exact ⟨o, kvs, e, k, q⟩
theorem own_noM {F H : Hp} {p : Addr} {kds : List (Key × D)} (z : Own F H p (lkK kds)) : False := by
  rcases z with ⟨_, _, e, _⟩ | ⟨_, _, e, _⟩
  · exact dctT_lkK (congrArg PyData.dict e).symm
  · exact dctK_lkK (congrArg PyData.dict e).symm
theorem lk_K {F H : Hp} {p : Addr} {kds : List (Key × D)} (z : LkD F H p ((.bool false, .none) :: kds.map fun p => (keyD p.1, p.2))) : ∃ (o : Obj) (kvs : List (Key × V)), H p = some (.frz o (.dK kvs)) ∧ kvs.map (·.1) = kds.map (·.1) ∧ DqA F (kvs.map (·.2)) (kds.map (·.2)) := by
  rcases z with ⟨_, _, _, e1, _⟩ | ⟨o, kvs, kds', e1, e, k, q⟩
  · exact (lkT_lkK (congrArg PyData.dict e1).symm).elim
  · have h : kds = kds' := lkK_inj (congrArg PyData.dict e1)
    subst h
    exact ⟨o, kvs, e, k, q⟩
theorem dget_of {K : PySem.W.Frag} {b : B} {F H : Hp} {x y : V} {dx dy : D} {r : Option D} (g0 : Grow b.T b.F b.H F H) (rx : VR .rd K b F H x dx) (ry : Dq F y dy) (h : DGetD dx dy r) : ∃ a o, x = .ref a ∧ DGet H a y o ∧ OV F o r := by
  rcases h with ⟨kds, ks, rfl, rfl, rfl⟩ | ⟨kds, ks, rfl, rfl, rfl⟩ | ⟨kds, ks, rfl, rfl, rfl⟩ | ⟨kds, ks, rfl, rfl, rfl⟩
  · obtain ⟨a, rfl, o⟩ := vr_dict g0.s rx
    replace o := o.resolve_right fun z => lk_noT z
    obtain ⟨kvs, hH, hk, hq⟩ := own_T o
    obtain ⟨c, rfl, ec⟩ := keyT_dq ry
    exact ⟨a, _, rfl, DGet.t hH (g0.s _ _ ec), kd_val ks hk hq⟩
  · obtain ⟨a, rfl, o⟩ := vr_dict g0.s rx
    replace o := o.resolve_right fun z => lk_noK z
    obtain ⟨kvs, hH, hk, hq⟩ := own_K o
    have ec := key1_dq ry
    subst ec
    exact ⟨a, _, rfl, DGet.k hH, kd_val ks hk hq⟩
  · obtain ⟨a, rfl, o⟩ := vr_dict g0.s rx
    replace o := o.resolve_left fun z => own_noL z
    obtain ⟨od, kvs, hH, hk, hq⟩ := lk_T o
    obtain ⟨c, rfl, ec⟩ := keyT_dq ry
    exact ⟨a, _, rfl, .inr ⟨kvs, ks, c, .inr ⟨od, hH⟩, rfl, g0.s _ _ ec, rfl⟩, kd_val ks hk hq⟩
  · obtain ⟨a, rfl, o⟩ := vr_dict g0.s rx
    replace o := o.resolve_left fun z => own_noM z
    obtain ⟨od, kvs, hH, hk, hq⟩ := lk_K o
    have ec := key1_dq ry
    subst ec
    exact ⟨a, _, rfl, .inl ⟨kvs, ks, .inr ⟨od, hH⟩, rfl, rfl⟩, kd_val ks hk hq⟩
def dDGet (td tk : DT) : DT := fun ρ P Z => td ρ (fun x => tk ρ (fun y => ∃ d, DGetD x y (some d) ∧ P d) Z) Z
theorem de_dget {m1 : Md} {o i : Expr} {td tk : DT} (hu : X.A.units + 1 < cLine) (ho : DE X W m1 o td) (hi : DE X W .fz i tk) (hs : NoSl i) (hsh : m1.sh = true := by rfl) : DE X W .fz (.Subscript o i pos) (dDGet td tk) := by
  obtain ⟨te1, p1, s1⟩ := ho.ok
  obtain ⟨te2, p2, s2⟩ := hi.ok
  refine ⟨_, pe_dget hu p1 p2 hs, fun b F H σ ρ Q P Z R z q k => s1 b F H σ ρ _ _ Z R z q fun d v F1 H1 p g r1 _ => s2 b F1 H1 σ ρ _ _ Z (R.grow g) (z.mono g.f) p fun d' v' F2 H2 p2 g2 r2 _ => ?_⟩
  obtain ⟨x, hx, p⟩ := p2
  have g3 := R.g.trans (g.trans g2)
  obtain ⟨a, o, e, hg, h⟩ := dget_of g3 ((r1.grow g2).rd hsh g3) r2 hx
  obtain ⟨w', e2, r3⟩ := h.val
  subst e2
  exact ⟨a, w', e, hg, k _ _ F2 H2 p (g.trans g2) r3 trivial⟩
def dDIn (neg : Bool) (tk td : DT) : DT := fun ρ P Z => tk ρ (fun y => td ρ (fun x => ∃ r, DGetD x y r ∧ P (.bool (r.isSome ^^ neg))) Z) Z
theorem dc_of {op : CmpOp} {i o : Expr} {t : DT} {te : TE} (hp : PC X op i o te) (hs : ∀ (b : B) (F H : Hp) (σ : L2.St) (ρ : List Sl) (Q : VK) (P : D → Prop) (Z : Zs), Rep X.K b F H σ ρ → ZOk X.mg X.K b F Z W → t ρ P Z → Goes .fz X.K b F H P Q → te σ H Q) (hm : behindInMarks op o = false) :
    DE X W .fz (.Compare i [op] [o] pos) t := ⟨te, pe_cmp hp hm, hs⟩
theorem dcB {te : TE} {t : DT} (hs : ∀ (b : B) (F H : Hp) (σ : L2.St) (ρ : List Sl) (Q : VK) (P : D → Prop) (Z : Zs), Rep X.K b F H σ ρ → ZOk X.mg X.K b F Z W → t ρ P Z → Goes .fz X.K b F H P Q → te σ H Q) :
    ∀ (b : B) (F H : Hp) (σ : L2.St) (ρ : List Sl) (Q : Bool → Hp → Prop) (P : Bool → Prop) (Z : Zs), Rep X.K b F H σ ρ → ZOk X.mg X.K b F Z W → dB t ρ P Z → (∀ c F' H', P c → Grow b.T F H F' H' → Q c H') → tB te σ H Q := fun b F H σ ρ Q P Z R z q k =>
  hs b F H σ ρ _ _ Z R z q fun d v F' H' p g r _ => by
    obtain ⟨c, rfl, p⟩ := p
    cases r
    exact ⟨c, rfl, k c F' H' p g⟩
theorem in_sem {m1 : Md} (hsh : m1.sh = true) {i o : Expr} {td tk : DT} {te1 te2 : TE}
    (s2 : ∀ (b : B) (F H : Hp) (σ : L2.St) (ρ : List Sl) (Q : VK) (P : D → Prop) (Z : Zs), Rep X.K b F H σ ρ → ZOk X.mg X.K b F Z W → tk ρ P Z → Goes .fz X.K b F H P Q → te2 σ H Q)
    (s1 : ∀ (b : B) (F H : Hp) (σ : L2.St) (ρ : List Sl) (Q : VK) (P : D → Prop) (Z : Zs), Rep X.K b F H σ ρ → ZOk X.mg X.K b F Z W → td ρ P Z → Goes m1 X.K b F H P Q → te1 σ H Q) :
    ∀ (b : B) (F H : Hp) (σ : L2.St) (ρ : List Sl) (Q : VK) (P : D → Prop) (Z : Zs), Rep X.K b F H σ ρ → ZOk X.mg X.K b F Z W → dDIn false tk td ρ P Z → Goes .fz X.K b F H P Q → tDIn te2 te1 σ H Q := fun b F H σ ρ Q P Z R z q k =>
  s2 b F H σ ρ _ _ Z R z q fun d' v' F1 H1 p g r2 _ => s1 b F1 H1 σ ρ _ _ Z (R.grow g) (z.mono g.f) p fun d v F2 H2 p2 g2 r1 _ => by
    obtain ⟨r, hx, p⟩ := p2
    have g3 := R.g.trans (g.trans g2)
    obtain ⟨a, o, e, hg, h⟩ := dget_of g3 (r1.rd hsh g3) (r2.mono g2.f) hx
    refine ⟨a, o, e, hg, ?_⟩
    rw [h.is]
    rw [Bool.xor_false] at p
    exact k _ _ F2 H2 p (g.trans g2) (Dq.bl _) trivial
theorem notin_sem {m1 : Md} (hsh : m1.sh = true) {i o : Expr} {td tk : DT} {te1 te2 : TE}
    (s2 : ∀ (b : B) (F H : Hp) (σ : L2.St) (ρ : List Sl) (Q : VK) (P : D → Prop) (Z : Zs), Rep X.K b F H σ ρ → ZOk X.mg X.K b F Z W → tk ρ P Z → Goes .fz X.K b F H P Q → te2 σ H Q)
    (s1 : ∀ (b : B) (F H : Hp) (σ : L2.St) (ρ : List Sl) (Q : VK) (P : D → Prop) (Z : Zs), Rep X.K b F H σ ρ → ZOk X.mg X.K b F Z W → td ρ P Z → Goes m1 X.K b F H P Q → te1 σ H Q) :
    ∀ (b : B) (F H : Hp) (σ : L2.St) (ρ : List Sl) (Q : VK) (P : D → Prop) (Z : Zs), Rep X.K b F H σ ρ → ZOk X.mg X.K b F Z W → dDIn true tk td ρ P Z → Goes .fz X.K b F H P Q → tDNotIn te2 te1 σ H Q := fun b F H σ ρ Q P Z R z q k =>
  s2 b F H σ ρ _ _ Z R z q fun d' v' F1 H1 p g r2 _ => s1 b F1 H1 σ ρ _ _ Z (R.grow g) (z.mono g.f) p fun d v F2 H2 p2 g2 r1 _ => by
    obtain ⟨r, hx, p⟩ := p2
    have g3 := R.g.trans (g.trans g2)
    obtain ⟨a, o, e, hg, h⟩ := dget_of g3 (r1.rd hsh g3) (r2.mono g2.f) hx
    refine ⟨a, o, e, hg, ?_⟩
    rw [h.is]
    rw [Bool.xor_true] at p
    exact k _ _ F2 H2 p (g.trans g2) (Dq.bl _) trivial
theorem de_din {m1 : Md} {i o : Expr} {td tk : DT} (hu : X.A.units + 1 < cLine) (hi : DE X W .fz i tk) (ho : DE X W m1 o td) (hm : behindInMarks .In o = false := by rfl) (hsh : m1.sh = true := by rfl) : DE X W .fz (.Compare i [.In] [o] pos) (dDIn false tk td) := by
  obtain ⟨te1, p1, s1⟩ := ho.ok
  obtain ⟨te2, p2, s2⟩ := hi.ok
  exact dc_of (pc_din hu p2 p1) (in_sem hsh (i := i) (o := o) s2 s1) hm
theorem de_dnotin {m1 : Md} {i o : Expr} {td tk : DT} (hu : X.A.units + 1 < cLine) (hi : DE X W .fz i tk) (ho : DE X W m1 o td) (hm : behindInMarks .NotIn o = false := by rfl) (hsh : m1.sh = true := by rfl) : DE X W .fz (.Compare i [.NotIn] [o] pos) (dDIn true tk td) := by
  obtain ⟨te1, p1, s1⟩ := ho.ok
  obtain ⟨te2, p2, s2⟩ := hi.ok
  exact dc_of (pc_dnotin hu p2 p1) (notin_sem hsh (i := i) (o := o) s2 s1) hm
theorem dt_din {m1 : Md} {i o : Expr} {td tk : DT} (hu : X.A.units + 1 < cLine) (hi : DE X W .fz i tk) (ho : DE X W m1 o td) (hm : behindInMarks .In o = false := by rfl) (hsh : m1.sh = true := by rfl) : DEt X W (.Compare i [.In] [o] pos) (dB (dDIn false tk td)) := by
  obtain ⟨te1, p1, s1⟩ := ho.ok
  obtain ⟨te2, p2, s2⟩ := hi.ok
  exact ⟨_, pt_cmp (pc_din hu p2 p1) hm, dcB (in_sem hsh (i := i) (o := o) s2 s1)⟩
theorem dt_dnotin {m1 : Md} {i o : Expr} {td tk : DT} (hu : X.A.units + 1 < cLine) (hi : DE X W .fz i tk) (ho : DE X W m1 o td) (hm : behindInMarks .NotIn o = false := by rfl) (hsh : m1.sh = true := by rfl) : DEt X W (.Compare i [.NotIn] [o] pos) (dB (dDIn true tk td)) := by
  obtain ⟨te1, p1, s1⟩ := ho.ok
  obtain ⟨te2, p2, s2⟩ := hi.ok
  exact ⟨_, pt_cmp (pc_dnotin hu p2 p1) hm, dcB (notin_sem hsh (i := i) (o := o) s2 s1)⟩
end
end DL
set_option maxRecDepth 100000
set_option maxHeartbeats 4000000
/-! DL7: slices, built-in calls by data. -/
namespace DL
open PySem PySem.Spec PyProof.Rows L2
variable {T : List (Addr × Str)}

theorem bt_len : bootBuiltins "len" = some (.builtin "len") := by decide +kernel
theorem bt_list : bootBuiltins "list" = some (.type "list") := by decide +kernel
theorem bt_tuple : bootBuiltins "tuple" = some (.type "tuple") := by decide +kernel
theorem bt_int : bootBuiltins "int" = some (.type "int") := by decide +kernel
theorem bt_bool : bootBuiltins "bool" = some (.type "bool") := by decide +kernel
theorem bt_str : bootBuiltins "str" = some (.type "str") := by decide +kernel
theorem bt_dict : bootBuiltins "dict" = some (.type "dict") := by decide +kernel
theorem bt_set : bootBuiltins "set" = some (.type "set") := by decide +kernel
theorem bt_min : bootBuiltins "min" = some (.builtin "min") := by decide +kernel
theorem bt_max : bootBuiltins "max" = some (.builtin "max") := by decide +kernel
theorem bt_sum : bootBuiltins "sum" = some (.builtin "sum") := by decide +kernel
theorem bt_abs : bootBuiltins "abs" = some (.builtin "abs") := by decide +kernel
theorem bt_sorted : bootBuiltins "sorted" = some (.builtin "sorted") := by decide +kernel
theorem bt_isinstance : bootBuiltins "isinstance" = some (.builtin "isinstance") := by decide +kernel
theorem bt_all : bootBuiltins "all" = some (.builtin "all") := by decide +kernel
theorem bt_any : bootBuiltins "any" = some (.builtin "any") := by decide +kernel

/-! ### slices -/
abbrev DTo := List Sl → (Option Int → Prop) → Zs → Prop
structure DO (X : Cx) (W : WT) (e : Option Expr) (t : DTo) : Prop where
  ok : ∃ te : TO, PO X e te ∧ ∀ (b : B) (F H : Hp) (σ : L2.St) (ρ : List Sl) (Q : Option Int → Hp → Prop) (P : Option Int → Prop) (Z : Zs), Rep X.K b F H σ ρ → ZOk X.mg X.K b F Z W → t ρ P Z → (∀ o F' H', P o → Grow b.T F H F' H' → Q o H') → te σ H Q
def dNoP : DTo := fun _ P _ => P none
def dPart (t : DT) : DTo := fun ρ P Z => t ρ (fun x => ∃ i, x = .int i ∧ P (some i)) Z
def cutD (xs : List D) (lo hi : Option Int) : List D := (xs.drop (HT.sIx xs.length 0 lo)).take (HT.sIx xs.length xs.length hi - HT.sIx xs.length 0 lo)
theorem cut_dq {F : Hp} {xs : List V} {ds : List D} (q : DqA F xs ds) (lo hi : Option Int) : DqA F (cutV xs lo hi) (cutD ds lo hi) := by
  unfold cutV cutD
  rw [q.length]
  exact (q.drop _).take _
section
variable {X : Cx} {W : WT} {ma mb m : Md} {pos p2 : Pos}
theorem do_none : DO X W none dNoP := ⟨_, po_none, fun b F H σ ρ Q P Z R z q k => k none F H q (.refl R.g)⟩
theorem do_some {e : Expr} {t : DT} (h : DE X W .fz e t) : DO X W (some e) (dPart t) := by
  obtain ⟨te, p, s⟩ := h.ok
  refine ⟨_, po_some p, fun b F H σ ρ Q P Z R z q k => s b F H σ ρ _ _ Z R z q fun d v F' H' p g r _ => ?_⟩
  obtain ⟨i, rfl, p⟩ := p
  cases r
  exact ⟨i, rfl, k _ F' H' p g⟩
/-- of a list, of a tuple (not the whole of it) -/
def cutR (x : D) (lo hi : Option Int) (P : D → Prop) : Prop := match x with
  | .list ds => P (.list (cutD ds lo hi))
  | .tuple ds => ¬ (HT.sIx ds.length 0 lo = 0 ∧ HT.sIx ds.length ds.length hi = ds.length) ∧ P (.tuple (cutD ds lo hi))
  | _ => False
def dSlice (t : DT) (tl th : DTo) : DT := fun ρ P Z => t ρ (fun x => tl ρ (fun lo => th ρ (fun hi => cutR x lo hi P) Z) Z) Z
theorem de_slice {e : Expr} {lo hi : Option Expr} {t : DT} {tl th : DTo} (h : DE X W m e t) (hl : DO X W lo tl) (hh : DO X W hi th) (hsh : m.sh = true := by rfl) : DE X W .fz (.Subscript e (.Slice lo hi none p2) pos) (dSlice t tl th) := by
  obtain ⟨te, p, s⟩ := h.ok
  obtain ⟨te1, p1, s1⟩ := hl.ok
  obtain ⟨te2, p2, s2⟩ := hh.ok
  refine ⟨_, pe_slice (sl_list.or sl_tup) p p1 p2, fun b F H σ ρ Q P Z R z q k => s b F H σ ρ _ _ Z R z q fun x v F1 H1 q1 g1 r _ => s1 b F1 H1 σ ρ _ _ Z (R.grow g1) (z.mono g1.f) q1 fun l F2 H2 q2 g2 => s2 b F2 H2 σ ρ _ _ Z ((R.grow g1).grow g2) (z.mono (g1.f.trans g2.f)) q2 fun u F3 H3 q3 g3 => ?_⟩
  have g0 := R.g.trans (g1.trans (g2.trans g3))
  have r3 := ((r.grow g2).grow g3).rd hsh g0
  cases x with
  | list ds =>
    obtain ⟨a, xs, rfl, sq, dq⟩ := vr_lst g0.s r3
    refine .inl ⟨a, xs, rfl, sq, fun p np => ?_⟩
    have g4 := Grow.new g0 (HO.lst (cutV xs l u)) np
    exact k _ _ _ _ q3 (g1.trans (g2.trans (g3.trans g4))) (Dq.lst upd_same ((cut_dq dq l u).mono g4.f)) trivial
  | tuple ds =>
    obtain ⟨a, xs, rfl, sq, dq⟩ := vr_tup g0.s r3
    refine .inr ⟨a, xs, rfl, sq, by rw [dq.length]; exact q3.1, fun p np => ?_⟩
    have g4 := Grow.new g0 (HO.tup (cutV xs l u)) np
    exact k _ _ _ _ q3.2 (g1.trans (g2.trans (g3.trans g4))) (Dq.tup upd_same ((cut_dq dq l u).mono g4.f)) trivial
  | _ => exact q3.elim
def cutN (x : D) (lo hi : Option Int) (P : D → Prop) : Prop := ∃ ds, x = .list ds ∧ P (.list (cutD ds lo hi))
def dSliceN (t : DT) (tl th : DTo) : DT := fun ρ P Z => t ρ (fun x => tl ρ (fun lo => th ρ (fun hi => cutN x lo hi P) Z) Z) Z
theorem de_sliceN {e : Expr} {lo hi : Option Expr} {t : DT} {tl th : DTo} (h : DE X W m e t) (hl : DO X W lo tl) (hh : DO X W hi th) (hsh : m.sh = true := by rfl) : DE X W .nw (.Subscript e (.Slice lo hi none p2) pos) (dSliceN t tl th) := by
  obtain ⟨te, p, s⟩ := h.ok
  obtain ⟨te1, p1, s1⟩ := hl.ok
  obtain ⟨te2, p2, s2⟩ := hh.ok
  refine ⟨_, pe_slice sl_list p p1 p2, fun b F H σ ρ Q P Z R z q k => s b F H σ ρ _ _ Z R z q fun x v F1 H1 q1 g1 r _ => s1 b F1 H1 σ ρ _ _ Z (R.grow g1) (z.mono g1.f) q1 fun l F2 H2 q2 g2 => s2 b F2 H2 σ ρ _ _ Z ((R.grow g1).grow g2) (z.mono (g1.f.trans g2.f)) q2 fun u F3 H3 q3 g3 => ?_⟩
  have g0 := R.g.trans (g1.trans (g2.trans g3))
  have gg := g1.trans (g2.trans g3)
  obtain ⟨ds, rfl, q3⟩ := q3
  obtain ⟨a, xs, rfl, sq, dq⟩ := vr_lst g0.s (((r.grow g2).grow g3).rd hsh g0)
  refine ⟨a, xs, rfl, sq, fun p np => ?_⟩
  have g4 := Grow.own g0 (HO.lst (cutV xs l u)) np
  exact k _ _ _ _ q3 (gg.trans g4) (.inl ⟨p, rfl, g0.s.free np, own_mkL upd_same (cut_dq dq l u)⟩) fun q e => by cases e; exact gg.h.free np
end

section
variable {K : PySem.W.Frag} {m ma mb : Md}
theorem vrs1 {b : B} {F H : Hp} {ms : List Md} {xs : List V} {d : D} (r : VRs K b F H (m :: []) xs [d]) : ∃ v, xs = [v] ∧ VR m K b F H v d := by
  cases r with
  | cons r q =>
    cases q
    exact ⟨_, rfl, r⟩
/-! ### len, list, tuple -/
def lenR : List D → (D → Prop) → Prop := fun ds P => ∃ x, ds = [x] ∧ match x with
  | .list xs => P (.int xs.length)
  | .tuple xs => P (.int xs.length)
  | .str s => s.length ≤ 100000 ∧ P (.int s.length)
  | _ => False
theorem ra_len (ha : m ≠ .n2 := by intro z; cases z) : RAok K [m] .fz (fun xs H Q => ∃ x n, xs = [x] ∧ LenV K x H n ∧ Q (.int n) H) lenR := fun b F H xs ds Q P g0 r h k => by
  obtain ⟨x, rfl, h⟩ := h
  obtain ⟨v, rfl, r1⟩ := vrs1 (ms := []) r
  have r := r1
  have r := r.rt g0 fun z => absurd z ha
  cases x with
  | list ds =>
    obtain ⟨a, xs, rfl, sq, dq⟩ := vrt_lst g0.s r
    refine ⟨_, _, rfl, .inl ⟨xs, sq, rfl⟩, ?_⟩
    rw [dq.len]
    exact k _ _ F H h (.refl g0) (Dq.int _) trivial
  | tuple ds =>
    obtain ⟨a, xs, rfl, sq, dq⟩ := vrt_tup g0.s r
    refine ⟨_, _, rfl, .inr ⟨xs, sq, rfl⟩, ?_⟩
    rw [dq.len]
    exact k _ _ F H h (.refl g0) (Dq.int _) trivial
  | str s =>
    rw [vr_str (vrt_atm rfl r)]
    exact ⟨_, _, rfl, ⟨sz5 h.1, rfl⟩, k _ _ F H h.2 (.refl g0) (Dq.int _) trivial⟩
  | _ => exact h.elim
def listR : List D → (D → Prop) → Prop := fun ds P => ∃ x xs, ds = [x] ∧ (x = .list xs ∨ x = .tuple xs) ∧ P (.list xs)
theorem ra_list (hsh : m.sh = true := by rfl) : RAok K [m] .nw (fun xs H Q => ∃ p ys, xs = [.ref p] ∧ (SqL K H p ys ∨ SqT K H p ys) ∧ ∀ l, H l = none → Q (.ref l) (upd H l (.lst ys))) listR := fun b F H xs ds Q P g0 r h k => by
  obtain ⟨x, ls, rfl, e, p⟩ := h
  obtain ⟨v, rfl, r1⟩ := vrs1 (ms := []) r
  have r := r1
  have r := r.rd hsh g0
  have fin : ∀ (ys : List V), DqA F ys ls → ∀ l, H l = none → Q (.ref l) (upd H l (.lst ys)) := fun ys dq l nl => by
    have g4 := Grow.own g0 (HO.lst ys) nl
    exact k _ _ _ _ p g4 (.inl ⟨l, rfl, g0.s.free nl, own_mkL upd_same dq⟩) fun q e => by cases e; exact nn_of nl
  rcases e with rfl | rfl
  · obtain ⟨a, xs, rfl, sq, dq⟩ := vr_lst g0.s r
    exact ⟨a, xs, rfl, .inl sq, fin xs dq⟩
  · obtain ⟨a, xs, rfl, sq, dq⟩ := vr_tup g0.s r
    exact ⟨a, xs, rfl, .inr sq, fin xs dq⟩
/-- of a list, of a tuple that stands still -/
def tupleR : List D → (D → Prop) → Prop := fun ds P => ∃ x xs, ds = [x] ∧ (x = .list xs ∨ x = .tuple xs) ∧ P (.tuple xs)
theorem ra_tuple : RAok K [.fz] .fz (fun xs H Q => ∃ p ys, xs = [.ref p] ∧ ((SqL K H p ys ∧ ∀ l, H l = none → Q (.ref l) (upd H l (.tup ys))) ∨ (SqT K H p ys ∧ Q (.ref p) H))) tupleR := fun b F H xs ds Q P g0 r h k => by
  obtain ⟨x, ls, rfl, e, p⟩ := h
  obtain ⟨v, rfl, r1⟩ := vrs1 (ms := []) r
  have r := r1
  rcases e with rfl | rfl
  · cases r with
    | lst e q =>
      rename_i a xs
      refine ⟨a, xs, rfl, .inl ⟨.of (g0.s _ _ e), fun l nl => ?_⟩⟩
      have g4 := Grow.new g0 (HO.tup xs) nl
      exact k _ _ _ _ p g4 (Dq.tup upd_same (q.mono g4.f)) trivial
  · cases r with
    | tup e q => exact ⟨_, _, rfl, .inr ⟨.of (g0.s _ _ e), k _ _ F H p (.refl g0) (Dq.tup e q) trivial⟩⟩
/-- of any list -/
def tupleL : List D → (D → Prop) → Prop := fun ds P => ∃ xs, ds = [.list xs] ∧ P (.tuple xs)
theorem ra_tupleL (hsh : m.sh = true := by rfl) : RAok K [m] .fz (fun xs H Q => ∃ p ys, xs = [.ref p] ∧ ((SqL K H p ys ∧ ∀ l, H l = none → Q (.ref l) (upd H l (.tup ys))) ∨ (SqT K H p ys ∧ Q (.ref p) H))) tupleL := fun b F H xs ds Q P g0 r h k => by
  obtain ⟨ls, rfl, p⟩ := h
  obtain ⟨v, rfl, r1⟩ := vrs1 (ms := []) r
  have r := r1
  obtain ⟨a, xs, rfl, sq, dq⟩ := vr_lst g0.s (r.rd hsh g0)
  refine ⟨a, xs, rfl, .inl ⟨sq, fun l nl => ?_⟩⟩
  have g4 := Grow.new g0 (HO.tup xs) nl
  exact k _ _ _ _ p g4 (Dq.tup upd_same (dq.mono g4.f)) trivial
/-! ### min, max, abs, int -/
theorem vrs2 {b : B} {F H : Hp} {xs : List V} {d e : D} (r : VRs K b F H [ma, mb] xs [d, e]) : ∃ v w, xs = [v, w] ∧ VR ma K b F H v d ∧ VR mb K b F H w e := by
  cases r with
  | cons r q =>
    cases q with
    | cons r2 q =>
      cases q
      exact ⟨_, _, rfl, r, r2⟩
def min2R : List D → (D → Prop) → Prop := fun ds P => ∃ i j, ds = [.int i, .int j] ∧ P (.int (min i j))
def max2R : List D → (D → Prop) → Prop := fun ds P => ∃ i j, ds = [.int i, .int j] ∧ P (.int (max i j))
theorem ra_min2 (ha : ma.sh = true := by rfl) (hb : mb.sh = true := by rfl) : RAok K [ma, mb] .fz (fun xs H Q => ∃ i j, xs = [.int i, .int j] ∧ Q (.int (if j < i then j else i)) H) min2R := fun b F H xs ds Q P g0 r h k => by
  obtain ⟨i, j, rfl, p⟩ := h
  obtain ⟨v, w, rfl, r1, r2⟩ := vrs2 r
  refine ⟨i, j, by rw [vr_int (r1.rd ha g0), vr_int (r2.rd hb g0)], ?_⟩
  have e : (if j < i then j else i) = min i j := by omega
  rw [e]
  exact k _ _ F H p (.refl g0) (Dq.int _) trivial
theorem ra_max2 (ha : ma.sh = true := by rfl) (hb : mb.sh = true := by rfl) : RAok K [ma, mb] .fz (fun xs H Q => ∃ i j, xs = [.int i, .int j] ∧ Q (.int (if j > i then j else i)) H) max2R := fun b F H xs ds Q P g0 r h k => by
  obtain ⟨i, j, rfl, p⟩ := h
  obtain ⟨v, w, rfl, r1, r2⟩ := vrs2 r
  refine ⟨i, j, by rw [vr_int (r1.rd ha g0), vr_int (r2.rd hb g0)], ?_⟩
  have e : (if j > i then j else i) = max i j := by omega
  rw [e]
  exact k _ _ F H p (.refl g0) (Dq.int _) trivial
def absR : List D → (D → Prop) → Prop := fun ds P => ∃ i, ds = [.int i] ∧ P (.int (if i < 0 then -i else i))
theorem ra_abs (hsh : m.sh = true := by rfl) : RAok K [m] .fz (fun xs H Q => ∃ i, xs = [.int i] ∧ Q (.int (if i < 0 then -i else i)) H) absR := fun b F H xs ds Q P g0 r h k => by
  obtain ⟨i, rfl, p⟩ := h
  obtain ⟨v, rfl, r1⟩ := vrs1 (ms := []) r
  have r := r1
  exact ⟨i, by rw [vr_int (r.rd hsh g0)], k _ _ F H p (.refl g0) (Dq.int _) trivial⟩
def intR : List D → (D → Prop) → Prop := fun ds P => ∃ x, ds = [x] ∧ match x with
  | .int i => P (.int i)
  | .bool c => P (.int (if c then 1 else 0))
  | _ => False
theorem ra_int (hsh : m.sh = true := by rfl) : RAok K [m] .fz (fun xs H Q => (∃ i, xs = [.int i] ∧ Q (.int i) H) ∨ ∃ k, xs = [.bl k] ∧ Q (.int (if k then 1 else 0)) H) intR := fun b F H xs ds Q P g0 r h k => by
  obtain ⟨x, rfl, h⟩ := h
  obtain ⟨v, rfl, r1⟩ := vrs1 (ms := []) r
  have r := r1
  cases x with
  | int i => exact .inl ⟨i, by rw [vr_int (r.rd hsh g0)], k _ _ F H h (.refl g0) (Dq.int _) trivial⟩
  | bool i => exact .inr ⟨i, by rw [vr_bl (r.rd hsh g0)], k _ _ F H h (.refl g0) (Dq.int _) trivial⟩
  | _ => exact h.elim
/-! ### sum, min, max of ints in a row -/
def intsD : List D → Option (List Int)
  | [] => some []
  | .int i :: r => (intsD r).map (i :: ·)
  | _ :: _ => none
@[simp] theorem intsD_map : ∀ ns : List Int, intsD (ns.map .int) = some ns
  | [] => rfl
  | n :: ns => by
    show (intsD (ns.map .int)).map (n :: ·) = _
    rw [intsD_map ns]
    rfl
theorem intsD_eq : ∀ {ds : List D} {ns : List Int}, intsD ds = some ns → ds = ns.map .int
  | [], ns, h => by
    simp only [intsD, Option.some.injEq] at h
    subst h
    rfl
  | .int i :: r, ns, h => by
    simp only [intsD, Option.map_eq_some_iff] at h
    obtain ⟨l, h1, rfl⟩ := h
    rw [intsD_eq h1]
    rfl
  | .none :: _, _, h => by simp [intsD] at h
  | .bool _ :: _, _, h => by simp [intsD] at h
  | .str _ :: _, _, h => by simp [intsD] at h
  | .list _ :: _, _, h => by simp [intsD] at h
  | .tuple _ :: _, _, h => by simp [intsD] at h
  | .dict _ :: _, _, h => by simp [intsD] at h
theorem ints_dq {F : Hp} : ∀ {ns : List Int} {vs : List V}, DqA F vs (ns.map .int) → vs = ns.map V.int
  | [], _, h => by cases h; rfl
  | n :: ns, _, h => by
    cases h with
    | cons a b =>
      cases a
      rw [ints_dq b]
      rfl
def lmin : List Int → Int
  | [] => 0
  | [a] => a
  | a :: b :: r => min a (lmin (b :: r))
def lmax : List Int → Int
  | [] => 0
  | [a] => a
  | a :: b :: r => max a (lmax (b :: r))
theorem lmin_spec : ∀ {ns : List Int}, ns ≠ [] → lmin ns ∈ ns ∧ ∀ y ∈ ns, lmin ns ≤ y
  | [], h => absurd rfl h
  | [a], _ => by simp [lmin]
  | a :: b :: r, _ => by
    obtain ⟨h1, h2⟩ := lmin_spec (ns := b :: r) (by simp)
    refine ⟨?_, fun y hy => ?_⟩
    · simp only [lmin]
      by_cases c : a ≤ lmin (b :: r)
      · rw [Int.min_eq_left c]
        simp
      · rw [Int.min_eq_right (by omega)]
        exact List.mem_cons_of_mem _ h1
    · simp only [lmin]
      rcases List.mem_cons.mp hy with rfl | hy
      · omega
      · have := h2 y hy
        omega
theorem lmax_spec : ∀ {ns : List Int}, ns ≠ [] → lmax ns ∈ ns ∧ ∀ y ∈ ns, y ≤ lmax ns
  | [], h => absurd rfl h
  | [a], _ => by simp [lmax]
  | a :: b :: r, _ => by
    obtain ⟨h1, h2⟩ := lmax_spec (ns := b :: r) (by simp)
    refine ⟨?_, fun y hy => ?_⟩
    · simp only [lmax]
      by_cases c : lmax (b :: r) ≤ a
      · rw [Int.max_eq_left c]
        simp
      · rw [Int.max_eq_right (by omega)]
        exact List.mem_cons_of_mem _ h1
    · simp only [lmax]
      rcases List.mem_cons.mp hy with rfl | hy
      · omega
      · have := h2 y hy
        omega
end
/-! the walks over a tuple of ints -/
section
variable {prog : Program} {w : World} {A : Around} {E : Value → Shared → Prop} {s : Shared} {l : Addr} {its : List Value} {ns : List Int} {Q : Value → Shared → Prop}
theorem iter_intTup {xs : Array (Int × Tok)} {Q : Value → Shared → Prop} (hl : s.heap.IsTuple l (intItems xs))
    (h : ∀ s₂ : Shared, (∃ o, s₂ = { s with heap := s.heap.push o }) →
      (s₂.heap.IsTupleIter s.heap.objs.size l 0 ∧ s₂.heap.IsTuple l (intItems xs)) → (∀ b ∈ [s.heap.objs.size, l], b < s₂.heap.objs.size) → l ≠ s.heap.objs.size → Q (.ref s.heap.objs.size) s₂) :
    wpAny (model prog w) A (pyIter (.ref l)) Q E s := by
  have hlt : l < s.heap.objs.size := by obtain ⟨_, e, _⟩ := hl; exact Heap.lt_size e
  refine wpAny_pyIter_tuple hl (h _ ⟨_, rfl⟩ ⟨⟨_, Heap.get?_push_size _ rfl, rfl, rfl⟩, hl.push _⟩ (fun b hb => ?_) (Nat.ne_of_lt hlt))
  show b < (s.heap.push _).objs.size
  rw [Heap.size_push]
  rcases List.mem_cons.mp hb with rfl | hb
  · exact Nat.lt_succ_self _
  · rcases List.mem_cons.mp hb with rfl | hb
    · exact Nat.lt_succ_of_lt hlt
    · cases hb
theorem oldT {o : Obj} {h' : Heap} (hk : ∀ b ob, b ∉ [s.heap.objs.size] → (s.heap.push o).get? b = some ob → h'.get? b = some ob) :
    ∀ b ob, s.heap.get? b = some ob → h'.get? b = some ob := fun b ob e => by
  refine hk b ob (fun hm => ?_) (Heap.get?_push_of_some _ e)
  rcases List.mem_cons.mp hm with e1 | hm
  · exact absurd (e1 ▸ Heap.lt_size e) (Nat.lt_irrefl _)
  · cases hm
theorem sumT_raw (hh : A.handled = none) (hl : s.heap.IsTuple l its.toArray) (hi : IntsAre its ns)
    (h : ∀ h' tk t', (∀ b o, s.heap.get? b = some o → h'.get? b = some o) → Q (.int ns.sum t') { s with heap := h', toks := tk }) : wpAny (model prog w) A (call (.builtin "sum") [.ref l]) Q E s := by
  obtain ⟨xs, e⟩ := hi.allInts.items
  have hn : numsOf (intItems xs).toList = ns := by rw [← e]; exact hi.numsOf
  rw [nums_intItems] at hn
  rw [e] at hl
  refine call_sum_walkG (iter_intTup hl fun s₂ e st hfp hlI => ?_)
  obtain ⟨o, rfl⟩ := e
  refine ⟨_, _, _, _, _, _, numAt xs, rfl, Walks.tuple (A := A.in1) hh _ l hlI (intItems xs), st, hfp, (fun _ _ => intItems_at), fun h' tk t' hk => ?_⟩
  have := h h' tk t' (oldT hk)
  rw [preSum_eq, List.take_of_length_le (by simp [intItems]), hn]
  exact this
theorem maxT_raw (hh : A.handled = none) (hl : s.heap.IsTuple l its.toArray) (hi : IntsAre its ns) (hne : 0 < ns.length)
    (h : ∀ h' tk M t', (∀ b o, s.heap.get? b = some o → h'.get? b = some o) → M ∈ ns → (∀ a, a ∈ ns → a ≤ M) → Q (.int M t') { s with heap := h', toks := tk }) : wpAny (model prog w) A (call (.builtin "max") [.ref l]) Q E s := by
  obtain ⟨xs, e⟩ := hi.allInts.items
  have hn : numsOf (intItems xs).toList = ns := by rw [← e]; exact hi.numsOf
  rw [nums_intItems] at hn
  subst hn
  rw [e] at hl
  have hsz : 0 < xs.size := by simpa using hne
  refine call_max_walk (iter_intTup hl fun s₂ e st hfp hlI => ?_)
  obtain ⟨o, rfl⟩ := e
  refine ⟨_, _, _, _, _, _, _, rfl, Walks.tuple (A := A.in1) hh _ l hlI (intItems xs), st, hfp, by simpa [intItems] using hsz, CmpOf.ints_gt (numAt xs) (fun _ _ => intItems_at), fun v h' tk hv hk => ?_⟩
  obtain ⟨t, rfl⟩ := intItems_at hv
  have hv' : ∃ k, k = (intItems xs).size - 1 := ⟨_, rfl⟩
  obtain ⟨h1, h2⟩ := argBest_gt (numAt xs) ((intItems xs).size - 1)
  have hs2 : (intItems xs).size = xs.size := by simp [intItems]
  refine h h' tk _ t (oldT hk) ?_ fun a ha => ?_
  · rw [numAt_eq]; exact PySem.getD_mem (by rw [List.length_map, Array.length_toList]; omega)
  · obtain ⟨j, hj, rfl⟩ := mem_getD ha
    rw [List.length_map, Array.length_toList] at hj
    rw [← numAt_eq]; exact h2 j (by omega)
theorem minT_raw (hh : A.handled = none) (hl : s.heap.IsTuple l its.toArray) (hi : IntsAre its ns) (hne : 0 < ns.length)
    (h : ∀ h' tk M t', (∀ b o, s.heap.get? b = some o → h'.get? b = some o) → M ∈ ns → (∀ a, a ∈ ns → M ≤ a) → Q (.int M t') { s with heap := h', toks := tk }) : wpAny (model prog w) A (call (.builtin "min") [.ref l]) Q E s := by
  obtain ⟨xs, e⟩ := hi.allInts.items
  have hn : numsOf (intItems xs).toList = ns := by rw [← e]; exact hi.numsOf
  rw [nums_intItems] at hn
  subst hn
  rw [e] at hl
  have hsz : 0 < xs.size := by simpa using hne
  refine call_min_walk (iter_intTup hl fun s₂ e st hfp hlI => ?_)
  obtain ⟨o, rfl⟩ := e
  refine ⟨_, _, _, _, _, _, _, rfl, Walks.tuple (A := A.in1) hh _ l hlI (intItems xs), st, hfp, by simpa [intItems] using hsz, CmpOf.ints_lt (numAt xs) (fun _ _ => intItems_at), fun v h' tk hv hk => ?_⟩
  obtain ⟨t, rfl⟩ := intItems_at hv
  obtain ⟨h1, h2⟩ := argBest_lt (numAt xs) ((intItems xs).size - 1)
  have hs2 : (intItems xs).size = xs.size := by simp [intItems]
  refine h h' tk _ t (oldT hk) ?_ fun a ha => ?_
  · rw [numAt_eq]; exact PySem.getD_mem (by rw [List.length_map, Array.length_toList]; omega)
  · obtain ⟨j, hj, rfl⟩ := mem_getD ha
    rw [List.length_map, Array.length_toList] at hj
    rw [← numAt_eq]; exact h2 j (by omega)
end
section
variable {X : Cx}
def rSeqI (K : PySem.W.Frag) (C : List Int → Prop) (f : List Int → Int) : List V → Hp → VK → Prop := fun vs H Q => ∃ (a : Addr) (ns : List Int), vs = [V.ref a] ∧ (SqL K H a (ns.map V.int) ∨ SqT K H a (ns.map V.int)) ∧ C ns ∧ Q (.int (f ns)) H
theorem cr_sumA (hc : X.calm = true) : CallR X (.builtin "sum") (rSeqI X.K (fun _ => True) List.sum) := by
  intro pins s σ H vs us Q I r h
  obtain ⟨a, ns, rfl, hs, _, q⟩ := h
  rcases hs with hs | hs
  · exact cr_sum hc pins s σ H _ us Q I r ⟨a, ns, rfl, hs, q⟩
  · obtain ⟨its, rv, hl, _⟩ := I.tuple hs
    rw [Vals.ref1 r]
    exact sumT_raw (I.ok.hd hc) hl rv.ints fun h' tk t' hk => ⟨.int _, H, I.kept hk, ⟨_, rfl⟩, q⟩
theorem cr_maxA (hc : X.calm = true) : CallR X (.builtin "max") (rSeqI X.K (fun ns => ns ≠ []) lmax) := by
  intro pins s σ H vs us Q I r h
  obtain ⟨a, ns, rfl, hs, hne, q⟩ := h
  obtain ⟨l1, l2⟩ := lmax_spec hne
  have hp : 0 < ns.length := List.length_pos_iff.mpr hne
  rcases hs with hs | hs
  · refine cr_max hc pins s σ H _ us Q I r ⟨a, ns, rfl, hs, hp, fun m h1 h2 => ?_⟩
    have e : m = lmax ns := by have := h2 _ l1; have := l2 _ h1; omega
    rw [e]
    exact q
  · obtain ⟨its, rv, hl, _⟩ := I.tuple hs
    rw [Vals.ref1 r]
    refine maxT_raw (I.ok.hd hc) hl rv.ints hp fun h' tk m t' hk h1 h2 => ?_
    have e : m = lmax ns := by have := h2 _ l1; have := l2 _ h1; omega
    exact ⟨.int _, H, I.kept hk, ⟨_, rfl⟩, by rw [e]; exact q⟩
theorem cr_minA (hc : X.calm = true) : CallR X (.builtin "min") (rSeqI X.K (fun ns => ns ≠ []) lmin) := by
  intro pins s σ H vs us Q I r h
  obtain ⟨a, ns, rfl, hs, hne, q⟩ := h
  obtain ⟨l1, l2⟩ := lmin_spec hne
  have hp : 0 < ns.length := List.length_pos_iff.mpr hne
  rcases hs with hs | hs
  · refine cr_min hc pins s σ H _ us Q I r ⟨a, ns, rfl, hs, hp, fun m h1 h2 => ?_⟩
    have e : m = lmin ns := by have := h2 _ l1; have := l2 _ h1; omega
    rw [e]
    exact q
  · obtain ⟨its, rv, hl, _⟩ := I.tuple hs
    rw [Vals.ref1 r]
    refine minT_raw (I.ok.hd hc) hl rv.ints hp fun h' tk m t' hk h1 h2 => ?_
    have e : m = lmin ns := by have := h2 _ l1; have := l2 _ h1; omega
    exact ⟨.int _, H, I.kept hk, ⟨_, rfl⟩, by rw [e]; exact q⟩
end
section
variable {K : PySem.W.Frag} {m : Md}
def seqIR (C : List Int → Prop) (f : List Int → Int) : List D → (D → Prop) → Prop := fun ds P => ∃ x xs ns, ds = [x] ∧ (x = .list xs ∨ x = .tuple xs) ∧ intsD xs = some ns ∧ C ns ∧ P (.int (f ns))
theorem ra_seqI {C : List Int → Prop} {f : List Int → Int} (hsh : m.sh = true := by rfl) : RAok K [m] .fz (rSeqI K C f) (seqIR C f) := fun b F H xs ds Q P g0 r h k => by
  obtain ⟨x, ls, ns, rfl, e, en, c, p⟩ := h
  have en := intsD_eq en
  subst en
  obtain ⟨v, rfl, r1⟩ := vrs1 (ms := []) r
  have r := r1
  have r := r.rd hsh g0
  rcases e with rfl | rfl
  · obtain ⟨a, xs, rfl, sq, dq⟩ := vr_lst g0.s r
    rw [ints_dq dq] at sq
    exact ⟨a, ns, rfl, .inl sq, c, k _ _ F H p (.refl g0) (Dq.int _) trivial⟩
  · obtain ⟨a, xs, rfl, sq, dq⟩ := vr_tup g0.s r
    rw [ints_dq dq] at sq
    exact ⟨a, ns, rfl, .inr sq, c, k _ _ F H p (.refl g0) (Dq.int _) trivial⟩
end
end DL
set_option maxRecDepth 100000
set_option maxHeartbeats 4000000
/-! DL8: sorted, isinstance. -/
namespace DL
open PySem PySem.Spec PyProof.Rows L2
variable {T : List (Addr × Str)}

/-! ### sorted -/
def SortOk (ds : List D) : Prop := PySem.W.AllAlike ds ∧ PySem.W.Sortable ds ∧ ds.length ≤ 100000 ∧ ∀ d ∈ ds, Shp 8 d
def srtD (ds : List D) : List D := ds.mergeSort (PySem.W.dataLe false id)
def rSortD (K : PySem.W.Frag) : List V → Hp → VK → Prop := fun vs H Q => ∃ (a : Addr) (xs : List V) (F : Hp) (ds : List D), vs = [V.ref a] ∧ SqL K H a xs ∧ Same F H ∧ DqA F xs ds ∧ SortOk ds ∧
  ∀ ys p, H p = none → DqA F ys (srtD ds) → Q (.ref p) (upd H p (.lst ys))
theorem each_of_dq {X : Cx} {pins : List (Addr × Obj)} {σ : L2.St} {H F : Hp} {s : Shared} (I : Inv X pins σ H s) (sm : Same F H) : ∀ {ds : List D} {xs : List V} {its : List Value}, DqA F xs ds → Vals xs its → (∀ d ∈ ds, Shp 8 d) →
    PySem.W.EachIs (fun u d => ∃ v, RelV v u ∧ Dq F v d) its ds ∧ PySem.W.EachIs (fun u d => ∃ as, Reads s.heap u (id d) as) its ds
  | [], _, _, q, r, _ => by
    cases q
    cases r
    exact ⟨.nil, .nil⟩
  | d :: ds, _, _, q, r, h => by
    cases q with
    | cons q1 q2 =>
      cases r with
      | cons r1 r2 =>
        obtain ⟨a, b⟩ := each_of_dq I sm q2 r2 (fun x hx => h x (by simp [hx]))
        exact ⟨.cons ⟨_, r1, q1⟩ a, .cons (Dp.reads I d _ _ (q1.dp sm (shp_ok 8 d (h d (by simp))).2.2) r1) b⟩
theorem dq_of_each {F : Hp} : ∀ {ds : List D} {out : List Value}, PySem.W.EachIs (fun u d => ∃ v, RelV v u ∧ Dq F v d) out ds → ∃ ys, Vals ys out ∧ DqA F ys ds
  | _, _, .nil => ⟨[], .nil, .nil⟩
  | _, _, .cons ⟨v, r, q⟩ t => by
    obtain ⟨ys, a, b⟩ := dq_of_each t
    exact ⟨v :: ys, .cons r a, .cons q b⟩
theorem cr_sortD {X : Cx} (hu : X.A.units + 64 < cLine) : CallR X (.builtin "sorted") (rSortD X.K) := by
  intro pins s σ H vs us Q I r h
  obtain ⟨a, xs, F, ds, rfl, hs, sm, dq, ⟨o1, o2, o3, o4⟩, q⟩ := h
  obtain ⟨its, rv, hl, _⟩ := I.list hs
  rw [Vals.ref1 r]
  obtain ⟨e1, e2⟩ := each_of_dq I sm dq rv o4
  refine PySem.W.sorted_data (enc := id) hl.isList e1 e2 (by rw [List.map_id]; exact o1) (by rw [List.map_id]; exact o2) (sz5 o3) (fun d hd => ?_) fun out h1 h2 => ?_
  · have := (shp_ok 8 d (o4 d hd)).2.1
    show X.A.units + 2 + (id d).depth < cLine
    simp only [id]
    omega
  · obtain ⟨ep, he'⟩ := PyProof.Rows.sortedAll_at s.heap its out.toArray
    obtain ⟨ys, v1, d1⟩ := dq_of_each h2
    have hlen : ys.length ≤ sizeLine := by rw [v1.length, h1]; exact sz5 o3
    exact ⟨.ref _, upd H (s.heap.objs.size + 1) (.lst ys), I.laid (t' := s.toks) (fun _ _ => PyProof.Rows.sortedAll_old) (Nat.le_succ _) ⟨hlen, out, ep, v1, he'⟩, rfl, q ys _ (I.hok.fresh (Nat.le_succ _)) d1⟩
def sortR : List D → (D → Prop) → Prop := fun ds P => ∃ xs, ds = [.list xs] ∧ SortOk xs ∧ P (.list (srtD xs))
theorem ra_sort {K : PySem.W.Frag} {m : Md} (hsh : m.sh = true := by rfl) : RAok K [m] .nw (rSortD K) sortR := fun b F H xs ds Q P g0 r h k => by
  obtain ⟨ls, rfl, o, p⟩ := h
  obtain ⟨v, rfl, r1⟩ := vrs1 (ms := []) r
  obtain ⟨a, xs, rfl, sq, dq⟩ := vr_lst g0.s (r1.rd hsh g0)
  refine ⟨a, xs, F, ls, rfl, sq, g0.s, dq, o, fun ys l nl d => ?_⟩
  have g4 := Grow.own g0 (HO.lst ys) nl
  exact k _ _ _ _ p g4 (.inl ⟨l, rfl, g0.s.free nl, own_mkL upd_same d⟩) fun q e => by cases e; exact nn_of nl

/-! ### isinstance -/
def tyN : D → String
  | .none => "NoneType"
  | .bool _ => "bool"
  | .int _ => "int"
  | .str _ => "str"
  | .list _ => "list"
  | .tuple _ => "tuple"
  | .dict _ => "dict"
def isB (a T : String) : Bool := a == T || (a == "bool" && T == "int")
theorem kit_tab : (["NoneType", "bool", "int", "str", "list", "tuple", "dict"].all fun a => ["bool", "int", "str", "list", "tuple", "dict"].all fun T => decide (kitB a T = some (isB a T))) = true := by decide +kernel
theorem tyN_mem : ∀ d : D, tyN d ∈ ["NoneType", "bool", "int", "str", "list", "tuple", "dict"]
  | .none => by simp [tyN]
  | .bool _ => by simp [tyN]
  | .int _ => by simp [tyN]
  | .str _ => by simp [tyN]
  | .list _ => by simp [tyN]
  | .tuple _ => by simp [tyN]
  | .dict _ => by simp [tyN]
theorem kit_isB {d : D} {T : String} (h : T ∈ ["bool", "int", "str", "list", "tuple", "dict"]) : kitB (tyN d) T = some (isB (tyN d) T) := by
  have q := kit_tab
  rw [List.all_eq_true] at q
  have q2 := q _ (tyN_mem d)
  rw [List.all_eq_true] at q2
  exact of_decide_eq_true (q2 T h)
theorem tyX_of {K : PySem.W.Frag} {b : B} {F H : Hp} {v : V} {d : D} (s : Same F H) (r0 : VR .rt K b F H v d) (lk : lkB d = false) : TyX K H v (.type (tyN d)) := by
  have sqL : ∀ {a : Addr} {xs : List V}, SqL K H a xs → TyX K H (.ref a) (.type "list") := fun {a xs} h => by
    rcases h with (h | ⟨o, h⟩) | ⟨o, its, n, h, c, _⟩
    · exact .base (.lst h)
    · exact .base (.frz h)
    · exact .kList h c
  have sqT : ∀ {a : Addr} {xs : List V}, SqT K H a xs → TyX K H (.ref a) (.type "tuple") := fun {a xs} h => by
    rcases h with (h | ⟨o, h⟩) | ⟨o, its, n, h, c, _⟩
    · exact .base (.tup h)
    · exact .fTuple h
    · exact .kTuple h c
  cases d with
  | none => rw [vr_non (vrt_atm rfl r0)]; exact .base .non
  | bool c => rw [vr_bl (vrt_atm rfl r0)]; exact .base (.bl _)
  | int i => rw [vr_int (vrt_atm rfl r0)]; exact .base (.int _)
  | str x => rw [vr_str (vrt_atm rfl r0)]; exact .base (.str _)
  | list ds =>
    obtain ⟨a, xs, rfl, sq, dq⟩ := vrt_lst s r0
    exact sqL sq
  | tuple ds =>
    obtain ⟨a, xs, rfl, sq, dq⟩ := vrt_tup s r0
    exact sqT sq
  | dict kds =>
    obtain ⟨a, rfl, o⟩ := vr_dict s (vrt_atm rfl r0)
    rcases o with (⟨_, _, _, e, _⟩ | ⟨_, _, _, e, _⟩) | (⟨_, _, _, e, _⟩ | ⟨_, _, _, e, _⟩)
    · exact .base (.dT e)
    · exact .base (.dK e)
    · subst e
      simp [lkB] at lk
    · subst e
      simp [lkB] at lk
section
variable {X : Cx} {W : WT} {m : Md} {p p2 pos : Pos} {e : Expr} {t : DT}
def dIsi (t : DT) (T : String) : DT := fun ρ P Z => t ρ (fun d => lkB d = false ∧ P (.bool (isB (tyN d) T))) Z
theorem isi_sem {T : String} {te : TE} (hT : T ∈ ["bool", "int", "str", "list", "tuple", "dict"]) (hsh : m ≠ .n2)
    (s1 : ∀ (b : B) (F H : Hp) (σ : L2.St) (ρ : List Sl) (Q : VK) (P : D → Prop) (Z : Zs), Rep X.K b F H σ ρ → ZOk X.mg X.K b F Z W → t ρ P Z → Goes m X.K b F H P Q → te σ H Q) :
    ∀ (b : B) (F H : Hp) (σ : L2.St) (ρ : List Sl) (Q : VK) (P : D → Prop) (Z : Zs), Rep X.K b F H σ ρ → ZOk X.mg X.K b F Z W → dIsi t T ρ P Z → Goes .fz X.K b F H P Q → tCB (rIsi X.K) (tCons te (tCons (tC (.ty T)) tNil)) σ H Q := fun b F H σ ρ Q P Z R z q k =>
  s1 b F H σ ρ _ _ Z R z q fun d v F' H' p g r _ => ⟨v, .ty T, .type (tyN d), .type T, isB (tyN d) T, rfl, .ty T, tyX_of (R.grow g).same (r.rt (R.g.trans g) fun z => absurd z hsh) p.1, kit_ty (kit_isB hT), k _ _ F' H' p.2 g (Dq.bl _) trivial⟩
theorem de_isi {T : String} {x : Str} (h : DE X W m e t) (hm : X.mg "isinstance" = none) (hmT : X.mg x = none) (hv : bootBuiltins x = some (.type T)) (hT : T ∈ ["bool", "int", "str", "list", "tuple", "dict"] := by simp) (hg : Gl X "isinstance" := by rfl) (hgT : Gl X x := by rfl) (hn : x ≠ "__name__" := by decide) (hd : (x == ("__debug__" : Str)) = false := by decide)
    (he : starEach (e :: [.Name x p2]) X.env = (false, eval e X.env) :: starEach [.Name x p2] X.env := by rfl) (he2 : starEach (.Name x p2 :: []) X.env = (false, eval (.Name x p2) X.env) :: starEach [] X.env := by rfl) (hpl : (backTo pos (starEach [.Name x p2] X.env)).any (·.1) = false := by rfl) (hsh : m ≠ .n2 := by intro z; cases z) :
    DE X W .fz (.Call (.Name "isinstance" p) [e, .Name x p2] [] pos) (dIsi t T) := by
  obtain ⟨te, p1, s1⟩ := h.ok
  exact ⟨_, pe_callB call_isi hg hm bt_isinstance (pa_cons p1 (pa_cons (pe_bltn hgT hmT hv (show RelV (.ty T) (.type T) from rfl) hn hd) pa_nil he2) he) (by decide) (by decide) he hpl, isi_sem hT hsh s1⟩
end
end DL
set_option maxRecDepth 100000
set_option maxHeartbeats 4000000
/-! DL9: name = [..], a def from the text, the law's end. -/
namespace DL
open PySem PySem.Spec PyProof.Rows L2
variable {T : List (Addr × Str)}
section
variable {X : Cx} {W : WT} {rm : Md} {pos spos : Pos} {tg : Expr}
/-- name = [..] on one line, the name a local: the same as the value stored -/
theorem ds_setLc (i : Nat) {y : Str} {py : Pos} {gv : List Nat} {elt iter : Expr} {ifs : List Expr} {scope : Scope} {own : List (Str × Nat)} {ti : DTi} {g : DGt} {tt : DTt} {te : DT} (hc : X.calm = true) (hN : X.N.Nodup) (hi : DI X W true tg iter ti) (ok : BlkOk X.N X.env.scope scope own)
    (hv : ∀ i ∈ gv, i ∈ own.map (·.2))
    (hg : ∀ (s : Shared) (H : Hp) (C : Addr) (cl : List (Str × Addr)) (fp : List Addr), DG (X.blk s H scope (compEnvC scope cl C X.env) fp) gv tg g)
    (ht : ∀ (s : Shared) (H : Hp) (C : Addr) (cl : List (Str × Addr)) (fp : List Addr), DTs (X.blk s H scope (compEnvC scope cl C X.env) fp) (W0 W.T) ifs tt)
    (he : ∀ (s : Shared) (H : Hp) (C : Addr) (cl : List (Str × Addr)) (fp : List Addr), DE (X.blk s H scope (compEnvC scope cl C X.env) fp) (W0 W.T) .fz elt te)
    (hy : X.N[i]? = some y := by rfl) (hyl : X.env.scope.names.lookup y = some .local := by rfl) (hsw : swapsWith (.ListComp elt [⟨tg, iter, ifs, 0⟩] scope pos) (some (.Name y py)) spos.line X.env = pure true := by exact sw_true rfl rfl rfl (by decide +kernel))
    (hs : ∀ x, foldedSetIterable iter X.env x = pure x := by intro _; rfl) : DS1 X W rm (.Assign [.Name y py] (.ListComp elt [⟨tg, iter, ifs, 0⟩] scope pos) spos) (dSetN i (dLc (own.map (·.2)) ti g tt te)) := by
  obtain ⟨wi, pi, si⟩ := hi.ok
  refine ⟨_, ps_setLc hc hN hy hyl hsw pi ok (g := cG X.K gv g) (tt := cT X.mg X.K (W0 W.T) tt) (te := cE X.mg X.K (W0 W.T) .fz te) (fun s H C cl fp => (hg s H C cl fp).ok) (fun s H C cl fp => (ht s H C cl fp).ok) (fun s H C cl fp => (he s H C cl fp).pe) hs, fun b F H σ ρ D d Z R z q c => ?_⟩
  exact lc_sem hv si b F H σ ρ _ _ Z R z q fun y v F' H' p g r f => c.nx _ F' H' _ g.f (R.put g i r f) p
end
/-! ### a def of the text -/
/-- what the top says of it -/
structure FnF (K : PySem.W.Frag) (mg : Str → Option Value) (x : Str) (st : Stmt) : Prop where
  ex : ∃ (f : Addr) (fd : FuncData), Fun K x x st f fd ∧ mg x = some (.ref f)
theorem fnF_mk {K : PySem.W.Frag} {h : Heap} {mg : Str → Option Value} {x : Str} {st : Stmt} {f : Addr} {oc : Value} {od an : Option Addr} {osl : Array (Option Value)} {kV doc pm cdv ct : Value} (X : K.In h) (G : h.Ns mainGlobals mg) (a : PySem.W.nsIn K mainGlobals x = some (some (.ref f)))
    (l : K.lookup f = some ⟨oc, od, .func (PySem.W.fnOf x x (defArgs st) (defBody st) (defScope st) .none kV doc pm an cdv ct), osl⟩) (c : PySem.W.codeIn K cdv x = true) (k : PySem.W.keepIn K (.ref f) = true) : FnF K mg x st :=
  ⟨⟨f, _, fun_mk l c k, PySem.W.mg_of X G a⟩⟩
section
variable {P : Program} {w : World} {K : PySem.W.Frag} {mg : Str → Option Value} {base : Heap} {T : List (Addr × Str)} {x : Str} {st : Stmt} {N ps : List Str} {k : Nat} {ms : List Md} {rm : Md} {t : DS}
abbrev Bnd (x : Str) (st : Stmt) (ps : List Str) : Prop := ∀ (kV doc pm : Value) (an : Option Addr) (cdv ct : Value) (us : List Value), us.length = ps.length → bindArgs (PySem.W.fnOf x x (defArgs st) (defBody st) (defScope st) .none kV doc pm an cdv ct) ⟨us, []⟩ = pure (ps.zip us)
theorem df0 (TF : FnF K mg x st) (S : FnScope N ps (defScope st)) (hl : ms.length = ps.length) (hbd : Bnd x st ps)
    (hb : ∀ (f : Addr) (cdv : Value) (A : Around) (outer : List Env) (s : Shared) (H : Hp) (E : XK), Room k (A.deeper (envOfC x (defScope st) s.heap.objs.size f cdv)) → DSs (cxOf CX0 P w K mg base N x (defScope st) f cdv A outer s H E).nox (W0 T) rm (defBody st) t) :
    Df P w K mg base T CX0 (k + 1) x ms rm (bodyW0 N.length ms rm t) := by
  obtain ⟨f, fd, F, hm⟩ := TF.ex
  exact ⟨f, fd, ps, fnok0 F S hl (hb f), hm, F.kp, F.binds hbd⟩
theorem dfX (TF : FnF K mg x st) (S : FnScope N ps (defScope st)) (hl : ms.length = ps.length) (hbd : Bnd x st ps)
    (hb : ∀ (f : Addr) (cdv : Value) (A : Around) (outer : List Env) (s : Shared) (H : Hp) (E : XK), Room k (A.deeper (envOfC x (defScope st) s.heap.objs.size f cdv)) → DSs (cxOf (L2.CX P w) P w K mg base N x (defScope st) f cdv A outer s H E) ⟨fun cls d _ H => E cls d H, T⟩ rm (defBody st) t) :
    Df P w K mg base T (L2.CX P w) (k + 1) x ms rm (bodyW N.length ms rm t) := by
  obtain ⟨f, fd, F, hm⟩ := TF.ex
  exact ⟨f, fd, ps, fnokX F S hl (hb f), hm, F.kp, F.binds hbd⟩
/-! ### the law -/
def spLawB (K : PySem.W.Frag) (T : List (Addr × Str)) : Sp := fun vs H Q _ => LamX.Tabs T H ∧ ∃ (a : Addr) (ns : List Int), vs = [.ref a] ∧ SqL K H a (ns.map V.int) ∧ ns.length ≤ 63 ∧ (∀ z ∈ ns, Builtin.Int.intBits z ≤ 1048576) ∧ ∀ v H', v = .bl true → Q v H'
open Classical in
/-- what stands still at the start: the tuples of ints and texts -/
noncomputable def keyH (H : Hp) : Hp := fun a => if ∃ k : List Key, H a = some (.tup (k.map kV)) then H a else none
theorem keyH_some {H : Hp} {a : Addr} {o : HO} (h : keyH H a = some o) : (∃ k : List Key, o = .tup (k.map kV)) ∧ H a = some o := by
  unfold keyH at h
  split at h
  · rename_i c
    obtain ⟨k, c⟩ := c
    rw [c] at h
    cases h
    exact ⟨⟨k, rfl⟩, c⟩
  · cases h
theorem keyH_at {H : Hp} {a : Addr} {k : List Key} (h : H a = some (.tup (k.map kV))) : keyH H a = some (.tup (k.map kV)) := by
  unfold keyH
  rw [if_pos ⟨k, h⟩]
  exact h
theorem dqA_ints {F : Hp} : ∀ ns : List Int, DqA F (ns.map V.int) (ns.map .int)
  | [] => .nil
  | n :: ns => .cons (.int n) (dqA_ints ns)
theorem law_fn {f : Addr} {fd : FuncData} {CX : CXT} {W : CW} (F : FnOk P w K mg base CX k f fd ps (spD mg K T [.rd] .fz W)) (h : ∀ ns : List Int, ns.length ≤ 63 → (∀ z ∈ ns, Builtin.Int.intBits z ≤ 1048576) → W [.list (ns.map .int)] (fun d => d = .bool true) (fun _ => False)) :
    FnOk P w K mg base CX k f fd ps (spLawB K T) := F.imp fun vs H Q E ⟨tt, a, ns, e, hS, h1, h2, q⟩ => by
  subst e
  refine ⟨keyH H, [.list (ns.map .int)], _, _, ⟨.refl _, Same.refl _, fun _ _ e => (keyH_some e).2, fun _ _ _ _ => rfl, fun _ _ e => (let ⟨⟨_, z⟩, _⟩ := keyH_some e; nomatch z), fun _ _ e => keyH_at e⟩, tt, .cons (.inr ⟨a, rfl, _, hS, dqA_ints ns⟩) .nil, h ns h1 h2, fun d v F' H' hd g r _ => ?_, fun _ _ _ _ _ z _ => z.elim⟩
  subst hd
  cases (show Dq F' v (.bool true) from r)
  exact q _ H' rfl
theorem law_all {fa : Addr} (hfa : mg "law" = some (.ref fa)) (TF : FnF K mg "law" st) (S : FnScope N ["script"] (defScope st)) (hbd : Bnd "law" st ["script"])
    (hb : ∀ (base : Heap) (f : Addr) (cdv : Value) (A : Around) (outer : List Env) (s : Shared) (H : Hp) (E : XK), Room k (A.deeper (envOfC "law" (defScope st) s.heap.objs.size f cdv)) → DSs (cxOf CX0 P w K mg base N "law" (defScope st) f cdv A outer s H E).nox (W0 T) .fz (defBody st) t)
    (h : ∀ ns : List Int, ns.length ≤ 63 → (∀ z ∈ ns, Builtin.Int.intBits z ≤ 1048576) → bodyW0 N.length [.rd] .fz t [.list (ns.map .int)] (fun d => d = .bool true) (fun _ => False)) :
    ∃ fd : FuncData, (∀ (s : Shared) (v : Value), BindsTo s fd ⟨[v], []⟩ [("script", v)]) ∧ ∀ base : Heap, K.In base → base.Ns mainGlobals mg → FnOk P w K mg base CX0 (k + 1) fa fd ["script"] (spLawB K T) := by
  obtain ⟨f, fd, F, hm⟩ := TF.ex
  rw [hfa] at hm
  cases hm
  refine ⟨fd, fun s v => ?_, fun base _ _ => law_fn (fnok0 F S rfl (hb base fa)) h⟩
  obtain ⟨oc, od, kV, doc, pm, an, cdv, ct, osl, rfl, lk, hcd⟩ := F.ex
  exact .of_eq (hbd kV doc pm an cdv ct [v] rfl)
end
end DL
set_option maxRecDepth 100000
set_option maxHeartbeats 4000000
/-! DLB: < <= > >= of whole numbers, and of tuples of them. -/
namespace DL
open PySem PySem.Spec PyProof.Rows L2
/-- by the first place that differs, else by the lengths -/
def lexF (f : Int → Int → Bool) (z : Bool) : List Int → List Int → Bool
  | x :: xs, y :: ys => if x = y then lexF f z xs ys else f x y
  | _, _ => z
theorem getD_app {A : List Int} {i : Nat} (h : A.length = i) (x : Int) (xs : List Int) : (A ++ x :: xs).getD i 0 = x := by
  rw [List.getD_eq_getElem?_getD, List.getElem?_append_right (by omega), h, Nat.sub_self]
  rfl
theorem lexAt_eq (f : Int → Int → Bool) (z : Bool) : ∀ (ns ms A C : List Int) (i : Nat), A.length = i → C.length = i →
    Ob.lexAt (fun j => decide ((A ++ ns).getD j 0 = (C ++ ms).getD j 0)) (fun j => f ((A ++ ns).getD j 0) ((C ++ ms).getD j 0)) z i (min ns.length ms.length) = lexF f z ns ms
  | [], ms, A, C, i, _, _ => by simp [Ob.lexAt, lexF]
  | _ :: _, [], A, C, i, _, _ => by simp [Ob.lexAt, lexF]
  | x :: xs, y :: ys, A, C, i, ha, hc => by
    have ih := lexAt_eq f z xs ys (A ++ [x]) (C ++ [y]) (i + 1) (by rw [List.length_append, ha]; rfl) (by rw [List.length_append, hc]; rfl)
    rw [List.append_assoc, List.append_assoc] at ih
    rw [show min (x :: xs).length (y :: ys).length = min xs.length ys.length + 1 by simp only [List.length_cons]; omega, Ob.lexAt_succ, getD_app ha, getD_app hc]
    show _ = if x = y then lexF f z xs ys else f x y
    by_cases e : x = y
    · rw [if_pos e, decide_eq_true e, if_pos rfl]
      exact ih
    · rw [if_neg e, decide_eq_false e, if_neg (by decide)]
def rOrd (K : PySem.W.Frag) (f : Int → Int → Bool) (z : Nat → Nat → Bool) : R2 := fun x y H Q => (rI0 fun i j => .bl (f i j)) x y H Q ∨
  ∃ (a b : Addr) (ns ms : List Int), x = .ref a ∧ y = .ref b ∧ SqT K H a (ns.map V.int) ∧ SqT K H b (ms.map V.int) ∧ Q (.bl (lexF f (z ns.length ms.length) ns ms)) H
theorem op_ordT {X : Cx} {op : CmpOp} {f : Int → Int → Bool} {z : Nat → Nat → Bool} (hu : X.A.units < cLine)
    (ht : ∀ {A : Around} {s : Shared} {l b : Addr} {items items2 : Array Value} {e r : Nat → Bool}, s.heap.IsTuple l items → s.heap.IsTuple b items2 → A.units < cLine →
      (∀ j (h1 : j < items.size) (h2 : j < items2.size), SeqAt.EqAt A.in1 s items[j] items2[j] (e j)) → (∀ j (h1 : j < items.size) (h2 : j < items2.size), e j = false → Ob.RcOp op A.in1 s items[j] items2[j] (r j)) →
      Ob.RcOp op A s (.ref l) (.ref b) (Ob.lexAt e r (z items.size items2.size) 0 (min items.size items2.size)))
    (hi : ∀ {A : Around} {s : Shared} (a b : Int) (t u : Tok), Ob.RcOp op A s (.int a t) (.int b u) (f a b)) (hc : ∀ x y, compareOp op x y = richCompare op x y) :
    OpR X (compareOp op) (fun x y H Q => ∃ (a b : Addr) (ns ms : List Int), x = .ref a ∧ y = .ref b ∧ SqT X.K H a (ns.map V.int) ∧ SqT X.K H b (ms.map V.int) ∧ Q (.bl (lexF f (z ns.length ms.length) ns ms)) H) := by
  intro pins s σ H x y v u Q I rx ry h
  obtain ⟨a, b, ns, ms, rfl, rfl, ha, hb, q⟩ := h
  cases rx
  cases ry
  obtain ⟨its, r1, p1, _⟩ := I.tuple ha
  obtain ⟨its2, r2, p2, _⟩ := I.tuple hb
  have i1 : IntsAre its ns := Vals.ints r1
  have i2 : IntsAre its2 ms := Vals.ints r2
  have e1 : its.toArray.size = ns.length := by rw [List.size_toArray]; exact i1.length
  have e2 : its2.toArray.size = ms.length := by rw [List.size_toArray]; exact i2.length
  have at1 : ∀ j (h1 : j < its.toArray.size), ∃ t, its.toArray[j] = .int (ns.getD j 0) t := fun j h1 => PyProof.Rows.IntsAre.int_at i1 _ _ (by simp at h1; simp [h1])
  have at2 : ∀ j (h1 : j < its2.toArray.size), ∃ t, its2.toArray[j] = .int (ms.getD j 0) t := fun j h1 => PyProof.Rows.IntsAre.int_at i2 _ _ (by simp at h1; simp [h1])
  have R := ht (A := X.A) (s := s) (e := fun j => decide (ns.getD j 0 = ms.getD j 0)) (r := fun j => f (ns.getD j 0) (ms.getD j 0)) p1 p2 hu (fun j h1 h2 => by
    obtain ⟨t, et⟩ := at1 j h1
    obtain ⟨t', et'⟩ := at2 j h2
    rw [et, et']
    have z : (ns.getD j 0 == ms.getD j 0) = decide (ns.getD j 0 = ms.getD j 0) := by
      by_cases q : ns.getD j 0 = ms.getD j 0
      · rw [decide_eq_true q]; exact beq_iff_eq.mpr q
      · rw [decide_eq_false q]; exact beq_eq_false_iff_ne.mpr q
    rw [← z]
    exact SeqAt.EqAt.int_int _ _ _ _) (fun j h1 h2 _ => by
    obtain ⟨t, et⟩ := at1 j h1
    obtain ⟨t', et'⟩ := at2 j h2
    rw [et, et']
    exact hi _ _ _ _)
  rw [e1, e2] at R
  have el := lexAt_eq f (z ns.length ms.length) ns ms [] [] 0 rfl rfl
  rw [List.nil_append, List.nil_append] at el
  rw [el] at R
  show wpAny (model X.prog X.w) X.A (compareOp op (.ref a) (.ref b)) (EP X pins σ Q) X.xe s
  rw [hc]
  exact R X.prog X.w X.xe (EP X pins σ Q) ⟨.bl _, H, I, rfl, q⟩
theorem op_ltO {X : Cx} (hu : X.A.units < cLine) : OpR X (compareOp .Lt) (rOrd X.K (fun i j => decide (i < j)) (fun i j => decide (i < j))) := op_lt.or (op_ordT (f := fun i j => decide (i < j)) (z := fun i j => decide (i < j)) hu Ob.RcOp.tuples_lt Ob.RcOp.lt_int fun _ _ => rfl)
theorem op_leO {X : Cx} (hu : X.A.units < cLine) : OpR X (compareOp .LtE) (rOrd X.K (fun i j => decide (i ≤ j)) (fun i j => decide (i ≤ j))) := op_le.or (op_ordT (f := fun i j => decide (i ≤ j)) (z := fun i j => decide (i ≤ j)) hu Ob.RcOp.tuples_le Ob.RcOp.le_int fun _ _ => rfl)
theorem op_gtO {X : Cx} (hu : X.A.units < cLine) : OpR X (compareOp .Gt) (rOrd X.K (fun i j => decide (j < i)) (fun i j => decide (i > j))) := op_gt.or (op_ordT (f := fun i j => decide (j < i)) (z := fun i j => decide (i > j)) hu Ob.RcOp.tuples_gt Ob.RcOp.gt_int fun _ _ => rfl)
theorem op_geO {X : Cx} (hu : X.A.units < cLine) : OpR X (compareOp .GtE) (rOrd X.K (fun i j => decide (j ≤ i)) (fun i j => decide (i ≥ j))) := op_ge.or (op_ordT (f := fun i j => decide (j ≤ i)) (z := fun i j => decide (i ≥ j)) hu Ob.RcOp.tuples_ge Ob.RcOp.ge_int fun _ _ => rfl)
def ordR (f : Int → Int → Bool) (z : Nat → Nat → Bool) : D → D → (D → Prop) → Prop := fun x y P => (∃ i j, x = .int i ∧ y = .int j ∧ P (.bool (f i j))) ∨ ∃ ns ms : List Int, x = .tuple (ns.map .int) ∧ y = .tuple (ms.map .int) ∧ P (.bool (lexF f (z ns.length ms.length) ns ms))
theorem ints_dqO {F : Hp} : ∀ {xs : List V} {ns : List Int}, DqA F xs (ns.map .int) → xs = ns.map V.int
  | [], [], _ => rfl
  | x :: xs, n :: ns, h => by
    cases h with
    | cons h1 h2 =>
      cases h1
      rw [ints_dqO h2]
      rfl
theorem r2_ord {K : PySem.W.Frag} {ma mb : Md} {f : Int → Int → Bool} {z : Nat → Nat → Bool} (ha : ma.sh = true := by rfl) (hb : mb.sh = true := by rfl) : R2ok K ma mb .fz (rOrd K f z) (ordR f z) := fun b F H x y dx dy Q P g0 rx ry h k => by
  rcases h with ⟨i, j, rfl, rfl, p⟩ | ⟨ns, ms, rfl, rfl, p⟩
  · exact .inl ⟨i, j, vr_int (rx.rd ha g0), vr_int (ry.rd hb g0), k _ _ F H p (.refl g0) (Dq.bl _) trivial⟩
  · obtain ⟨a, xs, rfl, sq, dq⟩ := vr_tup g0.s (rx.rd ha g0)
    obtain ⟨a2, xs2, rfl, sq2, dq2⟩ := vr_tup g0.s (ry.rd hb g0)
    rw [ints_dqO dq] at sq
    rw [ints_dqO dq2] at sq2
    exact .inr ⟨a, a2, ns, ms, rfl, rfl, sq, sq2, k _ _ F H p (.refl g0) (Dq.bl _) trivial⟩
abbrev ltR := ordR (fun i j => decide (i < j)) (fun i j => decide (i < j))
abbrev leR := ordR (fun i j => decide (i ≤ j)) (fun i j => decide (i ≤ j))
abbrev gtR := ordR (fun i j => decide (j < i)) (fun i j => decide (i > j))
abbrev geR := ordR (fun i j => decide (j ≤ i)) (fun i j => decide (i ≥ j))
theorem x_oI {f : Int → Int → Bool} {z : Nat → Nat → Bool} {i j : Int} {P : D → Prop} : ordR f z (.int i) (.int j) P ↔ P (.bool (f i j)) := by
  constructor
  · intro h
    rcases h with ⟨a, b, h1, h2, h⟩ | ⟨ns, ms, h1, h2, h⟩
    · cases h1
      cases h2
      exact h
    · cases h1
  · exact fun h => .inl ⟨i, j, rfl, rfl, h⟩
theorem x_oT {f : Int → Int → Bool} {z : Nat → Nat → Bool} {ns ms : List Int} {P : D → Prop} : ordR f z (.tuple (ns.map .int)) (.tuple (ms.map .int)) P ↔ P (.bool (lexF f (z ns.length ms.length) ns ms)) := ⟨fun h => by
  rcases h with ⟨a, b, h1, h2, h⟩ | ⟨ns', ms', h1, h2, h⟩
  · exact nomatch h1
  · rw [PyData.tuple.injEq] at h1 h2
    rw [map_inj' (fun _ _ h => PyData.int.inj h) h1, map_inj' (fun _ _ h => PyData.int.inj h) h2]
    exact h, fun h => .inr ⟨ns, ms, rfl, rfl, h⟩⟩
theorem x_o2 {f : Int → Int → Bool} {z : Nat → Nat → Bool} {a b c d : Int} {P : D → Prop} : ordR f z (.tuple [.int a, .int b]) (.tuple [.int c, .int d]) P ↔ P (.bool (if a = c then if b = d then z 2 2 else f b d else f a c)) := x_oT (ns := [a, b]) (ms := [c, d])
theorem dec_lt2 {a b c d : Int} : (if a = c then if b = d then decide ((2 : Nat) < 2) else decide (b < d) else decide (a < c)) = decide (a < c ∨ (a = c ∧ b < d)) := by
  rw [Bool.eq_iff_iff]
  split <;> (try split) <;> simp only [decide_eq_true_eq] <;> omega
theorem dec_le2 {a b c d : Int} : (if a = c then if b = d then decide ((2 : Nat) ≤ 2) else decide (b ≤ d) else decide (a ≤ c)) = decide (a < c ∨ (a = c ∧ b ≤ d)) := by
  rw [Bool.eq_iff_iff]
  split <;> (try split) <;> simp only [decide_eq_true_eq] <;> omega
theorem dec_gt2 {a b c d : Int} : (if a = c then if b = d then decide ((2 : Nat) > 2) else decide (d < b) else decide (c < a)) = decide (c < a ∨ (a = c ∧ d < b)) := by
  rw [Bool.eq_iff_iff]
  split <;> (try split) <;> simp only [decide_eq_true_eq] <;> omega
theorem dec_ge2 {a b c d : Int} : (if a = c then if b = d then decide ((2 : Nat) ≥ 2) else decide (d ≤ b) else decide (c ≤ a)) = decide (c < a ∨ (a = c ∧ d ≤ b)) := by
  rw [Bool.eq_iff_iff]
  split <;> (try split) <;> simp only [decide_eq_true_eq] <;> omega
theorem x_lt2 {a b c d : Int} {P : D → Prop} : ltR (.tuple [.int a, .int b]) (.tuple [.int c, .int d]) P ↔ P (.bool (decide (a < c ∨ (a = c ∧ b < d)))) := x_o2.trans (by rw [dec_lt2])
theorem x_le2 {a b c d : Int} {P : D → Prop} : leR (.tuple [.int a, .int b]) (.tuple [.int c, .int d]) P ↔ P (.bool (decide (a < c ∨ (a = c ∧ b ≤ d)))) := x_o2.trans (by rw [dec_le2])
theorem x_gt2 {a b c d : Int} {P : D → Prop} : gtR (.tuple [.int a, .int b]) (.tuple [.int c, .int d]) P ↔ P (.bool (decide (c < a ∨ (a = c ∧ d < b)))) := x_o2.trans (by rw [dec_gt2])
theorem x_ge2 {a b c d : Int} {P : D → Prop} : geR (.tuple [.int a, .int b]) (.tuple [.int c, .int d]) P ↔ P (.bool (decide (c < a ∨ (a = c ∧ d ≤ b)))) := x_o2.trans (by rw [dec_ge2])
end DL
set_option maxRecDepth 100000
set_option maxHeartbeats 4000000
/-! DLA: short names for the generator's readings. -/
namespace DL
open PySem PySem.Spec PyProof.Rows L2
variable {T : List (Addr × Str)}
abbrev subR := d2I fun i j => .int (i - j)
abbrev mulR := d2C CMulD fun i j => .int (i * j)
abbrev divR := d2C CDivW fun i j => .int (i / j)
abbrev modR := d2C (fun _ j => 0 < j) fun i j => .int (i % j)
abbrev powR := d2C CPow fun i j => .int (i ^ j.toNat)
abbrev shlR := d2C CPow fun i j => .int (i * 2 ^ j.toNat)
abbrev shrR := d2C (fun _ j => 0 ≤ j) fun i j => .int (i / 2 ^ j.toNat)
abbrev andR := d2I fun i j => .int (Builtin.bitAnd i j)
abbrev negR := d1I fun i => -i
theorem de_cint {X : Cx} {W : WT} {x : Str} {n : Int} {pos : Pos} (h : ∃ t, X.mg x = some (.int n t)) (hg : Gl X x := by rfl) (hd : (x == ("__debug__" : Str)) = false := by decide) : DE X W .fz (.Name x pos) (dC (.int n)) := by
  obtain ⟨t, h⟩ := h
  exact de_glob (v := .int n) hg h ⟨t, rfl⟩ (fun _ => .int n) hd
/-! chains: a op b op c -/
section
variable {X : Cx} {W : WT} {m1 m2 m3 : Md} {pos : Pos}
def dChain (r1 r2 : D → D → (D → Prop) → Prop) (ta tb tc : DT) : DT := fun ρ P Z => ta ρ (fun x => tb ρ (fun y => r1 x y (fun z => ∃ c, z = .bool c ∧ (c = true → tc ρ (fun w => r2 y w P) Z) ∧ (c = false → P (.bool false)))) Z) Z
theorem chain_sem {r1 r2 : R2} {d1 d2 : D → D → (D → Prop) → Prop} {ta tb tc : DT} {te1 te2 te3 : TE} (h1 : R2ok X.K m1 m2 .fz r1 d1) (h2 : R2ok X.K m2 m3 .fz r2 d2)
    (s1 : ∀ (b : B) (F H : Hp) (σ : L2.St) (ρ : List Sl) (Q : VK) (P : D → Prop) (Z : Zs), Rep X.K b F H σ ρ → ZOk X.mg X.K b F Z W → ta ρ P Z → Goes m1 X.K b F H P Q → te1 σ H Q)
    (s2 : ∀ (b : B) (F H : Hp) (σ : L2.St) (ρ : List Sl) (Q : VK) (P : D → Prop) (Z : Zs), Rep X.K b F H σ ρ → ZOk X.mg X.K b F Z W → tb ρ P Z → Goes m2 X.K b F H P Q → te2 σ H Q)
    (s3 : ∀ (b : B) (F H : Hp) (σ : L2.St) (ρ : List Sl) (Q : VK) (P : D → Prop) (Z : Zs), Rep X.K b F H σ ρ → ZOk X.mg X.K b F Z W → tc ρ P Z → Goes m3 X.K b F H P Q → te3 σ H Q) :
    ∀ (b : B) (F H : Hp) (σ : L2.St) (ρ : List Sl) (Q : VK) (P : D → Prop) (Z : Zs), Rep X.K b F H σ ρ → ZOk X.mg X.K b F Z W → dChain d1 d2 ta tb tc ρ P Z → Goes .fz X.K b F H P Q → tChain r1 r2 te1 te2 te3 σ H Q := fun b F H σ ρ Q P Z R z q k =>
  s1 b F H σ ρ _ _ Z R z q fun dx x F1 H1 p1 g1 v1 _ => s2 b F1 H1 σ ρ _ _ Z (R.grow g1) (z.mono g1.f) p1 fun dy y F2 H2 p2 g2 v2 _ =>
    h1 b F2 H2 x y dx dy _ _ (R.g.trans (g1.trans g2)) (v1.grow g2) v2 p2 fun dz w F3 H3 p3 g3 v3 _ => by
      obtain ⟨c, rfl, p3⟩ := p3
      cases v3
      refine ⟨c, rfl, ?_⟩
      cases c with
      | false => exact iteF (k _ _ F3 H3 (p3.2 rfl) (g1.trans (g2.trans g3)) (Dq.bl _) trivial)
      | true => exact iteT (s3 b F3 H3 σ ρ _ _ Z (((R.grow g1).grow g2).grow g3) (z.mono (g1.f.trans (g2.f.trans g3.f))) (p3.1 rfl) fun dw u F4 H4 p4 g4 v4 _ => h2 b F4 H4 y u dy dw _ _ (R.g.trans (g1.trans (g2.trans (g3.trans g4)))) ((v2.grow g3).grow g4) v4 p4 (k.after (g1.trans (g2.trans (g3.trans g4)))))
theorem de_chain {op op' : CmpOp} {a b' c : Expr} {r1 r2 : R2} {d1 d2 : D → D → (D → Prop) → Prop} {ta tb tc : DT} (ho : OpR X (compareOp op) r1) (h1 : R2ok X.K m1 m2 .fz r1 d1) (ho' : OpR X (compareOp op') r2) (h2 : R2ok X.K m2 m3 .fz r2 d2) (ha : DE X W m1 a ta) (hb : DE X W m2 b' tb) (hc : DE X W m3 c tc)
    (hm : lastMarks [op, op'] [b', c] = false := by with_unfolding_all rfl) : DE X W .fz (.Compare a [op, op'] [b', c] pos) (dChain d1 d2 ta tb tc) := by
  obtain ⟨te1, p1, s1⟩ := ha.ok
  obtain ⟨te2, p2, s2⟩ := hb.ok
  obtain ⟨te3, p3, s3⟩ := hc.ok
  exact ⟨_, pe_chain ho ho' p1 p2 p3 hm, chain_sem h1 h2 s1 s2 s3⟩
theorem dt_chain {op op' : CmpOp} {a b' c : Expr} {r1 r2 : R2} {d1 d2 : D → D → (D → Prop) → Prop} {ta tb tc : DT} (ho : OpR X (compareOp op) r1) (h1 : R2ok X.K m1 m2 .fz r1 d1) (ho' : OpR X (compareOp op') r2) (h2 : R2ok X.K m2 m3 .fz r2 d2) (ha : DE X W m1 a ta) (hb : DE X W m2 b' tb) (hc : DE X W m3 c tc)
    (hm : lastMarks [op, op'] [b', c] = false := by with_unfolding_all rfl) : DEt X W (.Compare a [op, op'] [b', c] pos) (dB (dChain d1 d2 ta tb tc)) := by
  obtain ⟨te1, p1, s1⟩ := ha.ok
  obtain ⟨te2, p2, s2⟩ := hb.ok
  obtain ⟨te3, p3, s3⟩ := hc.ok
  exact ⟨_, pt_chain ho ho' p1 p2 p3 hm, fun b F H σ ρ Q P Z R z q k => chain_sem h1 h2 s1 s2 s3 b F H σ ρ _ _ Z R z q fun d v F' H' p g r _ => by
    obtain ⟨cc, rfl, p⟩ := p
    cases r
    exact ⟨cc, rfl, k cc F' H' p g⟩⟩
end
end DL
set_option maxRecDepth 100000
set_option maxHeartbeats 4000000
/-! DLS: readings unfolded; loops and comprehensions over typed rows. -/
namespace DL
open PySem PySem.Spec PyProof.Rows L2
variable {T : List (Addr × Str)}

section
variable {P : D → Prop} {Z : Zs} {ρ : List Sl}
theorem e_dV {i : Nat} : dV i ρ P Z ↔ ∃ d, ρ[i]? = some (.fz d) ∧ P d := Iff.rfl
theorem e_dC {d : D} : dC d ρ P Z ↔ P d := Iff.rfl
theorem e_d2 {rd : D → D → (D → Prop) → Prop} {ta tb : DT} : d2 rd ta tb ρ P Z ↔ ta ρ (fun x => tb ρ (fun y => rd x y P) Z) Z := Iff.rfl
theorem x_I {g : Int → Int → D} {i j : Int} : d2I g (.int i) (.int j) P ↔ P (g i j) := ⟨fun ⟨a, b, h1, h2, h⟩ => by cases h1; cases h2; exact h, fun h => ⟨i, j, rfl, rfl, h⟩⟩
theorem x_C {C : Int → Int → Prop} {g : Int → Int → D} {i j : Int} : d2C C g (.int i) (.int j) P ↔ C i j ∧ P (g i j) := ⟨fun ⟨a, b, h1, h2, h⟩ => by cases h1; cases h2; exact h, fun h => ⟨i, j, rfl, rfl, h⟩⟩
theorem x_1 {g : Int → Int} {i : Int} : d1I g (.int i) P ↔ P (.int (g i)) := ⟨fun ⟨a, h1, h⟩ => by cases h1; exact h, fun h => ⟨i, rfl, h⟩⟩
theorem x_ixL {ds : List D} {n : Int} : ixR (.list ds) (.int n) P ↔ ∃ d, atI ds n = some d ∧ P d := ⟨fun ⟨a, m, d, h1, h2, h3, h⟩ => by
  cases h2
  rcases h1 with h1 | h1 <;> cases h1
  exact ⟨d, h3, h⟩, fun ⟨d, h3, h⟩ => ⟨ds, n, d, .inl rfl, rfl, h3, h⟩⟩
theorem x_ixT {ds : List D} {n : Int} : ixR (.tuple ds) (.int n) P ↔ ∃ d, atI ds n = some d ∧ P d := ⟨fun ⟨a, m, d, h1, h2, h3, h⟩ => by
  cases h2
  rcases h1 with h1 | h1 <;> cases h1
  exact ⟨d, h3, h⟩, fun ⟨d, h3, h⟩ => ⟨ds, n, d, .inr rfl, rfl, h3, h⟩⟩
theorem x_lenL {ds : List D} : lenR [.list ds] P ↔ P (.int ds.length) := ⟨fun ⟨x, h1, h⟩ => by cases h1; exact h, fun h => ⟨_, rfl, h⟩⟩
theorem x_lenT {ds : List D} : lenR [.tuple ds] P ↔ P (.int ds.length) := ⟨fun ⟨x, h1, h⟩ => by cases h1; exact h, fun h => ⟨_, rfl, h⟩⟩
theorem x_listL {ds : List D} : listR [.list ds] P ↔ P (.list ds) := ⟨fun ⟨x, xs, h1, h2, h⟩ => by
  cases h1
  rcases h2 with h2 | h2 <;> cases h2
  exact h, fun h => ⟨_, ds, rfl, .inl rfl, h⟩⟩
theorem x_listT {ds : List D} : listR [.tuple ds] P ↔ P (.list ds) := ⟨fun ⟨x, xs, h1, h2, h⟩ => by
  cases h1
  rcases h2 with h2 | h2 <;> cases h2
  exact h, fun h => ⟨_, ds, rfl, .inr rfl, h⟩⟩
theorem x_tupL {ds : List D} : tupleR [.list ds] P ↔ P (.tuple ds) := ⟨fun ⟨x, xs, h1, h2, h⟩ => by
  cases h1
  rcases h2 with h2 | h2 <;> cases h2
  exact h, fun h => ⟨_, ds, rfl, .inl rfl, h⟩⟩
theorem x_tupT {ds : List D} : tupleR [.tuple ds] P ↔ P (.tuple ds) := ⟨fun ⟨x, xs, h1, h2, h⟩ => by
  cases h1
  rcases h2 with h2 | h2 <;> cases h2
  exact h, fun h => ⟨_, ds, rfl, .inr rfl, h⟩⟩
theorem x_tupLL {ds : List D} : tupleL [.list ds] P ↔ P (.tuple ds) := ⟨fun ⟨xs, h1, h⟩ => by cases h1; exact h, fun h => ⟨ds, rfl, h⟩⟩
theorem x_min2 {i j : Int} : min2R [.int i, .int j] P ↔ P (.int (min i j)) := ⟨fun ⟨a, b, h1, h⟩ => by cases h1; exact h, fun h => ⟨i, j, rfl, h⟩⟩
theorem x_max2 {i j : Int} : max2R [.int i, .int j] P ↔ P (.int (max i j)) := ⟨fun ⟨a, b, h1, h⟩ => by cases h1; exact h, fun h => ⟨i, j, rfl, h⟩⟩
theorem x_abs {i : Int} : absR [.int i] P ↔ P (.int (if i < 0 then -i else i)) := ⟨fun ⟨a, h1, h⟩ => by cases h1; exact h, fun h => ⟨i, rfl, h⟩⟩
theorem x_intI {i : Int} : intR [.int i] P ↔ P (.int i) := ⟨fun ⟨x, h1, h⟩ => by cases h1; exact h, fun h => ⟨_, rfl, h⟩⟩
theorem x_intB {c : Bool} : intR [.bool c] P ↔ P (.int (if c then 1 else 0)) := ⟨fun ⟨x, h1, h⟩ => by cases h1; exact h, fun h => ⟨_, rfl, h⟩⟩
theorem x_seqL {C : List Int → Prop} {f : List Int → Int} {ns : List Int} : seqIR C f [.list (ns.map .int)] P ↔ C ns ∧ P (.int (f ns)) := ⟨fun ⟨x, xs, ms, h1, h2, h3, h⟩ => by
  cases h1
  rcases h2 with h2 | h2 <;> cases h2
  rw [intsD_map] at h3
  cases h3
  exact h, fun h => ⟨_, _, ns, rfl, .inl rfl, intsD_map ns, h⟩⟩
theorem x_seqT {C : List Int → Prop} {f : List Int → Int} {ns : List Int} : seqIR C f [.tuple (ns.map .int)] P ↔ C ns ∧ P (.int (f ns)) := ⟨fun ⟨x, xs, ms, h1, h2, h3, h⟩ => by
  cases h1
  rcases h2 with h2 | h2 <;> cases h2
  rw [intsD_map] at h3
  cases h3
  exact h, fun h => ⟨_, _, ns, rfl, .inr rfl, intsD_map ns, h⟩⟩
theorem x_seqT2 {C : List Int → Prop} {f : List Int → Int} {i j : Int} : seqIR C f [.tuple [.int i, .int j]] P ↔ C [i, j] ∧ P (.int (f [i, j])) := x_seqT (ns := [i, j])
theorem x_seqL2 {C : List Int → Prop} {f : List Int → Int} {i j : Int} : seqIR C f [.list [.int i, .int j]] P ↔ C [i, j] ∧ P (.int (f [i, j])) := x_seqL (ns := [i, j])
theorem x_sort {ds : List D} : sortR [.list ds] P ↔ SortOk ds ∧ P (.list (srtD ds)) := ⟨fun ⟨xs, h1, h⟩ => by cases h1; exact h, fun h => ⟨ds, rfl, h⟩⟩
theorem x_inL {neg : Bool} {x : D} {ds : List D} : inR neg x (.list ds) P ↔ Shp 8 x ∧ (∀ z ∈ ds, Shp 8 z) ∧ P (.bool ((ds.any fun z => PyData.eqv z x) ^^ neg)) := ⟨fun ⟨a, h1, h⟩ => by
  rcases h1 with h1 | h1 <;> cases h1
  exact h, fun h => ⟨ds, .inl rfl, h⟩⟩
theorem x_inT {neg : Bool} {x : D} {ds : List D} : inR neg x (.tuple ds) P ↔ Shp 8 x ∧ (∀ z ∈ ds, Shp 8 z) ∧ P (.bool ((ds.any fun z => PyData.eqv z x) ^^ neg)) := ⟨fun ⟨a, h1, h⟩ => by
  rcases h1 with h1 | h1 <;> cases h1
  exact h, fun h => ⟨ds, .inr rfl, h⟩⟩
theorem x_eqI {neg : Bool} {i j : Int} : eqR neg (.int i) (.int j) P ↔ P (.bool ((i == j) ^^ neg)) := by simp [eqR, Shp, PyData.eqv]
theorem x_eqB {neg : Bool} {i j : Bool} : eqR neg (.bool i) (.bool j) P ↔ P (.bool ((i == j) ^^ neg)) := by simp [eqR, Shp, PyData.eqv]
theorem x_dT {kds : List (List Key × D)} {ks : List Key} {r : Option D} : DGetD (dctT kds) (keyT ks) r ↔ r = valD kds ks := ⟨fun h => by
  rcases h with ⟨a, b, h1, h2, h3⟩ | ⟨a, b, h1, h2, h3⟩ | ⟨a, b, h1, h2, h3⟩ | ⟨a, b, h1, h2, h3⟩
  · rw [h3, dctT_inj h1, keyT_inj h2]
  · exact (dctT_ne h1).elim
  · exact (dctT_lk h1).elim
  · exact (dctT_lkK h1).elim, fun h => .inl ⟨kds, ks, rfl, rfl, h⟩⟩
theorem x_dK {kds : List (Key × D)} {ks : Key} {r : Option D} : DGetD (dctK kds) (keyD ks) r ↔ r = valD kds ks := ⟨fun h => by
  rcases h with ⟨a, b, h1, h2, h3⟩ | ⟨a, b, h1, h2, h3⟩ | ⟨a, b, h1, h2, h3⟩ | ⟨a, b, h1, h2, h3⟩
  · exact (dctT_ne h1.symm).elim
  · rw [h3, dctK_inj h1, keyD_inj h2]
  · exact (dctK_lk h1).elim
  · exact (dctK_lkK h1).elim, fun h => .inr (.inl ⟨kds, ks, rfl, rfl, h⟩)⟩
theorem x_lT {kds : List (List Key × D)} {ks : List Key} {r : Option D} : DGetD (lkT kds) (keyT ks) r ↔ r = valD kds ks := ⟨fun h => by
  rcases h with ⟨a, b, h1, h2, h3⟩ | ⟨a, b, h1, h2, h3⟩ | ⟨a, b, h1, h2, h3⟩ | ⟨a, b, h1, h2, h3⟩
  · exact (dctT_lk h1.symm).elim
  · exact (dctK_lk h1.symm).elim
  · rw [h3, lkT_inj h1, keyT_inj h2]
  · exact (lkT_lkK h1).elim, fun h => .inr (.inr (.inl ⟨kds, ks, rfl, rfl, h⟩))⟩
theorem x_lK {kds : List (Key × D)} {ks : Key} {r : Option D} : DGetD (lkK kds) (keyD ks) r ↔ r = valD kds ks := ⟨fun h => by
  rcases h with ⟨a, b, h1, h2, h3⟩ | ⟨a, b, h1, h2, h3⟩ | ⟨a, b, h1, h2, h3⟩ | ⟨a, b, h1, h2, h3⟩
  · exact (dctT_lkK h1.symm).elim
  · exact (dctK_lkK h1.symm).elim
  · exact (lkT_lkK h1.symm).elim
  · rw [h3, lkK_inj h1, keyD_inj h2], fun h => .inr (.inr (.inr ⟨kds, ks, rfl, rfl, h⟩))⟩
theorem x_lKi {kds : List (Key × D)} {i : Int} {r : Option D} : DGetD (lkK kds) (.int i) r ↔ r = valD kds (.inl i) := x_lK (ks := .inl i)
theorem lk_int {i : Int} {p : Prop} : (lkB (.int i) = false ∧ p) ↔ p := ⟨fun h => h.2, fun h => ⟨rfl, h⟩⟩
theorem lk_bool {i : Bool} {p : Prop} : (lkB (.bool i) = false ∧ p) ↔ p := ⟨fun h => h.2, fun h => ⟨rfl, h⟩⟩
theorem lk_str {i : Str} {p : Prop} : (lkB (.str i) = false ∧ p) ↔ p := ⟨fun h => h.2, fun h => ⟨rfl, h⟩⟩
theorem lk_none {p : Prop} : (lkB .none = false ∧ p) ↔ p := ⟨fun h => h.2, fun h => ⟨rfl, h⟩⟩
theorem lk_list {i : List D} {p : Prop} : (lkB (.list i) = false ∧ p) ↔ p := ⟨fun h => h.2, fun h => ⟨rfl, h⟩⟩
theorem lk_tup {i : List D} {p : Prop} : (lkB (.tuple i) = false ∧ p) ↔ p := ⟨fun h => h.2, fun h => ⟨rfl, h⟩⟩
theorem x_dTii {kds : List (List Key × D)} {i j : Int} {r : Option D} : DGetD (dctT kds) (.tuple [.int i, .int j]) r ↔ r = valD kds [.inl i, .inl j] := x_dT (ks := [.inl i, .inl j])
theorem x_dKi {kds : List (Key × D)} {i : Int} {r : Option D} : DGetD (dctK kds) (.int i) r ↔ r = valD kds (.inl i) := x_dK (ks := .inl i)
theorem x_kii {i j : Int} {Q : List Key → Prop} : (∃ ks, PyData.tuple [.int i, .int j] = keyT ks ∧ Q ks) ↔ Q [.inl i, .inl j] := ⟨fun ⟨ks, h, q⟩ => by
  have e : ks = [.inl i, .inl j] := keyT_inj (h.symm.trans (show _ = keyT [.inl i, .inl j] from rfl))
  rw [← e]
  exact q, fun q => ⟨_, rfl, q⟩⟩
theorem x_ki {i : Int} {Q : Key → Prop} : (∃ ks, PyData.int i = keyD ks ∧ Q ks) ↔ Q (.inl i) := ⟨fun ⟨ks, h, q⟩ => by
  have e : ks = .inl i := keyD_inj (h.symm.trans (show _ = keyD (.inl i) from rfl))
  rw [← e]
  exact q, fun q => ⟨_, rfl, q⟩⟩
theorem dctT_iff {a b : List (List Key × D)} : dctT a = dctT b ↔ a = b := ⟨dctT_inj, fun h => by rw [h]⟩
theorem dctK_iff {a b : List (Key × D)} : dctK a = dctK b ↔ a = b := ⟨dctK_inj, fun h => by rw [h]⟩
theorem k_ii {i j : Int} : (PyData.tuple [.int i, .int j]) = keyT [.inl i, .inl j] := rfl
end

/-! ### the combinators, applied -/
section
variable {t u v : DS} {d : DEnds} {Z : Zs} {ρ : List Sl} {te tf tg : DT} {tt tu : DTt} {ta : DTa} {P : D → Prop} {Pb : Bool → Prop} {Pa : List D → Prop} {Pi : List D → Prop} {Po : Option Int → Prop} {Q : List Sl → Prop} {i : Nat} {x : D} {xs : List D} {w : CW}
theorem e_seq : dSeq t u d Z ρ ↔ t { d with nx := fun ρ' => u d Z ρ' } Z ρ := Iff.rfl
theorem e_next : dNext d Z ρ ↔ d.nx ρ := Iff.rfl
theorem e_set : dSet i te d Z ρ ↔ te ρ (fun x => d.nx (ρ.set i (.fz x))) Z := Iff.rfl
theorem e_setN : dSetN i te d Z ρ ↔ te ρ (fun x => d.nx (ρ.set i (.ow x))) Z := Iff.rfl
theorem e_setS : dSetS i te d Z ρ ↔ te ρ (fun x => d.nx (ρ.set i (.ln x))) Z := Iff.rfl
theorem e_if : dIf tt u v d Z ρ ↔ tt ρ (fun c => (c = true → u d Z ρ) ∧ (c = false → v d Z ρ)) Z := Iff.rfl
theorem e_ret : dRet te d Z ρ ↔ te ρ d.rt Z := Iff.rfl
theorem e_retO : dRetO i d Z ρ ↔ ∃ x, ρ[i]? = some (.ow x) ∧ d.rt x := Iff.rfl
theorem e_drop : dDrop te d Z ρ ↔ te ρ (fun _ => d.nx ρ) Z := Iff.rfl
theorem e_frz : dFrz i t d Z ρ ↔ t d Z (frz i ρ) := Iff.rfl
theorem e_raise {x : String} : dRaise x d Z ρ ↔ Z ρ x := Iff.rfl
theorem e_asg {g : DGt} : dAsg te g d Z ρ ↔ te ρ (fun x => g x ρ d.nx) Z := Iff.rfl
theorem e_app : dApp i te d Z ρ ↔ ∃ ds, ρ[i]? = some (.ow (.list ds)) ∧ ds.length ≤ 100000 ∧ te ρ (fun y => d.nx (ρ.set i (.ow (.list (ds ++ [y]))))) Z := Iff.rfl
theorem e_ext : dExt i te d Z ρ ↔ ∃ ds, ρ[i]? = some (.ow (.list ds)) ∧ te ρ (fun y => ∃ es, y = .list es ∧ ds.length + es.length ≤ 100000 ∧ d.nx (ρ.set i (.ow (.list (ds ++ es))))) Z := Iff.rfl
theorem e_rev : dRev i d Z ρ ↔ ∃ ds, ρ[i]? = some (.ow (.list ds)) ∧ d.nx (ρ.set i (.ow (.list ds.reverse))) := Iff.rfl
theorem e_putL : dPutL i te tf d Z ρ ↔ ∃ ds, ρ[i]? = some (.ow (.list ds)) ∧ tf ρ (fun y => te ρ (fun k => ∃ n j, k = .int n ∧ ixN ds.length n = some j ∧ d.nx (ρ.set i (.ow (.list (ds.set j y))))) Z) Z := Iff.rfl
theorem e_putT : dPutT i te tf d Z ρ ↔ ∃ kds, ρ[i]? = some (.ow (dctT kds)) ∧ kds.length ≤ 100000 ∧ tf ρ (fun y => te ρ (fun k => ∃ ks, k = keyT ks ∧ d.nx (ρ.set i (.ow (dctT (putD kds ks y))))) Z) Z := Iff.rfl
theorem e_putK : dPutK i te tf d Z ρ ↔ ∃ kds, ρ[i]? = some (.ow (dctK kds)) ∧ kds.length ≤ 100000 ∧ tf ρ (fun y => te ρ (fun k => ∃ ks, k = keyD ks ∧ d.nx (ρ.set i (.ow (dctK (putD kds ks y))))) Z) Z := Iff.rfl
theorem e_V : dV i ρ P Z ↔ ∃ d, ρ[i]? = some (.fz d) ∧ P d := Iff.rfl
theorem e_Vs : dVs i ρ P Z ↔ ∃ d, ρ[i]?.bind Sl.st = some d ∧ P d := Iff.rfl
theorem e_Vr : dVr i ρ P Z ↔ ∃ d, ρ[i]?.bind Sl.rd = some d ∧ P d := Iff.rfl
theorem e_C : dC x ρ P Z ↔ P x := Iff.rfl
theorem e_1 {rd : D → (D → Prop) → Prop} : d1 rd te ρ P Z ↔ te ρ (fun x => rd x P) Z := Iff.rfl
theorem e_2 {rd : D → D → (D → Prop) → Prop} : d2 rd te tf ρ P Z ↔ te ρ (fun x => tf ρ (fun y => rd x y P) Z) Z := Iff.rfl
theorem e_A {rd : List D → (D → Prop) → Prop} : dA rd ta ρ P Z ↔ ta ρ (fun xs => rd xs P) Z := Iff.rfl
theorem e_nil : dNil ρ Pa Z ↔ Pa [] := Iff.rfl
theorem e_cons : dCons te ta ρ Pa Z ↔ te ρ (fun x => ta ρ (fun xs => Pa (x :: xs)) Z) Z := Iff.rfl
theorem e_tup : dTup ta ρ P Z ↔ ta ρ (fun ds => ds.length ≤ 100000 ∧ P (.tuple ds)) Z := Iff.rfl
theorem e_lst : dLst ta ρ P Z ↔ ta ρ (fun ds => ds.length ≤ 100000 ∧ P (.list ds)) Z := Iff.rfl
theorem e_B : dB te ρ Pb Z ↔ te ρ (fun d => ∃ c, d = .bool c ∧ Pb c) Z := Iff.rfl
theorem e_not : dNot tt ρ Pb Z ↔ tt ρ (fun c => Pb (!c)) Z := Iff.rfl
theorem e_and : dAnd tt tu ρ Pb Z ↔ tt ρ (fun c => (c = true → tu ρ Pb Z) ∧ (c = false → Pb false)) Z := Iff.rfl
theorem e_or : dOr tt tu ρ Pb Z ↔ tt ρ (fun c => (c = true → Pb true) ∧ (c = false → tu ρ Pb Z)) Z := Iff.rfl
theorem e_andV : dAndV te tf ρ P Z ↔ te ρ (fun d => ∃ c, d = .bool c ∧ (c = true → tf ρ P Z) ∧ (c = false → P (.bool false))) Z := Iff.rfl
theorem e_orV : dOrV te tf ρ P Z ↔ te ρ (fun d => ∃ c, d = .bool c ∧ (c = true → P (.bool true)) ∧ (c = false → tf ρ P Z)) Z := Iff.rfl
theorem e_notV : dNotV te ρ P Z ↔ te ρ (fun d => ∃ c, d = .bool c ∧ P (.bool (!c))) Z := Iff.rfl
theorem e_ifE : dIfE tt te tf ρ P Z ↔ tt ρ (fun c => (c = true → te ρ P Z) ∧ (c = false → tf ρ P Z)) Z := Iff.rfl
theorem e_call : dCall w ta ρ P Z ↔ ta ρ (fun ds => w ds P (fun _ => False)) Z := Iff.rfl
theorem e_callX : dCallX w ta ρ P Z ↔ ta ρ (fun ds => w ds P (Z ρ)) Z := Iff.rfl
theorem e_isi {T : String} : dIsi te T ρ P Z ↔ te ρ (fun d => lkB d = false ∧ P (.bool (isB (tyN d) T))) Z := Iff.rfl
theorem e_noP {ρ : List Sl} : dNoP ρ Po Z ↔ Po none := Iff.rfl
theorem e_part : dPart te ρ Po Z ↔ te ρ (fun x => ∃ i, x = .int i ∧ Po (some i)) Z := Iff.rfl
theorem e_slice {tl th : DTo} : dSlice te tl th ρ P Z ↔ te ρ (fun x => tl ρ (fun lo => th ρ (fun hi => cutR x lo hi P) Z) Z) Z := Iff.rfl
theorem e_sliceN {tl th : DTo} : dSliceN te tl th ρ P Z ↔ te ρ (fun x => tl ρ (fun lo => th ρ (fun hi => cutN x lo hi P) Z) Z) Z := Iff.rfl
theorem e_it : dIt te ρ Pi Z ↔ te ρ (fun x => ∃ ds, (x = .list ds ∨ x = .tuple ds) ∧ Pi ds) Z := Iff.rfl
theorem e_rng1 : dRng1 ta ρ Pi Z ↔ ta ρ (fun ds => ∃ j : Int, ds = [.int j] ∧ -(2 ^ 62) ≤ j ∧ j < 2 ^ 62 ∧ Pi (rangeD 0 j.toNat)) Z := Iff.rfl
theorem e_rng2 : dRng2 ta ρ Pi Z ↔ ta ρ (fun ds => ∃ i j : Int, ds = [.int i, .int j] ∧ (-(2 ^ 62) ≤ i ∧ i < 2 ^ 62 ∧ -(2 ^ 62) ≤ j ∧ j < 2 ^ 62) ∧ Pi (rangeD i (j - i).toNat)) Z := Iff.rfl
theorem e_enum : dEnum ta ρ Pi Z ↔ ta ρ (fun ds => ∃ xs, ds = [.list xs] ∧ Pi (enumD xs)) Z := Iff.rfl
theorem e_gNm : gNm i x ρ Q ↔ Q (ρ.set i (.fz x)) := Iff.rfl
theorem e_gNil : gNil xs ρ Q ↔ xs = [] ∧ Q ρ := Iff.rfl
theorem e_gCns {g : DGt} {gs : DGts} : gCns g gs xs ρ Q ↔ ∃ x r, xs = x :: r ∧ g x ρ (fun ρ' => gs r ρ' Q) := Iff.rfl
theorem e_gTp {n : Nat} {gs : DGts} : gTp n gs x ρ Q ↔ ∃ xs, x = .tuple xs ∧ xs.length = n ∧ gs xs ρ Q := Iff.rfl
theorem e_din {neg : Bool} : dDIn neg te tf ρ P Z ↔ te ρ (fun y => tf ρ (fun x => ∃ r, DGetD x y r ∧ P (.bool (r.isSome ^^ neg))) Z) Z := Iff.rfl
theorem e_dget : dDGet te tf ρ P Z ↔ te ρ (fun x => tf ρ (fun y => ∃ d, DGetD x y (some d) ∧ P d) Z) Z := Iff.rfl
theorem e_chain {r1 r2 : D → D → (D → Prop) → Prop} : dChain r1 r2 te tf tg ρ P Z ↔ te ρ (fun x => tf ρ (fun y => r1 x y (fun z => ∃ c, z = .bool c ∧ (c = true → tg ρ (fun w => r2 y w P) Z) ∧ (c = false → P (.bool false)))) Z) Z := Iff.rfl
theorem e_yes : dYes ρ Pb Z ↔ Pb true := Iff.rfl
theorem x_addI {i j : Int} : addD (.int i) (.int j) P ↔ P (.int (i + j)) := Iff.rfl
theorem x_addL {a b : List D} : addD (.list a) (.list b) P ↔ a.length + b.length ≤ 100000 ∧ P (.list (a ++ b)) := Iff.rfl
theorem x_addT {a b : List D} : addD (.tuple a) (.tuple b) P ↔ a ≠ [] ∧ a.length + b.length ≤ 100000 ∧ P (.tuple (a ++ b)) := Iff.rfl
theorem x_cat {a b : List D} : catD (.list a) (.list b) P ↔ a.length + b.length ≤ 100000 ∧ P (.list (a ++ b)) := ⟨fun ⟨_, _, h1, h2, h⟩ => by cases h1; cases h2; exact h, fun h => ⟨a, b, rfl, rfl, h⟩⟩
theorem x_cutL {a : List D} {lo hi : Option Int} : cutR (.list a) lo hi P ↔ P (.list (cutD a lo hi)) := Iff.rfl
theorem x_cutT {a : List D} {lo hi : Option Int} : cutR (.tuple a) lo hi P ↔ ¬ (HT.sIx a.length 0 lo = 0 ∧ HT.sIx a.length a.length hi = a.length) ∧ P (.tuple (cutD a lo hi)) := Iff.rfl
theorem x_cutN {a : List D} {lo hi : Option Int} : cutN (.list a) lo hi P ↔ P (.list (cutD a lo hi)) := ⟨fun ⟨_, h1, h⟩ => by cases h1; exact h, fun h => ⟨a, rfl, h⟩⟩
theorem fgt_nil {ρ : List Sl} : fgt [] ρ = ρ := rfl
theorem fgt_cons {i : Nat} {is : List Nat} {ρ : List Sl} : fgt (i :: is) ρ = (fgt is ρ).set i .un := rfl
end

/-! isinstance's answers -/
theorem ib_00 : isB "NoneType" "bool" = false := by decide
theorem ib_01 : isB "NoneType" "int" = false := by decide
theorem ib_02 : isB "NoneType" "str" = false := by decide
theorem ib_03 : isB "NoneType" "list" = false := by decide
theorem ib_04 : isB "NoneType" "tuple" = false := by decide
theorem ib_05 : isB "NoneType" "dict" = false := by decide
theorem ib_10 : isB "bool" "bool" = true := by decide
theorem ib_11 : isB "bool" "int" = true := by decide
theorem ib_12 : isB "bool" "str" = false := by decide
theorem ib_13 : isB "bool" "list" = false := by decide
theorem ib_14 : isB "bool" "tuple" = false := by decide
theorem ib_15 : isB "bool" "dict" = false := by decide
theorem ib_20 : isB "int" "bool" = false := by decide
theorem ib_21 : isB "int" "int" = true := by decide
theorem ib_22 : isB "int" "str" = false := by decide
theorem ib_23 : isB "int" "list" = false := by decide
theorem ib_24 : isB "int" "tuple" = false := by decide
theorem ib_25 : isB "int" "dict" = false := by decide
theorem ib_30 : isB "str" "bool" = false := by decide
theorem ib_31 : isB "str" "int" = false := by decide
theorem ib_32 : isB "str" "str" = true := by decide
theorem ib_33 : isB "str" "list" = false := by decide
theorem ib_34 : isB "str" "tuple" = false := by decide
theorem ib_35 : isB "str" "dict" = false := by decide
theorem ib_40 : isB "list" "bool" = false := by decide
theorem ib_41 : isB "list" "int" = false := by decide
theorem ib_42 : isB "list" "str" = false := by decide
theorem ib_43 : isB "list" "list" = true := by decide
theorem ib_44 : isB "list" "tuple" = false := by decide
theorem ib_45 : isB "list" "dict" = false := by decide
theorem ib_50 : isB "tuple" "bool" = false := by decide
theorem ib_51 : isB "tuple" "int" = false := by decide
theorem ib_52 : isB "tuple" "str" = false := by decide
theorem ib_53 : isB "tuple" "list" = false := by decide
theorem ib_54 : isB "tuple" "tuple" = true := by decide
theorem ib_55 : isB "tuple" "dict" = false := by decide
theorem ib_60 : isB "dict" "bool" = false := by decide
theorem ib_61 : isB "dict" "int" = false := by decide
theorem ib_62 : isB "dict" "str" = false := by decide
theorem ib_63 : isB "dict" "list" = false := by decide
theorem ib_64 : isB "dict" "tuple" = false := by decide
theorem ib_65 : isB "dict" "dict" = true := by decide
/-! ### loops -/
def ForI (fs : List Nat) (g : DGt) (tb : DS) (d : DEnds) (Z : Zs) (ρ : List Sl) (L : List D) : Prop := ∃ I : Nat → List Sl → Prop, I 0 (fgt fs ρ) ∧ (∀ ρ', I L.length ρ' → d.nx ρ') ∧
  ∀ i x ρ', L[i]? = some x → I i ρ' → g x ρ' (fun ρ2 => tb { d with nx := fun ρ3 => I (i + 1) (fgt fs ρ3), ct := fun ρ3 => I (i + 1) (fgt fs ρ3), bk := d.nx } Z ρ2)
theorem e_for {fs : List Nat} {ti : DTi} {g : DGt} {tb : DS} {d : DEnds} {Z : Zs} {ρ : List Sl} : dFor fs ti g tb d Z ρ ↔ ti ρ (ForI fs g tb d Z ρ) Z := Iff.rfl
theorem take_at {α : Type} {M : List α} {i : Nat} {x : α} (h : M[i]? = some x) : M = M.take i ++ x :: M.drop (i + 1) ∧ M.take (i + 1) = M.take i ++ [x] := by
  obtain ⟨hi, e⟩ := List.getElem?_eq_some_iff.mp h
  constructor
  · rw [← e, List.getElem_cons_drop hi, List.take_append_drop]
  · rw [List.take_add_one, h]
    rfl
/-- by what has been walked -/
theorem forI {α S : Type} {fs : List Nat} {g : DGt} {tb : DS} {d : DEnds} {Z : Zs} {ρ : List Sl} {L : List D} (enc : α → D) (M : List α) (I : List α → S → Prop) (r : S → List Sl) (s0 : S) (h0 : fgt fs ρ = r s0) (i0 : I [] s0) (hend : ∀ s, I M s → d.nx (r s))
    (step : ∀ pre x post s, M = pre ++ x :: post → I pre s → g (enc x) (r s) (fun ρ2 => tb { d with nx := fun ρ3 => ∃ s', fgt fs ρ3 = r s' ∧ I (pre ++ [x]) s', ct := fun ρ3 => ∃ s', fgt fs ρ3 = r s' ∧ I (pre ++ [x]) s', bk := d.nx } Z ρ2)) (hL : L = M.map enc) : ForI fs g tb d Z ρ L := by
  subst hL
  refine ⟨fun i ρ' => ∃ s, ρ' = r s ∧ I (M.take i) s, ⟨s0, h0, i0⟩, fun ρ' ⟨s, e, hi⟩ => ?_, fun i x ρ' hx ⟨s, e, hi⟩ => ?_⟩
  · rw [List.length_map, List.take_length] at hi
    rw [e]
    exact hend s hi
  · rw [List.getElem?_map] at hx
    obtain ⟨y, hy, rfl⟩ := Option.map_eq_some_iff.mp hx
    obtain ⟨h1, h2⟩ := take_at hy
    subst e
    have := step (M.take i) y (M.drop (i + 1)) s h1 hi
    rw [← h2] at this
    exact this
/-- the state is a function of what has been walked -/
theorem forF {α : Type} {fs : List Nat} {g : DGt} {tb : DS} {d : DEnds} {Z : Zs} {ρ : List Sl} {L : List D} (enc : α → D) (M : List α) (r : List α → List Sl) (h0 : fgt fs ρ = r []) (hend : d.nx (r M))
    (step : ∀ pre x post, M = pre ++ x :: post → g (enc x) (r pre) (fun ρ2 => tb { d with nx := fun ρ3 => fgt fs ρ3 = r (pre ++ [x]), ct := fun ρ3 => fgt fs ρ3 = r (pre ++ [x]), bk := d.nx } Z ρ2)) (hL : L = M.map enc) : ForI fs g tb d Z ρ L := by
  subst hL
  refine ⟨fun i ρ' => ρ' = r (M.take i), h0, fun ρ' e => ?_, fun i x ρ' hx e => ?_⟩
  · rw [List.length_map, List.take_length] at e
    rw [e]
    exact hend
  · rw [List.getElem?_map] at hx
    obtain ⟨y, hy, rfl⟩ := Option.map_eq_some_iff.mp hx
    obtain ⟨h1, h2⟩ := take_at hy
    subst e
    have := step (M.take i) y (M.drop (i + 1)) h1
    rw [← h2] at this
    exact this
def LcI (vs : List Nat) (g : DGt) (tt : DTt) (te : DT) (ρ : List Sl) (P : D → Prop) (L : List D) : Prop := ∃ M : Nat → List D, M 0 = [] ∧ P (.list (M L.length)) ∧
  ∀ i x, L[i]? = some x → g x (fgt vs ρ) (fun ρ2 => tt ρ2 (fun c => (c = true → te ρ2 (fun y => M (i + 1) = M i ++ [y] ∧ (M i).length ≤ 100000) Z0) ∧ (c = false → M (i + 1) = M i)) Z0)
theorem e_lc {vs : List Nat} {ti : DTi} {g : DGt} {tt : DTt} {te : DT} {ρ : List Sl} {P : D → Prop} {Z : Zs} : dLc vs ti g tt te ρ P Z ↔ ti ρ (LcI vs g tt te ρ P) Z := Iff.rfl
theorem lcI {α : Type} {vs : List Nat} {g : DGt} {tt : DTt} {te : DT} {ρ : List Sl} {P : D → Prop} {L : List D} (enc : α → D) (M : List α) (keep : α → Bool) (f : α → D) (hl : M.length ≤ 100000)
    (step : ∀ x ∈ M, ∀ (K : D → Prop) (K2 : Prop), (keep x = true → K (f x)) → (keep x = false → K2) → g (enc x) (fgt vs ρ) (fun ρ2 => tt ρ2 (fun c => (c = true → te ρ2 K Z0) ∧ (c = false → K2)) Z0))
    (hP : P (.list ((M.filter keep).map f))) (hL : L = M.map enc) : LcI vs g tt te ρ P L := by
  subst hL
  refine ⟨fun i => ((M.take i).filter keep).map f, rfl, by show P (.list (((M.take (M.map enc).length).filter keep).map f)); rw [List.length_map, List.take_length]; exact hP, fun i x hx => ?_⟩
  rw [List.getElem?_map] at hx
  obtain ⟨y, hy, rfl⟩ := Option.map_eq_some_iff.mp hx
  obtain ⟨h1, h2⟩ := take_at hy
  refine step y (List.mem_of_getElem? hy) (fun z => ((M.take (i + 1)).filter keep).map f = ((M.take i).filter keep).map f ++ [z] ∧ (((M.take i).filter keep).map f).length ≤ 100000) _ (fun hk => ?_) (fun hk => ?_)
  · refine ⟨?_, ?_⟩
    · rw [h2, List.filter_append, List.map_append]
      simp [hk]
    · rw [List.length_map]
      have a := List.length_filter_le keep (M.take i)
      have b : (M.take i).length ≤ M.length := List.length_take_le' i M
      omega
  · show ((M.take (i + 1)).filter keep).map f = ((M.take i).filter keep).map f
    rw [h2, List.filter_append, List.map_append]
    simp [hk]
/-- no test -/
theorem lcA {α : Type} {vs : List Nat} {g : DGt} {te : DT} {ρ : List Sl} {P : D → Prop} {L : List D} (enc : α → D) (M : List α) (f : α → D) (hl : M.length ≤ 100000)
    (step : ∀ x ∈ M, ∀ (K : D → Prop) (K2 : Prop), K (f x) → g (enc x) (fgt vs ρ) (fun ρ2 => dYes ρ2 (fun c => (c = true → te ρ2 K Z0) ∧ (c = false → K2)) Z0))
    (hP : P (.list (M.map f))) (hL : L = M.map enc) : LcI vs g dYes te ρ P L := by
  refine lcI enc M (fun _ => true) f hl (fun x hx K K2 h _ => step x hx K K2 (h rfl)) ?_ hL
  rw [List.filter_eq_self.mpr fun _ _ => rfl]
  exact hP
theorem range_enc {lo : Int} {n : Nat} : rangeD lo n = ((List.range n).map fun i => lo + (i : Nat)).map .int := by
  unfold rangeD
  rw [List.map_map]
  rfl
theorem range_encN {n : Nat} : rangeD 0 n = (List.range n).map fun (i : Nat) => .int (i : Nat) := by
  unfold rangeD
  refine List.map_congr_left fun i _ => ?_
  rw [Int.zero_add]
theorem enum_enc {α : Type} (enc : α → D) (M : List α) : enumD (M.map enc) = M.zipIdx.map fun p => .tuple [.int (p.2 : Nat), enc p.1] := by
  unfold enumD
  refine List.ext_getElem? fun i => ?_
  rw [List.getElem?_mapIdx, List.getElem?_map, List.getElem?_map, List.getElem?_zipIdx]
  cases M[i]? <;> simp
end DL
set_option maxRecDepth 100000
set_option maxHeartbeats 4000000
/-! DLT: try .. except X as n; isinstance of the caught one. -/
namespace DL
open PySem PySem.Spec PyProof.Rows L2
variable {T : List (Addr × Str)}

/-- behind a suite its name is gone -/
def DEnds.un (d : DEnds) (i : Nat) : DEnds := { nx := fun ρ => d.nx (ρ.set i .un), rt := d.rt, bk := fun ρ => d.bk (ρ.set i .un), ct := fun ρ => d.ct (ρ.set i .un) }
/-- what is wanted of the body's exceptions: by class, its suite, or none (it goes on out) -/
def hsZ (i : Nat) (d : DEnds) (Z : Zs) (ρ : List Sl) : List (String × Option (Addr → DS)) → String → Prop
  | [], _ => False
  | (y, o) :: r, x => if y = x then (match o with
    | some u => ∀ a, u a (d.un i) Z0 (ρ.set i (.at a))
    | none => Z ρ x) else hsZ i d Z ρ r x
def dTryAs (i : Nat) (hs : List (String × Option (Addr → DS))) (tb : DS) : DS := fun d Z ρ => tb d (fun ρ' x => hsZ i d Z ρ' hs x) ρ
/-- the class x and what the clause says of it -/
def TkF (X : Cx) (c : Value) (x : String) (b : Bool) : Prop := ∃ C, X.mg (x : Str) = some (.ref C) ∧ PySem.W.exmOne X.K (.ref C) c = some b
inductive HsA (X : Cx) (T : List (Addr × Str)) (c : Value) (rm : Md) (suite : List Stmt) : List (String × Option (Addr → DS)) → Prop
  | nil : HsA X T c rm suite []
  | take {x : String} {u : Addr → DS} {r : List (String × Option (Addr → DS))} (h : TkF X c x true)
      (hd : ∀ (C a : Addr) (oe : Obj) (pn : List (Addr × Obj)), X.mg (x : Str) = some (.ref C) → Zc (.ref C) none oe → (∃ vs, oe.data = .fields vs) → DSs (X.suite a ((a, oe) :: pn)) (W0 T) rm suite (u a)) (hr : HsA X T c rm suite r) : HsA X T c rm suite ((x, some u) :: r)
  | pass {x : String} {r : List (String × Option (Addr → DS))} (h : TkF X c x false) (hr : HsA X T c rm suite r) : HsA X T c rm suite ((x, none) :: r)
section
variable {X : Cx} {W : WT} {rm : Md}
theorem hs_case {T : List (Addr × Str)} {c : Value} {suite : List Stmt} {i : Nat} {d : DEnds} {Z : Zs} {ρ : List Sl} : ∀ {hs : List (String × Option (Addr → DS))} {x : String}, HsA X T c rm suite hs → hsZ i d Z ρ hs x →
    (∃ u : Addr → DS, TkF X c x true ∧ (∀ (C a : Addr) (oe : Obj) (pn : List (Addr × Obj)), X.mg (x : Str) = some (.ref C) → Zc (.ref C) none oe → (∃ vs, oe.data = .fields vs) → DSs (X.suite a ((a, oe) :: pn)) (W0 T) rm suite (u a)) ∧ ∀ a, u a (d.un i) Z0 (ρ.set i (.at a))) ∨ (TkF X c x false ∧ Z ρ x)
  | _, _, .nil, q => q.elim
  | _, x, .take (x := y) (u := u) h hd hr, q => by
    unfold hsZ at q
    by_cases e : y = x
    · subst e
      rw [if_pos rfl] at q
      exact .inl ⟨u, h, hd, q⟩
    · rw [if_neg e] at q
      exact hs_case hr q
  | _, x, .pass (x := y) h hr, q => by
    unfold hsZ at q
    by_cases e : y = x
    · subst e
      rw [if_pos rfl] at q
      exact .inr ⟨h, q⟩
    · rw [if_neg e] at q
      exact hs_case hr q
theorem tk_at {c : Value} {x : String} {b : Bool} {C : Addr} (h : TkF X c x b) (hm : X.mg (x : Str) = some (.ref C)) : PySem.W.exmOne X.K (.ref C) c = some b := by
  obtain ⟨C', h1, h2⟩ := h
  rw [hm] at h1
  cases h1
  exact h2
theorem ds_try_as (i : Nat) {x n : Str} {c : Value} {body suite : List Stmt} {b₀ : Stmt} {np pos pos' : Pos} {hs : List (String × Option (Addr → DS))} {tb : DS} (hN : X.N.Nodup) (tk : Takes X W.w) (hc : Names X x c)
    (hb : ∀ (W' : WX) (pn : List (Addr × Obj)) (xe : Value → Shared → Prop), Takes (X.tr pn xe) W' → PassesOwn (model X.prog X.w) X.A X.env xe → DSs (X.tr pn xe) ⟨W', W.T⟩ rm body tb) (hh : HsA X W.T c rm (b₀ :: suite) hs)
    (hst : X.stack = X.env :: X.outer := by rfl) (hf : X.env.frame = some X.env.locals := by rfl) (hi : X.N[i]? = some n := by rfl) (hln : X.env.kindOf n = some .local := by rfl) :
    DS1 X W rm (.Try body [.ExceptHandler (some (.Name x np)) (some n) (b₀ :: suite) pos'] [] [] pos) (dTryAs i hs tb) := by
  let ts : Addr → Value → Option Addr → TS := fun a cls d0 D σ H => ∃ (y : String) (C : Addr) (u : Addr → DS), X.mg (y : Str) = some (.ref C) ∧ cls = .ref C ∧ d0 = none ∧
    (∀ (oe : Obj) (pn : List (Addr × Obj)), Zc (.ref C) none oe → (∃ vs, oe.data = .fields vs) → DSs (X.suite a ((a, oe) :: pn)) (W0 W.T) rm (b₀ :: suite) (u a)) ∧ cS X.mg X.K (W0 W.T) rm (u a) D σ H
  refine ⟨_, ps_try_as (i := i) (tb := fun W' => cS X.mg X.K ⟨W', W.T⟩ rm tb) (ts := ts) (Wout := W.w) hst hf hN hi hln hc tk (fun W' pn xe tk' po => (hb W' pn xe tk' po).ps) (fun a oe cls d0 pn hz hv => ?_), fun b F H σ ρ D d Z R z q cn => ?_⟩
  · refine ⟨fun pins s σ H D I h => ?_⟩
    obtain ⟨y, C, u, hm, rfl, rfl, dv, cs⟩ := h
    exact (dv oe pn hz hv).ps.run pins s σ H D I cs
  · refine ⟨b, F, ρ, d, _, R, ⟨z.t, fun ρ' F' H' σ' y C s' hm R' hq => ?_⟩, q, cn⟩
    rcases hs_case hh hq with ⟨u, h1, h2, h3⟩ | ⟨h1, h2⟩
    · refine ⟨true, tk_at h1 hm, fun _ a na => ⟨y, C, u, hm, rfl, rfl, fun oe pn hz hv => h2 C a oe pn hm hz hv, b, F', _, _, Z0, R'.setX i (some (.ref a)) (.at a) ⟨rfl, rfl⟩, zok0 z.t, h3 a, ?_⟩, (fun e => nomatch e)⟩
      exact ⟨fun ρ2 F2 H2 σ2 s2 R2 p => cn.nx _ F2 H2 _ (s'.trans s2) (R2.setX i none .un rfl) p, fun ρ2 F2 H2 σ2 s2 R2 p => cn.bk _ F2 H2 _ (s'.trans s2) (R2.setX i none .un rfl) p,
        fun ρ2 F2 H2 σ2 s2 R2 p => cn.ct _ F2 H2 _ (s'.trans s2) (R2.setX i none .un rfl) p, cn.rt⟩
    · exact ⟨false, tk_at h1 hm, (fun e => nomatch e), fun _ => z.z ρ' F' H' σ' y C s' hm R' h2⟩
/-! without a name -/
def hsZo (d : DEnds) (Z : Zs) (ρ : List Sl) : List (String × Option DS) → String → Prop
  | [], _ => False
  | (y, o) :: r, x => if y = x then (match o with
    | some u => u d Z0 ρ
    | none => Z ρ x) else hsZo d Z ρ r x
def dTry (hs : List (String × Option DS)) (tb : DS) : DS := fun d Z ρ => tb d (fun ρ' x => hsZo d Z ρ' hs x) ρ
inductive HsO (X : Cx) (T : List (Addr × Str)) (c : Value) (rm : Md) (suite : List Stmt) : List (String × Option DS) → Prop
  | nil : HsO X T c rm suite []
  | take {x : String} {u : DS} {r : List (String × Option DS)} (h : TkF X c x true)
      (hd : ∀ (C a : Addr) (oe : Obj) (pn : List (Addr × Obj)), X.mg (x : Str) = some (.ref C) → Zc (.ref C) none oe → (∃ vs, oe.data = .fields vs) → DSs (X.suite a ((a, oe) :: pn)) (W0 T) rm suite u) (hr : HsO X T c rm suite r) : HsO X T c rm suite ((x, some u) :: r)
  | pass {x : String} {r : List (String × Option DS)} (h : TkF X c x false) (hr : HsO X T c rm suite r) : HsO X T c rm suite ((x, none) :: r)
theorem hs_caseO {T : List (Addr × Str)} {c : Value} {suite : List Stmt} {d : DEnds} {Z : Zs} {ρ : List Sl} : ∀ {hs : List (String × Option DS)} {x : String}, HsO X T c rm suite hs → hsZo d Z ρ hs x →
    (∃ u : DS, TkF X c x true ∧ (∀ (C a : Addr) (oe : Obj) (pn : List (Addr × Obj)), X.mg (x : Str) = some (.ref C) → Zc (.ref C) none oe → (∃ vs, oe.data = .fields vs) → DSs (X.suite a ((a, oe) :: pn)) (W0 T) rm suite u) ∧ u d Z0 ρ) ∨ (TkF X c x false ∧ Z ρ x)
  | _, _, .nil, q => q.elim
  | _, x, .take (x := y) (u := u) h hd hr, q => by
    unfold hsZo at q
    by_cases e : y = x
    · subst e
      rw [if_pos rfl] at q
      exact .inl ⟨u, h, hd, q⟩
    · rw [if_neg e] at q
      exact hs_caseO hr q
  | _, x, .pass (x := y) h hr, q => by
    unfold hsZo at q
    by_cases e : y = x
    · subst e
      rw [if_pos rfl] at q
      exact .inr ⟨h, q⟩
    · rw [if_neg e] at q
      exact hs_caseO hr q
theorem ds_try {x : Str} {c : Value} {body suite : List Stmt} {b₀ : Stmt} {np pos pos' : Pos} {hs : List (String × Option DS)} {tb : DS} (tk : Takes X W.w) (hc : Names X x c)
    (hb : ∀ (W' : WX) (pn : List (Addr × Obj)) (xe : Value → Shared → Prop), Takes (X.tr pn xe) W' → PassesOwn (model X.prog X.w) X.A X.env xe → DSs (X.tr pn xe) ⟨W', W.T⟩ rm body tb) (hh : HsO X W.T c rm (b₀ :: suite) hs)
    (hst : X.stack = X.env :: X.outer := by rfl) (hf : X.env.frame = some X.env.locals := by rfl) :
    DS1 X W rm (.Try body [.ExceptHandler (some (.Name x np)) none (b₀ :: suite) pos'] [] [] pos) (dTry hs tb) := by
  let ts : Addr → Value → Option Addr → TS := fun a cls d0 D σ H => ∃ (y : String) (C : Addr) (u : DS), X.mg (y : Str) = some (.ref C) ∧ cls = .ref C ∧ d0 = none ∧
    (∀ (oe : Obj) (pn : List (Addr × Obj)), Zc (.ref C) none oe → (∃ vs, oe.data = .fields vs) → DSs (X.suite a ((a, oe) :: pn)) (W0 W.T) rm (b₀ :: suite) u) ∧ cS X.mg X.K (W0 W.T) rm u D σ H
  refine ⟨_, ps_try_only (tb := fun W' => cS X.mg X.K ⟨W', W.T⟩ rm tb) (ts := ts) (Wout := W.w) hst hf hc tk (fun W' pn xe tk' po => (hb W' pn xe tk' po).ps) (fun a oe cls d0 pn hz hv => ?_), fun b F H σ ρ D d Z R z q cn => ?_⟩
  · refine ⟨fun pins s σ H D I h => ?_⟩
    obtain ⟨y, C, u, hm, rfl, rfl, dv, cs⟩ := h
    exact (dv oe pn hz hv).ps.run pins s σ H D I cs
  · refine ⟨b, F, ρ, d, _, R, ⟨z.t, fun ρ' F' H' σ' y C s' hm R' hq => ?_⟩, q, cn⟩
    rcases hs_caseO hh hq with ⟨u, h1, h2, h3⟩ | ⟨h1, h2⟩
    · exact ⟨true, tk_at h1 hm, fun _ a na => ⟨y, C, u, hm, rfl, rfl, fun oe pn hz hv => h2 C a oe pn hm hz hv, b, F', _, _, Z0, R', zok0 z.t, h3, cn.mono s'⟩, (fun e => nomatch e)⟩
    · exact ⟨false, tk_at h1 hm, (fun e => nomatch e), fun _ => z.z ρ' F' H' σ' y C s' hm R' h2⟩

theorem kit_ref {K : PySem.W.Frag} {C D : Addr} {b : Bool} (hd : PySem.W.hasDictIn K D = true) (ht : PySem.W.typeIn K (.ref D) = some (.type "type")) (hr : PySem.W.subIn K (.ref C) (.ref C) = some true) (hs : PySem.W.subIn K (.ref C) (.ref D) = some b) : PySem.W.kitOne K (.ref C) (.ref D) = some b := by
  unfold PySem.W.kitOne
  by_cases e : (Value.ref C == Value.ref D) = true
  · rw [if_pos e]
    have e2 : Value.ref C = Value.ref D := eq_of_beq e
    cases e2
    rw [hr] at hs
    exact hs
  · rw [if_neg e]
    have e2 : ((PySem.W.clsIn K D).isSome && PySem.W.typeIn K (.ref D) == some (.type "type")) = true := by
      have h1 : (PySem.W.clsIn K D).isSome = true := by
        unfold PySem.W.hasDictIn at hd
        cases h : PySem.W.clsIn K D with
        | none => rw [h] at hd; cases hd
        | some cd => rfl
      rw [h1, ht]
      rfl
    show (if ((PySem.W.clsIn K D).isSome && PySem.W.typeIn K (.ref D) == some (.type "type")) = true then PySem.W.subIn K (.ref C) (.ref D) else none) = some b
    rw [if_pos e2]
    exact hs
theorem kit_bt {K : PySem.W.Frag} {C : Addr} {T : String} {b : Bool} (hm : PySem.W.kitMeta T = true) (hs : PySem.W.subIn K (.ref C) (.type T) = some b) : PySem.W.kitOne K (.ref C) (.type T) = some b := by
  unfold PySem.W.kitOne
  rw [if_neg (by intro h; cases (eq_of_beq h))]
  show (if PySem.W.kitMeta T = true then PySem.W.subIn K (.ref C) (.type T) else none) = some b
  rw [if_pos hm]
  exact hs
/-! ### isinstance of the caught one -/
/-- a class as a value -/
structure ClsE (X : Cx) (x : Str) (cv : Value) (v : V) : Prop where
  pe : ∀ p, PE X (.Name x p) (tC v)
  eq : ∀ u, RelV v u → u = cv
theorem cls_own {x : Str} {C : Addr} (hm : X.mg x = some (.ref C)) (hg : Gl X x := by rfl) (hd : (x == ("__debug__" : Str)) = false := by decide) : ClsE X x (.ref C) (.ref C) :=
  ⟨fun p => pe_glob hg hm (show RelV (.ref C) (.ref C) from rfl) hd, fun u h => h⟩
theorem cls_ty {x : Str} {T : String} (hm : X.mg x = none) (hv : bootBuiltins x = some (.type T)) (hg : Gl X x := by rfl) (hn : x ≠ "__name__" := by decide) (hd : (x == ("__debug__" : Str)) = false := by decide) : ClsE X x (.type T) (.ty T) :=
  ⟨fun p => pe_bltn hg hm hv (show RelV (.ty T) (.type T) from rfl) hn hd, fun u h => h⟩
inductive ClsL (X : Cx) (K : PySem.W.Frag) (C : Addr) : List Expr → List V → List Value → Bool → Prop
  | nil : ClsL X K C [] [] [] false
  | cons {x : Str} {p : Pos} {cv : Value} {v : V} {b b' : Bool} {es : List Expr} {vs : List V} {us : List Value} : ClsE X x cv v → PySem.W.kitOne K (.ref C) cv = some b → ClsL X K C es vs us b' → ClsL X K C (.Name x p :: es) (v :: vs) (cv :: us) (b || b')
def dIsE (i : Nat) (a : Addr) (b : Bool) : DT := fun ρ P _ => ρ[i]? = some (.at a) ∧ P (.bool b)
theorem de_isE (i : Nat) {a C : Addr} {oe : Obj} {pn : List (Addr × Obj)} {n T : Str} {p p1 p2 pos : Pos} {cv : Value} {v : V} {b : Bool} {W : WT} (EC : ExcC X.K C) (hz : Zc (.ref C) none oe) (hf : ∃ vs, oe.data = .fields vs) (hm : X.mg "isinstance" = none) (hc : ClsE (X.suite a ((a, oe) :: pn)) T cv v) (hk : PySem.W.kitOne X.K (.ref C) cv = some b)
    (hv : PE (X.suite a ((a, oe) :: pn)) (.Name n p1) (tVar i)) (hg : Gl (X.suite a ((a, oe) :: pn)) "isinstance" := by rfl) : DE (X.suite a ((a, oe) :: pn)) W .fz (.Call (.Name "isinstance" p) [.Name n p1, .Name T p2] [] pos) (dIsE i a b) := by
  refine ⟨_, pe_callB (call_isE EC hz hf) hg hm bt_isinstance (pa_cons hv (pa_cons (hc.pe p2) pa_nil)) (by decide) (by decide), fun b' F H σ ρ Q P Z R z q k => ?_⟩
  have e := R.sl i _ q.1
  exact ⟨.ref a, e, v, cv, b, rfl, hc.eq, hk, goes_now k R.g q.2 (Dq.bl b) trivial⟩
def rIsET (K : PySem.W.Frag) (D a : Addr) : List V → Hp → VK → Prop := fun xs H Q => ∃ (tp : Addr) (cs : List V) (us : List Value) (b : Bool), xs = [.ref a, .ref tp] ∧ H tp = some (.tup cs) ∧ (∀ ws, Vals cs ws → ws = us) ∧ PySem.W.kitAny K (.ref D) us = some b ∧ Q (.bl b) H
theorem call_isET {a D : Addr} {oe : Obj} {pn : List (Addr × Obj)} (C : ExcC X.K D) (hz : Zc (.ref D) none oe) (hf : ∃ vs, oe.data = .fields vs) : CallR (X.suite a ((a, oe) :: pn)) (.builtin "isinstance") (rIsET X.K D a) := by
  intro pins s σ H xs us Q I r h
  obtain ⟨tp, cs, ws, b, rfl, hT, hcv, e, q⟩ := h
  obtain ⟨u1, u2, rfl, rx, rt⟩ := vals2 r
  cases (show u1 = Value.ref a from rx)
  cases (show u2 = Value.ref tp from rt)
  obtain ⟨hget, _⟩ := I.pin (a, oe) (List.mem_append.mpr (.inl List.mem_cons_self))
  obtain ⟨vs, hv⟩ := hf
  have J : PySem.W.InstAt s.heap a oe D none := by
    obtain ⟨oc, od, oda, osl⟩ := oe
    obtain ⟨h1, h2⟩ := hz
    dsimp only at h1 h2 hv
    subst h1 h2 hv
    exact ⟨hget, rfl, rfl, trivial⟩
  obtain ⟨_, its, rv, o, h1, h2, n, h3⟩ := (show ObjOk X.prog X.w H s.heap tp (.tup cs) from I.hok tp _ hT)
  have e3 := hcv _ rv
  subst e3
  obtain ⟨oc, od, dt, sl⟩ := o
  simp only at h2 h3
  subst h2 h3
  exact PySem.W.kia_tup (PySem.W.handS_kitx_exc C.hg C.hk C.hs C.hd C.ha C.hn C.ht C.hm) I.kIn J h1 e (fun z => nomatch z) fun tk => ⟨.bl b, H, I.kept (t' := tk) fun _ _ z => z, rfl, q⟩
theorem clsL_pa {K : PySem.W.Frag} {C : Addr} : ∀ {es : List Expr} {vs : List V} {us : List Value} {b : Bool}, ClsL X K C es vs us b → PA X es (fun _ H Q => Q vs H)
  | _, _, _, _, .nil => pa_nil
  | _, _, _, _, .cons h _ r => pa_cons (h.pe _) (clsL_pa r)
theorem clsL_eq {K : PySem.W.Frag} {C : Addr} : ∀ {es : List Expr} {vs : List V} {us : List Value} {b : Bool}, ClsL X K C es vs us b → ∀ ws, Vals vs ws → ws = us
  | _, _, _, _, .nil, _, r => by cases r; rfl
  | _, _, _, _, .cons h _ r, _, q => by
    cases q with
    | cons q1 q2 => rw [h.eq _ q1, clsL_eq r _ q2]
theorem clsL_any {K : PySem.W.Frag} {C : Addr} : ∀ {es : List Expr} {vs : List V} {us : List Value} {b : Bool}, ClsL X K C es vs us b → PySem.W.kitAny K (.ref C) us = some b
  | _, _, _, _, .nil => rfl
  | _, _, _, _, .cons (b := b) h k r => by
    refine kitAny_cons k (fun e => ?_) (fun e => by rw [e]; rfl)
    rw [e, Bool.false_or]
    exact clsL_any r
theorem clsL_len {K : PySem.W.Frag} {C : Addr} : ∀ {es : List Expr} {vs : List V} {us : List Value} {b : Bool}, ClsL X K C es vs us b → vs.length = es.length
  | _, _, _, _, .nil => rfl
  | _, _, _, _, .cons _ _ r => congrArg (· + 1) (clsL_len r)
theorem de_isET (i : Nat) {a C : Addr} {oe : Obj} {pn : List (Addr × Obj)} {n : Str} {p p1 pt pos : Pos} {kt} {es : List Expr} {vs : List V} {us : List Value} {b : Bool} {W : WT} (EC : ExcC X.K C) (hz : Zc (.ref C) none oe) (hf : ∃ vs, oe.data = .fields vs) (hm : X.mg "isinstance" = none) (hc : ClsL (X.suite a ((a, oe) :: pn)) X.K C es vs us b)
    (hv : PE (X.suite a ((a, oe) :: pn)) (.Name n p1) (tVar i)) (hl : es.length ≤ 100000 := by decide) (hg : Gl (X.suite a ((a, oe) :: pn)) "isinstance" := by rfl) : DE (X.suite a ((a, oe) :: pn)) W .fz (.Call (.Name "isinstance" p) [.Name n p1, .Tuple es kt pt] [] pos) (dIsE i a b) := by
  refine ⟨_, pe_callB (call_isET EC hz hf) hg hm bt_isinstance (pa_cons hv (pa_cons (pe_tup (clsL_pa hc)) pa_nil)) (by decide) (by decide), fun b' F H σ ρ Q P Z R z q k => ?_⟩
  have e := R.sl i _ q.1
  refine ⟨.ref a, e, sz5 (by rw [clsL_len hc]; exact hl), fun t nt => ⟨t, vs, us, b, rfl, upd_same, clsL_eq hc, clsL_any hc, ?_⟩⟩
  have g := Grow.new R.g (HO.tup vs) nt
  exact k _ _ _ _ q.2 g (Dq.bl b) trivial
/-! the same under a plain name, for the facts of the text -/
structure ExcI (K : PySem.W.Frag) (mg : Str → Option Value) (x : String) : Prop where
  ex : ∃ C, mg (x : Str) = some (.ref C) ∧ ExcC K C
/-- isinstance of an instance of x with the class named T -/
structure KitI (K : PySem.W.Frag) (mg : Str → Option Value) (x : String) (T : String) (b : Bool) : Prop where
  ex : ∃ C D, mg (x : Str) = some (.ref C) ∧ mg (T : Str) = some (.ref D) ∧ PySem.W.kitOne K (.ref C) (.ref D) = some b
structure KitB (K : PySem.W.Frag) (mg : Str → Option Value) (x : String) (T : String) (b : Bool) : Prop where
  ex : ∃ C, mg (x : Str) = some (.ref C) ∧ mg (T : Str) = none ∧ bootBuiltins (T : Str) = some (.type T) ∧ PySem.W.kitOne K (.ref C) (.type T) = some b
theorem excI_at {x : String} {C : Addr} (h : ExcI X.K X.mg x) (hm : X.mg (x : Str) = some (.ref C)) : ExcC X.K C := by
  obtain ⟨C', h1, h2⟩ := h.ex
  rw [hm] at h1
  cases h1
  exact h2
theorem kitI_at {x T : String} {b : Bool} {C : Addr} (h : KitI X.K X.mg x T b) (hm : X.mg (x : Str) = some (.ref C)) : ∃ D, X.mg (T : Str) = some (.ref D) ∧ PySem.W.kitOne X.K (.ref C) (.ref D) = some b := by
  obtain ⟨C', D, h1, h2, h3⟩ := h.ex
  rw [hm] at h1
  cases h1
  exact ⟨D, h2, h3⟩
theorem kitB_at {x T : String} {b : Bool} {C : Addr} (h : KitB X.K X.mg x T b) (hm : X.mg (x : Str) = some (.ref C)) : X.mg (T : Str) = none ∧ bootBuiltins (T : Str) = some (.type T) ∧ PySem.W.kitOne X.K (.ref C) (.type T) = some b := by
  obtain ⟨C', h1, h2⟩ := h.ex
  rw [hm] at h1
  cases h1
  exact h2
theorem de_isEI (i : Nat) {a C : Addr} {oe : Obj} {pn : List (Addr × Obj)} {n : Str} {x T : String} {p p1 p2 pos : Pos} {b : Bool} {W : WT} (hC : X.mg (x : Str) = some (.ref C)) (E : ExcI X.K X.mg x) (hz : Zc (.ref C) none oe) (hf : ∃ vs, oe.data = .fields vs) (hm : X.mg "isinstance" = none) (hk : KitI X.K X.mg x T b)
    (hv : PE (X.suite a ((a, oe) :: pn)) (.Name n p1) (tVar i)) (hgT : Gl (X.suite a ((a, oe) :: pn)) (T : Str) := by rfl) (hd : ((T : Str) == ("__debug__" : Str)) = false := by decide) (hg : Gl (X.suite a ((a, oe) :: pn)) "isinstance" := by rfl) : DE (X.suite a ((a, oe) :: pn)) W .fz (.Call (.Name "isinstance" p) [.Name n p1, .Name (T : Str) p2] [] pos) (dIsE i a b) := by
  obtain ⟨D, h1, h2⟩ := kitI_at hk hC
  exact de_isE i (excI_at E hC) hz hf hm (cls_own h1 hgT hd) h2 hv hg
theorem de_isEB (i : Nat) {a C : Addr} {oe : Obj} {pn : List (Addr × Obj)} {n : Str} {x T : String} {p p1 p2 pos : Pos} {b : Bool} {W : WT} (hC : X.mg (x : Str) = some (.ref C)) (E : ExcI X.K X.mg x) (hz : Zc (.ref C) none oe) (hf : ∃ vs, oe.data = .fields vs) (hm : X.mg "isinstance" = none) (hk : KitB X.K X.mg x T b)
    (hv : PE (X.suite a ((a, oe) :: pn)) (.Name n p1) (tVar i)) (hgT : Gl (X.suite a ((a, oe) :: pn)) (T : Str) := by rfl) (hn : (T : Str) ≠ "__name__" := by decide) (hd : ((T : Str) == ("__debug__" : Str)) = false := by decide) (hg : Gl (X.suite a ((a, oe) :: pn)) "isinstance" := by rfl) : DE (X.suite a ((a, oe) :: pn)) W .fz (.Call (.Name "isinstance" p) [.Name n p1, .Name (T : Str) p2] [] pos) (dIsE i a b) := by
  obtain ⟨h1, h2, h3⟩ := kitB_at hk hC
  exact de_isE i (excI_at E hC) hz hf hm (cls_ty h1 h2 hgT hn hd) h3 hv hg
/-- a tuple of own classes -/
inductive KitL (X Y : Cx) (x : String) : List Expr → Bool → Prop
  | nil : KitL X Y x [] false
  | cons {T : String} {p : Pos} {b b' : Bool} {es : List Expr} (h : KitI X.K X.mg x T b) (hr : KitL X Y x es b') (hg : Gl Y (T : Str) := by rfl) (hd : ((T : Str) == ("__debug__" : Str)) = false := by decide) : KitL X Y x (.Name (T : Str) p :: es) (b || b')
theorem kitL_cls {x : String} {a C : Addr} {pn : List (Addr × Obj)} (hC : X.mg (x : Str) = some (.ref C)) : ∀ {es : List Expr} {b : Bool}, KitL X (X.suite a pn) x es b → ∃ vs us, ClsL (X.suite a pn) X.K C es vs us b
  | _, _, .nil => ⟨[], [], .nil⟩
  | _, _, .cons h hr hg hd => by
    obtain ⟨D, h1, h2⟩ := kitI_at h hC
    obtain ⟨vs, us, q⟩ := kitL_cls hC hr
    exact ⟨_, _, .cons (cls_own h1 hg hd) h2 q⟩
theorem de_isEL (i : Nat) {a C : Addr} {oe : Obj} {pn : List (Addr × Obj)} {n : Str} {x : String} {p p1 pt pos : Pos} {kt} {es : List Expr} {b : Bool} {W : WT} (hC : X.mg (x : Str) = some (.ref C)) (E : ExcI X.K X.mg x) (hz : Zc (.ref C) none oe) (hf : ∃ vs, oe.data = .fields vs) (hm : X.mg "isinstance" = none) (hk : KitL X (X.suite a ((a, oe) :: pn)) x es b)
    (hv : PE (X.suite a ((a, oe) :: pn)) (.Name n p1) (tVar i)) (hl : es.length ≤ 100000 := by decide) (hg : Gl (X.suite a ((a, oe) :: pn)) "isinstance" := by rfl) : DE (X.suite a ((a, oe) :: pn)) W .fz (.Call (.Name "isinstance" p) [.Name n p1, .Tuple es kt pt] [] pos) (dIsE i a b) := by
  obtain ⟨vs, us, q⟩ := kitL_cls hC hk
  exact de_isET i (excI_at E hC) hz hf hm q hv hl hg
/-! clauses by name -/
structure TkN (K : PySem.W.Frag) (mg : Str → Option Value) (x H : String) (b : Bool) : Prop where
  ex : ∃ C D, mg (x : Str) = some (.ref C) ∧ mg (H : Str) = some (.ref D) ∧ PySem.W.exmOne K (.ref C) (.ref D) = some b
theorem tkF {x H : String} {b : Bool} {D : Addr} (h : TkN X.K X.mg x H b) (hm : X.mg (H : Str) = some (.ref D)) : TkF X (.ref D) x b := by
  obtain ⟨C, D', h1, h2, h3⟩ := h.ex
  rw [hm] at h2
  cases h2
  exact ⟨C, h1, h3⟩
theorem ds_tryH_as (i : Nat) {H : String} {n : Str} {body suite : List Stmt} {b₀ : Stmt} {np pos pos' : Pos} {hs : List (String × Option (Addr → DS))} {tb : DS} (hN : X.N.Nodup) (tk : Takes X W.w) (hH : ∃ D : Addr, X.mg (H : Str) = some (.ref D))
    (hb : ∀ (W' : WX) (pn : List (Addr × Obj)) (xe : Value → Shared → Prop), Takes (X.tr pn xe) W' → PassesOwn (model X.prog X.w) X.A X.env xe → DSs (X.tr pn xe) ⟨W', W.T⟩ rm body tb) (hh : ∀ D : Addr, X.mg (H : Str) = some (.ref D) → HsA X W.T (.ref D) rm (b₀ :: suite) hs)
    (hg : Gl X (H : Str) := by rfl) (hdb : ((H : Str) == ("__debug__" : Str)) = false := by decide)
    (hst : X.stack = X.env :: X.outer := by rfl) (hf : X.env.frame = some X.env.locals := by rfl) (hi : X.N[i]? = some n := by rfl) (hln : X.env.kindOf n = some .local := by rfl) :
    DS1 X W rm (.Try body [.ExceptHandler (some (.Name (H : Str) np)) (some n) (b₀ :: suite) pos'] [] [] pos) (dTryAs i hs tb) := by
  obtain ⟨D, hD⟩ := hH
  exact ds_try_as i hN tk ⟨hg, hdb, .inl hD⟩ hb (hh D hD) hst hf hi hln
theorem ds_tryH {H : String} {body suite : List Stmt} {b₀ : Stmt} {np pos pos' : Pos} {hs : List (String × Option DS)} {tb : DS} (tk : Takes X W.w) (hH : ∃ D : Addr, X.mg (H : Str) = some (.ref D))
    (hb : ∀ (W' : WX) (pn : List (Addr × Obj)) (xe : Value → Shared → Prop), Takes (X.tr pn xe) W' → PassesOwn (model X.prog X.w) X.A X.env xe → DSs (X.tr pn xe) ⟨W', W.T⟩ rm body tb) (hh : ∀ D : Addr, X.mg (H : Str) = some (.ref D) → HsO X W.T (.ref D) rm (b₀ :: suite) hs)
    (hg : Gl X (H : Str) := by rfl) (hdb : ((H : Str) == ("__debug__" : Str)) = false := by decide) (hst : X.stack = X.env :: X.outer := by rfl) (hf : X.env.frame = some X.env.locals := by rfl) :
    DS1 X W rm (.Try body [.ExceptHandler (some (.Name (H : Str) np)) none (b₀ :: suite) pos'] [] [] pos) (dTry hs tb) := by
  obtain ⟨D, hD⟩ := hH
  exact ds_try tk ⟨hg, hdb, .inl hD⟩ hb (hh D hD) hst hf
end
section
variable {i : Nat} {d : DEnds} {Z : Zs} {ρ : List Sl} {P : D → Prop}
theorem e_tryAs {hs : List (String × Option (Addr → DS))} {tb : DS} : dTryAs i hs tb d Z ρ ↔ tb d (fun ρ' x => hsZ i d Z ρ' hs x) ρ := Iff.rfl
theorem e_try {hs : List (String × Option DS)} {tb : DS} : dTry hs tb d Z ρ ↔ tb d (fun ρ' x => hsZo d Z ρ' hs x) ρ := Iff.rfl
theorem e_isE {a : Addr} {b : Bool} : dIsE i a b ρ P Z ↔ ρ[i]? = some (.at a) ∧ P (.bool b) := Iff.rfl
theorem hsZ_cons {y x : String} {o : Option (Addr → DS)} {r : List (String × Option (Addr → DS))} : hsZ i d Z ρ ((y, o) :: r) x ↔ if y = x then (match o with
    | some u => ∀ a, u a (d.un i) Z0 (ρ.set i (.at a))
    | none => Z ρ x) else hsZ i d Z ρ r x := Iff.rfl
theorem hsZo_cons {y x : String} {o : Option DS} {r : List (String × Option DS)} : hsZo d Z ρ ((y, o) :: r) x ↔ if y = x then (match o with
    | some u => u d Z0 ρ
    | none => Z ρ x) else hsZo d Z ρ r x := Iff.rfl
end
end DL
set_option maxRecDepth 100000
set_option maxHeartbeats 4000000
/-! DLU: insert, pop, list repetition. -/
namespace DL
open PySem PySem.Spec PyProof.Rows L2
variable {T : List (Addr × Str)}
theorem DqA.ins {F : Hp} {xs : List V} {ds : List D} {v : V} {d : D} (q : DqA F xs ds) (r : Dq F v d) (n : Nat) : DqA F (xs.take n ++ [v] ++ xs.drop n) (ds.take n ++ [d] ++ ds.drop n) := ((q.take n).append (.cons r .nil)).append (q.drop n)
section
variable {X : Cx} {W : WT} {rm : Md} {pos : Pos} {e e2 : Expr} {x : Str} {p0 apos cpos : Pos} {t t2 : DT}
/-- xs.insert(k, e), k not below 0 -/
def dIns (i : Nat) (tk t : DT) : DS := fun d Z ρ => ∃ ds, ρ[i]? = some (.ow (.list ds)) ∧ ds.length ≤ 100000 ∧ tk ρ (fun k => t ρ (fun y => ∃ n : Int, k = .int n ∧ 0 ≤ n ∧ n < 2 ^ 63 ∧ d.nx (ρ.set i (.ow (.list (ds.take n.toNat ++ [y] ++ ds.drop n.toNat))))) Z) Z
theorem ds_ins (i : Nat) (hx : PE X (.Name x p0) (tVar i)) (hk : DE X W .fz e t) (h : DE X W .fz e2 t2) (hs0 : swapsWith (.Call (.Attribute (.Name x p0) "insert" apos) [e, e2] [] cpos) none pos.line X.env = pure false := by rfl)
    (hbase : attributeBase (.Name x p0) "insert" X.env (eval (.Name x p0) X.env) = eval (.Name x p0) X.env := by rfl)
    (hfew : ((backTo cpos (starEach (e :: [e2]) X.env)).all (fun x => !x.1) && (backToKw cpos (keywordEach [] X.env)).all (fun x => x.1.isSome)
      && decide ((e :: [e2]).length + ([] : List Keyword).length + (if ([] : List Keyword).isEmpty then 0 else 1) < 30)) = true := by rfl)
    (hline : (apos.endLine == cpos.line) = true := by rfl) (hs : starEach (e :: [e2]) X.env = (false, eval e X.env) :: starEach [e2] X.env := by rfl) (hs2 : starEach (e2 :: []) X.env = (false, eval e2 X.env) :: starEach [] X.env := by rfl) (hplain : (backTo cpos (starEach [e2] X.env)).any (·.1) = false := by rfl) :
    DS1 X W rm (.Expr (.Call (.Attribute (.Name x p0) "insert" apos) [e, e2] [] cpos) pos) (dIns i t t2) := by
  obtain ⟨te, p, s⟩ := hk.ok
  obtain ⟨te2, p2, s2⟩ := h.ok
  refine ⟨_, ps_expr (pe_bm PySem.F.plainAttrs_list PySem.F.slot_list_insert PySem.F.type_list_insert mt_insert hx (pa_cons p (pa_cons p2 pa_nil hs2) hs) hbase hfew hline hs hplain) hs0, fun b F H σ ρ D d Z R z q c => ?_⟩
  obtain ⟨ds, e1, hl, q⟩ := q
  obtain ⟨a, es, n, n2, xs, hH, hq⟩ := R.ow e1 rfl
  refine ⟨.ref a, es, .inl ⟨rfl, _, SqL.of hH⟩, s b F H σ ρ _ _ Z R z q fun k v F1 H1 p1 g r f => s2 b F1 H1 σ ρ _ _ Z (R.grow g) (z.mono g.f) p1 fun y v2 F2 H2 p2 g2 r2 f2 => ?_⟩
  obtain ⟨m, rfl, h0, h1, p2⟩ := p2
  cases r
  have g3 := g.trans g2
  refine ⟨a, xs, m, v2, rfl, rfl, g3.h.ap hH, by rw [hq.length]; exact lt5 hl, h0, h1, ?_⟩
  exact c.nx _ F2 _ σ g3.f ((R.grow g3).write e1 es (own_mkL upd_same ((hq.mono g3.f).ins r2 m.toNat))) p2
theorem e_ins {i : Nat} {tk t : DT} {d : DEnds} {Z : Zs} {ρ : List Sl} : dIns i tk t d Z ρ ↔ ∃ ds, ρ[i]? = some (.ow (.list ds)) ∧ ds.length ≤ 100000 ∧ tk ρ (fun k => t ρ (fun y => ∃ n : Int, k = .int n ∧ 0 ≤ n ∧ n < 2 ^ 63 ∧ d.nx (ρ.set i (.ow (.list (ds.take n.toNat ++ [y] ++ ds.drop n.toNat))))) Z) Z := Iff.rfl
end
/-! [e] * n -/
section
variable {K : PySem.W.Frag} {mb : Md}
def repD : D → D → (D → Prop) → Prop := fun x y P => ∃ ds n, x = .list ds ∧ y = .int n ∧ -(2 ^ 63) ≤ n ∧ n < 2 ^ 63 ∧ ds.length * n.toNat ≤ 100000 ∧ P (.list (List.replicate n.toNat ds).flatten)
theorem DqA.rep {F : Hp} {xs : List V} {ds : List D} (q : DqA F xs ds) : ∀ n : Nat, DqA F (List.replicate n xs).flatten (List.replicate n ds).flatten
  | 0 => .nil
  | n + 1 => by
    rw [List.replicate_succ, List.replicate_succ, List.flatten_cons, List.flatten_cons]
    exact q.append (q.rep n)
theorem r2_rep (hb : mb.sh = true := by rfl) : R2ok K .fz mb .nw rRep repD := fun b F H x y dx dy Q P g0 rx ry h k => by
  obtain ⟨ds, n, rfl, rfl, h1, h2, h3, p⟩ := h
  cases rx with
  | lst e1 q1 =>
    rename_i a1 xs
    refine ⟨_, n, xs, rfl, vr_int (ry.rd hb g0), g0.s _ _ e1, h1, h2, by rw [q1.length]; exact sz5 h3, fun a na => ?_⟩
    have g2 := Grow.own g0 (HO.lst (List.replicate n.toNat xs).flatten) na
    exact k _ _ _ _ p g2 (.inl ⟨a, rfl, g0.s.free na, own_mkL upd_same (q1.rep n.toNat)⟩) fun q e => by cases e; exact nn_of na
theorem x_rep {ds : List D} {n : Int} {P : D → Prop} : repD (.list ds) (.int n) P ↔ -(2 ^ 63) ≤ n ∧ n < 2 ^ 63 ∧ ds.length * n.toNat ≤ 100000 ∧ P (.list (List.replicate n.toNat ds).flatten) := ⟨fun ⟨a, m, h1, h2, h⟩ => by cases h1; cases h2; exact h, fun h => ⟨ds, n, rfl, rfl, h⟩⟩
end
end DL
set_option maxRecDepth 100000
set_option maxHeartbeats 4000000
/-! DLV: xs[::-1] of lists and tuples. -/
namespace DL
open PySem PySem.Spec PyProof.Rows L2 HT
variable {T : List (Addr × Str)}
section
variable {prog : Program} {w : World} {A : Around} {E : Value → Shared → Prop} {s : Shared}
theorem sliceApplied_rev {sl : Addr} {u : Tok} {n : Nat} {Q : Int × Int × Nat → Shared → Prop} (hs : s.heap.IsSliceOf sl .none .none (.int (-1) u))
    (h : Q ((n : Int) - 1, -1, n) s) : wpAny (model prog w) A (Builtin.Slice.sliceApplied (.ref sl) (pure (n : Int))) Q E s := by
  obtain ⟨os, hos, hcs, hds⟩ := id hs
  unfold Builtin.Slice.sliceApplied Builtin.Slice.sliceFields
  refine wpAny_bind (wpAny_bind (wpAny_field hos hds (x := .none) rfl (wpAny_bind (wpAny_field hos hds (x := .none) rfl (wpAny_bind (wpAny_field hos hds (x := .int (-1) u) rfl (wpAny_pure ?_)))))))
  refine wpAny_bind (slicePart_int ?_)
  show wpAny _ _ (if ((-1 : Int) == 0) = true then _ else _) _ _ s
  rw [if_neg (by decide)]
  refine wpAny_bind (slicePart_none (wpAny_bind (slicePart_none (wpAny_bind (wpAny_pure ?_)))))
  have e1 : Builtin.Slice.sliceAdjust none none (-1) (n : Int) = ((n : Int) - 1, -1) := by
    unfold Builtin.Slice.sliceAdjust
    first | rfl | simp
  have e2 : Builtin.Slice.slicePlaces ((n : Int) - 1) (-1) (-1) = n := by
    unfold Builtin.Slice.slicePlaces
    have h1 : ¬ ((-1 : Int) > 0) := by omega
    simp only [h1, if_false]
    have h2 : ((n : Int) - 1 - -1 - 1) / (- -1) = (n : Int) - 1 := by
      rw [show (- -1 : Int) = 1 by decide, Int.ediv_one]
      omega
    first
      | (rw [h2]; split <;> omega)
      | (split <;> (try rw [h2]) <;> omega)
      | skip
  show wpAny _ _ (match Builtin.Slice.sliceAdjust none none (-1) (n : Int) with | (lo, hi) => pure (lo, (-1 : Int), Builtin.Slice.slicePlaces lo hi (-1))) _ _ s
  rw [e1]
  show wpAny _ _ (pure ((n : Int) - 1, (-1 : Int), Builtin.Slice.slicePlaces ((n : Int) - 1) (-1) (-1))) _ _ s
  rw [e2]
  exact wpAny_pure h
theorem fm_congr {α β : Type} {f g : α → Option β} : ∀ {l : List α}, (∀ x ∈ l, f x = g x) → l.filterMap f = l.filterMap g
  | [], _ => rfl
  | a :: l, h => by
    rw [List.filterMap_cons, List.filterMap_cons, h a (.head _), fm_congr fun x hx => h x (.tail _ hx)]
theorem pick_rev (xs : Array Value) : ((List.range xs.size).filterMap fun (m : Nat) => xs[(((xs.size : Int) - 1) + (m : Int) * (-1)).toNat]?).toArray = xs.toList.reverse.toArray := by
  have e : (List.range xs.size).filterMap (fun (m : Nat) => xs[(((xs.size : Int) - 1) + (m : Int) * (-1)).toNat]?) = ((List.range xs.size).map fun k => xs.size - 1 - k).filterMap (xs[·]?) := by
    rw [List.filterMap_map]
    refine fm_congr fun k hk => ?_
    have := List.mem_range.mp hk
    have e0 : (((xs.size : Int) - 1) + (k : Int) * (-1)).toNat = xs.size - 1 - k := by omega
    show xs[_]? = xs[_]?
    rw [e0]
  rw [e, PySem.W.krv_range, List.filterMap_reverse, PySem.W.krv_all]
theorem getItem_tuple_rev {t sl : Addr} {items : Array Value} {u : Tok} {Q : Value → Shared → Prop} (ht : IsTup s.heap t items) (hs : s.heap.IsSliceOf sl .none .none (.int (-1) u))
    (h : Q (.ref s.heap.objs.size) { s with heap := s.heap.push { cls := .type "tuple", data := .seq items.toList.reverse.toArray } })
    (hsz : items.size ≤ sizeLine) : wpAny (model prog w) A (getItem (.ref t) (.ref sl)) Q E s := by
  have htake : sizeOk (.seq items.toList.reverse.toArray) := by
    show (items.toList.reverse.toArray).size ≤ sizeLine
    rw [List.size_toArray, List.length_reverse, Array.length_toList]
    omega
  obtain ⟨os, hos, hcs, hds⟩ := id hs
  have hTs : s.TypeIs (.ref sl) "slice" := ⟨os, hos, hcs⟩
  unfold getItem
  try with_reducible refine wpAny_holding ?_
  first | refine wpAny_bind (wpAny_pure ?_) | skip
  refine wpAny_bind (wpAny_sequenceKey ht.typeIs (by decide) ?_)
  refine wpAny_bind (wpAny_callSpecial?_slot (name := Str.ofString "__getitem__") ht.typeIs PyProof.Rows.slot_tuple_getitem
    (wpAny_call_entry PyProof.Rows.slot_tuple_getitem ht.typeIs entry_tuple_getitem ?_ (args_tuple_getitem _ _)))
  show wpAny _ _ (Builtin.Tuple.tupleItemsOf (.ref t) >>= _) _ _ s
  refine wpAny_bind (tupleItemsOf_ ht ?_)
  refine wpAny_bind (wpAny_typeOf hTs ?_)
  rw [if_pos (by decide)]
  refine wpAny_bind (sliceApplied_rev hs ?_)
  have hno : ¬ ((((items.size : Int) - 1) == 0 && (-1 : Int) == 1 && items.size == items.size) = true) := by
    intro q
    rw [Bool.and_eq_true, Bool.and_eq_true] at q
    exact absurd q.1.2 (by decide)
  show wpAny _ _ (if (((items.size : Int) - 1) == 0 && (-1 : Int) == 1 && items.size == items.size) = true then _ else _) _ _ s
  rw [if_neg hno, pick_rev]
  first
    | exact wpAny_bind (m := Builtin.Tuple.tupleExact _) (wpAny_newObj_type (wpAny_pure ⟨_, rfl, wpAny_pure h⟩) htake)
    | exact wpAny_bind (m := Builtin.Tuple.tupleExact _) (wpAny_newObj_type (wpAny_bind (wpAny_pure (wpAny_pure ⟨_, rfl, wpAny_pure h⟩))) htake)
    | exact wpAny_bind (wpAny_bind (m := Builtin.Tuple.tupleExact _) (wpAny_newObj_type (wpAny_pure (wpAny_pure ⟨_, rfl, wpAny_pure h⟩)) htake))
    | exact wpAny_bind (wpAny_bind (m := Builtin.Tuple.tupleExact _) (wpAny_newObj_type (wpAny_pure ⟨_, rfl, wpAny_pure h⟩) htake))
end
section
variable {X : Cx} {W : WT} {m : Md} {pos p3 p2 p1 : Pos} {k1 : Nat}
def tRevA (K : PySem.W.Frag) (te : TE) : TE := fun σ H Q => te σ H fun x H1 => ∃ a xs, x = .ref a ∧ ((SqL K H1 a xs ∧ ∀ p, H1 p = none → Q (.ref p) (upd H1 p (.lst xs.reverse))) ∨ (SqT K H1 a xs ∧ ∀ p, H1 p = none → Q (.ref p) (upd H1 p (.tup xs.reverse))))
theorem pe_revA {e : Expr} {te : TE} (he : PE X e te) : PE X (.Subscript e (.Slice none none (some (.UnaryOp .USub (.Constant (.int 1) k1 p1) p2)) p3) pos) (tRevA X.K te) := by
  refine ⟨fun pins s σ H Q I h => ?_⟩
  refine Subscript_ (thn (he.run pins s σ H _ I h) fun v s1 ⟨x, H1, I1, r1, q1⟩ => ?_)
  obtain ⟨a, xs, ex, hx⟩ := q1
  subst ex
  cases r1
  have hst : PO X (some (.UnaryOp .USub (.Constant (.int 1) k1 p1) p2)) (tPart (tUn (rU fun i => .int (-i)) (tC (.int 1)))) := po_some (pe_un un_neg pe_int)
  refine wpAny_Slice (thn (po_none.run pins s1 σ H1 (fun o H2 => o = none ∧ H2 = H1) I1 ⟨rfl, rfl⟩) fun vl s2 ⟨l, H2, I2, pl, el, e2⟩ => ?_)
  subst el e2
  refine thn (po_none.run pins s2 σ H2 (fun o H3 => o = none ∧ H3 = H2) I2 ⟨rfl, rfl⟩) fun vu s3 ⟨u, H3, I3, pu, eu, e3⟩ => ?_
  subst eu e3
  refine thn (hst.run pins s3 σ H3 (fun o H4 => o = some (-1) ∧ H4 = H3) I3 ⟨1, rfl, -1, rfl, rfl, rfl⟩) fun vs s4 ⟨o, H4, I4, ps, eo, e4⟩ => ?_
  subst eo e4
  have I5 : Inv X pins σ H4 { s4 with heap := s4.heap.push { cls := .type "slice", data := .fields #[vl, vu, vs] } } := I4.kept (t' := s4.toks) fun b ob q => Heap.get?_push_of_some _ q
  rcases hx with ⟨hx, q⟩ | ⟨hx, q⟩
  · obtain ⟨its, r, ht, hz⟩ := I5.list hx
    have hlen := r.length
    show wpAny (model X.prog X.w) X.A (subscriptTail e (.Slice none none (some (.UnaryOp .USub (.Constant (.int 1) k1 p1) p2)) p3) (.ref a) (.ref s4.heap.objs.size)) (EP X pins σ Q) X.xe { s4 with heap := s4.heap.push { cls := .type "slice", data := .fields #[vl, vu, vs] } }
    refine tail_any (ops := [.ref a, .ref s4.heap.objs.size]) ht.isList.typeIs (PySem.slot_list_getitem.lookup) ?_ (by with_unfolding_all rfl)
    refine wpAny_getItem_list_slice ht.isList (Heap.IsSliceOf.new _ vl vu vs) pl pu ps (by decide) ?_ (by rw [List.size_toArray]; omega)
    rw [PySem.W.krv_pick]
    refine ⟨.ref _, _, I5.laid (t' := s4.toks) (o := .lst xs.reverse) (fun b ob q => Heap.get?_push_of_some _ q) (Nat.le_refl _) ?_, rfl, q _ (I5.hok.fresh (Nat.le_refl _))⟩
    exact ⟨by rw [List.length_reverse]; exact hz, _, 0, r.reverse, Heap.get?_push_size _ rfl⟩
  · cases pl
    cases pu
    cases ps with
    | int i t =>
      obtain ⟨its, r, ht, hz⟩ := I5.tuple hx
      have hlen := r.length
      show wpAny (model X.prog X.w) X.A (subscriptTail e (.Slice none none (some (.UnaryOp .USub (.Constant (.int 1) k1 p1) p2)) p3) (.ref a) (.ref s4.heap.objs.size)) (EP X pins σ Q) X.xe { s4 with heap := s4.heap.push { cls := .type "slice", data := .fields #[.none, .none, .int (-1) t] } }
      refine tail_any (ops := [.ref a, .ref s4.heap.objs.size]) ht.typeIs (PyProof.Rows.slot_tuple_getitem.lookup) ?_ (by with_unfolding_all rfl)
      refine getItem_tuple_rev ht (Heap.IsSliceOf.new _ _ _ _) ?_ (by rw [List.size_toArray]; omega)
      refine ⟨.ref _, _, I5.laid (t' := s4.toks) (o := .tup xs.reverse) (fun b ob q => Heap.get?_push_of_some _ q) (Nat.le_refl _) ?_, rfl, q _ (I5.hok.fresh (Nat.le_refl _))⟩
      exact ⟨by rw [List.length_reverse]; exact hz, _, r.reverse, IsTup.new _ _⟩
def revR (x : D) (P : D → Prop) : Prop := match x with
  | .list ds => P (.list ds.reverse)
  | .tuple ds => P (.tuple ds.reverse)
  | _ => False
def dRevS (t : DT) : DT := fun ρ P Z => t ρ (fun x => revR x P) Z
theorem DqA.rev {F : Hp} : ∀ {xs : List V} {ds : List D}, DqA F xs ds → DqA F xs.reverse ds.reverse
  | _, _, .nil => .nil
  | _, _, .cons r q => by
    rw [List.reverse_cons, List.reverse_cons]
    exact (DqA.rev q).append (.cons r .nil)
theorem de_revS {e : Expr} {t : DT} (h : DE X W m e t) (hsh : m.sh = true := by rfl) : DE X W .fz (.Subscript e (.Slice none none (some (.UnaryOp .USub (.Constant (.int 1) k1 p1) p2)) p3) pos) (dRevS t) := by
  obtain ⟨te, p, s⟩ := h.ok
  refine ⟨_, pe_revA p, fun b F H σ ρ Q P Z R z q k => s b F H σ ρ _ _ Z R z q fun x v F1 H1 q1 g1 r _ => ?_⟩
  have g0 := R.g.trans g1
  have r3 := r.rd hsh g0
  cases x with
  | list ds =>
    obtain ⟨a, xs, rfl, sq, dq⟩ := vr_lst g0.s r3
    refine ⟨a, xs, rfl, .inl ⟨sq, fun p np => ?_⟩⟩
    have g4 := Grow.new g0 (HO.lst xs.reverse) np
    exact k _ _ _ _ q1 (g1.trans g4) (Dq.lst upd_same ((DqA.rev dq).mono g4.f)) trivial
  | tuple ds =>
    obtain ⟨a, xs, rfl, sq, dq⟩ := vr_tup g0.s r3
    refine ⟨a, xs, rfl, .inr ⟨sq, fun p np => ?_⟩⟩
    have g4 := Grow.new g0 (HO.tup xs.reverse) np
    exact k _ _ _ _ q1 (g1.trans g4) (Dq.tup upd_same ((DqA.rev dq).mono g4.f)) trivial
  | _ => exact q1.elim
end
theorem x_is {neg : Bool} {x : D} {P : D → Prop} : isR neg x .none P ↔ P (.bool (isN x ^^ neg)) := ⟨fun h => by
  rcases h with h | ⟨a, b, _, h, _⟩
  · exact h.2
  · exact (nomatch h), fun h => .inl ⟨rfl, h⟩⟩
theorem x_isB {neg a b : Bool} {P : D → Prop} : isR neg (.bool a) (.bool b) P ↔ P (.bool (decide (a = b) ^^ neg)) := ⟨fun h => by
  rcases h with h | ⟨a, b, h1, h2, h⟩
  · exact nomatch h.1
  · cases h1
    cases h2
    exact h, fun h => .inr ⟨a, b, rfl, rfl, h⟩⟩
theorem e_revS {t : DT} {ρ : List Sl} {P : D → Prop} {Z : Zs} : dRevS t ρ P Z ↔ t ρ (fun x => revR x P) Z := Iff.rfl
end DL
set_option maxRecDepth 100000
set_option maxHeartbeats 4000000
/-! DLW: sorted(.., key=lambda v: (-x[v], v)). -/
namespace DL
open PySem PySem.Spec PyProof.Rows L2 LamX

/-- the items of the list or tuple at a -/
def ItsAt (h : Heap) (a : Addr) (its : List Value) : Prop := h.IsList a its.toArray ∨ IsTup h a its.toArray
theorem ItsAt.keeps {h h' : Heap} {a : Addr} {its : List Value} (x : ItsAt h a its) (hk : ∀ b o, h.get? b = some o → h'.get? b = some o) : ItsAt h' a its := by
  rcases x with ⟨o, e, r⟩ | ⟨o, e, r⟩
  · exact .inl ⟨o, hk _ _ e, r⟩
  · exact .inr ⟨o, hk _ _ e, r⟩
/-- a key's first part: 0 - x[v] or -x[v] -/
inductive KeyE (x v : Str) : Expr → Prop
  | sub {p0 p1 p2 p3 p4 : Pos} {j : Nat} : KeyE x v (.BinOp (.Constant (.int 0) j p0) .Sub (.Subscript (.Name x p1) (.Name v p2) p3) p4)
  | neg {p1 p2 p3 p4 : Pos} : KeyE x v (.UnaryOp .USub (.Subscript (.Name x p1) (.Name v p2) p3) p4)
section
variable {prog : Program} {w : World} {A : Around} {E : Value → Shared → Prop} {s : Shared} {env : Env} {x v : Str} {c a : Addr} {its : List Value} {i k : Int} {t u : Tok} {m : Str → Option Value} {Q : Value → Shared → Prop}
theorem item_run {p1 p2 p3 : Pos} (hk : env.scope.kind = .function) (hx : env.kindOf x = some .free) (hc : env.cells.lookup x = some c) (hcell : s.heap.IsCell c (some (.ref a))) (hv : env.kindOf v = some .local) (hn : s.heap.Ns env.locals m) (hm : m v = some (.int i t))
    (hi : ItsAt s.heap a its) (h0 : 0 ≤ i) (hl : its.length ≤ sizeLine) (hx2 : its[i.toNat]? = some (.int k u)) (hdx : (x == ("__debug__" : Str)) = false) (hcx : (x == ("__classdict__" : Str)) = false) (hdv : (v == ("__debug__" : Str)) = false) (h : Q (.int k u) s) :
    wpAny (model prog w) A (eval (.Subscript (.Name x p1) (.Name v p2) p3) env) Q E s := by
  refine Subscript_ (wpAny_Name (wpAny_loadName_free hk hx hc hcell (wpAny_Name (wpAny_loadName_local hk hv hn hm ?_) hdv) hcx) hdx)
  have hlt : i.toNat < its.length := (List.getElem?_eq_some_iff.mp hx2).1
  have hz := line63
  rcases hi with hi | hi
  · exact item_listR hi h0 (by omega) (by simpa using hx2) h
  · refine subscriptTail_builtinR (x := .int k u) hi.typeIs slot_tuple_getitem.lookup (getItem_tuple (j := i.toNat) (Q := fun r s' => r = _ ∧ Q r s') hi (by omega) (by omega) ?_ (by simpa using hx2) ⟨rfl, h⟩)
    exact seqIndex_of h0 (by rw [List.size_toArray]; omega)
theorem key_run {e1 : Expr} {p5 p6 : Pos} {l1} (he : KeyE x v e1) (hk : env.scope.kind = .function) (hx : env.kindOf x = some .free) (hc : env.cells.lookup x = some c) (hcell : s.heap.IsCell c (some (.ref a))) (hv : env.kindOf v = some .local) (hn : s.heap.Ns env.locals m) (hm : m v = some (.int i t))
    (hi : ItsAt s.heap a its) (h0 : 0 ≤ i) (hl : its.length ≤ sizeLine) (hx2 : its[i.toNat]? = some (.int k u)) (hdx : (x == ("__debug__" : Str)) = false) (hcx : (x == ("__classdict__" : Str)) = false) (hdv : (v == ("__debug__" : Str)) = false)
    (h : ∀ (tk : Nat) (tv : Tok), Q (.ref s.heap.objs.size) { s with heap := s.heap.push { cls := .type "tuple", data := .seq [Value.int (-k) tv, .int i t].toArray }, toks := tk }) :
    wpAny (model prog w) A (eval (.Tuple [e1, .Name v p5] l1 p6) env) Q E s := by
  have fin : ∀ (tk : Nat) (tv : Tok), wpAny (model prog w) A (spliced (backTo p6 (starEach [.Name v p5] env))) (fun vs s₂ => (Value.int (-k) tv :: vs).length ≤ sizeLine ∧ Q (.ref s₂.heap.objs.size) { s₂ with heap := s₂.heap.push { cls := .type "tuple", data := .seq (Value.int (-k) tv :: vs).toArray } }) E { s with toks := tk } := fun tk tv => by
    show wpAny _ _ (spliced ((false, eval (.Name v p5) env) :: backTo p6 (starEach [] env))) _ _ _
    refine Calls.spliced_cons (wpAny_Name (wpAny_loadName_local hk hv hn hm ?_) hdv)
    exact Calls.spliced_nil ⟨by show 2 ≤ sizeLine; rw [sizeLine_eq]; omega, h tk tv⟩
  refine wpAny_Tuple_spliced ?_
  cases he with
  | sub =>
    refine Calls.spliced_cons (wpAny_BinOp (wpAny_Constant_int ?_))
    refine item_run (s := { s with toks := s.toks + 1 }) hk hx hc hcell hv hn hm hi h0 hl hx2 hdx hcx hdv ?_
    refine PySem.P.sub_int ?_
    rw [Int.zero_sub]
    exact fin _ _
  | neg =>
    refine Calls.spliced_cons (UnaryOp_ ?_)
    refine item_run hk hx hc hcell hv hn hm hi h0 hl hx2 hdx hcx hdv ?_
    exact PySem.P.neg_int (fin _ _)
end
section
variable {prog : Program} {w : World} {A : Around} {E : Value → Shared → Prop} {s : Shared}
/-- a lambda of one parameter, called: its key -/
theorem key_call {e1 : Expr} {p5 p6 : Pos} {l1 : Nat} {x v q : Str} {params : Arguments} {scope : Scope} {cl : List (Str × Addr)} {pm ctv : Value} {f c' c a : Addr} {its : List Value} {i k : Int} {t u : Tok}
    (he : KeyE x v e1) (hf : s.heap.get? f = some (PySem.W.kla_obj "<lambda>" q params (.Tuple [e1, .Name v p5] l1 p6) scope cl pm c' ctv)) (hcd : ∃ (oc : Obj) (vs : Array Value) (t : Tok), s.heap.get? c' = some oc ∧ oc.data = .fields vs ∧ vs[1]? = some (.str q t))
    (hbind : ∀ u : Value, bindArgs (PySem.W.kla_fn "<lambda>" q params (.Tuple [e1, .Name v p5] l1 p6) scope cl pm (.ref c') ctv) ⟨[u], []⟩ = pure [(v, u)])
    (hdep : A.depth < recursionLimit) (lim : s.heap.NoLimit) (hk : scope.kind = .function) (hco : scope.isCoroutine = false) (hgen : scope.isGenerator = false) (hnc : ∀ y ∈ scope.names, y.2 ≠ .cell)
    (hx : scope.names.lookup x = some .free) (hc : cl.lookup x = some c) (hcell : s.heap.IsCell c (some (.ref a))) (hv : scope.names.lookup v = some .local) (hi : ItsAt s.heap a its) (h0 : 0 ≤ i) (hl : its.length ≤ sizeLine) (hx2 : its[i.toNat]? = some (.int k u))
    (hdx : (x == ("__debug__" : Str)) = false) (hcx : (x == ("__classdict__" : Str)) = false) (hdv : (v == ("__debug__" : Str)) = false) :
    wpAny (model prog w) A (call (.ref f) [.int i t]) (PySem.W.KeyPure (.tuple [.int (-k), .int i]) s) E s := by
  refine wpAny_call ?_
  obtain ⟨oc, vs, tq, hoc, hdc, hvc⟩ := hcd
  refine PySem.W.kla_callFunE hdep hf rfl hco hgen rfl ⟨c', oc, vs, tq, rfl, hoc, hdc, hvc⟩ ?_
  rw [hbind]
  refine wpAny_pure (wpAny_newFunctionEnv hnc (fun y hy => ?_) (fun h₁ hns hsb => ⟨lim.fresh _ hsb, ?_⟩) hk)
  · rw [List.mem_singleton] at hy
    subst hy
    exact hv
  · have kp : ∀ b o, s.heap.get? b = some o → h₁.get? b = some o := fun b o e => hsb.extBut b o (Nat.ne_of_lt (Heap.lt_size e)) (Heap.get?_push_of_some _ e)
    refine PySem.W.kla_codeExpr ?_
    refine key_run (c := c) (a := a) (its := its) (i := i) (k := k) (t := t) (u := u) he hk hx hc (hcell.keeps kp) hv hns ?_ (hi.keeps kp) h0 hl hx2 hdx hcx hdv fun tk tv => ?_
    · first | rfl | simp
    · refine ⟨_, _, rfl, fun b o e => Heap.get?_push_of_some _ (kp b o e), ?_⟩
      exact .tuple (Heap.get?_push_size _ rfl) rfl rfl (.cons (.int _ _) (.cons (.int _ _) .nil))
/-- sorted(src, key=f): src told by what is collected from it -/
theorem sorted_key_col {β : Type} {R : Value → β → Prop} {bs : List β} {r f : Addr} {Q : Value → Shared → Prop} (k : β → PyData)
    (hcol : ∀ {Q' : List Value → Shared → Prop} {E' : Value → Shared → Prop}, (∀ vs h1 tk1, (∀ b o, s.heap.get? b = some o → h1.get? b = some o) → PySem.W.EachIs R vs bs → Q' vs { s with heap := h1, toks := tk1 }) → wpAny (model prog w) A.in1 (collect (.ref r)) Q' E' s)
    (hal : PySem.W.AllAlike (bs.map k)) (hk : PySem.W.Sortable (bs.map k)) (hL : bs.length ≤ sizeLine) (hu : ∀ x, x ∈ bs → A.units + 2 + (k x).depth < cLine)
    (turn : ∀ (v : Value) (x : β), R v x → x ∈ bs → ∀ (h : Heap) (tk : Nat), (∀ b o, s.heap.get? b = some o → h.get? b = some o) →
      wpAny (model prog w) A.in1.in1 (call (.ref f) [v]) (PySem.W.KeyPure (k x) { s with heap := h, toks := tk }) (fun _ _ => False) { s with heap := h, toks := tk })
    (h : ∀ a out c h' tk, (∀ b o, s.heap.get? b = some o → h'.get? b = some o) → s.heap.get? a = none → h'.get? a = some (seqObj "list" (List.toArray out) c) → PySem.W.EachIs R out (bs.mergeSort (PySem.W.dataLe false k)) → Q (.ref a) { s with heap := h', toks := tk }) :
    wpAny (model prog w) A (call (.builtin "sorted") [.ref r] [(Str.ofString "key", .ref f)]) Q E s := by
  refine call_function_entry_kw kind_sorted plain_sorted entry_sorted (ksk_s1 _ _) ?_
  unfold Builtin.«sorted»
  refine wpAny_bind (m := checkCount "sorted" 1 1 _) (wpAny_pure ?_)
  refine wpAny_bind (hcol fun vs h1 tk1 kp e => ?_)
  have hvl : vs.length ≤ sizeLine := by rw [e.length]; exact hL
  refine wpAny_bind (wpAny_newList ?_ hvl)
  have hsz : s.heap.get? h1.objs.size = none := by
    cases e : s.heap.get? h1.objs.size with
    | none => rfl
    | some o => exact absurd (Heap.lt_size (kp _ _ e)) (Nat.lt_irrefl _)
  refine wpAny_bind (wpAny_holding (PySem.W.list_sort_key_data (b := false) (n := 0) k (Heap.get?_push_size _ rfl) e hal hk hL hu (ksk_l1 _ _) (ksk_t1 _ _) (fun v x hR hx h tk kb => turn v x hR hx h tk fun b o eb => kb b o (Nat.ne_of_lt (Heap.lt_size (kp b o eb))) (Heap.get?_push_of_some _ (kp b o eb))) fun out c h' tk kb hD _ eo => ?_))
  exact wpAny_pure ⟨_, rfl, h _ out c h' tk (fun b o eb => kb b o (Nat.ne_of_lt (Heap.lt_size (kp b o eb))) (Heap.get?_push_of_some _ (kp b o eb))) hsz hD eo⟩
end
section
variable {P : Program} {w : World} {H : Hp} {h h' : Heap} {a : Addr} {o : HO} {fs ex : List Addr}
theorem objOk_there (x : ObjOk P w H h a o) : ∃ u, h.get? a = some u := by
  cases o with
  | lst xs => obtain ⟨_, _, _, _, e⟩ := x; exact ⟨_, e⟩
  | tup xs => obtain ⟨_, _, _, o, e, _⟩ := x; exact ⟨_, e⟩
  | dK kvs => obtain ⟨_, _, _, _, o, _, _, e, _⟩ := x; exact ⟨_, e⟩
  | dT kvs => obtain ⟨_, _, _, _, o, _, _, e, _⟩ := x; exact ⟨_, e⟩
  | set S n => obtain ⟨o, _, _, _, e, _⟩ := x; exact ⟨_, e⟩
  | ins C dx fs => obtain ⟨_, _, _, e, _⟩ := x; exact ⟨_, e⟩
  | own y => obtain ⟨_, e⟩ := x; exact ⟨_, e⟩
  | xd fs => obtain ⟨_, ⟨_, _, _, e, _⟩, _⟩ := x; exact ⟨_, e⟩
  | rng lo hi => obtain ⟨_, _, _, e⟩ := x; exact ⟨_, e⟩
  | frz ob u => obtain ⟨e, _⟩ := x; exact ⟨_, e⟩
  | tbl ps => exact ⟨_, show h.get? a = some _ from x⟩
  | met f y => exact ⟨_, show h.get? a = some _ from x⟩
  | ext φ => obtain ⟨_, ⟨_, e⟩, _⟩ := x; exact ⟨_, e⟩
theorem hok_none (x : HOk P w H h) (hp : h.get? a = none) : H a = none := by
  cases e : H a with
  | none => rfl
  | some o =>
    obtain ⟨u, q⟩ := objOk_there (x a o e)
    rw [hp] at q
    cases q
theorem un_laidN (k : ∀ b u, h.get? b = some u → h'.get? b = some u) (hp : h.get? a = none) (hn : H a = none) : Un fs ex H (upd H a o) h h' where
  keep := fun b u q _ _ _ => k b u q
  slot := fun b u q _ _ _ => ⟨u.slots, k b u q⟩
  free := fun b u q n _ => by rw [upd_ne (fun z => by rw [z, hp] at q; cases q)]; exact n
  there := fun b u q _ => ⟨u, k b u q⟩
  tups := fun b xs q => by rw [upd_ne (ne_of_none q hn)]; exact q
  frzs := fun b u xs q => by rw [upd_ne (ne_of_none q hn)]; exact q
  tbls := fun b ps q => ⟨#[], by rw [upd_ne (ne_of_none q hn), q]; simp⟩
theorem hok_laidN (x : HOk P w H h) (k : ∀ b u, h.get? b = some u → h'.get? b = some u) (hp : h.get? a = none) (new : ObjOk P w (upd H a o) h' a o) : HOk P w (upd H a o) h' := fun b u e => by
  have hn := hok_none x hp
  by_cases hb : b = a
  · subst hb; rw [upd_same] at e; cases e; exact new
  · rw [upd_ne hb] at e
    exact (x b u e).stay (fun c v _ q => k c v q) (fun c q => by rw [upd_ne (ne_of_none q hn)]; exact q) fun c xs q => by rw [upd_ne (ne_of_none q hn)]; exact q
end
theorem inv_laidN {X : Cx} {pins : List (Addr × Obj)} {σ : L2.St} {H : Hp} {s : Shared} {h' : Heap} {a : Addr} {o : HO} {t' : Nat} (I : Inv X pins σ H s) (k : ∀ b u, s.heap.get? b = some u → h'.get? b = some u) (hp : s.heap.get? a = none) (new : ObjOk X.prog X.w (upd H a o) h' a o) :
    Inv X pins σ (upd H a o) { s with heap := h', toks := t' } := I.un (un_laidN k hp (hok_none I.hok hp)) (hok_laidN I.hok k hp new)
/-! ### the rule over the heap -/
/-- what is sorted: a list of ints, or range(n) -/
def Src (K : PySem.W.Frag) (H : Hp) (r : Addr) (ns : List Int) : Prop := SqL K H r (ns.map V.int) ∨ ∃ n : Nat, H r = some (.rng 0 n) ∧ n ≤ 100000 ∧ ns = (List.range n).map fun i => ((i : Nat) : Int)
theorem rd_ext {H H' : Hp} {a : Addr} {u : HO} (e : ExtN H H') (hn : ∀ ps, u ≠ .tbl ps) (r : Rd H a u) : Rd H' a u := by
  rcases r with r | ⟨o, r⟩
  · exact .inl (e _ _ r hn)
  · exact .inr ⟨o, e _ _ r (fun ps z => by cases z)⟩
theorem sqL_ext {K : PySem.W.Frag} {H H' : Hp} {a : Addr} {xs : List V} (e : ExtN H H') (r : SqL K H a xs) : SqL K H' a xs := r.imp (rd_ext e fun ps z => by cases z) id
theorem sqT_ext {K : PySem.W.Frag} {H H' : Hp} {a : Addr} {xs : List V} (e : ExtN H H') (r : SqT K H a xs) : SqT K H' a xs := r.imp (rd_ext e fun ps z => by cases z) id
theorem src_ext {K : PySem.W.Frag} {H H' : Hp} {a : Addr} {ns : List Int} (e : ExtN H H') (r : Src K H a ns) : Src K H' a ns := by
  rcases r with r | ⟨n, r, q⟩
  · exact .inl (sqL_ext e r)
  · exact .inr ⟨n, e _ _ r (fun ps z => by cases z), q⟩
/-- by falling numbers, of equal ones the lesser place first -/
def keyI (ks : List Int) (n : Int) : Int := -(ks.getD n.toNat 0)
def orderI (ks ns : List Int) : List Int := ns.mergeSort fun p q => decide (keyI ks p < keyI ks q ∨ (keyI ks p = keyI ks q ∧ p ≤ q))
def tSrt (K : PySem.W.Frag) (T : List (Addr × Str)) (ix : Nat) (te : TE) : TE := fun σ H Q => te σ H fun vv H1 => ∃ r ns ax ks, vv = .ref r ∧ Src K H1 r ns ∧ Tabs T H1 ∧ σ[ix]? = some (some (.ref ax)) ∧ (SqL K H1 ax (ks.map V.int) ∨ SqT K H1 ax (ks.map V.int)) ∧ (∀ n ∈ ns, 0 ≤ n ∧ n < ks.length) ∧ ns.length ≤ 100000 ∧
  ∀ H2, ExtN H1 H2 → Tabs T H2 → ∀ p, H2 p = none → Q (.ref p) (upd H2 p (.lst ((orderI ks ns).map V.int)))
/-- one parameter v, x captured, else globals -/
structure LamP (sc scope : Scope) (x v : Str) : Prop where
  kind : scope.kind = .function
  co : scope.isCoroutine = false
  gen : scope.isGenerator = false
  own : ∀ y ∈ scope.names, y.2 ≠ .cell
  free : ∀ y ∈ scope.names, y.2 = .free → sc.names.lookup y.1 = some .cell ∨ sc.names.lookup y.1 = some .free
  hx : scope.names.lookup x = some .free
  hv : scope.names.lookup v = some .local
def lamPB (sc scope : Scope) (x v : Str) : Bool :=
  decide (scope.kind = .function) && !scope.isCoroutine && !scope.isGenerator && (scope.names.all fun y => !decide (y.2 = .cell) && (!decide (y.2 = .free) || decide (sc.names.lookup y.1 = some .cell) || decide (sc.names.lookup y.1 = some .free))) && decide (scope.names.lookup x = some .free) && decide (scope.names.lookup v = some .local)
theorem lamP_by {sc scope : Scope} {x v : Str} (h : lamPB sc scope x v = true) : LamP sc scope x v := by
  unfold lamPB at h
  simp only [Bool.and_eq_true, Bool.or_eq_true, Bool.not_eq_true', decide_eq_true_eq, decide_eq_false_iff_not, List.all_eq_true] at h
  obtain ⟨⟨⟨⟨⟨h1, h2⟩, h3⟩, h4⟩, h5⟩, h6⟩ := h
  refine ⟨h1, h2, h3, fun y hy => (h4 y hy).1, fun y hy e => ?_, h5, h6⟩
  rcases (h4 y hy).2 with (z | z) | z
  · exact absurd e z
  · exact .inl z
  · exact .inr z
theorem each_ints : ∀ {vs : List Value} {ns : List Int}, IntsAre vs ns → PySem.W.EachIs (fun u (n : Int) => ∃ t : Tok, u = Value.int n t) vs ns
  | _, _, .nil => .nil
  | _, _, .cons n t h => .cons ⟨t, rfl⟩ (each_ints h)
theorem ints_each : ∀ {vs : List Value} {ns : List Int}, PySem.W.EachIs (fun u (n : Int) => ∃ t : Tok, u = Value.int n t) vs ns → IntsAre vs ns
  | _, _, .nil => .nil
  | _, _, .cons ⟨t, e⟩ h => by
    subst e
    exact .cons _ t (ints_each h)
theorem src_collect {X : Cx} {pins : List (Addr × Obj)} {σ : L2.St} {H : Hp} {s : Shared} {r : Addr} {ns : List Int} (I : Inv X pins σ H s) (hh : X.A.handled = none) (S : Src X.K H r ns) (hz : ns.length ≤ sizeLine) {Q' : List Value → Shared → Prop} {E' : Value → Shared → Prop}
    (h : ∀ vs h1 tk1, (∀ b o, s.heap.get? b = some o → h1.get? b = some o) → PySem.W.EachIs (fun u (n : Int) => ∃ t : Tok, u = Value.int n t) vs ns → Q' vs { s with heap := h1, toks := tk1 }) : wpAny (model X.prog X.w) X.A.in1 (collect (.ref r)) Q' E' s := by
  rcases S with S | ⟨n, S, hn, rfl⟩
  · obtain ⟨its, rv, hl, _⟩ := I.list S
    have hi := rv.ints
    refine collect_list hl.isList (h its _ s.toks (fun b o e => ?_) (each_ints hi)) (by rw [hi.length]; exact hz)
    rw [Heap.get?_update_ne _ _ _ _ (Nat.ne_of_lt (Heap.lt_size e))]
    exact Heap.get?_push_of_some _ e
  · obtain ⟨t, u, v, ho⟩ := I.hok r _ S
    refine collect_range (n := n) hh (show IsRange s.heap r 0 n 1 t u v from ho) (small_one (by omega) (by omega) (by omega) (by omega)) (by rw [rangeSize_nat]; omega) (by omega) fun h' tk acc kp hi => ?_
    have e : ((n : Int) - 0).toNat = n := by omega
    have rv := vals_rg (a := 0) (b := n) (by rw [e]; exact hi)
    have e2 : rgV 0 n = ((List.range n).map fun i => ((i : Nat) : Int)).map V.int := by
      unfold rgV
      rw [e, List.map_map]
      refine List.map_congr_left fun i _ => ?_
      show V.int (0 + (i : Int)) = V.int (i : Int)
      rw [Int.zero_add]
    rw [e2] at rv
    exact h _ _ _ kp (each_ints rv.ints)
section
variable {X : Cx} {T : List (Addr × Str)} {te : TE} {ix : Nat} {x v : Str} {src e1 : Expr} {c P : Addr} {params : Arguments} {scope : Scope} {p lpos kpos pos p5 p6 : Pos} {l1 : Nat}
theorem pe_sortLam (he : KeyE x v e1) (hs : PE X src te) (hm : X.mg "sorted" = none) (TB : TabB X.base X.mg c P) (hcode : X.env.code = .ref c) (hmT : (P, X.env.qual ++ "<lambda>") ∈ T) (hu : ∀ q ∈ T, q.1 = P → q.2 = X.env.qual ++ "<lambda>") (hr : Room 1 X.A)
    (L : LamP X.env.scope scope x v) (hdef : defaultsOf params X.env = ([], []))
    (hbind : ∀ (q : Str) (cl : List (Str × Addr)) (pm cv ctv u : Value), bindArgs (PySem.W.kla_fn "<lambda>" q params (.Tuple [e1, .Name v p5] l1 p6) scope cl pm cv ctv) ⟨[u], []⟩ = pure [(v, u)])
    (hN : X.N[ix]? = some x) (hg : Gl X "sorted" := by rfl) (hdx : (x == ("__debug__" : Str)) = false := by decide) (hcx : (x == ("__classdict__" : Str)) = false := by decide) (hdv : (v == ("__debug__" : Str)) = false := by decide)
    (hst : starEach (src :: []) X.env = (false, eval src X.env) :: starEach [] X.env := by rfl) :
    PE X (.Call (.Name "sorted" p) [src] [⟨some "key", .Lambda params (.Tuple [e1, .Name v p5] l1 p6) scope lpos, kpos⟩] pos) (tSrt X.K T ix te) := by
  refine ⟨fun pins s σ H Q I h => ?_⟩
  refine wpAny_Call_Name_kw (ld_blt I hg hm bt_sorted ?_)
  have hbt : backTo pos (starEach (src :: []) X.env) = (false, eval src X.env) :: backTo pos (starEach [] X.env) := by
    rw [hst]
    rfl
  refine PyProof.Rows.callWith_kw ?_ hbt (by rw [hbt]; rfl) (by rfl) (by rfl)
  rw [hbt]
  refine Calls.spliced_cons (thn (hs.run pins s σ H _ I h) fun u1 s1 ⟨vv, H1, I1, r1, q1⟩ => Calls.spliced_nil ?_)
  obtain ⟨r, ns, ax, ks, rfl, hS, hT, hσ, hX, hns, hz, q⟩ := q1
  obtain rfl : u1 = Value.ref r := r1
  show wpAny _ _ (evalAll ((do let v ← eval (.Lambda params (.Tuple [e1, .Name v p5] l1 p6) scope lpos) X.env; standAt pos; pure v) :: (backToKw pos (keywordEach [] X.env)).map (·.2))) _ _ _
  have hfree : ∀ y ∈ scope.names, y.2 = .free → ∃ c, X.env.cells.lookup y.1 = some c := fun y hy e => by
    rcases L.free y hy e with k | k
    · exact I1.ok.has _ (.inl k)
    · exact I1.ok.has _ (.inr k)
  refine wpAny_evalAll_cons (wpAny_bind (lam_make2 I1 TB hcode hmT hu hT hdef hfree fun f c' pm ctv H2 s2 I2 eN T2 hf hfn hfr hco => wpAny_bind (wpAny_standAt (wpAny_pure (wpAny_evalAll_nil ?_)))))
  show wpAny _ _ (call (.builtin "sorted") [.ref r] [(Str.ofString "key", .ref f)]) _ _ _
  have hzl : ns.length ≤ sizeLine := by rw [sizeLine_eq]; omega
  -- what the lambda captured
  obtain ⟨cc, hcc, hcell⟩ : ∃ cc, (cloFrom X.env.cells scope.names []).lookup x = some cc ∧ s2.heap.IsCell cc (some (.ref ax)) := by
    have hxm := PySem.mem_of_lookup L.hx
    obtain ⟨c2, h2⟩ : ∃ c2, (cloFrom X.env.cells scope.names []).lookup x = some c2 := mem_lookup (cloFrom_has (cells := X.env.cells) (acc := []) hxm)
    have c1 : X.env.cells.lookup x = some c2 := by
      rcases cloFrom_mem (PySem.mem_of_lookup h2) with hm' | ⟨h1, h3⟩
      · cases hm'
      · obtain ⟨c4, h4⟩ := hfree _ hxm rfl
        have h4 : X.env.cells.lookup x = some c4 := h4
        rw [h4] at h3 ⊢
        rw [h3]
        rfl
    obtain ⟨m, hn, hl⟩ := I2.loc
    have hvis : Vis X.env.scope x := (L.free _ hxm rfl).elim (fun k => .inr (.inl k)) fun k => .inr (.inr k)
    obtain ⟨u, ru, look⟩ := hl ix x _ hN hσ hvis
    obtain rfl : u = Value.ref ax := ru
    rcases look with ⟨k', _⟩ | ⟨_, c3, e', z⟩
    · have k' : X.env.scope.names.lookup x = some .local := k'
      rcases L.free _ hxm rfl with k2 | k2 <;> rw [show X.env.scope.names.lookup x = _ from k2] at k' <;> cases k'
    · rw [c1] at e'
      cases e'
      exact ⟨_, h2, z⟩
  -- its items
  obtain ⟨its, rv, hits⟩ : ∃ its, Vals (ks.map V.int) its ∧ ItsAt s2.heap ax its := by
    rcases hX with hX | hX
    · obtain ⟨its, rv, hl, _⟩ := I2.list (sqL_ext eN hX)
      exact ⟨its, rv, .inl hl.isList⟩
    · obtain ⟨its, rv, hl, _⟩ := I2.tuple (sqT_ext eN hX)
      exact ⟨its, rv, .inr hl⟩
  obtain ⟨⟨oc, vs, tq, hoc, hdc, hvc⟩, _, _⟩ := I2.hok c' _ hco
  have hitz : its.length ≤ sizeLine := by
    rcases hX with hX | hX
    · obtain ⟨its', rv', _, z⟩ := I2.list (sqL_ext eN hX)
      rw [← rv.length]
      exact z
    · obtain ⟨its', rv', _, z⟩ := I2.tuple (sqT_ext eN hX)
      rw [← rv.length]
      exact z
  refine sorted_key_col (R := fun u (n : Int) => ∃ t : Tok, u = Value.int n t) (bs := ns) (fun n => .tuple [.int (keyI ks n), .int n]) (fun h => src_collect I2 hr.hd (src_ext eN hS) hzl h)
    (PySem.W.AllAlike.of fun _ _ => by simp [PySem.W.alike, PySem.W.alikeAll]) (PySem.W.Sortable.tuples fun _ => ⟨_, _, rfl⟩) hzl (fun n _ => ?_) (fun u n hn hnm h tk kp => ?_) fun a out c2 h' tk kp hnone hD eo => ?_
  · have hd : (PyData.tuple [.int (keyI ks n), .int n]).depth = 1 := by simp [PyData.depth, PyData.depthAll]
    rw [hd]
    have := hr.un
    omega
  · obtain ⟨t, rfl⟩ := hn
    obtain ⟨n0, n1⟩ := hns n hnm
    have hk : ks[n.toNat]? = some (ks.getD n.toNat 0) := by
      rw [List.getD_eq_getElem?_getD, List.getElem?_eq_getElem (by omega)]
      rfl
    obtain ⟨w', ew, rw'⟩ := rv.get (i := n.toNat) (x := V.int (ks.getD n.toNat 0)) (by rw [List.getElem?_map, hk]; rfl)
    obtain ⟨tw, rfl⟩ := rw'
    refine key_call (s := { s2 with heap := h, toks := tk }) (c := cc) (a := ax) (its := its) (u := tw) he (kp _ _ hf) ⟨oc, vs, tq, kp _ _ hoc, hdc, hvc⟩ (fun u => hbind _ _ _ _ _ u) ?_ (I2.nolimit.keeps kp) L.kind L.co L.gen L.own L.hx hcc (hcell.keeps kp) L.hv (hits.keeps kp) n0 hitz ew hdx hcx hdv
    have := hr.dp
    show X.A.depth < recursionLimit
    omega
  · rw [PySem.W.dataLe_ii (β := Int) (fun n => keyI ks n) (fun n => n)] at eo
    have ho : IntsAre out (orderI ks ns) := ints_each eo
    have hlen : (orderI ks ns).length ≤ sizeLine := by
      unfold orderI
      rw [List.length_mergeSort]
      exact hzl
    exact ⟨.ref a, _, inv_laidN (o := .lst ((orderI ks ns).map V.int)) I2 kp hnone ⟨by rw [List.length_map]; exact hlen, out, c2, vals_ints ho, hD⟩, rfl, q H2 eN T2 a (hok_none I2.hok hnone)⟩
end
end DL
set_option maxRecDepth 100000
set_option maxHeartbeats 4000000
/-! DLX: sorted by a lambda, read; defs that make a lambda; the law's end with tables. -/
namespace DL
open PySem PySem.Spec PyProof.Rows L2 LamX
variable {T : List (Addr × Str)}
theorem grow_tab {F0 H0 F H H2 : Hp} (g : Grow T F0 H0 F H) (e : ExtN H H2) (t : Tabs T H2) : ∃ F2, Grow T F H F2 H2 := by
  classical
  let C : Addr → Prop := fun a => Nn H a ∧ ∃ k : List Key, H2 a = some (.tup (k.map kV))
  let F2 : Hp := fun a => if C a then H2 a else F a
  have hin : ∀ {a}, C a → F2 a = H2 a := fun h => if_pos h
  have hout : ∀ {a}, ¬ C a → F2 a = F a := fun h => if_neg h
  have nn : ∀ {a u}, F a = some u → ¬ C a := fun {a u} q c => by
    obtain ⟨ps, z⟩ := c.1 u (g.s a u q)
    subst z
    exact g.n a ps q
  refine ⟨F2, ⟨⟨e, fun _ => t⟩, fun a u q => (hout (nn q)).trans q, fun a u q => ?_, fun a u q n => hout fun c => ?_, fun a ps q => ?_, fun a k q => ?_⟩⟩
  · by_cases c : C a
    · rw [hin c] at q
      exact q
    · rw [hout c] at q
      exact e a u (g.s a u q) fun ps z => by subst z; exact g.n a ps q
  · obtain ⟨ps, z⟩ := c.1 u q
    exact n ps z
  · by_cases c : C a
    · rw [hin c] at q
      obtain ⟨k, z⟩ := c.2
      rw [z] at q
      cases q
    · rw [hout c] at q
      exact g.n a ps q
  · by_cases c : Nn H a
    · rw [hin ⟨c, k, q⟩]
      exact q
    · rw [hout fun z => c z.1]
      have : ∃ u, H a = some u ∧ ∀ ps, u ≠ .tbl ps := Classical.byContradiction fun z => c fun u e2 => Classical.byContradiction fun y => z ⟨u, e2, fun ps x => y ⟨ps, x⟩⟩
      obtain ⟨u, e2, n⟩ := this
      have e3 := e a u e2 n
      rw [q] at e3
      cases e3
      exact g.c a k e2
theorem dqA_intsF {F : Hp} : ∀ ns : List Int, DqA F (ns.map V.int) (ns.map .int)
  | [] => .nil
  | n :: ns => .cons (.int n) (dqA_intsF ns)
/-! range(n) as a thing -/
theorem cr_range1 {X : Cx} : CallR X (.type "range") (fun vs H Q => ∃ n : Nat, vs = [V.int (n : Nat)] ∧ ∀ p, H p = none → Q (.ref p) (upd H p (.rng 0 (n : Nat)))) := by
  intro pins s σ H vs us Q I r h
  obtain ⟨n, rfl, q⟩ := h
  cases r with
  | cons r1 r2 =>
    cases r2
    obtain ⟨t, rfl⟩ := r1
    refine call_range_1 ⟨.ref s.heap.objs.size, upd H s.heap.objs.size (.rng 0 (n : Nat)), I.laid (t' := s.toks + 1 + 1) (fun b o e => Heap.get?_push_of_some _ e) (Nat.le_refl _) ?_, rfl, q _ (I.hok.fresh (Nat.le_refl _))⟩
    exact ⟨s.toks, t, s.toks + 1, Heap.get?_push_size _ rfl⟩
theorem bt_range' : bootBuiltins "range" = some (.type "range") := by decide +kernel
/-! what is read from a slot -/
theorem slot_seq {K : PySem.W.Frag} {b : B} {F H : Hp} {σ : L2.St} {ρ : List Sl} (R : Rep K b F H σ ρ) {i : Nat} {ks : List Int} (h : ρ[i]?.bind Sl.rd = some (.list (ks.map .int)) ∨ ρ[i]?.bind Sl.rd = some (.tuple (ks.map .int))) :
    ∃ a, σ[i]? = some (some (.ref a)) ∧ (SqL K H a (ks.map V.int) ∨ SqT K H a (ks.map V.int)) := by
  have key : ∀ d, ρ[i]?.bind Sl.rd = some d → ∃ v, σ[i]? = some (some v) ∧ VR .rd K b F H v d := fun d e => by
    obtain ⟨s, es, e⟩ := Option.bind_eq_some_iff.mp e
    have q := R.sl i _ es
    cases s with
    | «at» _ => cases e
    | un => cases e
    | tr _ _ => cases e
    | lt _ => cases e
    | ow d' =>
      cases e
      obtain ⟨v, e1, q⟩ := q
      refine ⟨_, e1, ?_⟩
      rcases q with ⟨a, e2, n, n2, o⟩ | q
      · exact .inr ⟨a, e2, o.rdb⟩
      · exact .inl q.dq
    | fz d' =>
      cases e
      obtain ⟨v, e1, q⟩ := q
      exact ⟨v, e1, .inl q⟩
    | ln d' =>
      cases e
      obtain ⟨v, e1, q⟩ := q
      exact ⟨v, e1, q.rd rfl R.g⟩
  rcases h with h | h
  · obtain ⟨v, e1, r⟩ := key _ h
    obtain ⟨a, xs, rfl, sq, dq⟩ := vr_lst R.g.s r
    rw [ints_dq dq] at sq
    exact ⟨a, e1, .inl sq⟩
  · obtain ⟨v, e1, r⟩ := key _ h
    obtain ⟨a, xs, rfl, sq, dq⟩ := vr_tup R.g.s r
    rw [ints_dq dq] at sq
    exact ⟨a, e1, .inr sq⟩
/-- what is needed of a def that makes a lambda: its code object, its table -/
structure TabD (X : Cx) (T : List (Addr × Str)) : Prop where
  ex : ∃ c P, TabB X.base X.mg c P ∧ X.env.code = .ref c ∧ (P, X.env.qual ++ "<lambda>") ∈ T ∧ ∀ q ∈ T, q.1 = P → q.2 = X.env.qual ++ "<lambda>"
def tupR (ix : Nat) (ρ : List Sl) (ks : List Int) : Prop := ρ[ix]?.bind Sl.rd = some (.list (ks.map .int)) ∨ ρ[ix]?.bind Sl.rd = some (.tuple (ks.map .int))
/-- sorted(range(e), key=lambda v: (-x[v], v)), x in slot ix -/
def dSortR (ix : Nat) (t : DT) : DT := fun ρ P Z => t ρ (fun d => ∃ (n : Nat) (ks : List Int), d = .int (n : Nat) ∧ n ≤ 100000 ∧ tupR ix ρ ks ∧ n ≤ ks.length ∧ P (.list ((orderI ks ((List.range n).map fun i => ((i : Nat) : Int))).map .int))) Z
/-- sorted(e, key=lambda v: (-x[v], v)) -/
def dSortL (ix : Nat) (t : DT) : DT := fun ρ P Z => t ρ (fun d => ∃ (ns ks : List Int), d = .list (ns.map .int) ∧ ns.length ≤ 100000 ∧ tupR ix ρ ks ∧ (∀ n ∈ ns, 0 ≤ n ∧ n < ks.length) ∧ P (.list ((orderI ks ns).map .int))) Z
section
variable {X : Cx} {W : WT} {m : Md} {t : DT} {x v : Str} {e e1 : Expr} {params : Arguments} {scope : Scope} {p p2 p3 lpos kpos pos p5 p6 : Pos} {l1 : Nat}
theorem de_sortR (ix : Nat) (he : KeyE x v e1) (h : DE X W m e t) (hm : X.mg "sorted" = none) (hmr : X.mg "range" = none) (TD : TabD X W.T) (hr : Room 1 X.A) (L : LamP X.env.scope scope x v) (hdef : defaultsOf params X.env = ([], []))
    (hbind : ∀ (q : Str) (cl : List (Str × Addr)) (pm cv ctv u : Value), bindArgs (PySem.W.kla_fn "<lambda>" q params (.Tuple [e1, .Name v p5] l1 p6) scope cl pm cv ctv) ⟨[u], []⟩ = pure [(v, u)])
    (hN : X.N[ix]? = some x := by rfl) (hg : Gl X "sorted" := by rfl) (hgr : Gl X "range" := by rfl) (hdx : (x == ("__debug__" : Str)) = false := by decide) (hcx : (x == ("__classdict__" : Str)) = false := by decide) (hdv : (v == ("__debug__" : Str)) = false := by decide)
    (hst : starEach (.Call (.Name "range" p2) [e] [] p3 :: []) X.env = (false, eval (.Call (.Name "range" p2) [e] [] p3) X.env) :: starEach [] X.env := by rfl)
    (hst2 : starEach (e :: []) X.env = (false, eval e X.env) :: starEach [] X.env := by rfl) (hpl : (backTo p3 (starEach [] X.env)).any (·.1) = false := by rfl)  (hsh : m.sh = true := by rfl):
    DE X W .nw (.Call (.Name "sorted" p) [.Call (.Name "range" p2) [e] [] p3] [⟨some "key", .Lambda params (.Tuple [e1, .Name v p5] l1 p6) scope lpos, kpos⟩] pos) (dSortR ix t) := by
  obtain ⟨te, p1, s1⟩ := h.ok
  obtain ⟨c, Pt, TB, hcode, hmT, hu⟩ := TD.ex
  refine ⟨_, pe_sortLam he (pe_callTy cr_range1 hgr hmr bt_range' (pa_cons p1 pa_nil hst2) (by decide) (by decide) hst2 hpl) hm TB hcode hmT hu hr L hdef hbind hN hg hdx hcx hdv hst, fun b F H σ ρ Q P Z R z q k => ?_⟩
  refine s1 b F H σ ρ _ _ Z R z q fun d v F1 H1 q1 g r _ => ?_
  obtain ⟨n, ks, rfl, hn, hks, hle, pP⟩ := q1
  refine ⟨n, by rw [vr_int (r.rd hsh (R.g.trans g))], fun a na => ?_⟩
  have g2 := Grow.own (R.grow g).g (HO.rng 0 (n : Nat)) na
  have R2 := (R.grow g).grow g2
  obtain ⟨ax, e1', hsx⟩ := slot_seq R2 hks
  refine ⟨a, _, ax, ks, rfl, .inr ⟨n, upd_same, hn, rfl⟩, z.t ▸ R2.tt, e1', hsx, fun j hj => ?_, by rw [List.length_map, List.length_range]; exact hn, fun H2 eN T2 a2 na2 => ?_⟩
  · obtain ⟨i, hi, rfl⟩ := List.mem_map.mp hj
    have := List.mem_range.mp hi
    omega
  · obtain ⟨F3, g3⟩ := grow_tab R2.g eN (z.t.symm ▸ T2)
    have g4 := Grow.own (R2.grow g3).g (HO.lst ((orderI ks ((List.range n).map fun i => ((i : Nat) : Int))).map V.int)) na2
    have gg := g.trans (g2.trans (g3.trans g4))
    exact k _ _ _ _ pP gg (.inl ⟨a2, rfl, (R2.grow g3).g.s.free na2, own_mkL upd_same (dqA_intsF _)⟩) fun q e => by cases e; exact (g.trans (g2.trans g3)).h.free na2
theorem de_sortL (ix : Nat) (he : KeyE x v e1) (h : DE X W m e t) (hm : X.mg "sorted" = none) (TD : TabD X W.T) (hr : Room 1 X.A) (L : LamP X.env.scope scope x v) (hdef : defaultsOf params X.env = ([], []))
    (hbind : ∀ (q : Str) (cl : List (Str × Addr)) (pm cv ctv u : Value), bindArgs (PySem.W.kla_fn "<lambda>" q params (.Tuple [e1, .Name v p5] l1 p6) scope cl pm cv ctv) ⟨[u], []⟩ = pure [(v, u)])
    (hN : X.N[ix]? = some x := by rfl) (hg : Gl X "sorted" := by rfl) (hdx : (x == ("__debug__" : Str)) = false := by decide) (hcx : (x == ("__classdict__" : Str)) = false := by decide) (hdv : (v == ("__debug__" : Str)) = false := by decide)
    (hst : starEach (e :: []) X.env = (false, eval e X.env) :: starEach [] X.env := by rfl)  (hsh : m.sh = true := by rfl):
    DE X W .nw (.Call (.Name "sorted" p) [e] [⟨some "key", .Lambda params (.Tuple [e1, .Name v p5] l1 p6) scope lpos, kpos⟩] pos) (dSortL ix t) := by
  obtain ⟨te, p1, s1⟩ := h.ok
  obtain ⟨c, Pt, TB, hcode, hmT, hu⟩ := TD.ex
  refine ⟨_, pe_sortLam he p1 hm TB hcode hmT hu hr L hdef hbind hN hg hdx hcx hdv hst, fun b F H σ ρ Q P Z R z q k => ?_⟩
  refine s1 b F H σ ρ _ _ Z R z q fun d v F1 H1 q1 g r _ => ?_
  obtain ⟨ns, ks, rfl, hz, hks, hns, pP⟩ := q1
  have R2 := R.grow g
  obtain ⟨a, xs, rfl, sq, dq⟩ := vr_lst R2.g.s (r.rd hsh R2.g)
  rw [ints_dq dq] at sq
  obtain ⟨ax, e1', hsx⟩ := slot_seq R2 hks
  refine ⟨a, ns, ax, ks, rfl, .inl sq, z.t ▸ R2.tt, e1', hsx, hns, hz, fun H2 eN T2 a2 na2 => ?_⟩
  obtain ⟨F3, g3⟩ := grow_tab R2.g eN (z.t.symm ▸ T2)
  have g4 := Grow.own (R2.grow g3).g (HO.lst ((orderI ks ns).map V.int)) na2
  exact k _ _ _ _ pP (g.trans (g3.trans g4)) (.inl ⟨a2, rfl, (R2.grow g3).g.s.free na2, own_mkL upd_same (dqA_intsF _)⟩) fun q e => by cases e; exact (g.trans g3).h.free na2
end
/-! ### a def that makes a lambda -/
def lamQ (x : Str) : Str := (envOfC x { kind := .function, names := [], isGenerator := false, isCoroutine := false, more := [] } 0 0 .none).qual ++ "<lambda>"
/-- its code object and its table are among cs, T -/
structure FnC (K : PySem.W.Frag) (mg : Str → Option Value) (x : Str) (st : Stmt) (cs : List (Addr × Addr)) (T : List (Addr × Str)) : Prop where
  ex : ∃ (f c Pt : Addr) (oc : Value) (od : Option Addr) (kV doc pm : Value) (an : Option Addr) (ct : Value) (osl : Array (Option Value)),
    K.lookup f = some ⟨oc, od, .func (PySem.W.fnOf x x (defArgs st) (defBody st) (defScope st) .none kV doc pm an (.ref c) ct), osl⟩ ∧ PySem.W.codeIn K (.ref c) x = true ∧ PySem.W.keepIn K (.ref f) = true ∧ mg x = some (.ref f) ∧
    (c, Pt) ∈ cs ∧ (Pt, lamQ x) ∈ T ∧ ∀ q ∈ T, q.1 = Pt → q.2 = lamQ x
theorem fnC_mk {K : PySem.W.Frag} {h : Heap} {mg : Str → Option Value} {x : Str} {st : Stmt} {f c Pt : Addr} {oc : Value} {od an : Option Addr} {osl : Array (Option Value)} {kV doc pm ct : Value} {cs : List (Addr × Addr)} {T : List (Addr × Str)} (X : K.In h) (G : h.Ns mainGlobals mg) (a : PySem.W.nsIn K mainGlobals x = some (some (.ref f)))
    (l : K.lookup f = some ⟨oc, od, .func (PySem.W.fnOf x x (defArgs st) (defBody st) (defScope st) .none kV doc pm an (.ref c) ct), osl⟩) (hc : PySem.W.codeIn K (.ref c) x = true) (k : PySem.W.keepIn K (.ref f) = true) (h1 : (c, Pt) ∈ cs) (h2 : (Pt, lamQ x) ∈ T) (h3 : ∀ q ∈ T, q.1 = Pt → q.2 = lamQ x) : FnC K mg x st cs T :=
  ⟨f, c, Pt, oc, od, kV, doc, pm, an, ct, osl, l, hc, k, PySem.W.mg_of X G a, h1, h2, h3⟩
section
variable {P : Program} {w : World} {K : PySem.W.Frag} {mg : Str → Option Value} {base : Heap} {x : Str} {st : Stmt} {N ps : List Str} {k : Nat} {ms : List Md} {rm : Md} {t : DS} {cs : List (Addr × Addr)}
theorem df0C (TF : FnC K mg x st cs T) (TB : ∀ p ∈ cs, TabB base mg p.1 p.2) (S : FnScope N ps (defScope st)) (hl : ms.length = ps.length) (hbd : Bnd x st ps)
    (hb : ∀ (f c Pt : Addr), TabB base mg c Pt → (Pt, lamQ x) ∈ T → (∀ q ∈ T, q.1 = Pt → q.2 = lamQ x) → ∀ (A : Around) (outer : List Env) (s : Shared) (H : Hp) (E : XK), Room k (A.deeper (envOfC x (defScope st) s.heap.objs.size f (.ref c))) → DSs (cxOf CX0 P w K mg base N x (defScope st) f (.ref c) A outer s H E).nox (W0 T) rm (defBody st) t) :
    Df P w K mg base T CX0 (k + 1) x ms rm (bodyW0 N.length ms rm t) := by
  obtain ⟨f, c, Pt, oc, od, kV, doc, pm, an, ct, osl, lk, hcd, kp, hm, h1, h2, h3⟩ := TF.ex
  refine ⟨f, _, ps, fn_of lk hcd S (fun vs H Q E h => ?_) fun A outer s H vs Q E hr h => ?_, hm, kp, .all (hbd kV doc pm an (.ref c) ct)⟩
  · obtain ⟨_, ds, _, _, _, _, r, _⟩ := h
    rw [← hl]
    exact (vrs_len r).1
  · obtain ⟨F0, ds, Pd, Z, sm, tt, r, hw, k1, k2⟩ := h
    obtain ⟨ts, p, sem⟩ := (hb f c Pt (TB _ h1) h2 h3 A outer s H E hr).ok
    exact ⟨ts, p.nox, sem ⟨F0, H, T⟩ F0 H _ _ _ _ Z0 (rep_start sm tt r) (zok0 rfl) hw (conn_body k1)⟩
theorem dfXC (TF : FnC K mg x st cs T) (TB : ∀ p ∈ cs, TabB base mg p.1 p.2) (S : FnScope N ps (defScope st)) (hl : ms.length = ps.length) (hbd : Bnd x st ps)
    (hb : ∀ (f c Pt : Addr), TabB base mg c Pt → (Pt, lamQ x) ∈ T → (∀ q ∈ T, q.1 = Pt → q.2 = lamQ x) → ∀ (A : Around) (outer : List Env) (s : Shared) (H : Hp) (E : XK), Room k (A.deeper (envOfC x (defScope st) s.heap.objs.size f (.ref c))) → DSs (cxOf (L2.CX P w) P w K mg base N x (defScope st) f (.ref c) A outer s H E) ⟨fun cls d _ H => E cls d H, T⟩ rm (defBody st) t) :
    Df P w K mg base T (L2.CX P w) (k + 1) x ms rm (bodyW N.length ms rm t) := by
  obtain ⟨f, c, Pt, oc, od, kV, doc, pm, an, ct, osl, lk, hcd, kp, hm, h1, h2, h3⟩ := TF.ex
  refine ⟨f, _, ps, fn_of lk hcd S (fun vs H Q E h => ?_) fun A outer s H vs Q E hr h => ?_, hm, kp, .all (hbd kV doc pm an (.ref c) ct)⟩
  · obtain ⟨_, ds, _, _, _, _, r, _⟩ := h
    rw [← hl]
    exact (vrs_len r).1
  · obtain ⟨F0, ds, Pd, Z, sm, tt, r, hw, k1, k2⟩ := h
    obtain ⟨ts, p, sem⟩ := (hb f c Pt (TB _ h1) h2 h3 A outer s H E hr).ok
    exact ⟨ts, p, sem ⟨F0, H, T⟩ F0 H _ _ _ _ (fun _ x => Z x) (rep_start sm tt r) ⟨rfl, fun ρ F' H' σ x C _ hm R q => k2 x C F' H' hm q R.g⟩ hw (conn_body k1)⟩
theorem law_allT {fa : Addr} (hfa : mg "law" = some (.ref fa)) (TF : FnF K mg "law" st) (S : FnScope N ["script"] (defScope st)) (hbd : Bnd "law" st ["script"])
    (hb : ∀ (base : Heap), (∀ p ∈ cs, TabB base mg p.1 p.2) → ∀ (f : Addr) (cdv : Value) (A : Around) (outer : List Env) (s : Shared) (H : Hp) (E : XK), Room k (A.deeper (envOfC "law" (defScope st) s.heap.objs.size f cdv)) → DSs (cxOf CX0 P w K mg base N "law" (defScope st) f cdv A outer s H E).nox (W0 T) .fz (defBody st) t)
    (h : ∀ ns : List Int, ns.length ≤ 63 → (∀ z ∈ ns, Builtin.Int.intBits z ≤ 1048576) → bodyW0 N.length [.rd] .fz t [.list (ns.map .int)] (fun d => d = .bool true) (fun _ => False)) :
    ∃ fd : FuncData, (∀ (s : Shared) (v : Value), BindsTo s fd ⟨[v], []⟩ [("script", v)]) ∧ ∀ base : Heap, K.In base → base.Ns mainGlobals mg → (∀ p ∈ cs, TabB base mg p.1 p.2) → FnOk P w K mg base CX0 (k + 1) fa fd ["script"] (spLawB K T) := by
  obtain ⟨f, fd, F, hm⟩ := TF.ex
  rw [hfa] at hm
  cases hm
  refine ⟨fd, fun s v => ?_, fun base _ _ TB => law_fn (fnok0 F S rfl (hb base TB fa)) h⟩
  obtain ⟨oc, od, kV, doc, pm, an, cdv, ct, osl, rfl, lk, hcd⟩ := F.ex
  exact .of_eq (hbd kV doc pm an cdv ct [v] rfl)
end
theorem tabs_start {H : Hp} {cs : List (Addr × Addr)} (h : ∀ p ∈ cs, H p.2 = some (.tbl #[])) (hT : ∀ q ∈ T, ∃ p ∈ cs, p.2 = q.1) : Tabs T H := fun q hq => by
  obtain ⟨p, hp, e⟩ := hT q hq
  rw [← e]
  exact TabS.nil (h p hp)
theorem law_atS {l : PySem.W.OpenLaw} {w : World} {K : PySem.W.Frag} {mg : Str → Option Value} {fa : Addr} {h : Heap} {cs : List (Addr × Addr)} {k : Nat} (hT : ∀ p ∈ cs, h.get? p.2 = some { cls := .none, data := .fields #[] }) (nT : ∀ p ∈ cs, K.lookup p.2 = none) (hC : ∀ p ∈ cs, PySem.W.CodeHd h p.1 p.2)
    (hTc : ∀ q ∈ T, ∃ p ∈ cs, p.2 = q.1) (hF : ∃ fd : FuncData, (∀ (s : Shared) (v : Value), BindsTo s fd ⟨[v], []⟩ [("script", v)]) ∧ ∀ base : Heap, K.In base → base.Ns mainGlobals mg → (∀ p ∈ cs, TabB base mg p.1 p.2) → FnOk l.prog w K mg base CX0 k fa fd ["script"] (spLawB K T)) :
    LawAtS l w K CX0 k 63 "script" mg fa h := by
  obtain ⟨fd, hb, F⟩ := hF
  exact ⟨fd, cs, spLawB K T, hT, nT, hC, hb, fun H a ns hl hb2 hH hS => ⟨tabs_start hH hTc, a, ns, rfl, hS, hl, hb2, fun v H' e => e⟩, F⟩
theorem e_sortR {ix : Nat} {t : DT} {ρ : List Sl} {P : D → Prop} {Z : Zs} : dSortR ix t ρ P Z ↔ t ρ (fun d => ∃ (n : Nat) (ks : List Int), d = .int (n : Nat) ∧ n ≤ 100000 ∧ tupR ix ρ ks ∧ n ≤ ks.length ∧ P (.list ((orderI ks ((List.range n).map fun i => ((i : Nat) : Int))).map .int))) Z := Iff.rfl
theorem e_sortL {ix : Nat} {t : DT} {ρ : List Sl} {P : D → Prop} {Z : Zs} : dSortL ix t ρ P Z ↔ t ρ (fun d => ∃ (ns ks : List Int), d = .list (ns.map .int) ∧ ns.length ≤ 100000 ∧ tupR ix ρ ks ∧ (∀ n ∈ ns, 0 ≤ n ∧ n < ks.length) ∧ P (.list ((orderI ks ns).map .int))) Z := Iff.rfl
end DL
set_option maxRecDepth 100000
set_option maxHeartbeats 4000000
/-! DLY: enumerate of a list or a tuple. -/
namespace DL
open PySem PySem.Spec PyProof.Rows L2
variable {T : List (Addr × Str)}
set_option maxHeartbeats 1000000 in
theorem meets_enum1 {v : Value} {o : Obj} {H : Heap → Prop} (B : Begins v o H) :
    Meets (Builtin.«enumerate.__new__» ⟨[.type "enumerate", v], []⟩) (fun _ R s => H s.heap ∧
      R (.ok (.ret (.ref (s.heap.push o).objs.size))) { s with heap := (s.heap.push o).push { cls := .type "enumerate", data := .fields #[.none, .bool false, .ref s.heap.objs.size, rawInt 0, .none, .none] } }) :=
  .of_wp fun prog w A R s h => by
    obtain ⟨hp, g, d, tk, os⟩ := s; obtain ⟨h1, h⟩ := h
    have hsub := sub_enumerate
    have q1 : ∀ {A' : Around} {E : Value → Shared → Prop} {Q : Value → Shared → Prop}, Q (.ref hp.objs.size) ⟨hp.push o, g, d, tk, os⟩ → wpAny (model prog w) A' (pyIter v) Q E ⟨hp, g, d, tk, os⟩ :=
      fun q => B.iter prog w _ _ ⟨hp, g, d, tk, os⟩ _ h1 q
    wp_walk using q1
    refine wpAny_stack_any fun st => wpAny_pure ?_
    split
    · rename_i c _ _ _ _ _
      cases (c == Value.type "enumerate")
      · wp_walk using q1
        exact ⟨_, rfl, h⟩
      · wp_walk using q1
        exact ⟨_, rfl, h⟩
    · wp_walk using q1
      exact ⟨_, rfl, h⟩
theorem call_enum1 {prog : Program} {w : World} {A : Around} {E : Value → Shared → Prop} {s : Shared} {v : Value} {o : Obj} {H : Heap → Prop} {Q : Value → Shared → Prop} (B : Begins v o H) (h1 : H s.heap)
    (h : ∀ h', IsEnum h' (s.heap.objs.size + 1) s.heap.objs.size 0 .none → h'.get? s.heap.objs.size = some o → (∀ b o, s.heap.get? b = some o → h'.get? b = some o) → Q (.ref (s.heap.objs.size + 1)) { s with heap := h' }) :
    wpAny (model prog w) A (call (.type "enumerate") [v]) Q E s := by
  refine callType_new F.called_enumerate (by decide) (F.typeCall_enumerate_1 _) (F.newCall_enumerate_1 _) (fun obj => F.args_object_init_2 obj _) F.entry_enumerate_new (meets_enum1 B) ⟨h1, ?_⟩
  have hz : (s.heap.push o).objs.size = s.heap.objs.size + 1 := Heap.size_push ..
  show _ ∧ _
  rw [hz]
  have he : IsEnum ((s.heap.push o).push { cls := .type "enumerate", data := .fields #[.none, .bool false, .ref s.heap.objs.size, rawInt 0, .none, .none] }) (s.heap.objs.size + 1) s.heap.objs.size 0 .none := by
    have := Heap.get?_push_size (s.heap.push o) (o := { cls := .type "enumerate", data := .fields #[.none, .bool false, .ref s.heap.objs.size, rawInt 0, .none, .none] }) rfl
    rw [hz] at this
    exact this
  exact ⟨⟨_, he, rfl⟩, h _ he (Heap.get?_push_of_some _ (Heap.get?_push_size _ B.free)) fun b o x => Heap.get?_push_of_some _ (Heap.get?_push_of_some _ x)⟩
/-- the tuple at a, each item in a new pair -/
def IteT (K : PySem.W.Frag) (a : Addr) : It :=
  ⟨fun i H => ∃ (xs : List V) (x : V), SqT K H a xs ∧ xs[i]? = some x, fun i H v H' => ∃ T x, v = .ref T ∧ H T = none ∧ H' = upd H T (.tup [.int (i : Nat), x]) ∧ ∀ xs, SqT K H a xs → xs[i]? = some x, fun i H => ∃ xs : List V, SqT K H a xs ∧ xs.length = i⟩
theorem isTuple_of {h : Heap} {a : Addr} {its : Array Value} (x : IsTup h a its) : h.IsTuple a its := x
theorem turn_enumT {P : Program} {w : World} {K : PySem.W.Frag} {elts : List Expr} {kk : Nat} {tpos : Pos} (a e it : Addr) :
    Turn P w K (.Tuple elts kk tpos) (IteT K a) [e, it] e (fun i h => (∃ old, IsEnum h e it ((i : Nat) : Int) old) ∧ h.IsTupleIter it a i ∧ e ≠ it) where
  mem := by simp
  obj := fun i h st b hb => by
    obtain ⟨⟨old, he⟩, ⟨o, ho, hc, hd⟩, _⟩ := st
    have e' : b = e ∨ b = it := by simpa using hb
    rcases e' with z | z
    · rw [z]; exact ⟨_, he, fun v q => nomatch q⟩
    · rw [z]; exact ⟨o, ho, fun v q => by rw [hd] at q; cases q⟩
  keep := fun i h h' st k => let ⟨⟨old, he⟩, hi, hne⟩ := st; ⟨⟨old, k e (by simp) _ he⟩, hi.at fun o q => k it (by simp) o q, hne⟩
  item := by
    intro X hP hw hK hc i pins s σ H E I hf st hg
    subst hP hw hK
    obtain ⟨⟨old, he⟩, hit, hne⟩ := st
    obtain ⟨xs, x, hq, hx⟩ := hg
    obtain ⟨its, rv, p, hz⟩ := I.tuple hq
    obtain ⟨u, hu, ru⟩ := rv.get hx
    have hel : e < s.heap.objs.size := Heap.lt_size he
    have hil : it < s.heap.objs.size := by obtain ⟨_, q, _⟩ := hit; exact Heap.lt_size q
    have hta : a ≠ it := fun z => by
      obtain ⟨o1, q1, c1, _⟩ := hit
      obtain ⟨o2, q2, c2, _⟩ := p
      rw [z, q1] at q2
      cases q2
      rw [c1] at c2
      simp at c2
    have hae : e ≠ a := fun z => by
      obtain ⟨o2, q2, c2, _⟩ := p
      have he' : s.heap.get? e = some _ := he
      rw [z, q2] at he'
      cases he'
      have c2 : Value.type "enumerate" = Value.type "tuple" := c2
      simp at c2
    refine wpAny_pyNext_enum_itemD (A := X.A) (Draws.tuple (A := X.A.in1) (I.ok.hd hc) it a hta its.toArray) he ⟨hit, isTuple_of p⟩ (by rw [List.size_toArray]; exact (List.getElem?_eq_some_iff.mp hu).1) hne (by simp; exact ⟨hne, hae⟩) fun x' h' tk hx' ho hst' hT hsz hk => ?_
    have ex : x' = u := by
      have : its.toArray[i]? = some x' := hx'
      rw [List.getElem?_toArray, hu] at this
      exact (Option.some.inj this).symm
    subst ex
    refine ⟨_, rfl, wpAny_letOwnedTupleGo_enum (s := { s with heap := h', toks := tk + 1 }) ho fun h'' he' sb => ?_⟩
    have hT2 : h''.get? s.heap.objs.size = some { cls := .type "tuple", data := .seq #[.int i tk, x'] } := (sb.2 _ (Nat.ne_of_gt hel)).trans hT
    have new : ObjOk X.prog X.w (upd H s.heap.objs.size (.tup [.int (i : Nat), x])) h'' s.heap.objs.size (.tup [.int (i : Nat), x]) :=
      ⟨by show 2 ≤ sizeLine; decide, [.int i tk, x'], .cons ⟨_, rfl⟩ (.cons ru .nil), ⟨_, hT2, rfl, _, rfl⟩⟩
    have I1 : Inv X pins σ (upd H s.heap.objs.size (.tup [.int (i : Nat), x])) { s with heap := h'', toks := tk + 1 } :=
      I.turnedNew (ch := [e, it]) (fun b ob hb q => (sb.2 b (fun z => hb (by simp [z]))).trans (hk b ob (fun z => hb (by simp [z])) (fun z => hb (by simp [z])) q)) hf (Nat.le_refl _) new
    refine ⟨.ref s.heap.objs.size, _, I1, rfl, ⟨_, x, rfl, I.hok.fresh (Nat.le_refl _), rfl, fun ys hy => by rw [I.tuple_inj hy hq]; exact hx⟩, ⟨⟨x', ?_⟩, hst'.1.at fun o q => (sb.2 it (Ne.symm hne)).trans q, hne⟩, fun b hb => ?_⟩
    · have e1 : ((i + 1 : Nat) : Int) = (i : Int) + 1 := by omega
      rw [e1]; exact he'
    · have hb' : b < s.heap.objs.size := by
        have e' : b = e ∨ b = it := by simpa using hb
        rcases e' with z | z
        · rw [z]; exact hel
        · rw [z]; exact hil
      rw [upd_ne (Nat.ne_of_lt hb')]
      exact (hf b hb).1
  done := by
    intro X hP hw hK hc i pins s σ H E I hf st hg
    subst hP hw hK
    obtain ⟨⟨old, he⟩, hit, hne⟩ := st
    obtain ⟨xs, hq, hx⟩ := hg
    obtain ⟨its, rv, p, hz⟩ := I.tuple hq
    obtain ⟨f0, f1, f2, f3, f4, f5⟩ := hf it (by simp)
    have hl := rv.length
    have hta : a ≠ it := fun z => by
      obtain ⟨o1, q1, c1, _⟩ := hit
      obtain ⟨o2, q2, c2, _⟩ := p
      rw [z, q1] at q2
      cases q2
      rw [c1] at c2
      simp at c2
    have hn : its.toArray.size = i := by rw [List.size_toArray, ← hl, hx]
    refine wpAny_pyNext_enum_endD (A := X.A) (Draws.tuple (A := X.A.in1) (I.ok.hd hc) it a hta its.toArray) he ⟨by rw [hn]; exact hit, isTuple_of p⟩ fun h' eb => ⟨rfl, I.turned (t' := s.toks) (fun b o hb q => eb b o hb q) f0 f1 f3 f4 f5⟩
  self := fun A i s Q E st h => let ⟨⟨_, he⟩, _⟩ := st; wpAny_pyIter_enum he h
def iEnumA (K : PySem.W.Frag) (ta : TA) : TI := fun σ H R => ta σ H fun vs H1 => ∃ a xs, vs = [.ref a] ∧ ((SqL K H1 a xs ∧ R (Ite K a) H1) ∨ (SqT K H1 a xs ∧ R (IteT K a) H1))
theorem pi_enumA {X : Cx} {e : Expr} {ta : TA} {p pos tpos : Pos} {elts : List Expr} {kk : Nat} (hg : Gl X "enumerate") (hm : X.mg "enumerate" = none) (ha : PA X [e] ta) (hs : starEach [e] X.env = [(false, eval e X.env)] := by rfl) :
    PI X (.Tuple elts kk tpos) (.Call (.Name "enumerate" p) [e] [] pos) (iEnumA X.K ta) := by
  refine ⟨fun pins s σ H R I h => ?_⟩
  refine Call_ (ld_blt I hg hm boot_enumerate (PyProof.Rows.callWith_type1 (thn (ha.run pos pins s σ H _ I h) fun us s1 ⟨vs, H1, I1, r1, q1⟩ => ?_) hs rfl))
  obtain ⟨a, xs, ex, hq⟩ := q1
  subst ex
  cases r1 with
  | cons r rr =>
    cases rr
    cases r
    have fp : ∀ b ∈ [s1.heap.objs.size + 1, s1.heap.objs.size], s1.heap.objs.size ≤ b := fun b hb => by
      have e' : b = s1.heap.objs.size + 1 ∨ b = s1.heap.objs.size := by simpa using hb
      omega
    rcases hq with ⟨hq, q⟩ | ⟨hq, q⟩
    · obtain ⟨its, rv, p', hz⟩ := I1.list hq
      refine call_enumerate_list p'.isList fun h' he hit hsz hk => wpAny_pyIter_enum he ?_
      have I2 : Inv X pins σ H1 { s1 with heap := h' } := I1.kept (t' := s1.toks) hk
      exact ⟨s1.heap.objs.size + 1, [s1.heap.objs.size + 1, s1.heap.objs.size], _, _, H1, rfl, I2, turn_enum a (s1.heap.objs.size + 1) s1.heap.objs.size, ⟨⟨.none, he⟩, hit, Nat.succ_ne_self _⟩, fun b hb => I1.fpOk (fp b hb) (I1.hok.fresh (fp b hb)), q⟩
    · obtain ⟨its, rv, p', hz⟩ := I1.tuple hq
      refine call_enum1 (begins_tuple a its.toArray) (isTuple_of p') fun h' he hit hk => wpAny_pyIter_enum he ?_
      have I2 : Inv X pins σ H1 { s1 with heap := h' } := I1.kept (t' := s1.toks) hk
      exact ⟨s1.heap.objs.size + 1, [s1.heap.objs.size + 1, s1.heap.objs.size], _, _, H1, rfl, I2, turn_enumT a (s1.heap.objs.size + 1) s1.heap.objs.size, ⟨⟨.none, he⟩, ⟨_, hit, rfl, rfl⟩, Nat.succ_ne_self _⟩, fun b hb => I1.fpOk (fp b hb) (I1.hok.fresh (fp b hb)), q⟩
theorem iteT_ok {c : Bool} {K : PySem.W.Frag} {b : B} {F0 H0 : Hp} {a : Addr} {ds : List D} (get : ∀ F H, Same F0 F → Grow b.T b.F b.H F H → (c = true → Ext b.T H0 H) → ∃ xs, SqT K H a xs ∧ DqA F xs ds) : ItOk c b F0 H0 (IteT K a) (enumD ds) := by
  have hl : (enumD ds).length = ds.length := by unfold enumD; rw [List.length_mapIdx]
  refine ⟨fun i F H hi s g hc => ?_, fun F H s g hc => ?_, fun i F H x H' d hd s g hc y => ?_⟩
  · obtain ⟨xs, q, dq⟩ := get F H s g hc
    have hx : i < xs.length := by rw [dq.length, ← hl]; exact hi
    exact ⟨xs, xs[i], q, List.getElem?_eq_getElem hx⟩
  · obtain ⟨xs, q, dq⟩ := get F H s g hc
    exact ⟨xs, q, by rw [dq.length, hl]⟩
  · obtain ⟨xs, q, dq⟩ := get F H s g hc
    obtain ⟨T, w, rfl, nT, rfl, y⟩ := y
    obtain ⟨d', h1, h2⟩ := dq.get' (y xs q)
    unfold enumD at hd
    rw [List.getElem?_mapIdx, h1] at hd
    cases hd
    have g2 := Grow.new g (HO.tup [.int (i : Nat), w]) nT
    exact ⟨_, g2, .tup upd_same (.cons (.int _) (.cons (h2.mono g2.f) .nil))⟩
def dEnumA (ta : DTa) : DTi := fun ρ P Z => ta ρ (fun ds => ∃ xs, (ds = [.list xs] ∨ ds = [.tuple xs]) ∧ P (enumD xs)) Z
theorem di_enumA {X : Cx} {W : WT} {c : Bool} {m : Md} {elts : List Expr} {kk : Nat} {tpos p pos : Pos} {e : Expr} {ta : DTa} (hm : X.mg "enumerate" = none) (ha : DA X W [m] [e] ta) (hw : Wkb c m := by first | exact .inl rfl | exact .inr ⟨rfl, rfl⟩) (hg : Gl X "enumerate" := by rfl) (hs : starEach [e] X.env = [(false, eval e X.env)] := by rfl) : DI X W c (.Tuple elts kk tpos) (.Call (.Name "enumerate" p) [e] [] pos) (dEnumA ta) := by
  obtain ⟨te, p, s⟩ := ha.ok
  refine ⟨_, pi_enumA hg hm p hs, fun b F H σ ρ R P Z R1 z q k => s b F H σ ρ _ _ Z R1 z q fun ds vs F' H' p g r => ?_⟩
  obtain ⟨xs, rfl | rfl, p⟩ := p
  · cases r with
    | cons r rr =>
      cases rr
      have g0 := R1.g.trans g
      have w := wk_vr hw r
      obtain ⟨a, ys, e, q, dq⟩ := vr_lst g0.s (w F' H' (Same.refl _) g0 fun _ => Ext.refl _)
      exact ⟨a, ys, by rw [e], .inl ⟨q, k _ _ F' H' p g (ite_ok (getL w e))⟩⟩
  · cases r with
    | cons r rr =>
      cases rr
      have g0 := R1.g.trans g
      have w := wk_vr hw r
      obtain ⟨a, ys, e, q, dq⟩ := vr_tup g0.s (w F' H' (Same.refl _) g0 fun _ => Ext.refl _)
      exact ⟨a, ys, by rw [e], .inr ⟨q, k _ _ F' H' p g (iteT_ok (getT w e))⟩⟩
theorem e_enumA {ta : DTa} {ρ : List Sl} {Pi : List D → Prop} {Z : Zs} : dEnumA ta ρ Pi Z ↔ ta ρ (fun ds => ∃ xs, (ds = [.list xs] ∨ ds = [.tuple xs]) ∧ Pi (enumD xs)) Z := Iff.rfl
end DL
set_option maxRecDepth 100000
set_option maxHeartbeats 4000000
/-! DLZ: list(range(..)). -/
namespace DL
open PySem PySem.Spec PyProof.Rows L2
def rngL (a b : Int) : List Int := (List.range (b - a).toNat).map fun i => a + (i : Nat)
theorem rgV_L (a b : Int) : rgV a b = (rngL a b).map V.int := by
  unfold rgV rngL
  rw [List.map_map]
  rfl
section
variable {X : Cx} {W : WT} {ma mb : Md} {a b' : Expr} {ta tb : DT} {p p2 p3 pos : Pos}
def dLRg1 (ta : DT) : DT := fun ρ P Z => ta ρ (fun d => ∃ n : Int, d = .int n ∧ -100000 ≤ n ∧ n ≤ 100000 ∧ P (.list ((rngL 0 n).map .int))) Z
def dLRg2 (ta tb : DT) : DT := fun ρ P Z => ta ρ (fun x => tb ρ (fun y => ∃ i j : Int, x = .int i ∧ y = .int j ∧ -100000 ≤ i ∧ i ≤ 100000 ∧ -100000 ≤ j ∧ j ≤ 100000 ∧ P (.list ((rngL i j).map .int))) Z) Z
theorem de_listRg1 (ha : DE X W ma a ta) (hl : X.mg "list" = none) (hm : X.mg "range" = none) (hc : X.calm = true := by rfl) (hg : Gl X "list" := by rfl) (hgr : Gl X "range" := by rfl) (na : starEach [a] X.env = (false, eval a X.env) :: starEach [] X.env := by rfl)
    (na2 : starEach [.Call (.Name "range" p2) [a] [] p3] X.env = (false, eval (.Call (.Name "range" p2) [a] [] p3) X.env) :: starEach [] X.env := by rfl) (hsh : ma.sh = true := by rfl) : DE X W .nw (.Call (.Name "list" p) [.Call (.Name "range" p2) [a] [] p3] [] pos) (dLRg1 ta) := by
  obtain ⟨te, p1, s1⟩ := ha.ok
  refine ⟨_, pe_listRg hc hg hl (prg_1 hgr hm p1 na) na2, fun b F H σ ρ Q P Z R z q k => s1 b F H σ ρ _ _ Z R z q fun d v F1 H1 q1 g r _ => ?_⟩
  obtain ⟨n, rfl, h1, h2, pP⟩ := q1
  refine ⟨n, vr_int (r.rd hsh (R.g.trans g)), ⟨by omega, by omega, by omega, by omega, by omega⟩, fun l nl => ?_⟩
  have g2 := Grow.own (R.grow g).g (HO.lst (rgV 0 n)) nl
  exact k _ _ _ _ pP (g.trans g2) (.inl ⟨l, rfl, (R.grow g).g.s.free nl, own_mkL upd_same (by rw [rgV_L]; exact dqA_intsF _)⟩) fun q e => by cases e; exact g.h.free nl
theorem de_listRg2 (ha : DE X W ma a ta) (hb : DE X W mb b' tb) (hl : X.mg "list" = none) (hm : X.mg "range" = none) (hc : X.calm = true := by rfl) (hg : Gl X "list" := by rfl) (hgr : Gl X "range" := by rfl) (na : starEach [a, b'] X.env = (false, eval a X.env) :: starEach [b'] X.env := by rfl)
    (nb : starEach [b'] X.env = (false, eval b' X.env) :: starEach [] X.env := by rfl) (hp : (backTo p3 (starEach [b'] X.env)).any (·.1) = false := by rfl)
    (na2 : starEach [.Call (.Name "range" p2) [a, b'] [] p3] X.env = (false, eval (.Call (.Name "range" p2) [a, b'] [] p3) X.env) :: starEach [] X.env := by rfl) (hsh : ma.sh = true := by rfl) (hsh2 : mb.sh = true := by rfl) : DE X W .nw (.Call (.Name "list" p) [.Call (.Name "range" p2) [a, b'] [] p3] [] pos) (dLRg2 ta tb) := by
  obtain ⟨te, p1, s1⟩ := ha.ok
  obtain ⟨te2, pp2, s2⟩ := hb.ok
  refine ⟨_, pe_listRg hc hg hl (prg_2 hgr hm p1 pp2 na nb hp) na2, fun b F H σ ρ Q P Z R z q k => s1 b F H σ ρ _ _ Z R z q fun d v F1 H1 q1 g r _ => s2 b F1 H1 σ ρ _ _ Z (R.grow g) (z.mono g.f) q1 fun d2 v2 F2 H2 q2 g2 r2 _ => ?_⟩
  obtain ⟨i, j, rfl, rfl, h1, h2, h3, h4, pP⟩ := q2
  have R2 := (R.grow g).grow g2
  refine ⟨i, j, vr_int (r.rd hsh (R.g.trans g)), vr_int (r2.rd hsh2 R2.g), ⟨by omega, by omega, by omega, by omega, by omega⟩, fun l nl => ?_⟩
  have g3 := Grow.own R2.g (HO.lst (rgV i j)) nl
  exact k _ _ _ _ pP (g.trans (g2.trans g3)) (.inl ⟨l, rfl, R2.g.s.free nl, own_mkL upd_same (by rw [rgV_L]; exact dqA_intsF _)⟩) fun q e => by cases e; exact (g.trans g2).h.free nl
end
theorem e_LRg1 {ta : DT} {ρ : List Sl} {P : D → Prop} {Z : Zs} : dLRg1 ta ρ P Z ↔ ta ρ (fun d => ∃ n : Int, d = .int n ∧ -100000 ≤ n ∧ n ≤ 100000 ∧ P (.list ((rngL 0 n).map .int))) Z := Iff.rfl
theorem e_LRg2 {ta tb : DT} {ρ : List Sl} {P : D → Prop} {Z : Zs} : dLRg2 ta tb ρ P Z ↔ ta ρ (fun x => tb ρ (fun y => ∃ i j : Int, x = .int i ∧ y = .int j ∧ -100000 ≤ i ∧ i ≤ 100000 ∧ -100000 ≤ j ∧ j ≤ 100000 ∧ P (.list ((rngL i j).map .int))) Z) Z := Iff.rfl
/-- a def, nothing asked of it -/
theorem df_none {P : Program} {w : World} {K : PySem.W.Frag} {mg : Str → Option Value} {base : Heap} {T : List (Addr × Str)} {x : Str} {st : Stmt} {ps : List Str} {k : Nat} {ms : List Md} {rm : Md} {CX : CXT} (TF : FnF K mg x st) (hbd : Bnd x st ps) : Df P w K mg base T CX k x ms rm (fun _ _ _ => False) := by
  obtain ⟨f, fd, F, hm⟩ := TF.ex
  refine ⟨f, fd, ps, ⟨fun vs H Q E h => ?_, fun A outer s H args us vs Q E _ _ _ _ h => ?_⟩, hm, F.kp, F.binds hbd⟩
  · obtain ⟨_, _, _, _, _, _, _, hw, _⟩ := h
    exact hw.elim
  · obtain ⟨_, _, _, _, _, _, _, hw, _⟩ := h
    exact hw.elim
end DL
set_option maxRecDepth 100000
set_option maxHeartbeats 4000000
/-! DM0: trees: a child told by an index, written in place; defs that change a tree of the caller. -/
namespace DL
open PySem PySem.Spec PyProof.Rows L2
variable {T : List (Addr × Str)}
def kidsD : D → List D
  | .list ds => ds
  | .tuple ds => ds
  | .dict ps => ps.map (·.2)
  | _ => []
def setCh : D → Nat → D → D
  | .list ds, j, c => .list (ds.set j c)
  | .tuple ds, j, c => .tuple (ds.set j c)
  | .dict ps, j, c => .dict (ps.mapIdx fun i p => if i = j then (p.1, c) else p)
  | d, _, _ => d
def rootIs (H : Hp) (p : Addr) (d : D) (xs : List V) : Prop := match d with
  | .list _ => H p = some (.lst xs)
  | .tuple _ => H p = some (.tup xs)
  | .dict ps => ∃ (kvs : List (List Key × V)) (kds : List (List Key × D)), ps = (kds.map fun p => (keyT p.1, p.2)) ∧ H p = some (.dT kvs) ∧ kvs.map (·.1) = kds.map (·.1) ∧ xs = kvs.map (·.2)
  | _ => False
theorem kids_dict (kds : List (List Key × D)) : (kds.map fun p => (keyT p.1, p.2)).map (·.2) = kds.map (·.2) := by
  rw [List.map_map]
  rfl
theorem trR_iff {F H : Hp} {p : Addr} {d : D} {A : List Addr} : TrR F H p d A ↔ ∃ xs, rootIs H p d xs ∧ Kids F H xs (kidsD d) A := by
  cases d with
  | list ds => exact Iff.rfl
  | tuple ds => exact Iff.rfl
  | dict ps =>
    constructor
    · rintro ⟨kvs, kds, rfl, e, e2, k⟩
      refine ⟨_, ⟨kvs, kds, rfl, e, e2, rfl⟩, ?_⟩
      show Kids F H _ ((kds.map fun p => (keyT p.1, p.2)).map (·.2)) A
      rw [kids_dict]
      exact k
    · rintro ⟨xs, ⟨kvs, kds, rfl, e, e2, rfl⟩, k⟩
      refine ⟨kvs, kds, rfl, e, e2, ?_⟩
      have k : Kids F H _ ((kds.map fun p => (keyT p.1, p.2)).map (·.2)) A := k
      rw [kids_dict] at k
      exact k
  | _ => exact ⟨fun h => h.elim, fun ⟨_, h, _⟩ => h.elim⟩
/-- q is the root of v's child j -/
def IsCh (F H : Hp) (v : V) (d : D) (j : Nat) (q : Addr) (c : D) : Prop := ∃ p A' xs, v = .ref p ∧ F p = none ∧ p ∉ A' ∧ rootIs H p d xs ∧ Kids F H xs (kidsD d) A' ∧ xs[j]? = some (.ref q) ∧ (kidsD d)[j]? = some c ∧ atmB c = false
theorem Kids.child {F H : Hp} : ∀ {vs : List V} {ds : List D} {A : List Addr} {j : Nat} {c : D}, Kids F H vs ds A → ds[j]? = some c → atmB c = false → ∃ q, vs[j]? = some (.ref q) ∧ q ∈ A ∧ Own F H q c
  | _, _, _, _, _, .nil, h, _ => by simp at h
  | _, _, _, 0, c, .own n o k m, h, _ => by
    simp only [List.getElem?_cons_zero, Option.some.injEq] at h
    subst h
    exact ⟨_, rfl, by simp, o⟩
  | _, _, _, 0, c, .atm a k, h, hc => by
    simp only [List.getElem?_cons_zero, Option.some.injEq] at h
    subst h
    unfold Atm at a
    cases a <;> first | (simp [atmB] at hc; done) | (rename_i z _; cases z) | (rename_i z _ _; cases z)
  | _, _, _, j + 1, c, .own n o k m, h, hc => by
    obtain ⟨q, h1, h2, h3⟩ := k.child (j := j) (by simpa using h) hc
    exact ⟨q, by simpa using h1, by simp [h2], h3⟩
  | _, _, _, j + 1, c, .atm a k, h, hc => by
    obtain ⟨q, h1, h2, h3⟩ := k.child (j := j) (by simpa using h) hc
    exact ⟨q, by simpa using h1, h2, h3⟩
theorem Kids.put {F H : Hp} {q : Addr} {o : HO} {c' : D} (ow : Own F (upd H q o) q c') : ∀ {vs : List V} {ds : List D} {A : List Addr} {j : Nat} {c : D}, Kids F H vs ds A → vs[j]? = some (.ref q) → ds[j]? = some c → atmB c = false → Kids F (upd H q o) vs (ds.set j c') A
  | _, _, _, _, _, .nil, h, _, _ => by simp at h
  | _, _, _, 0, c, .own n _ k m, h, _, _ => by
    simp only [List.getElem?_cons_zero, Option.some.injEq] at h
    cases h
    rw [List.set_cons_zero]
    exact .own n ow (k.mono (Same.refl _) fun a ha => ⟨(k.nn a ha).1, upd_ne (by rintro rfl; exact m ha)⟩) m
  | _, _, _, 0, c, .atm a k, h, _, _ => by
    simp only [List.getElem?_cons_zero, Option.some.injEq] at h
    subst h
    exact (atm_ref a).elim
  | _, _, _, j + 1, c, .own n o2 k m, h, hd, hc => by
    rw [List.set_cons_succ]
    have h' := List.getElem?_cons_succ.symm.trans h
    have hd' := List.getElem?_cons_succ.symm.trans hd
    obtain ⟨q2, e, hq, _⟩ := k.child hd' hc
    rw [h'] at e
    cases e
    exact .own n (o2.mono (Same.refl _) (upd_ne (by rintro rfl; exact m hq))) (k.put ow h' hd' hc) m
  | _, _, _, j + 1, c, .atm a k, h, hd, hc => by
    rw [List.set_cons_succ]
    exact .atm a (k.put ow (List.getElem?_cons_succ.symm.trans h) (List.getElem?_cons_succ.symm.trans hd) hc)
theorem rootIs.grow {F H F' H' : Hp} (g : Grow T F H F' H') {p : Addr} {d : D} {xs : List V} (h : rootIs H p d xs) : rootIs H' p d xs := by
  cases d with
  | list ds => exact g.h.ap h
  | tuple ds => exact g.h.ap h
  | dict ps =>
    obtain ⟨kvs, kds, e1, e2, r⟩ := h
    exact ⟨kvs, kds, e1, g.h.ap e2, r⟩
  | _ => exact h.elim
theorem rootIs.som {H : Hp} {p : Addr} {d : D} {xs : List V} (h : rootIs H p d xs) : ∃ u, H p = some u ∧ IsD u := by
  cases d with
  | list ds => exact ⟨_, h, trivial⟩
  | tuple ds => exact ⟨_, h, trivial⟩
  | dict ps =>
    obtain ⟨kvs, kds, e1, e2, r⟩ := h
    exact ⟨_, e2, trivial⟩
  | _ => exact h.elim
theorem Kids.grow {F H F' H' : Hp} (g : Grow T F H F' H') {vs : List V} {ds : List D} {A : List Addr} (k : Kids F H vs ds A) : Kids F' H' vs ds A := k.mono g.f fun a ha => by
  obtain ⟨n, u, e, i⟩ := k.nn a ha
  exact ⟨(g.k a u e (isD_n i)).trans n, (g.h.ap e (isD_n i)).trans e.symm⟩
theorem IsCh.grow {F H F' H' : Hp} (g : Grow T F H F' H') {v : V} {d c : D} {j : Nat} {q : Addr} (h : IsCh F H v d j q c) : IsCh F' H' v d j q c := by
  obtain ⟨p, A', xs, e, n, m, r, k, h⟩ := h
  obtain ⟨u, eu, iu⟩ := r.som
  exact ⟨p, A', xs, e, (g.k p u eu (isD_n iu)).trans n, m, r.grow g, k.grow g, h⟩
theorem rootIs.put {H : Hp} {p q : Addr} {o : HO} (n : p ≠ q) {d c' : D} {j : Nat} {xs : List V} (h : rootIs H p d xs) : rootIs (upd H q o) p (setCh d j c') xs := by
  cases d with
  | list ds => exact (upd_ne n).trans h
  | tuple ds => exact (upd_ne n).trans h
  | dict ps =>
    obtain ⟨kvs, kds, rfl, e2, e3, r⟩ := h
    refine ⟨kvs, kds.mapIdx fun i p => if i = j then (p.1, c') else p, ?_, (upd_ne n).trans e2, ?_, r⟩
    · refine List.ext_getElem? fun i => ?_
      rw [List.getElem?_mapIdx, List.getElem?_map, List.getElem?_map, List.getElem?_mapIdx]
      cases kds[i]? with
      | none => rfl
      | some p =>
        show some (if i = j then (keyT p.1, c') else (keyT p.1, p.2)) = some (keyT (if i = j then (p.1, c') else p).1, (if i = j then (p.1, c') else p).2)
        split <;> rfl
    · rw [e3]
      refine List.ext_getElem? fun i => ?_
      rw [List.getElem?_map, List.getElem?_map, List.getElem?_mapIdx]
      cases kds[i]? with
      | none => rfl
      | some p =>
        show some p.1 = some (if i = j then (p.1, c') else p).1
        split <;> rfl
  | _ => exact h.elim
theorem kids_set {d c' : D} {j : Nat} : kidsD (setCh d j c') = (kidsD d).set j c' := by
  cases d with
  | dict ps =>
    refine List.ext_getElem? fun i => ?_
    show ((ps.mapIdx fun i p => if i = j then (p.1, c') else p).map (·.2))[i]? = ((ps.map (·.2)).set j c')[i]?
    rw [List.getElem?_map, List.getElem?_mapIdx, List.getElem?_set]
    rw [List.getElem?_map, List.length_map]
    by_cases h : j = i
    · subst h
      rw [if_pos rfl]
      cases e : ps[j]? with
      | none =>
        rw [if_neg (by
          rw [List.getElem?_eq_none_iff] at e
          omega)]
        rfl
      | some p =>
        rw [if_pos (List.getElem?_eq_some_iff.mp e).1]
        simp
    · rw [if_neg h]
      cases e : ps[i]? with
      | none => rfl
      | some p => simp [Ne.symm h]
  | list ds => rfl
  | tuple ds => rfl
  | _ => rfl
/-- a child is written -/
theorem IsCh.put {F H : Hp} {v : V} {d c c' : D} {j : Nat} {q : Addr} {o : HO} (h : IsCh F H v d j q c) (ow : Own F (upd H q o) q c') : ∃ A, Tr F H v d A ∧ q ∈ A ∧ Tr F (upd H q o) v (setCh d j c') A := by
  obtain ⟨p, A', xs, rfl, n, m, r, k, h1, h2, h3⟩ := h
  obtain ⟨q2, e, hq, _⟩ := k.child h2 h3
  rw [h1] at e
  cases e
  have pq : p ≠ q := by
    rintro rfl
    exact m hq
  refine ⟨p :: A', ⟨p, A', rfl, n, rfl, m, trR_iff.mpr ⟨xs, r, k⟩⟩, by simp [hq], p, A', rfl, n, rfl, m, trR_iff.mpr ⟨xs, r.put pq, ?_⟩⟩
  rw [kids_set]
  exact k.put ow h1 h2 h3
theorem IsCh.own {F H : Hp} {v : V} {d c : D} {j : Nat} {q : Addr} (h : IsCh F H v d j q c) : F q = none ∧ Own F H q c := by
  obtain ⟨p, A', xs, rfl, n, m, r, k, h1, h2, h3⟩ := h
  obtain ⟨q2, e, hq, o⟩ := k.child h2 h3
  rw [h1] at e
  cases e
  exact ⟨(k.nn q hq).1, o⟩
theorem Rep.putC {K : PySem.W.Frag} {b : B} {F H F' H' : Hp} {σ : L2.St} {ρ : List Sl} (R : Rep K b F H σ ρ) (g : Grow b.T F H F' H') {i j : Nat} {q : Addr} {v : V} {d c c' : D} {o : HO} (h : ρ[i]? = some (.tr v d)) (hc : IsCh F' H' v d j q c) (ow : Own F' (upd H' q o) q c') :
    Rep K b F' (upd H' q o) σ (ρ.set i (.tr v (setCh d j c'))) := by
  refine R.chg (hk := fun k z => ow.notup k (by rw [upd_same, z])) g h fun A s1 s2 => ?_
  obtain ⟨A2, t1, hq, t2⟩ := hc.put ow
  have e : A = A2 := s2.2.1.uniq (fun _ _ e _ => e) t1
  subst e
  exact ⟨hq, A, ⟨s2.1, t2, s2.2.2⟩, fun a ha => .inl ha⟩
/-! ### expressions -/
section
variable {X : Cx} {W : WT} {pos : Pos}
def Sl.tre : Sl → Option D
  | .fz d => some d
  | .ln d => some d
  | .ow d => some d
  | .tr _ d => some d
  | .lt d => some d
  | _ => none
def dVt (i : Nat) : DT := fun ρ P _ => ∃ d, ρ[i]?.bind Sl.tre = some d ∧ isLT d = true ∧ P d
theorem Rep.tree {K : PySem.W.Frag} {b : B} {F H : Hp} {σ : L2.St} {ρ : List Sl} (R : Rep K b F H σ ρ) {i : Nat} {d : D} (e : ρ[i]?.bind Sl.tre = some d) (hd : isLT d = true) : ∃ v, σ[i]? = some (some v) ∧ VR .rt K b F H v d := by
  obtain ⟨s, es, e⟩ := Option.bind_eq_some_iff.mp e
  have q := R.sl i _ es
  cases s with
  | «at» _ => cases e
  | un => cases e
  | fz d' =>
    cases e
    obtain ⟨v, e1, r⟩ := q
    exact ⟨v, e1, .inl (.inl r)⟩
  | ln d' =>
    cases e
    obtain ⟨v, e1, r⟩ := q
    exact ⟨v, e1, .inl (VR.rd (m := .st) rfl R.g r)⟩
  | ow d' =>
    cases e
    obtain ⟨v, e1, q⟩ := q
    refine ⟨v, e1, .inl ?_⟩
    rcases q with ⟨a, e2, n, n2, o⟩ | q
    · exact .inr ⟨a, e2, o.rdb⟩
    · exact .inl q.dq
  | tr v d' =>
    cases e
    obtain ⟨e1, A, t, _⟩ := q
    exact ⟨v, e1, t.rd hd⟩
  | lt d' =>
    cases e
    obtain ⟨v, e1, r⟩ := q
    exact ⟨v, e1, RTr.same R.g.f R.g.h r⟩
theorem de_vt (i : Nat) {x : Str} {pos : Pos} (hN : X.N[i]? = some x := by rfl) (hv : Vis X.env.scope x := by first | exact Or.inl rfl | exact Or.inr (Or.inl rfl) | exact Or.inr (Or.inr rfl)) (hd : (x == ("__debug__" : Str)) = false := by decide)
    (hcd : (x == ("__classdict__" : Str)) = false := by decide) : DE X W .rt (.Name x pos) (dVt i) := by
  refine ⟨_, pe_var hN hv hd hcd, fun b F H σ ρ Q P Z R z q k => ?_⟩
  obtain ⟨d, e, hd, p⟩ := q
  obtain ⟨v, e1, r⟩ := R.tree e hd
  exact ⟨v, e1, goes_now k R.g p r trivial⟩
/-- a child of an own tree, to be written -/
abbrev DTc := List Sl → (V → D → Nat → D → Prop) → Zs → Prop
structure DCh (X : Cx) (W : WT) (i : Nat) (e : Expr) (t : DTc) : Prop where
  ok : ∃ te : TE, PE X e te ∧ ∀ (b : B) (F H : Hp) (σ : L2.St) (ρ : List Sl) (Q : VK) (P : V → D → Nat → D → Prop) (Z : Zs), Rep X.K b F H σ ρ → ZOk X.mg X.K b F Z W → t ρ P Z →
    (∀ v d j c q F' H', P v d j c → Grow b.T F H F' H' → ρ[i]? = some (.tr v d) → IsCh F' H' v d j q c → Q (.ref q) H') → te σ H Q
theorem atI_ixN {α : Type} {xs : List α} {n : Int} {j : Nat} {x : α} (h : ixN xs.length n = some j) (h2 : xs[j]? = some x) : atI xs n = some x := by
  unfold atI
  rw [h]
  exact h2
def dCh (i : Nat) (tk : DT) : DTc := fun ρ P Z => ∃ v d, ρ[i]? = some (.tr v d) ∧ tk ρ (fun kd => ∃ ds n j c, (d = .list ds ∨ d = .tuple ds) ∧ kd = .int n ∧ ixN ds.length n = some j ∧ ds[j]? = some c ∧ atmB c = false ∧ P v d j c) Z
theorem dc_ix (i : Nat) {m : Md} {x : Str} {p0 : Pos} {k : Expr} {tk : DT} (hx : PE X (.Name x p0) (tVar i)) (hk : DE X W m k tk) (hs : PlainIx k) (hm : m.sh = true := by rfl) : DCh X W i (.Subscript (.Name x p0) k pos) (dCh i tk) := by
  obtain ⟨te, p, s⟩ := hk.ok
  refine ⟨_, pe_ix ix_two hx p hs, fun b F H σ ρ Q P Z R z q kk => ?_⟩
  obtain ⟨v, d, e, q⟩ := q
  refine ⟨v, (R.sl i _ e).1, s b F H σ ρ _ _ Z R z q fun kd kv F1 H1 p1 g r _ => ?_⟩
  obtain ⟨ds, n, j, c, hd, rfl, hj, hc, ha, p1⟩ := p1
  have R1 := R.grow g
  have ek := vr_int (r.rd hm (R.g.trans g))
  obtain ⟨_, A, ⟨p, A', rfl, n1, rfl, m1, t⟩, _⟩ := R1.sl i _ e
  obtain ⟨xs, rt, kd⟩ := trR_iff.mp t
  have kdd : (kidsD d)[j]? = some c := by rcases hd with rfl | rfl <;> exact hc
  obtain ⟨q, h1, h2, h3⟩ := kd.child kdd ha
  have ic : IsCh F1 H1 (.ref p) d j q c := ⟨p, A', xs, rfl, n1, m1, rt, kd, h1, kdd, ha⟩
  have hl : ixN xs.length n = some j := by
    rw [kd.len]
    rcases hd with rfl | rfl <;> exact hj
  have hq := kk _ d j c q F1 H1 p1 g e ic
  rcases hd with rfl | rfl
  · exact .inl ⟨p, xs, n, _, rfl, ek, .of rt, atI_ixN hl h1, hq⟩
  · exact .inr ⟨p, xs, n, _, rfl, ek, .of rt, atI_ixN hl h1, hq⟩
variable {rm : Md}
/-- x[i][k] = e: the child is a list -/
def dPut2 (i : Nat) (tc : DTc) (tk t : DT) : DS := fun d Z ρ => t ρ (fun y => tc ρ (fun v x j c => tk ρ (fun k => ∃ ds n m, c = .list ds ∧ k = .int n ∧ ixN ds.length n = some m ∧ d.nx (ρ.set i (.tr v (setCh x j (.list (ds.set m y)))))) Z) Z) Z
theorem ds_put2 (i : Nat) {o k e : Expr} {tpos : Pos} {tc : DTc} {tk t : DT} (ho : DCh X W i o tc) (hk : DE X W .fz k tk) (h : DE X W .fz e t)
    (ha : ∀ v, assign (.Subscript o k tpos) X.env v = (do
      let ov ← holding [v] (eval o X.env)
      let iv ← holding [v, ov] (eval k X.env)
      standAt tpos
      holding [v, ov, iv] (setItem ov iv v)
      release [v, ov, iv] []) := by intro _; rfl)
    (hs : swapsWithSole [.Subscript o k tpos] e pos.line X.env = pure false := by rfl) (hw : swappedStores [.Subscript o k tpos] e X.env = pure none := by rfl)
    (h1 : (assignEach [.Subscript o k tpos] X.env).map (·.2) = [assign (.Subscript o k tpos) X.env] := by rfl) : DS1 X W rm (.Assign [.Subscript o k tpos] e pos) (dPut2 i tc tk t) := by
  obtain ⟨te, p, s⟩ := h.ok
  obtain ⟨tek, pk, sk⟩ := hk.ok
  obtain ⟨teo, po, so⟩ := ho.ok
  refine ⟨_, ps_asg p (pg_sub po pk set_list ha) hs hw h1, fun b F H σ ρ D d Z R z q c => ?_⟩
  refine s b F H σ ρ _ _ Z R z q fun y v F1 H1 p1 g r f => so b F1 H1 σ ρ _ _ Z (R.grow g) (z.mono g.f) p1 fun v0 x j cd q F2 H2 p2 g2 e ic => sk b F2 H2 σ ρ _ _ Z ((R.grow g).grow g2) (z.mono (g.f.trans g2.f)) p2 fun kd kv F3 H3 p3 g3 r3 _ => ?_
  obtain ⟨ds, n, m, rfl, rfl, hm, p3⟩ := p3
  cases r3
  have ic3 := ic.grow g3
  obtain ⟨nq, xs, hH, dq⟩ := ic3.own
  have hl : xs.length = ds.length := dq.length
  refine ⟨q, xs, n, m, rfl, rfl, hH, by rw [hl]; exact hm, ?_⟩
  have gg := g.trans (g2.trans g3)
  exact c.nx _ F3 _ σ gg.f (R.putC gg e ic3 (own_mkL upd_same (dq.set m ((r.mono g2.f).mono g3.f)))) p3
/-- .. a dict by ints and texts -/
def dPut2K (i : Nat) (tc : DTc) (tk t : DT) : DS := fun d Z ρ => t ρ (fun y => tc ρ (fun v x j c => tk ρ (fun k => ∃ kds ks, c = dctK kds ∧ k = keyD ks ∧ kds.length ≤ 100000 ∧ d.nx (ρ.set i (.tr v (setCh x j (dctK (putD kds ks y)))))) Z) Z) Z
theorem ds_put2K (i : Nat) {o k e : Expr} {tpos : Pos} {tc : DTc} {tk t : DT} (hu : X.A.units + 1 < cLine) (ho : DCh X W i o tc) (hk : DE X W .fz k tk) (h : DE X W .fz e t)
    (hs : swapsWith e (some (.Subscript o k tpos)) pos.line X.env = pure false := by rfl) : DS1 X W rm (.Assign [.Subscript o k tpos] e pos) (dPut2K i tc tk t) := by
  obtain ⟨te, p, s⟩ := h.ok
  obtain ⟨tek, pk, sk⟩ := hk.ok
  obtain ⟨teo, po, so⟩ := ho.ok
  refine ⟨_, ps_dput hu po pk p hs, fun b F H σ ρ D d Z R z q c => ?_⟩
  refine s b F H σ ρ _ _ Z R z q fun y v F1 H1 p1 g r f => so b F1 H1 σ ρ _ _ Z (R.grow g) (z.mono g.f) p1 fun v0 x j cd q F2 H2 p2 g2 e ic => sk b F2 H2 σ ρ _ _ Z ((R.grow g).grow g2) (z.mono (g.f.trans g2.f)) p2 fun kd kv F3 H3 p3 g3 r3 _ => ?_
  obtain ⟨kds, ks, rfl, rfl, hl, p3⟩ := p3
  have ec := key1_dq r3
  subst ec
  have ic3 := ic.grow g3
  obtain ⟨nq, ow⟩ := ic3.own
  obtain ⟨kvs, hH, hk1, hq⟩ := own_K ow
  refine ⟨q, _, rfl, DPut.k hH (by rw [kd_len hk1]; exact lt5 hl), ?_⟩
  have gg := g.trans (g2.trans g3)
  exact c.nx _ F3 _ σ gg.f (R.putC gg e ic3 (own_mkK upd_same (kd_put_keys hk1 ks v y) (kd_put hk1 hq ((r.mono g2.f).mono g3.f) ks))) p3
/-- x[i].append(e) -/
def dApp2 (i : Nat) (tc : DTc) (t : DT) : DS := fun d Z ρ => tc ρ (fun v x j c => ∃ ds, c = .list ds ∧ ds.length ≤ 100000 ∧ t ρ (fun y => d.nx (ρ.set i (.tr v (setCh x j (.list (ds ++ [y])))))) Z) Z
theorem ds_app2 (i : Nat) {o e : Expr} {apos cpos : Pos} {tc : DTc} {t : DT} (ho : DCh X W i o tc) (h : DE X W .fz e t) (hs0 : swapsWith (.Call (.Attribute o "append" apos) [e] [] cpos) none pos.line X.env = pure false := by rfl)
    (hbase : attributeBase o "append" X.env (eval o X.env) = eval o X.env := by rfl)
    (hfew : ((backTo cpos (starEach (e :: []) X.env)).all (fun x => !x.1) && (backToKw cpos (keywordEach [] X.env)).all (fun x => x.1.isSome)
      && decide ((e :: []).length + ([] : List Keyword).length + (if ([] : List Keyword).isEmpty then 0 else 1) < 30)) = true := by rfl)
    (hline : (apos.endLine == cpos.line) = true := by rfl) (hs : starEach (e :: []) X.env = (false, eval e X.env) :: starEach [] X.env := by rfl) (hplain : (backTo cpos (starEach [] X.env)).any (·.1) = false := by rfl) :
    DS1 X W rm (.Expr (.Call (.Attribute o "append" apos) [e] [] cpos) pos) (dApp2 i tc t) := by
  obtain ⟨te, p, s⟩ := h.ok
  obtain ⟨teo, po, so⟩ := ho.ok
  refine ⟨_, ps_expr (pe_bm PySem.F.plainAttrs_list PySem.F.slot_list_append PySem.F.type_list_append mt_append po (pa_cons p pa_nil hs) hbase hfew hline hs hplain) hs0, fun b F H σ ρ D d Z R z q c => ?_⟩
  refine so b F H σ ρ _ _ Z R z q fun v0 x j cd q F2 H2 p2 g2 e ic => ?_
  obtain ⟨ds, rfl, hl, p2⟩ := p2
  obtain ⟨nq, xs, hH, dq⟩ := ic.own
  refine ⟨.inl ⟨rfl, _, SqL.of hH⟩, s b F2 H2 σ ρ _ _ Z (R.grow g2) (z.mono g2.f) p2 fun y v F3 H3 p3 g3 r f => ?_⟩
  have ic3 := ic.grow g3
  refine ⟨q, xs, v, rfl, rfl, g3.h.ap hH, by rw [dq.length]; exact lt5 hl, ?_⟩
  exact c.nx _ F3 _ σ (g2.f.trans g3.f) (R.putC (g2.trans g3) e ic3 (own_mkL upd_same ((dq.mono g3.f).snoc r))) p3
/-! a dict without a key -/
def dropD {κ : Type} [DecidableEq κ] (kds : List (κ × D)) (k : κ) : List (κ × D) := kds.filter fun p => !decide (p.1 = k)
theorem kd_drop {F : Hp} {κ : Type} [DecidableEq κ] {k : κ} : ∀ {kvs : List (κ × V)} {kds : List (κ × D)}, kvs.map (·.1) = kds.map (·.1) → DqA F (kvs.map (·.2)) (kds.map (·.2)) →
    ((kvs.filter fun p => !decide (p.1 = k)).map (·.1) = (dropD kds k).map (·.1)) ∧ DqA F ((kvs.filter fun p => !decide (p.1 = k)).map (·.2)) ((dropD kds k).map (·.2))
  | [], [], _, _ => ⟨rfl, .nil⟩
  | [], _ :: _, h, _ => by simp at h
  | _ :: _, [], h, _ => by simp at h
  | p :: kvs, q :: kds, h, a => by
    simp only [List.map_cons, List.cons.injEq] at h
    cases a with
    | cons a1 a2 =>
      obtain ⟨i1, i2⟩ := kd_drop (k := k) h.2 a2
      unfold dropD at *
      by_cases e : q.1 = k
      · have e' : p.1 = k := h.1.trans e
        rw [List.filter_cons_of_neg (by simp [e']), List.filter_cons_of_neg (by simp [e])]
        exact ⟨i1, i2⟩
      · have e' : ¬ p.1 = k := fun z => e (h.1.symm.trans z)
        rw [List.filter_cons_of_pos (by simp [e']), List.filter_cons_of_pos (by simp [e])]
        refine ⟨?_, .cons a1 i2⟩
        rw [List.map_cons, List.map_cons, i1, h.1]
theorem dropK_eq {kvs : List (Key × V)} {k : Key} : dropK kvs k = kvs.filter fun p => !decide (p.1 = k) := by
  unfold dropK
  refine congrArg (fun f => kvs.filter f) ?_
  funext p
  simp
/-- x[i].pop(k): a dict's key goes -/
def dPop2K (i : Nat) (tc : DTc) (tk : DT) : DS := fun d Z ρ => tc ρ (fun v x j c => ∃ kds, c = dctK kds ∧ tk ρ (fun k => ∃ ks y, k = keyD ks ∧ valD kds ks = some y ∧ d.nx (ρ.set i (.tr v (setCh x j (dctK (dropD kds ks)))))) Z) Z
theorem ds_pop2K (i : Nat) {o k : Expr} {apos cpos : Pos} {tc : DTc} {tk : DT} (ho : DCh X W i o tc) (hk : DE X W .fz k tk) (m : M1 X o "pop" apos k cpos := by exact ⟨rfl, rfl, rfl, rfl⟩) (hs0 : swapsWith (.Call (.Attribute o "pop" apos) [k] [] cpos) none pos.line X.env = pure false := by rfl) :
    DS1 X W rm (.Expr (.Call (.Attribute o "pop" apos) [k] [] cpos) pos) (dPop2K i tc tk) := by
  obtain ⟨tek, pk, sk⟩ := hk.ok
  obtain ⟨teo, po, so⟩ := ho.ok
  refine ⟨_, ps_expr (pe_dpop1 po pk m) hs0, fun b F H σ ρ D d Z R z q c => ?_⟩
  refine so b F H σ ρ _ _ Z R z q fun v0 x j cd q F2 H2 p2 g2 e ic => ?_
  obtain ⟨kds, rfl, p2⟩ := p2
  obtain ⟨nq, ow⟩ := ic.own
  obtain ⟨kvs, hH, hk1, hq⟩ := own_K ow
  refine ⟨q, rfl, (.inl ⟨kvs, .inl hH⟩ : L2.IsD H2 q), sk b F2 H2 σ ρ _ _ Z (R.grow g2) (z.mono g2.f) p2 fun kd kv F3 H3 p3 g3 r3 _ => ?_⟩
  obtain ⟨ks, y, rfl, hv, p3⟩ := p3
  have ec := key1_dq r3
  subst ec
  have ic3 := ic.grow g3
  have hv2 := kd_val (F := F2) ks hk1 hq
  rw [hv] at hv2
  obtain ⟨w, ew, _⟩ := hv2.val
  refine ⟨kvs, ks, w, g3.h.ap hH, rfl, ew, ?_⟩
  obtain ⟨d1, d2⟩ := kd_drop (k := ks) hk1 (hq.mono g3.f)
  have ow3 : Own F3 (upd H3 q (.dK (dropK kvs ks))) q (dctK (dropD kds ks)) := own_mkK upd_same (by rw [dropK_eq]; exact d1) (by rw [dropK_eq]; exact d2)
  exact c.nx _ F3 _ σ (g2.f.trans g3.f) (R.putC (g2.trans g3) e ic3 ow3) p3
end
end DL
set_option maxRecDepth 100000
set_option maxHeartbeats 4000000
/-! DM1: a def that changes the caller's tree (its first argument). -/
namespace DL
open PySem PySem.Spec PyProof.Rows L2
variable {T : List (Addr × Str)}
def hideA (H : Hp) (A : List Addr) : Hp := fun a => if a ∈ A then none else H a
theorem hide_in {H : Hp} {A : List Addr} {a : Addr} (h : a ∈ A) : hideA H A a = none := by unfold hideA; rw [if_pos h]
theorem hide_out {H : Hp} {A : List Addr} {a : Addr} (h : a ∉ A) : hideA H A a = H a := by unfold hideA; rw [if_neg h]
theorem hide_some {H : Hp} {A : List Addr} {a : Addr} {o : HO} (h : hideA H A a = some o) : a ∉ A ∧ H a = some o := by
  by_cases q : a ∈ A
  · rw [hide_in q] at h
    cases h
  · rw [hide_out q] at h
    exact ⟨q, h⟩
theorem tabs_hide {H : Hp} {A : List Addr} (h : ∀ a ∈ A, ∃ u, H a = some u ∧ IsD u) (t : LamX.Tabs T H) : LamX.Tabs T (hideA H A) := by
  intro r hr
  obtain ⟨ps, h1, h2, h3⟩ := t r hr
  have out : ∀ {a : Addr} {o : HO}, H a = some o → ¬ IsD o → a ∉ A := fun e n ha => by
    obtain ⟨u, e2, i⟩ := h _ ha
    rw [e] at e2
    cases e2
    exact n i
  refine ⟨ps, by rw [hide_out (out h1 id)]; exact h1, h2, fun pos cv hc => ?_⟩
  obtain ⟨c, e1, e2⟩ := h3 pos cv hc
  refine ⟨c, e1, ?_⟩
  rw [hide_out (out e2 id)]
  exact e2
theorem grow_hide {F H : Hp} (g : Grow T F H F H) (A : List Addr) : Grow T F (hideA H A) F H :=
  ⟨⟨fun b o e _ => (hide_some e).2, fun t => LamX.Tabs.ext t fun b o e => (hide_some e).2⟩, Same.refl _, g.s, fun _ _ _ _ => rfl, g.n, g.c⟩
/-- the tree comes back from a call -/
theorem Rep.back {K : PySem.W.Frag} {b : B} {F H F' H' : Hp} {σ : L2.St} {ρ : List Sl} (R : Rep K b F H σ ρ) {i : Nat} {v : V} {d d' : D} {A A' : List Addr} (e : ρ[i]? = some (.tr v d)) (t : Tr F H v d A) (g : Grow b.T F (hideA H A) F' H') (t' : Tr F' H' v d' A') (n' : ∀ a ∈ A', Nn (hideA H A) a) :
    Rep K b F' H' σ (ρ.set i (.tr v d')) := by
  obtain ⟨fp, f1, f2, f3⟩ := R.ex
  have q := f1 i _ e
  have eA : fp i = A := q.2.1.uniq (fun _ _ e _ => e) t
  have hi : i < ρ.length := (List.getElem?_eq_some_iff.mp e).1
  have nA : ∀ a ∈ A, Nn b.H a := by rw [← eA]; exact q.2.2
  have up : ∀ a o, b.H a = some o → (∀ ps, o ≠ .tbl ps) → hideA H A a = some o := fun a o e n => by
    rw [hide_out fun ha => by
      obtain ⟨ps, z⟩ := nA a ha o e
      exact n ps z]
    exact R.g.h.ap e n
  have keep : ∀ j, j ≠ i → ∀ a ∈ fp j, F' a = none ∧ H' a = H a ∧ ∃ u, hideA H A a = some u ∧ IsD u := fun j hj a ha => by
    cases es : ρ[j]? with
    | none => rw [f2 j es] at ha; simp at ha
    | some s =>
      obtain ⟨n, _, u, eu, iu⟩ := (f1 j s es).mem a ha
      have hA : a ∉ A := fun z => f3 j i a hj ha (eA ▸ z)
      have eh : hideA H A a = some u := (hide_out hA).trans eu
      exact ⟨(g.k a u eh (isD_n iu)).trans n, (g.h.ap eh (isD_n iu)).trans eu.symm, u, eh, iu⟩
  refine ⟨⟨⟨fun a o e n => g.h.e a o (up a o e n) n, fun t0 => g.h.t (tabs_hide (fun a ha => (t.nn a ha).2) (R.g.h.t t0))⟩, R.g.f.trans g.f, g.s, fun a o e n => (g.k a o (up a o e n) n).trans (R.g.k a o e n), g.n, g.c⟩,
    g.h.t (tabs_hide (fun a ha => (t.nn a ha).2) R.tt), by rw [List.length_set]; exact R.len, ovr fp (fun j => decide (j = i)) A', fun j s es => ?_, fun j es => ?_, fun j k a hjk h1 h2 => ?_⟩
  · by_cases hj : j = i
    · subst hj
      rw [List.getElem?_set_self hi] at es
      cases es
      rw [ovr_pos (by simp)]
      refine ⟨q.1, t', fun a ha u eu => ?_⟩
      refine Classical.byContradiction fun c => ?_
      obtain ⟨ps, z⟩ := n' a ha u (up a u eu fun ps z => c ⟨ps, z⟩)
      exact c ⟨ps, z⟩
    · rw [List.getElem?_set_ne (Ne.symm hj)] at es
      rw [ovr_neg (by simpa using hj)]
      exact (f1 j s es).mono g.f fun a ha => ⟨(keep j hj a ha).1, (keep j hj a ha).2.1⟩
  · have hj : j ≠ i := by
      rintro rfl
      rw [List.getElem?_set_self hi] at es
      cases es
    rw [List.getElem?_set_ne (Ne.symm hj)] at es
    rw [ovr_neg (by simpa using hj)]
    exact f2 j es
  · have out : ∀ m, m ≠ i → a ∈ fp m → a ∈ A' → False := fun m hm h1 h2 => by
      obtain ⟨_, _, u, eu, iu⟩ := keep m hm a h1
      obtain ⟨ps, z⟩ := n' a h2 u eu
      exact isD_n iu ps z
    by_cases hj : j = i
    · rw [ovr_pos (by simpa using hj)] at h1
      by_cases hk : k = i
      · exact hjk (hj.trans hk.symm)
      · rw [ovr_neg (by simpa using hk)] at h2
        exact out k hk h2 h1
    · rw [ovr_neg (by simpa using hj)] at h1
      by_cases hk : k = i
      · rw [ovr_pos (by simpa using hk)] at h2
        exact out j hj h1 h2
      · rw [ovr_neg (by simpa using hk)] at h2
        exact f3 j k a hjk h1 h2
/-! ### its contract -/
/-- what stands in the tree, the other arguments, what is wanted of the tree behind -/
abbrev CM := D → List D → (D → Prop) → Prop
def spM (mg : Str → Option Value) (K : PySem.W.Frag) (T : List (Addr × Str)) (n : Nat) (w : CM) : Sp := fun vs H Q _ => ∃ (F : Hp) (v0 : V) (vs' : List V) (d0 : D) (ds : List D) (A : List Addr) (P : D → Prop), vs = v0 :: vs' ∧ Tr F H v0 d0 A ∧ Grow T F H F H ∧ LamX.Tabs T H ∧
  VRs K ⟨F, hideA H A, T⟩ F H (List.replicate n .fz) vs' ds ∧ w d0 ds P ∧ ∀ d' F' H' A', P d' → Grow T F (hideA H A) F' H' → Tr F' H' v0 d' A' → (∀ a ∈ A', Nn (hideA H A) a) → Q .non H'
def bodyM (N : Nat) (n : Nat) (t : DS) : CM := fun d0 ds P => ∀ v, t { nx := fun ρ => ∃ d', ρ[0]? = some (.tr v d') ∧ P d', rt := fun _ => False } Z0 (.tr v d0 :: initD N (List.replicate n .fz) ds)
structure DfM (P : Program) (w : World) (K : PySem.W.Frag) (mg : Str → Option Value) (base : Heap) (T : List (Addr × Str)) (k : Nat) (x : Str) (n : Nat) (W : CM) : Prop where
  ex : ∃ (f : Addr) (fd : FuncData) (ps : List Str), FnOk P w K mg base CX0 k f fd ps (spM mg K T n W) ∧ mg x = some (.ref f) ∧ PySem.W.keepIn K (.ref f) = true ∧ Binds K fd ps []
section
variable {P : Program} {w : World} {K : PySem.W.Frag} {mg : Str → Option Value} {base : Heap}
theorem start_cons {N : List Str} {y : Str} {v : V} {vs : List V} : L2.start (y :: N) (v :: vs) = some v :: L2.start N vs := by
  unfold L2.start
  rw [List.map_cons, List.cons_append, List.length_cons, List.length_cons, Nat.add_sub_add_right]
theorem dfM {x : Str} {st : Stmt} {y : Str} {N ps : List Str} {k n : Nat} {t : DS} {T : List (Addr × Str)} (TF : FnF K mg x st) (S : FnScope (y :: N) ps (defScope st)) (hl : n + 1 = ps.length) (hbd : Bnd x st ps)
    (hb : ∀ (f : Addr) (cdv : Value) (A : Around) (outer : List Env) (s : Shared) (H : Hp) (E : XK), Room k (A.deeper (envOfC x (defScope st) s.heap.objs.size f cdv)) → DSs (cxOf CX0 P w K mg base (y :: N) x (defScope st) f cdv A outer s H E).nox (W0 T) .fz (defBody st) t) :
    DfM P w K mg base T (k + 1) x n (bodyM N.length n t) := by
  obtain ⟨f, fd, F, hm⟩ := TF.ex
  refine ⟨f, fd, ps, F.ok S (fun vs H Q E h => ?_) (fun cdv A outer s H vs Q E hr h => ?_), hm, F.kp, F.binds hbd⟩
  · obtain ⟨_, v0, vs', _, ds, _, _, rfl, _, _, _, r, _⟩ := h
    rw [← hl, List.length_cons, (vrs_len r).1, List.length_replicate]
  · obtain ⟨F0, v0, vs', d0, ds, A0, Pd, rfl, t0, sm, tt, r, hw, kk⟩ := h
    obtain ⟨ts, p, sem⟩ := (hb f cdv A outer s H E hr).ok
    have g0 := grow_hide sm A0
    refine ⟨ts, p, sem ⟨F0, hideA H A0, T⟩ F0 H _ (.tr v0 d0 :: initD N.length (List.replicate n .fz) ds) _ { nx := fun ρ => ∃ d', ρ[0]? = some (.tr v0 d') ∧ Pd d', rt := fun _ => False } Z0 ?_ (zok0 rfl) (hw v0) ?_⟩
    · obtain ⟨l1, l2⟩ := vrs_len r
      have lz : (List.zipWith Md.sl (List.replicate n .fz) ds).length = vs'.length := by rw [List.length_zipWith]; omega
      have rs : ∀ (i : Nat) (s : Sl), (initD N.length (List.replicate n .fz) ds)[i]? = some s → SlF K ⟨F0, hideA H A0, T⟩ F0 H (L2.start N vs')[i]? s [] := fun i s h => by
        unfold initD at h
        unfold L2.start
        by_cases hi : i < vs'.length
        · rw [List.getElem?_append_left (by rw [lz]; exact hi)] at h
          rw [List.getElem?_append_left (by rw [List.length_map]; exact hi)]
          have main : ∀ {m : Nat} {vs : List V} {ds : List D}, VRs K ⟨F0, hideA H A0, T⟩ F0 H (List.replicate m .fz) vs ds → ∀ (i : Nat) (s : Sl), (List.zipWith Md.sl (List.replicate m .fz) ds)[i]? = some s → SlF K ⟨F0, hideA H A0, T⟩ F0 H (vs.map some)[i]? s [] := by
            intro m
            induction m with
            | zero =>
              intro vs ds r i s h
              simp at h
            | succ m ih =>
              intro vs ds r i s h
              rw [List.replicate_succ] at r h
              cases r with
              | cons r q =>
                cases i with
                | zero =>
                  simp only [List.zipWith_cons_cons, List.getElem?_cons_zero, Option.some.injEq] at h
                  subst h
                  exact ⟨rfl, _, rfl, r⟩
                | succ i =>
                  simp only [List.zipWith_cons_cons, List.getElem?_cons_succ] at h
                  exact ih q i s h
          exact main r i s h
        · rw [List.getElem?_append_right (by rw [lz]; omega), List.getElem?_replicate] at h
          split at h
          · cases h
            rfl
          · cases h
      refine ⟨g0, tt, ?_, fun j => if j = 0 then A0 else [], fun i s h => ?_, fun i h => ?_, fun i j a hij h1 h2 => ?_⟩
      · rw [start_cons, List.length_cons, List.length_cons]
        unfold L2.start initD
        rw [List.length_append, List.length_append, List.length_map, List.length_replicate, List.length_replicate, lz, l1, List.length_replicate]
      · rw [start_cons]
        cases i with
        | zero =>
          simp only [List.getElem?_cons_zero, Option.some.injEq] at h
          subst h
          exact ⟨rfl, t0, fun a ha => nn_of (hide_in ha)⟩
        | succ i =>
          simp only [List.getElem?_cons_succ] at h ⊢
          exact rs i s h
      · cases i with
        | zero => simp at h
        | succ i => rfl
      · cases i with
        | zero =>
          cases j with
          | zero => exact hij rfl
          | succ j => simp at h2
        | succ i => simp at h1
    · refine ⟨fun ρ F' H' σ s R q => ?_, fun _ _ _ _ _ _ q => q.elim, fun _ _ _ _ _ _ q => q.elim, fun x v F' H' g r f p => p.elim⟩
      obtain ⟨d', e, p⟩ := q
      obtain ⟨_, A', t', n'⟩ := R.sl 0 _ e
      exact kk d' F' H' A' p R.g t' n'
end
section
variable {X : Cx} {W : WT} {rm : Md} {pos : Pos}
def dCallM (i : Nat) (w : CM) (ta : DTa) : DS := fun d Z ρ => ∃ v x, ρ[i]? = some (.tr v x) ∧ ta ρ (fun ds => w x ds (fun d' => d.nx (ρ.set i (.tr v d')))) Z
theorem ds_callM (i : Nat) {k n : Nat} {x y : Str} {w : CM} {es : List Expr} {ta : DTa} {p py cpos : Pos} (G : DfM X.prog X.w X.K X.mg X.base W.T k x n w) (hr : Room k X.A) (hy : PE X (.Name y py) (tVar i)) (ha : DA X W (List.replicate n .fz) es ta) (hg : Gl X x := by rfl) (hdb : (x == ("__debug__" : Str)) = false := by decide)
    (he : starEach (.Name y py :: es) X.env = (false, eval (.Name y py) X.env) :: starEach es X.env := by rfl) (hpl : (backTo cpos (starEach es X.env)).any (·.1) = false := by rfl) (hs : swapsWith (.Call (.Name x p) (.Name y py :: es) [] cpos) none pos.line X.env = pure false := by rfl) :
    DS1 X W rm (.Expr (.Call (.Name x p) (.Name y py :: es) [] cpos) pos) (dCallM i w ta) := by
  obtain ⟨f, fd, ps, F, hm, hk, hb⟩ := G.ex
  obtain ⟨te, pa, s⟩ := ha.ok
  refine ⟨_, ps_expr (pe_call F hr hg hm hk hb .nil pass0 (pa_cons hy pa he) hdb he hpl) hs, fun b F0 H σ ρ D d Z R z q c => ?_⟩
  obtain ⟨v, x0, e, q⟩ := q
  refine ⟨v, (R.sl i _ e).1, s b F0 H σ ρ _ _ Z R z q fun ds vs F1 H1 p1 g r => ?_⟩
  have R1 := R.grow g
  obtain ⟨_, A, t, nA⟩ := R1.sl i _ e
  show spM X.mg X.K W.T n w ((v :: vs) ++ []) H1 _ _
  rw [List.append_nil]
  refine ⟨F1, v, vs, x0, ds, A, _, rfl, t, z.t ▸ Grow.refl R1.g, z.t ▸ R1.tt, ?_, p1, fun d' F' H' A' pd g' t' n' => ?_⟩
  · exact vrs_b (fun m hm => by rw [List.eq_of_mem_replicate hm]; intro z; cases z) r
  · exact c.nx _ F' H' σ (g.f.trans g'.f) (R1.back e t (grow_t z.t.symm g') t' n') pd
end
end DL
set_option maxRecDepth 100000
set_option maxHeartbeats 4000000
/-! DM2: list(reversed(x)); a < b < c < d; x.index(y), x.count(y); all; zip; sorted(.., reverse=True). -/
section
open PySem PySem.Spec
variable {prog : Program} {w : World} {A : Around} {E : Value → Shared → Prop} {s : Shared}
theorem extend_rev {R : Result → Shared → Prop} {it l : Addr} {items : Array Value} (hh : A.handled = none) (hit : s.heap.IsRevIter it l ((items.size : Int) - 1)) (hl : s.heap.IsList l items) (hne : l ≠ it) (hn : items.size ≤ sizeLine) (S : Addr) (hS : s.heap.get? S = some { cls := .type "list", data := .seq #[] }) (hSi : S ≠ it) (hSl : S ≠ l)
    (hR : ∀ h' tk acc' c', (∀ b o, b ≠ S → b ≠ it → s.heap.get? b = some o → h'.get? b = some o) → h'.get? S = some { cls := .type "list", dict := none, data := .seq acc' c', slots := #[] } →
      ItemsOf (fun i v => items[items.size - 1 - i]? = some v) acc' items.size → R (.ok (.ret .none)) { s with heap := h', toks := tk }) :
    wpAny (model prog w) A.in1 (Builtin.List.listExtendWith (.ref S) (.ref it) .none)
      (fun fin s' => match fin with | .done f => R (.ok f) s' | .again c' => c'.quiet = true ∧ codeAny (model prog w) A c' R s') (fun e s' => R (.error e) s') s := by
  have W := (Walks.listRev (prog := prog) (w := w) (A := A.in1) hh it l hne items).toS
  have hSf : S ∉ [it, l] := by simp only [List.mem_cons, List.not_mem_nil, or_false, not_or]; exact ⟨hSi, hSl⟩
  have hT : s.TypeIs (.ref it) "list_reverseiterator" := Heap.IsRevIter.typeIs hit
  have h1 : Builtin.List.listSameRef (.ref S) (.ref it) = false := by simp [Builtin.List.listSameRef, hSi]
  unfold Builtin.List.listExtendWith
  refine wpAny_bind (wpAny_typeOf hT ?_)
  rw [if_neg (by rw [h1]; decide)]
  refine wpAny_bind (wpAny_pyIter_revIter hit ?_)
  refine wpAny_bind (wpAny_holding ?_)
  unfold Builtin.List.listLengthHint
  refine wpAny_bind (wpAny_specialOf hT RT.nolen_lri ?_)
  show wpAny _ A.in1 (specialOf (Value.ref it) (Str.ofString "__length_hint__") >>= _) _ _ _
  refine wpAny_bind (wpAny_specialOf hT RT.hint_lri ?_)
  generalize hid : ("list_reverseiterator.__length_hint__" : String) = id0
  wp_delta
  rw [show splitId id0 = some ("list_reverseiterator", "__length_hint__") from by subst hid; decide +kernel]
  subst hid
  refine wpAny_bind (wpAny_isInstance (b := true) hT (by rw [isSubtype_type]; kernel_rfl) ?_)
  refine wpAny_pure ?_
  rw [if_neg (by decide)]
  have e0 : ((items.size : Nat) : Int) - 1 - ((0 : Nat) : Int) = (items.size : Int) - 1 := by omega
  refine wpAny_pure ⟨plainId_quiet F.plain_extend_loop _, codeAny_extend_loopS W hn _ hSf _ items.size 0 _ _ _ rfl (Nat.zero_le _) ⟨Nat.zero_le _, by rw [e0]; exact hit, hl⟩ hS (ItemsOf.nil _) fun s' acc' c' hm hS' hacc => ?_⟩
  rw [Moved.eq_with hm]
  refine hR s'.heap s'.toks acc' c' (fun b o hb hb2 e => hm.heap b o (fun hmem => ?_) e) hS' hacc
  rcases List.mem_cons.mp hmem with e' | hmem
  · exact hb e'
  · exact hb2 (List.mem_singleton.mp hmem)
theorem call_list_rev {it l : Addr} {items : Array Value} {Q : Value → Shared → Prop} (hh : A.handled = none) (hit : s.heap.IsRevIter it l ((items.size : Int) - 1)) (hl : s.heap.IsList l items) (hne : l ≠ it) (hn : items.size ≤ sizeLine)
    (hQ : ∀ (h' : Heap) (tk : Nat) (acc : Array Value) (c : Nat), (∀ b o, b ≠ it → s.heap.get? b = some o → h'.get? b = some o) → h'.get? s.heap.objs.size = some { cls := .type "list", dict := none, data := .seq acc c, slots := #[] } →
      ItemsOf (fun i v => items[items.size - 1 - i]? = some v) acc items.size → Q (.ref s.heap.objs.size) { s with heap := h', toks := tk }) :
    wpAny (model prog w) A (call (.type "list") [.ref it]) Q E s := by
  refine callType_codes (Q₁ := fun obj s₁ => obj = .ref s.heap.objs.size ∧ s₁ = { s with heap := s.heap.push { cls := .type "list", data := .seq #[] } }) F.called_list (F.typeCall_list_1 _) F.entry_list_init
    (code_list_new _ ⟨rfl, rfl⟩) fun obj s₁ h₁ => ?_
  obtain ⟨rfl, rfl⟩ := h₁
  obtain ⟨oi, hoi, _⟩ := id hit
  obtain ⟨ol, hol, _⟩ := id hl
  have hSi : s.heap.objs.size ≠ it := Nat.ne_of_gt (Heap.lt_size hoi)
  have hSl : s.heap.objs.size ≠ l := Nat.ne_of_gt (Heap.lt_size hol)
  have hS : (s.heap.push { cls := .type "list", data := .seq #[] }).get? s.heap.objs.size = some { cls := .type "list", data := .seq #[] } := Heap.get?_push_size _ rfl
  have hit1 : (s.heap.push { cls := .type "list", data := .seq #[] }).IsRevIter it l ((items.size : Int) - 1) := hit.at fun o e => Heap.get?_push_of_some _ e
  have hl1 : (s.heap.push { cls := .type "list", data := .seq #[] }).IsList l items := hl.push _
  refine ⟨⟨_, hS, rfl⟩, F.args_list_init_2 _ _, ?_⟩
  -- list.__init__
  show wpAny _ A.in1.in1 (do let old ← Builtin.List.listItems (.ref s.heap.objs.size); Builtin.List.listUpdate (.ref s.heap.objs.size) (fun _ => #[]); letGo old.toList.reverse; Builtin.List.listExtendWith (.ref s.heap.objs.size) (.ref it) .none) _ _ _
  refine wpAny_bind ?_
  unfold Builtin.List.listItems
  refine wpAny_bind (wpAny_seqItems hS rfl (wpAny_pure ?_))
  show wpAny _ A.in1.in1 (updateSeq s.heap.objs.size (fun _ => #[]) >>= fun _ => letGo (#[] : Array Value).toList.reverse >>= fun _ => Builtin.List.listExtendWith (.ref s.heap.objs.size) (.ref it) .none) _ _ _
  refine wpAny_bind (wpAny_updateSeq hS rfl ?_)
  have hS₂ := Heap.get?_update_self (Obj.mapSeq (fun _ => (#[] : Array Value))) hS rfl
  have oth : ∀ b o, b ≠ s.heap.objs.size → (s.heap.push { cls := .type "list", data := .seq #[] }).get? b = some o → ((s.heap.push { cls := .type "list", data := .seq #[] }).update s.heap.objs.size (Obj.mapSeq (fun _ => (#[] : Array Value)))).get? b = some o :=
    fun b o hb e => (Heap.get?_update_other _ _ (Ne.symm hb)).trans e
  refine wpAny_bind (wpAny_letGo ?_)
  refine extend_rev (A := A.in1) hh (hit1.at fun o e => oth it o hSi.symm e) (hl1.at fun o e => oth l o hSl.symm e) hne hn _ hS₂ hSi hSl fun h' tk acc' c' hk hS' hacc => ?_
  refine ⟨rfl, hQ h' tk acc' c' (fun b o hb e => ?_) hS' hacc⟩
  have hbS : b ≠ s.heap.objs.size := Nat.ne_of_lt (Heap.lt_size e)
  exact hk b o hbS hb (oth b o hbS (Heap.get?_push_of_some _ e))
end
namespace DL
open PySem PySem.Spec PyProof.Rows L2
variable {T : List (Addr × Str)}
section
variable {X : Cx} {W : WT} {pos : Pos} {m : Md}
/-! ### list(reversed(x)), x a list -/
def tListRev (K : PySem.W.Frag) (te : TE) : TE := fun σ H Q => te σ H fun v H1 => ∃ (a : Addr) (xs : List V), v = .ref a ∧ SqL K H1 a xs ∧ ∀ q, H1 q = none → Q (.ref q) (upd H1 q (.lst xs.reverse))
theorem pe_listRev {e : Expr} {te : TE} {p p2 pos pos2 : Pos} (hc : X.calm = true) (hg : Gl X "list") (hm : X.mg "list" = none) (hg2 : Gl X "reversed") (hm2 : X.mg "reversed" = none) (he : PE X e te)
    (hs : starEach [e] X.env = (false, eval e X.env) :: starEach [] X.env := by rfl)
    (hs2 : starEach [.Call (.Name "reversed" p2) [e] [] pos2] X.env = (false, eval (.Call (.Name "reversed" p2) [e] [] pos2) X.env) :: starEach [] X.env := by rfl) :
    PE X (.Call (.Name "list" p) [.Call (.Name "reversed" p2) [e] [] pos2] [] pos) (tListRev X.K te) := by
  refine ⟨fun pins s σ H Q I h => ?_⟩
  refine Call_ (ld_blt I hg hm boot_list (PyProof.Rows.callWith_type1 (args_cons (Call_ (ld_blt I hg2 hm2 PyProof.Rows.boot_reversed (PyProof.Rows.callWith_type1 (args_cons (thn (he.run pins s σ H _ I h) fun u s1 ⟨v, H1, I1, r1, q1⟩ => args_nil ?_) hs) hs rfl))) hs2) hs2 rfl))
  obtain ⟨a, xs, ev, hq, q⟩ := q1
  subst ev
  obtain rfl : u = Value.ref a := r1
  obtain ⟨its, rv, p', hz⟩ := I1.list hq
  refine call_reversed_list p'.isList (args_nil ?_)
  have k0 : ∀ b o, s1.heap.get? b = some o → (s1.heap.push (revObj a ((its.toArray.size : Int) - 1))).get? b = some o := fun b o e => Heap.get?_push_of_some _ e
  have I2 : L2.Inv X pins σ H1 { s1 with heap := s1.heap.push (revObj a ((its.toArray.size : Int) - 1)) } := I1.kept (t' := s1.toks) k0
  obtain ⟨f0, f1, f2, f3, f4, f5⟩ := I1.fpOk (H' := H1) (b := s1.heap.objs.size) (Nat.le_refl _) (I1.hok.fresh (Nat.le_refl _))
  have hl := p'.isList
  obtain ⟨ol, hol, _⟩ := id hl
  have hne : a ≠ s1.heap.objs.size := Nat.ne_of_lt (Heap.lt_size hol)
  have hn : its.toArray.size ≤ sizeLine := by rw [List.size_toArray, ← rv.length]; exact hz
  refine call_list_rev (s := { s1 with heap := s1.heap.push (revObj a ((its.toArray.size : Int) - 1)) }) (I1.ok.hd hc) ⟨_, Heap.get?_push_size _ rfl, rfl, rfl⟩ (hl.push _) hne hn fun h' tk acc c hk hS hi => ?_
  have hle : s1.heap.objs.size ≤ (s1.heap.push (revObj a ((its.toArray.size : Int) - 1))).objs.size := by simp [Heap.push]
  have vr : Vals xs.reverse acc.toList := RT.vals_rev rv hi
  have I3 := I2.turnedNew (t' := tk) (T := (s1.heap.push (revObj a ((its.toArray.size : Int) - 1))).objs.size) (ch := [s1.heap.objs.size]) (ob := .lst xs.reverse) (h' := h') (fun b o hb e => hk b o (fun z => hb (by simp [z])) e) (fun b hb => by
    rw [List.mem_singleton] at hb
    subst hb
    exact ⟨f0, f1, f2, f3, f4, f5⟩) (Nat.le_refl _) ⟨by rw [List.length_reverse]; exact hz, acc.toList, c, vr, by rw [Array.toArray_toList]; exact hS⟩
  exact ⟨.ref (s1.heap.push (revObj a ((its.toArray.size : Int) - 1))).objs.size, _, I3, rfl, q _ (I1.hok.fresh hle)⟩
/-- a list turned about -/
def lrevR (x : D) (P : D → Prop) : Prop := ∃ ds, x = .list ds ∧ P (.list ds.reverse)
def dListRev (t : DT) : DT := fun ρ P Z => t ρ (fun x => lrevR x P) Z
theorem de_listRev {e : Expr} {t : DT} {p p2 pos2 : Pos} (h : DE X W m e t) (hm : X.mg "list" = none) (hm2 : X.mg "reversed" = none) (hc : X.calm = true := by rfl) (hg : Gl X "list" := by rfl) (hg2 : Gl X "reversed" := by rfl)
    (hs : starEach [e] X.env = (false, eval e X.env) :: starEach [] X.env := by rfl)
    (hs2 : starEach [.Call (.Name "reversed" p2) [e] [] pos2] X.env = (false, eval (.Call (.Name "reversed" p2) [e] [] pos2) X.env) :: starEach [] X.env := by rfl) (hsh : m.sh = true := by rfl) :
    DE X W .nw (.Call (.Name "list" p) [.Call (.Name "reversed" p2) [e] [] pos2] [] pos) (dListRev t) := by
  obtain ⟨te, pe, s⟩ := h.ok
  refine ⟨_, pe_listRev hc hg hm hg2 hm2 pe hs hs2, fun b F H σ ρ Q P Z R z q k => s b F H σ ρ _ _ Z R z q fun x v F1 H1 q1 g1 r _ => ?_⟩
  obtain ⟨ds, rfl, q1⟩ := q1
  have g0 := R.g.trans g1
  obtain ⟨a, xs, rfl, sq, dq⟩ := vr_lst g0.s (r.rd hsh g0)
  refine ⟨a, xs, rfl, sq, fun l nl => ?_⟩
  have g4 := Grow.own g0 (HO.lst xs.reverse) nl
  exact k _ _ _ _ q1 (g1.trans g4) (.inl ⟨l, rfl, g0.s.free nl, own_mkL upd_same dq.rev⟩) fun q e => by cases e; exact g1.h.free nl
/-! ### a < b < c < d -/
def tChain3 (r r' r'' : R2) (ta tb tc td : TE) : TE := fun σ H Q => ta σ H fun x H1 => tb σ H1 fun y H2 => r x y H2 fun z H3 => ∃ k, z = .bl k ∧
  (if k = true then tc σ H3 fun w' H4 => r' y w' H4 (fun z2 H5 => ∃ k2, z2 = .bl k2 ∧ (if k2 = true then td σ H5 fun w2 H6 => r'' w' w2 H6 Q else Q (.bl false) H5)) else Q (.bl false) H3)
theorem pe_chain3 {op op' op'' : CmpOp} {r r' r'' : R2} {a b c d : Expr} {ta tb tc td : TE} (ho : OpR X (compareOp op) r) (ho' : OpR X (compareOp op') r') (ho'' : OpR X (compareOp op'') r'') (ha : PE X a ta) (hb : PE X b tb) (hc : PE X c tc) (hd : PE X d td)
    (hm : lastMarks [op, op', op''] [b, c, d] = false := by with_unfolding_all rfl) : PE X (.Compare a [op, op', op''] [b, c, d] pos) (tChain3 r r' r'' ta tb tc td) := by
  refine ⟨fun pins s σ H Q I h => ?_⟩
  refine Compare_chain (thn (ha.run pins s σ H _ I h) fun v s1 ⟨x, H1, I1, r1, q1⟩ => chain_link (thn (hb.run pins s1 σ H1 _ I1 q1) fun u s2 ⟨y, H2, I2, r2, q2⟩ =>
    thn (ho pins s2 σ H2 x y v u _ I2 r1 r2 q2) fun d s3 ⟨z, H3, I3, r3, k, e, q3⟩ => ?_)) hm
  subst e
  cases r3
  refine wpAny_truthy_bool ?_
  cases k with
  | false => exact ite_ff ⟨.bl false, H3, I3, rfl, q3⟩
  | true =>
    refine ite_tt (chain_link (thn (hc.run pins s3 σ H3 _ I3 q3) fun w' s4 ⟨z', H4, I4, r4, q4⟩ => thn (ho' pins s4 σ H4 y z' u w' _ I4 r2 r4 q4) fun d2 s5 ⟨z2, H5, I5, r5, k2, e2, q5⟩ => ?_))
    subst e2
    cases r5
    refine wpAny_truthy_bool ?_
    cases k2 with
    | false => exact ite_ff ⟨.bl false, H5, I5, rfl, q5⟩
    | true => exact ite_tt (chain_last (thn (hd.run pins s5 σ H5 _ I5 q5) fun w2 s6 ⟨z3, H6, I6, r6, q6⟩ => ho'' pins s6 σ H6 z' z3 w' w2 Q I6 r4 r6 q6))
theorem pt_chain3 {op op' op'' : CmpOp} {r r' r'' : R2} {a b c d : Expr} {ta tb tc td : TE} (ho : OpR X (compareOp op) r) (ho' : OpR X (compareOp op') r') (ho'' : OpR X (compareOp op'') r'') (ha : PE X a ta) (hb : PE X b tb) (hc : PE X c tc) (hd : PE X d td)
    (hm : lastMarks [op, op', op''] [b, c, d] = false := by with_unfolding_all rfl) : PT X (.Compare a [op, op', op''] [b, c, d] pos) (tTest (tChain3 r r' r'' ta tb tc td)) := by
  refine ⟨fun pins s σ H Q I h => ?_⟩
  refine isTrue_chain (thn (ha.run pins s σ H _ I h) fun v s1 ⟨x, H1, I1, r1, q1⟩ => test_link (thn (hb.run pins s1 σ H1 _ I1 q1) fun u s2 ⟨y, H2, I2, r2, q2⟩ =>
    thn (ho pins s2 σ H2 x y v u _ I2 r1 r2 q2) fun d s3 ⟨z, H3, I3, r3, k, e, q3⟩ => ?_)) hm
  subst e
  cases r3
  refine wpAny_truthy_bool ?_
  cases k with
  | false =>
    obtain ⟨k', e', q'⟩ := q3
    cases e'
    exact ite_ff ⟨H3, I3, q'⟩
  | true =>
    refine ite_tt (test_link (thn (hc.run pins s3 σ H3 _ I3 q3) fun w' s4 ⟨z', H4, I4, r4, q4⟩ => thn (ho' pins s4 σ H4 y z' u w' _ I4 r2 r4 q4) fun d2 s5 ⟨z2, H5, I5, r5, k2, e2, q5⟩ => ?_))
    subst e2
    cases r5
    refine wpAny_truthy_bool ?_
    cases k2 with
    | false =>
      obtain ⟨k', e', q'⟩ := q5
      cases e'
      exact ite_ff ⟨H5, I5, q'⟩
    | true =>
      refine ite_tt (test_last (thn (hd.run pins s5 σ H5 _ I5 q5) fun w2 s6 ⟨z3, H6, I6, r6, q6⟩ => thn (ho'' pins s6 σ H6 z' z3 w' w2 _ I6 r4 r6 q6) fun d' s7 ⟨z4, H7, I7, r7, k4, e4, q7⟩ => ?_))
      subst e4
      cases r7
      exact wpAny_truthy_bool ⟨H7, I7, q7⟩
def dChain3 (r1 r2 r3 : D → D → (D → Prop) → Prop) (ta tb tc td : DT) : DT := fun ρ P Z => ta ρ (fun x => tb ρ (fun y => r1 x y (fun z => ∃ c, z = .bool c ∧ (c = true → tc ρ (fun w => r2 y w (fun z2 => ∃ c2, z2 = .bool c2 ∧ (c2 = true → td ρ (fun u => r3 w u P) Z) ∧ (c2 = false → P (.bool false)))) Z) ∧ (c = false → P (.bool false)))) Z) Z
theorem chain3_sem {m1 m2 m3 m4 : Md} {r1 r2 r3 : R2} {d1 d2 d3 : D → D → (D → Prop) → Prop} {ta tb tc td : DT} {te1 te2 te3 te4 : TE} (h1 : R2ok X.K m1 m2 .fz r1 d1) (h2 : R2ok X.K m2 m3 .fz r2 d2) (h3 : R2ok X.K m3 m4 .fz r3 d3)
    (s1 : ∀ (b : B) (F H : Hp) (σ : L2.St) (ρ : List Sl) (Q : VK) (P : D → Prop) (Z : Zs), Rep X.K b F H σ ρ → ZOk X.mg X.K b F Z W → ta ρ P Z → Goes m1 X.K b F H P Q → te1 σ H Q)
    (s2 : ∀ (b : B) (F H : Hp) (σ : L2.St) (ρ : List Sl) (Q : VK) (P : D → Prop) (Z : Zs), Rep X.K b F H σ ρ → ZOk X.mg X.K b F Z W → tb ρ P Z → Goes m2 X.K b F H P Q → te2 σ H Q)
    (s3 : ∀ (b : B) (F H : Hp) (σ : L2.St) (ρ : List Sl) (Q : VK) (P : D → Prop) (Z : Zs), Rep X.K b F H σ ρ → ZOk X.mg X.K b F Z W → tc ρ P Z → Goes m3 X.K b F H P Q → te3 σ H Q)
    (s4 : ∀ (b : B) (F H : Hp) (σ : L2.St) (ρ : List Sl) (Q : VK) (P : D → Prop) (Z : Zs), Rep X.K b F H σ ρ → ZOk X.mg X.K b F Z W → td ρ P Z → Goes m4 X.K b F H P Q → te4 σ H Q) :
    ∀ (b : B) (F H : Hp) (σ : L2.St) (ρ : List Sl) (Q : VK) (P : D → Prop) (Z : Zs), Rep X.K b F H σ ρ → ZOk X.mg X.K b F Z W → dChain3 d1 d2 d3 ta tb tc td ρ P Z → Goes .fz X.K b F H P Q → tChain3 r1 r2 r3 te1 te2 te3 te4 σ H Q := fun b F H σ ρ Q P Z R z q k =>
  s1 b F H σ ρ _ _ Z R z q fun dx x F1 H1 p1 g1 v1 _ => s2 b F1 H1 σ ρ _ _ Z (R.grow g1) (z.mono g1.f) p1 fun dy y F2 H2 p2 g2 v2 _ =>
    h1 b F2 H2 x y dx dy _ _ (R.g.trans (g1.trans g2)) (v1.grow g2) v2 p2 fun dz w F3 H3 p3 g3 v3 _ => by
      obtain ⟨c, rfl, p3⟩ := p3
      cases v3
      refine ⟨c, rfl, ?_⟩
      have R3 := ((R.grow g1).grow g2).grow g3
      have z3 := z.mono (g1.f.trans (g2.f.trans g3.f))
      cases c with
      | false => exact iteF (k _ _ F3 H3 (p3.2 rfl) (g1.trans (g2.trans g3)) (Dq.bl _) trivial)
      | true =>
        refine iteT (s3 b F3 H3 σ ρ _ _ Z R3 z3 (p3.1 rfl) fun dw u F4 H4 p4 g4 v4 _ => h2 b F4 H4 y u dy dw _ _ (R3.g.trans g4) ((v2.grow g3).grow g4) v4 p4 fun dz2 w2 F5 H5 p5 g5 v5 _ => ?_)
        obtain ⟨c2, rfl, p5⟩ := p5
        cases v5
        refine ⟨c2, rfl, ?_⟩
        have R5 := (R3.grow g4).grow g5
        have gg := g1.trans (g2.trans (g3.trans (g4.trans g5)))
        cases c2 with
        | false => exact iteF (k _ _ F5 H5 (p5.2 rfl) gg (Dq.bl _) trivial)
        | true => exact iteT (s4 b F5 H5 σ ρ _ _ Z R5 (z.mono gg.f) (p5.1 rfl) fun dv v F6 H6 p6 g6 v6 _ => h3 b F6 H6 u v dw dv _ _ (R5.g.trans g6) ((v4.grow g5).grow g6) v6 p6 (k.after (gg.trans g6)))
theorem de_chain3 {m1 m2 m3 m4 : Md} {op op' op'' : CmpOp} {a b' c d : Expr} {r1 r2 r3 : R2} {d1 d2 d3 : D → D → (D → Prop) → Prop} {ta tb tc td : DT} (ho : OpR X (compareOp op) r1) (h1 : R2ok X.K m1 m2 .fz r1 d1) (ho' : OpR X (compareOp op') r2) (h2 : R2ok X.K m2 m3 .fz r2 d2) (ho'' : OpR X (compareOp op'') r3) (h3 : R2ok X.K m3 m4 .fz r3 d3) (ha : DE X W m1 a ta) (hb : DE X W m2 b' tb) (hc : DE X W m3 c tc) (hd : DE X W m4 d td)
    (hm : lastMarks [op, op', op''] [b', c, d] = false := by with_unfolding_all rfl) : DE X W .fz (.Compare a [op, op', op''] [b', c, d] pos) (dChain3 d1 d2 d3 ta tb tc td) := by
  obtain ⟨te1, p1, s1⟩ := ha.ok
  obtain ⟨te2, p2, s2⟩ := hb.ok
  obtain ⟨te3, p3, s3⟩ := hc.ok
  obtain ⟨te4, p4, s4⟩ := hd.ok
  exact ⟨_, pe_chain3 ho ho' ho'' p1 p2 p3 p4 hm, chain3_sem h1 h2 h3 s1 s2 s3 s4⟩
theorem dt_chain3 {m1 m2 m3 m4 : Md} {op op' op'' : CmpOp} {a b' c d : Expr} {r1 r2 r3 : R2} {d1 d2 d3 : D → D → (D → Prop) → Prop} {ta tb tc td : DT} (ho : OpR X (compareOp op) r1) (h1 : R2ok X.K m1 m2 .fz r1 d1) (ho' : OpR X (compareOp op') r2) (h2 : R2ok X.K m2 m3 .fz r2 d2) (ho'' : OpR X (compareOp op'') r3) (h3 : R2ok X.K m3 m4 .fz r3 d3) (ha : DE X W m1 a ta) (hb : DE X W m2 b' tb) (hc : DE X W m3 c tc) (hd : DE X W m4 d td)
    (hm : lastMarks [op, op', op''] [b', c, d] = false := by with_unfolding_all rfl) : DEt X W (.Compare a [op, op', op''] [b', c, d] pos) (dB (dChain3 d1 d2 d3 ta tb tc td)) := by
  obtain ⟨te1, p1, s1⟩ := ha.ok
  obtain ⟨te2, p2, s2⟩ := hb.ok
  obtain ⟨te3, p3, s3⟩ := hc.ok
  obtain ⟨te4, p4, s4⟩ := hd.ok
  exact ⟨_, pt_chain3 ho ho' ho'' p1 p2 p3 p4 hm, fun b F H σ ρ Q P Z R z q k => chain3_sem h1 h2 h3 s1 s2 s3 s4 b F H σ ρ _ _ Z R z q fun d v F' H' p g r _ => by
    obtain ⟨cc, rfl, p⟩ := p
    cases r
    exact ⟨cc, rfl, k cc F' H' p g⟩⟩
/-! ### x.index(y), x.count(y) -/
def rIdxS (K : PySem.W.Frag) : V → List V → Hp → VK → Prop := fun x xs H Q => ∃ (a : Addr) (y : V) (d : D) (ds : List D) (j : Nat) (z : D), x = V.ref a ∧ xs = [y] ∧ Dp K H (V.ref a) (.list ds) ∧ Dp K H y d ∧ Shp 8 d ∧ (∀ z ∈ ds, Shp 8 z) ∧
  ds[j]? = some z ∧ PyData.eqv z d = true ∧ (∀ (m : Nat) (z' : D), m < j → ds[m]? = some z' → PyData.eqv z' d = false) ∧ Q (.int (j : Nat)) H
theorem mt_idxS (hu : X.A.units + 64 < cLine) : MtR X "list.index" (rIdxS X.K) := by
  intro pins s σ H x xs v us Q I rx rxs h
  obtain ⟨a, y, d, ds, j, z, rfl, rfl, hl, hy, sd, sl, hz, hzj, hno, q⟩ := h
  cases rx
  cases rxs with
  | cons ry rt =>
    rename_i uy ut
    cases rt
    obtain ⟨bs, r1⟩ := Dp.reads I d y uy hy ry
    obtain ⟨d1, d2, _⟩ := shp_ok 8 _ sd
    obtain ⟨e1, e2, _⟩ := shpA (shp_ok 8) ds sl
    have hroom : X.A.units + 1 + min (PyData.depthAll ds) d.depth < cLine := by have := Nat.min_le_right (PyData.depthAll ds) d.depth; omega
    cases hl with
    | lst hs ha =>
      obtain ⟨its, rv, ⟨⟨cls, dd, data, sls⟩, n, ho, hc, hdn, hdt⟩, hlen⟩ := I.list hs
      simp only at hc hdt
      subst hc hdt
      obtain ⟨as, h4⟩ := Dp.readsAll I ds _ its ha rv
      have hn : its.length = ds.length := SeqAt.ReadsAll.length ds its as h4
      have hmap : its.map (SeqAt.readOf s.heap) = ds := SeqAt.readsAll_map ds its as e1 h4
      have hvl := rv.length
      have hsl := sizeLine_eq
      obtain ⟨hjd, _⟩ := List.getElem?_eq_some_iff.mp hz
      have hjl : j < its.length := by omega
      have hj : j < its.toArray.size := by simpa using hjl
      have at_ : ∀ (m : Nat) (hm : m < its.toArray.size) (z' : PyData), ds[m]? = some z' → SeqAt.readOf s.heap its.toArray[m] = z' := by
        intro m hm z' hz'
        have hml : m < its.length := by simpa using hm
        rw [← hmap, List.getElem?_map, List.getElem?_eq_getElem hml] at hz'
        have e1 : SeqAt.readOf s.heap its[m] = z' := Option.some.inj (show some (SeqAt.readOf s.heap its[m]) = some z' from hz')
        simpa using e1
      refine call_meets PySem.F.slot_list_index ⟨_, ho, rfl⟩ PySem.F.entry_list_index (PySem.F.args_list_index_2 _ _)
        (SeqAt.list_indexAt a its.toArray n dd sls uy (fun u => PyData.eqv (SeqAt.readOf s.heap u) d) j hj (by omega) ?_ ?_) ⟨ho, SeqAt.items_eqAt (vs := its.toArray) (show ReadsAll s.heap its.toArray.toList ds as from h4) r1 e1 d1 hroom, ?_⟩
      · show PyData.eqv (SeqAt.readOf s.heap its.toArray[j]) d = true
        rw [at_ j hj z hz]
        exact hzj
      · intro m hm hmj
        have hmd : m < ds.length := by omega
        have hz' : ds[m]? = some ds[m] := List.getElem?_eq_getElem hmd
        show PyData.eqv (SeqAt.readOf s.heap its.toArray[m]) d = false
        rw [at_ m hm _ hz']
        exact hno m _ hmj hz'
      · exact ⟨.int (j : Nat), H, I.tok _, ⟨_, rfl⟩, q⟩
def rCntS (K : PySem.W.Frag) : V → List V → Hp → VK → Prop := fun x xs H Q => ∃ (a : Addr) (y : V) (d : D) (ds : List D), x = V.ref a ∧ xs = [y] ∧ Dp K H (V.ref a) (.list ds) ∧ Dp K H y d ∧ Shp 8 d ∧ (∀ z ∈ ds, Shp 8 z) ∧ Q (.int ((ds.countP fun z => PyData.eqv z d : Nat))) H
theorem mt_cntS (hu : X.A.units + 64 < cLine) : MtR X "list.count" (rCntS X.K) := by
  intro pins s σ H x xs v us Q I rx rxs h
  obtain ⟨a, y, d, ds, rfl, rfl, hl, hy, sd, sl, q⟩ := h
  cases rx
  cases rxs with
  | cons ry rt =>
    rename_i uy ut
    cases rt
    obtain ⟨bs, r1⟩ := Dp.reads I d y uy hy ry
    obtain ⟨d1, d2, _⟩ := shp_ok 8 _ sd
    obtain ⟨e1, e2, _⟩ := shpA (shp_ok 8) ds sl
    have hroom : X.A.units + 1 + min (PyData.depthAll ds) d.depth < cLine := by have := Nat.min_le_right (PyData.depthAll ds) d.depth; omega
    cases hl with
    | lst hs ha =>
      obtain ⟨its, rv, ⟨⟨cls, dd, data, sls⟩, n, ho, hc, hdn, hdt⟩, hlen⟩ := I.list hs
      simp only at hc hdt
      subst hc hdt
      obtain ⟨as, h4⟩ := Dp.readsAll I ds _ its ha rv
      have hmap : its.map (SeqAt.readOf s.heap) = ds := SeqAt.readsAll_map ds its as e1 h4
      refine call_meets PySem.F.slot_list_count ⟨_, ho, rfl⟩ PySem.F.entry_list_count (PySem.F.args_list_count_2 _ _)
        (SeqAt.list_countAt a its.toArray n dd sls uy (fun u => PyData.eqv (SeqAt.readOf s.heap u) d)) ⟨ho, SeqAt.items_eqAt (vs := its.toArray) (show ReadsAll s.heap its.toArray.toList ds as from h4) r1 e1 d1 hroom, ?_⟩
      have ec : its.toArray.toList.countP (fun u => PyData.eqv (SeqAt.readOf s.heap u) d) = ds.countP (fun z => PyData.eqv z d) := by
        rw [← hmap, List.countP_map]
        rfl
      exact ⟨.int ((ds.countP fun z => PyData.eqv z d : Nat)), H, I.tok _, ⟨s.toks, by rw [ec]⟩, q⟩
def idxR (ds : List D) (y : D) (P : D → Prop) : Prop := Shp 8 y ∧ (∀ z ∈ ds, Shp 8 z) ∧ ∃ j z, ds[j]? = some z ∧ PyData.eqv z y = true ∧ (∀ (m : Nat) (z' : D), m < j → ds[m]? = some z' → PyData.eqv z' y = false) ∧ P (.int (j : Nat))
def dIdx (t u : DT) : DT := fun ρ P Z => t ρ (fun x => ∃ ds, x = .list ds ∧ u ρ (fun y => idxR ds y P) Z) Z
theorem de_idx {m1 m2 : Md} {o e : Expr} {t u : DT} {apos : Pos} (hu : X.A.units + 64 < cLine) (ho : DE X W m1 o t) (he : DE X W m2 e u) (h1 : m1.sh = true := by rfl) (h2 : m2.sh = true := by rfl)
    (hbase : attributeBase o "index" X.env (eval o X.env) = eval o X.env := by rfl)
    (hfew : ((backTo pos (starEach (e :: []) X.env)).all (fun x => !x.1) && (backToKw pos (keywordEach [] X.env)).all (fun x => x.1.isSome)
      && decide ((e :: []).length + ([] : List Keyword).length + (if ([] : List Keyword).isEmpty then 0 else 1) < 30)) = true := by rfl)
    (hline : (apos.endLine == pos.line) = true := by rfl) (hs : starEach (e :: []) X.env = (false, eval e X.env) :: starEach [] X.env := by rfl) (hplain : (backTo pos (starEach [] X.env)).any (·.1) = false := by rfl) :
    DE X W .fz (.Call (.Attribute o "index" apos) [e] [] pos) (dIdx t u) := by
  obtain ⟨te1, p1, s1⟩ := ho.ok
  obtain ⟨te2, p2, s2⟩ := he.ok
  refine ⟨_, pe_bm PySem.F.plainAttrs_list PySem.F.slot_list_index PySem.F.type_list_index (mt_idxS hu) p1 (pa_cons p2 pa_nil hs) hbase hfew hline hs hplain, fun b F H σ ρ Q P Z R z q k => s1 b F H σ ρ _ _ Z R z q fun x v F1 H1 q1 g1 r1 _ => ?_⟩
  obtain ⟨ds, rfl, q1⟩ := q1
  have g0 := R.g.trans g1
  obtain ⟨a, xs, rfl, sq, dq⟩ := vr_lst g0.s (r1.rd h1 g0)
  refine ⟨.inl ⟨rfl, _, sq⟩, s2 b F1 H1 σ ρ _ _ Z (R.grow g1) (z.mono g1.f) q1 fun y w F2 H2 q2 g2 r2 _ => ?_⟩
  obtain ⟨sy, sds, j, zz, a1, a2, a3, p⟩ := q2
  have gg := R.g.trans (g1.trans g2)
  have fl := (shpA (shp_ok 8) ds sds).2.2
  exact ⟨a, w, y, ds, j, zz, rfl, rfl, .lst (seqE g2.h sq) ((dq.mono g2.f).dp gg.s fl), VR.dp gg.s (r2.rd h2 gg) (shp_ok 8 _ sy).2.2, sy, sds, a1, a2, a3, k _ _ F2 H2 p (g1.trans g2) (Dq.int _) trivial⟩
def cntR (ds : List D) (y : D) (P : D → Prop) : Prop := Shp 8 y ∧ (∀ z ∈ ds, Shp 8 z) ∧ P (.int ((ds.countP fun z => PyData.eqv z y : Nat)))
def dCnt (t u : DT) : DT := fun ρ P Z => t ρ (fun x => ∃ ds, x = .list ds ∧ u ρ (fun y => cntR ds y P) Z) Z
theorem de_cnt {m1 m2 : Md} {o e : Expr} {t u : DT} {apos : Pos} (hu : X.A.units + 64 < cLine) (ho : DE X W m1 o t) (he : DE X W m2 e u) (h1 : m1.sh = true := by rfl) (h2 : m2.sh = true := by rfl)
    (hbase : attributeBase o "count" X.env (eval o X.env) = eval o X.env := by rfl)
    (hfew : ((backTo pos (starEach (e :: []) X.env)).all (fun x => !x.1) && (backToKw pos (keywordEach [] X.env)).all (fun x => x.1.isSome)
      && decide ((e :: []).length + ([] : List Keyword).length + (if ([] : List Keyword).isEmpty then 0 else 1) < 30)) = true := by rfl)
    (hline : (apos.endLine == pos.line) = true := by rfl) (hs : starEach (e :: []) X.env = (false, eval e X.env) :: starEach [] X.env := by rfl) (hplain : (backTo pos (starEach [] X.env)).any (·.1) = false := by rfl) :
    DE X W .fz (.Call (.Attribute o "count" apos) [e] [] pos) (dCnt t u) := by
  obtain ⟨te1, p1, s1⟩ := ho.ok
  obtain ⟨te2, p2, s2⟩ := he.ok
  refine ⟨_, pe_bm PySem.F.plainAttrs_list PySem.F.slot_list_count PySem.F.type_list_count (mt_cntS hu) p1 (pa_cons p2 pa_nil hs) hbase hfew hline hs hplain, fun b F H σ ρ Q P Z R z q k => s1 b F H σ ρ _ _ Z R z q fun x v F1 H1 q1 g1 r1 _ => ?_⟩
  obtain ⟨ds, rfl, q1⟩ := q1
  have g0 := R.g.trans g1
  obtain ⟨a, xs, rfl, sq, dq⟩ := vr_lst g0.s (r1.rd h1 g0)
  refine ⟨.inl ⟨rfl, _, sq⟩, s2 b F1 H1 σ ρ _ _ Z (R.grow g1) (z.mono g1.f) q1 fun y w F2 H2 q2 g2 r2 _ => ?_⟩
  obtain ⟨sy, sds, p⟩ := q2
  have gg := R.g.trans (g1.trans g2)
  have fl := (shpA (shp_ok 8) ds sds).2.2
  exact ⟨a, w, y, ds, rfl, rfl, .lst (seqE g2.h sq) ((dq.mono g2.f).dp gg.s fl), VR.dp gg.s (r2.rd h2 gg) (shp_ok 8 _ sy).2.2, sy, sds, k _ _ F2 H2 p (g1.trans g2) (Dq.int _) trivial⟩
/-! ### all -/
def allR : List D → (D → Prop) → Prop := fun ds P => ∃ bs : List Bool, ds = [.list (bs.map .bool)] ∧ P (.bool (bs.all id))
theorem dq_bls {F : Hp} : ∀ {bs : List Bool} {vs : List V}, DqA F vs (bs.map .bool) → vs = bs.map V.bl
  | [], _, h => by cases h; rfl
  | b :: bs, _, h => by
    cases h with
    | cons a q =>
      cases a
      rw [dq_bls q]
      rfl
theorem ra_all {K : PySem.W.Frag} (hsh : m.sh = true := by rfl) : RAok K [m] .fz (rAll K) allR := fun b F H xs ds Q P g0 r h k => by
  obtain ⟨bs, rfl, p⟩ := h
  obtain ⟨v, rfl, r1⟩ := vrs1 (ms := []) r
  obtain ⟨a, xs, rfl, sq, dq⟩ := vr_lst g0.s (r1.rd hsh g0)
  rw [dq_bls dq] at sq
  exact ⟨a, bs, rfl, sq, k _ _ F H p (.refl g0) (Dq.bl _) trivial⟩
end
end DL
set_option maxRecDepth 100000
set_option maxHeartbeats 4000000
/-! DMZ: zip of two lists (or of two tuples). -/
namespace DL
open PySem PySem.Spec PyProof.Rows L2
/-- the items of two rows side by side -/
def zipD (xs ys : List D) : List D := List.zipWith (fun x y => .tuple [x, y]) xs ys
theorem zipD_get {xs ys : List D} {i : Nat} {d : D} (h : (zipD xs ys)[i]? = some d) : ∃ x y, xs[i]? = some x ∧ ys[i]? = some y ∧ d = .tuple [x, y] := by
  unfold zipD at h
  rw [List.getElem?_zipWith] at h
  revert h
  cases hx : xs[i]? with
  | none => intro h; cases h
  | some x =>
    cases hy : ys[i]? with
    | none => intro h; cases h
    | some y =>
      intro h
      cases h
      exact ⟨x, y, rfl, rfl, rfl⟩
theorem zipD_len {xs ys : List D} : (zipD xs ys).length = min xs.length ys.length := by unfold zipD; rw [List.length_zipWith]
theorem itz_ok {c : Bool} {K : PySem.W.Frag} {b : B} {F0 H0 : Hp} {a a2 : Addr} {ds ds2 : List D} (get : ∀ F H, Same F0 F → Grow b.T b.F b.H F H → (c = true → Ext b.T H0 H) → ∃ xs, SqL K H a xs ∧ DqA F xs ds)
    (get2 : ∀ F H, Same F0 F → Grow b.T b.F b.H F H → (c = true → Ext b.T H0 H) → ∃ xs, SqL K H a2 xs ∧ DqA F xs ds2) : ItOk c b F0 H0 (Itz K a a2) (zipD ds ds2) := by
  refine ⟨fun i F H hi s g hc => ?_, fun F H s g hc => ?_, fun i F H x H' d hd s g hc y => ?_⟩
  · obtain ⟨xs, q, dq⟩ := get F H s g hc
    obtain ⟨ys, q2, dq2⟩ := get2 F H s g hc
    rw [zipD_len] at hi
    have hx : i < xs.length := by rw [dq.length]; omega
    have hy : i < ys.length := by rw [dq2.length]; omega
    exact ⟨xs, ys, xs[i], ys[i], q, q2, List.getElem?_eq_getElem hx, List.getElem?_eq_getElem hy⟩
  · obtain ⟨xs, q, dq⟩ := get F H s g hc
    obtain ⟨ys, q2, dq2⟩ := get2 F H s g hc
    refine ⟨xs, ys, q, q2, ?_⟩
    rw [dq.length, dq2.length, zipD_len]
    omega
  · obtain ⟨xs, q, dq⟩ := get F H s g hc
    obtain ⟨ys, q2, dq2⟩ := get2 F H s g hc
    obtain ⟨T, w, w2, rfl, nT, rfl, y, y2⟩ := y
    obtain ⟨d1, d2, h1, h2, rfl⟩ := zipD_get hd
    obtain ⟨d1', e1, h1'⟩ := dq.get' (y xs q)
    obtain ⟨d2', e2, h2'⟩ := dq2.get' (y2 ys q2)
    rw [h1] at e1
    rw [h2] at e2
    cases e1
    cases e2
    have g2 := Grow.new g (HO.tup [w, w2]) nT
    exact ⟨_, g2, .tup upd_same (.cons (h1'.mono g2.f) (.cons (h2'.mono g2.f) .nil))⟩
/-- a list at a and a tuple at b, side by side -/
def ItzM (K : PySem.W.Frag) (a b : Addr) : It :=
  ⟨fun i H => ∃ (la lb : List V) (p q : V), SqL K H a la ∧ SqT K H b lb ∧ la[i]? = some p ∧ lb[i]? = some q,
    fun i H v H' => ∃ T p q, v = .ref T ∧ H T = none ∧ H' = upd H T (.tup [p, q]) ∧ (∀ la, SqL K H a la → la[i]? = some p) ∧ (∀ lb, SqT K H b lb → lb[i]? = some q),
    fun i H => ∃ la lb : List V, SqL K H a la ∧ SqT K H b lb ∧ i ≤ la.length ∧ i ≤ lb.length ∧ (i = la.length ∨ i = lb.length)⟩
abbrev ZMSt (z TI TO i1 i2 a b : Addr) (i : Nat) (h : Heap) : Prop := IsZip h z TI TO .none ∧ IsTupOf2 h TI (.ref i1) (.ref i2) ∧ (∃ p q, IsTupOf2 h TO p q) ∧ h.IsListIter i1 a i ∧ h.IsTupleIter i2 b i
theorem five {c z TI TO i1 i2 : Addr} (h : c ∈ [z, TI, TO, i1, i2]) : c = z ∨ c = TI ∨ c = TO ∨ c = i1 ∨ c = i2 := by simpa using h
theorem turn_zipM {P : Program} {w : World} {K : PySem.W.Frag} {elts : List Expr} {kk : Nat} {tpos : Pos} {a b z TI TO i1 i2 : Addr} (S : ZipSep2 z TI TO i1 i2 [i1, a] [i2, b]) (n1 : a ≠ i1) (n2 : b ≠ i2) :
    Turn P w K (.Tuple elts kk tpos) (ItzM K a b) [z, TI, TO, i1, i2] z (ZMSt z TI TO i1 i2 a b) where
  mem := by simp
  obj := fun i h st c hc => by
    obtain ⟨hz, hTI, ⟨p, q, hTO⟩, ⟨ob1, e1, -, d1⟩, ⟨ob2, e2, -, d2⟩⟩ := st
    rcases five hc with r | r | r | r | r <;> subst r
    · exact ⟨_, hz, fun v n => nomatch n⟩
    · exact ⟨_, hTI, fun v n => nomatch n⟩
    · exact ⟨_, hTO, fun v n => nomatch n⟩
    · refine ⟨ob1, e1, fun v n => ?_⟩
      rw [d1] at n
      cases n
    · refine ⟨ob2, e2, fun v n => ?_⟩
      rw [d2] at n
      cases n
  keep := fun i h h' st k => by
    obtain ⟨hz, hTI, ⟨p, q, hTO⟩, hi1, hi2⟩ := st
    refine ⟨k z (by simp) _ hz, k TI (by simp) _ hTI, ⟨p, q, k TO (by simp) _ hTO⟩, ?_, ?_⟩
    · exact hi1.at fun o n => k i1 (by simp) o n
    · exact hi2.at fun o n => k i2 (by simp) o n
  item := by
    intro X hP hw hK hc i pins s σ H E I hf st hg
    subst hP hw hK
    obtain ⟨hz, hTI, ⟨p0, q0, hTO⟩, hi1, hi2⟩ := st
    obtain ⟨la, lb, p, q, qa, qb, ga, gb⟩ := hg
    obtain ⟨va, ra, pa, _⟩ := I.list qa
    obtain ⟨vb, rb, pb, _⟩ := I.tuple qb
    obtain ⟨u, hu, ru⟩ := ra.get ga
    obtain ⟨u2, hu2, ru2⟩ := rb.get gb
    have hzl : z < s.heap.objs.size := Heap.lt_size hz
    have hd : X.A.in1.handled = none := I.ok.hd hc
    refine wpAny_pyNext_zipD2_item (A := X.A) S (Draws.list hd i1 a n1 va.toArray) (Draws.tuple hd i2 b n2 vb.toArray) hz hTI hTO ⟨hi1, pa.isList⟩ ⟨hi2, isTuple_of pb⟩ (by rw [List.size_toArray]; exact (List.getElem?_eq_some_iff.mp hu).1) (by rw [List.size_toArray]; exact (List.getElem?_eq_some_iff.mp hu2).1) fun x1 x2 h' tk y1 y2 z' TO' st1 st2 hT hsz hk => ?_
    have e1 : x1 = u := by
      have t : va.toArray[i]? = some x1 := y1
      rw [List.getElem?_toArray, hu] at t
      exact (Option.some.inj t).symm
    have e2 : x2 = u2 := by
      have t : vb.toArray[i]? = some x2 := y2
      rw [List.getElem?_toArray, hu2] at t
      exact (Option.some.inj t).symm
    subst e1 e2
    refine ⟨_, rfl, wpAny_letOwnedTupleGo_zip (s := { s with heap := h', toks := tk }) z' fun h'' z'' sb => ?_⟩
    have hT2 : h''.get? s.heap.objs.size = some { cls := .type "tuple", data := .seq #[x1, x2] } := (sb.2 _ (Nat.ne_of_gt hzl)).trans hT
    have new : ObjOk X.prog X.w (upd H s.heap.objs.size (.tup [p, q])) h'' s.heap.objs.size (.tup [p, q]) :=
      ⟨by show 2 ≤ sizeLine; decide, [x1, x2], .cons ru (.cons ru2 .nil), ⟨_, hT2, rfl, _, rfl⟩⟩
    have ne5 : ∀ {c : Addr}, c ∉ [z, TI, TO, i1, i2] → c ≠ z ∧ c ≠ TI ∧ c ≠ TO ∧ c ≠ i1 ∧ c ≠ i2 := fun hb => by simpa using hb
    have I1 : Inv X pins σ (upd H s.heap.objs.size (.tup [p, q])) { s with heap := h'', toks := tk } :=
      I.turnedNew (t' := tk) (ch := [z, TI, TO, i1, i2]) (fun c o hb n => by
        obtain ⟨c1, c2, c3, c4, c5⟩ := ne5 hb
        exact (sb.2 c c1).trans (hk c o c1 c3 c4 c5 n)) hf (Nat.le_refl _) new
    refine ⟨.ref s.heap.objs.size, _, I1, rfl, ⟨_, p, q, rfl, I.hok.fresh (Nat.le_refl _), rfl, fun l hl => ?_, fun l hl => ?_⟩, ⟨z'', ?_, ⟨x1, x2, ?_⟩, ?_, ?_⟩, fun c hcm => ?_⟩
    · rw [I.list_inj hl qa]
      exact ga
    · rw [I.tuple_inj hl qb]
      exact gb
    · exact (sb.2 _ S.TIz).trans (hk _ _ S.TIz S.TITO S.TIi1 S.TIi2 hTI)
    · exact (sb.2 _ S.TOz).trans TO'
    · exact st1.1.at fun o n => (sb.2 _ (Ne.symm S.zi1)).trans n
    · exact st2.1.at fun o n => (sb.2 _ (Ne.symm S.zi2)).trans n
    · have hlt : c < s.heap.objs.size := by
        rcases five hcm with r | r | r | r | r <;> subst r
        · exact hzl
        · exact Heap.lt_size hTI
        · exact Heap.lt_size hTO
        · obtain ⟨_, t, _⟩ := hi1
          exact Heap.lt_size t
        · obtain ⟨_, t, _⟩ := hi2
          exact Heap.lt_size t
      rw [upd_ne (Nat.ne_of_lt hlt)]
      exact (hf c hcm).1
  done := by
    intro X hP hw hK hc i pins s σ H E I hf st hg
    subst hP hw hK
    obtain ⟨hz, hTI, ⟨p0, q0, hTO⟩, hi1, hi2⟩ := st
    obtain ⟨la, lb, qa, qb, l1, l2, l3⟩ := hg
    obtain ⟨va, ra, pa, _⟩ := I.list qa
    obtain ⟨vb, rb, pb, _⟩ := I.tuple qb
    have w1 := ra.length
    have w2 := rb.length
    have hd : X.A.in1.handled = none := I.ok.hd hc
    have ne5 : ∀ {c : Addr}, c ∉ [z, TI, TO, i1, i2] → c ≠ z ∧ c ≠ TI ∧ c ≠ TO ∧ c ≠ i1 ∧ c ≠ i2 := fun hb => by simpa using hb
    refine wpAny_pyNext_zipD2_end (A := X.A) S (Draws.list hd i1 a n1 va.toArray) (Draws.tuple hd i2 b n2 vb.toArray) hz hTI hTO ⟨hi1, pa.isList⟩ ⟨hi2, isTuple_of pb⟩ (by rw [List.size_toArray]; omega) (by rw [List.size_toArray]; omega) (by rw [List.size_toArray, List.size_toArray]; omega) fun h' tk hk => ⟨rfl, I.turnedL (t' := tk) (ch := [z, TI, TO, i1, i2]) (fun c o hb n => by
      obtain ⟨c1, c2, c3, c4, c5⟩ := ne5 hb
      exact hk c o c1 c3 c4 c5 n) hf⟩
  self := fun A i s Q E st h => wpAny_pyIter_zip st.1 h
def iZipM (K : PySem.W.Frag) (ta : TA) : TI := fun σ H R => ta σ H fun vs H1 => ∃ a b la lb, vs = [.ref a, .ref b] ∧ SqL K H1 a la ∧ ((SqL K H1 b lb ∧ R (Itz K a b) H1) ∨ (SqT K H1 b lb ∧ R (ItzM K a b) H1))
theorem pi_zipM {X : Cx} {e e2 : Expr} {ta : TA} {p pos tpos : Pos} {elts : List Expr} {kk : Nat} (hg : Gl X "zip") (hm : X.mg "zip" = none) (ha : PA X [e, e2] ta)
    (hs : starEach [e, e2] X.env = (false, eval e X.env) :: starEach [e2] X.env := by rfl) (hpl : (backTo pos (starEach [e2] X.env)).any (·.1) = false := by rfl) :
    PI X (.Tuple elts kk tpos) (.Call (.Name "zip" p) [e, e2] [] pos) (iZipM X.K ta) := by
  refine ⟨fun pins s σ H R I h => ?_⟩
  refine Call_ (ld_blt I hg hm PyProof.Rows.boot_zip (PyProof.Rows.callWith_type1 (thn (ha.run pos pins s σ H _ I h) fun us s1 ⟨vs, H1, I1, r1, q1⟩ => ?_) hs hpl))
  obtain ⟨a, b, la, lb, ex, qa, q1⟩ := q1
  subst ex
  cases r1 with
  | cons r rr =>
    cases rr with
    | cons r2 rr =>
      cases rr
      cases r
      cases r2
      generalize hN : s1.heap.objs.size = N at *
      have five_fresh : ∀ c ∈ [N + 4, N + 2, N + 3, N, N + 1], FpOk X pins H1 c := fun c hcm => by
        have hle : s1.heap.objs.size ≤ c := by
          have e' : c = N + 4 ∨ c = N + 2 ∨ c = N + 3 ∨ c = N ∨ c = N + 1 := by simpa using hcm
          rw [hN]
          rcases e' with t | t | t | t | t <;> rw [t] <;> first | exact Nat.le_refl _ | exact Nat.le_add_right _ _
        exact I1.fpOk hle (I1.hok.fresh hle)
      obtain ⟨va, ra, pa, _⟩ := I1.list qa
      have lta : a < N := by rw [← hN]; exact pa.lt
      rcases q1 with ⟨qb, q⟩ | ⟨qb, q⟩
      · obtain ⟨vb, rb, pb, _⟩ := I1.list qb
        refine call_zip_2 pa.isList pb.isList fun h' hz hTI hTO hi1 hi2 hsz hk => ?_
        rw [hN] at hz hTI hTO hi1 hi2 ⊢
        refine wpAny_pyIter_zip hz ?_
        have I2 : Inv X pins σ H1 { s1 with heap := h' } := I1.kept (t' := s1.toks) hk
        exact ⟨N + 4, [N + 4, N + 2, N + 3, N, N + 1], _, _, H1, rfl, I2, turn_zip (PySem.W.ktu_apart N a b lta (by rw [← hN]; exact pb.lt)), ⟨hz, hTI, ⟨_, _, hTO⟩, hi1, hi2⟩, five_fresh, q⟩
      · obtain ⟨vb, rb, pb, _⟩ := I1.tuple qb
        obtain ⟨ob, hob, _⟩ := id pb
        have ltb : b < N := by rw [← hN]; exact Heap.lt_size hob
        refine zip_begins2 (begins_list a va.toArray) (begins_tuple b vb.toArray) pa.isList (isTuple_of pb) fun h' hz hTI hTO hi1 hi2 hsz hk => ?_
        rw [hN] at hz hTI hTO hi1 hi2 ⊢
        refine wpAny_pyIter_zip hz ?_
        have I2 : Inv X pins σ H1 { s1 with heap := h' } := I1.kept (t' := s1.toks) hk
        exact ⟨N + 4, [N + 4, N + 2, N + 3, N, N + 1], _, _, H1, rfl, I2, turn_zipM (zip_sep2 (fp1 := [a]) (fp2 := [b]) (by simpa using lta) (by simpa using ltb)) (Nat.ne_of_lt lta) (Nat.ne_of_lt (Nat.lt_succ_of_lt ltb)), ⟨hz, hTI, ⟨_, _, hTO⟩, ⟨_, hi1, rfl, rfl⟩, ⟨_, hi2, rfl, rfl⟩⟩, five_fresh, q⟩
theorem itzM_ok {c : Bool} {K : PySem.W.Frag} {b : B} {F0 H0 : Hp} {a a2 : Addr} {ds ds2 : List D} (get : ∀ F H, Same F0 F → Grow b.T b.F b.H F H → (c = true → Ext b.T H0 H) → ∃ xs, SqL K H a xs ∧ DqA F xs ds)
    (get2 : ∀ F H, Same F0 F → Grow b.T b.F b.H F H → (c = true → Ext b.T H0 H) → ∃ xs, SqT K H a2 xs ∧ DqA F xs ds2) : ItOk c b F0 H0 (ItzM K a a2) (zipD ds ds2) := by
  refine ⟨fun i F H hi s g hc => ?_, fun F H s g hc => ?_, fun i F H x H' d hd s g hc y => ?_⟩
  · obtain ⟨xs, q, dq⟩ := get F H s g hc
    obtain ⟨ys, q2, dq2⟩ := get2 F H s g hc
    rw [zipD_len] at hi
    have hx : i < xs.length := by rw [dq.length]; omega
    have hy : i < ys.length := by rw [dq2.length]; omega
    exact ⟨xs, ys, xs[i], ys[i], q, q2, List.getElem?_eq_getElem hx, List.getElem?_eq_getElem hy⟩
  · obtain ⟨xs, q, dq⟩ := get F H s g hc
    obtain ⟨ys, q2, dq2⟩ := get2 F H s g hc
    refine ⟨xs, ys, q, q2, ?_⟩
    rw [dq.length, dq2.length, zipD_len]
    omega
  · obtain ⟨xs, q, dq⟩ := get F H s g hc
    obtain ⟨ys, q2, dq2⟩ := get2 F H s g hc
    obtain ⟨T, w, w2, rfl, nT, rfl, y, y2⟩ := y
    obtain ⟨d1, d2, h1, h2, rfl⟩ := zipD_get hd
    obtain ⟨d1', e1, h1'⟩ := dq.get' (y xs q)
    obtain ⟨d2', e2, h2'⟩ := dq2.get' (y2 ys q2)
    rw [h1] at e1
    rw [h2] at e2
    cases e1
    cases e2
    have g2 := Grow.new g (HO.tup [w, w2]) nT
    exact ⟨_, g2, .tup upd_same (.cons (h1'.mono g2.f) (.cons (h2'.mono g2.f) .nil))⟩
def dZip (ta : DTa) : DTi := fun ρ P Z => ta ρ (fun ds => ∃ xs ys d2, ds = [.list xs, d2] ∧ (d2 = .list ys ∨ d2 = .tuple ys) ∧ P (zipD xs ys)) Z
theorem di_zip {X : Cx} {W : WT} {c : Bool} {m m2 : Md} {elts : List Expr} {kk : Nat} {tpos p pos : Pos} {e e2 : Expr} {ta : DTa} (hm : X.mg "zip" = none) (ha : DA X W [m, m2] [e, e2] ta) (hw : Wkb c m := by first | exact .inl rfl | exact .inr ⟨rfl, rfl⟩) (hw2 : Wkb c m2 := by first | exact .inl rfl | exact .inr ⟨rfl, rfl⟩) (hg : Gl X "zip" := by rfl)
    (hs : starEach [e, e2] X.env = (false, eval e X.env) :: starEach [e2] X.env := by rfl) (hpl : (backTo pos (starEach [e2] X.env)).any (·.1) = false := by rfl) : DI X W c (.Tuple elts kk tpos) (.Call (.Name "zip" p) [e, e2] [] pos) (dZip ta) := by
  obtain ⟨te, p, s⟩ := ha.ok
  refine ⟨_, pi_zipM hg hm p hs hpl, fun b F H σ ρ R P Z R1 z q k => s b F H σ ρ _ _ Z R1 z q fun ds vs F' H' p g r => ?_⟩
  obtain ⟨xs, ys, d2, rfl, hd2, p⟩ := p
  cases r with
  | cons r rr =>
    cases rr with
    | cons r2 rr =>
      cases rr
      have g0 := R1.g.trans g
      have w := wk_vr hw r
      have w2 := wk_vr hw2 r2
      obtain ⟨a, vs, e, q, dq⟩ := vr_lst g0.s (w F' H' (Same.refl _) g0 fun _ => Ext.refl _)
      rcases hd2 with rfl | rfl
      · obtain ⟨a2, vs2, e2, q2, dq2⟩ := vr_lst g0.s (w2 F' H' (Same.refl _) g0 fun _ => Ext.refl _)
        exact ⟨a, a2, vs, vs2, by rw [e, e2], q, .inl ⟨q2, k _ _ F' H' p g (itz_ok (getL w e) (getL w2 e2))⟩⟩
      · obtain ⟨a2, vs2, e2, q2, dq2⟩ := vr_tup g0.s (w2 F' H' (Same.refl _) g0 fun _ => Ext.refl _)
        exact ⟨a, a2, vs, vs2, by rw [e, e2], q, .inr ⟨q2, k _ _ F' H' p g (itzM_ok (getL w e) (getT w2 e2))⟩⟩
theorem e_zip {ta : DTa} {ρ : List Sl} {Pi : List D → Prop} {Z : Zs} : dZip ta ρ Pi Z ↔ ta ρ (fun ds => ∃ xs ys d2, ds = [.list xs, d2] ∧ (d2 = .list ys ∨ d2 = .tuple ys) ∧ Pi (zipD xs ys)) Z := Iff.rfl
end DL
set_option maxRecDepth 100000
set_option maxHeartbeats 4000000
/-! DMP: x.pop(k) of a list, as a statement, and within what is put to its end. -/
namespace DL
open PySem PySem.Spec PyProof.Rows L2
abbrev DTp := List Sl → (D → List Sl → Prop) → Zs → Prop
/-- an expression that changes its root -/
structure DP (X : Cx) (W : WT) (i : Nat) (e : Expr) (t : DTp) : Prop where
  ok : ∃ te : TE, PE X e te ∧ ∀ (b : B) (F H : Hp) (σ : L2.St) (ρ : List Sl) (Q : VK) (P : D → List Sl → Prop) (Z : Zs), Rep X.K b F H σ ρ → ZOk X.mg X.K b F Z W → t ρ P Z →
    (∀ d v F' H' ρ', P d ρ' → Rep X.K b F' H' σ ρ' → Same F F' → Dq F' v d → Q v H') → te σ H Q
section
variable {X : Cx} {W : WT} {rm : Md} {x : Str} {p0 apos cpos pos : Pos} {e : Expr} {t : DT}
def popR (ds : List D) (k : D) (P : D → List D → Prop) : Prop := ∃ (j : Nat) (y : D), k = .int (j : Nat) ∧ j < 2 ^ 62 ∧ ds[j]? = some y ∧ P y (ds.eraseIdx j)
theorem seqIx {j n : Nat} (h : j < n) : seqIndex? (j : Int) n = some j := by
  unfold seqIndex?
  simp
  omega
def dpPop (i : Nat) (t : DT) : DTp := fun ρ P Z => ∃ ds, ρ[i]? = some (.ow (.list ds)) ∧ t ρ (fun k => popR ds k fun y es => P y (ρ.set i (.ow (.list es)))) Z
theorem dp_pop (i : Nat) (hx : PE X (.Name x p0) (tVar i)) (h : DE X W .fz e t)
    (hbase : attributeBase (.Name x p0) "pop" X.env (eval (.Name x p0) X.env) = eval (.Name x p0) X.env := by rfl)
    (hfew : ((backTo cpos (starEach (e :: []) X.env)).all (fun x => !x.1) && (backToKw cpos (keywordEach [] X.env)).all (fun x => x.1.isSome)
      && decide ((e :: []).length + ([] : List Keyword).length + (if ([] : List Keyword).isEmpty then 0 else 1) < 30)) = true := by rfl)
    (hline : (apos.endLine == cpos.line) = true := by rfl) (hs : starEach (e :: []) X.env = (false, eval e X.env) :: starEach [] X.env := by rfl) (hplain : (backTo cpos (starEach [] X.env)).any (·.1) = false := by rfl) :
    DP X W i (.Call (.Attribute (.Name x p0) "pop" apos) [e] [] cpos) (dpPop i t) := by
  obtain ⟨te, p, s⟩ := h.ok
  refine ⟨_, pe_bm PySem.F.plainAttrs_list PySem.F.slot_list_pop PySem.F.type_list_pop mt_popAt hx (pa_cons p pa_nil hs) hbase hfew hline hs hplain, fun b F H σ ρ Q P Z R z q k => ?_⟩
  obtain ⟨ds, e1, q⟩ := q
  obtain ⟨a, es, n, n2, xs, hH, hq⟩ := R.ow e1 rfl
  refine ⟨.ref a, es, .inl ⟨rfl, _, SqL.of hH⟩, s b F H σ ρ _ _ Z R z q fun y v F1 H1 p1 g r f => ?_⟩
  obtain ⟨j, w, rfl, hj, hw, p1⟩ := p1
  cases r
  have hq1 := hq.mono g.f
  obtain ⟨u, hu, ru⟩ := hq1.get hw
  refine ⟨a, xs, (j : Nat), j, u, rfl, rfl, g.h.ap hH, by omega, by omega, seqIx (List.getElem?_eq_some_iff.mp hu).1, hu, ?_⟩
  exact k _ _ F1 _ _ p1 ((R.grow g).write e1 es (own_mkL upd_same (hq1.eraseIdx j))) g.f ru
def dPopS (i : Nat) (t : DT) : DS := fun d Z ρ => dpPop i t ρ (fun _ ρ' => d.nx ρ') Z
theorem ds_popS {i : Nat} (h : DP X W i e (dpPop i t)) (hs0 : swapsWith e none pos.line X.env = pure false := by rfl) : DS1 X W rm (.Expr e pos) (dPopS i t) := by
  obtain ⟨te, p, s⟩ := h.ok
  refine ⟨_, ps_expr p hs0, fun b F H σ ρ D d Z R z q c => s b F H σ ρ _ _ Z R z q fun y v F1 H1 ρ1 p1 R1 g r => ?_⟩
  exact c.nx _ F1 _ σ g R1 p1
def dAppP (i : Nat) (tp : DTp) : DS := fun d Z ρ => ∃ ds0, ρ[i]? = some (.ow (.list ds0)) ∧ tp ρ (fun y ρ' => ∃ ds, ρ'[i]? = some (.ow (.list ds)) ∧ ds.length ≤ 100000 ∧ d.nx (ρ'.set i (.ow (.list (ds ++ [y]))))) Z
theorem ds_appP {tp : DTp} (i : Nat) (hx : PE X (.Name x p0) (tVar i)) (h : DP X W i e tp) (hs0 : swapsWith (.Call (.Attribute (.Name x p0) "append" apos) [e] [] cpos) none pos.line X.env = pure false := by rfl)
    (hbase : attributeBase (.Name x p0) "append" X.env (eval (.Name x p0) X.env) = eval (.Name x p0) X.env := by rfl)
    (hfew : ((backTo cpos (starEach (e :: []) X.env)).all (fun x => !x.1) && (backToKw cpos (keywordEach [] X.env)).all (fun x => x.1.isSome)
      && decide ((e :: []).length + ([] : List Keyword).length + (if ([] : List Keyword).isEmpty then 0 else 1) < 30)) = true := by rfl)
    (hline : (apos.endLine == cpos.line) = true := by rfl) (hs : starEach (e :: []) X.env = (false, eval e X.env) :: starEach [] X.env := by rfl) (hplain : (backTo cpos (starEach [] X.env)).any (·.1) = false := by rfl) :
    DS1 X W rm (.Expr (.Call (.Attribute (.Name x p0) "append" apos) [e] [] cpos) pos) (dAppP i tp) := by
  obtain ⟨te, p, s⟩ := h.ok
  refine ⟨_, ps_expr (pe_bm PySem.F.plainAttrs_list PySem.F.slot_list_append PySem.F.type_list_append mt_append hx (pa_cons p pa_nil hs) hbase hfew hline hs hplain) hs0, fun b F H σ ρ D d Z R z q c => ?_⟩
  obtain ⟨ds, e1, q⟩ := q
  obtain ⟨a, es, n, n2, xs, hH, hq⟩ := R.ow e1 rfl
  refine ⟨.ref a, es, .inl ⟨rfl, _, SqL.of hH⟩, s b F H σ ρ _ _ Z R z q fun y v F1 H1 ρ1 p1 R1 g r => ?_⟩
  obtain ⟨ds1, e2, hl, p1⟩ := p1
  obtain ⟨a1, es1, n1, n3, xs1, hH1, hq1⟩ := R1.ow e2 rfl
  rw [es] at es1
  cases es1
  refine ⟨a, xs1, v, rfl, rfl, hH1, by rw [hq1.length]; exact lt5 hl, ?_⟩
  exact c.nx _ F1 _ σ g (R1.write e2 es (own_mkL upd_same (hq1.snoc r))) p1
end
section
variable {i : Nat} {t : DT} {tp : DTp} {d : DEnds} {Z : Zs} {ρ : List Sl}
theorem e_popS : dPopS i t d Z ρ ↔ ∃ ds, ρ[i]? = some (.ow (.list ds)) ∧ t ρ (fun k => popR ds k fun _ es => d.nx (ρ.set i (.ow (.list es)))) Z := Iff.rfl
theorem e_appP : dAppP i (dpPop i t) d Z ρ ↔ ∃ ds0, ρ[i]? = some (.ow (.list ds0)) ∧ ∃ ds, ρ[i]? = some (.ow (.list ds)) ∧ t ρ (fun k => popR ds k fun y es => ∃ ds2, (ρ.set i (.ow (.list es)))[i]? = some (.ow (.list ds2)) ∧ ds2.length ≤ 100000 ∧ d.nx ((ρ.set i (.ow (.list es))).set i (.ow (.list (ds2 ++ [y]))))) Z := Iff.rfl
end
end DL
set_option maxRecDepth 100000
set_option maxHeartbeats 4000000
/-! DMQ: operators over an expression that changes its root. -/
namespace DL
open PySem PySem.Spec PyProof.Rows L2
section
variable {X : Cx} {W : WT}
def d2p (rd : D → D → (D → Prop) → Prop) (tp : DTp) (tb : DT) : DTp := fun ρ P Z => tp ρ (fun x ρ' => tb ρ' (fun y => rd x y (fun z => P z ρ')) Z) Z
theorem dp_op {i : Nat} {op : Operator} {ea eb : Expr} {tp : DTp} {tb : DT} {r : R2} {rd : D → D → (D → Prop) → Prop} {pos : Pos} (ho : OpR X (binaryOp op) r) (hr : R2ok X.K .fz .fz .fz r rd) (ha : DP X W i ea tp) (hb : DE X W .fz eb tb) :
    DP X W i (.BinOp ea op eb pos) (d2p rd tp tb) := by
  obtain ⟨te1, p1, s1⟩ := ha.ok
  obtain ⟨te2, p2, s2⟩ := hb.ok
  refine ⟨_, pe_op ho p1 p2, fun b F H σ ρ Q P Z R z q k => s1 b F H σ ρ _ _ Z R z q fun x v F1 H1 ρ1 p R1 g r1 => s2 b F1 H1 σ ρ1 _ _ Z R1 (z.mono g) p fun y v' F2 H2 p2 g2 r2 _ => ?_⟩
  exact hr b F2 H2 v v' x y Q _ (R1.g.trans g2) (r1.mono g2.f) r2 p2 fun z0 v0 F3 H3 p3 g3 r3 _ => k _ _ F3 H3 ρ1 p3 ((R1.grow g2).grow g3) (g.trans (g2.f.trans g3.f)) r3
theorem e_appQ {i : Nat} {tp : DTp} {d : DEnds} {Z : Zs} {ρ : List Sl} : dAppP i tp d Z ρ ↔ ∃ ds0, ρ[i]? = some (.ow (.list ds0)) ∧ tp ρ (fun y ρ' => ∃ ds, ρ'[i]? = some (.ow (.list ds)) ∧ ds.length ≤ 100000 ∧ d.nx (ρ'.set i (.ow (.list (ds ++ [y]))))) Z := Iff.rfl
theorem e_d2p {rd : D → D → (D → Prop) → Prop} {tp : DTp} {tb : DT} {ρ : List Sl} {P : D → List Sl → Prop} {Z : Zs} : d2p rd tp tb ρ P Z ↔ tp ρ (fun x ρ' => tb ρ' (fun y => rd x y (fun z => P z ρ')) Z) Z := Iff.rfl
theorem e_dpPop {i : Nat} {t : DT} {ρ : List Sl} {P : D → List Sl → Prop} {Z : Zs} : dpPop i t ρ P Z ↔ ∃ ds, ρ[i]? = some (.ow (.list ds)) ∧ t ρ (fun k => popR ds k fun y es => P y (ρ.set i (.ow (.list es)))) Z := Iff.rfl
end
end DL
set_option maxRecDepth 100000
set_option maxHeartbeats 4000000
/-! DMK: a dict by tuples whose values are own lists; locked for good when it goes out; its keys walked. -/
namespace DL
open PySem PySem.Spec PyProof.Rows L2
theorem tr_dT {F H : Hp} {v : V} {kds : List (List Key × D)} {A : List Addr} (t : Tr F H v (dctT kds) A) : ∃ (p : Addr) (A' : List Addr) (kvs : List (List Key × V)), v = .ref p ∧ F p = none ∧ A = p :: A' ∧ p ∉ A' ∧ H p = some (.dT kvs) ∧ kvs.map (·.1) = kds.map (·.1) ∧ Kids F H (kvs.map (·.2)) (kds.map (·.2)) A' := by
  obtain ⟨p, A', e, n, eA, hp, kvs, kds', e1, hH, hk, kd⟩ := t
  have h : kds = kds' := dctT_inj (congrArg PyData.dict e1)
  subst h
  exact ⟨p, A', kvs, e, n, eA, hp, hH, hk, kd⟩
theorem valD_any {κ : Type} [DecidableEq κ] {kds : List (κ × D)} {k : κ} : (valD kds k).isSome = kds.any fun p => decide (p.1 = k) := by
  unfold valD
  rw [Option.isSome_map]
  refine Bool.eq_iff_iff.mpr ?_
  rw [List.find?_isSome, List.any_eq_true]
theorem val_at {κ : Type} [DecidableEq κ] {k : κ} : ∀ {kvs : List (κ × V)} {j : Nat} {v : V}, kvs[j]? = some (k, v) → (∀ m, m < j → ∀ p, kvs[m]? = some p → p.1 ≠ k) → valV kvs k = some v
  | [], _, _, h, _ => by simp at h
  | p :: kvs, 0, v, h, _ => by
    simp only [List.getElem?_cons_zero, Option.some.injEq] at h
    subst h
    exact valV_pos rfl
  | p :: kvs, j + 1, v, h, h2 => by
    rw [valV_neg (h2 0 (by omega) p rfl)]
    exact val_at (by simpa using h) fun m hm q hq => h2 (m + 1) (by omega) q (by simpa using hq)
theorem put_new {κ : Type} [DecidableEq κ] {β : Type} {kvs : List (κ × V)} {kds : List (κ × D)} (h : kvs.map (·.1) = kds.map (·.1)) {k : κ} (hn : valD kds k = none) (v : V) : putK kvs k v = kvs ++ [(k, v)] := by
  unfold putK
  rw [if_neg]
  rw [kd_any h, ← valD_any, hn]
  simp
theorem Grow.lock {T : List (Addr × Str)} {F0 H0 F H : Hp} (g : Grow T F0 H0 F H) {p : Addr} {u : HO} (n : F p = none) (n0 : Nn H0 p) (hH : H p = some u) (iu : IsD u) (o : HO) (hk : ∀ k : List Key, o ≠ .tup (k.map kV) := by intro k z; cases z) (hn : ∀ ps, o ≠ .tbl ps := by intro ps z; cases z) : Grow T F0 H0 (upd F p o) (upd H p o) := by
  refine ⟨g.h.put o n0 (fun w e => by rw [hH] at e; cases e; exact iu), g.f.trans (same_new n), fun a w e => ?_, fun a w e nt => ?_, fun a ps e => ?_, fun a k e => ?_⟩
  · by_cases q : a = p
    · subst q
      rw [upd_same] at e ⊢
      exact e
    · rw [upd_ne q] at e ⊢
      exact g.s a w e
  · rw [upd_ne (nn_ne n0 e nt)]
    exact g.k a w e nt
  · by_cases q : a = p
    · subst q
      rw [upd_same] at e
      exact hn ps (Option.some.inj e)
    · rw [upd_ne q] at e
      exact g.n a ps e
  · by_cases q : a = p
    · subst q
      rw [upd_same] at e
      exact absurd (Option.some.inj e) (hk k)
    · rw [upd_ne q] at e ⊢
      exact g.c a k e
section
variable {X : Cx} {W : WT} {rm : Md} {pos : Pos}
theorem de_dnew2T {pos : Pos} : DE X W .n2 (.Dict [] [] pos) (dC (dctT [])) := ⟨_, pe_dnewT, fun b F H σ ρ Q P Z R z q k a na => by
  have n := R.same.free na
  have t : Tr F (upd H a (.dT [])) (.ref a) (dctT []) [a] := ⟨a, [], rfl, n, rfl, by simp, [], [], rfl, upd_same, rfl, .nil⟩
  refine k _ _ _ _ q (.own R.g (HO.dT []) na) ⟨[a], t⟩ fun A t2 c hc => ?_
  rw [← t.uniq (fun _ _ e _ => e) t2, List.mem_singleton] at hc
  subst hc
  exact nn_of na⟩
/-- k in x, x a dict that is being made -/
def dDInT (neg : Bool) (i : Nat) (tk : DT) : DT := fun ρ P Z => tk ρ (fun y => ∃ v kds ks, ρ[i]? = some (.tr v (dctT kds)) ∧ y = keyT ks ∧ P (.bool ((valD kds ks).isSome ^^ neg))) Z
theorem dt_dinT (i : Nat) {x : Str} {p0 : Pos} {k : Expr} {tk : DT} (hu : X.A.units + 1 < cLine) (hx : PE X (.Name x p0) (tVar i)) (hk : DE X W .fz k tk) (hm : behindInMarks .In (.Name x p0) = false := by rfl) : DEt X W (.Compare k [.In] [.Name x p0] pos) (dB (dDInT false i tk)) := by
  obtain ⟨te, p, s⟩ := hk.ok
  refine ⟨_, pt_cmp (pc_din hu p hx) hm, dcB fun b F H σ ρ Q P Z R z q kk => s b F H σ ρ _ _ Z R z q fun y v F1 H1 p1 g r _ => ?_⟩
  obtain ⟨v0, kds, ks, e, rfl, p1⟩ := p1
  have R1 := R.grow g
  obtain ⟨e1, A, t, _⟩ := R1.sl i _ e
  obtain ⟨a, A', kvs, rfl, n, rfl, hp, hH, hk1, kd⟩ := tr_dT t
  obtain ⟨c, rfl, ec⟩ := keyT_dq r
  refine ⟨_, e1, a, _, rfl, DGet.t hH (R1.g.s _ _ ec), ?_⟩
  rw [← valV_any, kd_any hk1, ← valD_any]
  rw [Bool.xor_false] at p1
  exact kk _ _ F1 H1 p1 g (Dq.bl _) trivial
theorem dt_dnotinT (i : Nat) {x : Str} {p0 : Pos} {k : Expr} {tk : DT} (hu : X.A.units + 1 < cLine) (hx : PE X (.Name x p0) (tVar i)) (hk : DE X W .fz k tk) (hm : behindInMarks .NotIn (.Name x p0) = false := by rfl) : DEt X W (.Compare k [.NotIn] [.Name x p0] pos) (dB (dDInT true i tk)) := by
  obtain ⟨te, p, s⟩ := hk.ok
  refine ⟨_, pt_cmp (pc_dnotin hu p hx) hm, dcB fun b F H σ ρ Q P Z R z q kk => s b F H σ ρ _ _ Z R z q fun y v F1 H1 p1 g r _ => ?_⟩
  obtain ⟨v0, kds, ks, e, rfl, p1⟩ := p1
  have R1 := R.grow g
  obtain ⟨e1, A, t, _⟩ := R1.sl i _ e
  obtain ⟨a, A', kvs, rfl, n, rfl, hp, hH, hk1, kd⟩ := tr_dT t
  obtain ⟨c, rfl, ec⟩ := keyT_dq r
  refine ⟨_, e1, a, _, rfl, DGet.t hH (R1.g.s _ _ ec), ?_⟩
  rw [← valV_any, kd_any hk1, ← valD_any]
  rw [Bool.xor_true] at p1
  exact kk _ _ F1 H1 p1 g (Dq.bl _) trivial
/-- x[k] = e: a new key, e an own root -/
def dPutNT (i : Nat) (tk t : DT) : DS := fun d Z ρ => ∃ v kds, ρ[i]? = some (.tr v (dctT kds)) ∧ kds.length ≤ 100000 ∧ t ρ (fun y => atmB y = false ∧ tk ρ (fun k => ∃ ks, k = keyT ks ∧ valD kds ks = none ∧ d.nx (ρ.set i (.tr v (dctT (kds ++ [(ks, y)]))))) Z) Z
theorem ds_putNT (i : Nat) {x : Str} {p0 tpos : Pos} {k e : Expr} {tk t : DT} (hu : X.A.units + 1 < cLine) (hx : PE X (.Name x p0) (tVar i)) (hk : DE X W .fz k tk) (h : DE X W .nw e t)
    (hs : swapsWith e (some (.Subscript (.Name x p0) k tpos)) pos.line X.env = pure false := by rfl) : DS1 X W rm (.Assign [.Subscript (.Name x p0) k tpos] e pos) (dPutNT i tk t) := by
  obtain ⟨te, p, s⟩ := h.ok
  obtain ⟨tek, pk, sk⟩ := hk.ok
  refine ⟨_, ps_dput hu hx pk p hs, fun b F H σ ρ D d Z R z q c => ?_⟩
  obtain ⟨v0, kds, e1, hl, q⟩ := q
  obtain ⟨es, A, t, nA⟩ := R.sl i _ e1
  refine s b F H σ ρ _ _ Z R z q fun y v F1 H1 p1 g r f => ⟨v0, es, sk b F1 H1 σ ρ _ _ Z (R.grow g) (z.mono g.f) p1.2 fun y2 v2 F2 H2 p2 g2 r2 f2 => ?_⟩
  obtain ⟨ks, rfl, hn, p2⟩ := p2
  obtain ⟨c2, rfl, ec⟩ := keyT_dq r2
  have t2 : Tr F2 H2 v0 (dctT kds) A := (t.grow g).grow g2
  obtain ⟨a, A', kvs, rfl, n, rfl, hp, hH, hk1, kd⟩ := tr_dT t2
  have own : ∃ q1, v = .ref q1 ∧ F2 q1 = none ∧ Own F2 H2 q1 y := by
    rcases VR.grow g2 r with ⟨q1, e, n, o⟩ | r
    · exact ⟨q1, e, n, o⟩
    · have := p1.1
      unfold Atm at r
      cases r <;> first | (simp [atmB] at this; done) | (rename_i z _; cases z) | (rename_i z _ _; cases z)
  obtain ⟨q1, rfl, nq, oq⟩ := own
  have fq : Nn H q1 := f q1 rfl
  have out : ∀ m ∈ a :: A', m ≠ q1 := fun c hc z => by
    obtain ⟨_, u, eu, iu⟩ := t.nn c hc
    obtain ⟨ps, z⟩ := fq u (z ▸ eu)
    exact isD_n iu ps z
  refine ⟨a, _, rfl, DPut.t hH (g2.s _ _ ec) (by rw [kd_len hk1]; exact lt5 hl), ?_⟩
  rw [put_new (β := Unit) hk1 hn]
  refine c.nx _ F2 _ σ (g.f.trans g2.f) (R.chg (q := a) (g.trans g2) e1 fun B s1 s2 => ?_) p2
  have eB : B = a :: A' := s1.2.1.uniq (fun _ _ e _ => e) t
  subst eB
  refine ⟨by simp, a :: (A' ++ [q1]), ⟨es, ⟨a, A' ++ [q1], rfl, n, rfl, ?_, kvs ++ [(ks, .ref q1)], kds ++ [(ks, y)], rfl, upd_same, ?_, ?_⟩, fun m hm => ?_⟩, fun m hm => ?_⟩
  · intro z
    rcases List.mem_append.mp z with z | z
    · exact hp z
    · exact out a (by simp) (by simpa using z)
  · rw [List.map_append, List.map_append, hk1]
    rfl
  · rw [List.map_append, List.map_append]
    refine (kd.mono (Same.refl _) fun m hm => ⟨(kd.nn m hm).1, upd_ne (fun (z : m = a) => hp (by rw [← z]; exact hm))⟩).append (.own nq (oq.mono (Same.refl _) (upd_ne (Ne.symm (out a (by simp))))) .nil (by simp)) fun m hm z => out m (by simp [hm]) (by simpa using z)
  · rcases List.mem_cons.mp hm with rfl | hm
    · exact nA _ (by simp)
    · rcases List.mem_append.mp hm with hm | hm
      · exact nA _ (by simp [hm])
      · rw [List.mem_singleton] at hm
        subst hm
        exact R.g.h.nn fq
  · rcases List.mem_cons.mp hm with rfl | hm
    · exact .inl (by simp)
    · rcases List.mem_append.mp hm with hm | hm
      · exact .inl (by simp [hm])
      · rw [List.mem_singleton] at hm
        subst hm
        exact .inr fq
/-- x[k], a child that is to be changed -/
def dChK (i : Nat) (tk : DT) : DTc := fun ρ P Z => ∃ v kds, ρ[i]? = some (.tr v (dctT kds)) ∧ tk ρ (fun kd => ∃ ks j c, kd = keyT ks ∧ kds[j]? = some (ks, c) ∧ (∀ m, m < j → ∀ p, kds[m]? = some p → p.1 ≠ ks) ∧ atmB c = false ∧ P v (dctT kds) j c) Z
theorem dc_key (i : Nat) {x : Str} {p0 : Pos} {k : Expr} {tk : DT} (hu : X.A.units + 1 < cLine) (hx : PE X (.Name x p0) (tVar i)) (hk : DE X W .fz k tk) (hs : NoSl k) : DCh X W i (.Subscript (.Name x p0) k pos) (dChK i tk) := by
  obtain ⟨te, p, s⟩ := hk.ok
  refine ⟨_, pe_dget hu hx p hs, fun b F H σ ρ Q P Z R z q kk => ?_⟩
  obtain ⟨v, kds, e, q⟩ := q
  refine ⟨v, (R.sl i _ e).1, s b F H σ ρ _ _ Z R z q fun kd kv F1 H1 p1 g r _ => ?_⟩
  obtain ⟨ks, j, c, rfl, hj, hf, ha, p1⟩ := p1
  have R1 := R.grow g
  obtain ⟨_, A, t, _⟩ := R1.sl i _ e
  obtain ⟨a, A', kvs, rfl, n, rfl, hp, hH, hk1, kd⟩ := tr_dT t
  obtain ⟨c2, rfl, ec⟩ := keyT_dq r
  have hc : (kds.map (·.2))[j]? = some c := by rw [List.getElem?_map, hj]; rfl
  obtain ⟨q, h1, h2, h3⟩ := kd.child hc ha
  have hkey : ∀ m : Nat, (kvs[m]?).map Prod.fst = (kds[m]?).map Prod.fst := fun m => by rw [← List.getElem?_map, ← List.getElem?_map, hk1]
  have hkv : kvs[j]? = some (ks, .ref q) := by
    rw [List.getElem?_map] at h1
    obtain ⟨pr, e2, e3⟩ := Option.map_eq_some_iff.mp h1
    have := hkey j
    rw [e2, hj] at this
    have e4 : pr.1 = ks := Option.some.inj this
    rw [e2, ← e3, ← e4]
  have hv : valV kvs ks = some (.ref q) := val_at hkv fun m hm pr e2 => by
    have := hkey m
    rw [e2] at this
    obtain ⟨pd, e3, e4⟩ := Option.map_eq_some_iff.mp this.symm
    rw [← e4]
    exact hf m hm pd e3
  refine ⟨a, .ref q, rfl, ?_, ?_⟩
  · rw [← hv]
    exact DGet.t hH (R1.g.s _ _ ec)
  · refine kk _ _ j c q F1 H1 p1 g e ⟨a, A', kvs.map (·.2), rfl, n, hp, ⟨kvs, kds, rfl, hH, hk1, rfl⟩, ?_, h1, ?_, ha⟩
    · show Kids F1 H1 _ ((kds.map fun p => (keyT p.1, p.2)).map (·.2)) A'
      rw [kids_dict]
      exact kd
    · show ((kds.map fun p => (keyT p.1, p.2)).map (·.2))[j]? = some c
      rw [kids_dict]
      exact hc
theorem setCh_dT {kds : List (List Key × D)} {j : Nat} {ks : List Key} {c0 c : D} (h : kds[j]? = some (ks, c0)) : setCh (dctT kds) j c = dctT (kds.set j (ks, c)) := by
  unfold dctT setCh
  refine congrArg PyData.dict (List.ext_getElem? fun m => ?_)
  rw [List.getElem?_mapIdx, List.getElem?_map, List.getElem?_map, List.getElem?_set]
  by_cases q : j = m
  · subst q
    have hl := (List.getElem?_eq_some_iff.mp h).1
    rw [if_pos rfl, if_pos hl, h]
    simp
  · rw [if_neg q]
    cases kds[m]? with
    | none => rfl
    | some p => simp [Ne.symm q]
/-! ### locked for good -/
def tLockF (t : TE) : TE := fun σ H Q => ∃ d u, H d = some u ∧ Mut (some u) ∧ ∀ od, t σ (upd H d (.frz od u)) Q
theorem pe_lockF {e : Expr} {t : TE} (h : PE X e t) : PE X e (tLockF t) := by
  refine ⟨fun pins s σ H Q I hw => ?_⟩
  obtain ⟨d, u, hd, mu, hw⟩ := hw
  obtain ⟨od, I1⟩ := I.lock hd mu
  exact h.run pins s σ _ Q I1 (hw od)
def dRetL (i : Nat) : DS := fun d _ ρ => ∃ v kds, ρ[i]? = some (.tr v (dctT kds)) ∧ d.rt (lkT kds)
theorem ds_retL (i : Nat) {x : Str} {p0 : Pos} (hN : X.N[i]? = some x := by rfl) (hv : Vis X.env.scope x := by first | exact Or.inl rfl | exact Or.inr (Or.inl rfl) | exact Or.inr (Or.inr rfl)) (hd : (x == ("__debug__" : Str)) = false := by decide)
    (hcd : (x == ("__classdict__" : Str)) = false := by decide) : DS1 X W .fz (.Return (some (.Name x p0)) pos) (dRetL i) := by
  refine ⟨_, ps_ret (pe_lockF (pe_var hN hv hd hcd)), fun b F H σ ρ D d Z R z q c => ?_⟩
  obtain ⟨v, kds, e, p⟩ := q
  obtain ⟨e1, A, t, n⟩ := R.sl i _ e
  obtain ⟨a, A', kvs, rfl, nf, rfl, hp, hH, hk1, kd⟩ := tr_dT t
  refine ⟨a, _, hH, trivial, fun od => ⟨_, e1, ?_⟩⟩
  have hA : ∀ m ∈ A', F m = none ∧ Nn b.H m ∧ ∃ u, H m = some u ∧ IsD u := fun m hm => ⟨(kd.nn m hm).1, n m (by simp [hm]), (kd.nn m hm).2⟩
  have g2 := seal_grow R.g hA
  have nf2 : sealA F H A' a = none := (seal_out hp).trans nf
  have dq : DqA (sealA F H A') (kvs.map (·.2)) (kds.map (·.2)) := kd.seal (seal_same fun m hm => (hA m hm).1) fun m hm => seal_in hm
  exact c.rt _ _ _ _ (g2.lock nf2 (n a (by simp)) hH trivial (.frz od (.dT kvs))) (Dq.dL upd_same hk1 (dq.mono (same_new nf2))) trivial p
/-! ### its keys, walked -/
theorem dqA_keys {F : Hp} : ∀ ks : List Key, DqA F (ks.map kV) (ks.map keyD)
  | [] => .nil
  | .inl i :: ks => .cons (.int i) (dqA_keys ks)
  | .inr x :: ks => .cons (.str x) (dqA_keys ks)
def keysD (kds : List (List Key × D)) : List D := kds.map fun p => keyT p.1
def dKeys (t : DT) : DTi := fun ρ P Z => t ρ (fun x => ∃ kds, x = lkT kds ∧ P (keysD kds)) Z
theorem itkt_ok {c : Bool} {b : B} {F0 H0 : Hp} {a : Addr} {o : Obj} {kvs : List (List Key × V)} {kds : List (List Key × D)} (hF : F0 a = some (.frz o (.dT kvs))) (hk : kvs.map (·.1) = kds.map (·.1)) : ItOk c b F0 H0 (Itkt a o kvs) (keysD kds) := by
  have hl : (keysD kds).length = kvs.length := by rw [keysD, List.length_map, ← kd_len hk]
  refine ⟨fun i F H hi s g hc => ⟨g.s _ _ (s _ _ hF), by rw [← hl]; exact hi⟩, fun F H s g hc => ⟨g.s _ _ (s _ _ hF), by rw [hl]; exact Nat.le_refl _⟩, fun i F H x H' d hd s g hc y => ?_⟩
  obtain ⟨rfl, k, v, q, h1, rfl, h2⟩ := y
  refine ⟨F, .refl g, ?_⟩
  have e : d = keyT k := by
    rw [keysD, List.getElem?_map] at hd
    obtain ⟨pd, e3, e4⟩ := Option.map_eq_some_iff.mp hd
    have : (kvs[i]?).map Prod.fst = (kds[i]?).map Prod.fst := by rw [← List.getElem?_map, ← List.getElem?_map, hk]
    rw [h1, e3] at this
    rw [← e4, ← Option.some.inj this]
  subst e
  exact .tup (g.c _ _ h2) (dqA_keys k)
theorem di_keys {c : Bool} {tg e : Expr} {t : DT} (h : DE X W .fz e t) : DI X W c tg e (dKeys t) := by
  obtain ⟨te, p, s⟩ := h.ok
  refine ⟨_, pi_keys p, fun b F H σ ρ R P Z R1 z q k => s b F H σ ρ _ _ Z R1 z q fun x v F' H' p g r f => ?_⟩
  obtain ⟨kds, rfl, p⟩ := p
  obtain ⟨a, rfl, o⟩ := vr_dict (K := X.K) (b := b) (Same.refl F') (.inl r)
  replace o := o.resolve_left fun z => own_noL z
  obtain ⟨od, kvs, hH, hk, hq⟩ := lk_T o
  exact ⟨a, od, rfl, .inr ⟨kvs, (R1.g.trans g).s _ _ hH, k _ _ F' H' p g (itkt_ok hH hk)⟩⟩
end
section
variable {i : Nat} {t tk : DT} {d : DEnds} {Z : Zs} {ρ : List Sl} {P : D → Prop}
theorem e_dinT {neg : Bool} : dDInT neg i tk ρ P Z ↔ tk ρ (fun y => ∃ v kds ks, ρ[i]? = some (.tr v (dctT kds)) ∧ y = keyT ks ∧ P (.bool ((valD kds ks).isSome ^^ neg))) Z := Iff.rfl
theorem e_putNT : dPutNT i tk t d Z ρ ↔ ∃ v kds, ρ[i]? = some (.tr v (dctT kds)) ∧ kds.length ≤ 100000 ∧ t ρ (fun y => atmB y = false ∧ tk ρ (fun k => ∃ ks, k = keyT ks ∧ valD kds ks = none ∧ d.nx (ρ.set i (.tr v (dctT (kds ++ [(ks, y)]))))) Z) Z := Iff.rfl
theorem e_chK {P : V → D → Nat → D → Prop} : dChK i tk ρ P Z ↔ ∃ v kds, ρ[i]? = some (.tr v (dctT kds)) ∧ tk ρ (fun kd => ∃ ks j c, kd = keyT ks ∧ kds[j]? = some (ks, c) ∧ (∀ m, m < j → ∀ p, kds[m]? = some p → p.1 ≠ ks) ∧ atmB c = false ∧ P v (dctT kds) j c) Z := Iff.rfl
theorem e_retL : dRetL i d Z ρ ↔ ∃ v kds, ρ[i]? = some (.tr v (dctT kds)) ∧ d.rt (lkT kds) := Iff.rfl
theorem e_keys {P : List D → Prop} : dKeys t ρ P Z ↔ t ρ (fun x => ∃ kds, x = lkT kds ∧ P (keysD kds)) Z := Iff.rfl
end
end DL
set_option maxRecDepth 100000
set_option maxHeartbeats 4000000
/-! DMT: sorted of a tuple. -/
namespace DL
open PySem PySem.Calls PySem.Spec PyProof.Rows PyProof.V PySem.W
section
variable {prog : Program} {w : World} {A : Around} {E : Value → Shared → Prop} {s : Shared}
/-- the items of a tuple, gathered -/
theorem collect_tupV {t : Addr} {vs : List Value} {o : Obj} {n : Nat} {Q : List Value → Shared → Prop} (ho : s.heap.get? t = some o) (hc : o.cls = .type "tuple") (hd : o.data = .seq vs.toArray n)
    (h : Q vs { s with heap := (s.heap.push (seqObj "list" #[] 0)).update s.heap.objs.size (Obj.mapSeq (· ++ vs.toArray)) }) (hsz : vs.length ≤ sizeLine) : wpAny (model prog w) A (collect (.ref t)) Q E s := by
  unfold collect
  refine wpAny_bind (wpAny_runValue (codeAny_builtin entry_proto_collect' ?_))
  show wpAny _ _ (do again (.builtin "list.__iadd__" ⟨[← newList [], .ref t], []⟩)) _ _ s
  refine wpAny_bind (wpAny_newList (wpAny_pure ⟨Code.quiet_builtin _ (by decide +kernel), codeAny_builtin entry_list_iadd' ?_⟩))
  show wpAny _ _ (Builtin.List.listExtendWith (.ref s.heap.objs.size) (.ref t) (.ref s.heap.objs.size)) _ _ { s with heap := s.heap.push (seqObj "list" #[] 0) }
  unfold Builtin.List.listExtendWith
  have ho' : (s.heap.push (seqObj "list" #[] 0)).get? t = some o := Heap.get?_push_of_some _ ho
  refine wpAny_bind (wpAny_typeOf (T := "tuple") ⟨o, ho', hc⟩ ?_)
  have ht : (Value.type "tuple" == Value.type "tuple") = true := by rfl
  rw [if_pos (by rw [ht]; simp)]
  refine wpAny_bind (listItems_at ho' hd ?_)
  refine wpAny_bind (listItems_at (xs := #[]) (n := 0) (Heap.get?_push_size _ rfl) rfl ?_)
  rw [if_neg (by simp)]
  refine wpAny_bind (listUpdate_at (xs := #[]) (n := 0) (Heap.get?_push_size _ rfl) rfl ?_ (Nat.zero_le _) (by show (#[] ++ vs.toArray).size ≤ sizeLine + 1; simp only [Array.size_append, List.size_toArray, List.length_nil]; omega))
  refine wpAny_pure ?_
  show wpAny (model prog w) A (do
      let o ← load s.heap.objs.size
      match o.data with
      | .seq xs _ => pure xs.toList
      | _ => unsupported "internal:collect") Q E { s with heap := (s.heap.push (seqObj "list" #[] 0)).update s.heap.objs.size (Obj.mapSeq (· ++ vs.toArray)) }
  refine wpAny_bind (wpAny_load (get?_update_seq (Heap.get?_push_size _ rfl) _) ?_)
  show wpAny _ _ (pure ((#[] : Array Value) ++ vs.toArray).toList) Q E _
  rw [show ((#[] : Array Value) ++ vs.toArray).toList = vs by simp]
  exact wpAny_pure h
/-- .. and laid in order in a new list -/
theorem sorted_tupV {t : Addr} {vs : List Value} {o : Obj} {n : Nat} {Q : Value → Shared → Prop} {κ : PyProof.Rows.KeyKind} (ho : s.heap.get? t = some o) (hc : o.cls = .type "tuple") (hd : o.data = .seq vs.toArray n)
    (S : SortsAt prog w A.in1.in1 { s with heap := sortingHeap (copyHeap s.heap vs) (s.heap.objs.size + 1) vs } κ vs) (hL : vs.length ≤ sizeLine)
    (h : Q (.ref (s.heap.objs.size + 1)) { s with heap := sortedAll s.heap vs (sortVals κ false vs vs).toArray }) : wpAny (model prog w) A (call (.builtin "sorted") [.ref t]) Q E s := by
  refine call_function_entry_kw kind_sorted plain_sorted entry_sorted (args_sorted1 _) ?_
  unfold Builtin.«sorted»
  refine wpAny_bind (m := checkCount "sorted" 1 1 _) (wpAny_pure ?_)
  refine wpAny_bind (collect_tupV ho hc hd ?_ hL)
  refine wpAny_bind (wpAny_newList ?_ hL)
  have hsz : ((s.heap.push (seqObj "list" #[] 0)).update s.heap.objs.size (Obj.mapSeq (· ++ vs.toArray))).objs.size = s.heap.objs.size + 1 := by
    rw [Heap.size_update, size_push']
  show wpAny _ _ _ _ _ { s with heap := copyHeap s.heap vs }
  rw [hsz]
  refine wpAny_bind (wpAny_holding (wpAny_call_entry_kw slot_list_sort ⟨_, copyHeap_at s.heap vs, rfl⟩ entry_list_sort ?body (args_list_sort _)))
  case body =>
    show wpAny (model prog w) A.in1.in1 (Builtin.«list.sort» ⟨[.ref (s.heap.objs.size + 1)], []⟩) _ _ _
    refine wpAny_mono (list_sort_vals (s := { s with heap := copyHeap s.heap vs }) (P := fun f s' => f = .done (.ret .none) ∧ Q (.ref (s.heap.objs.size + 1)) s') (copyHeap_at s.heap vs) S hL ⟨rfl, h⟩) (fun f s' hf => ?_) fun _ _ e => e
    obtain ⟨rfl, hq⟩ := hf
    exact ⟨_, rfl, wpAny_pure ⟨_, rfl, hq⟩⟩
/-- .. of data -/
theorem sorted_tupD {β : Type} {bs : List β} {enc : β → PyData} {R : Value → β → Prop} {t : Addr} {vs : List Value} {o : Obj} {n : Nat} {Q : Value → Shared → Prop} (ho : s.heap.get? t = some o) (hc : o.cls = .type "tuple") (hd : o.data = .seq vs.toArray n)
    (e : EachIs R vs bs) (er : EachIs (fun v b => ∃ as, Reads s.heap v (enc b) as) vs bs) (hal : AllAlike (bs.map enc)) (hk : Sortable (bs.map enc)) (hL : bs.length ≤ sizeLine)
    (hu : ∀ b, b ∈ bs → A.units + 2 + (enc b).depth < cLine) (h : ∀ out, out.length = bs.length → EachIs R out (bs.mergeSort (dataLe false enc)) → Q (.ref (s.heap.objs.size + 1)) { s with heap := sortedAll s.heap vs (List.toArray out) }) :
    wpAny (model prog w) A (call (.builtin "sorted") [.ref t]) Q E s := by
  have er' : EachIs (fun v b => ∃ as, Reads (sortingHeap (copyHeap s.heap vs) (s.heap.objs.size + 1) vs) v (enc b) as) vs bs := er.mono fun _ _ ⟨as, r⟩ => ⟨as, PyProof.Rows.Reads.keeps (fun _ _ => sorting_copy_old) r⟩
  exact sorted_tupV ho hc hd (SortsAt.data (s := { s with heap := sortingHeap (copyHeap s.heap vs) (s.heap.objs.size + 1) vs }) (each_map (R := fun v d => ∃ as, Reads (sortingHeap (copyHeap s.heap vs) (s.heap.objs.size + 1) vs) v d as) enc er') hal hk (bound_map hu)) (by rw [e.length]; exact hL)
    (h _ (by rw [sortVals_length false rfl]; exact e.length) (sortVals_data false e er' hal))
end
end DL
namespace DL
open PySem PySem.Spec PyProof.Rows L2
def rSortT (K : PySem.W.Frag) : List V → Hp → VK → Prop := fun vs H Q => ∃ (a : Addr) (xs : List V) (F : Hp) (ds : List D), vs = [V.ref a] ∧ SqT K H a xs ∧ Same F H ∧ DqA F xs ds ∧ SortOk ds ∧
  ∀ ys p, H p = none → DqA F ys (srtD ds) → Q (.ref p) (upd H p (.lst ys))
theorem cr_sortT {X : Cx} (hu : X.A.units + 64 < cLine) : CallR X (.builtin "sorted") (rSortT X.K) := by
  intro pins s σ H vs us Q I r h
  obtain ⟨a, xs, F, ds, rfl, hs, sm, dq, ⟨o1, o2, o3, o4⟩, q⟩ := h
  obtain ⟨its, rv, ⟨o, ho, hc, n, hd⟩, _⟩ := I.tuple hs
  rw [Vals.ref1 r]
  obtain ⟨e1, e2⟩ := each_of_dq I sm dq rv o4
  refine sorted_tupD (enc := id) ho hc hd e1 e2 (by rw [List.map_id]; exact o1) (by rw [List.map_id]; exact o2) (sz5 o3) (fun d hd => ?_) fun out h1 h2 => ?_
  · have := (shp_ok 8 d (o4 d hd)).2.1
    show X.A.units + 2 + (id d).depth < cLine
    simp only [id]
    omega
  · obtain ⟨ep, he'⟩ := PyProof.Rows.sortedAll_at s.heap its out.toArray
    obtain ⟨ys, v1, d1⟩ := dq_of_each h2
    have hlen : ys.length ≤ sizeLine := by rw [v1.length, h1]; exact sz5 o3
    exact ⟨.ref _, upd H (s.heap.objs.size + 1) (.lst ys), I.laid (t' := s.toks) (fun _ _ => PyProof.Rows.sortedAll_old) (Nat.le_succ _) ⟨hlen, out, ep, v1, he'⟩, rfl, q ys _ (I.hok.fresh (Nat.le_succ _)) d1⟩
theorem cr_sortA {X : Cx} (hu : X.A.units + 64 < cLine) : CallR X (.builtin "sorted") (fun xs H Q => rSortD X.K xs H Q ∨ rSortT X.K xs H Q) := (cr_sortD hu).or (cr_sortT hu)
/-- sorted of a list or a tuple -/
def sortAR : List D → (D → Prop) → Prop := fun ds P => ∃ xs, (ds = [.list xs] ∨ ds = [.tuple xs]) ∧ SortOk xs ∧ P (.list (srtD xs))
theorem ra_sortA {K : PySem.W.Frag} {m : Md} (hsh : m.sh = true := by rfl) : RAok K [m] .nw (fun xs H Q => rSortD K xs H Q ∨ rSortT K xs H Q) sortAR := fun b F H xs ds Q P g0 r h k => by
  obtain ⟨ls, e, o, p⟩ := h
  rcases e with rfl | rfl
  · exact .inl (ra_sort hsh b F H xs [.list ls] Q P g0 r ⟨ls, rfl, o, p⟩ k)
  · obtain ⟨v, rfl, r1⟩ := vrs1 (ms := []) r
    obtain ⟨a, xs, rfl, sq, dq⟩ := vr_tup g0.s (r1.rd hsh g0)
    refine .inr ⟨a, xs, F, ls, rfl, sq, g0.s, dq, o, fun ys l nl d => ?_⟩
    have g4 := Grow.own g0 (HO.lst ys) nl
    exact k _ _ _ _ p g4 (.inl ⟨l, rfl, g0.s.free nl, own_mkL upd_same d⟩) fun q e => by cases e; exact nn_of nl
theorem x_sortAL {ds : List D} {P : D → Prop} : sortAR [.list ds] P ↔ SortOk ds ∧ P (.list (srtD ds)) := ⟨fun ⟨xs, h1, h⟩ => by
  rcases h1 with h1 | h1 <;> cases h1
  exact h, fun h => ⟨ds, .inl rfl, h⟩⟩
theorem x_sortAT {ds : List D} {P : D → Prop} : sortAR [.tuple ds] P ↔ SortOk ds ∧ P (.list (srtD ds)) := ⟨fun ⟨xs, h1, h⟩ => by
  rcases h1 with h1 | h1 <;> cases h1
  exact h, fun h => ⟨ds, .inr rfl, h⟩⟩
end DL
set_option maxRecDepth 100000
set_option maxHeartbeats 4000000
/-! DMU: tuple + tuple, slices of tuples, of any kind. -/
namespace DL
open PySem PySem.Spec PyProof.Rows L2
def addA : D → D → (D → Prop) → Prop
  | .int i, .int j, P => P (.int (i + j))
  | .list a, .list b, P => a.length + b.length ≤ 100000 ∧ P (.list (a ++ b))
  | .tuple a, .tuple b, P => a.length + b.length ≤ 100000 ∧ P (.tuple (a ++ b))
  | _, _, _ => False
def rAddA (K : PySem.W.Frag) : R2 := fun x y H Q => (rI0 (fun i j => .int (i + j))) x y H Q ∨ rCat x y H Q ∨ rCatA K x y H Q
theorem op_addA {X : Cx} : OpR X (binaryOp .Add) (rAddA X.K) := op_add.or (op_cat.or op_catA)
theorem r2_addA {K : PySem.W.Frag} : R2ok K .fz .fz .fz (rAddA K) addA := fun b F H x y dx dy Q P g0 rx ry h k => by
  cases dx with
  | int i =>
    cases dy with
    | int j =>
      cases rx
      cases ry
      exact .inl ⟨i, j, rfl, rfl, k _ _ F H h (.refl g0) (Dq.int _) trivial⟩
    | _ => exact h.elim
  | list ds =>
    cases dy with
    | list es =>
      cases rx with
      | lst e1 q1 =>
        cases ry with
        | lst e2 q2 =>
          rename_i a1 xs a2 ys
          refine .inr (.inl ⟨_, _, _, _, rfl, rfl, g0.s _ _ e1, g0.s _ _ e2, by rw [q1.length, q2.length]; exact sz5 h.1, fun p np => ?_⟩)
          have g2 := Grow.new g0 (HO.lst (xs ++ ys)) np
          exact k _ _ _ _ h.2 g2 (Dq.lst upd_same ((q1.append q2).mono g2.f)) trivial
    | _ => exact h.elim
  | tuple ds =>
    cases dy with
    | tuple es =>
      cases rx with
      | tup e1 q1 =>
        cases ry with
        | tup e2 q2 =>
          rename_i a1 xs a2 ys
          obtain ⟨h2, p⟩ := h
          refine .inr (.inr ⟨_, _, _, _, rfl, rfl, .of (g0.s _ _ e1), .of (g0.s _ _ e2), by rw [q1.length, q2.length]; exact sz5 h2, fun e => ?_, fun _ e => ?_, fun _ _ q nq => ?_⟩)
          · subst e
            have : ds = [] := List.eq_nil_of_length_eq_zero q1.length.symm
            subst this
            exact k _ _ F H p (.refl g0) (Dq.tup e2 q2) trivial
          · subst e
            have : es = [] := List.eq_nil_of_length_eq_zero q2.length.symm
            subst this
            rw [List.append_nil] at p
            exact k _ _ F H p (.refl g0) (Dq.tup e1 q1) trivial
          · have g2 := Grow.new g0 (HO.tup (xs ++ ys)) nq
            exact k _ _ _ _ p g2 (Dq.tup upd_same ((q1.append q2).mono g2.f)) trivial
    | _ => exact h.elim
  | _ => exact h.elim
section
variable {X : Cx} {W : WT} {pos p2 : Pos}
def cutA (x : D) (lo hi : Option Int) (P : D → Prop) : Prop := match x with
  | .list ds => P (.list (cutD ds lo hi))
  | .tuple ds => P (.tuple (cutD ds lo hi))
  | _ => False
theorem cut_whole {ds : List D} {lo hi : Option Int} (h : HT.sIx ds.length 0 lo = 0 ∧ HT.sIx ds.length ds.length hi = ds.length) : cutD ds lo hi = ds := by
  unfold cutD
  rw [h.1, h.2, List.drop_zero, Nat.sub_zero, List.take_length]
def dSliceA (t : DT) (tl th : DTo) : DT := fun ρ P Z => t ρ (fun x => tl ρ (fun lo => th ρ (fun hi => cutA x lo hi P) Z) Z) Z
theorem de_sliceA {e : Expr} {lo hi : Option Expr} {t : DT} {tl th : DTo} (h : DE X W .fz e t) (hl : DO X W lo tl) (hh : DO X W hi th) : DE X W .fz (.Subscript e (.Slice lo hi none p2) pos) (dSliceA t tl th) := by
  obtain ⟨te, p, s⟩ := h.ok
  obtain ⟨te1, p1, s1⟩ := hl.ok
  obtain ⟨te2, p2, s2⟩ := hh.ok
  refine ⟨_, pe_slice (sl_list.or sl_tupA) p p1 p2, fun b F H σ ρ Q P Z R z q k => s b F H σ ρ _ _ Z R z q fun x v F1 H1 q1 g1 r _ => s1 b F1 H1 σ ρ _ _ Z (R.grow g1) (z.mono g1.f) q1 fun l F2 H2 q2 g2 => s2 b F2 H2 σ ρ _ _ Z ((R.grow g1).grow g2) (z.mono (g1.f.trans g2.f)) q2 fun u F3 H3 q3 g3 => ?_⟩
  have g0 := R.g.trans (g1.trans (g2.trans g3))
  have r3 : Dq F3 v x := Dq.mono (g2.f.trans g3.f) r
  cases x with
  | list ds =>
    cases r3 with
    | @lst a xs _ e1 dq =>
      refine .inl ⟨a, xs, rfl, .of (g0.s _ _ e1), fun p np => ?_⟩
      have g4 := Grow.new g0 (HO.lst (cutV xs l u)) np
      exact k _ _ _ _ q3 (g1.trans (g2.trans (g3.trans g4))) (Dq.lst upd_same ((cut_dq dq l u).mono g4.f)) trivial
  | tuple ds =>
    cases r3 with
    | @tup a xs _ e1 dq =>
      refine .inr ⟨a, xs, rfl, .of (g0.s _ _ e1), fun hw => ?_, fun hw p np => ?_⟩
      · rw [dq.length] at hw
        have q4 : P (.tuple (cutD ds l u)) := q3
        rw [cut_whole hw] at q4
        exact k _ _ F3 H3 q4 (g1.trans (g2.trans g3)) (Dq.tup e1 dq) trivial
      · have g4 := Grow.new g0 (HO.tup (cutV xs l u)) np
        exact k _ _ _ _ q3 (g1.trans (g2.trans (g3.trans g4))) (Dq.tup upd_same ((cut_dq dq l u).mono g4.f)) trivial
  | _ => exact q3.elim
/-! ### a, b = x, y with plain names: stored from the right -/
variable {rm : Md} {x y : Str} {a b : Expr} {px py pt : Pos} {i j : Nat}
def dPar (i j : Nat) (ta : DTa) : DS := fun d Z ρ => ta ρ (fun ds => ∃ u v, ds = [u, v] ∧ d.nx ((ρ.set i (.fz u)).set j (.fz v))) Z
theorem ds_par (i j : Nat) {ta : DTa} {kt k2 pt2} (hc : X.calm = true) (hN : X.N.Nodup) (ha : DA X W [.fz, .fz] [a, b] ta) (hi : X.N[i]? = some x := by rfl) (hj : X.N[j]? = some y := by rfl) (hij : i ≠ j := by decide)
    (hx : X.env.scope.names.lookup x = some .local := by rfl) (hy : X.env.scope.names.lookup y = some .local := by rfl)
    (hw : swappedStores [.Tuple [.Name x px, .Name y py] kt pt] (.Tuple [a, b] k2 pt2) X.env = pure (some [x, y]) := by rfl)
    (hs : swapsWithSole [.Tuple [.Name x px, .Name y py] kt pt] (.Tuple [a, b] k2 pt2) pos.line X.env = pure false := by rfl) : DS1 X W rm (.Assign [.Tuple [.Name x px, .Name y py] kt pt] (.Tuple [a, b] k2 pt2) pos) (dPar i j ta) := by
  obtain ⟨te, p, s⟩ := ha.ok
  refine ⟨_, ps_par hc hN hi hj hij hx hy p hw hs, fun b F H σ ρ D d Z R z q c => s b F H σ ρ _ _ Z R z q fun ds vs F' H' p g r => ?_⟩
  obtain ⟨u, v, rfl, p⟩ := p
  cases r with
  | cons r1 r =>
    cases r with
    | cons r2 r =>
      cases r
      exact ⟨_, _, rfl, c.nx _ F' H' _ g.f (((R.grow g).setF i r1).setF j r2) p⟩
end
section
variable {ρ : List Sl} {P : D → Prop} {Z : Zs} {t : DT} {tl th : DTo} {lo hi : Option Int}
theorem e_sliceA : dSliceA t tl th ρ P Z ↔ t ρ (fun x => tl ρ (fun lo => th ρ (fun hi => cutA x lo hi P) Z) Z) Z := Iff.rfl
theorem x_cutAL {a : List D} : cutA (.list a) lo hi P ↔ P (.list (cutD a lo hi)) := Iff.rfl
theorem x_cutAT {a : List D} : cutA (.tuple a) lo hi P ↔ P (.tuple (cutD a lo hi)) := Iff.rfl
theorem x_aaI {i j : Int} : addA (.int i) (.int j) P ↔ P (.int (i + j)) := Iff.rfl
theorem x_aaL {a b : List D} : addA (.list a) (.list b) P ↔ a.length + b.length ≤ 100000 ∧ P (.list (a ++ b)) := Iff.rfl
theorem x_aaT {a b : List D} : addA (.tuple a) (.tuple b) P ↔ a.length + b.length ≤ 100000 ∧ P (.tuple (a ++ b)) := Iff.rfl
theorem e_par {i j : Nat} {ta : DTa} {d : DEnds} : dPar i j ta d Z ρ ↔ ta ρ (fun ds => ∃ u v, ds = [u, v] ∧ d.nx ((ρ.set i (.fz u)).set j (.fz v))) Z := Iff.rfl
end
end DL
set_option maxRecDepth 100000
set_option maxHeartbeats 4000000
/-! DMV: set of a list of ints: sorted(set(x)), len(set(x)). -/
namespace L2
open PySem PySem.Spec PyProof.Rows
section
variable {P : Program} {w : World} {A : Around} {E : Value → Shared → Prop} {s : Shared}
set_option maxHeartbeats 3200000 in
theorem call_set_listI {l : Addr} {items : Array Value} (ns : List Int) {Q : Value → Shared → Prop} (hh : A.handled = none) (hl : s.heap.IsList l items) (hit : IntsAre items.toList ns) (hb : ns.length + 1 < scanBound)
    (h : ∀ (h' : Heap) (tk c : Nat), SetR w h' s.heap.objs.size (fun j => decide (j ∈ ns)) c → c ≤ ns.length → (∀ b o, s.heap.get? b = some o → h'.get? b = some o) → Q (.ref s.heap.objs.size) { s with heap := h', toks := tk }) :
    wpAny (model P w) A (call (.type "set") [.ref l]) Q E s := by
  have hisz : items.size = ns.length := by
    have q := IntsAre.length hit
    rw [Array.length_toList] at q
    exact q
  obtain ⟨c, tl, hmro⟩ := F.called_set.mro
  have hmade := F.called_set.made
  have hsub := F.called_set.sub
  refine wpAny_call (codeAny_of_tree ?_)
  show wpAny _ _ (callAny (.type "set") _) _ _ _
  refine wpAny_pure ⟨Code.quiet_builtin _ (by decide +kernel), codeAny_builtin F.entry_type_call ?_⟩
  rw [Around.under_plain (weight_type_call_type "set" [.ref l] []) rfl]
  have h1 := F.called_set.notType
  have h2 := F.called_set.canCreate
  have hct := F.typeCall_set_1 (.ref l)
  repeat (any_goals (first | assumption | wp_step))
  refine codeAny_mono (code_set_led1 (.ref l) (E := E) (Q₁ := fun obj s₁ => obj = .ref s.heap.objs.size ∧ s₁ = { s with heap := s.heap.push { cls := .type "set", dict := none, data := .set #[] 0 (.fresh 0 0 (!w.params.followText "set-order")) } }) ⟨rfl, rfl⟩) fun r s₁ hr => ?_
  cases r with
  | error e => exact hr
  | ok fl =>
    cases fl with
    | ret obj =>
      obtain ⟨rfl, rfl⟩ := hr
      have hS : (s.heap.push { cls := .type "set", dict := none, data := .set #[] 0 (.fresh 0 0 (!w.params.followText "set-order")) }).get? s.heap.objs.size = some { cls := .type "set", dict := none, data := .set #[] 0 (.fresh 0 0 (!w.params.followText "set-order")) } := Heap.get?_push_size _ rfl
      have hT : Shared.TypeIs { s with heap := s.heap.push { cls := .type "set", dict := none, data := .set #[] 0 (.fresh 0 0 (!w.params.followText "set-order")) } } (.ref s.heap.objs.size) "set" := ⟨_, hS, rfl⟩
      have hli := F.called_set.init.lookup
      have hbi := F.called_set.init.bind (.ref s.heap.objs.size)
      repeat (any_goals (first | assumption | wp_step))
      refine codeAny_mono (codeAny_call_builtin (R := wants (fun r s₂ => r = .none ∧ ∃ h' tk c, s₂ = { s with heap := h', toks := tk } ∧ SetR w h' s.heap.objs.size (fun j => decide (j ∈ ns)) c ∧ c ≤ ns.length ∧
          (∀ b o, s.heap.get? b = some o → h'.get? b = some o)) E) F.called_set.init.plain F.entry_set_init (check_set_init_1 hT ?_)) fun r₂ s₂ hr₂ => ?_
      · obtain ⟨ol, hol, hcl, nl, hdl⟩ := hl
        obtain ⟨ocls, odict, odata, oslots⟩ := ol
        simp only at hcl hdl
        subst hcl; subst hdl
        have hol' : (s.heap.push { cls := .type "set", dict := none, data := .set #[] 0 (.fresh 0 0 (!w.params.followText "set-order")) }).get? l = some { cls := .type "list", dict := odict, data := .seq items nl, slots := oslots } := Heap.get?_push_of_some _ hol
        have hsls := F.sub_list_set
        have hslf := F.sub_list_frozenset
        have hne : (Value.type "list" == Value.type "dict") = false := by decide
        have hl1 : (s.heap.push { cls := .type "set", dict := none, data := .set #[] 0 (.fresh 0 0 (!w.params.followText "set-order")) }).IsList l items := ⟨_, hol', rfl, nl, rfl⟩
        unfold Builtin.«set.__init__» noKeywords Builtin.Frozenset.updateFrom
        generalize hPI : pyIter = PI
        wp_walk
        subst hPI
        refine wpAny_pyIter_list hl1 ?_
        refine wpAny_bind (wpAny_runValue ?_)
        have hlS : l < s.heap.objs.size := Heap.lt_size hol
        have hh3 : A.in1.in1.in1.handled = none := by simp [hh]
        have hz1 : (s.heap.push { cls := .type "set", dict := none, data := .set #[] 0 (.fresh 0 0 (!w.params.followText "set-order")) }).objs.size = s.heap.objs.size + 1 := Heap.size_push ..
        have hneI : l ≠ (s.heap.push { cls := .type "set", dict := none, data := .set #[] 0 (.fresh 0 0 (!w.params.followText "set-order")) }).objs.size := by
          rw [Heap.size_push]; exact Nat.ne_of_lt (Nat.lt_succ_of_lt hlS)
        have hSf : s.heap.objs.size ∉ [(s.heap.push { cls := .type "set", dict := none, data := .set #[] 0 (.fresh 0 0 (!w.params.followText "set-order")) }).objs.size, l] := by
          rw [Heap.size_push]; simp only [List.mem_cons, List.mem_singleton, List.not_mem_nil, or_false, not_or]
          exact ⟨Nat.ne_of_lt (Nat.lt_succ_self _), Nat.ne_of_gt hlS⟩
        have hval : ∀ (i : Nat) (v : Value), items[i]? = some v → ∃ k t, ns[i]? = some k ∧ v = .int k t := fun i v hv => by
          have hi : i < ns.length := by rw [← hisz]; exact (Array.getElem?_eq_some_iff.mp hv).1
          obtain ⟨t, e⟩ := PyProof.Rows.IntsAre.int_at hit i v (by rw [Array.getElem?_toList]; exact hv)
          refine ⟨ns[i], t, List.getElem?_eq_getElem hi, ?_⟩
          rw [e, List.getD_eq_getElem?_getD, List.getElem?_eq_getElem hi] <;> rfl
        refine set_update_ints ((Walks.list hh3 _ l hneI items).toS) s.heap.objs.size
          hSf ns hisz hb hval (items.size - 0) 0 _ (by omega) (Nat.zero_le _)
          ⟨⟨_, Heap.get?_push_size _ rfl, rfl, rfl⟩, (hl1.push _)⟩ ?hS0 ?hR
        case hS0 =>
          have hget : ((s.heap.push { cls := .type "set", dict := none, data := .set #[] 0 (.fresh 0 0 (!w.params.followText "set-order")) }).push { cls := .type "list_iterator", data := .fields #[.ref l, .int 0 0] }).get? s.heap.objs.size
              = some { cls := .type "set", dict := none, data := .set #[] 0 (.fresh 0 0 (!w.params.followText "set-order")) } := Heap.get?_push_of_some _ hS
          exact ⟨0, Nat.le_refl 0, setR_new_at hget⟩
        case hR =>
          intro s' c' hm hc' hS'
          obtain ⟨h', g2, d', tk', os'⟩ := s'
          have eg : g2 = s.gens := hm.gens
          have ed : d' = s.drawn := hm.drawn
          have eo : os' = s.os := hm.os
          subst eg; subst ed; subst eo
          show wpAny _ _ _ _ _ _
          refine wpAny_pure ?_
          show wpAny _ _ (ret Value.none) _ _ _
          rw [hisz] at hc'
          refine wpAny_pure ⟨rfl, h', tk', c', rfl, hS', hc', fun b o e => ?_⟩
          have hb0 : b < s.heap.objs.size := Heap.lt_size e
          have hb1 : b ≠ s.heap.objs.size := Nat.ne_of_lt hb0
          have hb2 : b ≠ (s.heap.push { cls := .type "set", dict := none, data := .set #[] 0 (.fresh 0 0 (!w.params.followText "set-order")) }).objs.size := by
            rw [Heap.size_push]; exact Nat.ne_of_lt (Nat.lt_succ_of_lt hb0)
          exact hm.heap b o (by simp only [List.mem_cons, List.mem_singleton, List.not_mem_nil, or_false, not_or]; exact ⟨hb1, hb2⟩) (Heap.get?_push_of_some _ (Heap.get?_push_of_some _ e))
      · cases r₂ with
        | error e => exact hr₂
        | ok fl₂ =>
          cases fl₂ with
          | ret r =>
            obtain ⟨rfl, h', tk, c, rfl, hS', hc', hk'⟩ := hr₂
            repeat (any_goals (first | assumption | wp_step))
            exact h _ _ _ hS' hc' hk'
          | _ => exact hr₂.elim
    | _ => exact hr.elim
end
end L2
/-! ### distinct ones -/
namespace DL
def uniqL : List Int → List Int
  | [] => []
  | a :: l => if a ∈ l then uniqL l else a :: uniqL l
theorem mem_uniqL : ∀ {l : List Int} {j : Int}, j ∈ uniqL l ↔ j ∈ l
  | [], j => Iff.rfl
  | a :: l, j => by
    unfold uniqL
    split
    · rename_i h
      rw [mem_uniqL, List.mem_cons]
      exact ⟨.inr, fun q => q.elim (fun e => e ▸ h) id⟩
    · rw [List.mem_cons, List.mem_cons, mem_uniqL]
theorem uniqL_nodup : ∀ (l : List Int), (uniqL l).Nodup
  | [] => List.nodup_nil
  | a :: l => by
    unfold uniqL
    split
    · exact uniqL_nodup l
    · rename_i h
      exact List.nodup_cons.mpr ⟨fun q => h (mem_uniqL.mp q), uniqL_nodup l⟩
def srtU (l : List Int) : List Int := (uniqL l).mergeSort (fun a b => decide (a ≤ b))
def cntU (l : List Int) : Nat := (uniqL l).length
theorem cntU_eq {us l : List Int} (h : us.Nodup) (hm : ∀ j, j ∈ us ↔ j ∈ l) : us.length = cntU l := by
  have := (List.perm_ext_iff_of_nodup h (uniqL_nodup l)).mpr fun j => (hm j).trans mem_uniqL.symm
  exact this.length_eq
theorem mem_srtU {l : List Int} {j : Int} : j ∈ srtU l ↔ j ∈ l := by
  unfold srtU
  rw [List.mem_mergeSort, mem_uniqL]
theorem srtU_le (l : List Int) : (srtU l).Pairwise (· ≤ ·) := by
  have := List.pairwise_mergeSort (le := fun a b : Int => decide (a ≤ b)) (fun a b c h1 h2 => by simp only [decide_eq_true_eq] at *; omega) (fun a b => by simp only [Bool.or_eq_true, decide_eq_true_eq]; omega) (uniqL l)
  exact this.imp fun h => by simpa using h
theorem srtU_nodup (l : List Int) : (srtU l).Nodup := (List.mergeSort_perm _ _).nodup_iff.mpr (uniqL_nodup l)
theorem srtU_lt (l : List Int) : (srtU l).Pairwise (· < ·) := ((srtU_le l).and (srtU_nodup l)).imp fun h => by have := h.1; have := h.2; omega
theorem srtU_len (l : List Int) : (srtU l).length = cntU l := (List.mergeSort_perm _ _).length_eq
theorem srtU_eq {us l : List Int} (h : us.Pairwise (· < ·)) (hm : ∀ j, j ∈ us ↔ j ∈ l) : us = srtU l := by
  have hn : us.Nodup := h.imp fun q => by omega
  have hp : us.Perm (srtU l) := (List.perm_ext_iff_of_nodup hn (srtU_nodup l)).mpr fun j => (hm j).trans mem_srtU.symm
  exact List.Perm.eq_of_pairwise (le := fun a b : Int => a ≤ b) (fun a b _ _ h1 h2 => by omega) (h.imp fun q => by omega) (srtU_le l) hp
theorem cntU_le : ∀ (l : List Int), cntU l ≤ l.length
  | [] => Nat.le_refl _
  | a :: l => by
    have := cntU_le l
    unfold cntU at *
    unfold uniqL
    split
    · simp; omega
    · simp; omega
end DL
namespace L2
open PySem PySem.Spec PyProof.Rows
section
variable {X : Cx}
theorem setR_cnt {w : World} {h : Heap} {a : Addr} {ns : List Int} {c : Nat} (R : SetR w h a (fun j => decide (j ∈ ns)) c) : c = DL.cntU ns := by
  obtain ⟨o, es, ep, t, ho, hx, hd, g, nd, hm, hb, hf, hn, _⟩ := R
  rw [← hn, ← Array.length_toList, ← List.length_map (f := keyOf)]
  exact DL.cntU_eq nd fun j => (hm j).symm.trans decide_eq_true_iff
def rSetLI (K : PySem.W.Frag) (w : World) : List V → Hp → VK → Prop := fun vs H Q => ∃ (a : Addr) (ns : List Int), vs = [V.ref a] ∧ SqL K H a (ns.map V.int) ∧ ns.length ≤ 4000 ∧ ∀ p, H p = none → Q (.ref p) (upd H p (SetO w p (fun j => decide (j ∈ ns)) (DL.cntU ns)))
theorem cr_setL (hc : X.calm = true) : CallR X (.type "set") (rSetLI X.K X.w) := by
  intro pins s σ H vs us Q I r h
  obtain ⟨a, ns, rfl, hq, hl, q⟩ := h
  rw [Vals.ref1 r]
  obtain ⟨its, rv, pl, hz⟩ := I.list hq
  refine call_set_listI ns (I.ok.hd hc) pl.isList (by simpa using ints_of_vals rv) (by unfold scanBound; omega) fun h' tk c new hc2 hk => ?_
  have e := setR_cnt new
  subst e
  exact ⟨.ref _, upd H s.heap.objs.size (SetO X.w s.heap.objs.size (fun j => decide (j ∈ ns)) (DL.cntU ns)), I.laid (t' := tk) hk (Nat.le_refl _) (setO_new new), rfl, q _ (I.hok.fresh (Nat.le_refl _))⟩
def rLenSetO (w : World) : List V → Hp → VK → Prop := fun vs H Q => ∃ (a : Addr) (S : Int → Bool) (n : Nat), vs = [V.ref a] ∧ H a = some (SetO w a S n) ∧ Q (.int n) H
theorem cr_lenSetO : CallR X (.builtin "len") (rLenSetO X.w) := by
  intro pins s σ H vs us Q I r h
  obtain ⟨a, S, n, rfl, ha, q⟩ := h
  have R := setO_get I ha
  rw [Vals.ref1 r]
  obtain ⟨o, es, ep, t, ho, hex, hd, g, nd, hm, hb, hf, hn, _⟩ := R
  refine call_len_set ho hex hd hf (by unfold scanBound at hb; omega) ⟨.int n, H, I.tok _, ⟨_, by rw [hn]⟩, q⟩
end
end L2
namespace DL
open PySem PySem.Spec PyProof.Rows L2
section
variable {X : Cx} {W : WT} {pos : Pos} {m : Md}
def sortSetR (x : D) (P : D → Prop) : Prop := ∃ ns : List Int, x = .list (ns.map .int) ∧ ns.length ≤ 63 ∧ P (.list ((srtU ns).map .int))
def dSortSet (t : DT) : DT := fun ρ P Z => t ρ (fun x => sortSetR x P) Z
def lenSetR (x : D) (P : D → Prop) : Prop := ∃ ns : List Int, x = .list (ns.map .int) ∧ ns.length ≤ 4000 ∧ P (.int (cntU ns : Nat))
def dLenSet (t : DT) : DT := fun ρ P Z => t ρ (fun x => lenSetR x P) Z
theorem de_sortSet {e : Expr} {t : DT} {p p2 pos2 : Pos} (h : DE X W m e t) (hm : X.mg "sorted" = none) (hm2 : X.mg "set" = none) (hc : X.calm = true := by rfl) (hg : Gl X "sorted" := by rfl) (hg2 : Gl X "set" := by rfl)
    (hs : starEach [e] X.env = (false, eval e X.env) :: starEach [] X.env := by rfl)
    (hs2 : starEach [.Call (.Name "set" p2) [e] [] pos2] X.env = (false, eval (.Call (.Name "set" p2) [e] [] pos2) X.env) :: starEach [] X.env := by rfl) (hsh : m.sh = true := by rfl) :
    DE X W .nw (.Call (.Name "sorted" p) [.Call (.Name "set" p2) [e] [] pos2] [] pos) (dSortSet t) := by
  obtain ⟨te, pe, s⟩ := h.ok
  refine ⟨_, pe_callB (cr_sortedSet hc) hg hm PyProof.Rows.boot_sorted (pa_cons (pe_callTy (cr_setL hc) hg2 hm2 boot_set (pa_cons pe pa_nil hs) (by decide) (by decide) hs rfl) pa_nil hs2) (by decide) (by decide) hs2 rfl, fun b F H σ ρ Q P Z R z q k => s b F H σ ρ _ _ Z R z q fun x v F1 H1 q1 g1 r _ => ?_⟩
  obtain ⟨ns, rfl, hl, q1⟩ := q1
  have g0 := R.g.trans g1
  obtain ⟨a, xs, rfl, sq, dq⟩ := vr_lst g0.s (r.rd hsh g0)
  rw [ints_dq dq] at sq
  refine ⟨a, ns, rfl, sq, by omega, fun l nl => ?_⟩
  have g4 := Grow.own g0 (SetO X.w l (fun j => decide (j ∈ ns)) (cntU ns)) nl
  refine ⟨l, _, _, rfl, upd_same, Nat.lt_of_le_of_lt (cntU_le ns) (by omega), fun ys l2 h1 h2 h3 nl2 => ?_⟩
  have e : ys = srtU ns := srtU_eq h1 fun j => (h2 j).trans decide_eq_true_iff
  subst e
  have g5 := Grow.own (g0.trans g4) (HO.lst ((srtU ns).map V.int)) nl2
  refine k _ _ _ _ q1 ((g1.trans g4).trans g5) (.inl ⟨l2, rfl, (g0.trans g4).s.free nl2, own_mkL upd_same (dqA_ints _)⟩) fun q e => by cases e; exact (g1.trans g4).h.free nl2
theorem de_lenSet {e : Expr} {t : DT} {p p2 pos2 : Pos} (h : DE X W m e t) (hm : X.mg "len" = none) (hm2 : X.mg "set" = none) (hc : X.calm = true := by rfl) (hg : Gl X "len" := by rfl) (hg2 : Gl X "set" := by rfl)
    (hs : starEach [e] X.env = (false, eval e X.env) :: starEach [] X.env := by rfl)
    (hs2 : starEach [.Call (.Name "set" p2) [e] [] pos2] X.env = (false, eval (.Call (.Name "set" p2) [e] [] pos2) X.env) :: starEach [] X.env := by rfl) (hsh : m.sh = true := by rfl) :
    DE X W .fz (.Call (.Name "len" p) [.Call (.Name "set" p2) [e] [] pos2] [] pos) (dLenSet t) := by
  obtain ⟨te, pe, s⟩ := h.ok
  refine ⟨_, pe_callB cr_lenSetO hg hm boot_len (pa_cons (pe_callTy (cr_setL hc) hg2 hm2 boot_set (pa_cons pe pa_nil hs) (by decide) (by decide) hs rfl) pa_nil hs2) (by decide) (by decide) hs2 rfl, fun b F H σ ρ Q P Z R z q k => s b F H σ ρ _ _ Z R z q fun x v F1 H1 q1 g1 r _ => ?_⟩
  obtain ⟨ns, rfl, hl, q1⟩ := q1
  have g0 := R.g.trans g1
  obtain ⟨a, xs, rfl, sq, dq⟩ := vr_lst g0.s (r.rd hsh g0)
  rw [ints_dq dq] at sq
  refine ⟨a, ns, rfl, sq, by omega, fun l nl => ?_⟩
  have g4 := Grow.own g0 (SetO X.w l (fun j => decide (j ∈ ns)) (cntU ns)) nl
  exact ⟨l, _, _, rfl, upd_same, k _ _ _ _ q1 (g1.trans g4) (Dq.int _) trivial⟩
end
end DL

/-! ### a comprehension within one; is None of a tree; x.append(e), x a tree, e an own root -/
namespace DL
open PySem PySem.Spec PyProof.Rows L2
theorem blkOk_in {X : Cx} {s : Shared} {H : Hp} {scope inner sc0 : Scope} {C : Addr} {cl : List (Str × Addr)} {fp : List Addr} {N : List Str} {own : List (Str × Nat)} (hN : X.N = N) (e : X.env.scope = sc0) (h : blkC N (relS scope sc0) inner own = true) :
    BlkOk (X.blk s H scope (compEnvC scope cl C X.env) fp).N (X.blk s H scope (compEnvC scope cl C X.env) fp).env.scope inner own := by
  subst hN
  subst e
  exact blkOk_by h
theorem r2_isT {K : PySem.W.Frag} {ma mb : Md} {neg : Bool} (ha : ma ≠ .n2 := by intro z; cases z) (hb : mb.sh = true := by rfl) : R2ok K ma mb .fz (rIs neg) (isR neg) := fun b F H x y dx dy Q P g0 rx ry h k => by
  have rt := rx.rt g0 fun z => absurd z ha
  rcases rt with r1 | ⟨p, rfl, r1⟩
  · exact r2_is (ma := .rd) rfl hb b F H x y dx dy Q P g0 r1 ry h k
  · rcases h with ⟨rfl, q⟩ | ⟨a, c, rfl, rfl, q⟩
    · refine .inl ⟨vr_non (ry.rd hb g0), ?_⟩
      have : decide (V.ref p = .non) = isN dx := by
        cases dx <;> first | exact False.elim r1 | simp [isN]
      rw [this]
      exact k _ _ F H q (.refl g0) (Dq.bl _) trivial
    · exact False.elim r1
section
variable {X : Cx} {W : WT} {pos : Pos} {rm : Md}
def dAppT (i : Nat) (t : DT) : DS := fun d Z ρ => ∃ v ds, ρ[i]? = some (.tr v (.list ds)) ∧ ds.length ≤ 100000 ∧ t ρ (fun y => atmB y = false ∧ d.nx (ρ.set i (.tr v (.list (ds ++ [y]))))) Z
theorem ds_appT (i : Nat) {x : Str} {p0 apos cpos : Pos} {e : Expr} {t : DT} (hx : PE X (.Name x p0) (tVar i)) (h : DE X W .nw e t) (hs0 : swapsWith (.Call (.Attribute (.Name x p0) "append" apos) [e] [] cpos) none pos.line X.env = pure false := by rfl)
    (hbase : attributeBase (.Name x p0) "append" X.env (eval (.Name x p0) X.env) = eval (.Name x p0) X.env := by rfl)
    (hfew : ((backTo cpos (starEach (e :: []) X.env)).all (fun x => !x.1) && (backToKw cpos (keywordEach [] X.env)).all (fun x => x.1.isSome)
      && decide ((e :: []).length + ([] : List Keyword).length + (if ([] : List Keyword).isEmpty then 0 else 1) < 30)) = true := by rfl)
    (hline : (apos.endLine == cpos.line) = true := by rfl) (hs : starEach (e :: []) X.env = (false, eval e X.env) :: starEach [] X.env := by rfl) (hplain : (backTo cpos (starEach [] X.env)).any (·.1) = false := by rfl) :
    DS1 X W rm (.Expr (.Call (.Attribute (.Name x p0) "append" apos) [e] [] cpos) pos) (dAppT i t) := by
  obtain ⟨te, p, s⟩ := h.ok
  refine ⟨_, ps_expr (pe_bm PySem.F.plainAttrs_list PySem.F.slot_list_append PySem.F.type_list_append mt_append hx (pa_cons p pa_nil hs) hbase hfew hline hs hplain) hs0, fun b F H σ ρ D d Z R z q c => ?_⟩
  obtain ⟨v0, ds, e1, hl, q⟩ := q
  obtain ⟨es, A, t, nA⟩ := R.sl i _ e1
  obtain ⟨a, A', rfl, n, rfl, hp, xs, hH, kd⟩ := id t
  refine ⟨.ref a, es, .inl ⟨rfl, _, SqL.of hH⟩, s b F H σ ρ _ _ Z R z q fun y v F1 H1 p1 g r f => ?_⟩
  obtain ⟨p1, p2⟩ := p1
  have hH1 : H1 a = some (.lst xs) := g.h.ap hH
  refine ⟨a, xs, v, rfl, rfl, hH1, by rw [kd.len]; exact lt5 hl, ?_⟩
  have own : ∃ q1, v = .ref q1 ∧ F1 q1 = none ∧ Own F1 H1 q1 y := by
    rcases r with ⟨q1, e, n, o⟩ | r
    · exact ⟨q1, e, n, o⟩
    · unfold Atm at r
      cases r <;> first | (simp [atmB] at p1; done) | (rename_i z _; cases z) | (rename_i z _ _; cases z)
  obtain ⟨q1, rfl, nq, oq⟩ := own
  have fq : Nn H q1 := f q1 rfl
  have out : ∀ m ∈ a :: A', m ≠ q1 := fun c hc z => by
    obtain ⟨_, u, eu, iu⟩ := t.nn c hc
    obtain ⟨ps, z⟩ := fq u (z ▸ eu)
    exact isD_n iu ps z
  have kd1 : Kids F1 H1 xs ds A' := kd.grow g
  refine c.nx _ F1 _ σ g.f (R.chg (q := a) g e1 fun B s1 s2 => ?_) p2
  have eB : B = a :: A' := s1.2.1.uniq (fun _ _ e _ => e) t
  subst eB
  have t1 : Tr F1 H1 (.ref a) (.list ds) (a :: A') := t.grow g
  have n1 : F1 a = none := (t1.nn a (by simp)).1
  refine ⟨by simp, a :: (A' ++ [q1]), ⟨es, ⟨a, A' ++ [q1], rfl, n1, rfl, ?_, xs ++ [.ref q1], upd_same, ?_⟩, fun m hm => ?_⟩, fun m hm => ?_⟩
  · intro z
    rcases List.mem_append.mp z with z | z
    · exact hp z
    · exact out a (by simp) (by simpa using z)
  · refine (kd1.mono (Same.refl _) fun m hm => ⟨(kd1.nn m hm).1, upd_ne (fun (z : m = a) => hp (by rw [← z]; exact hm))⟩).append (.own nq (oq.mono (Same.refl _) (upd_ne (Ne.symm (out a (by simp))))) .nil (by simp)) fun m hm z => out m (by simp [hm]) (by simpa using z)
  · rcases List.mem_cons.mp hm with rfl | hm
    · exact nA _ (by simp)
    · rcases List.mem_append.mp hm with hm | hm
      · exact nA _ (by simp [hm])
      · rw [List.mem_singleton] at hm
        subst hm
        exact R.g.h.nn fq
  · rcases List.mem_cons.mp hm with rfl | hm
    · exact .inl (by simp)
    · rcases List.mem_append.mp hm with hm | hm
      · exact .inl (by simp [hm])
      · rw [List.mem_singleton] at hm
        subst hm
        exact .inr fq
def dVl (i : Nat) : DT := fun ρ P _ => ∃ d, ρ[i]? = some (.lt d) ∧ P d
theorem de_vl (i : Nat) {x : Str} {pos : Pos} (hN : X.N[i]? = some x := by rfl) (hv : Vis X.env.scope x := by first | exact Or.inl rfl | exact Or.inr (Or.inl rfl) | exact Or.inr (Or.inr rfl)) (hd : (x == ("__debug__" : Str)) = false := by decide)
    (hcd : (x == ("__classdict__" : Str)) = false := by decide) : DE X W .rt (.Name x pos) (dVl i) := by
  refine ⟨_, pe_var hN hv hd hcd, fun b F H σ ρ Q P Z R z q k => ?_⟩
  obtain ⟨d, e, p⟩ := q
  obtain ⟨v, e1, r⟩ := R.sl i _ e
  exact ⟨v, e1, goes_now k R.g p (RTr.same R.g.f R.g.h r) trivial⟩
end
end DL
set_option maxRecDepth 100000
set_option maxHeartbeats 4000000
/-! DMW: list of a dict by ints and texts; a tuple of two own roots; sorted(.., reverse=True); list.remove. -/
namespace DL
open PySem PySem.Spec PyProof.Rows L2
variable {T : List (Addr × Str)}
section
variable {X : Cx} {W : WT} {pos : Pos} {m : Md}
/-! ### list(d) -/
def rListD : List V → Hp → VK → Prop := fun xs H Q => ∃ (a : Addr) (kvs : List (Key × V)), xs = [.ref a] ∧ Rd H a (.dK kvs) ∧ ∀ p, H p = none → Q (.ref p) (upd H p (.lst (kvs.map fun kv => kV kv.1)))
theorem cr_listDK (hc : X.calm = true) : CallR X (.type "list") rListD := call_listD hc
def listDR : List D → (D → Prop) → Prop := fun xs P => ∃ kds : List (Key × D), xs = [dctK kds] ∧ P (.list (kds.map fun p => keyD p.1))
theorem ra_listD {K : PySem.W.Frag} (hsh : m.sh = true := by rfl) : RAok K [m] .nw rListD listDR := fun b F H xs ds Q P g0 r h k => by
  obtain ⟨kds, rfl, p⟩ := h
  obtain ⟨v, rfl, r1⟩ := vrs1 (ms := []) r
  obtain ⟨a, rfl, o⟩ := vr_dict g0.s (r1.rd hsh g0)
  replace o := o.resolve_right fun z => by
    rcases z with ⟨_, _, _, e, _⟩ | ⟨_, _, _, e, _⟩ <;> cases e
  obtain ⟨kvs, hH, hk, hq⟩ := own_K o
  refine ⟨a, kvs, rfl, .inl hH, fun l nl => ?_⟩
  have e : (kvs.map fun kv => kV kv.1) = (kds.map (·.1)).map kV := by rw [← hk, List.map_map]; rfl
  have e2 : (kds.map fun p => keyD p.1) = (kds.map (·.1)).map keyD := by rw [List.map_map]; rfl
  rw [e]
  rw [e2] at p
  have g4 := Grow.own g0 (HO.lst ((kds.map (·.1)).map kV)) nl
  exact k _ _ _ _ p g4 (.inl ⟨l, rfl, g0.s.free nl, own_mkL upd_same (dqA_keys _)⟩) fun q e => by cases e; exact nn_of nl
/-! ### a tuple of two own roots -/
theorem tr_two {F H : Hp} {a : Addr} {v w : V} {x y : D} (na : H a = none) (fa : F a = none) (hx : (∃ p, v = .ref p ∧ F p = none ∧ Own F H p x) ∨ Atm v x) (hy : (∃ p, w = .ref p ∧ F p = none ∧ Own F H p y) ∨ Atm w y) (hne : ∀ p, v = .ref p → w = .ref p → False) :
    ∃ A, Tr F (upd H a (.tup [v, w])) (.ref a) (.tuple [x, y]) (a :: A) ∧ ∀ q ∈ A, v = .ref q ∨ w = .ref q := by
  have mono : ∀ {p : Addr} {d : D}, Own F H p d → a ≠ p ∧ Own F (upd H a (.tup [v, w])) p d := fun {p d} o => by
    have hp : a ≠ p := by
      rintro rfl
      obtain ⟨u, e, _⟩ := o.some
      rw [na] at e
      cases e
    exact ⟨hp, o.mono (Same.refl _) (upd_ne (Ne.symm hp))⟩
  rcases hx with ⟨p, rfl, n1, o1⟩ | hx
  · obtain ⟨h1, o1⟩ := mono o1
    rcases hy with ⟨q, rfl, n2, o2⟩ | hy
    · obtain ⟨h2, o2⟩ := mono o2
      refine ⟨[p, q], ⟨a, [p, q], rfl, fa, rfl, by simp [h1, h2], _, upd_same, .own n1 o1 (.own n2 o2 .nil (by simp)) ?_⟩, by simp⟩
      rw [List.mem_singleton]
      rintro rfl
      exact hne _ rfl rfl
    · exact ⟨[p], ⟨a, [p], rfl, fa, rfl, by simp [h1], _, upd_same, .own n1 o1 (.atm hy .nil) (by simp)⟩, by simp⟩
  · rcases hy with ⟨q, rfl, n2, o2⟩ | hy
    · obtain ⟨h2, o2⟩ := mono o2
      exact ⟨[q], ⟨a, [q], rfl, fa, rfl, by simp [h2], _, upd_same, .atm hx (.own n2 o2 .nil (by simp))⟩, by simp⟩
    · exact ⟨[], ⟨a, [], rfl, fa, rfl, by simp, _, upd_same, .atm hx (.atm hy .nil)⟩, by simp⟩
theorem nw_key {F H : Hp} {v : V} {x : D} (hx : (∃ p, v = .ref p ∧ F p = none ∧ Own F H p x) ∨ Atm v x) (ha : atmB x = false) : ∃ p, v = .ref p := by
  rcases hx with ⟨p, e, _⟩ | hx
  · exact ⟨p, e⟩
  · unfold Atm at hx
    cases hx <;> first | (simp [atmB] at ha; done) | (rename_i z _; cases z) | (rename_i z _ _; cases z)
theorem notK {v w : V} (h : (∃ p, v = .ref p) ∨ ∃ p, w = .ref p) : ∀ k : List Key, HO.tup [v, w] ≠ .tup (k.map kV) := by
  intro k z
  injection z with z
  match k, z with
  | [k1, k2], z =>
    simp only [List.map_cons, List.map_nil, List.cons.injEq, and_true] at z
    rcases h with ⟨p, rfl⟩ | ⟨p, rfl⟩
    · have := z.1
      cases k1 <;> cases this
    · have := z.2
      cases k2 <;> cases this
def dTup2 (ta tb : DT) : DT := fun ρ P Z => ta ρ (fun x => tb ρ (fun y => (atmB x = false ∨ atmB y = false) ∧ P (.tuple [x, y])) Z) Z
theorem de_tup2 {ea eb : Expr} {x1} {ta tb : DT} (ha : DE X W .nw ea ta) (hb : DE X W .nw eb tb) (hs : starEach [ea, eb] X.env = (false, eval ea X.env) :: starEach [eb] X.env := by rfl) (hs2 : starEach [eb] X.env = (false, eval eb X.env) :: starEach [] X.env := by rfl) :
    DE X W .n2 (.Tuple [ea, eb] x1 pos) (dTup2 ta tb) := by
  obtain ⟨te1, p1, s1⟩ := ha.ok
  obtain ⟨te2, p2, s2⟩ := hb.ok
  refine ⟨_, pe_tup (pa_cons p1 (pa_cons p2 pa_nil hs2) hs), fun b F H σ ρ Q P Z R z q k => s1 b F H σ ρ _ _ Z R z q fun x v F1 H1 q1 g1 r1 f1 => s2 b F1 H1 σ ρ _ _ Z (R.grow g1) (z.mono g1.f) q1 fun y w F2 H2 q2 g2 r2 f2 => ?_⟩
  obtain ⟨hat, q2⟩ := q2
  have r1' : VR .nw X.K b F2 H2 v x := VR.grow g2 r1
  refine ⟨sz5 (by simp), fun a na => ?_⟩
  have R2 := (R.grow g1).grow g2
  have fa : F2 a = none := R2.same.free na
  have hne : ∀ p, v = .ref p → w = .ref p → False := fun p e1 e2 => by
    subst e1
    rcases r1 with ⟨p', e, _, o⟩ | r1
    · cases e
      obtain ⟨u, eu, iu⟩ := o.some
      obtain ⟨ps, z⟩ := f2 _ e2 u eu
      exact isD_n iu ps z
    · exact atm_ref r1
  obtain ⟨A, t, hA⟩ := tr_two na fa r1' r2 hne
  have hk : (∃ p, v = .ref p) ∨ ∃ p, w = .ref p := hat.imp (nw_key r1') (nw_key r2)
  have g4 := Grow.own R2.g (HO.tup [v, w]) na (notK hk)
  refine k _ _ _ _ q2 ((g1.trans g2).trans g4) ⟨_, t⟩ fun A2 t2 c hc => ?_
  rw [← t.uniq (fun _ _ e _ => e) t2] at hc
  rcases List.mem_cons.mp hc with rfl | hc
  · exact (g1.trans g2).h.free na
  · rcases hA c hc with e | e
    · exact f1 c e
    · exact g1.h.nn (f2 c e)
def dRetP (i j : Nat) : DS := fun d _ ρ => ∃ x y, ρ[i]? = some (.ow x) ∧ ρ[j]? = some (.ow y) ∧ (atmB x = false ∨ atmB y = false) ∧ d.rt (.tuple [x, y])
theorem ds_retP (i j : Nat) {x y : Str} {p0 p1 p2 : Pos} {x1} (hx : PE X (.Name x p0) (tVar i)) (hy : PE X (.Name y p1) (tVar j)) (hij : i ≠ j := by decide)
    (hs : starEach [.Name x p0, .Name y p1] X.env = (false, eval (.Name x p0) X.env) :: starEach [.Name y p1] X.env := by rfl) (hs2 : starEach [.Name y p1] X.env = (false, eval (.Name y p1) X.env) :: starEach [] X.env := by rfl) :
    DS1 X W .n2 (.Return (some (.Tuple [.Name x p0, .Name y p1] x1 p2)) pos) (dRetP i j) := by
  refine ⟨_, ps_ret (pe_tup (pa_cons hx (pa_cons hy pa_nil hs2) hs)), fun b F H σ ρ D d Z R z q c => ?_⟩
  obtain ⟨x, y, ei, ej, hat, p⟩ := q
  obtain ⟨fp, f1, f2, f3⟩ := R.ex
  obtain ⟨v, ev, r1⟩ := f1 i _ ei
  obtain ⟨w, ew, r2⟩ := f1 j _ ej
  refine ⟨v, ev, w, ew, sz5 (by simp), fun a na => ?_⟩
  have hne : ∀ p, v = .ref p → w = .ref p → False := fun p e1 e2 => by
    subst e1
    subst e2
    rcases r1 with ⟨_, r1⟩ | ⟨q, e, eA, _⟩
    · exact atm_ref r1
    · cases e
      rcases r2 with ⟨_, r2⟩ | ⟨q2, e2, eB, _⟩
      · exact atm_ref r2
      · cases e2
        exact f3 i j p hij (by rw [eA]; simp) (by rw [eB]; simp)
  have r1' : (∃ p, v = .ref p ∧ F p = none ∧ Own F H p x) ∨ Atm v x := r1.elim (fun r => .inr r.2) fun ⟨p, e, _, n, _, o⟩ => .inl ⟨p, e, n, o⟩
  have r2' : (∃ p, w = .ref p ∧ F p = none ∧ Own F H p y) ∨ Atm w y := r2.elim (fun r => .inr r.2) fun ⟨p, e, _, n, _, o⟩ => .inl ⟨p, e, n, o⟩
  have n1 : ∀ q, v = .ref q → Nn b.H q := fun q e => by
    subst e
    rcases r1 with ⟨_, r1⟩ | ⟨q', e, _, _, n, _⟩
    · exact (atm_ref r1).elim
    · cases e
      exact n
  have n2 : ∀ q, w = .ref q → Nn b.H q := fun q e => by
    subst e
    rcases r2 with ⟨_, r2⟩ | ⟨q', e, _, _, n, _⟩
    · exact (atm_ref r2).elim
    · cases e
      exact n
  have fa : F a = none := R.same.free na
  obtain ⟨A, t, hA⟩ := tr_two na fa r1' r2' hne
  have hk : (∃ p, v = .ref p) ∨ ∃ p, w = .ref p := hat.imp (nw_key r1') (nw_key r2')
  have g4 := Grow.own R.g (HO.tup [v, w]) na (notK hk)
  refine c.rt _ _ F _ (R.g.trans g4) ⟨_, t⟩ (fun A2 t2 c hc => ?_) p
  rw [← t.uniq (fun _ _ e _ => e) t2] at hc
  rcases List.mem_cons.mp hc with rfl | hc
  · exact R.g.h.free na
  · rcases hA c hc with e | e
    · exact n1 c e
    · exact n2 c e
/-! ### sorted(x, reverse=True) -/
end
end DL
namespace DL
open PySem PySem.Calls PySem.Spec PyProof.Rows PyProof.V PySem.W SrtO SrtR
section
variable {prog : Program} {w : World} {A : Around} {E : Value → Shared → Prop} {s : Shared}
theorem sorted_ordT {l : Addr} {vs : List Value} {o : Obj} {n : Nat} {b : Bool} {kw : List (Str × Value)} {ltv : Value → Value → Bool} {Q : Value → Shared → Prop} (hk : ∀ a, Builtin.«list.sort» ⟨[.ref a], kw⟩ = Builtin.«list.sort» ⟨[.ref a], [(Str.ofString "reverse", .bool b)]⟩)
    (ha1 : argsOk "sorted" ⟨[.ref l], kw⟩) (ha2 : ∀ a, argsOk "list.sort" ⟨[a], kw⟩) (O : Swo ltv) (ho : s.heap.get? l = some o) (hc : o.cls = .type "tuple") (hd : o.data = .seq vs.toArray n) (hz : vs.length ≤ sizeLine)
    (hS : 2 ≤ vs.length → ∀ (h₁ : Heap) (a : Addr), h₁.get? a = some (seqObj "list" vs.toArray 0) → (∀ b o, s.heap.get? b = some o → b ≠ a ∧ h₁.get? b = some o) → SortableO prog w A.in1.in1 { s with heap := h₁ } a vs ltv)
    (h : ∀ out : List Value, Srtd ltv out → Stb ltv out (if b = true then vs.reverse else vs) → Q (.ref (s.heap.objs.size + 1)) { s with heap := sortedAll s.heap vs (if b = true then out.toArray.reverse else out.toArray) }) :
    wpAny (model prog w) A (call (.builtin "sorted") [.ref l] kw) Q E s := by
  refine call_function_entry_kw kind_sorted plain_sorted entry_sorted ha1 ?_
  unfold Builtin.«sorted»
  refine wpAny_bind (m := checkCount "sorted" 1 1 _) (wpAny_pure ?_)
  refine wpAny_bind (collect_tupV ho hc hd ?_ hz)
  refine wpAny_bind (wpAny_newList ?_ hz)
  have hsz : ((s.heap.push (seqObj "list" #[] 0)).update s.heap.objs.size (Obj.mapSeq (· ++ vs.toArray))).objs.size = s.heap.objs.size + 1 := by
    rw [Heap.size_update, size_push']
  have hoL : (((s.heap.push (seqObj "list" #[] 0)).update s.heap.objs.size (Obj.mapSeq (· ++ vs.toArray))).push (seqObj "list" vs.toArray 0)).get? (s.heap.objs.size + 1) = some (seqObj "list" vs.toArray 0) := by
    rw [← hsz]; exact Heap.get?_push_size _ rfl
  have keep : ∀ b o, s.heap.get? b = some o → b ≠ s.heap.objs.size + 1 ∧ (((s.heap.push (seqObj "list" #[] 0)).update s.heap.objs.size (Obj.mapSeq (· ++ vs.toArray))).push (seqObj "list" vs.toArray 0)).get? b = some o := fun b o q => by
    have hlt : b < s.heap.objs.size := Heap.lt_size q
    refine ⟨Nat.ne_of_lt (Nat.lt_succ_of_lt hlt), Heap.get?_push_of_some _ ?_⟩
    rw [Heap.get?_update_ne _ _ _ _ (Nat.ne_of_lt hlt)]
    exact Heap.get?_push_of_some _ q
  show wpAny _ _ _ _ _ { s with heap := ((s.heap.push (seqObj "list" #[] 0)).update s.heap.objs.size (Obj.mapSeq (· ++ vs.toArray))).push (seqObj "list" vs.toArray 0) }
  rw [hsz]
  refine wpAny_bind (wpAny_holding (wpAny_call_entry_kw slot_list_sort ⟨_, hoL, rfl⟩ entry_list_sort ?_ (ha2 _)))
  rw [hk]
  refine list_sort_ordR O hoL hz (fun h2 => hS h2 _ _ hoL keep) fun out hs hb => ⟨_, rfl, ?_⟩
  exact wpAny_pure ⟨_, rfl, h out hs hb⟩
end
end DL
namespace DL
open PySem PySem.Spec PyProof.Rows L2
def rSortRT (K : PySem.W.Frag) : List V → List V → Hp → VK → Prop := fun vs zs H Q => ∃ (a : Addr) (ns : List Int), vs = [V.ref a] ∧ zs = [V.bl true] ∧ SqT K H a (ns.map V.int) ∧ ns.length ≤ 100000 ∧
  ∀ (ns' : List Int) (p : Addr), ns'.Perm ns → OrdB true ns' → H p = none → Q (.ref p) (upd H p (.lst (ns'.map V.int)))
theorem cr_sortRT {X : Cx} : CallRK X (.builtin "sorted") [Str.ofString "reverse"] (rSortRT X.K) := by
  intro pins s σ H vs zs us ws Q I r rz h
  obtain ⟨a, ns, rfl, rfl, hs, hl, q⟩ := h
  obtain rfl := Vals.ref1 r
  obtain ⟨w1, rfl, e1⟩ := vals1 rz
  obtain rfl : w1 = Value.bool true := e1
  obtain ⟨its, rv, ⟨o, ho, hc, n, hd⟩, _⟩ := I.tuple hs
  have hi := rv.ints
  have hlI : its.length = ns.length := by rw [← rv.length, List.length_map]
  refine sorted_ordT (b := true) (fun _ => rfl) (PyProof.Rows.args_sorted_rev _ _) (fun _ => PyProof.Rows.args_list_sort_rev _ _) SrtO.swo_int ho hc hd (sz5 (by omega)) (fun h2 h₁ a' _ _ => SrtO.ints_sortable hi h2) fun out h1 h2 => ?_
  obtain ⟨ns', k1, k2, k3⟩ := SrtR.ints_outR hi h1 h2
  obtain ⟨ep, he'⟩ := PyProof.Rows.sortedAll_at s.heap its (if true = true then out.toArray.reverse else out.toArray)
  have hlen : (ns'.map V.int).length ≤ sizeLine := by
    rw [List.length_map, k2.length_eq]
    exact sz5 hl
  have e0 : ((if true = true then out.toArray.reverse else out.toArray).toList).toArray = (if true = true then out.toArray.reverse else out.toArray) := by rw [Array.toArray_toList]
  exact ⟨.ref _, upd H (s.heap.objs.size + 1) (.lst (ns'.map V.int)), I.laid (t' := s.toks) (fun _ _ => PyProof.Rows.sortedAll_old) (Nat.le_succ _) ⟨hlen, _, ep, vals_of_ints k1, by rw [e0]; exact he'⟩, rfl, q ns' _ k2 k3 (I.hok.fresh (Nat.le_succ _))⟩
section
variable {X : Cx} {W : WT} {pos : Pos} {m : Md}
def sortRevR (x : D) (P : D → Prop) : Prop := ∃ ns : List Int, (x = .list (ns.map .int) ∨ x = .tuple (ns.map .int)) ∧ ns.length ≤ 100000 ∧ ∀ ns' : List Int, ns'.Perm ns → ns'.Pairwise (· ≥ ·) → P (.list (ns'.map .int))
def dSortRev (t : DT) : DT := fun ρ P Z => t ρ (fun x => sortRevR x P) Z
theorem de_sortRev {e : Expr} {t : DT} {p kp : Pos} {ki kj} (h : DE X W m e t) (hm : X.mg "sorted" = none) (hg : Gl X "sorted" := by rfl)
    (he : starEach [e] X.env = (false, eval e X.env) :: starEach [] X.env := by rfl)
    (he2 : backTo pos (starEach [e] X.env) = (false, eval e X.env) :: backTo pos (starEach [] X.env) := by rfl) (hpl : (backTo pos (starEach [e] X.env)).any (·.1) = false := by rfl)
    (hall : (backToKw pos (keywordEach [⟨some "reverse", .Constant (.bool true) ki kj, kp⟩] X.env)).all (·.1.isSome) = true := by rfl) (hnone : (backToKw pos (keywordEach [⟨some "reverse", .Constant (.bool true) ki kj, kp⟩] X.env)).any (·.1.isNone) = false := by rfl) (hks : (backToKw pos (keywordEach [⟨some "reverse", .Constant (.bool true) ki kj, kp⟩] X.env)).filterMap (·.1) = [Str.ofString "reverse"] := by rfl) (hsh : m.sh = true := by rfl) :
    DE X W .nw (.Call (.Name "sorted" p) [e] [⟨some "reverse", .Constant (.bool true) ki kj, kp⟩] pos) (dSortRev t) := by
  obtain ⟨te, pe, s⟩ := h.ok
  refine ⟨_, pe_callBK (r := fun vs zs H Q => rSortedKw X.K true [.bl true] vs zs H Q ∨ rSortRT X.K vs zs H Q) (fun pins s σ H xs zs us ws Q I r1 r2 h => h.elim (cr_sortedRev pins s σ H xs zs us ws Q I r1 r2) (cr_sortRT pins s σ H xs zs us ws Q I r1 r2)) hg hm PyProof.Rows.boot_sorted (pa_cons pe pa_nil he) (pk_cons pe_bl pk_nil) (by decide) (by decide) he2 hpl hall hnone hks, fun b F H σ ρ Q P Z R z q k => s b F H σ ρ _ _ Z R z q fun x v F1 H1 q1 g1 r _ => ?_⟩
  obtain ⟨ns, e, hl, q1⟩ := q1
  have g0 := R.g.trans g1
  have fin : ∀ (ns' : List Int) (p : Addr), ns'.Perm ns → OrdB true ns' → H1 p = none → Q (.ref p) (upd H1 p (.lst (ns'.map V.int))) := fun ns' p h1 h2 nl => by
    have g4 := Grow.own g0 (HO.lst (ns'.map V.int)) nl
    exact k _ _ _ _ (q1 ns' h1 h2) (g1.trans g4) (.inl ⟨p, rfl, g0.s.free nl, own_mkL upd_same (dqA_ints _)⟩) fun q e => by cases e; exact g1.h.free nl
  rcases e with rfl | rfl
  · obtain ⟨a, xs, rfl, sq, dq⟩ := vr_lst g0.s (r.rd hsh g0)
    rw [ints_dq dq] at sq
    exact .inl ⟨a, ns, rfl, rfl, sq, fin⟩
  · obtain ⟨a, xs, rfl, sq, dq⟩ := vr_tup g0.s (r.rd hsh g0)
    rw [ints_dq dq] at sq
    exact .inr ⟨a, ns, rfl, rfl, sq, hl, fin⟩
/-! ### x.remove(e) -/
def RemAt (ds : List D) (y : D) (j : Nat) : Prop := ∃ z, ds[j]? = some z ∧ PyData.eqv z y = true ∧ ∀ (m : Nat) (z' : D), m < j → ds[m]? = some z' → PyData.eqv z' y = false
def rRemS (K : PySem.W.Frag) : V → List V → Hp → VK → Prop := fun x xs H Q => ∃ (a : Addr) (y : V) (d : D) (vs : List V) (ds : List D) (j : Nat), x = V.ref a ∧ xs = [y] ∧ H a = some (.lst vs) ∧ DpAll K H vs ds ∧ Dp K H y d ∧ Shp 8 d ∧ (∀ z ∈ ds, Shp 8 z) ∧ RemAt ds d j ∧ Q .non (upd H a (.lst (vs.eraseIdx j)))
theorem mt_remS (hu : X.A.units + 64 < cLine) : MtR X "list.remove" (rRemS X.K) := by
  intro pins s σ H x xs v us Q I rx rxs h
  obtain ⟨a, y, d, vs, ds, j, rfl, rfl, hH, hl, hy, sd, sl, ⟨zz, hz, hzj, hno⟩, q⟩ := h
  cases rx
  cases rxs with
  | cons ry rt =>
    rename_i uy ut
    cases rt
    obtain ⟨bs, r1⟩ := Dp.reads I d y uy hy ry
    obtain ⟨d1, d2, _⟩ := shp_ok 8 _ sd
    obtain ⟨e1, e2, _⟩ := shpA (shp_ok 8) ds sl
    have hroom : X.A.units + 1 + min (PyData.depthAll ds) d.depth < cLine := by have := Nat.min_le_right (PyData.depthAll ds) d.depth; omega
    obtain ⟨z, its, n, rv, hlen, e⟩ := I.lstM hH
    obtain ⟨as, h4⟩ := Dp.readsAll I ds _ its hl rv
    have hn : its.length = ds.length := SeqAt.ReadsAll.length ds its as h4
    have hmap : its.map (SeqAt.readOf s.heap) = ds := SeqAt.readsAll_map ds its as e1 h4
    obtain ⟨hjd, _⟩ := List.getElem?_eq_some_iff.mp hz
    have hjl : j < its.length := by omega
    have hj : j < its.toArray.size := by simpa using hjl
    have at_ : ∀ (m : Nat) (hm : m < its.toArray.size) (z' : PyData), ds[m]? = some z' → SeqAt.readOf s.heap its.toArray[m] = z' := by
      intro m hm z' hz'
      have hml : m < its.length := by simpa using hm
      rw [← hmap, List.getElem?_map, List.getElem?_eq_getElem hml] at hz'
      have e1 : SeqAt.readOf s.heap its[m] = z' := Option.some.inj (show some (SeqAt.readOf s.heap its[m]) = some z' from hz')
      simpa using e1
    refine call_meets PySem.F.slot_list_remove ⟨_, e, rfl⟩ PySem.F.entry_list_remove (PySem.F.args_list_remove_2 _ _)
      (SeqAt.list_removeAt a its.toArray n none #[] uy (fun u => PyData.eqv (SeqAt.readOf s.heap u) d) j hj ?_ ?_ (by rw [List.size_toArray]; omega)) ⟨e, SeqAt.items_eqAt (vs := its.toArray) (show ReadsAll s.heap its.toArray.toList ds as from h4) r1 e1 d1 hroom, ?_⟩
    · show PyData.eqv (SeqAt.readOf s.heap its.toArray[j]) d = true
      rw [at_ j hj zz hz]
      exact hzj
    · intro m hm hmj
      have hmd : m < ds.length := by omega
      have hz' : ds[m]? = some ds[m] := List.getElem?_eq_getElem hmd
      show PyData.eqv (SeqAt.readOf s.heap its.toArray[m]) d = false
      rw [at_ m hm _ hz']
      exact hno m _ hmj hz'
    · refine ⟨.non, _, I.lset (its' := its.eraseIdx j) (t' := s.toks) hH e ?_ (rv.eraseIdx j) ?_, rfl, q⟩
      · show its.toArray.eraseIdxIfInBounds j = (its.eraseIdx j).toArray
        rw [List.eraseIdxIfInBounds_toArray]
      · rw [List.length_eraseIdx]
        split <;> omega
def dRem (i : Nat) (t : DT) : DS := fun d Z ρ => ∃ ds, ρ[i]? = some (.ow (.list ds)) ∧ t ρ (fun y => ∃ j, Shp 8 y ∧ (∀ z ∈ ds, Shp 8 z) ∧ RemAt ds y j ∧ d.nx (ρ.set i (.ow (.list (ds.eraseIdx j))))) Z
theorem DqA.erase {F : Hp} : ∀ {vs : List V} {ds : List D} (j : Nat), DqA F vs ds → DqA F (vs.eraseIdx j) (ds.eraseIdx j)
  | _, _, _, .nil => .nil
  | _, _, 0, .cons _ q => q
  | _, _, j + 1, .cons a q => .cons a (DqA.erase j q)
theorem ds_rem {rm : Md} (i : Nat) {x : Str} {p0 apos cpos : Pos} {e : Expr} {t : DT} (hu : X.A.units + 64 < cLine) (hx : PE X (.Name x p0) (tVar i)) (h : DE X W .fz e t) (hs0 : swapsWith (.Call (.Attribute (.Name x p0) "remove" apos) [e] [] cpos) none pos.line X.env = pure false := by rfl)
    (hbase : attributeBase (.Name x p0) "remove" X.env (eval (.Name x p0) X.env) = eval (.Name x p0) X.env := by rfl)
    (hfew : ((backTo cpos (starEach (e :: []) X.env)).all (fun x => !x.1) && (backToKw cpos (keywordEach [] X.env)).all (fun x => x.1.isSome)
      && decide ((e :: []).length + ([] : List Keyword).length + (if ([] : List Keyword).isEmpty then 0 else 1) < 30)) = true := by rfl)
    (hline : (apos.endLine == cpos.line) = true := by rfl) (hs : starEach (e :: []) X.env = (false, eval e X.env) :: starEach [] X.env := by rfl) (hplain : (backTo cpos (starEach [] X.env)).any (·.1) = false := by rfl) :
    DS1 X W rm (.Expr (.Call (.Attribute (.Name x p0) "remove" apos) [e] [] cpos) pos) (dRem i t) := by
  obtain ⟨te, p, s⟩ := h.ok
  refine ⟨_, ps_expr (pe_bm PySem.F.plainAttrs_list PySem.F.slot_list_remove PySem.F.type_list_remove (mt_remS hu) hx (pa_cons p pa_nil hs) hbase hfew hline hs hplain) hs0, fun b F H σ ρ D d Z R z q c => ?_⟩
  obtain ⟨ds, e1, q⟩ := q
  obtain ⟨a, es, n, n2, xs, hH, hq⟩ := R.ow e1 rfl
  refine ⟨.ref a, es, .inl ⟨rfl, _, SqL.of hH⟩, s b F H σ ρ _ _ Z R z q fun y v F1 H1 p1 g r f => ?_⟩
  obtain ⟨j, sy, sds, hp, p1⟩ := p1
  have R1 := R.grow g
  have fl := (shpA (shp_ok 8) ds sds).2.2
  refine ⟨a, v, y, xs, ds, j, rfl, rfl, g.h.ap hH, (hq.mono g.f).dp R1.same fl, VR.dp (b := b) R1.same (.inl r) (shp_ok 8 _ sy).2.2, sy, sds, hp, ?_⟩
  exact c.nx _ F1 _ σ g.f (R1.write e1 es (own_mkL upd_same (DqA.erase j (hq.mono g.f)))) p1
end
end DL
set_option maxRecDepth 100000
set_option maxHeartbeats 4000000
/-! DMX: a, b = e, e a new tuple of two own roots. -/
namespace DL
open PySem PySem.Spec PyProof.Rows L2
theorem Rep.storeD {K : PySem.W.Frag} {b : B} {F H : Hp} {σ : L2.St} {ρ : List Sl} (R : Rep K b F H σ ρ) (i : Nat) (v : Option V) (s : Sl) {A : List Addr} (ok : SlF K b F H (some v) s A)
    (fr : ∀ fp : Nat → List Addr, (∀ (i : Nat) (s : Sl), ρ[i]? = some s → SlF K b F H σ[i]? s (fp i)) → ∀ (m : Nat) (t : Sl), ρ[m]? = some t → ∀ a ∈ A, a ∉ fp m) : Rep K b F H (σ.set i v) (ρ.set i s) := by
  obtain ⟨fp, f1, f2, f3⟩ := R.ex
  by_cases hi : i < ρ.length
  · refine ⟨R.g, R.tt, by rw [List.length_set, List.length_set]; exact R.len, ovr fp (fun j => decide (j = i)) A, fun j t e => ?_, fun j e => ?_, fun j k a hjk h1 h2 => ?_⟩
    · by_cases hj : j = i
      · subst hj
        rw [List.getElem?_set_self hi] at e
        cases e
        rw [ovr_pos (by simp), List.getElem?_set_self (by rw [R.len]; exact hi)]
        exact ok
      · rw [List.getElem?_set_ne (Ne.symm hj)] at e ⊢
        rw [ovr_neg (by simpa using hj)]
        exact f1 j t e
    · have hj : j ≠ i := by
        rintro rfl
        rw [List.getElem?_set_self hi] at e
        cases e
      rw [List.getElem?_set_ne (Ne.symm hj)] at e
      rw [ovr_neg (by simpa using hj)]
      exact f2 j e
    · have out : ∀ m, a ∈ fp m → a ∈ A → False := fun m h1 h2 => by
        cases e : ρ[m]? with
        | none => rw [f2 m e] at h1; simp at h1
        | some t => exact fr fp f1 m t e a h2 h1
      by_cases hj : j = i
      · rw [ovr_pos (by simpa using hj)] at h1
        by_cases hk : k = i
        · exact hjk (hj.trans hk.symm)
        · rw [ovr_neg (by simpa using hk)] at h2
          exact out k h2 h1
      · rw [ovr_neg (by simpa using hj)] at h1
        by_cases hk : k = i
        · rw [ovr_pos (by simpa using hk)] at h2
          exact out j h1 h2
        · rw [ovr_neg (by simpa using hk)] at h2
          exact f3 j k a hjk h1 h2
  · rw [List.set_eq_of_length_le (by rw [R.len]; omega), List.set_eq_of_length_le (by omega)]
    exact R
theorem own_sl {K : PySem.W.Frag} {b : B} {F H : Hp} {v : V} {x : D} (hx : (∃ p, v = .ref p ∧ F p = none ∧ Own F H p x) ∨ Atm v x) (hn : ∀ p, v = .ref p → Nn b.H p) : ∃ A, SlF K b F H (some (some v)) (.ow x) A ∧ ∀ a ∈ A, v = .ref a := by
  rcases hx with ⟨p, rfl, n, o⟩ | hx
  · exact ⟨[p], ⟨_, rfl, .inr ⟨p, rfl, rfl, n, hn p rfl, o⟩⟩, by simp⟩
  · exact ⟨[], ⟨_, rfl, .inl ⟨rfl, hx⟩⟩, by simp⟩
theorem kids2 {F H : Hp} {xs : List V} {x y : D} {A : List Addr} (k : Kids F H xs [x, y] A) : ∃ v w, xs = [v, w] ∧ ((∃ p, v = .ref p ∧ F p = none ∧ Own F H p x) ∨ Atm v x) ∧ ((∃ p, w = .ref p ∧ F p = none ∧ Own F H p y) ∨ Atm w y) ∧ (∀ p, v = .ref p → p ∈ A) ∧ (∀ p, w = .ref p → p ∈ A) ∧ ∀ p, v = .ref p → w = .ref p → False := by
  cases k with
  | own n o k m =>
    cases k with
    | own n2 o2 k2 m2 =>
      cases k2
      refine ⟨_, _, rfl, .inl ⟨_, rfl, n, o⟩, .inl ⟨_, rfl, n2, o2⟩, fun p e => by cases e; simp, fun p e => by cases e; simp, fun p e1 e2 => ?_⟩
      cases e1
      cases e2
      simp at m
    | atm a2 k2 =>
      cases k2
      exact ⟨_, _, rfl, .inl ⟨_, rfl, n, o⟩, .inr a2, fun p e => by cases e; simp, fun p e => by subst e; exact (atm_ref a2).elim, fun p e1 e2 => by subst e2; exact atm_ref a2⟩
  | atm a1 k =>
    cases k with
    | own n2 o2 k2 m2 =>
      cases k2
      exact ⟨_, _, rfl, .inr a1, .inl ⟨_, rfl, n2, o2⟩, fun p e => by subst e; exact (atm_ref a1).elim, fun p e => by cases e; simp, fun p e1 e2 => by subst e1; exact atm_ref a1⟩
    | atm a2 k2 =>
      cases k2
      exact ⟨_, _, rfl, .inr a1, .inr a2, fun p e => by subst e; exact (atm_ref a1).elim, fun p e => by subst e; exact (atm_ref a2).elim, fun p e1 e2 => by subst e1; exact atm_ref a1⟩
section
variable {X : Cx} {W : WT} {pos : Pos} {rm : Md}
def dAsgP (i j : Nat) (t : DT) : DS := fun d Z ρ => t ρ (fun z => ∃ x y, z = .tuple [x, y] ∧ d.nx ((ρ.set i (.ow x)).set j (.ow y))) Z
theorem ds_asgP (i j : Nat) {x y : Str} {px py pt : Pos} {kt} {e : Expr} {t : DT} (hc : X.calm = true) (hN : X.N.Nodup) (h : DE X W .n2 e t) (hi : X.N[i]? = some x := by rfl) (hj : X.N[j]? = some y := by rfl) (hij : i ≠ j := by decide)
    (hx : Loc X.env.scope x := by first | exact Or.inl rfl | exact Or.inr rfl) (hy : Loc X.env.scope y := by first | exact Or.inl rfl | exact Or.inr rfl)
    (hfx : X.fn x = true ∨ X.env.scope.names.lookup x = some .local := by first | exact .inl rfl | exact .inr rfl) (hfy : X.fn y = true ∨ X.env.scope.names.lookup y = some .local := by first | exact .inl rfl | exact .inr rfl)
    (hn : (assignEach [.Name x px, .Name y py] X.env).length = 2 := by rfl) (hst : (assignEach [.Name x px, .Name y py] X.env).findIdx? (·.1) = none := by rfl)
    (hs1 : (assignEach [.Name x px, .Name y py] X.env).map (·.2) = assign (.Name x px) X.env :: (assignEach [.Name y py] X.env).map (·.2) := by rfl) (hs2 : (assignEach [.Name y py] X.env).map (·.2) = assign (.Name y py) X.env :: (assignEach [] X.env).map (·.2) := by rfl)
    (hs : swapsWithSole [.Tuple [.Name x px, .Name y py] kt pt] e pos.line X.env = pure false := by rfl) (hw : swappedStores [.Tuple [.Name x px, .Name y py] kt pt] e X.env = pure none := by rfl)
    (h1 : (assignEach [.Tuple [.Name x px, .Name y py] kt pt] X.env).map (·.2) = [assign (.Tuple [.Name x px, .Name y py] kt pt) X.env] := by rfl) : DS1 X W rm (.Assign [.Tuple [.Name x px, .Name y py] kt pt] e pos) (dAsgP i j t) := by
  obtain ⟨te, p, s⟩ := h.ok
  refine ⟨_, ps_asg p (pg_tup hc (pgs_cons (pg_name hN hi hx hfx) (pgs_cons (pg_name hN hj hy hfy) pgs_nil hs2) hs1) hn hst) hs hw h1, fun b F H σ ρ D d Z R z q c => s b F H σ ρ _ _ Z R z q fun zz u F' H' p g r f => ?_⟩
  obtain ⟨x, y, rfl, p⟩ := p
  obtain ⟨A, tr⟩ := r
  have fA := f A tr
  obtain ⟨a, A', rfl, na, rfl, hp, xs, hH, kd⟩ := id tr
  obtain ⟨v, w, rfl, r1, r2, h1, h2, hne⟩ := kids2 kd
  have hnv : ∀ p, v = .ref p → Nn H p := fun p e => fA p (by simp [h1 p e])
  have hnw : ∀ p, w = .ref p → Nn H p := fun p e => fA p (by simp [h2 p e])
  obtain ⟨A1, s1, m1⟩ := own_sl (K := X.K) r1 fun p e => R.g.h.nn (hnv p e)
  obtain ⟨A2, s2, m2⟩ := own_sl (K := X.K) r2 fun p e => R.g.h.nn (hnw p e)
  have R1 := R.store g i (some v) (.ow x) s1 fun a ha => hnv a (m1 a ha)
  have R2 := R1.storeD j (some w) (.ow y) s2 fun fp hf m t e c hc hcm => by
    by_cases hm : m = i
    · subst hm
      have hi' : m < ρ.length := by
        have := (List.getElem?_eq_some_iff.mp e).1
        rwa [List.length_set] at this
      rw [List.getElem?_set_self hi'] at e
      cases e
      have q := hf m (.ow x) (List.getElem?_set_self hi')
      rw [List.getElem?_set_self (by rw [R.len]; exact hi')] at q
      have : fp m = A1 := q.uniq (fun _ _ e _ => e) s1
      rw [this] at hcm
      exact hne c (m1 c hcm) (m2 c hc)
    · have q := hf m t e
      rw [List.getElem?_set_ne (Ne.symm hm)] at e q
      obtain ⟨fp0, f1, f2, f3⟩ := R.ex
      have q0 := f1 m t e
      have : fp0 m = fp m := q0.uniq (fun a o e n => g.h.e a o e n) q
      rw [← this] at hcm
      obtain ⟨_, _, u, eu, iu⟩ := q0.mem c hcm
      obtain ⟨ps, z⟩ := hnw c (m2 c hc) u eu
      exact isD_n iu ps z
  exact ⟨a, _, rfl, .of hH, rfl, v, [w], rfl, w, [], rfl, rfl, c.nx _ F' H' _ g.f R2 p⟩
/-- .. of a lent tuple -/
def dAsgL (i j k : Nat) : DS := fun d _ ρ => ∃ x y, ρ[k]? = some (.lt (.tuple [x, y])) ∧ d.nx ((ρ.set i (.ln x)).set j (.ln y))
theorem ds_asgL (i j k : Nat) {x y zn : Str} {px py pt pz : Pos} {kt} (hc : X.calm = true) (hN : X.N.Nodup) (hz : PE X (.Name zn pz) (tVar k)) (hi : X.N[i]? = some x := by rfl) (hj : X.N[j]? = some y := by rfl)
    (hx : Loc X.env.scope x := by first | exact Or.inl rfl | exact Or.inr rfl) (hy : Loc X.env.scope y := by first | exact Or.inl rfl | exact Or.inr rfl)
    (hfx : X.fn x = true ∨ X.env.scope.names.lookup x = some .local := by first | exact .inl rfl | exact .inr rfl) (hfy : X.fn y = true ∨ X.env.scope.names.lookup y = some .local := by first | exact .inl rfl | exact .inr rfl)
    (hn : (assignEach [.Name x px, .Name y py] X.env).length = 2 := by rfl) (hst : (assignEach [.Name x px, .Name y py] X.env).findIdx? (·.1) = none := by rfl)
    (hs1 : (assignEach [.Name x px, .Name y py] X.env).map (·.2) = assign (.Name x px) X.env :: (assignEach [.Name y py] X.env).map (·.2) := by rfl) (hs2 : (assignEach [.Name y py] X.env).map (·.2) = assign (.Name y py) X.env :: (assignEach [] X.env).map (·.2) := by rfl)
    (hs : swapsWithSole [.Tuple [.Name x px, .Name y py] kt pt] (.Name zn pz) pos.line X.env = pure false := by rfl) (hw : swappedStores [.Tuple [.Name x px, .Name y py] kt pt] (.Name zn pz) X.env = pure none := by rfl)
    (h1 : (assignEach [.Tuple [.Name x px, .Name y py] kt pt] X.env).map (·.2) = [assign (.Tuple [.Name x px, .Name y py] kt pt) X.env] := by rfl) : DS1 X W rm (.Assign [.Tuple [.Name x px, .Name y py] kt pt] (.Name zn pz) pos) (dAsgL i j k) := by
  refine ⟨_, ps_asg hz (pg_tup hc (pgs_cons (pg_name hN hi hx hfx) (pgs_cons (pg_name hN hj hy hfy) pgs_nil hs2) hs1) hn hst) hs hw h1, fun b F H σ ρ D d Z R z q c => ?_⟩
  obtain ⟨x, y, ek, p⟩ := q
  obtain ⟨u, eu, r⟩ := R.sl k _ ek
  have fin : ∀ (a : Addr) (v w : V), SqT X.K H a [v, w] → VR .st X.K b F H v x → VR .st X.K b F H w y → u = .ref a → tVar k σ H fun v H1 => gTup X.K 2 (gCons (gName i) (gCons (gName j) L2.gNil)) v σ H1 fun σ' H' => D.nx σ' H' := fun a v w sq r1 r2 e => by
    subst e
    exact ⟨_, eu, a, _, rfl, sq, rfl, v, [w], rfl, w, [], rfl, rfl, c.nx _ F H _ (Same.refl _) ((R.setS i r1).setS j r2) p⟩
  have down : ∀ {vs : List V}, RKids X.K b.F b.H vs [x, y] → ∃ v w, vs = [v, w] ∧ VR .st X.K b F H v x ∧ VR .st X.K b F H w y := fun h => by
    cases h with
    | cons a h =>
      cases h with
      | cons a2 h =>
        cases h
        exact ⟨_, _, rfl, a.imp (fun q => q.mono R.g.f) id, a2.imp (fun q => q.mono R.g.f) id⟩
  rcases r with (r | ⟨a, rfl, xs, sq, dq⟩) | ⟨a, rfl, xs, sq, kd⟩
  · cases r with
    | tup e dq =>
      cases dq with
      | cons q1 dq =>
        cases dq with
        | cons q2 dq =>
          cases dq
          exact fin _ _ _ (.of (R.g.s _ _ (R.g.f _ _ e))) (.inl (q1.mono R.g.f)) (.inl (q2.mono R.g.f)) rfl
  · cases dq with
    | cons q1 dq =>
      cases dq with
      | cons q2 dq =>
        cases dq
        exact fin _ _ _ (SqT.same R.g.h sq) (.inl (q1.mono R.g.f)) (.inl (q2.mono R.g.f)) rfl
  · obtain ⟨v, w, rfl, r1, r2⟩ := down kd
    exact fin _ _ _ (SqT.same R.g.h sq) r1 r2 rfl
/-- name = [..], the items own roots -/
theorem ds_setLcT (i : Nat) {y : Str} {py spos : Pos} {tg : Expr} {gv : List Nat} {elt iter : Expr} {ifs : List Expr} {scope : Scope} {own : List (Str × Nat)} {ti : DTi} {g : DGt} {tt : DTt} {te : DT} (hc : X.calm = true) (hN : X.N.Nodup) (hi : DI X W true tg iter ti) (ok : BlkOk X.N X.env.scope scope own)
    (hv : ∀ i ∈ gv, i ∈ own.map (·.2))
    (hg : ∀ (s : Shared) (H : Hp) (C : Addr) (cl : List (Str × Addr)) (fp : List Addr), DG (X.blk s H scope (compEnvC scope cl C X.env) fp) gv tg g)
    (ht : ∀ (s : Shared) (H : Hp) (C : Addr) (cl : List (Str × Addr)) (fp : List Addr), DTs (X.blk s H scope (compEnvC scope cl C X.env) fp) (W0 W.T) ifs tt)
    (he : ∀ (s : Shared) (H : Hp) (C : Addr) (cl : List (Str × Addr)) (fp : List Addr), DE (X.blk s H scope (compEnvC scope cl C X.env) fp) (W0 W.T) .nw elt te)
    (hy : X.N[i]? = some y := by rfl) (hyl : X.env.scope.names.lookup y = some .local := by rfl) (hsw : swapsWith (.ListComp elt [⟨tg, iter, ifs, 0⟩] scope pos) (some (.Name y py)) spos.line X.env = pure true := by exact sw_true rfl rfl rfl (by decide +kernel))
    (hs : ∀ x, foldedSetIterable iter X.env x = pure x := by intro _; rfl) : DS1 X W rm (.Assign [.Name y py] (.ListComp elt [⟨tg, iter, ifs, 0⟩] scope pos) spos) (dSetT i (dLc (own.map (·.2)) ti g tt te)) := by
  obtain ⟨wi, pi, si⟩ := hi.ok
  refine ⟨_, ps_setLc hc hN hy hyl hsw pi ok (g := cG X.K gv g) (tt := cT X.mg X.K (W0 W.T) tt) (te := cE X.mg X.K (W0 W.T) .nw te) (fun s H C cl fp => (hg s H C cl fp).ok) (fun s H C cl fp => (ht s H C cl fp).ok) (fun s H C cl fp => (he s H C cl fp).pe) hs, fun b F H σ ρ D d Z R z q c => ?_⟩
  exact lc_sem2 hv si b F H σ ρ _ _ Z R z q fun y v F' H' p g r f => c.nx _ F' H' _ g.f (R.putT g i r f) (p v)
end
end DL
set_option maxRecDepth 100000
set_option maxHeartbeats 4000000
/-! DMY: two own lists under other names: side = [x, y][e]; side[k] = e. -/
namespace DL
open PySem PySem.Spec PyProof.Rows L2
theorem Rep.retell {K : PySem.W.Frag} {b : B} {F H : Hp} {σ : L2.St} {ρ : List Sl} (R : Rep K b F H σ ρ) {i : Nat} {s s' : Sl} (h : ρ[i]? = some s) (hs : ∀ A, SlF K b F H σ[i]? s A → SlF K b F H σ[i]? s' A) : Rep K b F H σ (ρ.set i s') := by
  obtain ⟨fp, f1, f2, f3⟩ := R.ex
  have hi := (List.getElem?_eq_some_iff.mp h).1
  refine ⟨R.g, R.tt, by rw [List.length_set]; exact R.len, fp, fun j t e => ?_, fun j e => ?_, f3⟩
  · by_cases hj : j = i
    · subst hj
      rw [List.getElem?_set_self hi] at e
      cases e
      exact hs _ (f1 j s h)
    · rw [List.getElem?_set_ne (Ne.symm hj)] at e
      exact f1 j t e
  · rw [List.getElem?_eq_none_iff, List.length_set] at e
    exact f2 j (List.getElem?_eq_none_iff.mpr e)
theorem kids_atm {F H : Hp} : ∀ {xs : List V} {ds : List D}, DqA F xs ds → (∀ d ∈ ds, atmB d = true) → Kids F H xs ds []
  | _, _, .nil, _ => .nil
  | _, _, .cons a q, h => .atm (atm_of a (h _ (by simp))) (kids_atm q fun d hd => h d (by simp [hd]))
theorem kids_down {F H : Hp} : ∀ {xs : List V} {ds : List D} {A : List Addr}, Kids F H xs ds A → (∀ d ∈ ds, atmB d = true) → A = [] ∧ DqA F xs ds
  | _, _, _, .nil, _ => ⟨rfl, .nil⟩
  | _, _, _, .own n o k m, h => by
    have := h _ (List.mem_cons_self ..)
    rcases o.inv with ⟨_, rfl⟩ | ⟨_, rfl⟩ <;> cases this
  | _, _, _, .atm a k, h => by
    obtain ⟨e, q⟩ := kids_down k fun d hd => h d (by simp [hd])
    exact ⟨e, .cons a.dq q⟩
section
variable {X : Cx} {W : WT} {pos : Pos} {rm : Md}
/-- an own list of single things as a tree -/
def dTre (i : Nat) (t : DS) : DS := fun d Z ρ => ∃ ds, ρ[i]? = some (.ow (.list ds)) ∧ (∀ x ∈ ds, atmB x = true) ∧ ∀ p : Addr, t d Z (ρ.set i (.tr (.ref p) (.list ds)))
theorem dss_tre (i : Nat) {sts : List Stmt} {t : DS} (h : DSs X W rm sts t) : DSs X W rm sts (dTre i t) := by
  obtain ⟨te1, p1, s1⟩ := h.ok
  refine ⟨_, p1, fun b F H σ ρ D d Z R z q c => ?_⟩
  obtain ⟨ds, e, ha, q⟩ := q
  obtain ⟨p, es, n, n2, o⟩ := R.ow e rfl
  obtain ⟨xs, hH, dq⟩ := id o
  refine s1 b F H σ _ D d Z (R.retell (s' := Sl.tr (.ref p) (.list ds)) e fun A s => ?_) z (q p) c
  obtain ⟨v, e2, s⟩ := s
  rw [es] at e2
  cases e2
  rcases s with ⟨_, a⟩ | ⟨p2, e3, rfl, n3, n4, o3⟩
  · exact (o.noatm a).elim
  · cases e3
    exact ⟨es, ⟨p, [], rfl, n, rfl, by simp, xs, hH, kids_atm dq ha⟩, fun a ha => by
      rw [List.mem_singleton] at ha
      subst ha
      exact n2⟩
/-- the list that goes by this name -/
def dVa (i : Nat) : DT := fun ρ P _ => ∃ (a : Addr) (s : Nat) (d : D), ρ[i]? = some (Sl.at a) ∧ ρ[s]? = some (Sl.tr (.ref a) d) ∧ isLT d = true ∧ P d
theorem de_va (i : Nat) {x : Str} {pos : Pos} (hN : X.N[i]? = some x := by rfl) (hv : Vis X.env.scope x := by first | exact Or.inl rfl | exact Or.inr (Or.inl rfl) | exact Or.inr (Or.inr rfl)) (hd : (x == ("__debug__" : Str)) = false := by decide)
    (hcd : (x == ("__classdict__" : Str)) = false := by decide) : DE X W .rt (.Name x pos) (dVa i) := by
  refine ⟨_, pe_var hN hv hd hcd, fun b F H σ ρ Q P Z R z q k => ?_⟩
  obtain ⟨a, s, d, e, es, hd, p⟩ := q
  have e1 := R.sl i _ e
  obtain ⟨v, e2, r⟩ := R.tree (i := s) (d := d) (by rw [es]; rfl) hd
  have e3 := (R.sl s _ es).1
  rw [e3] at e2
  cases e2
  exact ⟨_, e1, goes_now k R.g p r trivial⟩
/-- side = [x, y][e] -/
def dAli (i k j : Nat) (te : DT) : DS := fun d Z ρ => ∃ (p q : Addr) (x y : D), ρ[k]? = some (.tr (.ref p) x) ∧ ρ[j]? = some (.tr (.ref q) y) ∧ te ρ (fun n => (n = .int 0 ∧ d.nx (ρ.set i (.at p))) ∨ (n = .int 1 ∧ d.nx (ρ.set i (.at q)))) Z
theorem ds_ali (i k j : Nat) {z x y : Str} {px py lp sp zp : Pos} {e : Expr} {te : DT} {m : Md} (hN : X.N.Nodup) (hx : PE X (.Name x px) (tVar k)) (hy : PE X (.Name y py) (tVar j)) (h : DE X W m e te) (hpl : PlainIx e) (hm : m.sh = true := by rfl)
    (hs1 : starEach [.Name x px, .Name y py] X.env = (false, eval (.Name x px) X.env) :: starEach [.Name y py] X.env := by rfl) (hs2 : starEach [.Name y py] X.env = (false, eval (.Name y py) X.env) :: starEach [] X.env := by rfl)
    (hi : X.N[i]? = some z := by rfl) (hz : Loc X.env.scope z := by first | exact Or.inl rfl | exact Or.inr rfl) (hs : swapsWith (.Subscript (.List [.Name x px, .Name y py] lp) e sp) (some (.Name z zp)) pos.line X.env = pure false := by rfl)
    (hf : X.fn z = true ∨ X.env.scope.names.lookup z = some .local := by first | exact .inl rfl | exact .inr rfl) : DS1 X W rm (.Assign [.Name z zp] (.Subscript (.List [.Name x px, .Name y py] lp) e sp) pos) (dAli i k j te) := by
  obtain ⟨tei, pi, si⟩ := h.ok
  refine ⟨_, ps_set hN hi hz (pe_ix ix_two (pe_lst (pa_cons hx (pa_cons hy pa_nil hs2) hs1)) pi hpl) hs hf, fun b F H σ ρ D d Z R zz q c => ?_⟩
  obtain ⟨p, q', x0, y0, e1, e2, q⟩ := q
  have s1 := (R.sl k _ e1).1
  have s2 := (R.sl j _ e2).1
  refine ⟨_, s1, _, s2, sz5 (by show 2 ≤ 100000; omega), fun a na => ?_⟩
  have g := Grow.own R.g (HO.lst [.ref p, .ref q']) na
  have R1 := R.grow g
  refine si b F _ σ ρ _ _ Z R1 zz q fun kd kv F2 H2 p2 g2 r2 _ => ?_
  have hl : H2 a = some (.lst [.ref p, .ref q']) := g2.h.ap upd_same
  have ek : ∀ n : Int, kd = .int n → kv = .int n := fun n e => by
    subst e
    exact vr_int (r2.rd hm (R1.g.trans g2))
  rcases p2 with ⟨rfl, p2⟩ | ⟨rfl, p2⟩
  · exact .inl ⟨a, _, 0, _, rfl, ek 0 rfl, .of hl, rfl, c.nx _ F2 H2 _ g2.f ((R1.grow g2).setX i _ (.at p) ⟨rfl, rfl⟩) p2⟩
  · exact .inl ⟨a, _, 1, _, rfl, ek 1 rfl, .of hl, rfl, c.nx _ F2 H2 _ g2.f ((R1.grow g2).setX i _ (.at q') ⟨rfl, rfl⟩) p2⟩
/-- side[k] = e -/
def dPutA (i : Nat) (tk t : DT) : DS := fun d Z ρ => ∃ (a : Addr) (s : Nat) (ds : List D), ρ[i]? = some (.at a) ∧ ρ[s]? = some (.tr (.ref a) (.list ds)) ∧ (∀ x ∈ ds, atmB x = true) ∧ t ρ (fun y => atmB y = true ∧ tk ρ (fun k => ∃ n j, k = .int n ∧ ixN ds.length n = some j ∧ d.nx (ρ.set s (.tr (.ref a) (.list (ds.set j y))))) Z) Z
theorem ds_putA (i : Nat) {x : Str} {p0 tpos : Pos} {k e : Expr} {tk t : DT} (hx : PE X (.Name x p0) (tVar i)) (hk : DE X W .fz k tk) (h : DE X W .fz e t)
    (ha : ∀ v, assign (.Subscript (.Name x p0) k tpos) X.env v = (do
      let ov ← holding [v] (eval (.Name x p0) X.env)
      let iv ← holding [v, ov] (eval k X.env)
      standAt tpos
      holding [v, ov, iv] (setItem ov iv v)
      release [v, ov, iv] []) := by intro _; rfl)
    (hs : swapsWithSole [.Subscript (.Name x p0) k tpos] e pos.line X.env = pure false := by rfl) (hw : swappedStores [.Subscript (.Name x p0) k tpos] e X.env = pure none := by rfl)
    (h1 : (assignEach [.Subscript (.Name x p0) k tpos] X.env).map (·.2) = [assign (.Subscript (.Name x p0) k tpos) X.env] := by rfl) : DS1 X W rm (.Assign [.Subscript (.Name x p0) k tpos] e pos) (dPutA i tk t) := by
  obtain ⟨te, p, s⟩ := h.ok
  obtain ⟨tek, pk, sk⟩ := hk.ok
  refine ⟨_, ps_asg p (pg_sub hx pk set_list ha) hs hw h1, fun b F H σ ρ D d Z R z q c => ?_⟩
  obtain ⟨a, sl, ds, e1, e2, had, q⟩ := q
  have es := R.sl i _ e1
  obtain ⟨es2, A, t0, nA⟩ := R.sl sl _ e2
  refine s b F H σ ρ _ _ Z R z q fun y v F1 H1 p1 g r f => ⟨.ref a, es, sk b F1 H1 σ ρ _ _ Z (R.grow g) (z.mono g.f) p1.2 fun y2 v2 F2 H2 p2 g2 r2 f2 => ?_⟩
  obtain ⟨m, j, rfl, hj, p2⟩ := p2
  cases r2
  have t2 : Tr F2 H2 (.ref a) (.list ds) A := (t0.grow g).grow g2
  obtain ⟨a', A', ea, n, rfl, hp, xs, hH, kd⟩ := id t2
  cases ea
  obtain ⟨rfl, dq⟩ := kids_down kd had
  have hl : xs.length = ds.length := dq.length
  refine ⟨a, xs, m, j, rfl, rfl, hH, by rw [hl]; exact hj, ?_⟩
  refine c.nx _ F2 _ σ (g.f.trans g2.f) (R.chg (q := a) (g.trans g2) e2 fun B s1 s2 => ?_) p2
  have eB : B = [a] := s1.2.1.uniq (fun _ _ e _ => e) t0
  subst eB
  refine ⟨by simp, [a], ⟨es2, ⟨a, [], rfl, n, rfl, by simp, xs.set j v, upd_same, kids_atm (dq.set j (r.mono g2.f)) fun x hx => ?_⟩, nA⟩, fun m hm => .inl hm⟩
  rcases List.mem_or_eq_of_mem_set hx with hx | hx
  · exact had x hx
  · rw [hx]
    exact p1.1
/-- the sum of two ints -/
abbrev addI : D → D → (D → Prop) → Prop := d2I fun i j => .int (i + j)
/-- x[i] + x[j], two children -/
def dCatC (t1 t2 : DTc) : DT := fun ρ P Z => t1 ρ (fun _ _ _ c => t2 ρ (fun _ _ _ c2 => catD c c2 P) Z) Z
theorem de_catC {i j : Nat} {e1 e2 : Expr} {t1 t2 : DTc} (h1 : DCh X W i e1 t1) (h2 : DCh X W j e2 t2) : DE X W .nw (.BinOp e1 .Add e2 pos) (dCatC t1 t2) := by
  obtain ⟨te1, p1, s1⟩ := h1.ok
  obtain ⟨te2, p2, s2⟩ := h2.ok
  refine ⟨_, pe_op op_cat p1 p2, fun b F H σ ρ Q P Z R z q k => s1 b F H σ ρ _ _ Z R z q fun v d j1 c q1 F1 H1 q2 g1 _ ic1 => s2 b F1 H1 σ ρ _ _ Z (R.grow g1) (z.mono g1.f) q2 fun v' d' j2 c' q1' F2 H2 q3 g2 _ ic2 => ?_⟩
  obtain ⟨ds, es, rfl, rfl, hl, p⟩ := q3
  obtain ⟨n1, xs, h1, d1⟩ := (ic1.grow g2).own
  obtain ⟨n2, ys, h2, d2⟩ := ic2.own
  have R2 := (R.grow g1).grow g2
  refine ⟨_, _, _, _, rfl, rfl, h1, h2, by rw [d1.length, d2.length]; exact sz5 hl, fun a na => ?_⟩
  have g := Grow.own R2.g (HO.lst (xs ++ ys)) na
  exact k _ _ _ _ p (g1.trans (g2.trans g)) (.inl ⟨a, rfl, R2.g.s.free na, own_mkL upd_same (d1.append d2)⟩) fun q e => by cases e; exact (g1.trans g2).h.free na
/-- x in range(y, z) -/
def dInRg (ta tb tc : DT) : DT := fun ρ P Z => ta ρ (fun x => tb ρ (fun y => tc ρ (fun z => ∃ i lo hi, x = .int i ∧ y = .int lo ∧ z = .int hi ∧ P (.bool (decide (lo ≤ i ∧ i < hi)))) Z) Z) Z
theorem de_inRg {ma mb mc : Md} {ea eb ec : Expr} {ta tb tc : DT} {p pos2 : Pos} (h : DE X W ma ea ta) (h1 : DE X W mb eb tb) (h2 : DE X W mc ec tc) (hm : X.mg "range" = none) (hg : Gl X "range" := by rfl) (sa : ma.sh = true := by rfl) (sb : mb.sh = true := by rfl) (sc : mc.sh = true := by rfl)
    (hs1 : starEach [eb, ec] X.env = (false, eval eb X.env) :: starEach [ec] X.env := by rfl) (hs2 : starEach [ec] X.env = (false, eval ec X.env) :: starEach [] X.env := by rfl) (hpl : (backTo pos2 (starEach [ec] X.env)).any (·.1) = false := by rfl) (hb : behindInMarks .In (.Call (.Name "range" p) [eb, ec] [] pos2) = false := by rfl) :
    DE X W .fz (.Compare ea [.In] [.Call (.Name "range" p) [eb, ec] [] pos2] pos) (dInRg ta tb tc) := by
  obtain ⟨te, pe, s⟩ := h.ok
  obtain ⟨te1, pe1, s1⟩ := h1.ok
  obtain ⟨te2, pe2, s2⟩ := h2.ok
  refine ⟨_, pe_cmpR op_in_rng pe (pe_callTy cr_range2 hg hm boot_range (pa_cons pe1 (pa_cons pe2 pa_nil hs2) hs1) (by decide) (by decide) hs1 hpl) hb, fun b F H σ ρ Q P Z R z q k => ?_⟩
  refine s b F H σ ρ _ _ Z R z q fun x vx F1 H1 p1 g1 r1 _ => s1 b F1 H1 σ ρ _ _ Z (R.grow g1) (z.mono g1.f) p1 fun y vy F2 H2 p2 g2 r2 _ => s2 b F2 H2 σ ρ _ _ Z ((R.grow g1).grow g2) (z.mono (g1.f.trans g2.f)) p2 fun w vw F3 H3 p3 g3 r3 _ => ?_
  obtain ⟨i, lo, hi, rfl, rfl, rfl, p3⟩ := p3
  have R1 := R.grow g1
  have R2 := R1.grow g2
  have R3 := R2.grow g3
  have ex := vr_int (r1.rd sa R1.g)
  have ey := vr_int (r2.rd sb R2.g)
  have ew := vr_int (r3.rd sc R3.g)
  subst ex ey ew
  refine ⟨lo, hi, rfl, fun a na => ⟨i, a, lo, hi, rfl, rfl, upd_same, ?_⟩⟩
  have g4 := Grow.own R3.g (HO.rng lo hi) na
  exact k _ _ _ _ p3 (g1.trans (g2.trans (g3.trans g4))) (Dq.bl _) trivial
end
end DL
set_option maxRecDepth 100000
set_option maxHeartbeats 4000000
/-! DMG: dicts by ints: sorted, len, against {}, locked, walked, moved. -/
namespace DL
open PySem PySem.Spec PyProof.Rows L2
/-- an own root is locked for good -/
theorem Rep.lockR {K : PySem.W.Frag} {b : B} {F H : Hp} {σ : L2.St} {ρ : List Sl} (R : Rep K b F H σ ρ) {i : Nat} {p : Addr} {u o : HO} {d d' : D} (h : ρ[i]? = some (.ow d)) (hs : σ[i]? = some (some (.ref p))) (hH : H p = some u) (iu : IsD u) (ok : Dq (upd F p o) (.ref p) d')
    (hk : ∀ k : List Key, o ≠ .tup (k.map kV) := by intro k z; cases z) (hn : ∀ ps, o ≠ .tbl ps := by intro ps z; cases z) : Rep K b (upd F p o) (upd H p o) σ (ρ.set i (.fz d')) := by
  obtain ⟨fp, f1, f2, f3⟩ := R.ex
  have hi : i < ρ.length := (List.getElem?_eq_some_iff.mp h).1
  obtain ⟨n, n2, hp⟩ : F p = none ∧ Nn b.H p ∧ p ∈ fp i := by
    obtain ⟨v, e, q⟩ := f1 i _ h
    rw [hs] at e
    cases e
    rcases q with ⟨_, q⟩ | ⟨p', e1, e2, n, n2, _⟩
    · exact (atm_ref q).elim
    · cases e1
      exact ⟨n, n2, by rw [e2]; simp⟩
  have hd : ∀ w, H p = some w → IsD w := fun w e => by rw [hH] at e; cases e; exact iu
  refine ⟨R.g.lock n n2 hH iu o hk hn, tabs_put R.tt _ hd, by rw [List.length_set]; exact R.len, ovr fp (fun j => decide (j = i)) [], fun j t e => ?_, fun j e => ?_, fun j k a hjk h1 h2 => ?_⟩
  · by_cases hj : j = i
    · subst hj
      rw [List.getElem?_set_self hi] at e
      cases e
      rw [ovr_pos (by simp)]
      exact ⟨rfl, _, hs, ok⟩
    · rw [List.getElem?_set_ne (Ne.symm hj)] at e
      rw [ovr_neg (by simpa using hj)]
      refine (f1 j t e).mono (same_new n) fun a ha => ?_
      have ne : a ≠ p := by
        rintro rfl
        exact f3 j i a hj ha hp
      exact ⟨(upd_ne ne).trans ((f1 j t e).mem a ha).1, upd_ne ne⟩
  · have hj : j ≠ i := by
      rintro rfl
      rw [List.getElem?_set_self hi] at e
      cases e
    rw [List.getElem?_set_ne (Ne.symm hj)] at e
    rw [ovr_neg (by simpa using hj)]
    exact f2 j e
  · by_cases hj : j = i
    · rw [ovr_pos (by simpa using hj)] at h1
      simp at h1
    · rw [ovr_neg (by simpa using hj)] at h1
      by_cases hk : k = i
      · rw [ovr_pos (by simpa using hk)] at h2
        simp at h2
      · rw [ovr_neg (by simpa using hk)] at h2
        exact f3 j k a hjk h1 h2
section
variable {X : Cx} {W : WT} {m rm : Md} {pos : Pos}
/-- a dict by ints, not locked or locked -/
theorem rdK {K : PySem.W.Frag} {b : B} {F H : Hp} {v : V} {kds : List (Key × D)} {x : D} (hx : x = dctK kds ∨ x = lkK kds) (s : Same F H) (r : VR .rd K b F H v x) : ∃ a kvs, v = .ref a ∧ Rd H a (.dK kvs) ∧ kvs.map (·.1) = kds.map (·.1) ∧ DqA F (kvs.map (·.2)) (kds.map (·.2)) := by
  rcases hx with rfl | rfl
  · obtain ⟨a, rfl, o⟩ := vr_dict s r
    replace o := o.resolve_right fun z => lk_noK z
    obtain ⟨kvs, hH, hk, hq⟩ := own_K o
    exact ⟨a, kvs, rfl, .inl hH, hk, hq⟩
  · obtain ⟨a, rfl, o⟩ := vr_dict s r
    replace o := o.resolve_left fun z => own_noM z
    obtain ⟨od, kvs, hH, hk, hq⟩ := lk_K o
    exact ⟨a, kvs, rfl, .inr ⟨od, hH⟩, hk, hq⟩
/-- sorted(d) -/
def sortDR : List D → (D → Prop) → Prop := fun xs P => ∃ (kds : List (Key × D)) (ks : List Int) (x : D), xs = [x] ∧ (x = dctK kds ∨ x = lkK kds) ∧ kds.map (·.1) = ks.map Sum.inl ∧ ks.length < 64 ∧ ∀ ys : List Int, ys.Perm ks → ys.Pairwise (· ≤ ·) → P (.list (ys.map .int))
theorem ra_sortD {K : PySem.W.Frag} (hsh : m.sh = true := by rfl) : RAok K [m] .nw (fun xs H Q => ∃ (a : Addr) (kvs : List (Key × V)) (ks : List Int), xs = [.ref a] ∧ Rd H a (.dK kvs) ∧ kvs.map (·.1) = ks.map Sum.inl ∧ ks.length < 64 ∧
    ∀ (ys : List Int) (p : Addr), ys.Perm ks → ys.Pairwise (· ≤ ·) → H p = none → Q (.ref p) (upd H p (.lst (ys.map V.int)))) sortDR := fun b F H xs ds Q P g0 r h k => by
  obtain ⟨kds, ks, x, rfl, hx, hk1, hl, p⟩ := h
  obtain ⟨v, rfl, r1⟩ := vrs1 (ms := []) r
  obtain ⟨a, kvs, rfl, hr, hk, hq⟩ := rdK hx g0.s (r1.rd hsh g0)
  refine ⟨a, kvs, ks, rfl, hr, hk.trans hk1, hl, fun ys q hp hs nq => ?_⟩
  have g4 := Grow.own g0 (HO.lst (ys.map V.int)) nq
  have dq : DqA F (ys.map V.int) (ys.map PyData.int) := by
    clear hp hs
    induction ys with
    | nil => exact .nil
    | cons i ys ih => exact .cons (.int i) (ih (.own g0 (HO.lst _) nq))
  exact k _ _ _ _ (p ys hp hs) g4 (.inl ⟨q, rfl, g0.s.free nq, own_mkL upd_same dq⟩) fun c e => by cases e; exact nn_of nq
/-- len(d) -/
theorem call_lenRd : CallR X (.builtin "len") (fun xs H Q => ∃ a kvs, xs = [V.ref a] ∧ Rd H a (.dK kvs) ∧ Q (.int kvs.length) H) := by
  intro pins s σ H xs us Q I r h
  obtain ⟨a, kvs, rfl, ha, q⟩ := h
  obtain ⟨u, rfl, ru⟩ := vals1 r
  cases ru
  exact d_len I ha fun t s' I' => ⟨.int kvs.length, H, I', ⟨t, rfl⟩, q⟩
def lenDR : List D → (D → Prop) → Prop := fun xs P => ∃ (kds : List (Key × D)) (x : D), xs = [x] ∧ (x = dctK kds ∨ x = lkK kds) ∧ P (.int (kds.length : Nat))
theorem ra_lenD {K : PySem.W.Frag} (hsh : m.sh = true := by rfl) : RAok K [m] .fz (fun xs H Q => ∃ a kvs, xs = [V.ref a] ∧ Rd H a (.dK kvs) ∧ Q (.int kvs.length) H) lenDR := fun b F H xs ds Q P g0 r h k => by
  obtain ⟨kds, x, rfl, hx, p⟩ := h
  obtain ⟨v, rfl, r1⟩ := vrs1 (ms := []) r
  obtain ⟨a, kvs, rfl, hr, hk, hq⟩ := rdK hx g0.s (r1.rd hsh g0)
  refine ⟨a, kvs, rfl, hr, ?_⟩
  rw [kd_len hk]
  exact k _ _ F H p (.refl g0) (Dq.int _) trivial
/-- d != {} -/
theorem op_neD0 (hu : X.A.units < cLine) : OpR X (compareOp .NotEq) (fun x y H Q => ∃ a b ks, x = .ref a ∧ y = .ref b ∧ H a = some (.dK ks) ∧ H b = some (.dK []) ∧ Q (.bl (!ks.isEmpty)) H) := by
  intro pins s σ H x y v u Q I rx ry h
  obtain ⟨a, b, ks, rfl, rfl, ea, eb, q⟩ := h
  obtain rfl : v = Value.ref a := rx
  obtain rfl : u = Value.ref b := ry
  obtain ⟨_, ya, va, ra, da⟩ := (show ObjOk X.prog X.w H s.heap a (.dK ks) from I.hok a _ ea)
  obtain ⟨_, yb, vb, rb, db⟩ := (show ObjOk X.prog X.w H s.heap b (.dK []) from I.hok b _ eb)
  have hlb : vb.length = 0 := by rw [← rb.length]; rfl
  refine PySem.W.keq_ne (knd := mixKind X.prog X.w) (r := true) ya yb da db hu (fun hh => ?_) (fin_bl I q ?_)
  · have hks : ks = [] := by
      have : va.length = 0 := by
        have := hh
        omega
      have := ra.length
      exact List.eq_nil_of_length_eq_zero (by omega)
    subst hks
    exact hits_all rb ra fun p hp => by cases hp
  · have := ra.length
    cases ks with
    | nil =>
      have : va.length = 0 := by simpa using this.symm
      simp [this, hlb]
    | cons p ks =>
      have h2 : va.length ≠ vb.length := by
        rw [hlb, ← this]
        simp
      simp [h2]
/-- x != {}, x an own dict -/
def dNeD0 (i : Nat) : DTt := fun ρ P _ => ∃ kds, ρ[i]? = some (.ow (dctK kds)) ∧ P (!kds.isEmpty)
theorem dt_neD0 (i : Nat) {x : Str} {p0 p1 : Pos} (hu : X.A.units + 1 < cLine) (hx : PE X (.Name x p0) (tVar i)) (hm : behindInMarks .NotEq (.Dict [] [] p1) = false := by rfl) : DEt X W (.Compare (.Name x p0) [.NotEq] [.Dict [] [] p1] pos) (dNeD0 i) := by
  refine ⟨_, pt_cmpR (op_neD0 (Nat.lt_of_le_of_lt (Nat.le_succ _) hu)) hx pe_dnewK hm, fun b F H σ ρ Q P Z R z q k => ?_⟩
  obtain ⟨kds, e, p⟩ := q
  obtain ⟨a, es, n, n2, o⟩ := R.ow e rfl
  obtain ⟨kvs, hH, hk, hq⟩ := own_K o
  refine ⟨_, es, fun c nc => ⟨a, c, kvs, rfl, rfl, ?_, upd_same, !kvs.isEmpty, rfl, ?_⟩⟩
  · rw [upd_ne (by rintro rfl; rw [hH] at nc; cases nc)]
    exact hH
  · have e2 : kvs.isEmpty = kds.isEmpty := by
      have := kd_len hk
      cases kvs <;> cases kds <;> simp_all
    rw [e2]
    exact k _ F _ p (Grow.own R.g (HO.dK []) nc)
/-- an own dict is locked for good -/
def tLockS (t : TS) : TS := fun D σ H => ∃ d u, H d = some u ∧ Mut (some u) ∧ ∀ od, t D σ (upd H d (.frz od u))
theorem pss_lock {sts : List Stmt} {t : TS} (h : PSs X sts t) : PSs X sts (tLockS t) := by
  refine ⟨fun pins s σ H D I hw => ?_⟩
  obtain ⟨d, u, hd, mu, hw⟩ := hw
  obtain ⟨od, I1⟩ := I.lock hd mu
  exact h.run pins s σ _ D I1 (hw od)
def dLck (i : Nat) (t : DS) : DS := fun d Z ρ => ∃ kds, ρ[i]? = some (.ow (dctK kds)) ∧ t d Z (ρ.set i (.fz (lkK kds)))
theorem dss_lck (i : Nat) {sts : List Stmt} {t : DS} (h : DSs X W rm sts t) : DSs X W rm sts (dLck i t) := by
  obtain ⟨te1, p1, s1⟩ := h.ok
  refine ⟨_, pss_lock p1, fun b F H σ ρ D d Z R z q c => ?_⟩
  obtain ⟨kds, e, q⟩ := q
  obtain ⟨a, es, n, n2, o⟩ := R.ow e rfl
  obtain ⟨kvs, hH, hk, hq⟩ := own_K o
  refine ⟨a, _, hH, trivial, fun od => ?_⟩
  have n' : Same F (upd F a (.frz od (.dK kvs))) := same_new n
  exact s1 b _ _ σ _ D d Z (R.lockR e es hH trivial (Dq.dM upd_same hk (hq.mono n'))) (z.mono n') q (c.mono n')
/-! ### its keys, walked -/
theorem dq_key {F : Hp} (k : Key) : Dq F (kV k) (keyD k) := by
  cases k with
  | inl i => exact .int i
  | inr x => exact .str x
def keysK (kds : List (Key × D)) : List D := kds.map fun p => keyD p.1
def dKeysK (t : DT) : DTi := fun ρ P Z => t ρ (fun x => ∃ kds, x = lkK kds ∧ P (keysK kds)) Z
theorem itk_ok {c : Bool} {b : B} {F0 H0 : Hp} {a : Addr} {o : Obj} {kvs : List (Key × V)} {kds : List (Key × D)} (hF : F0 a = some (.frz o (.dK kvs))) (hk : kvs.map (·.1) = kds.map (·.1)) : ItOk c b F0 H0 (Itk a o kvs) (keysK kds) := by
  have hl : (keysK kds).length = kvs.length := by rw [keysK, List.length_map, ← kd_len hk]
  refine ⟨fun i F H hi s g hc => ⟨g.s _ _ (s _ _ hF), by rw [← hl]; exact hi⟩, fun F H s g hc => ⟨g.s _ _ (s _ _ hF), by rw [hl]; exact Nat.le_refl _⟩, fun i F H x H' d hd s g hc y => ?_⟩
  obtain ⟨rfl, k, v, h1, rfl⟩ := y
  refine ⟨F, .refl g, ?_⟩
  have e : d = keyD k := by
    rw [keysK, List.getElem?_map] at hd
    obtain ⟨pd, e3, e4⟩ := Option.map_eq_some_iff.mp hd
    have : (kvs[i]?).map Prod.fst = (kds[i]?).map Prod.fst := by rw [← List.getElem?_map, ← List.getElem?_map, hk]
    rw [h1, e3] at this
    rw [← e4, ← Option.some.inj this]
  subst e
  exact dq_key k
theorem di_keysK {c : Bool} {tg e : Expr} {t : DT} (h : DE X W .fz e t) : DI X W c tg e (dKeysK t) := by
  obtain ⟨te, p, s⟩ := h.ok
  refine ⟨_, pi_keys p, fun b F H σ ρ R P Z R1 z q k => s b F H σ ρ _ _ Z R1 z q fun x v F' H' p g r f => ?_⟩
  obtain ⟨kds, rfl, p⟩ := p
  obtain ⟨a, rfl, o⟩ := vr_dict (K := X.K) (b := b) (Same.refl F') (.inl r)
  replace o := o.resolve_left fun z => own_noM z
  obtain ⟨od, kvs, hH, hk, hq⟩ := lk_K o
  exact ⟨a, od, rfl, .inl ⟨kvs, (R1.g.trans g).s _ _ hH, k _ _ F' H' p g (itk_ok hH hk)⟩⟩
/-! ### an own root goes to another name -/
def dMov (i j : Nat) : DS := fun d _ ρ => ∃ x, ρ[j]? = some (.ow x) ∧ atmB x = false ∧ d.nx ((ρ.set j .un).set i (.ow x))
theorem ds_mov (i j : Nat) {x y : Str} {py pos' : Pos} (hN : X.N.Nodup) (hy : PE X (.Name y py) (tVar j))
    (hi : X.N[i]? = some x := by rfl) (hx : Loc X.env.scope x := by first | exact Or.inl rfl | exact Or.inr rfl) (hs : swapsWith (.Name y py) (some (.Name x pos')) pos.line X.env = pure false := by rfl)
    (hf : X.fn x = true ∨ X.env.scope.names.lookup x = some .local := by first | exact .inl rfl | exact .inr rfl) : DS1 X W rm (.Assign [.Name x pos'] (.Name y py) pos) (dMov i j) := by
  refine ⟨_, ps_set hN hi hx hy hs hf, fun b F H σ ρ D d Z R z q c => ?_⟩
  obtain ⟨xd, e, ha, q⟩ := q
  obtain ⟨p, es, n, n2, o⟩ := R.ow e ha
  refine ⟨_, es, ?_⟩
  have R1 : Rep X.K b F H σ (ρ.set j .un) := R.slot (Same.refl F) R.g e fun A _ => ⟨fun _ _ => rfl, rfl⟩
  have R2 : Rep X.K b F H (σ.set i (some (.ref p))) ((ρ.set j .un).set i (.ow xd)) := by
    refine R1.storeD i (some (.ref p)) (.ow xd) (A := [p]) ⟨_, rfl, .inr ⟨p, rfl, rfl, n, n2, o⟩⟩ fun fp hfp m t hm a ha2 hin => ?_
    rw [List.mem_singleton] at ha2
    subst ha2
    obtain ⟨fp0, f1, f2, f3⟩ := R.ex
    have hj : j < ρ.length := (List.getElem?_eq_some_iff.mp e).1
    have hpj : a ∈ fp0 j := by
      obtain ⟨v, e1, q1⟩ := f1 j _ e
      rw [es] at e1
      cases e1
      rcases q1 with ⟨_, q1⟩ | ⟨p', e2, e3, _⟩
      · exact (atm_ref q1).elim
      · cases e2
        rw [e3]
        simp
    by_cases hmj : m = j
    · subst hmj
      rw [List.getElem?_set_self hj] at hm
      cases hm
      have h0 : fp m = [] := hfp m .un (List.getElem?_set_self hj)
      rw [h0] at hin
      simp at hin
    · have hm2 := hm
      rw [List.getElem?_set_ne (Ne.symm hmj)] at hm2
      have u := (f1 m t hm2).uniq (fun _ _ e _ => e) (hfp m t hm)
      rw [← u] at hin
      exact f3 m j a hmj hin hpj
  exact c.nx _ F H _ (Same.refl F) R2 q
/-! ### x + e, x an own list -/
def dCatO (i : Nat) (t : DT) : DT := fun ρ P Z => ∃ a, ρ[i]? = some (.ow (.list a)) ∧ t ρ (fun y => ∃ b, y = .list b ∧ a.length + b.length ≤ 100000 ∧ P (.list (a ++ b))) Z
theorem de_catO (i : Nat) {x : Str} {p0 : Pos} {e : Expr} {t : DT} (hx : PE X (.Name x p0) (tVar i)) (h : DE X W .fz e t) : DE X W .nw (.BinOp (.Name x p0) .Add e pos) (dCatO i t) := by
  obtain ⟨te, p, s⟩ := h.ok
  refine ⟨_, pe_op op_cat hx p, fun b F H σ ρ Q P Z R z q k => ?_⟩
  obtain ⟨as, e1, q⟩ := q
  obtain ⟨pp, es, n, n2, o⟩ := R.ow e1 rfl
  obtain ⟨xs, hH, hq⟩ := o
  refine ⟨_, es, s b F H σ ρ _ _ Z R z q fun y v F1 H1 p1 g r hfr => ?_⟩
  clear hfr
  obtain ⟨bs, rfl, hl, p1⟩ := p1
  cases r with
  | lst e2 q2 =>
    rename_i a2 ys
    have R1 := R.g.trans g
    refine ⟨_, _, _, _, rfl, rfl, g.h.ap hH, R1.s _ _ e2, by rw [hq.length, q2.length]; exact sz5 hl, fun a na => ?_⟩
    have g2 := Grow.own R1 (HO.lst (xs ++ ys)) na
    exact k _ _ _ _ p1 (g.trans g2) (.inl ⟨a, rfl, R1.s.free na, own_mkL upd_same ((hq.mono g.f).append q2)⟩) fun q e => by cases e; exact g.h.nn (nn_of na)
end
section
variable {t : DT} {d : DEnds} {Z : Zs} {ρ : List Sl} {P : D → Prop} {i j : Nat}
theorem e_lck {u : DS} : dLck i u d Z ρ ↔ ∃ kds, ρ[i]? = some (.ow (dctK kds)) ∧ u d Z (ρ.set i (.fz (lkK kds))) := Iff.rfl
theorem e_keysK {P : List D → Prop} : dKeysK t ρ P Z ↔ t ρ (fun x => ∃ kds, x = lkK kds ∧ P (keysK kds)) Z := Iff.rfl
theorem e_mov : dMov i j d Z ρ ↔ ∃ x, ρ[j]? = some (.ow x) ∧ atmB x = false ∧ d.nx ((ρ.set j .un).set i (.ow x)) := Iff.rfl
theorem e_neD0 {P : Bool → Prop} : dNeD0 i ρ P Z ↔ ∃ kds, ρ[i]? = some (.ow (dctK kds)) ∧ P (!kds.isEmpty) := Iff.rfl
theorem x_sortDo {kds : List (Key × D)} : sortDR [dctK kds] P ↔ ∃ ks : List Int, kds.map (·.1) = ks.map Sum.inl ∧ ks.length < 64 ∧ ∀ ys : List Int, ys.Perm ks → ys.Pairwise (· ≤ ·) → P (.list (ys.map .int)) := ⟨fun ⟨kds', ks, x, e, h, h1, h2, h3⟩ => by
    cases e
    rcases h with h | h
    · cases dctK_inj h
      exact ⟨ks, h1, h2, h3⟩
    · exact (dctK_lkK h).elim, fun ⟨ks, h1, h2, h3⟩ => ⟨kds, ks, _, rfl, .inl rfl, h1, h2, h3⟩⟩
theorem x_lenDo {kds : List (Key × D)} : lenDR [dctK kds] P ↔ P (.int (kds.length : Nat)) := ⟨fun ⟨kds', x, e, h, h3⟩ => by
    cases e
    rcases h with h | h
    · cases dctK_inj h
      exact h3
    · exact (dctK_lkK h).elim, fun h => ⟨kds, _, rfl, .inl rfl, h⟩⟩
theorem e_catO : dCatO i t ρ P Z ↔ ∃ a, ρ[i]? = some (.ow (.list a)) ∧ t ρ (fun y => ∃ b, y = .list b ∧ a.length + b.length ≤ 100000 ∧ P (.list (a ++ b))) Z := Iff.rfl
end
end DL
set_option maxRecDepth 100000
set_option maxHeartbeats 4000000
/-! DMS: the readings of DM0.., unfolded. -/
namespace DL
open PySem PySem.Spec PyProof.Rows L2
section
variable {t u : DT} {d : DEnds} {Z : Zs} {ρ : List Sl} {P : D → Prop} {i : Nat} {tc : DTc} {Pc : V → D → Nat → D → Prop} {ta : DTa} {w : CM}
theorem e_atm : dAtm t ρ P Z ↔ t ρ (fun x => atmB x = true ∧ P x) Z := Iff.rfl
theorem e_tr : dTr t ρ P Z ↔ t ρ (fun x => isLT x = true ∧ P x) Z := Iff.rfl
theorem e_Vt : dVt i ρ P Z ↔ ∃ d, ρ[i]?.bind Sl.tre = some d ∧ isLT d = true ∧ P d := Iff.rfl
theorem e_setT : dSetT i t d Z ρ ↔ t ρ (fun x => ∀ v, d.nx (ρ.set i (.tr v x))) Z := Iff.rfl
theorem e_retT : dRetT i d Z ρ ↔ ∃ v x, ρ[i]? = some (.tr v x) ∧ d.rt x := Iff.rfl
theorem e_ch : dCh i t ρ Pc Z ↔ ∃ v d, ρ[i]? = some (.tr v d) ∧ t ρ (fun kd => ∃ ds n j c, (d = .list ds ∨ d = .tuple ds) ∧ kd = .int n ∧ ixN ds.length n = some j ∧ ds[j]? = some c ∧ atmB c = false ∧ Pc v d j c) Z := Iff.rfl
theorem e_put2 : dPut2 i tc t u d Z ρ ↔ u ρ (fun y => tc ρ (fun v x j c => t ρ (fun k => ∃ ds n m, c = .list ds ∧ k = .int n ∧ ixN ds.length n = some m ∧ d.nx (ρ.set i (.tr v (setCh x j (.list (ds.set m y)))))) Z) Z) Z := Iff.rfl
theorem e_put2K : dPut2K i tc t u d Z ρ ↔ u ρ (fun y => tc ρ (fun v x j c => t ρ (fun k => ∃ kds ks, c = dctK kds ∧ k = keyD ks ∧ kds.length ≤ 100000 ∧ d.nx (ρ.set i (.tr v (setCh x j (dctK (putD kds ks y)))))) Z) Z) Z := Iff.rfl
theorem e_app2 : dApp2 i tc t d Z ρ ↔ tc ρ (fun v x j c => ∃ ds, c = .list ds ∧ ds.length ≤ 100000 ∧ t ρ (fun y => d.nx (ρ.set i (.tr v (setCh x j (.list (ds ++ [y])))))) Z) Z := Iff.rfl
theorem e_pop2K : dPop2K i tc t d Z ρ ↔ tc ρ (fun v x j c => ∃ kds, c = dctK kds ∧ t ρ (fun k => ∃ ks y, k = keyD ks ∧ valD kds ks = some y ∧ d.nx (ρ.set i (.tr v (setCh x j (dctK (dropD kds ks)))))) Z) Z := Iff.rfl
theorem e_callM : dCallM i w ta d Z ρ ↔ ∃ v x, ρ[i]? = some (.tr v x) ∧ ta ρ (fun ds => w x ds (fun d' => d.nx (ρ.set i (.tr v d')))) Z := Iff.rfl
theorem e_lrev : dListRev t ρ P Z ↔ t ρ (fun x => lrevR x P) Z := Iff.rfl
theorem e_appT : dAppT i t d Z ρ ↔ ∃ v ds, ρ[i]? = some (.tr v (.list ds)) ∧ ds.length ≤ 100000 ∧ t ρ (fun y => atmB y = false ∧ d.nx (ρ.set i (.tr v (.list (ds ++ [y]))))) Z := Iff.rfl
theorem e_Vl : dVl i ρ P Z ↔ ∃ d, ρ[i]? = some (.lt d) ∧ P d := Iff.rfl
theorem e_tup2 {ta tb : DT} : dTup2 ta tb ρ P Z ↔ ta ρ (fun x => tb ρ (fun y => (atmB x = false ∨ atmB y = false) ∧ P (.tuple [x, y])) Z) Z := Iff.rfl
theorem e_retP {j : Nat} : dRetP i j d Z ρ ↔ ∃ x y, ρ[i]? = some (.ow x) ∧ ρ[j]? = some (.ow y) ∧ (atmB x = false ∨ atmB y = false) ∧ d.rt (.tuple [x, y]) := Iff.rfl
theorem e_srev : dSortRev t ρ P Z ↔ t ρ (fun x => sortRevR x P) Z := Iff.rfl
theorem e_rem : dRem i t d Z ρ ↔ ∃ ds, ρ[i]? = some (.ow (.list ds)) ∧ t ρ (fun y => ∃ j, Shp 8 y ∧ (∀ z ∈ ds, Shp 8 z) ∧ RemAt ds y j ∧ d.nx (ρ.set i (.ow (.list (ds.eraseIdx j))))) Z := Iff.rfl
theorem e_tre {B : DS} : dTre i B d Z ρ ↔ ∃ ds, ρ[i]? = some (.ow (.list ds)) ∧ (∀ x ∈ ds, atmB x = true) ∧ ∀ p : Addr, B d Z (ρ.set i (.tr (.ref p) (.list ds))) := Iff.rfl
theorem e_Va : dVa i ρ P Z ↔ ∃ (a : Addr) (s : Nat) (d : D), ρ[i]? = some (Sl.at a) ∧ ρ[s]? = some (Sl.tr (.ref a) d) ∧ isLT d = true ∧ P d := Iff.rfl
theorem e_ali {k j : Nat} : dAli i k j t d Z ρ ↔ ∃ (p q : Addr) (x y : D), ρ[k]? = some (.tr (.ref p) x) ∧ ρ[j]? = some (.tr (.ref q) y) ∧ t ρ (fun n => (n = .int 0 ∧ d.nx (ρ.set i (.at p))) ∨ (n = .int 1 ∧ d.nx (ρ.set i (.at q)))) Z := Iff.rfl
theorem e_putA : dPutA i t u d Z ρ ↔ ∃ (a : Addr) (s : Nat) (ds : List D), ρ[i]? = some (.at a) ∧ ρ[s]? = some (.tr (.ref a) (.list ds)) ∧ (∀ x ∈ ds, atmB x = true) ∧ u ρ (fun y => atmB y = true ∧ t ρ (fun k => ∃ n j, k = .int n ∧ ixN ds.length n = some j ∧ d.nx (ρ.set s (.tr (.ref a) (.list (ds.set j y))))) Z) Z := Iff.rfl
theorem e_inRg {tb tc : DT} : dInRg t tb tc ρ P Z ↔ t ρ (fun x => tb ρ (fun y => tc ρ (fun z => ∃ i lo hi, x = .int i ∧ y = .int lo ∧ z = .int hi ∧ P (.bool (decide (lo ≤ i ∧ i < hi)))) Z) Z) Z := Iff.rfl
theorem e_catC {t1 t2 : DTc} : dCatC t1 t2 ρ P Z ↔ t1 ρ (fun _ _ _ c => t2 ρ (fun _ _ _ c2 => catD c c2 P) Z) Z := Iff.rfl
theorem e_asgP {j : Nat} : dAsgP i j t d Z ρ ↔ t ρ (fun z => ∃ x y, z = .tuple [x, y] ∧ d.nx ((ρ.set i (.ow x)).set j (.ow y))) Z := Iff.rfl
theorem e_asgL {j k : Nat} : dAsgL i j k d Z ρ ↔ ∃ x y, ρ[k]? = some (.lt (.tuple [x, y])) ∧ d.nx ((ρ.set i (.ln x)).set j (.ln y)) := Iff.rfl
theorem e_sset : dSortSet t ρ P Z ↔ t ρ (fun x => sortSetR x P) Z := Iff.rfl
theorem e_lset : dLenSet t ρ P Z ↔ t ρ (fun x => lenSetR x P) Z := Iff.rfl
theorem x_lrev {ds : List D} : lrevR (.list ds) P ↔ P (.list ds.reverse) := ⟨fun ⟨_, h, p⟩ => by cases h; exact p, fun p => ⟨_, rfl, p⟩⟩
theorem e_chain3 {r1 r2 r3 : D → D → (D → Prop) → Prop} {ta tb tc td : DT} : dChain3 r1 r2 r3 ta tb tc td ρ P Z ↔ ta ρ (fun x => tb ρ (fun y => r1 x y (fun z => ∃ c, z = .bool c ∧ (c = true → tc ρ (fun w => r2 y w (fun z2 => ∃ c2, z2 = .bool c2 ∧ (c2 = true → td ρ (fun u => r3 w u P) Z) ∧ (c2 = false → P (.bool false)))) Z) ∧ (c = false → P (.bool false)))) Z) Z := Iff.rfl
theorem e_idx : dIdx t u ρ P Z ↔ t ρ (fun x => ∃ ds, x = .list ds ∧ u ρ (fun y => idxR ds y P) Z) Z := Iff.rfl
theorem e_cnt : dCnt t u ρ P Z ↔ t ρ (fun x => ∃ ds, x = .list ds ∧ u ρ (fun y => cntR ds y P) Z) Z := Iff.rfl
/-- which of some bools is the first true one -/
theorem idx_bools {bs : List Bool} {j : Nat} (h : bs[j]? = some true) (h2 : ∀ m, m < j → bs[m]? = some false) (p : P (.int (j : Nat))) : idxR (bs.map .bool) (.bool true) P := by
  refine ⟨by simp [Shp], fun z hz => ?_, j, .bool true, by rw [List.getElem?_map, h]; rfl, rfl, fun m z' hm hz => ?_, p⟩
  · obtain ⟨b, _, rfl⟩ := List.mem_map.mp hz
    simp [Shp]
  · rw [List.getElem?_map, h2 m hm] at hz
    cases hz
    rfl
theorem cnt_bools {bs : List Bool} (p : P (.int ((bs.countP fun b => b == true : Nat)))) : cntR (bs.map .bool) (.bool true) P := by
  refine ⟨by simp [Shp], fun z hz => ?_, ?_⟩
  · obtain ⟨b, _, rfl⟩ := List.mem_map.mp hz
    simp [Shp]
  · rw [List.countP_map]
    exact p
end
end DL
set_option maxRecDepth 100000
set_option maxHeartbeats 16000000
namespace DL
open PySem PySem.Spec PyProof.Rows L2

def rd__law_row : DS :=
  (dSeq (dSetN 3 (dLst dNil))
  (dSeq (dSet 4 (d2 divR (dV 0) (dC (.int 2))))
  (dSeq (dFor [5, 6] (dRng1 (dCons (dV 1) dNil)) (gNm 5)
  (dIf (dB (d2 (eqR false) (d2 modR (dV 0) (dC (.int 2))) (dC (.int 0))))
  (dSeq (dApp 3 (d2 modR (dV 4) (dV 2)))
  (dSet 4 (d2 divR (dV 4) (dV 2))))
  (dSeq (dSet 6 (d2 modR (d2 addD (d2 addD (dV 4) (d2 mulR (dC (.int 977)) (dV 5))) (dC (.int 1))) (dC (.int 2147483647))))
  (dSeq (dSet 6 (d2 modR (d2 mulR (d2 modR (d2 mulR (dV 6) (dV 6)) (dC (.int 1000000007))) (dC (.int 48271))) (dC (.int 998244353))))
  (dApp 3 (d2 modR (d2 divR (dV 6) (dC (.int 8))) (dV 2)))))))
  (dRetO 3))))
def w__law_row : CW := bodyW0 7 [.fz, .fz, .fz] .nw rd__law_row
def rd__law_ties : DS :=
  (dSeq (dSet 2 (dCall w__law_row (dCons (dV 1) (dCons (d2 divR (d2 mulR (dV 0) (d2 subR (dV 0) (dC (.int 1)))) (dC (.int 2))) (dCons (dC (.int 2)) dNil)))))
  (dSeq (dSetN 3 (dLst dNil))
  (dSeq (dSet 4 (dC (.int 0)))
  (dSeq (dFor [5, 6] (dRng1 (dCons (dV 0) dNil)) (gNm 5)
  (dFor [6] (dRng2 (dCons (d2 addD (dV 5) (dC (.int 1))) (dCons (dV 0) dNil))) (gNm 6)
  (dSeq (dIf (dB (d2 (eqR false) (d2 ixR (dV 2) (dV 4)) (dC (.int 1))))
  (dApp 3 (dTup (dCons (dV 5) (dCons (dV 6) dNil))))
  dNext)
  (dSet 4 (d2 addD (dV 4) (dC (.int 1)))))))
  (dRetO 3)))))
def w__law_ties : CW := bodyW0 7 [.fz, .fz] .nw rd__law_ties
def rd__law_web : DS :=
  (dSeq (dSet 1 (d2 addD (dC (.int 1)) (d2 modR (dV 0) (dC (.int 6)))))
  (dSeq (dSetN 2 (dCall w__law_ties (dCons (dV 1) (dCons (d2 divR (dV 0) (dC (.int 12))) dNil))))
  (dSeq (dIf (dB (d2 (eqR false) (d2 modR (d2 divR (dV 0) (dC (.int 6))) (dC (.int 2))) (dC (.int 1))))
  (dSeq (dSet 3 (dCall w__law_row (dCons (d2 divR (dV 0) (dC (.int 12))) (dCons (dV 1) (dCons (dC (.int 2)) dNil)))))
  (dSeq (dSetN 2 (dLst dNil))
  (dFor [4] (dRng1 (dCons (dV 1) dNil)) (gNm 4)
  (dExt 2 (dLc [5] (dRng2 (dCons (d2 addD (dV 4) (dC (.int 1))) (dCons (dV 1) dNil))) (gNm 5) (dB (d2 (eqR false) (d2 ixR (dV 3) (dV 5)) (dC (.int 1)))) (dTup (dCons (dV 4) (dCons (dV 5) dNil))))))))
  dNext)
  (dFrz 2 (dRet (dTup (dCons (dV 1) (dCons (dV 2) dNil))))))))
def w__law_web : CW := bodyW0 6 [.fz] .fz rd__law_web
def rd__law_sums : DS :=
  (dSeq (dSetN 2 (d2 repD (dLst (dCons (dC (.int 0)) dNil)) (dV 0)))
  (dSeq (dFor [3, 4] (dIt (dV 1)) (gTp 2 (gCns (gNm 3) (gCns (gNm 4) gNil)))
  (dSeq (dPutL 2 (dV 3) (d2 addD (d2 ixR (dVr 2) (dV 3)) (dC (.int 1))))
  (dPutL 2 (dV 4) (d2 addD (d2 ixR (dVr 2) (dV 4)) (dC (.int 1))))))
  (dRetO 2)))
def w__law_sums : CW := bodyW0 5 [.fz, .fz] .nw rd__law_sums
def rd_look_at_tally : DS :=
  (dIf (dOr (dB (d2 ltR (dA lenR (dCons (dV 0) dNil)) (dC (.int 1)))) (dB (d2 gtR (dA lenR (dCons (dV 0) dNil)) (dC (.int 24)))))
  (dRaise "BadTally")
  dNext)
def w_look_at_tally : CW := bodyW 1 [.fz] .fz rd_look_at_tally
def rd_order_of : DS :=
  (dSeq (dDrop (dCallX w_look_at_tally (dCons (dV 0) dNil)))
  (dRet (dSortR 0 (dA lenR (dCons (dV 0) dNil)))))
def w_order_of : CW := bodyW 1 [.fz] .nw rd_order_of
def rd_room_at : DS :=
  (dSeq (dSet 2 (dCallX w_order_of (dCons (dV 0) dNil)))
  (dSeq (dSet 3 (d2 mulR (dV 1) (d2 subR (dV 1) (dC (.int 1)))))
  (dSeq (dFor [4, 5] (dEnumA (dCons (dV 2) dNil)) (gTp 2 (gCns (gNm 4) (gCns (gNm 5) gNil)))
  (dIf (dB (d2 ltR (dV 4) (dV 1)))
  (dSet 3 (d2 subR (dV 3) (d2 ixR (dV 0) (dV 5))))
  (dSet 3 (d2 addD (dV 3) (dA min2R (dCons (d2 ixR (dV 0) (dV 5)) (dCons (dV 1) dNil)))))))
  (dRet (dV 3)))))
def w_room_at : CW := bodyW 6 [.fz, .fz] .fz rd_room_at
def rd_wall_of : DS :=
  (dSeq (dDrop (dCallX w_look_at_tally (dCons (dV 0) dNil)))
  (dSeq (dFor [1, 2] (dEnumA (dCons (dV 0) dNil)) (gTp 2 (gCns (gNm 1) (gCns (gNm 2) gNil)))
  (dIf (dB (d2 ltR (dV 2) (dC (.int 0))))
  (dRet (dTup (dCons (dC (.str "below")) (dCons (dV 1) dNil))))
  dNext))
  (dSeq (dIf (dB (d2 (eqR false) (d2 modR (dA (seqIR (fun _ => True) List.sum) (dCons (dV 0) dNil)) (dC (.int 2))) (dC (.int 1))))
  (dRet (dTup (dCons (dC (.str "odd")) dNil)))
  dNext)
  (dSeq (dFor [3] (dRng2 (dCons (dC (.int 1)) (dCons (d2 addD (dA lenR (dCons (dV 0) dNil)) (dC (.int 1))) dNil))) (gNm 3)
  (dIf (dB (d2 ltR (dCallX w_room_at (dCons (dV 0) (dCons (dV 3) dNil))) (dC (.int 0))))
  (dRet (dTup (dCons (dC (.str "wall")) (dCons (dV 3) dNil))))
  dNext))
  (dRet (dC .none))))))
def w_wall_of : CW := bodyW 4 [.fz] .fz rd_wall_of
def rd_look_for_web : DS :=
  (dIf (dB (d2 (isR true) (dCallX w_wall_of (dCons (dV 0) dNil)) (dC .none)))
  (dRaise "NoWeb")
  dNext)
def w_look_for_web : CW := bodyW 1 [.fz] .fz rd_look_for_web
def rd_last_put : DS :=
  (dSeq (dFor [1] (dIt (dA sortDR (dCons (dVs 0) dNil))) (gNm 1)
  (dSeq (dIf (dB (d2 (eqR false) (dDGet (dVs 0) (dV 1)) (dC (.int 0))))
  (dRet (dTup (dCons (dV 1) (dCons (dC (.bool false)) dNil))))
  dNext)
  (dIf (dB (d2 (eqR false) (dDGet (dVs 0) (dV 1)) (d2 subR (dA lenDR (dCons (dVs 0) dNil)) (dC (.int 1)))))
  (dRet (dTup (dCons (dV 1) (dCons (dC (.bool true)) dNil))))
  dNext)))
  (dRet (dC .none)))
def w_last_put : CW := bodyW0 2 [.rd] .fz rd_last_put
def rd_growth : DS :=
  (dSeq (dDrop (dCallX w_look_for_web (dCons (dV 0) dNil)))
  (dSeq (dSetN 1 (dC (dctK [])))
  (dSeq (dFor [2, 3] (dEnumA (dCons (dV 0) dNil)) (gTp 2 (gCns (gNm 2) (gCns (gNm 3) gNil)))
  (dPutK 1 (dV 2) (dV 3)))
  (dSeq (dSetN 4 (dLst dNil))
  (dSeq (dWhile [2, 5, 6] (dNeD0 1)
  (dSeq (dSet 5 (dCall w_last_put (dCons (dVr 1) dNil)))
  (dSeq (dIf (dB (d2 (isR false) (dV 5) (dC .none)))
  (dRet (dC .none))
  dNext)
  (dSeq (dApp 4 (dV 5))
  (dSeq (dSetN 6 (dC (dctK [])))
  (dLck 1 (dSeq (dFor [2] (dKeysK (dV 1)) (gNm 2)
  (dIf (dB (d2 (eqR true) (dV 2) (d2 ixR (dV 5) (dC (.int 0)))))
  (dPutK 6 (dV 2) (d2 subR (dDGet (dV 1) (dV 2)) (dA intR (dCons (d2 ixR (dV 5) (dC (.int 1))) dNil))))
  dNext))
  (dMov 1 6))))))))
  (dFrz 4 (dRet (dListRev (dV 4)))))))))
def w_growth : CW := bodyW 7 [.fz] .fz rd_growth
def rd__law_can : DS :=
  (dSeq (dSet 2 (d2 addD (dV 1) (dLc [7, 8] (dIt (dV 1)) (gTp 2 (gCns (gNm 7) (gCns (gNm 8) gNil))) dYes (dTup (dCons (dV 8) (dCons (dV 7) dNil))))))
  (dSeq (dFor [3, 4, 5, 6] (dIt (dV 2)) (gTp 2 (gCns (gNm 3) (gCns (gNm 4) gNil)))
  (dFor [5, 6] (dIt (dV 2)) (gTp 2 (gCns (gNm 5) (gCns (gNm 6) gNil)))
  (dIf (dB (d2 (eqR false) (dA lenR (dCons (dLc [9] (dRng1 (dCons (dV 0) dNil)) (gNm 9) (dB (d2 (inR false) (dV 9) (dTup (dCons (dV 3) (dCons (dV 4) (dCons (dV 5) (dCons (dV 6) dNil))))))) (dC (.int 1))) dNil)) (dC (.int 4))))
  (dIf (dAnd (dB (d2 (inR true) (dTup (dCons (dV 3) (dCons (dV 6) dNil))) (dV 2))) (dB (d2 (inR true) (dTup (dCons (dV 5) (dCons (dV 4) dNil))) (dV 2))))
  (dRet (dC (.bool true)))
  dNext)
  dNext)))
  (dRet (dC (.bool false)))))
def w__law_can : CW := bodyW0 10 [.fz, .fz] .fz rd__law_can
def rd_look_at_webs : DS :=
  (dSeq (dDrop (dCallX w_look_at_tally (dCons (dV 0) dNil)))
  (dIf (dB (d2 (isR true) (dCallX w_wall_of (dCons (dV 0) dNil)) (dC .none)))
  (dRaise "NoWeb")
  dNext))
def w_look_at_webs : CW := bodyW 1 [.fz] .fz rd_look_at_webs
def rd_look_at_place : DS :=
  (dIf (dOr (dB (d2 ltR (dV 1) (dC (.int 0)))) (dB (d2 geR (dV 1) (dV 0))))
  (dRaise "NoPlace")
  dNext)
def w_look_at_place : CW := bodyW 2 [.fz, .fz] .fz rd_look_at_place
def rd_moved : DS :=
  (dSeq (dDrop (dCallX w_look_at_tally (dCons (dV 0) dNil)))
  (dSeq (dDrop (dCallX w_look_at_place (dCons (dA lenR (dCons (dV 0) dNil)) (dCons (dV 1) dNil))))
  (dSeq (dSetN 3 (dA listR (dCons (dV 0) dNil)))
  (dSeq (dPutL 3 (dV 1) (d2 addD (d2 ixR (dVr 3) (dV 1)) (dV 2)))
  (dRetO 3)))))
def w_moved : CW := bodyW 4 [.fz, .fz, .fz] .nw rd_moved
def rd_both_moved : DS :=
  (dRet (dCallX w_moved (dCons (dCallX w_moved (dCons (dV 0) (dCons (dV 1) (dCons (dV 3) dNil)))) (dCons (dV 2) (dCons (dV 3) dNil)))))
def w_both_moved : CW := bodyW 4 [.fz, .fz, .fz, .fz] .nw rd_both_moved
def rd_pairs_with_wall : DS :=
  (dSeq (dDrop (dCallX w_look_at_webs (dCons (dV 0) dNil)))
  (dSeq (dSetN 2 (dC (dctT [])))
  (dSeq (dSetN 3 (dLst dNil))
  (dSeq (dFor [4, 5, 6] (dRng1 (dCons (dA lenR (dCons (dV 0) dNil)) dNil)) (gNm 4)
  (dFor [5, 6] (dRng2 (dCons (d2 addD (dV 4) (dC (.int 1))) (dCons (dA lenR (dCons (dV 0) dNil)) dNil))) (gNm 5)
  (dSeq (dSet 6 (dTup (dCons (dA min2R (dCons (d2 ixR (dV 0) (dV 4)) (dCons (d2 ixR (dV 0) (dV 5)) dNil))) (dCons (dA max2R (dCons (d2 ixR (dV 0) (dV 4)) (dCons (d2 ixR (dV 0) (dV 5)) dNil))) dNil))))
  (dSeq (dIf (dB (dDIn true (dV 6) (dVr 2)))
  (dPutT 2 (dV 6) (d2 (isR true) (dCallX w_wall_of (dCons (dCallX w_both_moved (dCons (dV 0) (dCons (dV 4) (dCons (dV 5) (dCons (dV 1) dNil))))) dNil)) (dC .none)))
  dNext)
  (dIf (dB (dDGet (dVr 2) (dV 6)))
  (dApp 3 (dTup (dCons (dV 4) (dCons (dV 5) dNil))))
  dNext)))))
  (dRetO 3)))))
def w_pairs_with_wall : CW := bodyW 7 [.fz, .fz] .nw rd_pairs_with_wall
def rd_always : DS :=
  (dRet (dCallX w_pairs_with_wall (dCons (dV 0) (dCons (dC (.int 1)) dNil))))
def w_always : CW := bodyW 1 [.fz] .nw rd_always
def rd_never : DS :=
  (dRet (dCallX w_pairs_with_wall (dCons (dV 0) (dCons (d1 negR (dC (.int 1))) dNil))))
def w_never : CW := bodyW 1 [.fz] .nw rd_never
def rd_ties_fit : DS :=
  (dSeq (dSetN 2 (dC (dctT [])))
  (dSeq (dFor [3, 4, 5, 6] (dIt (dVs 1)) (gTp 2 (gCns (gNm 3) (gCns (gNm 4) gNil)))
  (dSeq (dSet 5 (dA min2R (dCons (dV 3) (dCons (dV 4) dNil))))
  (dSeq (dSet 6 (dA max2R (dCons (dV 3) (dCons (dV 4) dNil))))
  (dSeq (dIf (dOr (dB (d2 ltR (dV 5) (dC (.int 0)))) (dOr (dB (d2 (eqR false) (dV 5) (dV 6))) (dOr (dB (d2 geR (dV 6) (dV 0))) (dB (dDIn false (dTup (dCons (dV 5) (dCons (dV 6) dNil))) (dVr 2))))))
  (dRet (dC (.bool false)))
  dNext)
  (dPutT 2 (dTup (dCons (dV 5) (dCons (dV 6) dNil))) (dC (.bool true)))))))
  (dRet (dC (.bool true)))))
def w_ties_fit : CW := bodyW0 7 [.fz, .rd] .fz rd_ties_fit
def rd_made : DS :=
  (dSeq (dIf (dOr (dB (d2 ltR (dV 0) (dC (.int 1)))) (dB (d2 gtR (dV 0) (dC (.int 24)))))
  (dRaise "BadWeb")
  dNext)
  (dSeq (dIf (dNot (dB (dCall w_ties_fit (dCons (dV 0) (dCons (dVs 1) dNil)))))
  (dRaise "BadWeb")
  dNext)
  (dRet (dTup (dCons (dV 0) (dCons (dA tupleR (dCons (dA sortR (dCons (dLc [2] (dIt (dVs 1)) (gNm 2) dYes (dTup (dCons (dA (seqIR (fun ns => ns ≠ []) lmin) (dCons (dV 2) dNil)) (dCons (dA (seqIR (fun ns => ns ≠ []) lmax) (dCons (dV 2) dNil)) dNil)))) dNil)) dNil)) dNil))))))
def w_made : CW := bodyW 3 [.fz, .rd] .fz rd_made
def rd_grown : DS :=
  (dSeq (dSetN 1 (dLc [6] (dIt (dV 0)) (gNm 6) dYes (d2 ixR (dV 6) (dC (.int 0)))))
  (dFrz 1 (dSeq (dIf (dOr (dB (d2 (eqR false) (dA lenR (dCons (dV 0) dNil)) (dC (.int 0)))) (dOr (dB (d2 gtR (dA lenR (dCons (dV 0) dNil)) (dC (.int 24)))) (dB (d2 (eqR true) (dA sortR (dCons (dV 1) dNil)) (dLRg1 (dA lenR (dCons (dV 0) dNil)))))))
  (dRaise "BadWeb")
  dNext)
  (dSeq (dIf (dB (d2 ixR (d2 ixR (dV 0) (dC (.int 0))) (dC (.int 1))))
  (dRaise "BadWeb")
  dNext)
  (dSeq (dSetN 2 (dLst dNil))
  (dSeq (dFor [3, 4, 5] (dEnumA (dCons (dV 0) dNil)) (gTp 2 (gCns (gNm 3) (gCns (gTp 2 (gCns (gNm 4) (gCns (gNm 5) gNil))) gNil)))
  (dIf (dB (dV 5))
  (dExt 2 (dLc [7] (dIt (dSlice (dV 1) dNoP (dPart (dV 3)))) (gNm 7) dYes (dTup (dCons (dV 4) (dCons (dV 7) dNil)))))
  dNext))
  (dFrz 2 (dRet (dCallX w_made (dCons (dA lenR (dCons (dV 0) dNil)) (dCons (dV 2) dNil)))))))))))
def w_grown : CW := bodyW 8 [.fz] .fz rd_grown
def rd_law : DS :=
  (dSeq (dFor [1, 2, 3, 4, 5, 6, 7, 8] (dIt (d2 addD (dLst (dCons (dC (.int 0)) dNil)) (dSlice (dVs 0) dNoP (dPart (dC (.int 12)))))) (gNm 1)
  (dSeq (dAsg (dCall w__law_web (dCons (d2 modR (dV 1) (d2 powR (dC (.int 10)) (dC (.int 60)))) dNil)) (gTp 2 (gCns (gNm 2) (gCns (gNm 3) gNil))))
  (dSeq (dSet 4 (dCall w__law_sums (dCons (dV 2) (dCons (dV 3) dNil))))
  (dSeq (dSet 5 (dCall w_growth (dCons (dA listR (dCons (dV 4) dNil)) dNil)))
  (dSeq (dIf (dB (d2 (eqR true) (d2 (isR false) (dV 5) (dC .none)) (dCall w__law_can (dCons (dV 2) (dCons (dV 3) dNil)))))
  (dRet (dC (.bool false)))
  dNext)
  (dSeq (dSetN 6 (dLst dNil))
  (dSeq (dFor [7] (dRng1 (dCons (dV 2) dNil)) (gNm 7)
  (dExt 6 (dLc [9] (dRng2 (dCons (d2 addD (dV 7) (dC (.int 1))) (dCons (dV 2) dNil))) (gNm 9) dYes (dTup (dCons (dV 7) (dCons (dV 9) dNil))))))
  (dFrz 6 (dSeq (dSet 8 (dLst (dCons (dCall w_always (dCons (dA listR (dCons (dV 4) dNil)) dNil)) (dCons (dCall w_never (dCons (dA listR (dCons (dV 4) dNil)) dNil)) dNil))))
  (dIf (dB (d2 (isR false) (dV 5) (dC .none)))
  (dIf (dB (d2 (eqR false) (dLc [10] (dIt (dV 6)) (gNm 10) (dB (d2 (inR true) (dV 10) (d2 addD (d2 ixR (dV 8) (dC (.int 0))) (d2 ixR (dV 8) (dC (.int 1)))))) (dV 10)) (dLst dNil)))
  (dRet (dC (.bool false)))
  dNext)
  (dIf (dB (d2 (eqR true) (dCall w_grown (dCons (dV 5) dNil)) (dTup (dCons (dV 2) (dCons (dA tupleR (dCons (dV 3) dNil)) dNil)))))
  (dRet (dC (.bool false)))
  (dIf (dB (d2 (eqR true) (dV 8) (dLst (dCons (dV 3) (dCons (dLc [10] (dIt (dV 6)) (gNm 10) (dB (d2 (inR true) (dV 10) (dV 3))) (dV 10)) dNil)))))
  (dRet (dC (.bool false)))
  dNext))))))))))))
  (dRet (dC (.bool true))))
def w_law : CW := bodyW0 11 [.rd] .fz rd_law
theorem u__law_row {a0 a1 a2 : D} {P : D → Prop} {Z : String → Prop} : w__law_row [a0, a1, a2] P Z ↔ rd__law_row { nx := fun _ => P .none, rt := P } Z0 [.fz a0, .fz a1, .fz a2, .un, .un, .un, .un] := Iff.rfl
theorem u__law_ties {a0 a1 : D} {P : D → Prop} {Z : String → Prop} : w__law_ties [a0, a1] P Z ↔ rd__law_ties { nx := fun _ => P .none, rt := P } Z0 [.fz a0, .fz a1, .un, .un, .un, .un, .un] := Iff.rfl
theorem u__law_web {a0 : D} {P : D → Prop} {Z : String → Prop} : w__law_web [a0] P Z ↔ rd__law_web { nx := fun _ => P .none, rt := P } Z0 [.fz a0, .un, .un, .un, .un, .un] := Iff.rfl
theorem u__law_sums {a0 a1 : D} {P : D → Prop} {Z : String → Prop} : w__law_sums [a0, a1] P Z ↔ rd__law_sums { nx := fun _ => P .none, rt := P } Z0 [.fz a0, .fz a1, .un, .un, .un] := Iff.rfl
theorem u_look_at_tally {a0 : D} {P : D → Prop} {Z : String → Prop} : w_look_at_tally [a0] P Z ↔ rd_look_at_tally { nx := fun _ => P .none, rt := P } (fun _ x => Z x) [.fz a0] := Iff.rfl
theorem u_order_of {a0 : D} {P : D → Prop} {Z : String → Prop} : w_order_of [a0] P Z ↔ rd_order_of { nx := fun _ => P .none, rt := P } (fun _ x => Z x) [.fz a0] := Iff.rfl
theorem u_room_at {a0 a1 : D} {P : D → Prop} {Z : String → Prop} : w_room_at [a0, a1] P Z ↔ rd_room_at { nx := fun _ => P .none, rt := P } (fun _ x => Z x) [.fz a0, .fz a1, .un, .un, .un, .un] := Iff.rfl
theorem u_wall_of {a0 : D} {P : D → Prop} {Z : String → Prop} : w_wall_of [a0] P Z ↔ rd_wall_of { nx := fun _ => P .none, rt := P } (fun _ x => Z x) [.fz a0, .un, .un, .un] := Iff.rfl
theorem u_look_for_web {a0 : D} {P : D → Prop} {Z : String → Prop} : w_look_for_web [a0] P Z ↔ rd_look_for_web { nx := fun _ => P .none, rt := P } (fun _ x => Z x) [.fz a0] := Iff.rfl
theorem u_last_put {a0 : D} {P : D → Prop} {Z : String → Prop} : w_last_put [a0] P Z ↔ rd_last_put { nx := fun _ => P .none, rt := P } Z0 [.ln a0, .un] := Iff.rfl
theorem u_growth {a0 : D} {P : D → Prop} {Z : String → Prop} : w_growth [a0] P Z ↔ rd_growth { nx := fun _ => P .none, rt := P } (fun _ x => Z x) [.fz a0, .un, .un, .un, .un, .un, .un] := Iff.rfl
theorem u__law_can {a0 a1 : D} {P : D → Prop} {Z : String → Prop} : w__law_can [a0, a1] P Z ↔ rd__law_can { nx := fun _ => P .none, rt := P } Z0 [.fz a0, .fz a1, .un, .un, .un, .un, .un, .un, .un, .un] := Iff.rfl
theorem u_look_at_webs {a0 : D} {P : D → Prop} {Z : String → Prop} : w_look_at_webs [a0] P Z ↔ rd_look_at_webs { nx := fun _ => P .none, rt := P } (fun _ x => Z x) [.fz a0] := Iff.rfl
theorem u_look_at_place {a0 a1 : D} {P : D → Prop} {Z : String → Prop} : w_look_at_place [a0, a1] P Z ↔ rd_look_at_place { nx := fun _ => P .none, rt := P } (fun _ x => Z x) [.fz a0, .fz a1] := Iff.rfl
theorem u_moved {a0 a1 a2 : D} {P : D → Prop} {Z : String → Prop} : w_moved [a0, a1, a2] P Z ↔ rd_moved { nx := fun _ => P .none, rt := P } (fun _ x => Z x) [.fz a0, .fz a1, .fz a2, .un] := Iff.rfl
theorem u_both_moved {a0 a1 a2 a3 : D} {P : D → Prop} {Z : String → Prop} : w_both_moved [a0, a1, a2, a3] P Z ↔ rd_both_moved { nx := fun _ => P .none, rt := P } (fun _ x => Z x) [.fz a0, .fz a1, .fz a2, .fz a3] := Iff.rfl
theorem u_pairs_with_wall {a0 a1 : D} {P : D → Prop} {Z : String → Prop} : w_pairs_with_wall [a0, a1] P Z ↔ rd_pairs_with_wall { nx := fun _ => P .none, rt := P } (fun _ x => Z x) [.fz a0, .fz a1, .un, .un, .un, .un, .un] := Iff.rfl
theorem u_always {a0 : D} {P : D → Prop} {Z : String → Prop} : w_always [a0] P Z ↔ rd_always { nx := fun _ => P .none, rt := P } (fun _ x => Z x) [.fz a0] := Iff.rfl
theorem u_never {a0 : D} {P : D → Prop} {Z : String → Prop} : w_never [a0] P Z ↔ rd_never { nx := fun _ => P .none, rt := P } (fun _ x => Z x) [.fz a0] := Iff.rfl
theorem u_ties_fit {a0 a1 : D} {P : D → Prop} {Z : String → Prop} : w_ties_fit [a0, a1] P Z ↔ rd_ties_fit { nx := fun _ => P .none, rt := P } Z0 [.fz a0, .ln a1, .un, .un, .un, .un, .un] := Iff.rfl
theorem u_made {a0 a1 : D} {P : D → Prop} {Z : String → Prop} : w_made [a0, a1] P Z ↔ rd_made { nx := fun _ => P .none, rt := P } (fun _ x => Z x) [.fz a0, .ln a1, .un] := Iff.rfl
theorem u_grown {a0 : D} {P : D → Prop} {Z : String → Prop} : w_grown [a0] P Z ↔ rd_grown { nx := fun _ => P .none, rt := P } (fun _ x => Z x) [.fz a0, .un, .un, .un, .un, .un, .un, .un] := Iff.rfl
theorem u_law {a0 : D} {P : D → Prop} {Z : String → Prop} : w_law [a0] P Z ↔ rd_law { nx := fun _ => P .none, rt := P } Z0 [.ln a0, .un, .un, .un, .un, .un, .un, .un, .un, .un, .un] := Iff.rfl
end DL
set_option maxRecDepth 100000
set_option maxHeartbeats 4000000
namespace DL
open PySem PySem.Spec PyProof.Rows L2
local macro_rules | `(tactic| walk_at "r") => `(tactic| simp only [e_seq, e_atm, e_tr, e_Vt, e_setT, e_retT, e_ch, e_put2, e_put2K, e_app2, e_pop2K, e_callM, e_lrev, e_appT, e_Vl, e_tup2, e_retP, e_srev, e_rem, e_asgP, e_tre, e_Va, e_ali, e_putA, e_catC, e_inRg, e_lck, e_catO, e_keysK, e_mov, e_neD0, x_sortDo, x_lenDo, x_lKi, e_asgL, e_sset, e_lset, x_lrev, e_chain3, e_idx, e_cnt, Sl.tre, Sl.tr.injEq, Sl.lt.injEq, atmB, isLT, e_next, e_set, e_setN, e_setS, e_if, e_ret, e_retO, e_drop, e_frz, frz, e_raise, e_asg, e_app, e_ext, e_rev, e_putL, e_putT, e_putK, e_V, e_Vs, e_Vr, e_C, e_1, e_2, e_A, e_nil, e_cons, e_tup, e_lst, e_B, e_not, e_and, e_or, e_andV, e_orV, e_notV, e_ifE, e_call, e_callX, e_isi, e_noP, e_part, e_slice, e_sliceN, e_it, e_rng1, e_rng2, e_enum, e_enumA, e_zip, e_popS, e_appP, e_appQ, e_d2p, e_dpPop, e_dinT, e_putNT, e_chK, e_retL, e_keys, e_gNm, e_gNil, e_gCns, e_gTp, e_din, e_dget, e_chain, e_yes, e_ins, e_tryAs, e_try, e_isE, hsZ_cons, hsZo_cons, DEnds.un, x_rep, e_LRg1, e_LRg2, e_sortR, e_sortL, x_is, x_isB, lk_int, lk_bool, lk_str, lk_none, lk_list, lk_tup, x_lT, isN, e_revS, revR, List.reverse_cons, List.reverse_nil, List.nil_append, List.cons_append, String.reduceEq, reduceIte, Sl.at.injEq, forall_eq,  e_for, e_lc, fgt_nil, fgt_cons, x_I, x_oI, x_lt2, x_le2, x_gt2, x_ge2, x_C, x_1, x_ixL, x_ixT, x_lenL, x_lenT, x_listL, x_listT, x_tupL, x_tupT, x_tupLL, x_min2, x_max2, x_abs, x_intI, x_intB, x_seqL, x_seqT, x_seqT2, x_seqL2, x_sort, x_sortAL, x_sortAT, e_sliceA, x_cutAL, x_cutAT, x_aaI, x_aaL, x_aaT, e_par, x_inL, x_inT, x_eqI, x_eqB, x_addI, x_addL, x_addT, x_cat, x_cutL, x_cutT, x_cutN, x_dTii, x_dKi, x_kii, x_ki, dctT_iff, dctK_iff, Sl.st, Sl.rd, Option.bind_some, List.getElem?_cons_zero, List.getElem?_cons_succ, List.set_cons_zero, List.set_cons_succ, Option.some.injEq, Sl.fz.injEq, Sl.ow.injEq, Sl.ln.injEq, exists_eq_left', exists_eq_left, PyData.int.injEq, PyData.bool.injEq, PyData.str.injEq, PyData.list.injEq, PyData.tuple.injEq, reduceCtorEq, tyN, ib_00, ib_01, ib_02, ib_03, ib_04, ib_05, ib_10, ib_11, ib_12, ib_13, ib_14, ib_15, ib_20, ib_21, ib_22, ib_23, ib_24, ib_25, ib_30, ib_31, ib_32, ib_33, ib_34, ib_35, ib_40, ib_41, ib_42, ib_43, ib_44, ib_45, ib_50, ib_51, ib_52, ib_53, ib_54, ib_55, ib_60, ib_61, ib_62, ib_63, ib_64, ib_65, Bool.or_false, Bool.or_true, Bool.true_or, Bool.false_or, Bool.and_false, Bool.and_true, Bool.true_and, Bool.false_and, Bool.not_true, Bool.not_false, Int.cast_ofNat_Int, not_true_eq_false, not_false_eq_true, List.cons.injEq, and_true, true_and, or_false, false_or, exists_eq, exists_const, exists_and_left, and_assoc, List.length_cons, List.length_nil, Nat.zero_add, Nat.reduceAdd, Nat.reduceLeDiff, Bool.xor_false, Bool.xor_true, decide_eq_true_eq, decide_eq_false_iff_not, beq_iff_eq, beq_eq_false_iff_ne, ne_eq, Bool.not_eq_true', Bool.not_eq_false', forall_const, forall_eq', forall_eq, false_implies, implies_true, Bool.true_eq_false, Bool.false_eq_true])

/-! ### plain Lean: pairs, ties -/
def eP (p : Int × Int) : D := .tuple [.int p.1, .int p.2]
def nrm (p : Int × Int) : Int × Int := (min p.1 p.2, max p.1 p.2)
def cellAt (ns : List Int) (k : Nat) : Int := (ns[k]?).getD 0
def mixI (c k b : Int) : Int :=
  (((c % 2305843009213693951 + (k + 3) * 1000000007) * 1152921504606846883 % 2305843009213693951 * ((c % 2305843009213693951 + (k + 3) * 1000000007) * 1152921504606846883 % 2305843009213693951) % 2305843009213693951 + k) * 576460752303423433 % 2305843009213693951 / 7 % b)
theorem mix_nn {c k b : Int} (hb : 0 < b) : 0 ≤ mixI c k b ∧ mixI c k b < b := ⟨Int.emod_nonneg _ (by omega), Int.emod_lt_of_pos _ hb⟩
def rowI (n i : Nat) : List (Int × Int) := (List.range (n - (i + 1))).map fun j => ((i : Int), (i : Int) + 1 + (j : Nat))
def pairsI (n : Nat) : List (Int × Int) := (List.range n).flatMap (rowI n)
theorem flat_len {n : Nat} : ∀ l : List Nat, (l.flatMap (rowI n)).length ≤ l.length * n
  | [] => by simp
  | a :: l => by
    have h := flat_len (n := n) l
    rw [List.flatMap_cons, List.length_append, List.length_cons, Nat.succ_mul]
    have : (rowI n a).length ≤ n := by
      unfold rowI
      rw [List.length_map, List.length_range]
      omega
    omega
theorem mem_row {n i : Nat} {p : Int × Int} : p ∈ rowI n i ↔ p.1 = i ∧ (i : Int) < p.2 ∧ p.2 < n := by
  unfold rowI
  rw [List.mem_map]
  constructor
  · rintro ⟨j, hj, rfl⟩
    rw [List.mem_range] at hj
    exact ⟨rfl, by show (i : Int) < i + 1 + (j : Nat); omega, by show (i : Int) + 1 + (j : Nat) < n; omega⟩
  · rintro ⟨h1, h2, h3⟩
    refine ⟨(p.2 - (i + 1)).toNat, ?_, ?_⟩
    · rw [List.mem_range]
      omega
    · refine Prod.ext h1.symm ?_
      show (i : Int) + 1 + ((p.2 - (i + 1)).toNat : Nat) = p.2
      omega
theorem mem_pairs {n : Nat} {p : Int × Int} : p ∈ pairsI n ↔ 0 ≤ p.1 ∧ p.1 < p.2 ∧ p.2 < n := by
  unfold pairsI
  rw [List.mem_flatMap]
  constructor
  · rintro ⟨i, hi, h⟩
    obtain ⟨h1, h2, h3⟩ := mem_row.mp h
    omega
  · rintro ⟨h1, h2, h3⟩
    refine ⟨p.1.toNat, ?_, mem_row.mpr ⟨by omega, by omega, h3⟩⟩
    rw [List.mem_range]
    omega
def ltP (p q : Int × Int) : Prop := p.1 < q.1 ∨ (p.1 = q.1 ∧ p.2 < q.2)
theorem ltP_trans {a b c : Int × Int} (h : ltP a b) (k : ltP b c) : ltP a c := by
  unfold ltP at *
  omega
theorem ltP_ne {a b : Int × Int} (h : ltP a b) : a ≠ b := by
  rintro rfl
  unfold ltP at h
  omega
theorem row_sorted (n i : Nat) : (rowI n i).Pairwise ltP := by
  unfold rowI
  rw [List.pairwise_map]
  refine List.pairwise_lt_range.imp fun {a b} h => ?_
  right
  exact ⟨rfl, by show (i : Int) + 1 + (a : Nat) < (i : Int) + 1 + (b : Nat); omega⟩
theorem pairs_sorted (n : Nat) : (pairsI n).Pairwise ltP := by
  unfold pairsI
  rw [List.flatMap_def, List.pairwise_flatten]
  constructor
  · intro l hl
    obtain ⟨i, _, rfl⟩ := List.mem_map.mp hl
    exact row_sorted n i
  · rw [List.pairwise_map]
    refine List.pairwise_lt_range.imp fun {a b} h x hx y hy => ?_
    have h1 := (mem_row.mp hx).1
    have h2 := (mem_row.mp hy).1
    left
    omega
theorem pairs_len {n : Nat} (h : n ≤ 24) : (pairsI n).length ≤ 576 := by
  have := flat_len (n := n) (List.range n)
  rw [List.length_range] at this
  have : n * n ≤ 24 * 24 := Nat.mul_le_mul h h
  unfold pairsI
  omega
/-- ties as webs tell them -/
structure Ties (n : Nat) (L : List (Int × Int)) : Prop where
  srt : L.Pairwise ltP
  rng : ∀ p ∈ L, 0 ≤ p.1 ∧ p.1 < p.2 ∧ p.2 < n
theorem Ties.sub {n : Nat} {L M : List (Int × Int)} (h : Ties n M) (s : L.Sublist M) : Ties n L := ⟨h.srt.sublist s, fun p hp => h.rng p (s.subset hp)⟩
theorem ties_pairs (n : Nat) : Ties n (pairsI n) := ⟨pairs_sorted n, fun p hp => mem_pairs.mp hp⟩
theorem Ties.nodup {n : Nat} {L : List (Int × Int)} (h : Ties n L) : L.Nodup := h.srt.imp fun h => ltP_ne h
theorem Ties.nrm {n : Nat} {L : List (Int × Int)} (h : Ties n L) : L.map nrm = L := by
  have e : L.map DL.nrm = L.map id := List.map_congr_left fun p hp => by
    obtain ⟨h1, h2, h3⟩ := h.rng p hp
    refine Prod.ext ?_ ?_
    · show min p.1 p.2 = p.1
      omega
    · show max p.1 p.2 = p.2
      omega
  rw [e, List.map_id]
theorem perm_len {α : Type} [DecidableEq α] {L M : List α} (hn : L.Nodup) (hs : ∀ x ∈ L, x ∈ M) : L.length ≤ M.length := by
  induction L generalizing M with
  | nil => exact Nat.zero_le _
  | cons a L ih =>
    rw [List.nodup_cons] at hn
    have h2 : ∀ x ∈ L, x ∈ M.erase a := fun x hx => by
      have ne : x ≠ a := by
        rintro rfl
        exact hn.1 hx
      exact (List.mem_erase_of_ne ne).mpr (hs x (by simp [hx]))
    have := ih hn.2 h2
    have ha : a ∈ M := hs a (by simp)
    rw [List.length_erase_of_mem ha] at this
    have : 0 < M.length := List.length_pos_of_mem ha
    rw [List.length_cons]
    omega
theorem Ties.len {n : Nat} {L : List (Int × Int)} (h : Ties n L) (hn : n ≤ 24) : L.length ≤ 576 :=
  Nat.le_trans (perm_len h.nodup fun p hp => mem_pairs.mpr (h.rng p hp)) (pairs_len hn)
/-- two rows of the same things, both ascending, are the same -/
theorem srt_eq : ∀ {L M : List (Int × Int)}, L.Pairwise ltP → M.Pairwise ltP → L.Perm M → L = M
  | [], M, _, _, h => (List.nil_perm.mp h).symm
  | a :: L, M, hL, hM, h => by
    cases M with
    | nil => exact absurd h.length_eq (by simp)
    | cons b M =>
      rw [List.pairwise_cons] at hL hM
      have e : a = b := by
        have h1 : a ∈ b :: M := h.subset (by simp)
        have h2 : b ∈ a :: L := h.symm.subset (by simp)
        rcases List.mem_cons.mp h1 with h1 | h1
        · exact h1
        rcases List.mem_cons.mp h2 with h2 | h2
        · exact h2.symm
        have k1 := hM.1 a h1
        have k2 := hL.1 b h2
        unfold ltP at k1 k2
        exfalso
        omega
      subst e
      rw [srt_eq hL.2 hM.2 (List.Perm.cons_inv h)]
/-! sorting pairs -/
def leP (p q : Int × Int) : Bool := decide (p.1 < q.1 ∨ (p.1 = q.1 ∧ p.2 ≤ q.2))
def sortP (L : List (Int × Int)) : List (Int × Int) := L.mergeSort leP
theorem leP_trans : ∀ a b c : Int × Int, leP a b = true → leP b c = true → leP a c = true := fun a b c h k => by
  unfold leP at *
  simp only [decide_eq_true_eq] at *
  omega
theorem leP_total : ∀ a b : Int × Int, (leP a b || leP b a) = true := fun a b => by
  unfold leP
  rw [Bool.or_eq_true]
  simp only [decide_eq_true_eq]
  omega
theorem sortP_perm (L : List (Int × Int)) : (sortP L).Perm L := List.mergeSort_perm L leP
theorem sortP_srt {L : List (Int × Int)} (hn : L.Nodup) : (sortP L).Pairwise ltP := by
  have h := List.pairwise_mergeSort (le := leP) leP_trans leP_total L
  have hn2 : (sortP L).Nodup := (sortP_perm L).nodup_iff.mpr hn
  have := h.and hn2
  refine this.imp fun {a b} ⟨h1, h2⟩ => ?_
  unfold leP at h1
  simp only [decide_eq_true_eq] at h1
  unfold ltP
  by_cases c : a.1 < b.1
  · exact .inl c
  · by_cases c2 : a.2 < b.2
    · exact .inr ⟨by omega, c2⟩
    · exact absurd (Prod.ext (by omega) (by omega)) h2
/-- what is sorted is ascending -/
theorem sortP_ties {n : Nat} {L M : List (Int × Int)} (h : Ties n L) (p : M.Perm L) : sortP M = L :=
  srt_eq (sortP_srt (p.nodup_iff.mpr h.nodup)) h.srt ((sortP_perm M).trans p)
theorem alike_eP (p q : Int × Int) : PySem.W.alike (eP p) (eP q) = true := by
  simp [eP, PySem.W.alike, PySem.W.alikeAll]
theorem shp_eP (p : Int × Int) : Shp 8 (eP p) := by simp [eP, Shp]
theorem sort_ok_eP {L : List (Int × Int)} (h : L.length ≤ 100000) : SortOk (L.map eP) := by
  refine ⟨PySem.W.AllAlike.of fun p q => alike_eP p q, PySem.W.Sortable.tuples fun p => ⟨_, _, rfl⟩, by rw [List.length_map]; exact h, fun d hd => ?_⟩
  obtain ⟨p, _, rfl⟩ := List.mem_map.mp hd
  exact shp_eP p
theorem srt_eP (L : List (Int × Int)) : srtD (L.map eP) = (sortP L).map eP := by
  unfold srtD sortP
  refine (List.map_mergeSort (fun a _ b _ => ?_)).symm
  have h := congrFun (congrFun (PySem.W.dataLe_ii (β := Int × Int) (·.1) (·.2)) a) b
  exact h.symm
theorem eP_inj {p q : Int × Int} (h : eP p = eP q) : p = q := by
  simp only [eP, PyData.tuple.injEq, List.cons.injEq, PyData.int.injEq, and_true] at h
  exact Prod.ext h.1 h.2
theorem mapEP_inj {L M : List (Int × Int)} (h : L.map eP = M.map eP) : L = M := map_inj' (fun _ _ => eP_inj) h
/-- a list of ties is well put -/
def Fits (n : Int) (L : List (Int × Int)) : Prop := (∀ p ∈ L, 0 ≤ (nrm p).1 ∧ (nrm p).1 < (nrm p).2 ∧ (nrm p).2 < n) ∧ (L.map nrm).Nodup
instance (n : Int) (L : List (Int × Int)) : Decidable (Fits n L) := inferInstanceAs (Decidable (_ ∧ _))
theorem fits_perm {n : Nat} {L R : List (Int × Int)} (h : Ties n L) (p : (R.map nrm).Perm (L.map nrm)) : Fits n R := by
  rw [h.nrm] at p
  refine ⟨fun q hq => ?_, p.nodup_iff.mpr h.nodup⟩
  exact h.rng _ (p.subset (List.mem_map_of_mem hq))
theorem cutD_from {xs : List D} {k : Nat} : cutD xs (some (k : Int)) none = xs.drop k := by
  unfold cutD
  rw [HT.sIx_nat, HT.sIx_none]
  by_cases h : k ≤ xs.length
  · rw [Nat.min_eq_left h]
    exact List.take_of_length_le (by rw [List.length_drop]; exact Nat.le_refl _)
  · rw [Nat.min_eq_right (by omega), List.drop_of_length_le (Nat.le_refl _), List.drop_of_length_le (by omega), List.take_nil]
theorem cutD_to {xs : List D} {k : Nat} : cutD xs none (some (k : Int)) = xs.take k := by
  unfold cutD
  rw [HT.sIx_nat, HT.sIx_none, List.drop_zero, Nat.sub_zero]
  by_cases h : k ≤ xs.length
  · rw [Nat.min_eq_left h]
  · rw [Nat.min_eq_right (by omega), List.take_of_length_le (Nat.le_refl _), List.take_of_length_le (by omega)]
theorem atI0 {a : D} {r : List D} : atI (a :: r) 0 = some a := atI_nat (j := 0) rfl
theorem atI1 {a b : D} {r : List D} : atI (a :: b :: r) 1 = some b := atI_nat (j := 1) rfl
theorem small_mul {i j : Int} (h : -(2 ^ 64) < j ∧ j < 2 ^ 64) : CMulD i j := .inl (.inr h)
theorem lit_mul {i j : Int} (h : -(2 ^ 64) < i ∧ i < 2 ^ 64) : CMulD i j := .inl (.inl h)
theorem lit_div {i j : Int} (h : 0 < j) (h2 : j.natAbs.log2 < 9000) : CDivW i j := ⟨h, h2⟩
theorem shp_map {α : Type} {k : Nat} {enc : α → D} (h : ∀ a, Shp k (enc a)) (l : List α) : ∀ d ∈ l.map enc, Shp k d := fun d hd => by
  obtain ⟨a, _, rfl⟩ := List.mem_map.mp hd
  exact h a
theorem nb_map {α : Type} {k : Nat} {enc : α → D} (h : ∀ a, Nb k (enc a)) (l : List α) : ∀ d ∈ l.map enc, Nb k d := fun d hd => by
  obtain ⟨a, _, rfl⟩ := List.mem_map.mp hd
  exact h a
theorem shp_int {k : Nat} (i : Int) : Shp k (.int i) := by cases k <;> trivial
theorem nb_int {k : Nat} (i : Int) : Nb k (.int i) := by cases k <;> trivial
theorem shp_pair {k : Nat} (p : Int × Int) : Shp (k + 1) (eP p) := fun d hd => by
  rcases List.mem_cons.mp hd with rfl | hd
  · exact shp_int _
  · rw [List.mem_singleton] at hd
    subst hd
    exact shp_int _
theorem nb_pair {k : Nat} (p : Int × Int) : Nb (k + 1) (eP p) := fun d hd => by
  rcases List.mem_cons.mp hd with rfl | hd
  · exact nb_int _
  · rw [List.mem_singleton] at hd
    subst hd
    exact nb_int _
/-- a web -/
def eW (n : Nat) (L : List (Int × Int)) : D := .tuple [.int (n : Nat), .tuple (L.map eP)]
theorem shp_eW {k : Nat} (n : Nat) (L : List (Int × Int)) : Shp (k + 3) (eW n L) := fun d hd => by
  rcases List.mem_cons.mp hd with rfl | hd
  · exact shp_int _
  · rw [List.mem_singleton] at hd
    subst hd
    exact shp_map (fun p => shp_pair p) L
theorem nb_eW {k : Nat} (n : Nat) (L : List (Int × Int)) : Nb (k + 3) (eW n L) := fun d hd => by
  rcases List.mem_cons.mp hd with rfl | hd
  · exact nb_int _
  · rw [List.mem_singleton] at hd
    subst hd
    exact nb_map (fun p => nb_pair p) L
theorem eW_iff {n m : Nat} {L M : List (Int × Int)} : eW n L = eW m M ↔ n = m ∧ L = M := by
  unfold eW
  simp only [PyData.tuple.injEq, List.cons.injEq, PyData.int.injEq, and_true]
  constructor
  · rintro ⟨h1, h2⟩
    exact ⟨by omega, mapEP_inj h2⟩
  · rintro ⟨rfl, rfl⟩
    exact ⟨rfl, rfl⟩
theorem eqR_of {x y : D} {neg : Bool} {P : D → Prop} {p : Prop} [Decidable p] (hx : Shp 8 x) (hy : Shp 8 y) (nx : Nb 8 x) (ny : Nb 8 y) (hp : x = y ↔ p) (h : P (.bool (decide p ^^ neg))) : eqR neg x y P := by
  refine ⟨hx, hy, ?_⟩
  have e : PyData.eqv x y = decide p := by
    have q := nb_eqv 8 8 x y nx ny
    by_cases c : p
    · rw [decide_eq_true c]
      exact q.mpr (hp.mpr c)
    · rw [decide_eq_false c]
      cases z : PyData.eqv x y with
      | false => rfl
      | true => exact absurd (hp.mp (q.mp z)) c
  rw [e]
  exact h
theorem shp_lst {α : Type} {k : Nat} {enc : α → D} (h : ∀ a, Shp k (enc a)) (l : List α) : Shp (k + 1) (.list (l.map enc)) := shp_map h l
theorem nb_lst {α : Type} {k : Nat} {enc : α → D} (h : ∀ a, Nb k (enc a)) (l : List α) : Nb (k + 1) (.list (l.map enc)) := nb_map h l
theorem lst_iff {L M : List (Int × Int)} : PyData.list (L.map eP) = .list (M.map eP) ↔ L = M := by
  rw [PyData.list.injEq]
  exact ⟨mapEP_inj, fun h => by rw [h]⟩
theorem cutD_map {α : Type} (f : α → D) (l : List α) (lo hi : Option Int) : ∃ l' : List α, cutD (l.map f) lo hi = l'.map f ∧ l'.Sublist l := by
  refine ⟨(l.drop (HT.sIx l.length 0 lo)).take (HT.sIx l.length l.length hi - HT.sIx l.length 0 lo), ?_, (List.take_sublist _ _).trans (List.drop_sublist _ _)⟩
  unfold cutD
  rw [List.length_map, List.map_take, List.map_drop]
theorem p40 : CPow 10 40 := ⟨by decide, by decide, by decide⟩
theorem p40_pos : (0 : Int) < 10 ^ Int.toNat 40 := by decide
/-! ### how many ties a place has -/
def hasP (v : Int) (p : Int × Int) : Bool := p.1 == v || p.2 == v
def deg (L : List (Int × Int)) (v : Int) : Nat := (L.filter (hasP v)).length
def tallyI (n : Nat) (L : List (Int × Int)) : List Int := (List.range n).map fun v => (deg L (v : Nat) : Int)
theorem tallyI_len (n : Nat) (L : List (Int × Int)) : (tallyI n L).length = n := by unfold tallyI; rw [List.length_map, List.length_range]
theorem tallyI_get {n : Nat} {L : List (Int × Int)} {v : Nat} (h : v < n) : (tallyI n L)[v]? = some (deg L (v : Nat) : Int) := by
  unfold tallyI
  rw [List.getElem?_map, List.getElem?_range h]
  rfl
theorem deg_le (L : List (Int × Int)) (v : Int) : deg L v ≤ L.length := List.length_filter_le _ _
theorem deg_snoc (L : List (Int × Int)) (x : Int × Int) (v : Int) : deg (L ++ [x]) v = deg L v + (if hasP v x then 1 else 0) := by
  unfold deg
  rw [List.filter_append, List.length_append]
  by_cases h : hasP v x <;> simp [h]
theorem ixN_nat {n j : Nat} (h : j < n) : ixN n (j : Int) = some j := by
  unfold ixN
  rw [if_pos (by omega), if_pos (by omega), Int.toNat_natCast]
theorem tally_step {n a b : Nat} {L : List (Int × Int)} (ha : a < n) (hb : b < n) (hab : a ≠ b) :
    ((tallyI n L).set a ((deg L (a : Nat) : Int) + 1)).set b ((deg L (b : Nat) : Int) + 1) = tallyI n (L ++ [((a : Int), (b : Int))]) := by
  refine List.ext_getElem? fun v => ?_
  by_cases hv : v < n
  · rw [tallyI_get hv, deg_snoc]
    by_cases h1 : v = b
    · subst h1
      rw [List.getElem?_set_self (by rw [List.length_set, tallyI_len]; exact hv), if_pos (by simp [hasP])]
      rfl
    · rw [List.getElem?_set_ne (Ne.symm h1)]
      by_cases h2 : v = a
      · subst h2
        rw [List.getElem?_set_self (by rw [tallyI_len]; exact hv), if_pos (by simp [hasP])]
        rfl
      · rw [List.getElem?_set_ne (Ne.symm h2), tallyI_get hv, if_neg (by simp [hasP]; omega)]
        rfl
  · rw [List.getElem?_eq_none (by rw [List.length_set, List.length_set, tallyI_len]; omega), List.getElem?_eq_none (by rw [tallyI_len]; omega)]
theorem in_eP (L : List (Int × Int)) (a b : Int) : ((L.map eP).any fun z => PyData.eqv z (.tuple [.int a, .int b])) = decide ((a, b) ∈ L) := by
  induction L with
  | nil => simp
  | cons p L ih =>
    rw [List.map_cons, List.any_cons, ih]
    by_cases h : (a, b) = p
    · subst h
      simp [eP, PyData.eqv, PyData.eqvAll]
    · have e : PyData.eqv (eP p) (.tuple [.int a, .int b]) = false := by
        simp [eP, PyData.eqv, PyData.eqvAll]
        intro h1 h2
        exact h (Prod.ext h1.symm h2.symm)
      rw [e, Bool.false_or]
      simp [h]
theorem shp_ii {k : Nat} (a b : Int) : Shp (k + 1) (.tuple [.int a, .int b]) := shp_pair (a, b)
theorem ints_inj {A B : List Int} (h : A.map PyData.int = B.map .int) : A = B := map_inj' (fun _ _ h => PyData.int.inj h) h
theorem ints_iff {A B : List Int} : PyData.list (A.map .int) = .list (B.map .int) ↔ A = B := by
  rw [PyData.list.injEq]
  exact ⟨ints_inj, fun h => by rw [h]⟩
/-- lists of ints compared -/
theorem eqR_ints {A B : List Int} {neg : Bool} {P : D → Prop} (h : P (.bool (decide (A = B) ^^ neg))) : eqR neg (.list (A.map .int)) (.list (B.map .int)) P :=
  eqR_of (p := A = B) (shp_lst (fun i => shp_int i) A) (shp_lst (fun i => shp_int i) B) (nb_lst (fun i => nb_int i) A) (nb_lst (fun i => nb_int i) B) ints_iff h
theorem eqR_pairs {A B : List (Int × Int)} {neg : Bool} {P : D → Prop} (h : P (.bool (decide (A = B) ^^ neg))) : eqR neg (.list (A.map eP)) (.list (B.map eP)) P :=
  eqR_of (p := A = B) (shp_lst (fun i => shp_pair i) A) (shp_lst (fun i => shp_pair i) B) (nb_lst (fun i => nb_pair i) A) (nb_lst (fun i => nb_pair i) B) lst_iff h
theorem eqR_webs {n m : Nat} {A B : List (Int × Int)} {neg : Bool} {P : D → Prop} (h : P (.bool (decide (n = m ∧ A = B) ^^ neg))) : eqR neg (eW n A) (eW m B) P :=
  eqR_of (p := n = m ∧ A = B) (shp_eW n A) (shp_eW m B) (nb_eW n A) (nb_eW m B) eW_iff h
theorem atI_ints {A : List Int} {k : Nat} {x : Int} (h : A[k]? = some x) : atI (A.map PyData.int) (k : Int) = some (.int x) := atI_nat (by rw [List.getElem?_map, h]; rfl)

/-! ### the web that has what a web lacks -/
def otherI (n : Nat) (L : List (Int × Int)) : List (Int × Int) := (pairsI n).filter fun p => decide (p ∉ L)
theorem other_ties (n : Nat) (L : List (Int × Int)) : Ties n (otherI n L) := (ties_pairs n).sub (List.filter_sublist)
theorem mem_other {n : Nat} {L : List (Int × Int)} {p : Int × Int} : p ∈ otherI n L ↔ (0 ≤ p.1 ∧ p.1 < p.2 ∧ p.2 < n) ∧ p ∉ L := by
  unfold otherI
  rw [List.mem_filter, mem_pairs, decide_eq_true_eq]
theorem ties_ext {n : Nat} {L M : List (Int × Int)} (hL : Ties n L) (hM : Ties n M) (h : ∀ p, p ∈ L ↔ p ∈ M) : L = M :=
  srt_eq hL.srt hM.srt ((List.perm_ext_iff_of_nodup hL.nodup hM.nodup).mpr h)
theorem other_other {n : Nat} {L : List (Int × Int)} (h : Ties n L) : otherI n (otherI n L) = L := by
  refine ties_ext (other_ties n _) h fun p => ?_
  rw [mem_other, mem_other]
  constructor
  · rintro ⟨h1, h2⟩
    exact Classical.byContradiction fun c => h2 ⟨h1, c⟩
  · intro hp
    exact ⟨h.rng p hp, fun c => c.2 hp⟩
theorem deg_perm {L M : List (Int × Int)} (h : L.Perm M) (v : Int) : deg L v = deg M v := (h.filter _).length_eq
theorem deg_append (L M : List (Int × Int)) (v : Int) : deg (L ++ M) v = deg L v + deg M v := by
  unfold deg
  rw [List.filter_append, List.length_append]
theorem tally_perm {n : Nat} {L M : List (Int × Int)} (h : L.Perm M) : tallyI n L = tallyI n M := by
  unfold tallyI
  refine List.map_congr_left fun v _ => ?_
  rw [deg_perm h]
theorem split_perm {α : Type} (q : α → Bool) : ∀ l : List α, (l.filter q ++ l.filter (fun x => !q x)).Perm l
  | [] => .nil
  | a :: l => by
    have ih := split_perm q l
    by_cases h : q a
    · rw [List.filter_cons_of_pos h, List.filter_cons_of_neg (by simp [h]), List.cons_append]
      exact ih.cons a
    · rw [List.filter_cons_of_neg h, List.filter_cons_of_pos (by simp [h])]
      exact List.perm_middle.trans (ih.cons a)
theorem other_split {n : Nat} {L : List (Int × Int)} (h : Ties n L) : (L ++ otherI n L).Perm (pairsI n) := by
  have e : (pairsI n).filter (fun p => decide (p ∈ L)) = L := by
    refine ties_ext ((ties_pairs n).sub List.filter_sublist) h fun p => ?_
    rw [List.mem_filter, decide_eq_true_eq, mem_pairs]
    exact ⟨fun q => q.2, fun q => ⟨h.rng p q, q⟩⟩
  have q := split_perm (fun p => decide (p ∈ L)) (pairsI n)
  rw [e] at q
  have e2 : (pairsI n).filter (fun p => !decide (p ∈ L)) = otherI n L := by
    unfold otherI
    refine List.filter_congr fun p _ => ?_
    by_cases c : p ∈ L <;> simp [c]
  rw [e2] at q
  exact q
theorem filter_range_eq {k j : Nat} (h : j < k) : ((List.range k).filter fun i => i == j).length = 1 := by
  induction k with
  | zero => omega
  | succ k ih =>
    rw [List.range_succ, List.filter_append, List.length_append]
    by_cases c : k = j
    · subst c
      have e : (List.range k).filter (fun i => i == k) = [] := List.filter_eq_nil_iff.mpr fun i hi => by
        have := List.mem_range.mp hi
        simp
        omega
      rw [e]
      simp
    · have := ih (by omega)
      rw [this]
      simp [c]
theorem deg_row {n m v : Nat} (hm : m < n) (hv : v < n) : deg (rowI n m) (v : Nat) = if m = v then n - 1 - v else if m < v then 1 else 0 := by
  unfold deg rowI
  rw [List.filter_map, List.length_map]
  by_cases h1 : m = v
  · subst h1
    rw [if_pos rfl, List.filter_eq_self.mpr (fun j _ => by simp [hasP]), List.length_range]
    omega
  · rw [if_neg h1]
    by_cases h2 : m < v
    · rw [if_pos h2]
      have e : (List.range (n - (m + 1))).filter ((hasP (v : Nat)) ∘ fun j : Nat => ((m : Int), (m : Int) + 1 + (j : Nat))) = (List.range (n - (m + 1))).filter (fun j => j == v - (m + 1)) := by
        refine List.filter_congr fun j _ => ?_
        simp only [Function.comp, hasP]
        rw [Bool.eq_iff_iff]
        simp only [Bool.or_eq_true, beq_iff_eq]
        omega
      rw [e]
      exact filter_range_eq (by omega)
    · rw [if_neg h2, List.filter_eq_nil_iff.mpr fun j hj => ?_]
      · rfl
      · have := List.mem_range.mp hj
        simp [hasP]
        omega
theorem deg_rows {n v : Nat} (hv : v < n) : ∀ m, m ≤ n → deg ((List.range m).flatMap (rowI n)) (v : Nat) = if v < m then n - 1 else m
  | 0, _ => by simp [deg]
  | m + 1, h => by
    rw [List.range_succ, List.flatMap_append, deg_append, deg_rows hv m (by omega), List.flatMap_cons, List.flatMap_nil, List.append_nil, deg_row (by omega) hv]
    split <;> split <;> split <;> (try split) <;> omega
theorem deg_pairs {n v : Nat} (hv : v < n) : deg (pairsI n) (v : Nat) = n - 1 := by
  have := deg_rows hv n (Nat.le_refl _)
  rw [if_pos hv] at this
  exact this
theorem deg_other {n v : Nat} {L : List (Int × Int)} (h : Ties n L) (hv : v < n) : deg L (v : Nat) + deg (otherI n L) (v : Nat) = n - 1 := by
  rw [← deg_append, deg_perm (other_split h), deg_pairs hv]
theorem tally_other {n : Nat} {L : List (Int × Int)} (h : Ties n L) : tallyI n (otherI n L) = (tallyI n L).map fun x => (n : Int) - 1 - x := by
  unfold tallyI
  rw [List.map_map]
  refine List.map_congr_left fun v hv => ?_
  have := deg_other h (List.mem_range.mp hv)
  have := List.mem_range.mp hv
  show (deg (otherI n L) (v : Nat) : Int) = (n : Int) - 1 - (deg L (v : Nat) : Int)
  omega
theorem ind_sum (a : Nat) : ∀ n : Nat, ((List.range n).map fun v => if a = v then (1 : Int) else 0).sum = if a < n then 1 else 0
  | 0 => by simp
  | n + 1 => by
    rw [List.range_succ, List.map_append, List.sum_append, ind_sum a n]
    simp only [List.map_cons, List.map_nil, List.sum_cons, List.sum_nil]
    split <;> split <;> split <;> omega
theorem sum_add (f g : Nat → Int) : ∀ l : List Nat, (l.map fun v => f v + g v).sum = (l.map f).sum + (l.map g).sum
  | [] => by simp
  | a :: l => by
    simp only [List.map_cons, List.sum_cons, sum_add f g l]
    omega
theorem tally_sum {n : Nat} : ∀ {L : List (Int × Int)}, (∀ p ∈ L, 0 ≤ p.1 ∧ p.1 < p.2 ∧ p.2 < n) → (tallyI n L).sum = 2 * L.length := fun {L} => by
  induction L with
  | nil =>
    intro _
    have e : tallyI n [] = (List.range n).map fun _ => (0 : Int) := rfl
    rw [e]
    have : ∀ l : List Nat, (l.map fun _ => (0 : Int)).sum = 0 := fun l => by induction l <;> simp_all
    rw [this]
    rfl
  | cons p L ih =>
    intro h
    have h0 := ih fun q hq => h q (by simp [hq])
    obtain ⟨a1, a2, a3⟩ := h p (by simp)
    obtain ⟨p1, p2⟩ := p
    simp only at a1 a2 a3
    obtain ⟨a, rfl⟩ : ∃ a : Nat, p1 = (a : Int) := ⟨_, (Int.toNat_of_nonneg a1).symm⟩
    obtain ⟨b, rfl⟩ : ∃ b : Nat, p2 = (b : Int) := ⟨_, (Int.toNat_of_nonneg (by omega)).symm⟩
    have e : tallyI n (((a : Int), (b : Int)) :: L) = (List.range n).map fun v => (deg L (v : Nat) : Int) + ((if a = v then 1 else 0) + (if b = v then 1 else 0)) := by
      unfold tallyI
      refine List.map_congr_left fun v _ => ?_
      have q := deg_append [((a : Int), (b : Int))] L (v : Nat)
      rw [List.singleton_append] at q
      rw [q]
      have q2 : deg [((a : Int), (b : Int))] (v : Nat) = (if a = v then 1 else 0) + (if b = v then 1 else 0) := by
        unfold deg
        by_cases c : a = v
        · have c2 : b ≠ v := by omega
          simp [hasP, c, c2]
        · by_cases c2 : b = v
          · simp [hasP, c2]
            omega
          · have : ¬ ((a : Int) = v) := by omega
            have : ¬ ((b : Int) = v) := by omega
            simp [hasP, c, c2]
            omega
      rw [q2]
      split <;> split <;> omega
    rw [e, sum_add, sum_add, ind_sum, ind_sum, if_pos (by omega), if_pos (by omega)]
    have : ((List.range n).map fun v => (deg L (v : Nat) : Int)).sum = (tallyI n L).sum := rfl
    rw [this, h0, List.length_cons]
    omega
/-! ### steps without unfolding what follows -/
section
variable {A B : DS} {d : DEnds} {Z : Zs} {ρ : List Sl} {t : DT} {v : D} {i j : Nat} {w k : Int}
theorem seq_setv (hv : ∀ P : D → Prop, P v → t ρ P Z) (h : B d Z (ρ.set i (.fz v))) : dSeq (dSet i t) B d Z ρ := hv _ h
theorem seq_setNv (hv : ∀ P : D → Prop, P v → t ρ P Z) (h : B d Z (ρ.set i (.ow v))) : dSeq (dSetN i t) B d Z ρ := hv _ h
theorem tst {Q : Bool → Prop} {Z : Zs} (hw : ρ[i]? = some (.fz (.int w))) (h : Q (w == k)) : dB (d2 (eqR false) (dV i) (dC (.int k))) ρ Q Z := by
  refine ⟨.int w, hw, ?_⟩
  show eqR false (.int w) (.int k) (fun x => ∃ c, x = .bool c ∧ Q c)
  rw [x_eqI]
  exact ⟨_, rfl, by rw [Bool.xor_false]; exact h⟩
theorem if_skip (hw : ρ[i]? = some (.fz (.int w))) (hne : w ≠ k) (h : B d Z ρ) : dSeq (dIf (dB (d2 (eqR false) (dV i) (dC (.int k)))) A dNext) B d Z ρ :=
  tst hw ⟨fun c => absurd (by simpa using c) hne, fun _ => h⟩
theorem if_skipA {u : DTt} (hw : ρ[i]? = some (.fz (.int w))) (hne : w ≠ k) (h : B d Z ρ) : dSeq (dIf (dAnd (dB (d2 (eqR false) (dV i) (dC (.int k)))) u) A dNext) B d Z ρ :=
  tst hw ⟨fun c => absurd (by simpa using c) hne, fun _ => ⟨fun c => (nomatch c), fun _ => h⟩⟩
theorem if_end (hw : ρ[i]? = some (.fz (.int w))) (heq : w = k) (h : ∀ d' : DEnds, d'.rt = d.rt → A d' Z ρ) : dSeq (dIf (dB (d2 (eqR false) (dV i) (dC (.int k)))) A dNext) B d Z ρ :=
  tst hw ⟨fun _ => h _ rfl, fun c => absurd heq (by simpa using c)⟩
theorem if_set (hw : ρ[i]? = some (.fz (.int w))) (heq : w = k) (hv : ∀ P : D → Prop, P v → t ρ P Z) (h : B d Z (ρ.set j (.fz v))) : dSeq (dIf (dB (d2 (eqR false) (dV i) (dC (.int k)))) (dSet j t) dNext) B d Z ρ :=
  tst hw ⟨fun _ => hv _ h, fun c => absurd heq (by simpa using c)⟩
theorem if_setA {u : DTt} {b : Bool} (hw : ρ[i]? = some (.fz (.int w))) (heq : w = k) (hb : ∀ P : Bool → Prop, P b → u ρ P Z) (hv : b = true → ∀ P : D → Prop, P v → t ρ P Z) (h : b = true → B d Z (ρ.set j (.fz v))) (h0 : b = false → B d Z ρ) : dSeq (dIf (dAnd (dB (d2 (eqR false) (dV i) (dC (.int k)))) u) (dSet j t) dNext) B d Z ρ :=
  tst hw ⟨fun _ => hb _ ⟨fun e => hv e _ (h e), fun e => h0 e⟩, fun c => absurd heq (by simpa using c)⟩
end
theorem nofit_bad {n : Int} {A B : List (Int × Int)} {x : Int × Int} (h : ¬ (0 ≤ (nrm x).1 ∧ (nrm x).1 < (nrm x).2 ∧ (nrm x).2 < n)) : ¬ Fits n (A ++ [x] ++ B) := fun f => h (f.1 x (by simp))
theorem nofit_dup {n : Int} {A B : List (Int × Int)} {x : Int × Int} (h : nrm x ∈ (A ++ B).map nrm) : ¬ Fits n (A ++ [x] ++ B) := fun f => by
  have p : (A ++ [x] ++ B).Perm (x :: (A ++ B)) := by
    rw [List.append_assoc, List.singleton_append]
    exact List.perm_middle
  have q := (p.map nrm).nodup_iff.mp f.2
  rw [List.map_cons, List.nodup_cons] at q
  exact q.1 h
theorem eqA_bools : ∀ A B : List Bool, PyData.eqvAll (A.map .bool) (B.map .bool) = decide (A = B)
  | [], [] => rfl
  | [], b :: B => by simp [PyData.eqvAll]
  | a :: A, [] => by simp [PyData.eqvAll]
  | a :: A, b :: B => by
    simp only [List.map_cons, PyData.eqvAll, PyData.eqv, eqA_bools A B]
    by_cases h : a = b <;> by_cases k : A = B <;> simp [h, k]
theorem eqR_bools {A B : List Bool} {neg : Bool} {P : D → Prop} (h : P (.bool (decide (A = B) ^^ neg))) : eqR neg (.list (A.map .bool)) (.list (B.map .bool)) P := by
  refine ⟨shp_lst (fun b => by cases b <;> simp [Shp]) A, shp_lst (fun b => by cases b <;> simp [Shp]) B, ?_⟩
  have e : PyData.eqv (.list (A.map .bool)) (.list (B.map .bool)) = decide (A = B) := by
    simp only [PyData.eqv]
    exact eqA_bools A B
  rw [e]
  exact h
theorem zip_at {α : Type} {l : List α} {pre post : List (α × Nat)} {x : α × Nat} (h : l.zipIdx = pre ++ x :: post) : x.2 = pre.length ∧ l[pre.length]? = some x.1 ∧ pre.length < l.length := by
  have e : (l.zipIdx)[pre.length]? = some x := by rw [h]; simp
  rw [List.getElem?_zipIdx] at e
  obtain ⟨a, h1, h2⟩ := Option.map_eq_some_iff.mp e
  subst h2
  refine ⟨by simp, h1, (List.getElem?_eq_some_iff.mp h1).1⟩

/-! ### rooms: plain Lean -/
def getI (ks : List Int) (p : Int) : Int := ks.getD p.toNat 0
def rngI (n : Nat) : List Int := (List.range n).map fun i => ((i : Nat) : Int)
def srtI (ks : List Int) : List Int := ks.mergeSort fun a b => decide (a ≤ b)
def descI (ks : List Int) : List Int := (srtI ks).reverse
theorem srtI_perm (ks : List Int) : (srtI ks).Perm ks := List.mergeSort_perm _ _
theorem srtI_len (ks : List Int) : (srtI ks).length = ks.length := (srtI_perm ks).length_eq
theorem descI_len (ks : List Int) : (descI ks).length = ks.length := by
  unfold descI
  rw [List.length_reverse, srtI_len]
theorem descI_perm (ks : List Int) : (descI ks).Perm ks := (List.reverse_perm _).trans (srtI_perm ks)
theorem srtI_srt (ks : List Int) : (srtI ks).Pairwise fun a b => a ≤ b := by
  have h := List.pairwise_mergeSort (le := fun a b : Int => decide (a ≤ b)) (fun a b c h k => by simp only [decide_eq_true_eq] at *; omega) (fun a b => by rw [Bool.or_eq_true]; simp only [decide_eq_true_eq]; omega) ks
  exact h.imp fun h => of_decide_eq_true h
theorem descI_srt (ks : List Int) : (descI ks).Pairwise fun a b => b ≤ a := List.pairwise_reverse.mpr (srtI_srt ks)
/-- two rows of the same numbers, both falling, are the same -/
theorem fall_eq : ∀ {L M : List Int}, L.Pairwise (fun a b => b ≤ a) → M.Pairwise (fun a b => b ≤ a) → L.Perm M → L = M
  | [], M, _, _, h => (List.nil_perm.mp h).symm
  | a :: L, M, hL, hM, h => by
    cases M with
    | nil => exact absurd h.length_eq (by simp)
    | cons b M =>
      rw [List.pairwise_cons] at hL hM
      have e : a = b := by
        have h1 : a ∈ b :: M := h.subset (by simp)
        have h2 : b ∈ a :: L := h.symm.subset (by simp)
        rcases List.mem_cons.mp h1 with h1 | h1
        · exact h1
        rcases List.mem_cons.mp h2 with h2 | h2
        · exact h2.symm
        have k1 := hM.1 a h1
        have k2 := hL.1 b h2
        omega
      subst e
      rw [fall_eq hL.2 hM.2 (List.Perm.cons_inv h)]
theorem order_perm (ks ns : List Int) : (orderI ks ns).Perm ns := List.mergeSort_perm _ _
theorem order_srt (ks ns : List Int) : (orderI ks ns).Pairwise fun p q => keyI ks p < keyI ks q ∨ (keyI ks p = keyI ks q ∧ p ≤ q) := by
  have h := List.pairwise_mergeSort (le := fun p q : Int => decide (keyI ks p < keyI ks q ∨ (keyI ks p = keyI ks q ∧ p ≤ q))) (fun a b c h k => by simp only [decide_eq_true_eq] at *; omega) (fun a b => by rw [Bool.or_eq_true]; simp only [decide_eq_true_eq]; omega) ns
  exact h.imp fun h => of_decide_eq_true h
theorem getI_rng (ks : List Int) : (rngI ks.length).map (getI ks) = ks := by
  unfold rngI
  rw [List.map_map]
  refine List.ext_getElem? fun i => ?_
  rw [List.getElem?_map]
  by_cases h : i < ks.length
  · rw [List.getElem?_range h]
    show some (ks.getD (Int.toNat (i : Nat)) 0) = _
    rw [Int.toNat_natCast, List.getD_eq_getElem?_getD, List.getElem?_eq_getElem h]
    rfl
  · rw [List.getElem?_eq_none (by rw [List.length_range]; omega), List.getElem?_eq_none (by omega)]
    rfl
theorem order_desc (ks : List Int) : (orderI ks (rngI ks.length)).map (getI ks) = descI ks := by
  refine fall_eq ?_ (descI_srt ks) ?_
  · rw [List.pairwise_map]
    refine (order_srt ks _).imp fun {p q} h => ?_
    unfold keyI at h
    show ks.getD q.toNat 0 ≤ ks.getD p.toNat 0
    omega
  · have h := (order_perm ks (rngI ks.length)).map (getI ks)
    rw [getI_rng] at h
    exact h.trans (descI_perm ks).symm
theorem mem_rngI {n : Nat} {p : Int} : p ∈ rngI n ↔ 0 ≤ p ∧ p < n := by
  unfold rngI
  rw [List.mem_map]
  constructor
  · rintro ⟨i, hi, rfl⟩
    have := List.mem_range.mp hi
    omega
  · rintro ⟨h1, h2⟩
    exact ⟨p.toNat, List.mem_range.mpr (by omega), by omega⟩
theorem mem_order {ks : List Int} {n : Nat} {p : Int} : p ∈ orderI ks (rngI n) ↔ 0 ≤ p ∧ p < n := by rw [(order_perm ks _).mem_iff, mem_rngI]
theorem order_len (ks ns : List Int) : (orderI ks ns).length = ns.length := (order_perm ks ns).length_eq
theorem rngI_len (n : Nat) : (rngI n).length = n := by unfold rngI; rw [List.length_map, List.length_range]
theorem at_getI {ks : List Int} {p : Int} (h0 : 0 ≤ p) (h1 : p < ks.length) : atI (ks.map PyData.int) p = some (.int (getI ks p)) := by
  obtain ⟨k, rfl⟩ : ∃ k : Nat, p = (k : Int) := ⟨_, (Int.toNat_of_nonneg h0).symm⟩
  refine atI_ints ?_
  unfold getI
  rw [Int.toNat_natCast, List.getD_eq_getElem?_getD, List.getElem?_eq_getElem (by omega)]
  rfl
theorem srt_ints (ks : List Int) : srtD (ks.map .int) = (srtI ks).map .int := by
  unfold srtD srtI
  refine (List.map_mergeSort (fun a _ b _ => ?_)).symm
  have h := congrFun (congrFun (PySem.W.dataLe_int (β := Int) (fun x => x)) a) b
  exact h.symm
theorem sort_ok_ints {ks : List Int} (h : ks.length ≤ 100000) : SortOk (ks.map .int) := by
  refine ⟨PySem.W.AllAlike.of fun p q => by simp [PySem.W.alike], ?_, by rw [List.length_map]; exact h, fun d hd => ?_⟩
  · first | exact PySem.W.Sortable.ints _ | exact PySem.W.Sortable.of fun _ => trivial | (intro d hd; obtain ⟨p, _, rfl⟩ := List.mem_map.mp hd; trivial) | (simp [PySem.W.Sortable]; done)
  · obtain ⟨p, _, rfl⟩ := List.mem_map.mp hd
    exact shp_int p
theorem sum_perm {L M : List Int} (h : L.Perm M) : L.sum = M.sum := by
  induction h with
  | nil => rfl
  | cons x _ ih => simp only [List.sum_cons, ih]
  | swap x y l => simp only [List.sum_cons]; omega
  | trans _ _ a b => rw [a, b]
def roomP (r : Int) (xs : List Int) : Int := r * (r - 1) - (xs.take r.toNat).sum + ((xs.drop r.toNat).map fun x => min x r).sum
def roomI (ks : List Int) (r : Int) : Int := roomP r (descI ks)
theorem roomP_snoc {r x : Int} {xs : List Int} : roomP r (xs ++ [x]) = if (xs.length : Int) < r then roomP r xs - x else roomP r xs + min x r := by
  unfold roomP
  by_cases h : (xs.length : Int) < r
  · rw [if_pos h, List.take_of_length_le (l := xs ++ [x]) (by rw [List.length_append, List.length_singleton]; omega), List.drop_of_length_le (l := xs ++ [x]) (by rw [List.length_append, List.length_singleton]; omega),
      List.take_of_length_le (l := xs) (by omega), List.drop_of_length_le (l := xs) (by omega), List.sum_append]
    simp only [List.sum_cons, List.sum_nil, List.map_nil]
    omega
  · rw [if_neg h, List.take_append_of_le_length (by omega), List.drop_append_of_le_length (by omega), List.map_append, List.sum_append]
    simp only [List.map_cons, List.map_nil, List.sum_cons, List.sum_nil]
    omega
def lawP (r m : Int) (xs : List Int) : Int := r * (r - 1) + ((xs.take m.toNat).map fun x => min x r).sum - (xs.drop m.toNat).sum
theorem lawP_snoc {r m x : Int} {xs : List Int} : lawP r m (xs ++ [x]) = if (xs.length : Int) < m then lawP r m xs + min x r else lawP r m xs - x := by
  unfold lawP
  by_cases h : (xs.length : Int) < m
  · rw [if_pos h, List.take_of_length_le (l := xs ++ [x]) (by rw [List.length_append, List.length_singleton]; omega), List.drop_of_length_le (l := xs ++ [x]) (by rw [List.length_append, List.length_singleton]; omega),
      List.take_of_length_le (l := xs) (by omega), List.drop_of_length_le (l := xs) (by omega), List.map_append, List.sum_append]
    simp only [List.map_cons, List.map_nil, List.sum_cons, List.sum_nil]
    omega
  · rw [if_neg h, List.take_append_of_le_length (by omega), List.drop_append_of_le_length (by omega), List.sum_append]
    simp only [List.sum_cons, List.sum_nil]
    omega
theorem lawP_room {ks : List Int} {r : Int} (h0 : 0 ≤ r) (h1 : r ≤ ks.length) : lawP r ((ks.length : Int) - r) (srtI ks) = roomI ks r := by
  unfold roomI roomP lawP descI
  have e : ((ks.length : Int) - r).toNat = (srtI ks).length - r.toNat := by rw [srtI_len]; omega
  rw [e, List.drop_reverse, List.take_reverse, List.map_reverse, sum_perm (List.reverse_perm _), sum_perm (List.reverse_perm _)]
  omega
theorem seq_ifg {A B C : DS} {d : DEnds} {Z : Zs} {ρ : List Sl} {t : DTt} {b : Bool} {Good : List Sl → Prop} (hv : ∀ P : Bool → Prop, P b → t ρ P Z) (hC : ∀ ρ', Good ρ' → C d Z ρ') (h1 : b = true → ∀ nx : List Sl → Prop, (∀ ρ', Good ρ' → nx ρ') → A { d with nx := nx } Z ρ)
    (h2 : b = false → ∀ nx : List Sl → Prop, (∀ ρ', Good ρ' → nx ρ') → B { d with nx := nx } Z ρ) : dSeq (dIf t A B) C d Z ρ := hv _ ⟨fun e => h1 e _ hC, fun e => h2 e _ hC⟩
theorem small_div {i j : Int} (h : 0 < j) (h2 : j ≤ 8000) : CDivW i j := ⟨h, Nat.lt_of_le_of_lt (Nat.log2_le_self _) (by omega)⟩
theorem rep0 (n : Nat) (x : Int) : (List.replicate n [PyData.int x]).flatten = (List.replicate n x).map .int := by
  rw [List.flatten_replicate_singleton, List.map_replicate]
theorem set_map {ks : List Int} {j : Nat} {x : Int} : (ks.map PyData.int).set j (.int x) = (ks.set j x).map .int := by rw [List.map_set]
/-! ### the told wall: plain Lean -/
def negI (ks : List Int) : Option Nat := (List.range ks.length).find? fun i => decide (getI ks (i : Nat) < 0)
def thinI (ks : List Int) : Option Nat := (List.range ks.length).find? fun i => decide (roomI ks (1 + (i : Nat)) < 0)
def wallD (ks : List Int) : D := match negI ks with
  | some p => .tuple [.str "below", .int (p : Nat)]
  | none => if ks.sum % 2 = 1 then .tuple [.str "odd"] else match thinI ks with
    | some i => .tuple [.str "wall", .int (1 + (i : Nat))]
    | none => .none
theorem find_at {α : Type} {p : α → Bool} {l pre post : List α} {x : α} (e : l = pre ++ x :: post) (h : ∀ y ∈ pre, p y = false) (hx : p x = true) : l.find? p = some x := by
  subst e
  rw [List.find?_append, List.find?_eq_none.mpr (fun y hy => by rw [h y hy]; simp), Option.none_or, List.find?_cons, hx]
theorem find_no {α : Type} {p : α → Bool} {l : List α} (h : ∀ y ∈ l, p y = false) : l.find? p = none := List.find?_eq_none.mpr fun y hy => by rw [h y hy]; simp
theorem enum_rng (ks : List Int) : enumD (ks.map PyData.int) = (List.range ks.length).map fun i : Nat => PyData.tuple [.int (i : Nat), .int (getI ks (i : Nat))] := by
  unfold enumD
  refine List.ext_getElem? fun i => ?_
  rw [List.getElem?_mapIdx, List.getElem?_map, List.getElem?_map]
  by_cases h : i < ks.length
  · rw [List.getElem?_range h, List.getElem?_eq_getElem h]
    show some (PyData.tuple [.int (i : Nat), .int ks[i]]) = some (PyData.tuple [.int (i : Nat), .int (ks.getD (Int.toNat (i : Nat)) 0)])
    rw [Int.toNat_natCast, List.getD_eq_getElem?_getD, List.getElem?_eq_getElem h]
    rfl
  · rw [List.getElem?_eq_none (l := ks) (by omega), List.getElem?_eq_none (l := List.range ks.length) (by rw [List.length_range]; omega)]
    rfl
theorem range_mem {n i : Nat} {pre post : List Nat} (h : List.range n = pre ++ i :: post) : i = pre.length ∧ i < n := by
  have e : (List.range n)[pre.length]? = some i := by rw [h]; simp
  obtain ⟨e3, e4⟩ := List.getElem?_eq_some_iff.mp e
  rw [List.getElem_range] at e4
  rw [List.length_range] at e3
  omega
theorem seq_setw {B : DS} {d : DEnds} {Z : Zs} {ρ : List Sl} {t : DT} {i : Nat} {V : D → Prop} (hv : ∀ P : D → Prop, (∀ x, V x → P x) → t ρ P Z) (h : ∀ x, V x → B d Z (ρ.set i (.fz x))) : dSeq (dSet i t) B d Z ρ := hv _ h
theorem shp_si {k : Nat} (s : Str) (h : PyData.strOk s = true) (i : Int) : Shp (k + 2) (.tuple [.str s, .int i]) := fun d hd => by
  rcases List.mem_cons.mp hd with rfl | hd
  · exact h
  · rw [List.mem_singleton] at hd
    subst hd
    exact shp_int _
theorem shp_s {k : Nat} (s : Str) (h : PyData.strOk s = true) : Shp (k + 2) (.tuple [.str s]) := fun d hd => by
  rw [List.mem_singleton] at hd
  subst hd
  exact h
theorem nb_si {k : Nat} (s : Str) (i : Int) : Nb (k + 2) (.tuple [.str s, .int i]) := fun d hd => by
  rcases List.mem_cons.mp hd with rfl | hd
  · trivial
  · rw [List.mem_singleton] at hd
    subst hd
    exact nb_int _
theorem nb_s {k : Nat} (s : Str) : Nb (k + 2) (.tuple [.str s]) := fun d hd => by
  rw [List.mem_singleton] at hd
  subst hd
  trivial

/-! ### thick rooms: plain Lean -/
theorem mid_div {i j : Int} (h : 0 < j) (h2 : j ≤ 1000000000) : CDivW i j := ⟨h, by
  have : j.natAbs.log2 < 30 := (Nat.log2_lt (by omega)).mpr (by omega)
  omega⟩
def thickR (ks : List Int) (m r : Int) : Int := m * r * (r - 1) + (((descI ks).drop r.toNat).map fun x => min x (m * r)).sum - ((descI ks).take r.toNat).sum
def eT (t : Int × Int × Int) : D := .tuple [.int t.1, .int t.2.1, .int t.2.2]
theorem seq_setNw {B : DS} {d : DEnds} {Z : Zs} {ρ : List Sl} {t : DT} {i : Nat} {V : D → Prop} (hv : ∀ P : D → Prop, (∀ x, V x → P x) → t ρ P Z) (h : ∀ x, V x → B d Z (ρ.set i (.ow x))) : dSeq (dSetN i t) B d Z ρ := hv _ h
/-! thick walls -/
def thinT (ks : List Int) (m : Int) : Option Nat := (List.range ks.length).find? fun i => decide (thickR ks m (1 + (i : Nat)) < 0)
def wallT (ks : List Int) (m : Int) : D := match negI ks with
  | some p => .tuple [.str "below", .int (p : Nat)]
  | none => if ks.sum % 2 = 1 then .tuple [.str "odd"] else match thinT ks m with
    | some i => .tuple [.str "wall", .int (1 + (i : Nat))]
    | none => .none
theorem wallT_neg {ks : List Int} {m : Int} {p : Nat} (h : negI ks = some p) : wallT ks m = .tuple [.str "below", .int (p : Nat)] := by unfold wallT; rw [h]
theorem wallT_odd {ks : List Int} {m : Int} (h : negI ks = none) (o : ks.sum % 2 = 1) : wallT ks m = .tuple [.str "odd"] := by unfold wallT; rw [h]; simp only [if_pos o]
theorem wallT_thin {ks : List Int} {m : Int} {i : Nat} (h : negI ks = none) (o : ¬ ks.sum % 2 = 1) (t : thinT ks m = some i) : wallT ks m = .tuple [.str "wall", .int (1 + (i : Nat))] := by unfold wallT; rw [h]; simp only [if_neg o, t]
theorem wallT_none {ks : List Int} {m : Int} (h : negI ks = none) (o : ¬ ks.sum % 2 = 1) (t : thinT ks m = none) : wallT ks m = .none := by unfold wallT; rw [h]; simp only [if_neg o, t]
/-- the search by halves -/
def halve (ok : Int → Bool) : Nat → Int → Int → Int
  | 0, _, hi => hi
  | k + 1, lo, hi => if hi - lo ≤ 1 then hi else if ok ((lo + hi) / 2) then halve ok k lo ((lo + hi) / 2) else halve ok k ((lo + hi) / 2) hi
theorem halve_ok {ok : Int → Bool} : ∀ (k : Nat) {lo hi : Int}, lo < hi → hi - lo ≤ k + 1 → ok hi = true → lo < halve ok k lo hi ∧ halve ok k lo hi ≤ hi ∧ ok (halve ok k lo hi) = true ∧ (ok lo = false → ok (halve ok k lo hi - 1) = false) ∧ (halve ok k lo hi - 1 = lo ∨ ok (halve ok k lo hi - 1) = false)
  | 0, lo, hi, h, h2, h3 => by
    unfold halve
    have e : hi - 1 = lo := by omega
    exact ⟨h, by omega, h3, fun z => by rw [e]; exact z, .inl e⟩
  | k + 1, lo, hi, h, h2, h3 => by
    unfold halve
    by_cases c : hi - lo ≤ 1
    · rw [if_pos c]
      have e : hi - 1 = lo := by omega
      exact ⟨h, by omega, h3, fun z => by rw [e]; exact z, .inl e⟩
    · rw [if_neg c]
      by_cases d : ok ((lo + hi) / 2) = true
      · rw [if_pos d]
        obtain ⟨a, b, c1, c2, c3⟩ := halve_ok k (lo := lo) (hi := (lo + hi) / 2) (by omega) (by omega) d
        exact ⟨a, by omega, c1, c2, c3⟩
      · rw [if_neg d]
        obtain ⟨a, b, c1, c2, c3⟩ := halve_ok k (lo := (lo + hi) / 2) (hi := hi) (by omega) (by omega) h3
        have z := c2 (by simpa using d)
        exact ⟨by omega, b, c1, fun _ => z, .inr z⟩
theorem halve_end {ok : Int → Bool} {lo hi : Int} (h : hi - lo ≤ 1) : ∀ k, halve ok k lo hi = hi
  | 0 => rfl
  | k + 1 => by unfold halve; rw [if_pos h]
theorem seq_asg {B : DS} {d : DEnds} {Z : Zs} {ρ : List Sl} {t : DT} {i j : Nat} {V : D → D → Prop} (hv : ∀ P : D → Prop, (∀ x y, V x y → P (.tuple [x, y])) → t ρ P Z) (h : ∀ x y, V x y → B d Z ((ρ.set i (.fz x)).set j (.fz y))) : dSeq (dAsg t (gTp 2 (gCns (gNm i) (gCns (gNm j) gNil)))) B d Z ρ := by
  refine hv _ fun x y hV => ?_
  have q := h x y hV
  walk_at "r"
  exact q

/-! more of tests -/
theorem orP {p : Prop} [Decidable p] {b : Bool} {P : Bool → Prop} (h : P (decide p || b)) : (p → P true) ∧ (¬ p → P b) := by
  by_cases c : p
  · rw [decide_eq_true c, Bool.true_or] at h
    exact ⟨fun _ => h, fun n => absurd c n⟩
  · rw [decide_eq_false c, Bool.false_or] at h
    exact ⟨fun n => absurd n c, fun _ => h⟩
theorem andP {p : Prop} [Decidable p] {b : Bool} {P : Bool → Prop} (h : P (decide p && b)) : (p → P b) ∧ (¬ p → P false) := by
  by_cases c : p
  · rw [decide_eq_true c, Bool.true_and] at h
    exact ⟨fun _ => h, fun n => absurd c n⟩
  · rw [decide_eq_false c, Bool.false_and] at h
    exact ⟨fun n => absurd n c, fun _ => h⟩
theorem eqS_yes {a : Str} {P : D → Prop} (ha : PyData.strOk a = true) (h : P (.bool true)) : eqR false (.str a) (.str a) P :=
  eqR_of (p := True) ha ha trivial trivial (by simp) (by simpa using h)
theorem eqS_no {a b : Str} {P : D → Prop} (ha : PyData.strOk a = true) (hb : PyData.strOk b = true) (ne : decide (a = b) = false) (h : P (.bool false)) : eqR false (.str a) (.str b) P :=
  eqR_of (p := a = b) ha hb trivial trivial (by simp) (by rw [ne]; exact h)
theorem neS_same {a : Str} {P : D → Prop} (ha : PyData.strOk a = true) (h : P (.bool false)) : eqR true (.str a) (.str a) P :=
  eqR_of (p := True) ha ha trivial trivial (by simp) (by simpa using h)

/-- a number and pairs, told -/
def eWZ (n : Int) (L : List (Int × Int)) : D := .tuple [.int n, .tuple (L.map eP)]
instance ltP_dec (p q : Int × Int) : Decidable (ltP p q) := inferInstanceAs (Decidable (_ ∨ _))
def Told (n : Int) (L : List (Int × Int)) : Prop := (1 ≤ n ∧ n ≤ 24) ∧ (∀ p ∈ L, 0 ≤ p.1 ∧ p.1 < p.2 ∧ p.2 < n) ∧ L.Pairwise ltP
instance told_dec (n : Int) (L : List (Int × Int)) : Decidable (Told n L) := inferInstanceAs (Decidable (_ ∧ _ ∧ _))
theorem told_ties {n : Int} {L : List (Int × Int)} (h : Told n L) : Ties n.toNat L := ⟨h.2.2, fun p hp => by
  have := h.2.1 p hp
  have := h.1
  omega⟩
theorem ties_told {n : Nat} {L : List (Int × Int)} (h : Ties n L) (a : 1 ≤ n) (b : n ≤ 24) : Told (n : Nat) L := ⟨by omega, h.rng, h.srt⟩
inductive Fence where
  | odd | below (i : Int) | wall (i : Int)
def eF : Fence → D
  | .odd => .tuple [.str "odd"]
  | .below i => .tuple [.str "below", .int i]
  | .wall i => .tuple [.str "wall", .int i]
def showsI (ks : List Int) : Fence → Bool
  | .odd => decide (ks.sum % 2 = 1)
  | .below i => decide (0 ≤ i ∧ i < ks.length ∧ getI ks i < 0)
  | .wall i => decide (1 ≤ i ∧ i ≤ ks.length ∧ roomI ks i < 0)
theorem ok_odd : PyData.strOk "odd" = true := by decide +kernel
theorem ok_below : PyData.strOk "below" = true := by decide +kernel
theorem ok_wall : PyData.strOk "wall" = true := by decide +kernel
inductive Ans where
  | wall (f : Fence) | web (n : Int) (L : List (Int × Int))
def eA : Ans → D
  | .wall f => .tuple [.str "wall", eF f]
  | .web n L => .tuple [.str "web", eWZ n L]
def showsA (ks : List Int) : Ans → Bool
  | .wall f => showsI ks f
  | .web n L => decide (Told n L ∧ n = ks.length ∧ tallyI n.toNat L = ks)
theorem ok_web : PyData.strOk "web" = true := by decide +kernel

/-- a list or a tuple of ints -/
def IsI (x : D) (ks : List Int) : Prop := x = .list (ks.map .int) ∨ x = .tuple (ks.map .int)
theorem len_isI {x : D} {ks : List Int} (h : IsI x ks) {P : D → Prop} (p : P (.int ks.length)) : lenR [x] P := by
  rcases h with rfl | rfl
  · rw [x_lenL, List.length_map]
    exact p
  · rw [x_lenT, List.length_map]
    exact p
theorem ix_isI {x : D} {ks : List Int} (h : IsI x ks) {p : Int} (h0 : 0 ≤ p) (h1 : p < ks.length) {P : D → Prop} (q : P (.int (getI ks p))) : ixR x (.int p) P := by
  rcases h with rfl | rfl
  · rw [x_ixL]
    exact ⟨_, at_getI h0 h1, q⟩
  · rw [x_ixT]
    exact ⟨_, at_getI h0 h1, q⟩
theorem sum_isI {x : D} {ks : List Int} (h : IsI x ks) {P : D → Prop} (p : P (.int ks.sum)) : seqIR (fun _ => True) List.sum [x] P := by
  rcases h with rfl | rfl
  · rw [x_seqL]
    exact ⟨trivial, p⟩
  · rw [x_seqT]
    exact ⟨trivial, p⟩
theorem list_isI {x : D} {ks : List Int} (h : IsI x ks) {P : D → Prop} (p : P (.list (ks.map .int))) : listR [x] P := by
  rcases h with rfl | rfl
  · exact x_listL.mpr p
  · exact x_listT.mpr p
theorem sum_desc (ks : List Int) : (descI ks).sum = ks.sum := sum_perm (descI_perm ks)
theorem neB {A : List Bool} {P : D → Prop} (h : P (.bool false)) : eqR true (.list (A.map .bool)) (.list (A.map .bool)) P := eqR_bools (by rw [decide_eq_true rfl]; exact h)
theorem eqB {A : List Bool} {P : D → Prop} (h : P (.bool true)) : eqR false (.list (A.map .bool)) (.list (A.map .bool)) P := eqR_bools (by rw [decide_eq_true rfl]; exact h)
theorem neI {A : List Int} {P : D → Prop} (h : P (.bool false)) : eqR true (.list (A.map .int)) (.list (A.map .int)) P := eqR_ints (by rw [decide_eq_true rfl]; exact h)
theorem eqI {A : List Int} {P : D → Prop} (h : P (.bool true)) : eqR false (.list (A.map .int)) (.list (A.map .int)) P := eqR_ints (by rw [decide_eq_true rfl]; exact h)
theorem seq_frz {B : DS} {d : DEnds} {Z : Zs} {i : Nat} {ρ ρ' : List Sl} (e : frz i ρ = ρ') (h : B d Z ρ') : dFrz i B d Z ρ := by
  unfold dFrz
  rw [e]
  exact h
theorem seq_any {A B : DS} {d : DEnds} {Z : Zs} {ρ : List Sl} {Good : List Sl → Prop} (hA : ∀ nx : List Sl → Prop, (∀ ρ', Good ρ' → nx ρ') → A { d with nx := nx } Z ρ) (hB : ∀ ρ', Good ρ' → B d Z ρ') : dSeq A B d Z ρ := hA _ hB
theorem seq_ifr {A C : DS} {d : DEnds} {Z : Zs} {ρ : List Sl} {t : DTt} {b : Bool} (hv : ∀ P : Bool → Prop, P b → t ρ P Z) (hA : b = true → ∀ nx : List Sl → Prop, A { d with nx := nx } Z ρ) (hC : b = false → C d Z ρ) : dSeq (dIf t A dNext) C d Z ρ := hv _ ⟨fun e => hA e _, fun e => hC e⟩
/-! the dict of the pairs met -/
def seenD (L : List (Int × Int)) : List (List Key × D) := L.map fun p => ([.inl p.1, .inl p.2], .bool true)
theorem seen_val (L : List (Int × Int)) (a b : Int) : (valD (seenD L) [.inl a, .inl b]).isSome = decide ((a, b) ∈ L) := by
  induction L with
  | nil => simp [seenD, valD]
  | cons p L ih =>
    by_cases h : (a, b) = p
    · subst h
      simp [seenD, valD, List.find?_cons]
    · have h2 : ¬ (([.inl p.1, .inl p.2] : List Key) = [.inl a, .inl b]) := fun e => by
        simp at e
        exact h (Prod.ext e.1.symm e.2.symm)
      have e : valD (seenD (p :: L)) [.inl a, .inl b] = valD (seenD L) [.inl a, .inl b] := by
        unfold valD seenD
        rw [List.map_cons, List.find?_cons]
        simp only [h2, decide_false]
      rw [e, ih]
      simp [h]
theorem seen_put (L : List (Int × Int)) (a b : Int) (h : (a, b) ∉ L) : putD (seenD L) [.inl a, .inl b] (.bool true) = seenD (L ++ [(a, b)]) := by
  unfold putD
  have hn : ((seenD L).any fun p => decide (p.1 = [.inl a, .inl b])) = false := by
    rw [List.any_eq_false]
    intro p hp
    obtain ⟨q, hq, rfl⟩ := List.mem_map.mp hp
    simp
    rintro e1 e2
    exact h (by rw [← e1, ← e2]; exact hq)
  rw [if_neg (by rw [hn]; simp)]
  unfold seenD
  rw [List.map_append]
  rfl

/-! ### digits: plain Lean -/
def digs (size : Int) : Int → Nat → List Int
  | _, 0 => []
  | k, n + 1 => k % size :: digs size (k / size) n
theorem digs_len {size : Int} : ∀ {n : Nat} {k : Int}, (digs size k n).length = n
  | 0, _ => rfl
  | n + 1, k => by
    show (digs size (k / size) n).length + 1 = n + 1
    rw [digs_len]
/-- each row of marks is that of some number -/
theorem digs_all : ∀ (r : List Int), (∀ x ∈ r, x = 0 ∨ x = 1) → ∃ k : Nat, k < 2 ^ r.length ∧ digs 2 (k : Int) r.length = r
  | [], _ => ⟨0, by simp, rfl⟩
  | b :: r, h => by
    obtain ⟨k, hk, e⟩ := digs_all r fun x hx => h x (List.mem_cons_of_mem _ hx)
    have hb := h b (by simp)
    rw [List.length_cons]
    refine ⟨b.toNat + 2 * k, by rw [Nat.pow_succ]; omega, ?_⟩
    show ((b.toNat + 2 * k : Nat) : Int) % 2 :: digs 2 (((b.toNat + 2 * k : Nat) : Int) / 2) r.length = b :: r
    rw [show ((b.toNat + 2 * k : Nat) : Int) / 2 = (k : Int) by omega, e, show ((b.toNat + 2 * k : Nat) : Int) % 2 = b by omega]

theorem flat_two {n : Nat} : ∀ m, m ≤ n → 2 * ((List.range m).flatMap (rowI n)).length + m * m + m = 2 * m * n
  | 0, _ => by simp
  | m + 1, h => by
    have ih := flat_two (n := n) m (by omega)
    rw [List.range_succ, List.flatMap_append, List.length_append, List.flatMap_cons, List.flatMap_nil, List.append_nil]
    have : (rowI n m).length = n - (m + 1) := by
      unfold rowI
      rw [List.length_map, List.length_range]
    have e1 : (m + 1) * (m + 1) = m * m + m + m + 1 := by rw [Nat.succ_mul, Nat.mul_succ]; omega
    have e2 : 2 * (m + 1) * n = 2 * m * n + 2 * n := by rw [Nat.mul_succ, Nat.add_mul]
    rw [this, Nat.mul_add, e1, e2]
    omega
theorem pairs_two (n : Nat) : (n : Int) * ((n : Int) - 1) / 2 = ((pairsI n).length : Nat) := by
  have h := flat_two (n := n) n (Nat.le_refl _)
  have e : (pairsI n).length = ((List.range n).flatMap (rowI n)).length := rfl
  rw [e]
  generalize ((List.range n).flatMap (rowI n)).length = l at h
  have h1 : 2 * n * n = n * n + n * n := by rw [Nat.mul_assoc]; omega
  rw [h1] at h
  have h2 : (n : Int) * ((n : Int) - 1) = (n * n : Nat) - (n : Int) := by rw [Int.mul_sub, Int.mul_one]; simp
  rw [h2]
  generalize n * n = k at *
  omega
/-- those of a row that are marked -/
def selI (L : List (Int × Int)) (row : List Int) : List (Int × Int) := (L.zipIdx.filter fun p => decide (getI row (p.2 : Nat) = 1)).map (·.1)
theorem selI_snoc (A : List (Int × Int)) (x : Int × Int) (row : List Int) : selI (A ++ [x]) row = if getI row (A.length : Nat) = 1 then selI A row ++ [x] else selI A row := by
  unfold selI
  rw [List.zipIdx_append, List.filter_append, List.map_append]
  by_cases c : getI row (A.length : Nat) = 1
  · simp [c]
  · simp [c]
theorem zip_fst (L : List (Int × Int)) : L.zipIdx.map (·.1) = L := List.zipIdx_map_fst ..
theorem selI_sub (L : List (Int × Int)) (row : List Int) : (selI L row).Sublist L := by
  have := (List.filter_sublist (p := fun p : (Int × Int) × Nat => decide (getI row (p.2 : Nat) = 1)) (l := L.zipIdx)).map (·.1)
  rw [zip_fst] at this
  exact this
theorem selI_len (L : List (Int × Int)) (row : List Int) : (selI L row).length ≤ L.length := (selI_sub L row).length_le
theorem selI_map (L : List (Int × Int)) (g : Int × Int → Int) : selI L (L.map g) = L.filter fun p => decide (g p = 1) := by
  unfold selI
  have e : (L.zipIdx.filter fun p => decide (getI (L.map g) (p.2 : Nat) = 1)) = L.zipIdx.filter ((fun p => decide (g p = 1)) ∘ (·.1)) := List.filter_congr fun p hp => by
    obtain ⟨i, hi⟩ := List.mem_iff_getElem?.mp hp
    rw [List.getElem?_zipIdx] at hi
    obtain ⟨x, hx, rfl⟩ := Option.map_eq_some_iff.mp hi
    have : getI (L.map g) ((0 + i : Nat) : Int) = g x := by
      unfold getI
      rw [Int.toNat_natCast, Nat.zero_add, List.getD_eq_getElem?_getD, List.getElem?_map, hx]
      rfl
    simp only [Function.comp, this]
  rw [e, ← List.filter_map, zip_fst]
/-- the ties that a number's digits say -/
def webK (n : Nat) (k : Nat) : List (Int × Int) := selI (pairsI n) (digs 2 (k : Int) (pairsI n).length)
theorem webK_ties (n k : Nat) : Ties n (webK n k) := (ties_pairs n).sub (selI_sub _ _)
theorem webK_all {n : Nat} {L : List (Int × Int)} (h : Ties n L) : ∃ k : Nat, k < 2 ^ (pairsI n).length ∧ webK n k = L := by
  obtain ⟨k, hk, e⟩ := digs_all ((pairsI n).map fun p => if p ∈ L then (1 : Int) else 0) fun x hx => by
    obtain ⟨p, _, rfl⟩ := List.mem_map.mp hx
    by_cases c : p ∈ L
    · exact .inr (if_pos c)
    · exact .inl (if_neg c)
  rw [List.length_map] at hk e
  refine ⟨k, hk, ?_⟩
  unfold webK
  rw [e, selI_map]
  refine ties_ext ((ties_pairs n).sub List.filter_sublist) h fun p => ?_
  rw [List.mem_filter, decide_eq_true_eq]
  by_cases c : p ∈ L
  · simp only [c, if_true, and_true, iff_true]
    exact mem_pairs.mpr (h.rng p c)
  · simp [c]
theorem rep_tally (n : Nat) : (List.replicate (n : Int).toNat [PyData.int 0]).flatten = (tallyI n []).map .int := by
  rw [Int.toNat_natCast, rep0]
  refine congrArg (List.map PyData.int) ?_
  refine List.ext_getElem? fun v => ?_
  rw [List.getElem?_replicate]
  by_cases hv : v < n
  · rw [if_pos hv, tallyI_get hv]
    rfl
  · rw [if_neg hv, List.getElem?_eq_none (by rw [tallyI_len]; omega)]

/-! what is left where a place is taken out: plain Lean -/
def othersI (ks : List Int) (p : Int) : List Int := (orderI ks (rngI ks.length)).filter fun q => decide (q ≠ p)
def takenI (ks : List Int) (p : Int) : List Int := (othersI ks p).take (getI ks p).toNat
def lessI (ks : List Int) (T : List Int) (q : Int) : Int := getI ks q - (if q ∈ T then 1 else 0)
def leftI (ks : List Int) (p : Int) : List Int := ((rngI ks.length).filter fun q => decide (q ≠ p)).map (lessI ks (takenI ks p))
theorem in_ints {L : List Int} {q : Int} : ((L.map PyData.int).any fun z => PyData.eqv z (.int q)) = decide (q ∈ L) := by
  induction L with
  | nil => simp
  | cons a L ih =>
    rw [List.map_cons, List.any_cons, ih]
    by_cases h : q = a
    · subst h
      simp [PyData.eqv]
    · have : ¬ a = q := fun e => h e.symm
      simp [PyData.eqv, h, this]
theorem shp_ints {k : Nat} (L : List Int) : ∀ z ∈ L.map PyData.int, Shp k z := shp_map (fun i => shp_int i) L
theorem ints_take {L : List Int} {k : Int} (h : 0 ≤ k) : cutD (L.map PyData.int) none (some k) = (L.take k.toNat).map .int := by
  obtain ⟨j, rfl⟩ : ∃ j : Nat, k = (j : Int) := ⟨_, (Int.toNat_of_nonneg h).symm⟩
  rw [cutD_to, Int.toNat_natCast, List.map_take]
/-! the greatest ones, one by one: plain Lean -/
/-- a stands ahead of b -/
def ahead (ks : List Int) (a b : Int) : Prop := keyI ks a < keyI ks b ∨ (keyI ks a = keyI ks b ∧ a ≤ b)
theorem ahead_anti {ks : List Int} {a b : Int} (h : ahead ks a b) (k : ahead ks b a) : a = b := by
  unfold ahead at h k
  omega
theorem ahead_trans {ks : List Int} {a b c : Int} (h : ahead ks a b) (k : ahead ks b c) : ahead ks a c := by
  unfold ahead at *
  omega
theorem others_srt (ks : List Int) (p : Int) : (othersI ks p).Pairwise (ahead ks) := (order_srt ks _).sublist List.filter_sublist
theorem rngI_nodup (n : Nat) : (rngI n).Nodup := by
  unfold rngI
  refine List.pairwise_map.mpr (List.pairwise_lt_range.imp fun {a b} h => ?_)
  omega
theorem others_nodup (ks : List Int) (p : Int) : (othersI ks p).Nodup := ((order_perm ks _).nodup_iff.mpr (rngI_nodup _)).sublist List.filter_sublist
theorem mem_others {ks : List Int} {p q : Int} : q ∈ othersI ks p ↔ (0 ≤ q ∧ q < ks.length) ∧ q ≠ p := by
  unfold othersI
  rw [List.mem_filter, mem_order, decide_eq_true_eq]
theorem filter_drop_one {n : Nat} {p : Nat} (h : p < n) : ((List.range n).filter fun q => decide (q ≠ p)) = (List.range n).take p ++ (List.range n).drop (p + 1) := by
  have e : List.range n = (List.range n).take p ++ p :: (List.range n).drop (p + 1) := by
    have h1 := List.take_append_drop p (List.range n)
    rw [List.drop_eq_getElem_cons (by rw [List.length_range]; exact h), List.getElem_range] at h1
    exact h1.symm
  have hn : (List.range n).Nodup := List.nodup_range
  conv => lhs; rw [e]
  rw [List.filter_append, List.filter_cons_of_neg (by simp)]
  rw [e] at hn
  obtain ⟨_, h2, h3⟩ := List.nodup_append.mp hn
  refine congr (congrArg _ (List.filter_eq_self.mpr fun q hq => ?_)) (List.filter_eq_self.mpr fun q hq => ?_)
  · have := h3 q hq p (by simp)
    simpa using this
  · have := (List.nodup_cons.mp h2).1
    simp only [ne_eq, decide_not, Bool.not_eq_true', decide_eq_false_iff_not]
    rintro rfl
    exact this hq
theorem others_len {ks : List Int} {p : Int} (h : 0 ≤ p ∧ p < ks.length) : (othersI ks p).length = ks.length - 1 := by
  obtain ⟨j, rfl⟩ : ∃ j : Nat, p = (j : Int) := ⟨_, (Int.toNat_of_nonneg h.1).symm⟩
  have pm : (othersI ks (j : Int)).Perm ((rngI ks.length).filter fun q => decide (q ≠ (j : Int))) := (order_perm ks _).filter _
  rw [pm.length_eq]
  unfold rngI
  rw [List.filter_map, List.length_map]
  have e : (List.range ks.length).filter ((fun q => decide (q ≠ (j : Int))) ∘ fun i : Nat => (i : Int)) = (List.range ks.length).filter fun q => decide (q ≠ j) := List.filter_congr fun q _ => by
    simp only [Function.comp]
    by_cases c : q = j
    · simp [c]
    · have : ¬ (q : Int) = (j : Int) := by omega
      simp [c, this]
  rw [e, filter_drop_one (by omega), List.length_append, List.length_take, List.length_drop, List.length_range]
  omega
/-- what is left of the numbers, all places told -/
def lessA (ks T : List Int) : List Int := (rngI ks.length).map (lessI ks T)
theorem lessA_len (ks T : List Int) : (lessA ks T).length = ks.length := by unfold lessA; rw [List.length_map, rngI_len]
theorem lessA_get {ks T : List Int} {j : Nat} (h : j < ks.length) : (lessA ks T)[j]? = some (lessI ks T (j : Nat)) := by
  unfold lessA rngI
  rw [List.map_map, List.getElem?_map, List.getElem?_range h]
  rfl
theorem lessA_nil (ks : List Int) : lessA ks [] = ks := by
  unfold lessA
  have e : lessI ks [] = getI ks := by
    funext q
    unfold lessI
    simp
  rw [e]
  exact getI_rng ks
theorem lessA_snoc {ks T : List Int} {j : Nat} (h : j < ks.length) (hn : (j : Int) ∉ T) : (lessA ks T).set j (lessI ks T (j : Nat) - 1) = lessA ks (T ++ [(j : Int)]) := by
  refine List.ext_getElem? fun i => ?_
  by_cases hi : i < ks.length
  · rw [lessA_get hi]
    by_cases e : j = i
    · subst e
      rw [List.getElem?_set_self (by rw [lessA_len]; exact h)]
      unfold lessI
      simp [hn]
    · rw [List.getElem?_set_ne e, lessA_get hi]
      unfold lessI
      have : ¬ (i : Int) = (j : Int) := by omega
      simp [this]
  · rw [List.getElem?_eq_none (by rw [List.length_set, lessA_len]; omega), List.getElem?_eq_none (by rw [lessA_len]; omega)]
theorem left_eq {ks : List Int} {j : Nat} (h : j < ks.length) : (lessA ks (takenI ks (j : Nat))).take j ++ (lessA ks (takenI ks (j : Nat))).drop (j + 1) = leftI ks (j : Nat) := by
  unfold lessA leftI rngI
  rw [← List.map_take, ← List.map_drop, ← List.map_take, ← List.map_drop, ← List.map_append, ← List.map_append, ← filter_drop_one h, List.filter_map]
  refine congrArg (fun l => List.map (lessI ks (takenI ks (j : Int))) (List.map (fun i : Nat => (i : Int)) l)) (List.filter_congr fun q _ => ?_)
  simp only [Function.comp]
  by_cases c : q = j
  · simp [c]
  · have : ¬ (q : Int) = (j : Int) := by omega
    simp [c, this]
/-- the best of those that are not done -/
theorem best_is {ks : List Int} {p b : Int} {k : Nat} (hp : 0 ≤ p ∧ p < ks.length) (hk : k < (othersI ks p).length) (hb : (0 ≤ b ∧ b < ks.length) ∧ b ∉ p :: (othersI ks p).take k) (hm : ∀ o : Int, (0 ≤ o ∧ o < ks.length) → o ∉ p :: (othersI ks p).take k → ahead ks b o) : b = (othersI ks p)[k] := by
  have e := List.take_append_drop k (othersI ks p)
  have hd : (othersI ks p).drop k = (othersI ks p)[k] :: (othersI ks p).drop (k + 1) := List.drop_eq_getElem_cons hk
  have hn := others_nodup ks p
  rw [← e] at hn
  obtain ⟨_, _, dis⟩ := List.nodup_append.mp hn
  have hmem : (othersI ks p)[k] ∈ othersI ks p := List.getElem_mem hk
  have h1 := mem_others.mp hmem
  have hnd : (othersI ks p)[k] ∉ p :: (othersI ks p).take k := by
    rw [List.mem_cons, not_or]
    refine ⟨h1.2, fun c => dis _ c _ (by rw [hd]; exact List.mem_cons_self) rfl⟩
  have a1 := hm _ h1.1 hnd
  have hb1 : b ∈ othersI ks p := mem_others.mpr ⟨hb.1, fun c => hb.2 (by simp [c])⟩
  have hb2 : b ∈ (othersI ks p).drop k := by
    rw [← e] at hb1
    rcases List.mem_append.mp hb1 with c | c
    · exact absurd (by simp [c]) hb.2
    · exact c
  have srt := (others_srt ks p).sublist (List.drop_sublist k _)
  rw [hd] at hb2 srt
  rcases List.mem_cons.mp hb2 with c | c
  · exact c
  · exact ahead_anti a1 ((List.pairwise_cons.mp srt).1 b c)

/-! ### sums over the first n: plain Lean -/
def Sm : Nat → (Nat → Int) → Int
  | 0, _ => 0
  | n + 1, f => Sm n f + f n
theorem sm_congr {f g : Nat → Int} : ∀ {n : Nat}, (∀ i, i < n → f i = g i) → Sm n f = Sm n g
  | 0, _ => rfl
  | n + 1, h => by
    simp only [Sm]
    rw [sm_congr fun i hi => h i (by omega), h n (by omega)]
theorem sm_add (f g : Nat → Int) : ∀ n : Nat, Sm n (fun i => f i + g i) = Sm n f + Sm n g
  | 0 => rfl
  | n + 1 => by
    simp only [Sm]
    rw [sm_add f g n]
    omega
theorem sm_sub (f g : Nat → Int) : ∀ n : Nat, Sm n (fun i => f i - g i) = Sm n f - Sm n g
  | 0 => rfl
  | n + 1 => by
    simp only [Sm]
    rw [sm_sub f g n]
    omega
theorem sm_mul (c : Int) (f : Nat → Int) : ∀ n : Nat, Sm n (fun i => c * f i) = c * Sm n f
  | 0 => by simp [Sm]
  | n + 1 => by
    simp only [Sm]
    rw [sm_mul c f n, Int.mul_add]
theorem sm_zero : ∀ n : Nat, Sm n (fun _ => 0) = 0
  | 0 => rfl
  | n + 1 => by simp only [Sm]; rw [sm_zero n]; rfl
theorem sm_le {f g : Nat → Int} : ∀ {n : Nat}, (∀ i, i < n → f i ≤ g i) → Sm n f ≤ Sm n g
  | 0, _ => Int.le_refl _
  | n + 1, h => by
    simp only [Sm]
    have h1 : Sm n f ≤ Sm n g := sm_le fun i hi => h i (by omega)
    have h2 := h n (by omega)
    omega
theorem sm_nonneg {f : Nat → Int} {n : Nat} (h : ∀ i, i < n → 0 ≤ f i) : 0 ≤ Sm n f := by
  have := sm_le (f := fun _ => 0) h
  rwa [sm_zero] at this
theorem sm_lt {f g : Nat → Int} : ∀ {n : Nat}, Sm n f < Sm n g → ∃ i, i < n ∧ f i < g i
  | 0, h => by simp [Sm] at h
  | n + 1, h => by
    simp only [Sm] at h
    by_cases c : f n < g n
    · exact ⟨n, by omega, c⟩
    · obtain ⟨i, h1, h2⟩ := sm_lt (f := f) (g := g) (n := n) (by omega)
      exact ⟨i, by omega, h2⟩
theorem sm_one (a : Nat) (c : Int) : ∀ n : Nat, Sm n (fun i => if i = a then c else 0) = if a < n then c else 0
  | 0 => by simp [Sm]
  | n + 1 => by
    simp only [Sm]
    rw [sm_one a c n]
    split <;> split <;> split <;> omega
theorem sm_swap (f : Nat → Nat → Int) (m : Nat) : ∀ n : Nat, Sm n (fun i => Sm m (fun j => f i j)) = Sm m (fun j => Sm n (fun i => f i j))
  | 0 => (sm_zero m).symm
  | n + 1 => by
    simp only [Sm]
    rw [sm_swap f m n, ← sm_add]
/-- one term taken out -/
theorem sm_out {f : Nat → Int} {n a : Nat} (h : a < n) : Sm n f = f a + Sm n (fun i => if i = a then 0 else f i) := by
  have e : Sm n f = Sm n (fun i => (if i = a then f a else 0) + (if i = a then 0 else f i)) := sm_congr fun i _ => by
    by_cases c : i = a
    · simp [c]
    · simp [c]
  rw [e, sm_add, sm_one, if_pos h]
theorem sm_ge {f : Nat → Int} {n a : Nat} (h : a < n) (h0 : ∀ i, i < n → 0 ≤ f i) : f a ≤ Sm n f := by
  rw [sm_out h]
  have : 0 ≤ Sm n (fun i => if i = a then 0 else f i) := sm_nonneg fun i hi => by
    have := h0 i hi
    split <;> omega
  omega
theorem sm_pos {f : Nat → Int} {n : Nat} (h : 0 < Sm n f) : ∃ i, i < n ∧ 0 < f i := by
  have := sm_lt (f := fun _ => 0) (g := f) (n := n) (by rw [sm_zero]; exact h)
  exact this
theorem sm_eq_zero {f : Nat → Int} {n : Nat} (h0 : ∀ i, i < n → 0 ≤ f i) (h : Sm n f = 0) : ∀ i, i < n → f i = 0 := fun i hi => by
  have := sm_ge hi h0
  have := h0 i hi
  omega
/-- the greatest -/
theorem sm_max {d : Nat → Int} : ∀ {n : Nat}, 0 < n → ∃ u, u < n ∧ ∀ i, i < n → d i ≤ d u
  | 1, _ => ⟨0, by omega, fun i hi => by rw [show i = 0 by omega]; exact Int.le_refl _⟩
  | n + 2, _ => by
    obtain ⟨u, hu, h⟩ := sm_max (d := d) (n := n + 1) (by omega)
    by_cases c : d (n + 1) ≤ d u
    · refine ⟨u, by omega, fun i hi => ?_⟩
      by_cases e : i = n + 1
      · rw [e]; exact c
      · exact h i (by omega)
    · refine ⟨n + 1, by omega, fun i hi => ?_⟩
      by_cases e : i = n + 1
      · rw [e]; exact Int.le_refl _
      · have := h i (by omega)
        omega
/-- the least of those of a kind -/
theorem sm_min {d : Nat → Int} {p : Nat → Bool} : ∀ {n : Nat}, (∃ i, i < n ∧ p i = true) → ∃ w, w < n ∧ p w = true ∧ ∀ i, i < n → p i = true → d w ≤ d i
  | 0, ⟨i, h, _⟩ => by omega
  | n + 1, ⟨i, h, hp⟩ => by
    by_cases c : ∃ i, i < n ∧ p i = true
    · obtain ⟨w, hw, pw, hm⟩ := sm_min (d := d) c
      by_cases pn : p n = true ∧ d n < d w
      · refine ⟨n, by omega, pn.1, fun j hj pj => ?_⟩
        by_cases e : j = n
        · rw [e]; exact Int.le_refl _
        · have := hm j (by omega) pj
          omega
      · refine ⟨w, by omega, pw, fun j hj pj => ?_⟩
        by_cases e : j = n
        · subst e
          have : ¬ d j < d w := fun z => pn ⟨pj, z⟩
          omega
        · exact hm j (by omega) pj
    · have : i = n := Classical.byContradiction fun e => c ⟨i, by omega, hp⟩
      subst this
      refine ⟨i, by omega, hp, fun j hj pj => ?_⟩
      by_cases e : j = i
      · rw [e]; exact Int.le_refl _
      · exact absurd ⟨j, by omega, pj⟩ c

/-! ### rows of numbers that a web has (up to m ties between two): plain Lean -/
structure Mg (n : Nat) (m : Int) (A : Nat → Nat → Int) : Prop where
  sym : ∀ i j, A i j = A j i
  diag : ∀ i, A i i = 0
  nn : ∀ i j, 0 ≤ A i j
  le : ∀ i j, A i j ≤ m
  out : ∀ i j, n ≤ j → A i j = 0
def cardX (n : Nat) (X : Nat → Bool) : Int := Sm n fun i => if X i then 1 else 0
/-- what is left to the places of X when all that can be is given to them -/
def roomX (n : Nat) (m : Int) (d : Nat → Int) (X : Nat → Bool) : Int := m * cardX n X * (cardX n X - 1) + Sm n (fun i => if X i then 0 else min (d i) (m * cardX n X)) - Sm n (fun i => if X i then d i else 0)
theorem card_nn (n : Nat) (X : Nat → Bool) : 0 ≤ cardX n X := sm_nonneg fun i _ => by split <;> omega
theorem roomX_eq {n : Nat} {m : Int} {d : Nat → Int} {X : Nat → Bool} {c : Int} (h : cardX n X = c) : roomX n m d X = m * c * (c - 1) + Sm n (fun i => if X i then - d i else min (d i) (m * c)) := by
  unfold roomX
  rw [h]
  have : Sm n (fun i => if X i then - d i else min (d i) (m * c)) = Sm n (fun i => if X i then 0 else min (d i) (m * c)) - Sm n (fun i => if X i then d i else 0) := by
    rw [← sm_sub]
    refine sm_congr fun i _ => ?_
    split <;> omega
  omega
/-- a web leaves room -/
theorem room_of_web {n : Nat} {m : Int} {A : Nat → Nat → Int} {d : Nat → Int} (hm : 0 ≤ m) (hA : Mg n m A) (hd : ∀ i, i < n → Sm n (A i) = d i) (X : Nat → Bool) : 0 ≤ roomX n m d X := by
  have e1 : Sm n (fun i => if X i then d i else 0) = Sm n (fun i => Sm n fun j => if X i then (if X j then A i j else 0) else 0) + Sm n (fun i => Sm n fun j => if X i then (if X j then 0 else A i j) else 0) := by
    rw [← sm_add]
    refine sm_congr fun i hi => ?_
    rw [← sm_add]
    by_cases c : X i
    · simp only [c, if_true]
      rw [← hd i hi]
      refine sm_congr fun j _ => ?_
      split <;> omega
    · simp only [c]
      simp [sm_zero]
  -- inside: at most m between two
  have e2 : Sm n (fun i => Sm n fun j => if X i then (if X j then A i j else 0) else 0) ≤ m * cardX n X * (cardX n X - 1) := by
    have : Sm n (fun i => Sm n fun j => if X i then (if X j then A i j else 0) else 0) ≤ Sm n (fun i => (m * (cardX n X - 1)) * (if X i then 1 else 0)) := by
      refine sm_le fun i hi => ?_
      by_cases c : X i
      · simp only [c, if_true]
        have h1 : Sm n (fun j => if X j then A i j else 0) ≤ Sm n (fun j => m * (if X j then 1 else 0) - (if j = i then m else 0)) := sm_le fun j _ => by
          have h1 := hA.le i j
          have h2 := hA.nn i j
          by_cases e : j = i
          · subst e
            simp [c, hA.diag]
          · by_cases f : X j
            · simp [e, f]; exact h1
            · simp [e, f]
        rw [sm_sub, sm_mul, sm_one, if_pos hi] at h1
        have : m * (cardX n X - 1) * 1 = m * cardX n X - m := by grind
        rw [this]
        exact h1
      · simp only [c]
        simp [sm_zero]
    rw [sm_mul] at this
    have e : m * (cardX n X - 1) * cardX n X = m * cardX n X * (cardX n X - 1) := by grind
    unfold cardX at *
    omega
  have e3 : Sm n (fun i => Sm n fun j => if X i then (if X j then 0 else A i j) else 0) ≤ Sm n (fun i => if X i then 0 else min (d i) (m * cardX n X)) := by
    rw [sm_swap]
    refine sm_le fun j hj => ?_
    by_cases c : X j
    · simp only [c, if_true]
      simp [sm_zero]
    · simp only [c]
      have h1 : Sm n (fun i => if X i then A i j else 0) ≤ d j := by
        rw [← hd j hj]
        refine sm_le fun i _ => ?_
        have := hA.nn j i
        have := hA.sym i j
        split <;> omega
      have h2 : Sm n (fun i => if X i then A i j else 0) ≤ m * cardX n X := by
        unfold cardX
        rw [← sm_mul]
        refine sm_le fun i _ => ?_
        have := hA.le i j
        split <;> omega
      have : Sm n (fun i => if X i then A i j else 0) = Sm n (fun i => if X i = true then if false = true then 0 else A i j else 0) := sm_congr fun i _ => by simp
      rw [← this]
      simp only [Bool.false_eq_true, if_false]
      omega
  unfold roomX
  omega

/-! .. and every row with room has a web -/
theorem even_cc (c : Int) : ∃ k, c * (c - 1) = 2 * k := by
  rcases (show c % 2 = 0 ∨ c % 2 = 1 by omega) with h | h
  · obtain ⟨q, rfl⟩ := Int.dvd_of_emod_eq_zero h
    exact ⟨q * (2 * q - 1), by grind⟩
  · obtain ⟨q, hq⟩ : ∃ q, c = 2 * q + 1 := ⟨c / 2, by omega⟩
    subst hq
    exact ⟨(2 * q + 1) * q, by grind⟩
/-- one less at two places -/
def less2 (d : Nat → Int) (u w : Nat) : Nat → Int := fun i => d i - (if i = u then 1 else 0) - (if i = w then 1 else 0)
theorem less2_sum {n : Nat} {d : Nat → Int} {u w : Nat} (hu : u < n) (hw : w < n) : Sm n (less2 d u w) = Sm n d - 2 := by
  unfold less2
  rw [sm_sub, sm_sub, sm_one, sm_one, if_pos hu, if_pos hw]
  omega
def dlt (X : Nat → Bool) (d : Nat → Int) (M : Int) (x : Nat) : Int := if X x then 1 else if d x ≤ M then -1 else 0
theorem room_less2 {n : Nat} {m : Int} {d : Nat → Int} {u w : Nat} {X : Nat → Bool} (hu : u < n) (hw : w < n) (uw : u ≠ w) : roomX n m (less2 d u w) X = roomX n m d X + dlt X d (m * cardX n X) u + dlt X d (m * cardX n X) w := by
  rw [roomX_eq rfl, roomX_eq rfl]
  have : Sm n (fun i => if X i then - less2 d u w i else min (less2 d u w i) (m * cardX n X)) = Sm n (fun i => ((if X i then - d i else min (d i) (m * cardX n X)) + (if i = u then dlt X d (m * cardX n X) u else 0)) + (if i = w then dlt X d (m * cardX n X) w else 0)) := by
    refine sm_congr fun i _ => ?_
    unfold less2 dlt
    by_cases c1 : i = u
    · subst c1
      have : ¬ i = w := uw
      by_cases c : X i <;> simp [c, this] <;> (try split) <;> omega
    · by_cases c2 : i = w
      · subst c2
        by_cases c : X i <;> simp [c, c1] <;> (try split) <;> omega
      · by_cases c : X i <;> simp [c, c1, c2]
  rw [this, sm_add, sm_add, sm_one, sm_one, if_pos hu, if_pos hw]
  omega
/-- u in the place of x -/
def swp (X : Nat → Bool) (x u : Nat) : Nat → Bool := fun i => if i = u then true else if i = x then false else X i
theorem card_swp {n : Nat} {X : Nat → Bool} {x u : Nat} (hx : x < n) (hu : u < n) (Xx : X x = true) (Xu : X u = false) : cardX n (swp X x u) = cardX n X := by
  have ne : u ≠ x := fun e => by rw [e, Xx] at Xu; cases Xu
  unfold cardX swp
  have : Sm n (fun i => if (if i = u then true else if i = x then false else X i) = true then (1 : Int) else 0) = Sm n (fun i => ((if X i then 1 else 0) + (if i = u then 1 else 0)) - (if i = x then 1 else 0)) := by
    refine sm_congr fun i _ => ?_
    by_cases c1 : i = u
    · subst c1
      simp [Xu, ne]
    · by_cases c2 : i = x
      · subst c2
        simp [Xx, c1]
      · simp [c1, c2]
  rw [this, sm_sub, sm_add, sm_one, sm_one, if_pos hu, if_pos hx]
  omega
theorem room_swp {n : Nat} {m : Int} {d : Nat → Int} {X : Nat → Bool} {x u : Nat} (hx : x < n) (hu : u < n) (Xx : X x = true) (Xu : X u = false) : roomX n m d (swp X x u) = roomX n m d X + (min (d x) (m * cardX n X) + d x) - (min (d u) (m * cardX n X) + d u) := by
  have ne : u ≠ x := fun e => by rw [e, Xx] at Xu; cases Xu
  rw [roomX_eq (card_swp hx hu Xx Xu), roomX_eq rfl]
  generalize m * cardX n X = M
  have : Sm n (fun i => if swp X x u i then - d i else min (d i) M) = Sm n (fun i => ((if X i then - d i else min (d i) M) + (if i = x then min (d x) M + d x else 0)) - (if i = u then min (d u) M + d u else 0)) := by
    refine sm_congr fun i _ => ?_
    unfold swp
    by_cases c1 : i = u
    · subst c1
      simp [Xu, ne]
      omega
    · by_cases c2 : i = x
      · subst c2
        simp [Xx, c1]
        omega
      · simp [c1, c2]
  rw [this, sm_sub, sm_add, sm_one, sm_one, if_pos hu, if_pos hx]
  omega
/-- u put to X -/
def putX (X : Nat → Bool) (u : Nat) : Nat → Bool := fun i => if i = u then true else X i
theorem card_put {n : Nat} {X : Nat → Bool} {u : Nat} (hu : u < n) (Xu : X u = false) : cardX n (putX X u) = cardX n X + 1 := by
  unfold cardX putX
  have : Sm n (fun i => if (if i = u then true else X i) = true then (1 : Int) else 0) = Sm n (fun i => (if X i then 1 else 0) + (if i = u then 1 else 0)) := by
    refine sm_congr fun i _ => ?_
    by_cases c1 : i = u
    · subst c1
      simp [Xu]
    · simp [c1]
  rw [this, sm_add, sm_one, if_pos hu]
theorem room_less2_nn {n : Nat} {m : Int} {d : Nat → Int} {u w : Nat} (hm : 0 ≤ m) (hu : u < n) (hw : w < n) (uw : u ≠ w) (h0 : ∀ i, i < n → 0 ≤ d i) (hmax : ∀ i, i < n → d i ≤ d u) (hw1 : 1 ≤ d w) (even : ∃ k, Sm n d = 2 * k) (E : ∀ X, 0 ≤ roomX n m d X) : ∀ X, 0 ≤ roomX n m (less2 d u w) X := by
  intro X
  rw [room_less2 hu hw uw]
  have hX := E X
  have hc := card_nn n X
  have hM : 0 ≤ m * cardX n X := Int.mul_nonneg hm hc
  by_cases Xu : X u = true
  · have e1 : dlt X d (m * cardX n X) u = 1 := by unfold dlt; rw [if_pos Xu]
    have e2 : -1 ≤ dlt X d (m * cardX n X) w := by unfold dlt; split <;> (try split) <;> omega
    omega
  · by_cases Xw : X w = true
    · have e1 : dlt X d (m * cardX n X) w = 1 := by unfold dlt; rw [if_pos Xw]
      have e2 : -1 ≤ dlt X d (m * cardX n X) u := by unfold dlt; split <;> (try split) <;> omega
      omega
    · have Xu : X u = false := by simpa using Xu
      have Xw : X w = false := by simpa using Xw
      by_cases big : d u ≤ m * cardX n X
      · -- all numbers are small
        have e1 : -1 ≤ dlt X d (m * cardX n X) w := by unfold dlt; split <;> (try split) <;> omega
        have e2 : -1 ≤ dlt X d (m * cardX n X) u := by unfold dlt; split <;> (try split) <;> omega
        have key : roomX n m d X ≠ 0 ∧ ∃ k, roomX n m d X = 2 * k := by
          have hs : roomX n m d X = m * cardX n X * (cardX n X - 1) + Sm n (fun i => if X i then 0 else d i) - Sm n (fun i => if X i then d i else 0) := by
            unfold roomX
            have : Sm n (fun i => if X i then 0 else min (d i) (m * cardX n X)) = Sm n (fun i => if X i then 0 else d i) := sm_congr fun i hi => by
              have := hmax i hi
              split <;> omega
            rw [this]
          have ht : Sm n d = Sm n (fun i => if X i then 0 else d i) + Sm n (fun i => if X i then d i else 0) := by
            rw [← sm_add]
            refine sm_congr fun i _ => ?_
            split <;> omega
          have hb : d u + d w ≤ Sm n (fun i => if X i then 0 else d i) := by
            rw [sm_out hu]
            have h2 : (if w = u then 0 else if X w then 0 else d w) ≤ Sm n (fun i => if i = u then 0 else if X i then 0 else d i) := sm_ge (f := fun i => if i = u then 0 else if X i then 0 else d i) hw fun i hi => by
              have := h0 i hi
              split <;> (try split) <;> omega
            have : ¬ w = u := fun e => uw e.symm
            simp [this, Xw] at h2
            simp [Xu]
            exact h2
          have ha : Sm n (fun i => if X i then d i else 0) ≤ d u * cardX n X := by
            unfold cardX
            rw [← sm_mul]
            refine sm_le fun i hi => ?_
            have := hmax i hi
            split <;> omega
          generalize Sm n (fun i => if X i then 0 else d i) = b at *
          generalize Sm n (fun i => if X i then d i else 0) = a at *
          generalize cardX n X = c at *
          refine ⟨fun z => ?_, ?_⟩
          · rw [hs] at z
            by_cases c0 : c = 0
            · have := hmax w hw
              subst c0
              simp at big
              omega
            · have h3 : (c - 1) * d u ≤ (c - 1) * (m * c) := Int.mul_le_mul_of_nonneg_left big (by omega)
              grind
          · obtain ⟨k, hk⟩ := even
            obtain ⟨q, hq⟩ := even_cc c
            refine ⟨m * q + k - a, ?_⟩
            rw [hs]
            have : m * c * (c - 1) = m * (c * (c - 1)) := by grind
            rw [this, hq]
            grind
        obtain ⟨k1, k, k2⟩ := key
        omega
      · have e2 : dlt X d (m * cardX n X) u = 0 := by unfold dlt; rw [if_neg (by simp [Xu]), if_neg big]
        by_cases sw : d w ≤ m * cardX n X
        · have e1 : dlt X d (m * cardX n X) w = -1 := by unfold dlt; rw [if_neg (by simp [Xw]), if_pos sw]
          have key : roomX n m d X ≠ 0 := fun z => by
            -- all of X are as great as u
            have hall : ∀ x, x < n → X x = true → d x = d u := fun x hx Xx => by
              have h1 := E (swp X x u)
              rw [room_swp hx hu Xx Xu, z] at h1
              have := hmax x hx
              omega
            have hp := E (putX X u)
            rw [roomX_eq (card_put hu Xu)] at hp
            rw [roomX_eq rfl] at z
            -- the sums by how many are great
            have hk : Sm n (fun i => if putX X u i then - d i else min (d i) (m * (cardX n X + 1))) ≤ Sm n (fun i => ((if X i then - d i else min (d i) (m * cardX n X)) + (if i = u then - d u - m * cardX n X - m else 0)) + m * (if X i then 0 else if m * cardX n X < d i then 1 else 0)) := by
              refine sm_le fun i hi => ?_
              have em : m * (cardX n X + 1) = m * cardX n X + m := by grind
              unfold putX
              rw [em]
              by_cases c1 : i = u
              · subst c1
                have : m * cardX n X < d i := by omega
                simp [Xu, this]
                omega
              · by_cases c : X i
                · simp [c, c1]
                · simp only [c1, if_false, c, Bool.false_eq_true]
                  by_cases g : m * cardX n X < d i
                  · simp [g]
                    omega
                  · simp [g]
                    omega
            rw [sm_add, sm_add, sm_one, if_pos hu, sm_mul] at hk
            generalize hK : Sm n (fun i => if X i then 0 else if m * cardX n X < d i then (1 : Int) else 0) = k at hk
            -- below: what the others give
            have hl : Sm n (fun i => ((- d u) * (if X i then 1 else 0) + (m * cardX n X) * (if X i then 0 else if m * cardX n X < d i then 1 else 0)) + (if i = w then d w else 0)) ≤ Sm n (fun i => if X i then - d i else min (d i) (m * cardX n X)) := by
              refine sm_le fun i hi => ?_
              have := h0 i hi
              by_cases c2 : i = w
              · subst c2
                have : ¬ m * cardX n X < d i := by omega
                simp [Xw, this]
                omega
              · by_cases c : X i
                · have := hall i hi c
                  simp [c, c2]
                  omega
                · by_cases g : m * cardX n X < d i
                  · simp [c, c2, g]
                    omega
                  · simp [c, c2, g]
                    omega
            rw [sm_add, sm_add, sm_one, if_pos hw, sm_mul, sm_mul, hK] at hl
            have hc2 : Sm n (fun i => if X i then (1 : Int) else 0) = cardX n X := rfl
            rw [hc2] at hl
            generalize Sm n (fun i => if X i then - d i else min (d i) (m * cardX n X)) = s at *
            generalize Sm n (fun i => if putX X u i then - d i else min (d i) (m * (cardX n X + 1))) = s2 at *
            generalize cardX n X = c at *
            generalize d u = D at *
            by_cases c0 : c = 0
            · subst c0
              simp at *
              omega
            · have g1 : D ≤ m * c + m * (k - 1) := by grind
              have h3 : c * D ≤ c * (m * c + m * (k - 1)) := Int.mul_le_mul_of_nonneg_left g1 hc
              grind
          omega
        · have e1 : dlt X d (m * cardX n X) w = 0 := by unfold dlt; rw [if_neg (by simp [Xw]), if_neg sw]
          omega

/-- k more ties between a and b -/
def addE (A : Nat → Nat → Int) (a b : Nat) (k : Int) : Nat → Nat → Int := fun i j => A i j + (if (i = a ∧ j = b) ∨ (i = b ∧ j = a) then k else 0)
theorem addE_deg {n : Nat} {A : Nat → Nat → Int} {a b : Nat} {k : Int} (ha : a < n) (hb : b < n) (ab : a ≠ b) (i : Nat) : Sm n (addE A a b k i) = Sm n (A i) + (if i = a then k else 0) + (if i = b then k else 0) := by
  have : Sm n (addE A a b k i) = Sm n (fun j => (A i j + (if j = b then (if i = a then k else 0) else 0)) + (if j = a then (if i = b then k else 0) else 0)) := by
    refine sm_congr fun j _ => ?_
    unfold addE
    by_cases c1 : i = a <;> by_cases c2 : i = b <;> by_cases c3 : j = a <;> by_cases c4 : j = b <;> simp_all <;> omega
  rw [this, sm_add, sm_add, sm_one, sm_one, if_pos ha, if_pos hb]
theorem mg_addE {n : Nat} {m : Int} {A : Nat → Nat → Int} (h : Mg n m A) {a b : Nat} {k : Int} (ha : a < n) (hb : b < n) (ab : a ≠ b) (h1 : 0 ≤ A a b + k) (h2 : A a b + k ≤ m) : Mg n m (addE A a b k) := by
  refine ⟨fun i j => ?_, fun i => ?_, fun i j => ?_, fun i j => ?_, fun i j hj => ?_⟩
  · unfold addE
    rw [h.sym i j]
    have : ((i = a ∧ j = b) ∨ (i = b ∧ j = a)) ↔ ((j = a ∧ i = b) ∨ (j = b ∧ i = a)) := by omega
    simp only [this]
  · unfold addE
    rw [h.diag, if_neg (by omega)]
    rfl
  · unfold addE
    have := h.nn i j
    split
    · rename_i c
      rcases c with ⟨rfl, rfl⟩ | ⟨rfl, rfl⟩
      · exact h1
      · rw [h.sym]
        exact h1
    · omega
  · unfold addE
    have := h.le i j
    split
    · rename_i c
      rcases c with ⟨rfl, rfl⟩ | ⟨rfl, rfl⟩
      · exact h2
      · rw [h.sym]
        exact h2
    · omega
  · unfold addE
    rw [h.out i j hj, if_neg (by omega)]
    rfl
/-- A web of the numbers d with at most m between two -/
def IsMg (n : Nat) (m : Int) (d : Nat → Int) (A : Nat → Nat → Int) : Prop := Mg n m A ∧ ∀ i, i < n → Sm n (A i) = d i
/-- a tie more between u and w: there is a way -/
theorem more_uw {n : Nat} {m : Int} {d : Nat → Int} {u w : Nat} {A : Nat → Nat → Int} (hm : 0 ≤ m) (hu : u < n) (hw : w < n) (uw : u ≠ w) (h0 : ∀ i, i < n → 0 ≤ d i) (hmin : ∀ i, i < n → i ≠ u → 1 ≤ d i → d w ≤ d i) (room : d u ≤ Sm n (fun i => if i = u then 0 else min (d i) m)) (hA : IsMg n m (less2 d u w) A) : ∃ B, IsMg n m d B := by
  obtain ⟨hA, hd⟩ := hA
  by_cases c : A u w < m
  · refine ⟨addE A u w 1, mg_addE hA hu hw uw (by have := hA.nn u w; omega) (by omega), fun i hi => ?_⟩
    rw [addE_deg hu hw uw, hd i hi]
    unfold less2
    omega
  · have full : A u w = m := by have := hA.le u w; omega
    have du : Sm n (A u) = d u - 1 := by
      rw [hd u hu]
      unfold less2
      simp [uw]
    have dw : Sm n (A w) = d w - 1 := by
      rw [hd w hw]
      unfold less2
      simp [Ne.symm uw]
    obtain ⟨x, hx, hxl⟩ := sm_lt (f := A u) (g := fun i => if i = u then 0 else min (d i) m) (n := n) (by omega)
    have xu : x ≠ u := fun e => by
      subst e
      rw [hA.diag] at hxl
      simp at hxl
    rw [if_neg xu] at hxl
    have xw : x ≠ w := fun e => by
      subst e
      omega
    have nx := hA.nn u x
    have dx := hmin x hx xu (by omega)
    have dx2 : Sm n (A x) = d x := by
      rw [hd x hx]
      unfold less2
      simp [xu, xw]
    have hy : ∃ y, y < n ∧ (if y = w then 0 else if y = u then 0 else if y = x then 0 else A w y) < (if y = w then 0 else if y = u then 0 else if y = x then 0 else A x y) := by
      refine sm_lt ?_
      have e1 : ∀ v, Sm n (A v) = Sm n (fun y => if y = w then 0 else if y = u then 0 else if y = x then 0 else A v y) + A v w + A v u + A v x := fun v => by
        have : Sm n (A v) = Sm n (fun y => (((if y = w then 0 else if y = u then 0 else if y = x then 0 else A v y) + (if y = w then A v w else 0)) + (if y = u then A v u else 0)) + (if y = x then A v x else 0)) := by
          refine sm_congr fun y _ => ?_
          by_cases c1 : y = w
          · subst c1
            simp [Ne.symm uw, Ne.symm xw]
          · by_cases c2 : y = u
            · subst c2
              simp [Ne.symm xu, uw]
            · by_cases c3 : y = x
              · subst c3
                simp [c1, c2]
              · simp [c1, c2, c3]
        rw [this, sm_add, sm_add, sm_add, sm_one, sm_one, sm_one, if_pos hw, if_pos hu, if_pos hx]
      have a1 := e1 w
      have a2 := e1 x
      rw [hA.diag w] at a1
      rw [hA.diag x] at a2
      have s1 := hA.sym x w
      have s2 := hA.sym x u
      have s3 := hA.sym u w
      omega
    obtain ⟨y, hy, hyl⟩ := hy
    have yw : y ≠ w := fun e => by simp [e] at hyl
    have yu : y ≠ u := fun e => by
      subst e
      simp at hyl
    have yx : y ≠ x := fun e => by
      subst e
      simp at hyl
    simp only [yw, yu, yx, if_false] at hyl
    have n1 := hA.nn w y
    have l1 := hA.le x y
    have B1 := mg_addE (k := 1) hA hu hx (Ne.symm xu) (by omega) (by omega)
    have v1 : addE A u x 1 x y = A x y := by unfold addE; rw [if_neg (by omega)]; omega
    have B2 := mg_addE (k := -1) B1 hx hy (Ne.symm yx) (by rw [v1]; omega) (by rw [v1]; omega)
    have v2 : addE (addE A u x 1) x y (-1) w y = A w y := by unfold addE; rw [if_neg (by omega), if_neg (by omega)]; omega
    have B3 := mg_addE (k := 1) B2 hw hy (Ne.symm yw) (by rw [v2]; omega) (by rw [v2]; omega)
    refine ⟨_, B3, fun i hi => ?_⟩
    rw [addE_deg hw hy (Ne.symm yw), addE_deg hx hy (Ne.symm yx), addE_deg hu hx (Ne.symm xu), hd i hi]
    unfold less2
    split <;> split <;> split <;> split <;> omega
/-- the theorem -/
theorem web_of_room {n : Nat} {m : Int} (hm : 0 ≤ m) : ∀ (k : Nat) {d : Nat → Int}, Sm n d = 2 * (k : Int) → (∀ i, i < n → 0 ≤ d i) → (∀ X, 0 ≤ roomX n m d X) → ∃ A, IsMg n m d A
  | 0, d, hs, h0, E => by
    refine ⟨fun _ _ => 0, ⟨fun _ _ => rfl, fun _ => rfl, fun _ _ => Int.le_refl _, fun _ _ => hm, fun _ _ _ => rfl⟩, fun i hi => ?_⟩
    rw [sm_zero, sm_eq_zero h0 (by rw [hs]; rfl) i hi]
  | k + 1, d, hs, h0, E => by
    obtain ⟨p, hp, _⟩ := sm_pos (f := d) (n := n) (by rw [hs]; omega)
    obtain ⟨u, hu, hmax⟩ := sm_max (d := d) (n := n) (by omega)
    have hu1 : 1 ≤ d u := by
      have := hmax p hp
      omega
    have room : d u ≤ Sm n (fun i => if i = u then 0 else min (d i) m) := by
      have h := E (fun i => decide (i = u))
      have hc : cardX n (fun i => decide (i = u)) = 1 := by
        unfold cardX
        simp only [decide_eq_true_eq]
        rw [sm_one, if_pos hu]
      rw [roomX_eq hc] at h
      have : Sm n (fun i => if decide (i = u) = true then - d i else min (d i) (m * 1)) = Sm n (fun i => (if i = u then 0 else min (d i) m) + (if i = u then - d u else 0)) := by
        refine sm_congr fun i _ => ?_
        rw [Int.mul_one]
        by_cases c : i = u
        · subst c
          simp
        · simp [c]
      rw [this, sm_add, sm_one, if_pos hu] at h
      simp at h
      omega
    have hw : ∃ w, w < n ∧ decide (w ≠ u ∧ 1 ≤ d w) = true := by
      obtain ⟨w, hw, h⟩ := sm_pos (f := fun i => if i = u then 0 else min (d i) m) (n := n) (by omega)
      by_cases c : w = u
      · simp [c] at h
      · simp only [c, if_false] at h
        refine ⟨w, hw, ?_⟩
        rw [decide_eq_true_eq]
        exact ⟨c, by omega⟩
    obtain ⟨w, hw, hpw, hmin⟩ := sm_min (d := d) hw
    rw [decide_eq_true_eq] at hpw
    have uw : u ≠ w := Ne.symm hpw.1
    have E2 := room_less2_nn hm hu hw uw h0 hmax hpw.2 ⟨_, hs⟩ E
    obtain ⟨A, hA⟩ := web_of_room hm k (d := less2 d u w) (by rw [less2_sum hu hw, hs]; omega) (fun i hi => by
      have := h0 i hi
      unfold less2
      by_cases c1 : i = u
      · subst c1
        simp [uw]
        omega
      · by_cases c2 : i = w
        · subst c2
          simp [c1]
          omega
        · simp [c1, c2]
          exact this) E2
    exact more_uw hm hu hw uw h0 (fun i hi c1 c2 => hmin i hi (by rw [decide_eq_true_eq]; exact ⟨c1, c2⟩)) room hA

/-! ### rooms by lists -/
theorem sm_list (f : Nat → Int) : ∀ n : Nat, Sm n f = ((List.range n).map f).sum
  | 0 => rfl
  | n + 1 => by
    rw [List.range_succ, List.map_append, List.sum_append, ← sm_list f n]
    simp [Sm]
theorem sm_rng (f : Int → Int) (n : Nat) : Sm n (fun i => f (i : Nat)) = ((rngI n).map f).sum := by
  rw [sm_list]
  unfold rngI
  rw [List.map_map]
  rfl
theorem sm_order (ks : List Int) (f : Int → Int) : Sm ks.length (fun i => f (i : Nat)) = ((orderI ks (rngI ks.length)).map f).sum := by
  rw [sm_rng]
  exact sum_perm ((order_perm ks _).map f).symm
/-- of a falling row no part is more than the first ones -/
theorem sub_top : ∀ {G S : List Int}, G.Pairwise (fun a b => b ≤ a) → S.Sublist G → S.sum ≤ (G.take S.length).sum
  | _, _, _, .slnil => by simp
  | a :: G, S, hG, .cons _ h => by
    rw [List.pairwise_cons] at hG
    have ih := sub_top hG.2 h
    have hl := h.length_le
    -- taking a in the place of the last one
    have : ∀ (k : Nat) (G : List Int), (∀ b ∈ G, b ≤ a) → k ≤ G.length → (G.take k).sum ≤ ((a :: G).take k).sum := by
      intro k
      induction k with
      | zero => intro G _ _; simp
      | succ k ihk =>
        intro G hb hk
        rw [List.take_succ_cons, List.sum_cons]
        have e : (G.take (k + 1)).sum = (G.take k).sum + G[k] := by
          rw [List.take_succ_eq_append_getElem (by omega), List.sum_append]
          simp
        rw [e]
        have := hb G[k] (List.getElem_mem _)
        omega
    have := this S.length G hG.1 hl
    omega
  | a :: G, _ :: S, hG, .cons₂ _ h => by
    rw [List.pairwise_cons] at hG
    have ih := sub_top hG.2 h
    rw [List.length_cons, List.take_succ_cons, List.sum_cons, List.sum_cons]
    omega
theorem filter_sum (p : Int → Bool) (f : Int → Int) : ∀ L : List Int, (L.map fun q => if p q then f q else 0).sum = ((L.filter p).map f).sum
  | [] => rfl
  | q :: L => by
    rw [List.map_cons, List.sum_cons, filter_sum p f L]
    by_cases c : p q
    · rw [List.filter_cons_of_pos c, List.map_cons, List.sum_cons, if_pos c]
    · rw [List.filter_cons_of_neg c, if_neg c]
      omega
def numI (ks : List Int) : Nat → Int := fun i => getI ks (i : Nat)
/-- a room by the places of X is no less than the room of the greatest -/
theorem roomX_ge (ks : List Int) (m : Int) (X : Nat → Bool) : thickR ks m (cardX ks.length X) ≤ roomX ks.length m (numI ks) X := by
  have hc := card_nn ks.length X
  obtain ⟨c, hcc⟩ : ∃ c : Nat, cardX ks.length X = (c : Int) := ⟨_, (Int.toNat_of_nonneg hc).symm⟩
  have hX : ∀ f : Int → Int, Sm ks.length (fun i => if X i then f (i : Nat) else 0) = (((orderI ks (rngI ks.length)).filter fun q => X q.toNat).map f).sum := fun f => by
    have := sm_order ks (fun q => if X q.toNat then f q else 0)
    simp only [Int.toNat_natCast] at this
    rw [this, filter_sum]
  have hlen : (((orderI ks (rngI ks.length)).filter fun q => X q.toNat)).length = c := by
    have h1 := hX (fun _ => 1)
    have : Sm ks.length (fun i => if X i then (fun _ => 1 : Int → Int) (i : Nat) else 0) = cardX ks.length X := rfl
    rw [this, hcc] at h1
    have : ∀ L : List Int, (L.map fun _ => (1 : Int)).sum = (L.length : Nat) := fun L => by
      induction L with
      | nil => rfl
      | cons a L ih => rw [List.map_cons, List.sum_cons, ih, List.length_cons]; omega
    rw [this] at h1
    omega
  rw [roomX_eq hcc, hcc]
  -- all places as the others, those of X beyond
  have e1 : Sm ks.length (fun i => if X i then - numI ks i else min (numI ks i) (m * c)) = Sm ks.length (fun i => min (getI ks (i : Nat)) (m * c)) - Sm ks.length (fun i => if X i then (fun q => min (getI ks q) (m * c) + getI ks q) (i : Nat) else 0) := by
    rw [← sm_sub]
    refine sm_congr fun i _ => ?_
    unfold numI
    split <;> simp <;> omega
  rw [e1, hX (fun q => min (getI ks q) (m * c) + getI ks q), sm_order ks (fun q => min (getI ks q) (m * c))]
  have hd := order_desc ks
  have g1 : ((orderI ks (rngI ks.length)).map fun q => min (getI ks q) (m * c)).sum = ((descI ks).map fun x => min x (m * c)).sum := by
    rw [← hd, List.map_map]
    rfl
  have g2 : (((orderI ks (rngI ks.length)).filter fun q => X q.toNat).map fun q => min (getI ks q) (m * c) + getI ks q).sum ≤ (((descI ks).map fun x => min x (m * c) + x).take c).sum := by
    have hs : (((orderI ks (rngI ks.length)).filter fun q => X q.toNat).map fun q => min (getI ks q) (m * c) + getI ks q).Sublist ((descI ks).map fun x => min x (m * c) + x) := by
      rw [← hd, List.map_map]
      exact (List.filter_sublist).map _
    have := sub_top (G := (descI ks).map fun x => min x (m * c) + x) (List.pairwise_map.mpr ((descI_srt ks).imp fun {a b} h => by omega)) hs
    rw [List.length_map, hlen] at this
    exact this
  rw [g1]
  unfold thickR
  have e3 : ((descI ks).map fun x => min x (m * c)).sum = (((descI ks).take c).map fun x => min x (m * c)).sum + (((descI ks).drop c).map fun x => min x (m * c)).sum := by
    rw [← List.sum_append, ← List.map_append, List.take_append_drop]
  have e4 : (((descI ks).map fun x => min x (m * c) + x).take c).sum = (((descI ks).take c).map fun x => min x (m * c)).sum + ((descI ks).take c).sum := by
    rw [← List.map_take]
    generalize (descI ks).take c = L
    induction L with
    | nil => rfl
    | cons a L ih => simp only [List.map_cons, List.sum_cons, ih]; omega
  rw [Int.toNat_natCast]
  omega
/-- .. which is the room of those places -/
theorem roomX_top (ks : List Int) (m : Int) {r : Nat} (hr : r ≤ ks.length) : ∃ X : Nat → Bool, roomX ks.length m (numI ks) X = thickR ks m r := by
  have hd := order_desc ks
  have hn : (orderI ks (rngI ks.length)).Nodup := (order_perm ks _).nodup_iff.mpr (by
    unfold rngI
    refine List.pairwise_map.mpr (List.pairwise_lt_range.imp fun {a b} h => ?_)
    omega)
  have hl : (orderI ks (rngI ks.length)).length = ks.length := by rw [order_len, rngI_len]
  generalize hL : orderI ks (rngI ks.length) = L at *
  refine ⟨fun i => decide (((i : Nat) : Int) ∈ L.take r), ?_⟩
  have hsplit := List.take_append_drop r L
  have hq : ∀ q ∈ L, 0 ≤ q := fun q h => by
    rw [← hL] at h
    exact (mem_order.mp h).1
  have hdis : ∀ q ∈ L.drop r, q ∉ L.take r := fun q h c => by
    rw [← hsplit] at hn
    exact (List.nodup_append.mp hn).2.2 q c q h rfl
  have hsum : ∀ f g : Int → Int, Sm ks.length (fun i => if decide (((i : Nat) : Int) ∈ L.take r) = true then f (i : Nat) else g (i : Nat)) = ((L.take r).map f).sum + ((L.drop r).map g).sum := fun f g => by
    have h := sm_order ks (fun q => if decide (q ∈ L.take r) = true then f q else g q)
    rw [h, hL]
    conv => lhs; rw [← hsplit]
    rw [List.map_append, List.sum_append]
    refine congr (congrArg _ (congrArg List.sum (List.map_congr_left fun q hq => ?_))) (congrArg List.sum (List.map_congr_left fun q hq => ?_))
    · simp only [hsplit, hq, decide_true, if_true]
    · have := hdis q hq
      simp only [hsplit, this, decide_false, Bool.false_eq_true, if_false]
  have hc : cardX ks.length (fun i => decide (((i : Nat) : Int) ∈ L.take r)) = (r : Nat) := by
    have h := hsum (fun _ => 1) (fun _ => 0)
    unfold cardX
    rw [h]
    have o : ∀ L : List Int, (L.map fun _ => (1 : Int)).sum = (L.length : Nat) := fun L => by
      induction L with
      | nil => rfl
      | cons a L ih => rw [List.map_cons, List.sum_cons, ih, List.length_cons]; omega
    have z : ∀ L : List Int, (L.map fun _ => (0 : Int)).sum = 0 := fun L => by
      induction L with
      | nil => rfl
      | cons a L ih => rw [List.map_cons, List.sum_cons, ih]; rfl
    rw [o, z, List.length_take]
    omega
  rw [roomX_eq hc]
  have h := hsum (fun q => - getI ks q) (fun q => min (getI ks q) (m * r))
  unfold numI
  rw [h]
  unfold thickR
  rw [Int.toNat_natCast]
  have e1 : ((L.take r).map fun q => - getI ks q).sum = - ((descI ks).take r).sum := by
    rw [← hd, ← List.map_take]
    generalize L.take r = M
    induction M with
    | nil => rfl
    | cons a M ih => simp only [List.map_cons, List.sum_cons, ih]; omega
  have e2 : ((L.drop r).map fun q => min (getI ks q) (m * r)).sum = (((descI ks).drop r).map fun x => min x (m * r)).sum := by
    rw [← hd, ← List.map_drop, List.map_map]
    rfl
  rw [e1, e2]
  omega
theorem roomI_thick (ks : List Int) (r : Int) : roomI ks r = thickR ks 1 r := by
  unfold roomI roomP thickR
  simp only [Int.one_mul]
  omega

/-! ### ties and matrices -/
def matL (L : List (Int × Int)) : Nat → Nat → Int := fun i j => if i ≠ j ∧ (min (i : Int) (j : Int), max (i : Int) (j : Int)) ∈ L then 1 else 0
theorem matL_cons {L : List (Int × Int)} {a b : Nat} (ab : a < b) (hn : ((a : Int), (b : Int)) ∉ L) : ∀ i j, matL (((a : Int), (b : Int)) :: L) i j = addE (matL L) a b 1 i j := fun i j => by
  by_cases ij : i = j
  · subst ij
    have : ¬ ((i = a ∧ i = b) ∨ (i = b ∧ i = a)) := by omega
    simp [matL, addE, this]
  · have key : ((min (i : Int) (j : Int), max (i : Int) (j : Int)) = ((a : Int), (b : Int))) ↔ ((i = a ∧ j = b) ∨ (i = b ∧ j = a)) := by
      rw [Prod.mk.injEq]
      omega
    unfold matL addE
    by_cases c : (i = a ∧ j = b) ∨ (i = b ∧ j = a)
    · have e := key.mpr c
      have p1 : i ≠ j ∧ (min (i : Int) (j : Int), max (i : Int) (j : Int)) ∈ ((a : Int), (b : Int)) :: L := ⟨ij, by rw [e]; simp⟩
      have p2 : ¬ (i ≠ j ∧ (min (i : Int) (j : Int), max (i : Int) (j : Int)) ∈ L) := fun z => hn (by rw [← e]; exact z.2)
      show (if i ≠ j ∧ (min (i : Int) (j : Int), max (i : Int) (j : Int)) ∈ ((a : Int), (b : Int)) :: L then (1 : Int) else 0) = (if i ≠ j ∧ (min (i : Int) (j : Int), max (i : Int) (j : Int)) ∈ L then 1 else 0) + (if (i = a ∧ j = b) ∨ (i = b ∧ j = a) then 1 else 0)
      rw [if_pos c, if_pos p1, if_neg p2]
      rfl
    · rw [if_neg c]
      have e : ¬ (min (i : Int) (j : Int), max (i : Int) (j : Int)) = ((a : Int), (b : Int)) := fun z => c (key.mp z)
      simp [e]
theorem deg_cons (p : Int × Int) (L : List (Int × Int)) (v : Int) : deg (p :: L) v = deg L v + (if hasP v p then 1 else 0) := by
  unfold deg
  rw [List.filter_cons]
  split <;> simp
theorem matL_deg {n : Nat} : ∀ {L : List (Int × Int)}, L.Nodup → (∀ p ∈ L, 0 ≤ p.1 ∧ p.1 < p.2 ∧ p.2 < n) → ∀ i, i < n → Sm n (matL L i) = (deg L (i : Nat) : Nat)
  | [], _, _, i, _ => by
    have : Sm n (matL [] i) = Sm n (fun _ => 0) := sm_congr fun j _ => by simp [matL]
    rw [this, sm_zero]
    rfl
  | (p1, p2) :: L, hn, hr, i, hi => by
    obtain ⟨h1, h2, h3⟩ := hr (p1, p2) (by simp)
    simp only at h1 h2 h3
    obtain ⟨a, rfl⟩ : ∃ a : Nat, p1 = (a : Int) := ⟨_, (Int.toNat_of_nonneg h1).symm⟩
    obtain ⟨b, rfl⟩ : ∃ b : Nat, p2 = (b : Int) := ⟨_, (Int.toNat_of_nonneg (by omega)).symm⟩
    rw [List.nodup_cons] at hn
    have ih := matL_deg hn.2 (fun p hp => hr p (by simp [hp])) i hi
    have : Sm n (matL (((a : Int), (b : Int)) :: L) i) = Sm n (addE (matL L) a b 1 i) := sm_congr fun j _ => matL_cons (by omega) hn.1 i j
    rw [this, addE_deg (by omega) (by omega) (by omega), ih, deg_cons]
    have hp : hasP (i : Nat) ((a : Int), (b : Int)) = decide (i = a ∨ i = b) := by
      unfold hasP
      rw [Bool.eq_iff_iff]
      simp only [Bool.or_eq_true, beq_iff_eq, decide_eq_true_eq]
      omega
    rw [hp]
    by_cases c1 : i = a <;> by_cases c2 : i = b <;> simp [c1, c2] <;> omega
theorem matL_mg {n : Nat} {L : List (Int × Int)} (h : Ties n L) : Mg n 1 (matL L) := by
  refine ⟨fun i j => ?_, fun i => ?_, fun i j => ?_, fun i j => ?_, fun i j hj => ?_⟩
  · unfold matL
    have e1 : min (i : Int) (j : Int) = min (j : Int) (i : Int) := by omega
    have e2 : max (i : Int) (j : Int) = max (j : Int) (i : Int) := by omega
    rw [e1, e2]
    have : (i ≠ j) ↔ (j ≠ i) := by omega
    simp only [this]
  · unfold matL
    simp
  · unfold matL
    split <;> omega
  · unfold matL
    split <;> omega
  · unfold matL
    rw [if_neg]
    rintro ⟨h1, h2⟩
    have := h.rng _ h2
    simp only at this
    omega
theorem tally_is {n : Nat} {L : List (Int × Int)} {i : Nat} (h : i < n) : numI (tallyI n L) i = (deg L (i : Nat) : Nat) := by
  unfold numI getI
  rw [Int.toNat_natCast, List.getD_eq_getElem?_getD, tallyI_get h]
  rfl
theorem mg_of_ties {n : Nat} {L : List (Int × Int)} (h : Ties n L) : IsMg n 1 (numI (tallyI n L)) (matL L) :=
  ⟨matL_mg h, fun i hi => by rw [matL_deg h.nodup h.rng i hi, tally_is hi]⟩
/-- the ties of a matrix -/
def listA (n : Nat) (A : Nat → Nat → Int) : List (Int × Int) := (pairsI n).filter fun p => decide (A p.1.toNat p.2.toNat = 1)
theorem listA_ties (n : Nat) (A : Nat → Nat → Int) : Ties n (listA n A) := (ties_pairs n).sub List.filter_sublist
theorem mem_listA {n : Nat} {A : Nat → Nat → Int} {a b : Nat} : ((a : Int), (b : Int)) ∈ listA n A ↔ a < b ∧ b < n ∧ A a b = 1 := by
  unfold listA
  rw [List.mem_filter, mem_pairs, decide_eq_true_eq]
  simp only [Int.toNat_natCast]
  omega
theorem matL_listA {n : Nat} {A : Nat → Nat → Int} (h : Mg n 1 A) {i j : Nat} (hi : i < n) (hj : j < n) : matL (listA n A) i j = A i j := by
  unfold matL
  by_cases ij : i = j
  · subst ij
    rw [if_neg (by simp), h.diag]
  · have h0 := h.nn i j
    have h1 := h.le i j
    rcases Nat.lt_or_gt_of_ne ij with c | c
    · have e1 : min (i : Int) (j : Int) = (i : Int) := by omega
      have e2 : max (i : Int) (j : Int) = (j : Int) := by omega
      rw [e1, e2]
      by_cases o : A i j = 1
      · rw [if_pos ⟨ij, mem_listA.mpr ⟨c, hj, o⟩⟩, o]
      · rw [if_neg fun z => o (mem_listA.mp z.2).2.2]
        omega
    · have e1 : min (i : Int) (j : Int) = (j : Int) := by omega
      have e2 : max (i : Int) (j : Int) = (i : Int) := by omega
      have sy := h.sym i j
      rw [e1, e2]
      by_cases o : A j i = 1
      · rw [if_pos ⟨ij, mem_listA.mpr ⟨c, hi, o⟩⟩]
        omega
      · rw [if_neg fun z => o (mem_listA.mp z.2).2.2]
        omega
theorem ties_of_mg {n : Nat} {A : Nat → Nat → Int} {ks : List Int} (hl : ks.length = n) (h : IsMg n 1 (numI ks) A) : tallyI n (listA n A) = ks := by
  refine List.ext_getElem? fun i => ?_
  by_cases hi : i < n
  · rw [tallyI_get hi, ← matL_deg (listA_ties n A).nodup (listA_ties n A).rng i hi]
    have : Sm n (matL (listA n A) i) = Sm n (A i) := sm_congr fun j hj => matL_listA h.1 hi hj
    rw [this, h.2 i hi]
    unfold numI getI
    rw [Int.toNat_natCast, List.getD_eq_getElem?_getD, List.getElem?_eq_getElem (by omega)]
    rfl
  · rw [List.getElem?_eq_none (by rw [tallyI_len]; omega), List.getElem?_eq_none (by omega)]
/-! ### the theorem, by lists -/
def HasWeb (ks : List Int) : Prop := ∃ L, Ties ks.length L ∧ tallyI ks.length L = ks
theorem sum_num (ks : List Int) : ks.sum = Sm ks.length (numI ks) := by
  unfold numI
  rw [sm_rng, getI_rng]
theorem negI_none {ks : List Int} : negI ks = none ↔ ∀ i, i < ks.length → 0 ≤ numI ks i := by
  unfold negI
  rw [List.find?_eq_none]
  constructor
  · intro h i hi
    have := h i (List.mem_range.mpr hi)
    simpa [numI] using this
  · intro h i hi
    have := h i (List.mem_range.mp hi)
    simpa [numI] using this
theorem thinI_none {ks : List Int} : thinI ks = none ↔ ∀ r : Nat, 1 ≤ r → r ≤ ks.length → 0 ≤ roomI ks r := by
  unfold thinI
  rw [List.find?_eq_none]
  constructor
  · intro h r h1 h2
    have := h (r - 1) (List.mem_range.mpr (by omega))
    rw [show (1 : Int) + ((r - 1 : Nat) : Int) = (r : Int) by omega] at this
    simpa using this
  · intro h i hi
    have := h (1 + i) (by omega) (by have := List.mem_range.mp hi; omega)
    rw [show ((1 + i : Nat) : Int) = 1 + (i : Int) by omega] at this
    simpa using this
theorem wallD_none {ks : List Int} : wallD ks = .none ↔ negI ks = none ∧ ks.sum % 2 = 0 ∧ thinI ks = none := by
  unfold wallD
  cases h1 : negI ks with
  | some p => simp
  | none =>
    by_cases h2 : ks.sum % 2 = 1
    · simp [h2]
    · cases h3 : thinI ks with
      | some p => simp [h2]
      | none =>
        simp [h2]
        omega
/-- rooms of all sets, by lists -/
theorem rooms_all {ks : List Int} {m : Int} (h0 : ∀ i, i < ks.length → 0 ≤ numI ks i) (h : ∀ r : Nat, 1 ≤ r → r ≤ ks.length → 0 ≤ thickR ks m r) (X : Nat → Bool) : 0 ≤ roomX ks.length m (numI ks) X := by
  have hg := roomX_ge ks m X
  obtain ⟨c, hc⟩ : ∃ c : Nat, cardX ks.length X = (c : Int) := ⟨_, (Int.toNat_of_nonneg (card_nn _ _)).symm⟩
  have hle : cardX ks.length X ≤ ks.length := by
    have : cardX ks.length X ≤ Sm ks.length (fun _ => 1) := sm_le fun i _ => by split <;> omega
    have o : ∀ n : Nat, Sm n (fun _ => 1) = (n : Int) := fun n => by
      induction n with
      | zero => rfl
      | succ n ih => simp only [Sm, ih]; omega
    rw [o] at this
    exact this
  rw [hc] at hg
  by_cases c0 : c = 0
  · subst c0
    have : thickR ks m ((0 : Nat) : Int) = ((descI ks).map fun x => min x 0).sum := by
      unfold thickR
      simp
    rw [this] at hg
    have hz : ∀ L : List Int, (∀ x ∈ L, 0 ≤ x) → (L.map fun x => min x 0).sum = 0 := fun L hL => by
      induction L with
      | nil => rfl
      | cons a L ih =>
        rw [List.map_cons, List.sum_cons, ih fun x hx => hL x (by simp [hx])]
        have := hL a (by simp)
        omega
    rw [hz] at hg
    · exact hg
    · intro x hx
      have := (descI_perm ks).mem_iff.mp hx
      obtain ⟨i, hi, rfl⟩ := List.getElem_of_mem this
      have := h0 i hi
      unfold numI getI at this
      rw [Int.toNat_natCast, List.getD_eq_getElem?_getD, List.getElem?_eq_getElem hi] at this
      exact this
  · have := h c (by omega) (by omega)
    omega
theorem web_iff {ks : List Int} : wallD ks = .none ↔ HasWeb ks := by
  rw [wallD_none]
  constructor
  · rintro ⟨h1, h2, h3⟩
    have h0 := negI_none.mp h1
    have hs : Sm ks.length (numI ks) = 2 * ((ks.sum / 2).toNat : Int) := by
      rw [← sum_num]
      have : 0 ≤ ks.sum := by
        rw [sum_num]
        exact sm_nonneg h0
      omega
    obtain ⟨A, hA⟩ := web_of_room (m := 1) (by omega) _ hs h0 (rooms_all h0 fun r a b => by
      rw [← roomI_thick]
      exact thinI_none.mp h3 r a b)
    exact ⟨listA _ A, listA_ties _ A, ties_of_mg rfl hA⟩
  · rintro ⟨L, hL, ht⟩
    have hA := mg_of_ties hL
    rw [ht] at hA
    refine ⟨negI_none.mpr fun i hi => ?_, ?_, thinI_none.mpr fun r h1 h2 => ?_⟩
    · rw [← hA.2 i hi]
      exact sm_nonneg fun j _ => hA.1.nn i j
    · have := tally_sum (n := ks.length) hL.rng
      rw [ht] at this
      omega
    · obtain ⟨X, hX⟩ := roomX_top ks 1 h2
      rw [roomI_thick, ← hX]
      exact room_of_web (by omega) hA.1 hA.2 X
/-! ### a place tied to told ones -/
/-- one of v's ties goes from y to x -/
theorem shift {n : Nat} {m : Int} {d : Nat → Int} {A : Nat → Nat → Int} (hA : IsMg n m d A) {v x y : Nat} (hv : v < n) (hx : x < n) (hy : y < n) (vx : v ≠ x) (vy : v ≠ y) (xy : x ≠ y) (h1 : A v x < m) (h2 : 0 < A v y) (h3 : d y - A v y < d x - A v x) :
    ∃ B, IsMg n m d B ∧ B v x = A v x + 1 ∧ B v y = A v y - 1 ∧ ∀ z, z ≠ x → z ≠ y → B v z = A v z := by
  obtain ⟨hA, hd⟩ := hA
  have hz : ∃ z, z < n ∧ (if z = v then 0 else if z = x then 0 else if z = y then 0 else A y z) < (if z = v then 0 else if z = x then 0 else if z = y then 0 else A x z) := by
    refine sm_lt ?_
    have e1 : ∀ u, Sm n (A u) = Sm n (fun z => if z = v then 0 else if z = x then 0 else if z = y then 0 else A u z) + A u v + A u x + A u y := fun u => by
      have : Sm n (A u) = Sm n (fun z => (((if z = v then 0 else if z = x then 0 else if z = y then 0 else A u z) + (if z = v then A u v else 0)) + (if z = x then A u x else 0)) + (if z = y then A u y else 0)) := by
        refine sm_congr fun z _ => ?_
        by_cases c1 : z = v
        · subst c1
          simp [vx, vy]
        · by_cases c2 : z = x
          · subst c2
            simp [xy, c1]
          · by_cases c3 : z = y
            · subst c3
              simp [c1, c2]
            · simp [c1, c2, c3]
      rw [this, sm_add, sm_add, sm_add, sm_one, sm_one, sm_one, if_pos hv, if_pos hx, if_pos hy]
    have a1 := e1 x
    have a2 := e1 y
    rw [hd x hx, hA.diag x] at a1
    rw [hd y hy, hA.diag y] at a2
    have s1 := hA.sym x v
    have s2 := hA.sym y v
    have s3 := hA.sym x y
    omega
  obtain ⟨z, hz, hzl⟩ := hz
  have zv : z ≠ v := fun e => by simp [e] at hzl
  have zx : z ≠ x := fun e => by
    subst e
    simp at hzl
  have zy : z ≠ y := fun e => by
    subst e
    simp at hzl
  simp only [zv, zx, zy, if_false] at hzl
  have n1 := hA.nn y z
  have l1 := hA.le x z
  have nv := hA.nn v x
  have lv := hA.le v y
  have B1 := mg_addE (k := 1) hA hv hx vx (by omega) (by omega)
  have v1 : addE A v x 1 v y = A v y := by unfold addE; rw [if_neg (by omega)]; omega
  have B2 := mg_addE (k := -1) B1 hv hy vy (by rw [v1]; omega) (by rw [v1]; omega)
  have v2 : addE (addE A v x 1) v y (-1) x z = A x z := by unfold addE; rw [if_neg (by omega), if_neg (by omega)]; omega
  have B3 := mg_addE (k := -1) B2 hx hz (Ne.symm zx) (by rw [v2]; omega) (by rw [v2]; omega)
  have v3 : addE (addE (addE A v x 1) v y (-1)) x z (-1) y z = A y z := by unfold addE; rw [if_neg (by omega), if_neg (by omega), if_neg (by omega)]; omega
  have B4 := mg_addE (k := 1) B3 hy hz (Ne.symm zy) (by rw [v3]; omega) (by rw [v3]; omega)
  refine ⟨_, ⟨B4, fun i hi => ?_⟩, ?_, ?_, fun t tx ty => ?_⟩
  · rw [addE_deg hy hz (Ne.symm zy), addE_deg hx hz (Ne.symm zx), addE_deg hv hy vy, addE_deg hv hx vx, hd i hi]
    split <;> split <;> split <;> split <;> omega
  · unfold addE
    rw [if_pos (show (v = v ∧ x = x) ∨ (v = x ∧ x = v) by omega), if_neg (show ¬ ((v = v ∧ x = y) ∨ (v = y ∧ x = v)) by omega), if_neg (show ¬ ((v = x ∧ x = z) ∨ (v = z ∧ x = x)) by omega), if_neg (show ¬ ((v = y ∧ x = z) ∨ (v = z ∧ x = y)) by omega)]
    omega
  · unfold addE
    rw [if_neg (show ¬ ((v = v ∧ y = x) ∨ (v = x ∧ y = v)) by omega), if_pos (show (v = v ∧ y = y) ∨ (v = y ∧ y = v) by omega), if_neg (show ¬ ((v = x ∧ y = z) ∨ (v = z ∧ y = x)) by omega), if_neg (show ¬ ((v = y ∧ y = z) ∨ (v = z ∧ y = y)) by omega)]
    omega
  · unfold addE
    rw [if_neg (show ¬ ((v = v ∧ t = x) ∨ (v = x ∧ t = v)) by omega), if_neg (show ¬ ((v = v ∧ t = y) ∨ (v = y ∧ t = v)) by omega), if_neg (show ¬ ((v = x ∧ t = z) ∨ (v = z ∧ t = x)) by omega), if_neg (show ¬ ((v = y ∧ t = z) ∨ (v = z ∧ t = y)) by omega)]
    omega
/-- .. to just those of N, the greatest of those that are not of W -/
theorem hh_row {n : Nat} {d : Nat → Int} {v : Nat} (hv : v < n) {N W : Nat → Bool} (nv : N v = false) (hN : cardX n N = d v) (nW : ∀ i, i < n → N i = true → W i = false) (top : ∀ x y, x < n → y < n → N x = true → N y = false → W y = false → y ≠ v → d y ≤ d x) :
    ∀ (k : Nat) {A : Nat → Nat → Int}, IsMg n 1 d A → (∀ i, i < n → W i = true → A v i = 0) → Sm n (fun i => if N i then 1 - A v i else 0) = (k : Int) → ∃ B, IsMg n 1 d B ∧ ∀ i, i < n → B v i = if N i then 1 else 0
  | 0, A, hA, hW, hk => by
    have h1 := sm_eq_zero (fun i _ => by have := hA.1.le v i; split <;> omega) hk
    refine ⟨A, hA, fun i hi => ?_⟩
    by_cases c : N i = true
    · have := h1 i hi
      simp [c] at this
      rw [if_pos c]
      omega
    · -- the others have none
      have hs : Sm n (fun i => if N i then 0 else A v i) = 0 := by
        have e : Sm n (A v) = Sm n (fun i => if N i then 0 else A v i) + Sm n (fun i => if N i then (1 : Int) else 0) := by
          rw [← sm_add]
          refine sm_congr fun j hj => ?_
          by_cases cj : N j = true
          · have := h1 j hj
            simp [cj] at this
            simp [cj]
            omega
          · simp [cj]
        rw [hA.2 v hv, ← hN] at e
        unfold cardX at e
        omega
      have := sm_eq_zero (fun j _ => by have := hA.1.nn v j; split <;> omega) hs i hi
      simp [c] at this
      rw [if_neg c]
      exact this
  | k + 1, A, hA, hW, hk => by
    obtain ⟨x, hx, hxp⟩ := sm_pos (f := fun i => if N i then 1 - A v i else 0) (n := n) (by rw [hk]; omega)
    by_cases Nx : N x = true
    · rw [if_pos Nx] at hxp
      have hy : ∃ y, y < n ∧ 0 < (if N y then 0 else A v y) := by
        refine sm_pos ?_
        have e : Sm n (A v) = (Sm n (fun i => if N i then 0 else A v i) + Sm n (fun i => if N i then (1 : Int) else 0)) - Sm n (fun i => if N i then 1 - A v i else 0) := by
          rw [← sm_add, ← sm_sub]
          refine sm_congr fun j hj => ?_
          by_cases cj : N j = true <;> simp [cj] <;> omega
        rw [hA.2 v hv, ← hN, hk] at e
        unfold cardX at e
        omega
      obtain ⟨y, hy, hyp⟩ := hy
      by_cases Ny : N y = true
      · simp [Ny] at hyp
      · rw [if_neg Ny] at hyp
        have Ny : N y = false := by simpa using Ny
        have Wy : W y = false := by
          cases c : W y with
          | false => rfl
          | true =>
            have := hW y hy c
            omega
        have vy : v ≠ y := fun e => by
          subst e
          rw [hA.1.diag] at hyp
          omega
        have vx : v ≠ x := fun e => by
          subst e
          rw [nv] at Nx
          cases Nx
        have xy : x ≠ y := fun e => by
          subst e
          rw [Nx] at Ny
          cases Ny
        have t := top x y hx hy Nx Ny Wy (Ne.symm vy)
        have n0 := hA.1.nn v x
        have l1 := hA.1.le v y
        obtain ⟨B, hB, b1, b2, b3⟩ := shift hA hv hx hy vx vy xy (by omega) hyp (by omega)
        refine hh_row hv nv hN nW top k hB (fun i hi Wi => ?_) ?_
        · have ix : i ≠ x := fun e => by
            subst e
            rw [nW i hi Nx] at Wi
            cases Wi
          have iy : i ≠ y := fun e => by
            subst e
            rw [Wy] at Wi
            cases Wi
          rw [b3 i ix iy]
          exact hW i hi Wi
        · have : Sm n (fun i => if N i then 1 - B v i else 0) = Sm n (fun i => (if N i then 1 - A v i else 0) - (if i = x then 1 else 0)) := by
            refine sm_congr fun i hi => ?_
            by_cases ix : i = x
            · subst ix
              simp [Nx, b1]
              omega
            · by_cases iy : i = y
              · subst iy
                simp [Ny, ix]
              · simp [ix, b3 i ix iy]
          rw [this, sm_sub, hk, sm_one, if_pos hx]
          omega
    · simp [Nx] at hxp
/-- .. whatever the web was -/
theorem hh {n : Nat} {d : Nat → Int} {v : Nat} {A : Nat → Nat → Int} (hA : IsMg n 1 d A) (hv : v < n) {N W : Nat → Bool} (nv : N v = false) (hN : cardX n N = d v) (nW : ∀ i, i < n → N i = true → W i = false) (hW : ∀ i, i < n → W i = true → A v i = 0) (top : ∀ x y, x < n → y < n → N x = true → N y = false → W y = false → y ≠ v → d y ≤ d x) :
    ∃ B, IsMg n 1 d B ∧ ∀ i, i < n → B v i = if N i then 1 else 0 := by
  have h0 : 0 ≤ Sm n (fun i => if N i then 1 - A v i else 0) := sm_nonneg fun i _ => by have := hA.1.le v i; split <;> omega
  exact hh_row hv nv hN nW top _ hA hW (Int.toNat_of_nonneg h0).symm

/-! ### webs laid place by place: plain Lean -/
theorem card_list {n : Nat} : ∀ {N : List Int}, N.Nodup → (∀ q ∈ N, 0 ≤ q ∧ q < n) → cardX n (fun i => decide (((i : Nat) : Int) ∈ N)) = (N.length : Nat)
  | [], _, _ => by
    unfold cardX
    have : Sm n (fun i => if decide (((i : Nat) : Int) ∈ ([] : List Int)) = true then (1 : Int) else 0) = Sm n (fun _ => 0) := sm_congr fun i _ => by simp
    rw [this, sm_zero]
    rfl
  | q :: N, hn, hr => by
    rw [List.nodup_cons] at hn
    have ih := card_list (n := n) hn.2 fun p hp => hr p (by simp [hp])
    obtain ⟨a, rfl⟩ : ∃ a : Nat, q = (a : Int) := ⟨_, (Int.toNat_of_nonneg (hr q (by simp)).1).symm⟩
    have ha : a < n := by
      have := (hr (a : Int) (by simp)).2
      omega
    unfold cardX at *
    have : Sm n (fun i => if decide (((i : Nat) : Int) ∈ ((a : Int) :: N)) = true then (1 : Int) else 0) = Sm n (fun i => (if decide (((i : Nat) : Int) ∈ N) = true then 1 else 0) + (if i = a then 1 else 0)) := by
      refine sm_congr fun i _ => ?_
      by_cases c : i = a
      · subst c
        simp [hn.1]
      · have : ¬ ((i : Nat) : Int) = (a : Int) := by omega
        simp [c, this]
    rw [this, sm_add, ih, sm_one, if_pos ha, List.length_cons]
    omega
theorem mem_rngL {a b q : Int} : q ∈ rngL a b ↔ a ≤ q ∧ q < b := by
  unfold rngL
  rw [List.mem_map]
  constructor
  · rintro ⟨i, hi, rfl⟩
    have := List.mem_range.mp hi
    omega
  · rintro ⟨h1, h2⟩
    exact ⟨(q - a).toNat, List.mem_range.mpr (by omega), by omega⟩
theorem rngL_nodup (a b : Int) : (rngL a b).Nodup := by
  unfold rngL
  refine List.pairwise_map.mpr (List.pairwise_lt_range.imp fun {a b} h => ?_)
  omega
theorem rngL_len (a b : Int) : (rngL a b).length = (b - a).toNat := by unfold rngL; rw [List.length_map, List.length_range]
/-- some places by falling numbers, the first ones -/
def firstI (ks ns : List Int) (k : Int) : List Int := (orderI ks ns).take k.toNat
theorem first_mem {ks ns : List Int} {k q : Int} (h : q ∈ firstI ks ns k) : q ∈ ns := (order_perm ks ns).mem_iff.mp (List.mem_of_mem_take h)
theorem first_nodup {ks ns : List Int} {k : Int} (h : ns.Nodup) : (firstI ks ns k).Nodup := ((order_perm ks ns).nodup_iff.mpr h).sublist (List.take_sublist _ _)
theorem first_len {ks ns : List Int} {k : Int} (h : k.toNat ≤ ns.length) : (firstI ks ns k).length = k.toNat := by
  unfold firstI
  rw [List.length_take, order_len]
  omega
theorem first_top {ks ns : List Int} {k p q : Int} (hp : p ∈ firstI ks ns k) (hq : q ∈ ns) (hn : q ∉ firstI ks ns k) : getI ks q ≤ getI ks p := by
  have srt := order_srt ks ns
  have hq2 := (order_perm ks ns).mem_iff.mpr hq
  unfold firstI at hp hn
  rw [← List.take_append_drop k.toNat (orderI ks ns)] at srt hq2
  rcases List.mem_append.mp hq2 with c | c
  · exact absurd c hn
  · have := (List.pairwise_append.mp srt).2.2 p hp q c
    unfold keyI at this
    show ks.getD q.toNat 0 ≤ ks.getD p.toNat 0
    omega
/-- v's row and column are emptied -/
def delV (A : Nat → Nat → Int) (v : Nat) : Nat → Nat → Int := fun i j => if i = v ∨ j = v then 0 else A i j
theorem mg_delV {n : Nat} {m : Int} {A : Nat → Nat → Int} (hm : 0 ≤ m) (h : Mg n m A) (v : Nat) : Mg n m (delV A v) := by
  refine ⟨fun i j => ?_, fun i => ?_, fun i j => ?_, fun i j => ?_, fun i j hj => ?_⟩ <;> unfold delV
  · rw [h.sym i j]
    have : (i = v ∨ j = v) ↔ (j = v ∨ i = v) := by omega
    simp only [this]
  · rw [h.diag]
    split <;> rfl
  · have := h.nn i j
    split <;> omega
  · have := h.le i j
    split <;> omega
  · rw [h.out i j hj]
    split <;> rfl
theorem delV_deg {n : Nat} {A : Nat → Nat → Int} {v : Nat} (hv : v < n) (i : Nat) : Sm n (delV A v i) = if i = v then 0 else Sm n (A i) - A i v := by
  by_cases c : i = v
  · rw [if_pos c]
    have : Sm n (delV A v i) = Sm n (fun _ => 0) := sm_congr fun j _ => by unfold delV; rw [if_pos (.inl c)]
    rw [this, sm_zero]
  · rw [if_neg c]
    have : Sm n (delV A v i) = Sm n (fun j => A i j - (if j = v then A i v else 0)) := sm_congr fun j _ => by
      unfold delV
      by_cases e : j = v
      · subst e
        simp
      · simp [c, e]
    rw [this, sm_sub, sm_one, if_pos hv]
/-- what is still to be laid: the places from v on -/
def fromV (v : Nat) (left : List Int) : Nat → Int := fun i => if i < v then 0 else numI left i
theorem step_v {n v : Nat} {left : List Int} {A : Nat → Nat → Int} (hv : v < n) (hA : IsMg n 1 (fromV v left) A) :
    0 ≤ getI left (v : Nat) ∧ getI left (v : Nat) ≤ n - (v + 1) ∧ ∃ B, IsMg n 1 (fun i => if i < v + 1 then 0 else numI left i - (if ((i : Nat) : Int) ∈ firstI left (rngL ((v : Int) + 1) n) (getI left (v : Nat)) then 1 else 0)) B := by
  have row0 : ∀ i, i < v → ∀ j, j < n → A i j = 0 := fun i hi j hj => by
    have h1 := hA.2 i (by omega)
    unfold fromV at h1
    rw [if_pos hi] at h1
    exact sm_eq_zero (fun j _ => hA.1.nn i j) h1 j hj
  have dv : Sm n (A v) = getI left (v : Nat) := by
    rw [hA.2 v hv]
    unfold fromV
    rw [if_neg (by omega)]
    rfl
  have g0 : 0 ≤ getI left (v : Nat) := by
    rw [← dv]
    exact sm_nonneg fun j _ => hA.1.nn v j
  have g1 : getI left (v : Nat) ≤ n - (v + 1) := by
    rw [← dv]
    have : Sm n (A v) ≤ Sm n (fun j => if j < v + 1 then 0 else 1) := sm_le fun j hj => by
      by_cases c : j < v + 1
      · rw [if_pos c]
        by_cases e : j = v
        · rw [e, hA.1.diag]
          exact Int.le_refl _
        · have := hA.1.sym v j
          have := row0 j (by omega) v hv
          omega
      · rw [if_neg c]
        exact hA.1.le v j
    have cnt : ∀ n : Nat, v + 1 ≤ n → Sm n (fun j => if j < v + 1 then 0 else 1) = (n : Int) - (v + 1) := by
      intro n
      induction n with
      | zero => intro h; omega
      | succ n ih =>
        intro h
        simp only [Sm]
        by_cases c : v + 1 ≤ n
        · rw [ih c, if_neg (by omega)]
          omega
        · have e : n = v := by omega
          subst e
          have z : Sm n (fun j => if j < n + 1 then (0 : Int) else 1) = Sm n (fun _ => 0) := sm_congr fun j hj => by rw [if_pos (by omega)]
          rw [z, sm_zero, if_pos (by omega)]
          omega
    rw [cnt n (by omega)] at this
    exact this
  refine ⟨g0, g1, ?_⟩
  have hmem : ∀ q ∈ firstI left (rngL ((v : Int) + 1) n) (getI left (v : Nat)), (v : Int) + 1 ≤ q ∧ q < n := fun q hq => mem_rngL.mp (first_mem hq)
  have hlen := first_len (ks := left) (ns := rngL ((v : Int) + 1) n) (k := getI left (v : Nat)) (by rw [rngL_len]; omega)
  have hnd := first_nodup (ks := left) (k := getI left (v : Nat)) (rngL_nodup ((v : Int) + 1) n)
  have htop := fun p q => first_top (ks := left) (ns := rngL ((v : Int) + 1) n) (k := getI left (v : Nat)) (p := p) (q := q)
  generalize firstI left (rngL ((v : Int) + 1) n) (getI left (v : Nat)) = N at *
  obtain ⟨B, hB, hrow⟩ := hh (N := fun i => decide (((i : Nat) : Int) ∈ N)) (W := fun i => decide (i < v)) hA hv (by
      rw [decide_eq_false_iff_not]
      intro c
      have := hmem _ c
      omega) (by
      rw [card_list hnd fun q hq => by have := hmem q hq; omega, hlen]
      unfold fromV
      rw [if_neg (by omega)]
      show _ = getI left (v : Nat)
      omega) (fun i hi c => by
      rw [decide_eq_true_eq] at c
      rw [decide_eq_false_iff_not]
      have := hmem _ c
      omega) (fun i hi c => by
      rw [decide_eq_true_eq] at c
      rw [hA.1.sym]
      exact row0 i c v hv) (fun x y hx hy c1 c2 c3 c4 => by
      rw [decide_eq_true_eq] at c1
      rw [decide_eq_false_iff_not] at c2 c3
      have h1 := hmem _ c1
      have := htop _ _ c1 (mem_rngL.mpr ⟨by omega, by omega⟩) c2
      unfold fromV
      rw [if_neg c3, if_neg (by omega)]
      exact this)
  refine ⟨delV B v, mg_delV (by omega) hB.1 v, fun i hi => ?_⟩
  rw [delV_deg hv, hB.2 i hi, hB.1.sym i v, hrow i hi]
  unfold fromV
  by_cases c : i < v
  · have : i < v + 1 := by omega
    have hn : ((i : Nat) : Int) ∉ N := fun z => by
      have := hmem _ z
      omega
    have iv : i ≠ v := by omega
    simp [c, this, hn, iv]
  · by_cases e : i = v
    · subst e
      simp
    · have : ¬ i < v + 1 := by omega
      simp [c, e, this]
/-- ties laid, in any order -/
structure Laid (n : Nat) (T : List (Int × Int)) : Prop where
  nd : T.Nodup
  rng : ∀ p ∈ T, 0 ≤ p.1 ∧ p.1 < p.2 ∧ p.2 < n
theorem Laid.len {n : Nat} {T : List (Int × Int)} (h : Laid n T) (hn : n ≤ 24) : T.length ≤ 576 :=
  Nat.le_trans (perm_len h.nd fun p hp => mem_pairs.mpr (h.rng p hp)) (pairs_len hn)
theorem Laid.nrm_id {n : Nat} {T : List (Int × Int)} (h : Laid n T) : T.map nrm = T := by
  have : ∀ p ∈ T, nrm p = p := fun p hp => by
    have := h.rng p hp
    exact Prod.ext (by show min p.1 p.2 = p.1; omega) (by show max p.1 p.2 = p.2; omega)
  rw [List.map_congr_left this, List.map_id']
theorem Laid.ties {n : Nat} {T : List (Int × Int)} (h : Laid n T) : Ties n (sortP T) := ⟨sortP_srt h.nd, fun p hp => h.rng p ((sortP_perm T).mem_iff.mp hp)⟩
theorem Laid.fits {n : Nat} {T : List (Int × Int)} (h : Laid n T) : Fits (n : Nat) T := by
  refine ⟨fun p hp => ?_, by rw [h.nrm_id]; exact h.nd⟩
  have := h.rng p hp
  show 0 ≤ min p.1 p.2 ∧ min p.1 p.2 < max p.1 p.2 ∧ max p.1 p.2 < (n : Int)
  omega
def raysI (v : Nat) (N : List Int) : List (Int × Int) := N.map fun q => ((v : Int), q)
theorem rays_laid {n v : Nat} {T : List (Int × Int)} {N : List Int} (h : Laid n T) (hT : ∀ p ∈ T, p.1 < v) (nd : N.Nodup) (hN : ∀ q ∈ N, (v : Int) + 1 ≤ q ∧ q < n) : Laid n (T ++ raysI v N) := by
  refine ⟨?_, fun p hp => ?_⟩
  · rw [List.nodup_append]
    refine ⟨h.nd, List.pairwise_map.mpr (nd.imp fun {a b} ne e => ne (congrArg Prod.snd e)), fun p hp q hq e => ?_⟩
    obtain ⟨a, _, rfl⟩ := List.mem_map.mp hq
    have := hT p hp
    rw [e] at this
    exact absurd this (by show ¬ (v : Int) < v; omega)
  · rcases List.mem_append.mp hp with hp | hp
    · exact h.rng p hp
    · obtain ⟨a, ha, rfl⟩ := List.mem_map.mp hp
      have := hN a ha
      show 0 ≤ (v : Int) ∧ (v : Int) < a ∧ a < n
      omega
theorem rays_deg {v : Nat} : ∀ {N : List Int}, N.Nodup → (∀ q ∈ N, q ≠ (v : Int)) → ∀ i : Nat, ((deg (raysI v N) (i : Nat) : Nat) : Int) = if i = v then (N.length : Int) else if ((i : Nat) : Int) ∈ N then 1 else 0
  | [], _, _, i => by simp [raysI, deg]
  | q :: N, nd, hq, i => by
    rw [List.nodup_cons] at nd
    have ih := rays_deg nd.2 (fun p hp => hq p (by simp [hp])) i
    have h1 := hq q (by simp)
    show ((deg (((v : Int), q) :: raysI v N) (i : Nat) : Nat) : Int) = _
    rw [deg_cons, Int.natCast_add, ih]
    unfold hasP
    by_cases c : i = v
    · subst c
      simp
    · have c1 : ¬ ((v : Int) = (i : Nat)) := by omega
      by_cases c2 : q = (i : Nat)
      · subst c2
        simp [c, c1, nd.1]
      · have c3 : ¬ ((i : Nat) : Int) = q := fun e => c2 e.symm
        simp [c, c1, c2, c3]
/-- what the laying keeps: so far all places below v are laid -/
structure LaidTo (ks : List Int) (v : Nat) (left : List Int) (T : List (Int × Int)) : Prop where
  len : left.length = ks.length
  laid : Laid ks.length T
  fst : ∀ p ∈ T, p.1 < v
  web : ∃ A, IsMg ks.length 1 (fromV v left) A
  sum : ∀ i, i < ks.length → numI ks i = (deg T (i : Nat) : Nat) + fromV v left i
theorem laid_zero {ks : List Int} (h : HasWeb ks) : LaidTo ks 0 ks [] := by
  obtain ⟨L, hL, e⟩ := h
  have e2 : ∀ i, fromV 0 ks i = numI ks i := fun i => by unfold fromV; rw [if_neg (by omega)]
  refine ⟨rfl, ⟨List.nodup_nil, fun p hp => by simp at hp⟩, fun p hp => by simp at hp, ⟨matL L, (mg_of_ties hL).1, fun i hi => ?_⟩, fun i hi => ?_⟩
  · rw [e2, (mg_of_ties hL).2 i hi, e]
  · rw [e2]
    simp [deg]
theorem lessA_num {ks N : List Int} {i : Nat} (h : i < ks.length) : numI (lessA ks N) i = numI ks i - (if ((i : Nat) : Int) ∈ N then 1 else 0) := by
  show (lessA ks N).getD (Int.toNat (i : Nat)) 0 = _
  rw [List.getD_eq_getElem?_getD, Int.toNat_natCast, lessA_get h]
  rfl
theorem laid_step {ks left : List Int} {v : Nat} {T : List (Int × Int)} (hv : v < ks.length) (h : LaidTo ks v left T) : LaidTo ks (v + 1) (lessA left (firstI left (rngL ((v : Int) + 1) ks.length) (getI left (v : Nat)))) (T ++ raysI v (firstI left (rngL ((v : Int) + 1) ks.length) (getI left (v : Nat)))) := by
  obtain ⟨A, hA⟩ := h.web
  obtain ⟨g0, g1, B, hB⟩ := step_v hv hA
  have hmem : ∀ q ∈ firstI left (rngL ((v : Int) + 1) ks.length) (getI left (v : Nat)), (v : Int) + 1 ≤ q ∧ q < ks.length := fun q hq => mem_rngL.mp (first_mem hq)
  have hlen := first_len (ks := left) (ns := rngL ((v : Int) + 1) ks.length) (k := getI left (v : Nat)) (by rw [rngL_len]; omega)
  have hnd := first_nodup (ks := left) (k := getI left (v : Nat)) (rngL_nodup ((v : Int) + 1) ks.length)
  generalize firstI left (rngL ((v : Int) + 1) ks.length) (getI left (v : Nat)) = N at *
  have e : ∀ i, i < ks.length → fromV (v + 1) (lessA left N) i = (if i < v + 1 then 0 else numI left i - (if ((i : Nat) : Int) ∈ N then 1 else 0)) := fun i hi => by
    unfold fromV
    rw [lessA_num (by rw [h.len]; exact hi)]
  refine ⟨by rw [lessA_len, h.len], rays_laid h.laid h.fst hnd hmem, fun p hp => ?_, ⟨B, hB.1, fun i hi => ?_⟩, fun i hi => ?_⟩
  · rcases List.mem_append.mp hp with hp | hp
    · have := h.fst p hp
      omega
    · obtain ⟨a, _, rfl⟩ := List.mem_map.mp hp
      show (v : Int) < _
      omega
  · rw [e i hi, hB.2 i hi]
  · rw [e i hi, deg_append, Int.natCast_add, rays_deg hnd (fun q hq => by have := hmem q hq; omega), h.sum i hi]
    unfold fromV
    by_cases c : i < v
    · have c2 : ((i : Nat) : Int) ∉ N := fun z => by have := hmem _ z; omega
      have c3 : i ≠ v := by omega
      have c4 : i < v + 1 := by omega
      simp [c, c2, c3, c4]
    · by_cases c3 : i = v
      · subst c3
        have : numI left i = getI left (i : Nat) := rfl
        simp [hlen]
        omega
      · have c4 : ¬ i < v + 1 := by omega
        simp only [if_neg c, if_neg c3, if_neg c4]
        omega
theorem laid_end {ks left : List Int} {T : List (Int × Int)} (h : LaidTo ks ks.length left T) : tallyI ks.length (sortP T) = ks := by
  rw [tally_perm (sortP_perm T)]
  refine List.ext_getElem? fun i => ?_
  by_cases c : i < ks.length
  · rw [tallyI_get c, List.getElem?_eq_getElem c]
    have := h.sum i c
    unfold fromV at this
    rw [if_pos c] at this
    have e : numI ks i = ks[i] := by
      show ks.getD (Int.toNat (i : Nat)) 0 = _
      rw [List.getD_eq_getElem?_getD, Int.toNat_natCast, List.getElem?_eq_getElem c]
      rfl
    congr 1
    omega
  · rw [List.getElem?_eq_none (by rw [tallyI_len]; omega), List.getElem?_eq_none (by omega)]
/-- a turn of the laying, and all of them -/
def layS (n : Nat) (s : List Int × List (Int × Int)) (v : Nat) : List Int × List (Int × Int) := (lessA s.1 (firstI s.1 (rngL ((v : Int) + 1) n) (getI s.1 (v : Nat))), s.2 ++ raysI v (firstI s.1 (rngL ((v : Int) + 1) n) (getI s.1 (v : Nat))))
def laidTo (ks : List Int) (v : Nat) : List Int × List (Int × Int) := (List.range v).foldl (layS ks.length) (ks, [])
def laidL (ks : List Int) : List (Int × Int) := sortP (laidTo ks ks.length).2
theorem laidTo_succ (ks : List Int) (v : Nat) : laidTo ks (v + 1) = layS ks.length (laidTo ks v) v := by
  unfold laidTo
  rw [List.range_succ, List.foldl_append]
  rfl
theorem laidTo_ok {ks : List Int} (h : HasWeb ks) : ∀ v, v ≤ ks.length → LaidTo ks v (laidTo ks v).1 (laidTo ks v).2
  | 0, _ => laid_zero h
  | v + 1, hv => by
    have ih := laidTo_ok h v (by omega)
    rw [laidTo_succ]
    exact laid_step (by omega) ih
theorem laidL_ties {ks : List Int} (h : HasWeb ks) : Ties ks.length (laidL ks) := (laidTo_ok h _ (Nat.le_refl _)).laid.ties
theorem laidL_tally {ks : List Int} (h : HasWeb ks) : tallyI ks.length (laidL ks) = ks := laid_end (laidTo_ok h _ (Nat.le_refl _))

theorem room_web {ks : List Int} (h : HasWeb ks) {r : Int} (h0 : 0 ≤ r) (h1 : r ≤ ks.length) : 0 ≤ roomI ks r := by
  obtain ⟨k, rfl⟩ : ∃ k : Nat, r = (k : Int) := ⟨_, (Int.toNat_of_nonneg h0).symm⟩
  obtain ⟨X, hX⟩ := roomX_top ks 1 (r := k) (by omega)
  rw [roomI_thick, ← hX]
  obtain ⟨L, hL, e⟩ := h
  have := mg_of_ties hL
  rw [e] at this
  exact room_of_web (by decide) this.1 this.2 X
theorem no_shows {ks : List Int} (h : HasWeb ks) (f : Fence) : showsI ks f = false := by
  obtain ⟨a, b, c⟩ := wallD_none.mp (web_iff.mpr h)
  cases f with
  | odd => exact decide_eq_false (by omega)
  | below i =>
    refine decide_eq_false fun ⟨x, y, z⟩ => ?_
    have := negI_none.mp a i.toNat (by omega)
    unfold numI at this
    rw [Int.toNat_of_nonneg x] at this
    omega
  | wall i =>
    refine decide_eq_false fun ⟨x, y, z⟩ => ?_
    have := room_web h (r := i) (by omega) y
    omega
theorem shp_eWZ {k : Nat} (n : Int) (L : List (Int × Int)) : Shp (k + 3) (eWZ n L) := fun d hd => by
  simp only [List.mem_cons, List.not_mem_nil, or_false] at hd
  rcases hd with rfl | rfl
  · exact shp_int _
  · exact shp_map shp_pair L
theorem nb_eWZ {k : Nat} (n : Int) (L : List (Int × Int)) : Nb (k + 3) (eWZ n L) := fun d hd => by
  simp only [List.mem_cons, List.not_mem_nil, or_false] at hd
  rcases hd with rfl | rfl
  · exact nb_int _
  · exact nb_map nb_pair L
theorem eF_inj {f g : Fence} (h : eF f = eF g) : f = g := by
  have e1 : ("odd" : Str) ≠ "below" := by decide +kernel
  have e2 : ("odd" : Str) ≠ "wall" := by decide +kernel
  have e3 : ("below" : Str) ≠ "wall" := by decide +kernel
  cases f <;> cases g <;> simp [eF] at h
  · rfl
  · rw [h]
  · exact absurd h.1 (by decide +kernel)
  · exact absurd h.1 (by decide +kernel)
  · rw [h]
theorem shp_eF {k : Nat} (f : Fence) : Shp (k + 2) (eF f) := by
  cases f with
  | odd => exact shp_s _ ok_odd
  | below i => exact shp_si _ ok_below i
  | wall i => exact shp_si _ ok_wall i
theorem nb_eF {k : Nat} (f : Fence) : Nb (k + 2) (eF f) := by
  cases f with
  | odd => exact nb_s _
  | below i => exact nb_si _ i
  | wall i => exact nb_si _ i
theorem wall_eF {ks : List Int} (h : isN (wallD ks) = false) : ∃ f, wallD ks = eF f ∧ showsI ks f = true := by
  unfold wallD at h ⊢
  split
  · rename_i p hp
    refine ⟨.below (p : Nat), rfl, ?_⟩
    all_goals
      unfold negI at hp
      have h1 := List.find?_some hp
      have h2 := List.mem_of_find?_eq_some hp
      have h3 := List.mem_range.mp h2
    refine decide_eq_true ⟨by omega, by omega, ?_⟩
    simpa using h1
  · split
    · rename_i hp o
      exact ⟨.odd, rfl, decide_eq_true o⟩
    · split
      · rename_i r hr
        unfold thinI at hr
        have h1 := List.find?_some hr
        have h2 := List.mem_of_find?_eq_some hr
        have h3 := List.mem_range.mp h2
        refine ⟨.wall (1 + (r : Nat)), rfl, decide_eq_true ⟨by omega, by omega, by simpa using h1⟩⟩
      · rename_i h1 h2 _ h3
        simp only [h1, if_neg h2, h3] at h
        exact absurd h (by decide)

/-! ### parted webs: plain Lean -/
theorem web_deg2 {ks : List Int} (h : HasWeb ks) {p : Nat} (hp : p < ks.length) : 0 ≤ getI ks (p : Nat) := by
  obtain ⟨L, hL, e⟩ := h
  have hA := mg_of_ties hL
  rw [e] at hA
  have h1 : Sm ks.length (matL L p) = getI ks (p : Nat) := hA.2 p hp
  rw [← h1]
  exact sm_nonneg fun i _ => hA.1.nn p i
def partT (X : Nat → Bool) (A : Nat → Nat → Int) (i j : Nat) : Int := if X i = true then (if X j = true then (if j = i then 0 else 1 - A i j) else 0) else (if X j = true then 0 else A i j)
theorem part_sum {n : Nat} {d : Nat → Int} {A : Nat → Nat → Int} (hA : IsMg n 1 d A) (X : Nat → Bool) : Sm n (fun i => Sm n (partT X A i)) = cardX n X * (cardX n X - 1) + Sm n (fun i => if X i = true then 0 else d i) - Sm n (fun i => if X i = true then d i else 0) := by
  have inner : ∀ i, i < n → Sm n (partT X A i) = ((cardX n X - 1) * (if X i = true then 1 else 0) + (if X i = true then 0 else d i)) - Sm n (fun j => if X j = true then A i j else 0) := fun i hi => by
    by_cases c : X i = true
    · rw [if_pos c, if_pos c]
      have : Sm n (partT X A i) = Sm n (fun j => ((if X j = true then 1 else 0) - (if j = i then 1 else 0)) - (if X j = true then A i j else 0)) := sm_congr fun j _ => by
        unfold partT
        rw [if_pos c]
        by_cases c2 : j = i
        · subst c2
          rw [if_pos c, if_pos rfl, if_pos c, if_pos rfl, if_pos c, hA.1.diag]
          rfl
        · by_cases c3 : X j = true
          · rw [if_pos c3, if_neg c2, if_pos c3, if_neg c2, if_pos c3]
            omega
          · rw [if_neg c3, if_neg c3, if_neg c2, if_neg c3]
            rfl
      rw [this, sm_sub, sm_sub, sm_one, if_pos hi]
      show cardX n X - 1 - _ = _
      omega
    · rw [if_neg c, if_neg c]
      have : Sm n (partT X A i) = Sm n (fun j => A i j - (if X j = true then A i j else 0)) := sm_congr fun j _ => by
        unfold partT
        rw [if_neg c]
        split <;> omega
      rw [this, sm_sub, hA.2 i hi]
      omega
  rw [sm_congr inner, sm_sub, sm_add, sm_mul, sm_swap]
  have e : Sm n (fun j => Sm n (fun i => if X j = true then A i j else 0)) = Sm n (fun j => if X j = true then d j else 0) := sm_congr fun j hj => by
    by_cases c : X j = true
    · rw [if_pos c, ← hA.2 j hj]
      refine sm_congr fun i _ => ?_
      rw [if_pos c, hA.1.sym]
    · have z : Sm n (fun i => if X j = true then A i j else 0) = Sm n (fun _ => 0) := sm_congr fun i _ => if_neg c
      rw [z, sm_zero, if_neg c]
  rw [e]
  show (cardX n X - 1) * cardX n X + _ - _ = _
  rw [Int.mul_comm]
theorem part_nn {n : Nat} {X : Nat → Bool} {A : Nat → Nat → Int} (h : Mg n 1 A) (i j : Nat) : 0 ≤ partT X A i j := by
  unfold partT
  have := h.nn i j
  have := h.le i j
  split <;> split <;> (try split) <;> omega
theorem part_zero {n : Nat} {X : Nat → Bool} {A : Nat → Nat → Int} (h : Mg n 1 A) (e : Sm n (fun i => Sm n (partT X A i)) = 0) : ∀ i j, i < n → j < n → partT X A i j = 0 := fun i j hi hj =>
  sm_eq_zero (fun j _ => part_nn h i j) (sm_eq_zero (fun i _ => sm_nonneg fun j _ => part_nn h i j) e i hi) j hj
abbrev ordL (ks : List Int) : List Int := orderI ks (rngI ks.length)
theorem ord_len (ks : List Int) : (ordL ks).length = ks.length := by rw [order_len, rngI_len]
theorem ord_nodup (ks : List Int) : (ordL ks).Nodup := by
  refine (order_perm ks _).nodup_iff.mpr ?_
  unfold rngI
  exact List.pairwise_map.mpr (List.pairwise_lt_range.imp fun {i j} h => by omega)
theorem ord_fall {ks : List Int} {i j : Nat} (hij : i ≤ j) (hj : j < ks.length) : getI ks ((ordL ks).getD j 0) ≤ getI ks ((ordL ks).getD i 0) := by
  by_cases e : i = j
  · subst e
    exact Int.le_refl _
  · have hl := ord_len ks
    rw [List.getD_eq_getElem?_getD, List.getD_eq_getElem?_getD, List.getElem?_eq_getElem (show j < (ordL ks).length by omega), List.getElem?_eq_getElem (show i < (ordL ks).length by omega)]
    have this : keyI ks ((ordL ks)[i]'(by omega)) < keyI ks ((ordL ks)[j]'(by omega)) ∨ (keyI ks ((ordL ks)[i]'(by omega)) = keyI ks ((ordL ks)[j]'(by omega)) ∧ (ordL ks)[i]'(by omega) ≤ (ordL ks)[j]'(by omega)) := List.pairwise_iff_getElem.mp (order_srt ks (rngI ks.length)) i j (by have h3 : (orderI ks (rngI ks.length)).length = ks.length := hl; omega) (by have h3 : (orderI ks (rngI ks.length)).length = ks.length := hl; omega) (by omega)
    unfold keyI at this
    show ks.getD (Int.toNat _) 0 ≤ ks.getD (Int.toNat _) 0
    simp only [Option.getD_some]
    omega
theorem desc_at {ks : List Int} {k : Nat} (hk : k < ks.length) : (descI ks)[k]? = some (getI ks ((ordL ks).getD k 0)) := by
  have hl := ord_len ks
  rw [← order_desc, List.getElem?_map, List.getD_eq_getElem?_getD, List.getElem?_eq_getElem (show k < (ordL ks).length by omega)]
  rfl
structure ManyR (ks : List Int) (M : Nat) : Prop where
  one : 1 ≤ M
  le : M ≤ ks.length
  ge : ∀ k : Nat, 1 ≤ k → k < M → (k : Int) ≤ getI ks ((ordL ks).getD k 0)
  lt : M = ks.length ∨ getI ks ((ordL ks).getD M 0) < M
theorem ManyR.uniq {ks : List Int} {M N : Nat} (h : ManyR ks M) (k : ManyR ks N) : M = N := by
  refine Classical.byContradiction fun c => ?_
  rcases (show M < N ∨ N < M by omega) with d | d
  · have := k.ge M h.one d
    have := k.le
    rcases h.lt with e | e <;> omega
  · have := h.ge N k.one d
    have := h.le
    rcases k.lt with e | e <;> omega
theorem take_sum {ks : List Int} {M : Nat} (hM : M ≤ ks.length) : Sm ks.length (fun i => if decide (((i : Nat) : Int) ∈ (ordL ks).take M) = true then numI ks i else 0) = ((descI ks).take M).sum ∧ Sm ks.length (fun i => if decide (((i : Nat) : Int) ∈ (ordL ks).take M) = true then 0 else numI ks i) = ((descI ks).drop M).sum := by
  have nd := ord_nodup ks
  have sp := List.take_append_drop M (ordL ks)
  rw [← sp, List.nodup_append] at nd
  have h1 := sm_order ks (fun q => if decide (q ∈ (ordL ks).take M) = true then getI ks q else 0)
  have h2 := sm_order ks (fun q => if decide (q ∈ (ordL ks).take M) = true then 0 else getI ks q)
  have e1 : ∀ q ∈ (ordL ks).drop M, q ∉ (ordL ks).take M := fun q hq c => nd.2.2 q c q hq rfl
  have z : ∀ l : List Int, (l.map fun _ => (0 : Int)).sum = 0 := fun l => by
    induction l with
    | nil => rfl
    | cons a l ih => rw [List.map_cons, List.sum_cons, ih]; rfl
  have k1 : ∀ G R : List Int, (∀ q ∈ R, q ∉ G) → ((G ++ R).map fun q => if decide (q ∈ G) = true then getI ks q else 0).sum = (G.map (getI ks)).sum := fun G R h => by
    rw [List.map_append, List.sum_append, List.map_congr_left (l := R) (g := fun _ => (0 : Int)) fun q hq => if_neg (by rw [decide_eq_true_eq]; exact h q hq), z, Int.add_zero]
    exact congrArg List.sum (List.map_congr_left fun q hq => if_pos (by rw [decide_eq_true_eq]; exact hq))
  have k2 : ∀ G R : List Int, (∀ q ∈ R, q ∉ G) → ((G ++ R).map fun q => if decide (q ∈ G) = true then 0 else getI ks q).sum = (R.map (getI ks)).sum := fun G R h => by
    rw [List.map_append, List.sum_append, List.map_congr_left (l := G) (g := fun _ => (0 : Int)) fun q hq => if_pos (by rw [decide_eq_true_eq]; exact hq), z, Int.zero_add]
    exact congrArg List.sum (List.map_congr_left fun q hq => if_neg (by rw [decide_eq_true_eq]; exact h q hq))
  have r1 := k1 _ _ e1
  have r2 := k2 _ _ e1
  rw [sp] at r1 r2
  rw [← order_desc]
  exact ⟨(h1.trans r1).trans (by rw [← List.map_take]), (h2.trans r2).trans (by rw [← List.map_drop])⟩
theorem card_take {ks : List Int} {M : Nat} (hM : M ≤ ks.length) : cardX ks.length (fun i => decide (((i : Nat) : Int) ∈ (ordL ks).take M)) = (M : Nat) := by
  rw [card_list ((ord_nodup ks).sublist (List.take_sublist _ _)) fun q hq => mem_order.mp (List.mem_of_mem_take hq), List.length_take, ord_len, Nat.min_eq_left hM]
theorem part_room {ks : List Int} {M : Nat} {A : Nat → Nat → Int} (hA : IsMg ks.length 1 (numI ks) A) (hM : ManyR ks M) : roomI ks (M : Nat) = Sm ks.length (fun i => Sm ks.length (partT (fun i => decide (((i : Nat) : Int) ∈ (ordL ks).take M)) A i)) := by
  rw [part_sum hA, card_take hM.le, (take_sum hM.le).1, (take_sum hM.le).2]
  have : ((descI ks).drop M).map (fun x => min x ((M : Nat) : Int)) = (descI ks).drop M := by
    conv => rhs; rw [← List.map_id ((descI ks).drop M)]
    refine List.map_congr_left fun x hx => ?_
    obtain ⟨k, hk, rfl⟩ := List.getElem_of_mem hx
    rw [List.length_drop, descI_len] at hk
    have e := desc_at (ks := ks) (k := M + k) (by omega)
    rw [List.getElem?_eq_getElem (by rw [descI_len]; omega)] at e
    rw [List.getElem_drop, Option.some.inj e]
    have f := ord_fall (ks := ks) (i := M) (j := M + k) (by omega) (by omega)
    rcases hM.lt with g | g
    · omega
    · show min _ _ = id _
      simp only [id]
      omega
  unfold roomI roomP
  rw [Int.toNat_natCast, this]
  omega
def PartsP (L : List (Int × Int)) (n : Nat) (K : List Int) : Prop := ∀ u v : Nat, u < v → v < n → (((u : Int) ∈ K ∧ (v : Int) ∈ K → ((u : Int), (v : Int)) ∈ L) ∧ ((u : Int) ∉ K ∧ (v : Int) ∉ K → ((u : Int), (v : Int)) ∉ L))
theorem matL_lt {L : List (Int × Int)} {u v : Nat} (h : u < v) : matL L u v = if ((u : Int), (v : Int)) ∈ L then 1 else 0 := by
  unfold matL
  have e1 : min (u : Int) (v : Int) = u := by omega
  have e2 : max (u : Int) (v : Int) = v := by omega
  rw [e1, e2]
  have : u ≠ v := by omega
  simp [this]
theorem parts_iff {L : List (Int × Int)} {n : Nat} {K : List Int} (hL : Ties n L) : PartsP L n K ↔ ∀ i j, i < n → j < n → partT (fun i => decide (((i : Nat) : Int) ∈ K)) (matL L) i j = 0 := by
  have sym := (matL_mg hL).sym
  constructor
  · intro h
    have key : ∀ i j, i < j → j < n → partT (fun i => decide (((i : Nat) : Int) ∈ K)) (matL L) i j = 0 := fun i j hij hj => by
      obtain ⟨h1, h2⟩ := h i j hij hj
      unfold partT
      simp only [decide_eq_true_eq]
      rw [matL_lt hij]
      by_cases c1 : (i : Int) ∈ K
      · by_cases c2 : (j : Int) ∈ K
        · rw [if_pos c1, if_pos c2, if_neg (by omega), if_pos (h1 ⟨c1, c2⟩)]
          rfl
        · rw [if_pos c1, if_neg c2]
      · by_cases c2 : (j : Int) ∈ K
        · rw [if_neg c1, if_pos c2]
        · rw [if_neg c1, if_neg c2, if_neg (h2 ⟨c1, c2⟩)]
    intro i j hi hj
    rcases (show i < j ∨ i = j ∨ j < i by omega) with c | c | c
    · exact key i j c hj
    · subst c
      unfold partT
      rw [(matL_mg hL).diag]
      simp
    · have := key j i c hi
      unfold partT at this ⊢
      simp only [decide_eq_true_eq] at this ⊢
      rw [sym i j]
      by_cases c1 : (i : Int) ∈ K
      · by_cases c2 : (j : Int) ∈ K
        · rw [if_pos c1, if_pos c2, if_neg (by omega)]
          rw [if_pos c2, if_pos c1, if_neg (by omega)] at this
          exact this
        · rw [if_pos c1, if_neg c2]
      · by_cases c2 : (j : Int) ∈ K
        · rw [if_neg c1, if_pos c2]
        · rw [if_neg c1, if_neg c2]
          rw [if_neg c2, if_neg c1] at this
          exact this
  · intro h u v huv hv
    have := h u v (by omega) hv
    unfold partT at this
    simp only [decide_eq_true_eq] at this
    rw [matL_lt huv] at this
    refine ⟨fun c => ?_, fun c d => ?_⟩
    · rw [if_pos c.1, if_pos c.2, if_neg (by omega)] at this
      by_cases e : ((u : Int), (v : Int)) ∈ L
      · exact e
      · rw [if_neg e] at this
        omega
    · rw [if_neg c.1, if_neg c.2, if_pos d] at this
      omega
/-- where the room is nought the first M are the group -/
theorem parts_of_room {ks : List Int} {L : List (Int × Int)} {M : Nat} (hL : Ties ks.length L) (ht : tallyI ks.length L = ks) (hM : ManyR ks M) (h0 : roomI ks (M : Nat) = 0) : PartsP L ks.length ((ordL ks).take M) := by
  have hA := mg_of_ties hL
  rw [ht] at hA
  rw [part_room hA hM] at h0
  exact (parts_iff hL).mpr (part_zero hA.1 h0)
/-- where there is a group the room is nought -/
theorem room_of_parts {ks K : List Int} {L : List (Int × Int)} {M : Nat} (hL : Ties ks.length L) (ht : tallyI ks.length L = ks) (hM : ManyR ks M) (hK : K.Nodup) (hr : ∀ q ∈ K, 0 ≤ q ∧ q < ks.length) (hp : PartsP L ks.length K) : roomI ks (M : Nat) = 0 := by
  have hA := mg_of_ties hL
  rw [ht] at hA
  have hw : HasWeb ks := ⟨L, hL, ht⟩
  have hz := (parts_iff hL).mp hp
  have hcard := card_list (n := ks.length) hK hr
  have hs : Sm ks.length (fun i => Sm ks.length (partT (fun i => decide (((i : Nat) : Int) ∈ K)) (matL L) i)) = 0 := by
    rw [← sm_zero ks.length]
    refine sm_congr fun i hi => ?_
    rw [← sm_zero ks.length]
    exact sm_congr fun j hj => hz i j hi hj
  rw [part_sum hA, hcard] at hs
  have hcn : K.length ≤ ks.length := by
    have := perm_len hK (M := rngI ks.length) fun q hq => mem_rngI.mpr (hr q hq)
    rwa [rngI_len] at this
  have room0 : roomI ks (K.length : Nat) = 0 := by
    have g := roomX_ge ks 1 (fun i => decide (((i : Nat) : Int) ∈ K))
    rw [hcard, ← roomI_thick] at g
    unfold roomX at g
    rw [hcard] at g
    dsimp only at g
    have l : Sm ks.length (fun i => if decide (((i : Nat) : Int) ∈ K) = true then 0 else min (numI ks i) (1 * (K.length : Nat))) ≤ Sm ks.length (fun i => if decide (((i : Nat) : Int) ∈ K) = true then 0 else numI ks i) := sm_le fun i _ => by
      split <;> omega
    have w := room_web hw (r := (K.length : Nat)) (by omega) (by omega)
    have e : (1 : Int) * (K.length : Nat) * ((K.length : Nat) - 1) = (K.length : Nat) * ((K.length : Nat) - 1) := by rw [Int.one_mul]
    omega
  have dK : ∀ u : Nat, (u : Int) ∈ K → (K.length : Int) - 1 ≤ numI ks u := fun u hu => by
    have hun := (hr _ hu).2
    rw [← hA.2 u (by omega), ← hcard]
    have : Sm ks.length (fun j => (if decide (((j : Nat) : Int) ∈ K) = true then 1 else 0) - (if j = u then 1 else 0)) ≤ Sm ks.length (matL L u) := sm_le fun j hj => by
      have z := hz u j (by omega) hj
      have nn := hA.1.nn u j
      unfold partT at z
      simp only [decide_eq_true_eq] at z ⊢
      rw [if_pos hu] at z
      by_cases c : (j : Int) ∈ K
      · rw [if_pos c] at z ⊢
        split at z <;> omega
      · rw [if_neg c]
        split <;> omega
    rw [sm_sub, sm_one, if_pos (by omega)] at this
    exact this
  have dO : ∀ u : Nat, u < ks.length → (u : Int) ∉ K → numI ks u ≤ K.length := fun u hu hn => by
    rw [← hA.2 u hu, ← hcard]
    refine sm_le fun j hj => ?_
    have z := hz u j hu hj
    have l := hA.1.le u j
    unfold partT at z
    simp only [decide_eq_true_eq] at z ⊢
    rw [if_neg hn] at z
    by_cases c : (j : Int) ∈ K
    · rw [if_pos c]
      exact l
    · rw [if_neg c] at z ⊢
      omega
  have ol := ord_len ks
  have mem_nat : ∀ q ∈ ordL ks, ∃ u : Nat, q = (u : Int) ∧ u < ks.length := fun q hq => by
    have := mem_order.mp hq
    exact ⟨q.toNat, by omega, by omega⟩
  have at_mem : ∀ k, k < ks.length → (ordL ks).getD k 0 ∈ ordL ks := fun k hk => by
    rw [List.getD_eq_getElem?_getD, List.getElem?_eq_getElem (by omega)]
    exact List.getElem_mem _
  have idx : ∀ q ∈ ordL ks, ∃ k, k < ks.length ∧ (ordL ks).getD k 0 = q := fun q hq => by
    obtain ⟨k, hk, e⟩ := List.getElem_of_mem hq
    exact ⟨k, by omega, by rw [List.getD_eq_getElem?_getD, List.getElem?_eq_getElem hk, e]; rfl⟩
  have intake : ∀ k j, k < j → j ≤ ks.length → (ordL ks).getD k 0 ∈ (ordL ks).take j := fun k j hkj hj => by
    rw [List.getD_eq_getElem?_getD, List.getElem?_eq_getElem (by omega)]
    exact List.mem_iff_getElem.mpr ⟨k, by rw [List.length_take]; omega, by rw [List.getElem_take]; rfl⟩
  have pa : 1 ≤ K.length → (K.length : Int) - 1 ≤ getI ks ((ordL ks).getD (K.length - 1) 0) := fun h1 => by
    refine Classical.byContradiction fun c => ?_
    have := perm_len hK (M := (ordL ks).take (K.length - 1)) fun q hq => by
      obtain ⟨k, hk, e⟩ := idx q (mem_order.mpr (hr q hq))
      refine Classical.byContradiction fun c2 => ?_
      have hk2 : K.length - 1 ≤ k := Classical.byContradiction fun c3 => c2 (by rw [← e]; exact intake k _ (by omega) (by omega))
      have f := ord_fall (ks := ks) hk2 hk
      rw [e] at f
      obtain ⟨u, rfl, hu⟩ := mem_nat q (mem_order.mpr (hr q hq))
      have := dK u hq
      unfold numI at this
      omega
    rw [List.length_take] at this
    omega
  have pb : K.length < ks.length → getI ks ((ordL ks).getD K.length 0) ≤ K.length := fun h1 => by
    refine Classical.byContradiction fun c => ?_
    have := perm_len ((ord_nodup ks).sublist (List.take_sublist (K.length + 1) _)) (M := K) fun q hq => by
      obtain ⟨k, hk, e⟩ := List.getElem_of_mem hq
      rw [List.length_take] at hk
      rw [List.getElem_take] at e
      have f := ord_fall (ks := ks) (i := k) (j := K.length) (by omega) h1
      rw [List.getD_eq_getElem?_getD (i := k), List.getElem?_eq_getElem (show k < (ordL ks).length by omega), e] at f
      obtain ⟨u, rfl, hu⟩ := mem_nat q (List.mem_of_mem_take hq)
      refine Classical.byContradiction fun c2 => ?_
      have := dO u hu c2
      unfold numI at this
      simp only [Option.getD_some] at f
      omega
    rw [List.length_take, ol] at this
    omega
  have nn : ∀ k, k < ks.length → 0 ≤ getI ks ((ordL ks).getD k 0) := fun k hk => by
    obtain ⟨u, e, hu⟩ := mem_nat _ (at_mem k hk)
    rw [e]
    exact (web_deg2 hw hu)
  have M1 := hM.one
  have Ml := hM.le
  have ge : K.length ≤ M := by
    refine Classical.byContradiction fun c => ?_
    have h1 := pa (by omega)
    have f := ord_fall (ks := ks) (i := M) (j := K.length - 1) (by omega) (by omega)
    rcases hM.lt with e | e <;> omega
  by_cases c : M = K.length
  · rw [c]
    exact room0
  · have h1 : K.length < ks.length := by omega
    have b1 := pb h1
    have b2 : (K.length : Int) ≤ getI ks ((ordL ks).getD K.length 0) := by
      by_cases z : 1 ≤ K.length
      · exact hM.ge K.length z (by omega)
      · have := nn K.length h1
        omega
    have hM2 : M = K.length + 1 := by
      refine Classical.byContradiction fun c2 => ?_
      have := hM.ge (K.length + 1) (by omega) (by omega)
      have f := ord_fall (ks := ks) (i := K.length) (j := K.length + 1) (by omega) (by omega)
      omega
    have hx : (descI ks)[K.length]? = some (K.length : Int) := by
      rw [desc_at h1]
      congr 1
      omega
    have tk : (descI ks).take (K.length + 1) = (descI ks).take K.length ++ [(K.length : Int)] := by
      rw [List.take_add_one, hx]
      rfl
    have dr : (descI ks).drop K.length = (K.length : Int) :: (descI ks).drop (K.length + 1) := by
      obtain ⟨hl, e⟩ := List.getElem?_eq_some_iff.mp hx
      rw [← List.getElem_cons_drop hl, e]
    have small : ∀ x ∈ (descI ks).drop (K.length + 1), x ≤ K.length := fun x hx => by
      obtain ⟨k, hk, rfl⟩ := List.getElem_of_mem hx
      rw [List.length_drop, descI_len] at hk
      have e := desc_at (ks := ks) (k := K.length + 1 + k) (by omega)
      rw [List.getElem?_eq_getElem (by rw [descI_len]; omega)] at e
      rw [List.getElem_drop, Option.some.inj e]
      have f := ord_fall (ks := ks) (i := K.length) (j := K.length + 1 + k) (by omega) (by omega)
      omega
    have e1 : ((descI ks).drop (K.length + 1)).map (fun x => min x (((K.length + 1 : Nat) : Nat) : Int)) = (descI ks).drop (K.length + 1) := by
      conv => rhs; rw [← List.map_id ((descI ks).drop (K.length + 1))]
      refine List.map_congr_left fun x hx => ?_
      have := small x hx
      show min _ _ = id _
      simp only [id]
      omega
    have e2 : ((descI ks).drop (K.length + 1)).map (fun x => min x ((K.length : Nat) : Int)) = (descI ks).drop (K.length + 1) := by
      conv => rhs; rw [← List.map_id ((descI ks).drop (K.length + 1))]
      refine List.map_congr_left fun x hx => ?_
      have := small x hx
      show min _ _ = id _
      simp only [id]
      omega
    unfold roomI roomP at room0 ⊢
    rw [Int.toNat_natCast, dr, List.map_cons, List.sum_cons, e2] at room0
    rw [hM2, Int.toNat_natCast, tk, List.sum_append, e1]
    simp only [List.sum_cons, List.sum_nil]
    have sq : ((K.length + 1 : Nat) : Int) * (((K.length + 1 : Nat) : Int) - 1) = (K.length : Int) * ((K.length : Int) - 1) + 2 * (K.length : Int) := by
      have : ((K.length + 1 : Nat) : Int) = (K.length : Int) + 1 := by omega
      rw [this, Int.add_sub_cancel, Int.add_mul, Int.mul_sub]
      omega
    omega
def ahR (ks : List Int) (p q : Int) : Prop := keyI ks p < keyI ks q ∨ (keyI ks p = keyI ks q ∧ p ≤ q)
theorem ord_eq {ks : List Int} : ∀ {L M : List Int}, L.Pairwise (ahR ks) → M.Pairwise (ahR ks) → L.Perm M → L = M
  | [], M, _, _, h => (List.nil_perm.mp h).symm
  | a :: L, M, hL, hM, h => by
    cases M with
    | nil => exact absurd h.length_eq (by simp)
    | cons b M =>
      rw [List.pairwise_cons] at hL hM
      have e : a = b := by
        have h1 : a ∈ b :: M := h.subset (by simp)
        have h2 : b ∈ a :: L := h.symm.subset (by simp)
        rcases List.mem_cons.mp h1 with h1 | h1
        · exact h1
        rcases List.mem_cons.mp h2 with h2 | h2
        · exact h2.symm
        have k1 := hM.1 a h1
        have k2 := hL.1 b h2
        unfold ahR at k1 k2
        omega
      subst e
      rw [ord_eq hL.2 hM.2 (List.Perm.cons_inv h)]
theorem rngI_succ (k : Nat) : rngI (k + 1) = rngI k ++ [(k : Int)] := by
  unfold rngI
  rw [List.range_succ, List.map_append]
  rfl
/-- a place put in behind those that are no less -/
theorem ord_insert {ks : List Int} {k a : Nat} (ha : a ≤ k) (h1 : ∀ j : Nat, j < a → getI ks (k : Nat) ≤ getI ks ((orderI ks (rngI k)).getD j 0)) (h2 : a = k ∨ getI ks ((orderI ks (rngI k)).getD a 0) < getI ks (k : Nat)) : (orderI ks (rngI k)).take a ++ [(k : Int)] ++ (orderI ks (rngI k)).drop a = orderI ks (rngI (k + 1)) := by
  have hl : (orderI ks (rngI k)).length = k := by rw [order_len, rngI_len]
  have srt : (orderI ks (rngI k)).Pairwise (ahR ks) := order_srt ks _
  have mem : ∀ q ∈ orderI ks (rngI k), 0 ≤ q ∧ q < k := fun q hq => mem_order.mp hq
  have ky : ∀ q, keyI ks q = - getI ks q := fun q => rfl
  refine ord_eq ?_ (order_srt ks _) ?_
  · have sp := List.take_append_drop a (orderI ks (rngI k))
    have s2 := srt
    rw [← sp, List.pairwise_append] at s2
    rw [List.append_assoc, List.pairwise_append]
    refine ⟨s2.1, List.pairwise_cons.mpr ⟨fun q hq => ?_, s2.2.1⟩, fun p hp q hq => ?_⟩
    · have hq : q ∈ (orderI ks (rngI k)).drop a := hq
      obtain ⟨j, hj, e⟩ := List.getElem_of_mem hq
      rw [List.length_drop, hl] at hj
      rcases h2 with h2 | h2
      · omega
      rw [List.getElem_drop] at e
      have hlt : getI ks q ≤ getI ks ((orderI ks (rngI k)).getD a 0) := by
        rw [List.getD_eq_getElem?_getD, List.getElem?_eq_getElem (by omega)]
        simp only [Option.getD_some]
        by_cases z : j = 0
        · subst z
          have e' : (orderI ks (rngI k))[a]'(by omega) = q := e
          rw [e']
          exact Int.le_refl _
        · have := List.pairwise_iff_getElem.mp srt a (a + j) (by omega) (by omega) (by omega)
          rw [e] at this
          unfold ahR at this
          simp only [ky] at this
          omega
      unfold ahR
      simp only [ky]
      omega
    · rcases List.mem_cons.mp hq with e | hq
      · subst e
        obtain ⟨j, hj, e⟩ := List.getElem_of_mem hp
        rw [List.length_take, hl] at hj
        rw [List.getElem_take] at e
        have := h1 j (by omega)
        rw [List.getD_eq_getElem?_getD, List.getElem?_eq_getElem (by omega), e] at this
        simp only [Option.getD_some] at this
        have hp2 := (mem p (List.mem_of_mem_take hp)).2
        unfold ahR
        simp only [ky]
        omega
      · exact s2.2.2 p hp q hq
  · refine List.Perm.trans ?_ (order_perm ks _).symm
    rw [rngI_succ, List.append_assoc]
    refine List.Perm.trans (l₂ := ((orderI ks (rngI k)).take a ++ (orderI ks (rngI k)).drop a) ++ [(k : Int)]) ?_ ?_
    · rw [List.append_assoc]
      exact List.Perm.append_left _ List.perm_append_comm
    · rw [List.take_append_drop]
      exact List.Perm.append_right _ (order_perm ks _)

/-! ### a place taken out: plain Lean -/
def upN (p k : Nat) : Nat := if k < p then k else k + 1
theorem names_eq {n p : Nat} (h : p < n) : ((rngI n).filter fun q => decide (q ≠ ((p : Nat) : Int))) = (List.range (n - 1)).map fun k => ((upN p k : Nat) : Int) := by
  unfold rngI
  rw [List.filter_map]
  have e : (List.range n).filter ((fun q => decide (q ≠ ((p : Nat) : Int))) ∘ fun i : Nat => (i : Int)) = (List.range n).filter fun q => decide (q ≠ p) := List.filter_congr fun q _ => by
    simp only [Function.comp]
    by_cases c : q = p
    · simp [c]
    · have : ¬ (q : Int) = (p : Int) := by omega
      simp [c, this]
  rw [e, filter_drop_one h]
  have e2 : (List.range n).take p ++ (List.range n).drop (p + 1) = (List.range (n - 1)).map (upN p) := by
    refine List.ext_getElem (by simp; omega) fun i h1 h2 => ?_
    rw [List.getElem_map, List.getElem_range, List.getElem_append]
    unfold upN
    by_cases c : i < p
    · have : i < ((List.range n).take p).length := by rw [List.length_take, List.length_range]; omega
      rw [dif_pos this, if_pos c, List.getElem_take, List.getElem_range]
    · have : ¬ i < ((List.range n).take p).length := by rw [List.length_take, List.length_range]; omega
      rw [dif_neg this, if_neg c, List.getElem_drop, List.getElem_range, List.length_take, List.length_range]
      omega
  rw [e2, List.map_map]
  rfl
theorem upN_ne (p k : Nat) : upN p k ≠ p := by unfold upN; split <;> omega
theorem upN_lt {p k n : Nat} (h : k < n - 1) : upN p k < n := by unfold upN; split <;> omega
theorem upN_mono {p j k : Nat} (h : j < k) : upN p j < upN p k := by unfold upN; split <;> split <;> omega
theorem upN_inj {p j k : Nat} (h : upN p j = upN p k) : j = k := by unfold upN at h; split at h <;> split at h <;> omega
theorem upN_ex {p i n : Nat} (hp : p < n) (hi : i < n) (ne : i ≠ p) : ∃ k, k < n - 1 ∧ upN p k = i := by
  by_cases c : i < p
  · exact ⟨i, by omega, by unfold upN; rw [if_pos c]⟩
  · exact ⟨i - 1, by omega, by unfold upN; rw [if_neg (by omega)]; omega⟩
theorem sm_up {p : Nat} (f : Nat → Int) : ∀ m, p ≤ m → Sm m (fun j => f (upN p j)) = Sm (m + 1) f - f p
  | 0, h => by
    have : p = 0 := by omega
    subst this
    simp only [Sm]
    omega
  | m + 1, h => by
    by_cases c : p ≤ m
    · have ih := sm_up f m c
      show Sm m (fun j => f (upN p j)) + f (upN p m) = Sm (m + 1) f + f (m + 1) - f p
      rw [ih]
      have : upN p m = m + 1 := by unfold upN; rw [if_neg (by omega)]
      rw [this]
      omega
    · have e : p = m + 1 := by omega
      subst e
      have : Sm (m + 1) (fun j => f (upN (m + 1) j)) = Sm (m + 1) f := sm_congr fun i hi => by unfold upN; rw [if_pos hi]
      rw [this]
      show _ = Sm (m + 1) f + f (m + 1) - f (m + 1)
      omega
theorem left_len {ks : List Int} {p : Nat} (h : p < ks.length) : (leftI ks (p : Nat)).length = ks.length - 1 := by
  unfold leftI
  rw [names_eq h, List.length_map, List.length_map, List.length_range]
theorem num_of {L : List Int} {k : Nat} {x : Int} (h : L[k]? = some x) : numI L k = x := by
  show L.getD (Int.toNat (k : Nat)) 0 = x
  rw [List.getD_eq_getElem?_getD, Int.toNat_natCast, h]
  rfl
theorem left_num {ks : List Int} {p k : Nat} (h : p < ks.length) (hk : k < ks.length - 1) : numI (leftI ks (p : Nat)) k = numI ks (upN p k) - (if ((upN p k : Nat) : Int) ∈ takenI ks (p : Nat) then 1 else 0) := by
  refine num_of ?_
  unfold leftI
  rw [names_eq h, List.getElem?_map, List.getElem?_map, List.getElem?_range hk]
  rfl
theorem taken_nodup (ks : List Int) (p : Int) : (takenI ks p).Nodup := (others_nodup ks p).sublist (List.take_sublist _ _)
theorem taken_mem {ks : List Int} {p q : Int} (h : q ∈ takenI ks p) : (0 ≤ q ∧ q < ks.length) ∧ q ≠ p := mem_others.mp (List.mem_of_mem_take h)
theorem taken_len {ks : List Int} {p : Int} (h : 0 ≤ p ∧ p < ks.length) (a : 0 ≤ getI ks p) (b : getI ks p ≤ ks.length - 1) : ((takenI ks p).length : Int) = getI ks p := by
  unfold takenI
  rw [List.length_take, others_len h]
  omega
theorem taken_top {ks : List Int} {p x y : Int} (hx : x ∈ takenI ks p) (hy : y ∈ othersI ks p) (hn : y ∉ takenI ks p) : getI ks y ≤ getI ks x := by
  have srt := others_srt ks p
  unfold takenI at hx hn
  rw [← List.take_append_drop (getI ks p).toNat (othersI ks p)] at srt hy
  rcases List.mem_append.mp hy with c | c
  · exact absurd c hn
  · have := (List.pairwise_append.mp srt).2.2 x hx y c
    unfold ahead keyI at this
    show ks.getD y.toNat 0 ≤ ks.getD x.toNat 0
    omega
theorem web_deg {ks : List Int} (h : HasWeb ks) {p : Nat} (hp : p < ks.length) : 0 ≤ getI ks (p : Nat) ∧ getI ks (p : Nat) ≤ ks.length - 1 := by
  obtain ⟨L, hL, e⟩ := h
  have hA := mg_of_ties hL
  rw [e] at hA
  have h1 : Sm ks.length (matL L p) = getI ks (p : Nat) := hA.2 p hp
  refine ⟨by rw [← h1]; exact sm_nonneg fun i _ => hA.1.nn p i, ?_⟩
  rw [← h1]
  have : Sm ks.length (matL L p) ≤ Sm ks.length (fun i => 1 - (if i = p then 1 else 0)) := sm_le fun i _ => by
    by_cases c : i = p
    · subst c
      rw [hA.1.diag]
      simp
    · rw [if_neg c]
      exact hA.1.le p i
  rw [sm_sub, sm_one, if_pos hp] at this
  have one : ∀ n : Nat, Sm n (fun _ => 1) = (n : Int) := fun n => by
    induction n with
    | zero => rfl
    | succ n ih => simp only [Sm, ih]; omega
  rw [one] at this
  exact this
/-- a place taken out of a tally that has a web leaves one -/
theorem left_web {ks : List Int} {p : Nat} (hp : p < ks.length) (h : HasWeb ks) : HasWeb (leftI ks (p : Nat)) := by
  obtain ⟨a, b⟩ := web_deg h hp
  obtain ⟨L, hL, e⟩ := h
  have hA := mg_of_ties hL
  rw [e] at hA
  have hlen := taken_len (ks := ks) (p := (p : Nat)) ⟨by omega, by omega⟩ a b
  obtain ⟨B, hB, hrow⟩ := hh (N := fun i => decide (((i : Nat) : Int) ∈ takenI ks (p : Nat))) (W := fun _ => false) hA hp (by
      rw [decide_eq_false_iff_not]
      exact fun c => (taken_mem c).2 rfl) (by
      rw [card_list (taken_nodup ks _) fun q hq => (taken_mem hq).1]
      exact hlen) (fun _ _ _ => rfl) (fun _ _ c => nomatch c) (fun x y hx hy c1 c2 _ c4 => by
      rw [decide_eq_true_eq] at c1
      rw [decide_eq_false_iff_not] at c2
      exact taken_top c1 (mem_others.mpr ⟨⟨by omega, by omega⟩, by omega⟩) c2)
  have hl := left_len hp
  have hC : IsMg (leftI ks (p : Nat)).length 1 (numI (leftI ks (p : Nat))) (fun i j => if i < ks.length - 1 ∧ j < ks.length - 1 then B (upN p i) (upN p j) else 0) := by
    rw [hl]
    refine ⟨⟨fun i j => ?_, fun i => ?_, fun i j => ?_, fun i j => ?_, fun i j hj => ?_⟩, fun i hi => ?_⟩
    · rw [hB.1.sym (upN p i) (upN p j)]
      have : (i < ks.length - 1 ∧ j < ks.length - 1) ↔ (j < ks.length - 1 ∧ i < ks.length - 1) := by omega
      simp only [this]
    · rw [hB.1.diag]
      split <;> rfl
    · have := hB.1.nn (upN p i) (upN p j)
      split <;> omega
    · have := hB.1.le (upN p i) (upN p j)
      split <;> omega
    · rw [if_neg (by omega)]
    · show Sm (ks.length - 1) (fun j => if i < ks.length - 1 ∧ j < ks.length - 1 then B (upN p i) (upN p j) else 0) = _
      have : Sm (ks.length - 1) (fun j => if i < ks.length - 1 ∧ j < ks.length - 1 then B (upN p i) (upN p j) else 0) = Sm (ks.length - 1) (fun j => B (upN p i) (upN p j)) := sm_congr fun j hj => by rw [if_pos ⟨hi, hj⟩]
      rw [this, sm_up (B (upN p i)) _ (by omega), show ks.length - 1 + 1 = ks.length by omega, hB.2 _ (upN_lt hi), left_num hp hi, hB.1.sym, hrow _ (upN_lt hi)]
      simp only [decide_eq_true_eq]
  exact ⟨_, listA_ties _ _, ties_of_mg rfl hC⟩
/-- the ties of a web of what is left, and those of the place -/
def upP (p : Nat) (q : Int × Int) : Int × Int := (((upN p q.1.toNat : Nat) : Int), ((upN p q.2.toNat : Nat) : Int))
def backT (ks : List Int) (p : Nat) (L : List (Int × Int)) : List (Int × Int) := L.map (upP p) ++ raysI p (((List.range (ks.length - 1)).map fun k => ((upN p k : Nat) : Int)).filter fun q => decide (q ∈ takenI ks (p : Nat)))
theorem deg_up {p n k : Nat} : ∀ {L : List (Int × Int)}, (∀ q ∈ L, 0 ≤ q.1 ∧ q.1 < q.2 ∧ q.2 < n) → deg (L.map (upP p)) ((upN p k : Nat) : Int) = deg L (k : Nat)
  | [], _ => rfl
  | q :: L, h => by
    have ih := deg_up (p := p) (k := k) fun x hx => h x (List.mem_cons_of_mem _ hx)
    have hq := h q (by simp)
    rw [List.map_cons, deg_cons, deg_cons, ih]
    have : hasP ((upN p k : Nat) : Int) (upP p q) = hasP (k : Nat) q := by
      unfold hasP upP
      simp only
      have e1 : ((upN p q.1.toNat : Nat) : Int) = ((upN p k : Nat) : Int) ↔ q.1 = (k : Nat) := ⟨fun h => by have := upN_inj (Int.ofNat.inj h); omega, fun h => by rw [h, Int.toNat_natCast]⟩
      have e2 : ((upN p q.2.toNat : Nat) : Int) = ((upN p k : Nat) : Int) ↔ q.2 = (k : Nat) := ⟨fun h => by have := upN_inj (Int.ofNat.inj h); omega, fun h => by rw [h, Int.toNat_natCast]⟩
      rw [Bool.eq_iff_iff]
      simp only [Bool.or_eq_true, beq_iff_eq, e1, e2]
    rw [this]
theorem deg_up_p {p : Nat} : ∀ {L : List (Int × Int)}, deg (L.map (upP p)) ((p : Nat) : Int) = 0
  | [] => rfl
  | q :: L => by
    rw [List.map_cons, deg_cons, deg_up_p]
    have h1 := upN_ne p q.1.toNat
    have h2 := upN_ne p q.2.toNat
    have : hasP ((p : Nat) : Int) (upP p q) = false := by
      unfold hasP upP
      simp only [Bool.or_eq_false_iff, beq_eq_false_iff_ne]
      omega
    rw [this]
    rfl
theorem back_tally {ks : List Int} {p : Nat} {L : List (Int × Int)} (hp : p < ks.length) (a : 0 ≤ getI ks (p : Nat)) (b : getI ks (p : Nat) ≤ ks.length - 1) (hL : Ties (ks.length - 1) L) (e : tallyI (ks.length - 1) L = leftI ks (p : Nat)) : tallyI ks.length (backT ks p L) = ks := by
  have hN : (((List.range (ks.length - 1)).map fun k => ((upN p k : Nat) : Int)).filter fun q => decide (q ∈ takenI ks (p : Nat))).Nodup := by
    refine List.Pairwise.filter _ (List.pairwise_map.mpr (List.pairwise_lt_range.imp fun {i j} h => ?_))
    have := upN_mono (p := p) h
    omega
  have hmem : ∀ q, q ∈ (((List.range (ks.length - 1)).map fun k => ((upN p k : Nat) : Int)).filter fun q => decide (q ∈ takenI ks (p : Nat))) ↔ q ∈ takenI ks (p : Nat) := fun q => by
    rw [List.mem_filter, decide_eq_true_eq]
    refine ⟨fun h => h.2, fun h => ⟨?_, h⟩⟩
    obtain ⟨h1, h2⟩ := taken_mem h
    obtain ⟨i, rfl⟩ : ∃ i : Nat, q = (i : Int) := ⟨_, (Int.toNat_of_nonneg h1.1).symm⟩
    obtain ⟨k, hk, rfl⟩ := upN_ex hp (show i < ks.length by omega) (by omega)
    exact List.mem_map.mpr ⟨k, List.mem_range.mpr hk, rfl⟩
  have hlen : ((((List.range (ks.length - 1)).map fun k => ((upN p k : Nat) : Int)).filter fun q => decide (q ∈ takenI ks (p : Nat))).length : Int) = getI ks (p : Nat) := by
    rw [← taken_len (ks := ks) (p := (p : Nat)) ⟨by omega, by omega⟩ a b]
    have h1 := perm_len hN fun x hx => (hmem x).mp hx
    have h2 := perm_len (taken_nodup ks (p : Nat)) fun x hx => (hmem x).mpr hx
    omega
  have hne : ∀ q ∈ (((List.range (ks.length - 1)).map fun k => ((upN p k : Nat) : Int)).filter fun q => decide (q ∈ takenI ks (p : Nat))), q ≠ (p : Int) := fun q hq => (taken_mem ((hmem q).mp hq)).2
  unfold backT
  generalize (((List.range (ks.length - 1)).map fun k => ((upN p k : Nat) : Int)).filter fun q => decide (q ∈ takenI ks (p : Nat))) = N at *
  refine List.ext_getElem? fun i => ?_
  by_cases c : i < ks.length
  · rw [tallyI_get c, List.getElem?_eq_getElem c]
    have hr := rays_deg hN hne i
    have ek : numI ks i = ks[i] := num_of (List.getElem?_eq_getElem c)
    congr 1
    rw [deg_append, Int.natCast_add, hr, ← ek]
    by_cases d : i = p
    · subst d
      rw [deg_up_p, if_pos rfl, hlen]
      show (0 : Int) + getI ks (i : Nat) = getI ks (i : Nat)
      omega
    · rw [if_neg d]
      obtain ⟨k, hk, rfl⟩ := upN_ex hp c d
      rw [deg_up hL.rng]
      have h1 := left_num hp hk
      rw [← e, num_of (tallyI_get hk)] at h1
      rw [h1]
      simp only [hmem]
      omega
  · rw [List.getElem?_eq_none (by rw [tallyI_len]; omega), List.getElem?_eq_none (by omega)]
theorem deg_nrm : ∀ (L : List (Int × Int)) (v : Int), deg (L.map nrm) v = deg L v
  | [], _ => rfl
  | q :: L, v => by
    rw [List.map_cons, deg_cons, deg_cons, deg_nrm L v]
    have : hasP v (nrm q) = hasP v q := by
      unfold hasP nrm
      rw [Bool.eq_iff_iff]
      simp only [Bool.or_eq_true, beq_iff_eq]
      omega
    rw [this]
theorem tally_nrm (n : Nat) (L : List (Int × Int)) : tallyI n (L.map nrm) = tallyI n L := by
  unfold tallyI
  simp only [deg_nrm]
theorem back_laid {ks : List Int} {p : Nat} {L : List (Int × Int)} (hp : p < ks.length) (hL : Ties (ks.length - 1) L) : Laid ks.length ((backT ks p L).map nrm) := by
  have up : ∀ q ∈ L, ∃ i j : Nat, i < j ∧ j < ks.length - 1 ∧ q = ((i : Int), (j : Int)) := fun q hq => by
    have := hL.rng q hq
    exact ⟨q.1.toNat, q.2.toNat, by omega, by omega, Prod.ext (Int.toNat_of_nonneg (by omega)).symm (Int.toNat_of_nonneg (by omega)).symm⟩
  have e1 : ∀ q ∈ L.map (upP p), nrm q = q ∧ 0 ≤ q.1 ∧ q.1 < q.2 ∧ q.2 < ks.length ∧ q.1 ≠ p ∧ q.2 ≠ p := fun q hq => by
    obtain ⟨r, hr, rfl⟩ := List.mem_map.mp hq
    obtain ⟨i, j, h1, h2, rfl⟩ := up r hr
    have h3 := upN_mono (p := p) h1
    have h4 := upN_lt (p := p) h2
    have h5 := upN_ne p i
    have h6 := upN_ne p j
    refine ⟨Prod.ext ?_ ?_, ?_⟩
    · show min ((upN p (Int.toNat (i : Nat)) : Nat) : Int) ((upN p (Int.toNat (j : Nat)) : Nat) : Int) = _
      simp only [Int.toNat_natCast, upP]
      omega
    · show max ((upN p (Int.toNat (i : Nat)) : Nat) : Int) ((upN p (Int.toNat (j : Nat)) : Nat) : Int) = _
      simp only [Int.toNat_natCast, upP]
      omega
    · simp only [upP, Int.toNat_natCast]
      omega
  unfold backT
  have hN : (((List.range (ks.length - 1)).map fun k => ((upN p k : Nat) : Int)).filter fun q => decide (q ∈ takenI ks (p : Nat))).Nodup := by
    refine List.Pairwise.filter _ (List.pairwise_map.mpr (List.pairwise_lt_range.imp fun {i j} h => ?_))
    have := upN_mono (p := p) h
    omega
  have hm : ∀ q ∈ (((List.range (ks.length - 1)).map fun k => ((upN p k : Nat) : Int)).filter fun q => decide (q ∈ takenI ks (p : Nat))), (0 ≤ q ∧ q < ks.length) ∧ q ≠ p := fun q hq => by
    rw [List.mem_filter, decide_eq_true_eq] at hq
    exact taken_mem hq.2
  generalize (((List.range (ks.length - 1)).map fun k => ((upN p k : Nat) : Int)).filter fun q => decide (q ∈ takenI ks (p : Nat))) = N at *
  rw [List.map_append]
  have e2 : (L.map (upP p)).map nrm = L.map (upP p) := by
    rw [List.map_congr_left fun q hq => (e1 q hq).1, List.map_id']
  rw [e2]
  refine ⟨?_, fun q hq => ?_⟩
  · rw [List.nodup_append]
    refine ⟨?_, ?_, fun q hq r hr e => ?_⟩
    · refine List.pairwise_map.mpr (hL.nodup.imp_of_mem fun {q r} hq hr ne e => ne ?_)
      obtain ⟨i, j, h1, h2, rfl⟩ := up q hq
      obtain ⟨i2, j2, h3, h4, rfl⟩ := up r hr
      unfold upP at e
      simp only [Int.toNat_natCast, Prod.mk.injEq] at e
      have := upN_inj (Int.ofNat.inj e.1)
      have := upN_inj (Int.ofNat.inj e.2)
      subst_vars
      rfl
    · unfold raysI
      rw [List.map_map]
      refine List.pairwise_map.mpr (hN.imp_of_mem fun {q r} hq hr ne e => ne ?_)
      have h1 := hm q hq
      have h2 := hm r hr
      unfold nrm at e
      simp only [Function.comp, Prod.mk.injEq] at e
      omega
    · obtain ⟨h1, h2, h3, h4, h5, h6⟩ := e1 q hq
      obtain ⟨s, hs, rfl⟩ := List.mem_map.mp hr
      obtain ⟨t, ht, rfl⟩ := List.mem_map.mp hs
      subst e
      unfold nrm at h5 h6
      simp only at h5 h6
      omega
  · rcases List.mem_append.mp hq with hq | hq
    · have := e1 q hq
      omega
    · obtain ⟨s, hs, rfl⟩ := List.mem_map.mp hq
      obtain ⟨t, ht, rfl⟩ := List.mem_map.mp hs
      have := hm t ht
      unfold nrm
      simp only
      omega
theorem web_left {ks : List Int} {p : Nat} (hp : p < ks.length) (a : 0 ≤ getI ks (p : Nat)) (b : getI ks (p : Nat) ≤ ks.length - 1) (h : HasWeb (leftI ks (p : Nat))) : HasWeb ks := by
  obtain ⟨L, hL, e⟩ := h
  rw [left_len hp] at hL e
  refine ⟨sortP ((backT ks p L).map nrm), (back_laid hp hL).ties, ?_⟩
  rw [tally_perm (sortP_perm _), tally_nrm, back_tally hp a b hL e]
theorem back_rng {ks : List Int} {p : Nat} {L : List (Int × Int)} (hp : p < ks.length) (hL : Ties (ks.length - 1) L) : ∀ q ∈ backT ks p L, (0 ≤ q.1 ∧ q.1 < ks.length) ∧ (0 ≤ q.2 ∧ q.2 < ks.length) ∧ q.1 ≠ q.2 := fun q hq => by
  have := (back_laid hp hL).rng (nrm q) (List.mem_map_of_mem hq)
  unfold nrm at this
  simp only at this
  omega

/-! ### dicts as rows of entries -/
theorem valD_cons {κ : Type} [DecidableEq κ] (q : κ × D) (l : List (κ × D)) (k : κ) : valD (q :: l) k = if q.1 = k then some q.2 else valD l k := by
  unfold valD
  rw [List.find?_cons]
  by_cases c : q.1 = k
  · simp [c]
  · simp [c]
theorem valD_append {κ : Type} [DecidableEq κ] (l : List (κ × D)) (q : κ × D) (k : κ) : valD (l ++ [q]) k = (valD l k).or (if q.1 = k then some q.2 else none) := by
  induction l with
  | nil =>
    rw [List.nil_append, valD_cons]
    rfl
  | cons p l ih =>
    rw [List.cons_append, valD_cons, valD_cons, ih]
    split <;> rfl
theorem val_putD {κ : Type} [DecidableEq κ] (kds : List (κ × D)) (k k2 : κ) (x : D) : valD (putD kds k x) k2 = if k = k2 then some x else valD kds k2 := by
  unfold putD
  split
  · rename_i h
    have key : ∀ l : List (κ × D), (l.any fun p => decide (p.1 = k)) = true → valD (l.map fun p => if p.1 = k then (p.1, x) else p) k2 = if k = k2 then some x else valD l k2 := by
      intro l
      induction l with
      | nil => intro h; simp at h
      | cons p l ih =>
        intro h
        rw [List.map_cons, valD_cons, valD_cons]
        by_cases c : p.1 = k
        · rw [if_pos c]
          simp only
          rw [c]
          by_cases c2 : k = k2
          · rw [if_pos c2, if_pos c2]
          · rw [if_neg c2, if_neg c2, if_neg c2]
            by_cases c3 : (l.any fun p => decide (p.1 = k)) = true
            · rw [ih c3, if_neg c2]
            · have : l.map (fun p => if p.1 = k then (p.1, x) else p) = l := by
                conv => rhs; rw [← List.map_id l]
                refine List.map_congr_left fun q hq => ?_
                rw [if_neg]
                · rfl
                · intro e
                  exact c3 (List.any_eq_true.mpr ⟨q, hq, decide_eq_true e⟩)
              rw [this]
        · rw [if_neg c]
          have h2 : (l.any fun p => decide (p.1 = k)) = true := by
            simpa [List.any_cons, c] using h
          rw [ih h2]
          by_cases c2 : k = k2
          · subst c2
            rw [if_neg c, if_pos rfl, if_pos rfl]
          · rw [if_neg c2, if_neg c2]
    exact key kds h
  · rename_i h
    rw [valD_append]
    simp only
    by_cases c : k = k2
    · subst c
      have : valD kds k = none := by
        unfold valD
        rw [List.find?_eq_none.mpr fun p hp => ?_]
        · rfl
        · intro e
          exact h (List.any_eq_true.mpr ⟨p, hp, e⟩)
      rw [this, if_pos rfl]
      rfl
    · rw [if_neg c, if_neg c, Option.or_none]
theorem putD_len {κ : Type} [DecidableEq κ] (kds : List (κ × D)) (k : κ) (x : D) : (putD kds k x).length ≤ kds.length + 1 := by
  unfold putD
  split
  · rw [List.length_map]
    omega
  · simp

/-! ### pairs of places: plain Lean -/
theorem tie_in {n : Nat} {d : Nat → Int} {A A' : Nat → Nat → Int} {u v : Nat} (hu : u < n) (hv : v < n) (uv : u ≠ v) (hA : IsMg n 1 d A) (hA' : IsMg n 1 (fun i => d i - (if i = u then 1 else 0) - (if i = v then 1 else 0)) A') : ∃ B, IsMg n 1 d B ∧ B u v = 1 := by
  have add : ∀ {C}, IsMg n 1 (fun i => d i - (if i = u then 1 else 0) - (if i = v then 1 else 0)) C → C u v = 0 → ∃ B, IsMg n 1 d B ∧ B u v = 1 := fun {C} hC c => by
    refine ⟨addE C u v 1, ⟨mg_addE hC.1 hu hv uv (by omega) (by omega), fun i hi => ?_⟩, ?_⟩
    · rw [addE_deg hu hv uv, hC.2 i hi]
      dsimp only
      omega
    · unfold addE
      rw [c, if_pos (.inl ⟨rfl, rfl⟩)]
      rfl
  have a0 := hA.1.nn u v
  have a1 := hA.1.le u v
  have b0 := hA'.1.nn u v
  have b1 := hA'.1.le u v
  by_cases c1 : A u v = 1
  · exact ⟨A, hA, c1⟩
  by_cases c2 : A' u v = 0
  · exact add hA' c2
  have c1 : A u v = 0 := by omega
  have c2 : A' u v = 1 := by omega
  obtain ⟨y, hy, hyl⟩ := sm_lt (n := n) (f := A' u) (g := A u) (by rw [hA.2 u hu, hA'.2 u hu]; simp only [if_pos, if_neg uv]; omega)
  have y0 := hA'.1.nn u y
  have y1 := hA.1.le u y
  have yu : u ≠ y := fun e => by
    subst e
    rw [hA.1.diag] at hyl
    omega
  have yv : y ≠ v := fun e => by
    subst e
    omega
  by_cases c3 : d y ≤ d v
  · obtain ⟨B, hB, b, -⟩ := shift hA hu hv hy uv yu (Ne.symm yv) (by omega) (by omega) (by omega)
    exact ⟨B, hB, by omega⟩
  · obtain ⟨B, hB, -, b, -⟩ := shift hA' hu hy hv yu uv yv (by omega) (by omega) (by
      simp only [if_neg (Ne.symm yu), if_neg yv, if_neg (Ne.symm uv), if_pos]
      omega)
    exact add hB (by omega)
def compl (n : Nat) (A : Nat → Nat → Int) : Nat → Nat → Int := fun i j => if i ≠ j ∧ i < n ∧ j < n then 1 - A i j else 0
theorem sm_const1 : ∀ n : Nat, Sm n (fun _ => 1) = (n : Int)
  | 0 => rfl
  | n + 1 => by
    simp only [Sm, sm_const1 n]
    omega
theorem compl_mg {n : Nat} {d : Nat → Int} {A : Nat → Nat → Int} (h : IsMg n 1 d A) : IsMg n 1 (fun i => (n : Int) - 1 - d i) (compl n A) := by
  refine ⟨⟨fun i j => ?_, fun i => ?_, fun i j => ?_, fun i j => ?_, fun i j hj => ?_⟩, fun i hi => ?_⟩
  · unfold compl
    rw [h.1.sym i j]
    have : (i ≠ j ∧ i < n ∧ j < n) ↔ (j ≠ i ∧ j < n ∧ i < n) := by omega
    simp only [this]
  · unfold compl
    rw [if_neg (by simp)]
  · unfold compl
    have := h.1.le i j
    split <;> omega
  · unfold compl
    have := h.1.nn i j
    split <;> omega
  · unfold compl
    rw [if_neg (by omega)]
  · have : Sm n (compl n A i) = Sm n (fun j => (1 - A i j) - (if j = i then 1 else 0)) := sm_congr fun j hj => by
      unfold compl
      by_cases c : j = i
      · subst c
        rw [if_neg (by simp), if_pos rfl, h.1.diag]
        rfl
      · rw [if_pos ⟨Ne.symm c, hi, hj⟩, if_neg c]
        omega
    rw [this, sm_sub, sm_sub, sm_const1, sm_one, if_pos hi, h.2 i hi]
    dsimp only
    omega
theorem tie_out {n : Nat} {d : Nat → Int} {A A' : Nat → Nat → Int} {u v : Nat} (hu : u < n) (hv : v < n) (uv : u ≠ v) (hA : IsMg n 1 d A) (hA' : IsMg n 1 (fun i => d i + (if i = u then 1 else 0) + (if i = v then 1 else 0)) A') : ∃ B, IsMg n 1 d B ∧ B u v = 0 := by
  obtain ⟨B, hB, b⟩ := tie_in hu hv uv (compl_mg hA) (A' := compl n A') (by
    have := compl_mg hA'
    refine ⟨this.1, fun i hi => ?_⟩
    rw [this.2 i hi]
    dsimp only
    omega)
  refine ⟨compl n B, ?_, ?_⟩
  · have := compl_mg hB
    refine ⟨this.1, fun i hi => ?_⟩
    rw [this.2 i hi]
    dsimp only
    omega
  · unfold compl
    rw [if_pos ⟨uv, hu, hv⟩, b]
    rfl
/-! a place tied to told ones, taken out -/
def leftN (ks : List Int) (p : Int) (N : List Int) : List Int := ((rngI ks.length).filter fun q => decide (q ≠ p)).map fun q => getI ks q - (if q ∈ N then 1 else 0)
def backN (p : Nat) (N : List Int) (L : List (Int × Int)) : List (Int × Int) := L.map (upP p) ++ raysI p N
structure NearOk (ks : List Int) (p : Nat) (N : List Int) : Prop where
  nd : N.Nodup
  mem : ∀ q ∈ N, (0 ≤ q ∧ q < ks.length) ∧ q ≠ p
  len : (N.length : Int) = getI ks (p : Nat)
theorem leftN_len {ks N : List Int} {p : Nat} (h : p < ks.length) : (leftN ks (p : Nat) N).length = ks.length - 1 := by
  unfold leftN
  rw [names_eq h, List.length_map, List.length_map, List.length_range]
theorem leftN_num {ks N : List Int} {p k : Nat} (h : p < ks.length) (hk : k < ks.length - 1) : numI (leftN ks (p : Nat) N) k = numI ks (upN p k) - (if ((upN p k : Nat) : Int) ∈ N then 1 else 0) := by
  refine num_of ?_
  unfold leftN
  rw [names_eq h, List.getElem?_map, List.getElem?_map, List.getElem?_range hk]
  rfl
theorem leftN_web {ks N : List Int} {p : Nat} {B : Nat → Nat → Int} (hp : p < ks.length) (hB : IsMg ks.length 1 (numI ks) B) (hrow : ∀ i, i < ks.length → B p i = if ((i : Nat) : Int) ∈ N then 1 else 0) : HasWeb (leftN ks (p : Nat) N) := by
  have hl := leftN_len (N := N) hp
  have hC : IsMg (leftN ks (p : Nat) N).length 1 (numI (leftN ks (p : Nat) N)) (fun i j => if i < ks.length - 1 ∧ j < ks.length - 1 then B (upN p i) (upN p j) else 0) := by
    rw [hl]
    refine ⟨⟨fun i j => ?_, fun i => ?_, fun i j => ?_, fun i j => ?_, fun i j hj => ?_⟩, fun i hi => ?_⟩
    · rw [hB.1.sym (upN p i) (upN p j)]
      have : (i < ks.length - 1 ∧ j < ks.length - 1) ↔ (j < ks.length - 1 ∧ i < ks.length - 1) := by omega
      simp only [this]
    · rw [hB.1.diag]
      split <;> rfl
    · have := hB.1.nn (upN p i) (upN p j)
      split <;> omega
    · have := hB.1.le (upN p i) (upN p j)
      split <;> omega
    · rw [if_neg (by omega)]
    · show Sm (ks.length - 1) (fun j => if i < ks.length - 1 ∧ j < ks.length - 1 then B (upN p i) (upN p j) else 0) = _
      have : Sm (ks.length - 1) (fun j => if i < ks.length - 1 ∧ j < ks.length - 1 then B (upN p i) (upN p j) else 0) = Sm (ks.length - 1) (fun j => B (upN p i) (upN p j)) := sm_congr fun j hj => by rw [if_pos ⟨hi, hj⟩]
      rw [this, sm_up (B (upN p i)) _ (by omega), show ks.length - 1 + 1 = ks.length by omega, hB.2 _ (upN_lt hi), leftN_num hp hi, hB.1.sym, hrow _ (upN_lt hi)]
  exact ⟨_, listA_ties _ _, ties_of_mg rfl hC⟩
theorem backN_tally {ks N : List Int} {p : Nat} {L : List (Int × Int)} (hp : p < ks.length) (hN : NearOk ks p N) (hL : Ties (ks.length - 1) L) (e : tallyI (ks.length - 1) L = leftN ks (p : Nat) N) : tallyI ks.length (backN p N L) = ks := by
  unfold backN
  refine List.ext_getElem? fun i => ?_
  by_cases c : i < ks.length
  · rw [tallyI_get c, List.getElem?_eq_getElem c]
    have hr := rays_deg hN.nd (fun q hq => (hN.mem q hq).2) i
    have ek : numI ks i = ks[i] := num_of (List.getElem?_eq_getElem c)
    congr 1
    rw [deg_append, Int.natCast_add, hr, ← ek]
    by_cases d : i = p
    · subst d
      rw [deg_up_p, if_pos rfl, hN.len]
      show (0 : Int) + getI ks (i : Nat) = getI ks (i : Nat)
      omega
    · rw [if_neg d]
      obtain ⟨k, hk, rfl⟩ := upN_ex hp c d
      rw [deg_up hL.rng]
      have h1 := leftN_num (N := N) hp hk
      rw [← e, num_of (tallyI_get hk)] at h1
      rw [h1]
      omega
  · rw [List.getElem?_eq_none (by rw [tallyI_len]; omega), List.getElem?_eq_none (by omega)]
theorem backN_laid {ks N : List Int} {p : Nat} {L : List (Int × Int)} (hp : p < ks.length) (hN : NearOk ks p N) (hL : Ties (ks.length - 1) L) : Laid ks.length ((backN p N L).map nrm) := by
  have up : ∀ q ∈ L, ∃ i j : Nat, i < j ∧ j < ks.length - 1 ∧ q = ((i : Int), (j : Int)) := fun q hq => by
    have := hL.rng q hq
    exact ⟨q.1.toNat, q.2.toNat, by omega, by omega, Prod.ext (Int.toNat_of_nonneg (by omega)).symm (Int.toNat_of_nonneg (by omega)).symm⟩
  have e1 : ∀ q ∈ L.map (upP p), nrm q = q ∧ 0 ≤ q.1 ∧ q.1 < q.2 ∧ q.2 < ks.length ∧ q.1 ≠ p ∧ q.2 ≠ p := fun q hq => by
    obtain ⟨r, hr, rfl⟩ := List.mem_map.mp hq
    obtain ⟨i, j, h1, h2, rfl⟩ := up r hr
    have h3 := upN_mono (p := p) h1
    have h4 := upN_lt (p := p) h2
    have h5 := upN_ne p i
    have h6 := upN_ne p j
    refine ⟨Prod.ext ?_ ?_, ?_⟩
    · show min ((upN p (Int.toNat (i : Nat)) : Nat) : Int) ((upN p (Int.toNat (j : Nat)) : Nat) : Int) = _
      simp only [Int.toNat_natCast, upP]
      omega
    · show max ((upN p (Int.toNat (i : Nat)) : Nat) : Int) ((upN p (Int.toNat (j : Nat)) : Nat) : Int) = _
      simp only [Int.toNat_natCast, upP]
      omega
    · simp only [upP, Int.toNat_natCast]
      omega
  unfold backN
  have hm := hN.mem
  have hnd := hN.nd
  rw [List.map_append]
  have e2 : (L.map (upP p)).map nrm = L.map (upP p) := by
    rw [List.map_congr_left fun q hq => (e1 q hq).1, List.map_id']
  rw [e2]
  refine ⟨?_, fun q hq => ?_⟩
  · rw [List.nodup_append]
    refine ⟨?_, ?_, fun q hq r hr e => ?_⟩
    · refine List.pairwise_map.mpr (hL.nodup.imp_of_mem fun {q r} hq hr ne e => ne ?_)
      obtain ⟨i, j, h1, h2, rfl⟩ := up q hq
      obtain ⟨i2, j2, h3, h4, rfl⟩ := up r hr
      unfold upP at e
      simp only [Int.toNat_natCast, Prod.mk.injEq] at e
      have := upN_inj (Int.ofNat.inj e.1)
      have := upN_inj (Int.ofNat.inj e.2)
      subst_vars
      rfl
    · unfold raysI
      rw [List.map_map]
      refine List.pairwise_map.mpr (hnd.imp_of_mem fun {q r} hq hr ne e => ne ?_)
      have h1 := hm q hq
      have h2 := hm r hr
      unfold nrm at e
      simp only [Function.comp, Prod.mk.injEq] at e
      omega
    · obtain ⟨h1, h2, h3, h4, h5, h6⟩ := e1 q hq
      obtain ⟨s, hs, rfl⟩ := List.mem_map.mp hr
      obtain ⟨t, ht, rfl⟩ := List.mem_map.mp hs
      subst e
      unfold nrm at h5 h6
      simp only at h5 h6
      omega
  · rcases List.mem_append.mp hq with hq | hq
    · have := e1 q hq
      omega
    · obtain ⟨s, hs, rfl⟩ := List.mem_map.mp hq
      obtain ⟨t, ht, rfl⟩ := List.mem_map.mp hs
      have := hm t ht
      unfold nrm
      simp only
      omega
def byL (ks : List Int) (p : Nat) (N : List Int) : List (Int × Int) := sortP ((backN p N (laidL (leftN ks (p : Nat) N))).map nrm)
theorem by_ties {ks N : List Int} {p : Nat} (hp : p < ks.length) (hN : NearOk ks p N) (hw : HasWeb (leftN ks (p : Nat) N)) : Ties ks.length (byL ks p N) := by
  have hL := laidL_ties hw
  rw [leftN_len hp] at hL
  exact (backN_laid hp hN hL).ties
theorem by_tally {ks N : List Int} {p : Nat} (hp : p < ks.length) (hN : NearOk ks p N) (hw : HasWeb (leftN ks (p : Nat) N)) : tallyI ks.length (byL ks p N) = ks := by
  have hL := laidL_ties hw
  have hT := laidL_tally hw
  rw [leftN_len hp] at hL hT
  unfold byL
  rw [tally_perm (sortP_perm _), tally_nrm, backN_tally hp hN hL hT]
theorem by_mem {ks N : List Int} {p : Nat} (hp : p < ks.length) (hN : NearOk ks p N) (hw : HasWeb (leftN ks (p : Nat) N)) {q : Int} (hq : q ≠ p) : nrm ((p : Int), q) ∈ byL ks p N ↔ q ∈ N := by
  unfold byL
  rw [(sortP_perm _).mem_iff]
  unfold backN
  rw [List.map_append, List.mem_append]
  constructor
  · rintro (h | h)
    · obtain ⟨r, hr, e⟩ := List.mem_map.mp h
      obtain ⟨s, hs, rfl⟩ := List.mem_map.mp hr
      have h1 := upN_ne p s.1.toNat
      have h2 := upN_ne p s.2.toNat
      unfold nrm upP at e
      simp only [Prod.mk.injEq] at e
      omega
    · obtain ⟨r, hr, e⟩ := List.mem_map.mp h
      obtain ⟨t, ht, rfl⟩ := List.mem_map.mp hr
      have := (hN.mem t ht).2
      unfold nrm at e
      simp only [Prod.mk.injEq] at e
      have : t = q := by omega
      rw [← this]
      exact ht
  · intro h
    exact .inr (List.mem_map.mpr ⟨_, List.mem_map.mpr ⟨q, h, rfl⟩, rfl⟩)
/-! numbers more or fewer at two places -/
def bothI (ks : List Int) (u v : Int) (x : Int) : List Int := (ks.set u.toNat (getI ks u + x)).set v.toNat (getI (ks.set u.toNat (getI ks u + x)) v + x)
theorem bothI_len (ks : List Int) (u v x : Int) : (bothI ks u v x).length = ks.length := by unfold bothI; rw [List.length_set, List.length_set]
theorem bothI_num {ks : List Int} {u v : Nat} {x : Int} (hu : u < ks.length) (hv : v < ks.length) (uv : u ≠ v) {i : Nat} (hi : i < ks.length) : numI (bothI ks u v x) i = numI ks i + (if i = u then x else 0) + (if i = v then x else 0) := by
  have g : getI (ks.set u (getI ks (u : Nat) + x)) (v : Nat) = getI ks (v : Nat) := by
    unfold getI
    simp only [Int.toNat_natCast, List.getD_eq_getElem?_getD]
    rw [List.getElem?_set_ne uv]
  have nm : ∀ (l : List Int) (j : Nat), numI l j = (l[j]?).getD 0 := fun l j => by
    unfold numI getI
    rw [Int.toNat_natCast, List.getD_eq_getElem?_getD]
  have gu : getI ks (u : Nat) = numI ks u := rfl
  have gv : getI ks (v : Nat) = numI ks v := rfl
  unfold bothI
  simp only [Int.toNat_natCast]
  rw [g, nm, gu, gv]
  by_cases c2 : i = v
  · subst c2
    rw [List.getElem?_set_self (by rw [List.length_set]; exact hi), if_pos rfl, if_neg (Ne.symm uv)]
    show numI ks i + x = _
    omega
  · rw [List.getElem?_set_ne (Ne.symm c2), if_neg c2]
    by_cases c1 : i = u
    · subst c1
      rw [List.getElem?_set_self hi, if_pos rfl]
      show numI ks i + x = _
      omega
    · rw [List.getElem?_set_ne (Ne.symm c1), if_neg c1, nm]
      omega
theorem web_mat {ks : List Int} : HasWeb ks ↔ ∃ A, IsMg ks.length 1 (numI ks) A := by
  constructor
  · rintro ⟨L, hL, e⟩
    have := mg_of_ties hL
    rw [e] at this
    exact ⟨_, this⟩
  · rintro ⟨A, hA⟩
    exact ⟨_, listA_ties _ _, ties_of_mg rfl hA⟩

/-! ### what is told of two places -/
def restI (ks : List Int) (u v : Int) : List Int := (orderI ks (rngI ks.length)).filter fun q => decide (q ≠ u ∧ q ≠ v)
theorem rest_mem {ks : List Int} {u v q : Int} : q ∈ restI ks u v ↔ (0 ≤ q ∧ q < ks.length) ∧ q ≠ u ∧ q ≠ v := by
  unfold restI
  rw [List.mem_filter, mem_order, decide_eq_true_eq]
theorem order_nodup (ks : List Int) (n : Nat) : (orderI ks (rngI n)).Nodup := by
  refine (order_perm ks _).nodup_iff.mpr ?_
  unfold rngI
  exact List.pairwise_map.mpr (List.pairwise_lt_range.imp fun {i j} h => by omega)
theorem rest_nodup (ks : List Int) (u v : Int) : (restI ks u v).Nodup := (order_nodup ks _).sublist List.filter_sublist
theorem rest_len {ks : List Int} {u v : Nat} (hu : u < ks.length) (hv : v < ks.length) (uv : u ≠ v) : (restI ks u v).length = ks.length - 2 := by
  have h1 : ((v : Int) :: (u : Int) :: restI ks u v).Nodup := by
    refine List.nodup_cons.mpr ⟨?_, List.nodup_cons.mpr ⟨fun c => (rest_mem.mp c).2.1 rfl, rest_nodup _ _ _⟩⟩
    rw [List.mem_cons]
    rintro (c | c)
    · omega
    · exact (rest_mem.mp c).2.2 rfl
  have h2 := perm_len h1 (M := rngI ks.length) fun q hq => by
    rw [mem_rngI]
    rcases List.mem_cons.mp hq with e | hq
    · omega
    · rcases List.mem_cons.mp hq with e | hq
      · omega
      · exact (rest_mem.mp hq).1
  have nd : (rngI ks.length).Nodup := by
    unfold rngI
    exact List.pairwise_map.mpr (List.pairwise_lt_range.imp fun {i j} h => by omega)
  have h3 := perm_len nd (M := (v : Int) :: (u : Int) :: restI ks u v) fun q hq => by
    rw [mem_rngI] at hq
    by_cases c1 : q = v
    · rw [c1]; simp
    · by_cases c2 : q = u
      · rw [c2]; simp
      · exact List.mem_cons_of_mem _ (List.mem_cons_of_mem _ (rest_mem.mpr ⟨hq, c2, c1⟩))
  rw [rngI_len, List.length_cons, List.length_cons] at h2 h3
  omega
theorem rest_top {ks : List Int} {u v x y : Int} {k : Nat} (hx : x ∈ (restI ks u v).take k) (hy : y ∈ restI ks u v) (hn : y ∉ (restI ks u v).take k) : getI ks y ≤ getI ks x := by
  have srt : (restI ks u v).Pairwise fun p q => keyI ks p < keyI ks q ∨ (keyI ks p = keyI ks q ∧ p ≤ q) := (order_srt ks _).sublist List.filter_sublist
  rw [← List.take_append_drop k (restI ks u v)] at srt hy
  rcases List.mem_append.mp hy with c | c
  · exact absurd c hn
  · have := (List.pairwise_append.mp srt).2.2 x hx y c
    unfold keyI at this
    show ks.getD y.toNat 0 ≤ ks.getD x.toNat 0
    omega
/-- u, to be tied to v and to the first of the others -/
def nearW (ks : List Int) (u v : Int) : List Int := v :: (restI ks u v).take (getI ks u - 1).toNat
def nearO (ks : List Int) (u v : Int) : List Int := (restI ks u v).take (getI ks u).toNat
theorem both_mat {ks : List Int} {u v : Nat} {x : Int} (hu : u < ks.length) (hv : v < ks.length) (uv : u ≠ v) (h : HasWeb (bothI ks u v x)) : ∃ A, IsMg ks.length 1 (fun i => numI ks i + (if i = u then x else 0) + (if i = v then x else 0)) A := by
  obtain ⟨A, hA⟩ := web_mat.mp h
  rw [bothI_len] at hA
  exact ⟨A, hA.1, fun i hi => by rw [hA.2 i hi, bothI_num hu hv uv hi]⟩
theorem mat_both {ks : List Int} {u v : Nat} {x : Int} {A : Nat → Nat → Int} (hu : u < ks.length) (hv : v < ks.length) (uv : u ≠ v) (hA : IsMg ks.length 1 (fun i => numI ks i + (if i = u then x else 0) + (if i = v then x else 0)) A) : HasWeb (bothI ks u v x) := by
  refine web_mat.mpr ⟨A, ?_⟩
  rw [bothI_len]
  exact ⟨hA.1, fun i hi => by rw [hA.2 i hi, bothI_num hu hv uv hi]⟩
/-- a web in which u and v are not tied, u to the first others -/
theorem near_out {ks : List Int} {u v : Nat} (hu : u < ks.length) (hv : v < ks.length) (uv : u ≠ v) (hw : HasWeb ks) (h1 : HasWeb (bothI ks u v 1)) : NearOk ks u (nearO ks u v) ∧ HasWeb (leftN ks (u : Nat) (nearO ks u v)) := by
  obtain ⟨A0, hA0⟩ := web_mat.mp hw
  obtain ⟨A1, hA1⟩ := both_mat hu hv uv h1
  obtain ⟨A, hA, ho⟩ := tie_out hu hv uv hA0 hA1
  have d0 : 0 ≤ getI ks (u : Nat) := (web_deg hw hu).1
  have d1 : getI ks (u : Nat) ≤ ks.length - 2 := by
    have e : Sm ks.length (A u) = getI ks (u : Nat) := hA.2 u hu
    have : Sm ks.length (A u) ≤ Sm ks.length (fun i => (1 - (if i = u then 1 else 0)) - (if i = v then 1 else 0)) := sm_le fun i _ => by
      have l := hA.1.le u i
      by_cases c : i = u
      · subst c
        rw [hA.1.diag, if_pos rfl, if_neg uv]
        decide
      · by_cases c2 : i = v
        · subst c2
          rw [ho, if_neg c, if_pos rfl]
          decide
        · rw [if_neg c, if_neg c2]
          omega
    rw [sm_sub, sm_sub, sm_const1, sm_one, sm_one, if_pos hu, if_pos hv] at this
    omega
  have ok : NearOk ks u (nearO ks u v) := ⟨(rest_nodup _ _ _).sublist (List.take_sublist _ _), fun q hq => by
    have := rest_mem.mp (List.mem_of_mem_take hq)
    exact ⟨this.1, this.2.1⟩, by
    unfold nearO
    rw [List.length_take, rest_len hu hv uv]
    omega⟩
  refine ⟨ok, ?_⟩
  obtain ⟨B, hB, hrow⟩ := hh (N := fun i => decide (((i : Nat) : Int) ∈ nearO ks u v)) (W := fun i => decide (i = v)) hA hu (by
      rw [decide_eq_false_iff_not]
      exact fun c => (ok.mem _ c).2 rfl) (by
      rw [card_list ok.nd fun q hq => (ok.mem q hq).1]
      exact ok.len) (fun i _ c => by
      rw [decide_eq_true_eq] at c
      rw [decide_eq_false_iff_not]
      intro e
      exact (rest_mem.mp (List.mem_of_mem_take c)).2.2 (by rw [e])) (fun i _ c => by
      rw [decide_eq_true_eq] at c
      rw [c]
      exact ho) (fun x y hx hy c1 c2 c3 c4 => by
      rw [decide_eq_true_eq] at c1
      rw [decide_eq_false_iff_not] at c2 c3
      exact rest_top c1 (rest_mem.mpr ⟨⟨by omega, by omega⟩, by omega, by omega⟩) c2)
  exact leftN_web hu hB fun i hi => by
    rw [hrow i hi]
    simp only [decide_eq_true_eq]
/-- .. in which they are tied -/
theorem near_in {ks : List Int} {u v : Nat} (hu : u < ks.length) (hv : v < ks.length) (uv : u ≠ v) (hw : HasWeb ks) (h1 : HasWeb (bothI ks u v (-1))) : NearOk ks u (nearW ks u v) ∧ HasWeb (leftN ks (u : Nat) (nearW ks u v)) := by
  obtain ⟨A0, hA0⟩ := web_mat.mp hw
  obtain ⟨A1, hA1⟩ := both_mat hu hv uv h1
  obtain ⟨A, hA, ho⟩ := tie_in hu hv uv hA0 (A' := A1) ⟨hA1.1, fun i hi => by
    rw [hA1.2 i hi]
    dsimp only
    split <;> split <;> omega⟩
  have d1 := (web_deg hw hu).2
  have hC : IsMg ks.length 1 (fun i => numI ks i - (if i = u then 1 else 0) - (if i = v then 1 else 0)) (addE A u v (-1)) := by
    refine ⟨mg_addE hA.1 hu hv uv (by omega) (by omega), fun i hi => ?_⟩
    rw [addE_deg hu hv uv, hA.2 i hi]
    dsimp only
    split <;> split <;> omega
  have co : addE A u v (-1) u v = 0 := by
    unfold addE
    rw [ho, if_pos (.inl ⟨rfl, rfl⟩)]
    rfl
  have d0 : 1 ≤ getI ks (u : Nat) := by
    have e : Sm ks.length (A u) = getI ks (u : Nat) := hA.2 u hu
    have := sm_ge (f := A u) hv fun i _ => hA.1.nn u i
    omega
  have lt : ((restI ks u v).take (getI ks (u : Nat) - 1).toNat).length = (getI ks (u : Nat) - 1).toNat := by
    rw [List.length_take, rest_len hu hv uv]
    omega
  have ok : NearOk ks u (nearW ks u v) := ⟨List.nodup_cons.mpr ⟨fun c => (rest_mem.mp (List.mem_of_mem_take c)).2.2 rfl, (rest_nodup _ _ _).sublist (List.take_sublist _ _)⟩, fun q hq => by
    rcases List.mem_cons.mp hq with e | hq
    · subst e
      omega
    · have := rest_mem.mp (List.mem_of_mem_take hq)
      exact ⟨this.1, this.2.1⟩, by
    unfold nearW
    rw [List.length_cons, lt]
    omega⟩
  refine ⟨ok, ?_⟩
  have nd2 : ((restI ks u v).take (getI ks (u : Nat) - 1).toNat).Nodup := (rest_nodup _ _ _).sublist (List.take_sublist _ _)
  obtain ⟨B, hB, hrow⟩ := hh (N := fun i => decide (((i : Nat) : Int) ∈ (restI ks u v).take (getI ks (u : Nat) - 1).toNat)) (W := fun i => decide (i = v)) hC hu (by
      rw [decide_eq_false_iff_not]
      exact fun c => (rest_mem.mp (List.mem_of_mem_take c)).2.1 rfl) (by
      rw [card_list nd2 fun q hq => (rest_mem.mp (List.mem_of_mem_take hq)).1, lt]
      simp only [if_pos, if_neg uv]
      show _ = getI ks (u : Nat) - 1 - 0
      omega) (fun i _ c => by
      rw [decide_eq_true_eq] at c
      rw [decide_eq_false_iff_not]
      intro e
      exact (rest_mem.mp (List.mem_of_mem_take c)).2.2 (by rw [e])) (fun i _ c => by
      rw [decide_eq_true_eq] at c
      rw [c]
      exact co) (fun x y hx hy c1 c2 c3 c4 => by
      rw [decide_eq_true_eq] at c1
      rw [decide_eq_false_iff_not] at c2 c3
      have m1 := (rest_mem.mp (List.mem_of_mem_take c1)).2
      have t := rest_top c1 (rest_mem.mpr ⟨⟨by omega, by omega⟩, by omega, by omega⟩) c2
      rw [if_neg c4, if_neg c3, if_neg (by omega), if_neg (by omega)]
      show getI ks (y : Nat) - 0 - 0 ≤ getI ks (x : Nat) - 0 - 0
      omega)
  have bv : B u v = 0 := by
    rw [hrow v hv, if_neg]
    rw [decide_eq_true_eq]
    exact fun c => (rest_mem.mp (List.mem_of_mem_take c)).2.2 rfl
  refine leftN_web (B := addE B u v 1) hu ⟨mg_addE hB.1 hu hv uv (by omega) (by omega), fun i hi => ?_⟩ fun i hi => ?_
  · rw [addE_deg hu hv uv, hB.2 i hi]
    dsimp only
    split <;> split <;> omega
  · unfold addE
    rw [hrow i hi]
    simp only [decide_eq_true_eq]
    unfold nearW
    by_cases c : i = v
    · subst c
      have : ((i : Nat) : Int) ∉ (restI ks u i).take (getI ks (u : Nat) - 1).toNat := fun c => (rest_mem.mp (List.mem_of_mem_take c)).2.2 rfl
      rw [if_neg this, if_pos (show (True ∧ i = i) ∨ (u = i ∧ i = u) from .inl ⟨trivial, rfl⟩), if_pos (by simp)]
      rfl
    · have e1 : ¬ ((True ∧ i = v) ∨ (u = v ∧ i = u)) := by omega
      have e2 : (((i : Nat) : Int) ∈ (v : Int) :: (restI ks u v).take (getI ks (u : Nat) - 1).toNat) ↔ ((i : Nat) : Int) ∈ (restI ks u v).take (getI ks (u : Nat) - 1).toNat := by
        rw [List.mem_cons]
        exact ⟨fun h => h.elim (fun h => absurd (Int.ofNat.inj h) c) id, .inr⟩
      rw [if_neg e1]
      simp only [e2]
      omega
/-- a web without the tie gives one of a tie more .. -/
theorem both_more {ks : List Int} {u v : Nat} {L : List (Int × Int)} (hu : u < ks.length) (hv : v < ks.length) (uv : u ≠ v) (hL : Ties ks.length L) (e : tallyI ks.length L = ks) (h : nrm ((u : Int), (v : Int)) ∉ L) : HasWeb (bothI ks u v 1) := by
  have hA := mg_of_ties hL
  rw [e] at hA
  have c : matL L u v = 0 := by
    unfold matL
    rw [if_neg]
    rintro ⟨-, z⟩
    exact h z
  refine mat_both hu hv uv (A := addE (matL L) u v 1) ⟨mg_addE hA.1 hu hv uv (by omega) (by omega), fun i hi => ?_⟩
  rw [addE_deg hu hv uv, hA.2 i hi]
/-- .. and one with it one of a tie fewer -/
theorem both_less {ks : List Int} {u v : Nat} {L : List (Int × Int)} (hu : u < ks.length) (hv : v < ks.length) (uv : u ≠ v) (hL : Ties ks.length L) (e : tallyI ks.length L = ks) (h : nrm ((u : Int), (v : Int)) ∈ L) : HasWeb (bothI ks u v (-1)) := by
  have hA := mg_of_ties hL
  rw [e] at hA
  have c : matL L u v = 1 := by
    unfold matL
    rw [if_pos ⟨uv, h⟩]
  refine mat_both hu hv uv (A := addE (matL L) u v (-1)) ⟨mg_addE hA.1 hu hv uv (by omega) (by omega), fun i hi => ?_⟩
  rw [addE_deg hu hv uv, hA.2 i hi]
/-! a wall does not look at the order -/
theorem desc_perm {a b : List Int} (h : a.Perm b) : descI a = descI b := fall_eq (descI_srt a) (descI_srt b) ((descI_perm a).trans (h.trans (descI_perm b).symm))
theorem negI_mem {ks : List Int} : negI ks = none ↔ ∀ x ∈ ks, 0 ≤ x := by
  rw [negI_none]
  constructor
  · intro h x hx
    obtain ⟨i, hi, rfl⟩ := List.getElem_of_mem hx
    have := h i hi
    rwa [num_of (List.getElem?_eq_getElem hi)] at this
  · intro h i hi
    rw [num_of (List.getElem?_eq_getElem hi)]
    exact h _ (List.getElem_mem hi)
theorem wall_perm {a b : List Int} (h : a.Perm b) : wallD a = .none ↔ wallD b = .none := by
  rw [wallD_none, wallD_none, negI_mem, negI_mem, thinI_none, thinI_none, sum_perm h, h.length_eq]
  have e : ∀ r, roomI a r = roomI b r := fun r => by unfold roomI; rw [desc_perm h]
  simp only [e, h.mem_iff]
theorem both_count {ks : List Int} {u v : Nat} {x z : Int} (hu : u < ks.length) (hv : v < ks.length) (uv : u ≠ v) : ((bothI ks u v x).count z : Int) = (ks.count z : Int) - (if getI ks (u : Nat) = z then 1 else 0) - (if getI ks (v : Nat) = z then 1 else 0) + (if getI ks (u : Nat) + x = z then 1 else 0) + (if getI ks (v : Nat) + x = z then 1 else 0) := by
  have g : getI (ks.set u (getI ks (u : Nat) + x)) (v : Nat) = getI ks (v : Nat) := by
    unfold getI
    simp only [Int.toNat_natCast, List.getD_eq_getElem?_getD]
    rw [List.getElem?_set_ne uv]
  have gu : ks[u] = getI ks (u : Nat) := (num_of (List.getElem?_eq_getElem hu)).symm
  have gv : ks[v] = getI ks (v : Nat) := (num_of (List.getElem?_eq_getElem hv)).symm
  unfold bothI
  simp only [Int.toNat_natCast]
  rw [g, List.count_set (by rw [List.length_set]; exact hv), List.count_set hu, List.getElem_set_ne uv, gu, gv]
  have c1 : (if getI ks (u : Nat) = z then 1 else 0) ≤ ks.count z := by
    split
    · rename_i e
      have : z ∈ ks := by rw [← e, ← gu]; exact List.getElem_mem hu
      exact List.count_pos_iff.mpr this
    · omega
  have c2 : (if getI ks (u : Nat) = z then 1 else 0) + (if getI ks (v : Nat) = z then 1 else 0) ≤ ks.count z := by
    by_cases e1 : getI ks (u : Nat) = z
    · by_cases e2 : getI ks (v : Nat) = z
      · rw [if_pos e1, if_pos e2]
        have n1 : ((z + 1 : Int) == z) = false := by rw [beq_eq_false_iff_ne]; omega
        have gz : ks[u] = z := gu.trans e1
        have hm : z ∈ ks.set u (z + 1) := by
          have h5 : (ks.set u (z + 1))[v]'(by rw [List.length_set]; exact hv) = z := by rw [List.getElem_set_ne uv, gv, e2]
          have := List.getElem_mem (l := ks.set u (z + 1)) (n := v) (by rw [List.length_set]; exact hv)
          rwa [h5] at this
        have := List.count_pos_iff.mpr hm
        rw [List.count_set hu, gz, n1] at this
        simp at this
        omega
      · rw [if_neg e2]
        omega
    · rw [if_neg e1, Nat.zero_add]
      split
      · rename_i e
        have : z ∈ ks := by rw [← e, ← gv]; exact List.getElem_mem hv
        exact List.count_pos_iff.mpr this
      · omega
  simp only [beq_iff_eq]
  have f1 : ((if getI ks (u : Nat) = z then 1 else 0 : Nat) : Int) = if getI ks (u : Nat) = z then 1 else 0 := by split <;> rfl
  have f2 : ((if getI ks (v : Nat) = z then 1 else 0 : Nat) : Int) = if getI ks (v : Nat) = z then 1 else 0 := by split <;> rfl
  have f3 : ((if getI ks (u : Nat) + x = z then 1 else 0 : Nat) : Int) = if getI ks (u : Nat) + x = z then 1 else 0 := by split <;> rfl
  have f4 : ((if getI ks (v : Nat) + x = z then 1 else 0 : Nat) : Int) = if getI ks (v : Nat) + x = z then 1 else 0 := by split <;> rfl
  rw [← f1, ← f2, ← f3, ← f4]
  generalize (if getI ks (u : Nat) = z then 1 else 0 : Nat) = A at *
  generalize (if getI ks (v : Nat) = z then 1 else 0 : Nat) = B at *
  generalize (if getI ks (u : Nat) + x = z then 1 else 0 : Nat) = C at *
  generalize (if getI ks (v : Nat) + x = z then 1 else 0 : Nat) = E at *
  omega
theorem two_eq {a b c d : Int} (h1 : min a b = min c d) (h2 : max a b = max c d) : (a = c ∧ b = d) ∨ (a = d ∧ b = c) := by omega
theorem both_perm {ks : List Int} {u v a b : Nat} {x : Int} (hu : u < ks.length) (hv : v < ks.length) (uv : u ≠ v) (ha : a < ks.length) (hb : b < ks.length) (ab : a ≠ b) (h1 : min (getI ks (u : Nat)) (getI ks (v : Nat)) = min (getI ks (a : Nat)) (getI ks (b : Nat))) (h2 : max (getI ks (u : Nat)) (getI ks (v : Nat)) = max (getI ks (a : Nat)) (getI ks (b : Nat))) : (bothI ks u v x).Perm (bothI ks a b x) := by
  rw [List.perm_iff_count]
  intro z
  refine Int.ofNat.inj ?_
  show ((bothI ks u v x).count z : Int) = ((bothI ks a b x).count z : Int)
  rw [both_count hu hv uv, both_count ha hb ab]
  rcases two_eq h1 h2 with ⟨c, d⟩ | ⟨c, d⟩
  · rw [c, d]
  · rw [c, d]
    generalize (if getI ks (b : Nat) = z then (1 : Int) else 0) = A
    generalize (if getI ks (a : Nat) = z then (1 : Int) else 0) = B
    generalize (if getI ks (b : Nat) + x = z then (1 : Int) else 0) = C
    generalize (if getI ks (a : Nat) + x = z then (1 : Int) else 0) = E
    omega

def ok_all : PyData.strOk "all" = true := by decide +kernel
theorem ok_none : PyData.strOk "none" = true := by decide +kernel
theorem ok_some : PyData.strOk "some" = true := by decide +kernel
def wallB (ks : List Int) : Bool := !isN (wallD ks)
theorem wallB_iff {ks : List Int} : wallB ks = true ↔ ¬ HasWeb ks := by
  unfold wallB
  rw [← web_iff]
  cases wallD ks <;> simp [isN]
def pairD (ks : List Int) (u v : Int) : D := if wallB (bothI ks u v 1) = true then .tuple [.str "all", wallD (bothI ks u v 1)] else if wallB (bothI ks u v (-1)) = true then .tuple [.str "none", wallD (bothI ks u v (-1))] else .tuple [.str "some", eW ks.length (byL ks u.toNat (nearW ks u v)), eW ks.length (byL ks u.toNat (nearO ks u v))]
inductive PAns where
  | all (f : Fence) | none (f : Fence) | some (n : Int) (L : List (Int × Int)) (m : Int) (M : List (Int × Int))
def ePA : PAns → D
  | .all f => .tuple [.str "all", eF f]
  | .none f => .tuple [.str "none", eF f]
  | .some n L m M => .tuple [.str "some", eWZ n L, eWZ m M]
/-- what is shown of two places -/
def showsP (ks : List Int) (u v : Int) : PAns → Bool
  | .all f => showsI (bothI ks u v 1) f
  | .none f => showsI (bothI ks u v (-1)) f
  | .some n L m M => showsA ks (.web n L) && (showsA ks (.web m M) && (decide (nrm (u, v) ∈ L) && !decide (nrm (u, v) ∈ M)))
/-- what is told, as one of these -/
theorem pairD_is {ks : List Int} {u v : Nat} (a : 1 ≤ ks.length) (b : ks.length ≤ 24) (hu : u < ks.length) (hv : v < ks.length) (uv : u ≠ v) (hw : HasWeb ks) : ∃ p, pairD ks u v = ePA p ∧ showsP ks u v p = true ∧
    ((∃ f, p = .all f ∧ wallD (bothI ks u v 1) = eF f ∧ ¬ HasWeb (bothI ks u v 1)) ∨ (∃ f, p = .none f ∧ wallD (bothI ks u v (-1)) = eF f ∧ HasWeb (bothI ks u v 1) ∧ ¬ HasWeb (bothI ks u v (-1))) ∨ (∃ L M, p = .some ks.length L ks.length M ∧ HasWeb (bothI ks u v 1) ∧ HasWeb (bothI ks u v (-1)) ∧ Ties ks.length L ∧ Ties ks.length M ∧ tallyI ks.length L = ks ∧ tallyI ks.length M = ks ∧ nrm ((u : Int), (v : Int)) ∈ L ∧ nrm ((u : Int), (v : Int)) ∉ M)) := by
  unfold pairD
  by_cases c1 : wallB (bothI ks u v 1) = true
  · rw [if_pos c1]
    have n1 := wallB_iff.mp c1
    obtain ⟨f, e, hf⟩ := wall_eF (ks := bothI ks u v 1) (by unfold wallB at c1; simpa using c1)
    exact ⟨.all f, by rw [e]; rfl, hf, .inl ⟨f, rfl, e, n1⟩⟩
  · rw [if_neg c1]
    have w1 : HasWeb (bothI ks u v 1) := Classical.byContradiction fun z => c1 (wallB_iff.mpr z)
    by_cases c2 : wallB (bothI ks u v (-1)) = true
    · rw [if_pos c2]
      have n2 := wallB_iff.mp c2
      obtain ⟨f, e, hf⟩ := wall_eF (ks := bothI ks u v (-1)) (by unfold wallB at c2; simpa using c2)
      exact ⟨.none f, by rw [e]; rfl, hf, .inr (.inl ⟨f, rfl, e, w1, n2⟩)⟩
    · rw [if_neg c2]
      have w2 : HasWeb (bothI ks u v (-1)) := Classical.byContradiction fun z => c2 (wallB_iff.mpr z)
      obtain ⟨o1, o2⟩ := near_in hu hv uv hw w2
      obtain ⟨o3, o4⟩ := near_out hu hv uv hw w1
      have t1 := by_ties hu o1 o2
      have t2 := by_tally hu o1 o2
      have t3 := by_ties hu o3 o4
      have t4 := by_tally hu o3 o4
      have m1 : nrm ((u : Int), (v : Int)) ∈ byL ks u (nearW ks u v) := (by_mem hu o1 o2 (by omega)).mpr (by unfold nearW; simp)
      have m2 : nrm ((u : Int), (v : Int)) ∉ byL ks u (nearO ks u v) := fun c => by
        have := (by_mem hu o3 o4 (by omega)).mp c
        exact (rest_mem.mp (List.mem_of_mem_take this)).2.2 rfl
      refine ⟨.some ks.length (byL ks u (nearW ks u v)) ks.length (byL ks u (nearO ks u v)), rfl, ?_, .inr (.inr ⟨_, _, rfl, w1, w2, t1, t3, t2, t4, m1, m2⟩)⟩
      unfold showsP showsA
      simp only [Int.toNat_natCast]
      rw [decide_eq_true ⟨ties_told t1 a b, trivial, t2⟩, decide_eq_true ⟨ties_told t3 a b, trivial, t4⟩, decide_eq_true m1, decide_eq_false m2]
      rfl
def pairsW (ks : List Int) (x : Int) : List (Int × Int) := (pairsI ks.length).filter fun p => wallB (bothI ks p.1 p.2 x)
theorem wallB_both {ks : List Int} {u v a b : Nat} {x : Int} (hu : u < ks.length) (hv : v < ks.length) (uv : u ≠ v) (ha : a < ks.length) (hb : b < ks.length) (ab : a ≠ b) (h1 : min (getI ks (u : Nat)) (getI ks (v : Nat)) = min (getI ks (a : Nat)) (getI ks (b : Nat))) (h2 : max (getI ks (u : Nat)) (getI ks (v : Nat)) = max (getI ks (a : Nat)) (getI ks (b : Nat))) : wallB (bothI ks u v x) = wallB (bothI ks a b x) := by
  have hp := wall_perm (both_perm (x := x) hu hv uv ha hb ab h1 h2)
  rw [web_iff, web_iff] at hp
  rw [Bool.eq_iff_iff, wallB_iff, wallB_iff, hp]
theorem num_ext {a b : List Int} (hl : a.length = b.length) (h : ∀ i, i < a.length → numI a i = numI b i) : a = b := by
  refine List.ext_getElem hl fun i h1 h2 => ?_
  have := h i h1
  rwa [num_of (List.getElem?_eq_getElem h1), num_of (List.getElem?_eq_getElem h2)] at this
theorem bothI_comm {ks : List Int} {u v : Nat} {x : Int} (hu : u < ks.length) (hv : v < ks.length) (uv : u ≠ v) : bothI ks v u x = bothI ks u v x := by
  refine num_ext (by rw [bothI_len, bothI_len]) fun i hi => ?_
  rw [bothI_len] at hi
  rw [bothI_num hv hu (Ne.symm uv) hi, bothI_num hu hv uv hi]
  split <;> split <;> omega
theorem nrm_comm (a b : Int) : nrm (b, a) = nrm (a, b) := by
  unfold nrm
  rw [Prod.mk.injEq]
  omega
theorem showsP_comm {ks : List Int} {u v : Nat} (hu : u < ks.length) (hv : v < ks.length) (uv : u ≠ v) (p : PAns) : showsP ks v u p = showsP ks u v p := by
  unfold showsP
  rw [bothI_comm hu hv uv, bothI_comm hu hv uv, nrm_comm]
theorem mem_pairsW {ks : List Int} {u v : Nat} {x : Int} (uv : u < v) (hv : v < ks.length) : ((u : Int), (v : Int)) ∈ pairsW ks x ↔ ¬ HasWeb (bothI ks u v x) := by
  unfold pairsW
  rw [List.mem_filter, mem_pairs, wallB_iff]
  exact ⟨fun h => h.2, fun h => ⟨by simp only; omega, h⟩⟩
theorem shp_ePA (p : PAns) : Shp 8 (ePA p) ∧ Nb 8 (ePA p) := by
  cases p with
  | all f =>
    refine ⟨fun d hd => ?_, fun d hd => ?_⟩ <;> simp only [List.mem_cons, List.not_mem_nil, or_false] at hd <;> rcases hd with rfl | rfl
    · exact ok_all
    · exact shp_eF _
    · trivial
    · exact nb_eF _
  | none f =>
    refine ⟨fun d hd => ?_, fun d hd => ?_⟩ <;> simp only [List.mem_cons, List.not_mem_nil, or_false] at hd <;> rcases hd with rfl | rfl
    · exact ok_none
    · exact shp_eF _
    · trivial
    · exact nb_eF _
  | some n L m M =>
    refine ⟨fun d hd => ?_, fun d hd => ?_⟩ <;> simp only [List.mem_cons, List.not_mem_nil, or_false] at hd <;> rcases hd with rfl | rfl | rfl
    · exact ok_some
    · exact shp_eWZ _ _
    · exact shp_eWZ _ _
    · trivial
    · exact nb_eWZ _ _
    · exact nb_eWZ _ _

/-! all the webs of a tally, and a pair -/
structure AllL (ks : List Int) (Ls : List (List (Int × Int))) : Prop where
  ne : Ls ≠ []
  snd : ∀ L ∈ Ls, Ties ks.length L ∧ tallyI ks.length L = ks
  all : ∀ L, Ties ks.length L → tallyI ks.length L = ks → L ∈ Ls
theorem AllL.web {ks : List Int} {Ls : List (List (Int × Int))} (h : AllL ks Ls) : HasWeb ks := by
  obtain ⟨L, hL⟩ := List.exists_mem_of_ne_nil _ h.ne
  exact ⟨L, h.snd L hL⟩
theorem nrm_lt {u v : Nat} (h : u < v) : nrm ((u : Int), (v : Int)) = ((u : Int), (v : Int)) := by
  unfold nrm
  rw [Prod.mk.injEq]
  simp only
  omega
theorem all_in {ks : List Int} {Ls : List (List (Int × Int))} (h : AllL ks Ls) {u v : Nat} (hu : u < ks.length) (hv : v < ks.length) (uv : u ≠ v) : (∀ L ∈ Ls, nrm ((u : Int), (v : Int)) ∈ L) ↔ ¬ HasWeb (bothI ks u v 1) := by
  constructor
  · intro hall w1
    obtain ⟨o3, o4⟩ := near_out hu hv uv h.web w1
    have hin := hall _ (h.all _ (by_ties hu o3 o4) (by_tally hu o3 o4))
    have := (by_mem hu o3 o4 (by omega)).mp hin
    exact (rest_mem.mp (List.mem_of_mem_take this)).2.2 rfl
  · intro n1 L hL
    refine Classical.byContradiction fun c => n1 ?_
    obtain ⟨a, b⟩ := h.snd L hL
    exact both_more hu hv uv a b c
theorem none_in {ks : List Int} {Ls : List (List (Int × Int))} (h : AllL ks Ls) {u v : Nat} (hu : u < ks.length) (hv : v < ks.length) (uv : u ≠ v) : (∀ L ∈ Ls, nrm ((u : Int), (v : Int)) ∉ L) ↔ ¬ HasWeb (bothI ks u v (-1)) := by
  constructor
  · intro hall w1
    obtain ⟨o1, o2⟩ := near_in hu hv uv h.web w1
    exact hall _ (h.all _ (by_ties hu o1 o2) (by_tally hu o1 o2)) ((by_mem hu o1 o2 (by omega)).mpr (by unfold nearW; simp))
  · intro n1 L hL c
    obtain ⟨a, b⟩ := h.snd L hL
    exact n1 (both_less hu hv uv a b c)
def havI (Ls : List (List (Int × Int))) (p : Int × Int) : Nat := (Ls.filter fun L => decide (p ∈ L)).length
theorem hav_le (Ls : List (List (Int × Int))) (p : Int × Int) : havI Ls p ≤ Ls.length := List.length_filter_le _ _
theorem hav_all {Ls : List (List (Int × Int))} {p : Int × Int} : havI Ls p = Ls.length ↔ ∀ L ∈ Ls, p ∈ L := by
  unfold havI
  rw [List.length_filter_eq_length_iff]
  exact ⟨fun h L hL => of_decide_eq_true (h L hL), fun h L hL => decide_eq_true (h L hL)⟩
theorem hav_none {Ls : List (List (Int × Int))} {p : Int × Int} : havI Ls p = 0 ↔ ∀ L ∈ Ls, p ∉ L := by
  unfold havI
  rw [List.length_eq_zero_iff, List.filter_eq_nil_iff]
  exact ⟨fun h L hL c => h L hL (decide_eq_true c), fun h L hL c => h L hL (of_decide_eq_true c)⟩
theorem inPT {neg : Bool} {p : Int × Int} {L : List (Int × Int)} {P : D → Prop} (h : P (.bool (decide (p ∈ L) ^^ neg))) : inR neg (eP p) (.tuple (L.map eP)) P := by
  rw [x_inT]
  refine ⟨shp_pair p, shp_map shp_pair L, ?_⟩
  rw [show ((L.map eP).any fun z => PyData.eqv z (eP p)) = decide (p ∈ L) from in_eP L p.1 p.2]
  exact h
theorem filter_snoc {α : Type} {f : α → Prop} [DecidablePred f] (l : List α) (x : α) : (l ++ [x]).filter (fun p => decide (f p)) = l.filter (fun p => decide (f p)) ++ if f x then [x] else [] := by
  rw [List.filter_append, List.filter_cons, List.filter_nil]
  by_cases c : f x
  · rw [if_pos c, if_pos (decide_eq_true c)]
  · rw [if_neg c, if_neg (by simpa using c)]

/-! LGW: growths -/
abbrev GP := Int × Int
def stepD (v : Int × Bool) : D := .tuple [.int v.1, .bool v.2]
def gKV (p : GP) : Key × D := (Sum.inl p.1, .int p.2)
def gP (L : List GP) (p : GP) : Bool := decide (p.2 = 0) || decide (p.2 = (L.length : Int) - 1)
def lastG (L : List GP) : Option (Int × Bool) := (L.find? (gP L)).map fun p => (p.1, !decide (p.2 = 0))
def nextG (L : List GP) (v : Int × Bool) : List GP := (L.filter fun p => !decide (p.1 = v.1)).map fun p => (p.1, p.2 - (if v.2 = true then 1 else 0))
def growG : Nat → List GP → Option (List (Int × Bool))
  | 0, L => if L = [] then some [] else none
  | n + 1, L => if L = [] then some [] else match lastG L with
    | none => none
    | some v => (growG n (nextG L v)).map (v :: ·)
def enG (ks : List Int) : List GP := (List.range ks.length).map fun i : Nat => ((i : Int), getI ks (i : Nat))
def growD (ks : List Int) : Option (List (Int × Bool)) := growG ks.length (enG ks)
abbrev SrtG (L : List GP) : Prop := L.Pairwise fun p q => p.1 < q.1
theorem enG_len (ks : List Int) : (enG ks).length = ks.length := by unfold enG; rw [List.length_map, List.length_range]
theorem enG_srt (ks : List Int) : SrtG (enG ks) := by
  unfold enG
  refine List.pairwise_map.mpr (List.pairwise_lt_range.imp fun h => ?_)
  show ((_ : Nat) : Int) < ((_ : Nat) : Int)
  omega
theorem nextG_srt {L : List GP} (h : SrtG L) (v : Int × Bool) : SrtG (nextG L v) := by
  unfold nextG
  exact List.pairwise_map.mpr ((h.filter _).imp fun h => h)
theorem lastG_mem {L : List GP} {v : Int × Bool} (h : lastG L = some v) : ∃ p ∈ L, gP L p = true ∧ v = (p.1, !decide (p.2 = 0)) := by
  unfold lastG at h
  obtain ⟨p, hp, rfl⟩ := Option.map_eq_some_iff.mp h
  exact ⟨p, List.mem_of_find?_eq_some hp, List.find?_some hp, rfl⟩
theorem nextG_len {L : List GP} {v : Int × Bool} (h : lastG L = some v) : (nextG L v).length < L.length := by
  obtain ⟨p, hp, _, rfl⟩ := lastG_mem h
  unfold nextG
  rw [List.length_map]
  refine Nat.lt_of_le_of_ne (List.length_filter_le _ _) fun z => ?_
  have := List.length_filter_eq_length_iff.mp z p hp
  simp at this
theorem growG_more : ∀ (n : Nat) (L : List GP), L.length ≤ n → growG n L = growG L.length L
  | 0, L, h => by
    cases L with
    | nil => rfl
    | cons a L => simp at h
  | n + 1, [], h => rfl
  | n + 1, a :: L, h => by
    show growG (n + 1) (a :: L) = growG (L.length + 1) (a :: L)
    unfold growG
    rw [if_neg (by simp), if_neg (by simp)]
    cases e : lastG (a :: L) with
    | none => rfl
    | some v =>
      have hl := nextG_len e
      simp only [List.length_cons] at hl h
      show (growG n _).map _ = (growG L.length _).map _
      rw [growG_more n _ (by omega), growG_more L.length _ (by omega)]
termination_by n => n
theorem growG_nil (n : Nat) : growG n [] = some [] := by cases n <;> rfl
theorem growG_none {L : List GP} (h0 : L ≠ []) (h : lastG L = none) : growG L.length L = none := by
  cases L with
  | nil => exact absurd rfl h0
  | cons a L =>
    show growG (L.length + 1) (a :: L) = none
    unfold growG
    rw [if_neg (by simp), h]
theorem growG_some {L : List GP} {v : Int × Bool} (h : lastG L = some v) : growG L.length L = (growG (nextG L v).length (nextG L v)).map (v :: ·) := by
  cases L with
  | nil => simp [lastG] at h
  | cons a L =>
    have hl := nextG_len h
    simp only [List.length_cons] at hl
    have e : growG (a :: L).length (a :: L) = (growG L.length (nextG (a :: L) v)).map (v :: ·) := by
      show growG (L.length + 1) (a :: L) = _
      rw [growG, if_neg (by simp), h]
    rw [e, growG_more L.length _ (by omega)]
theorem nextG_snoc (pre : List GP) (p : GP) (v : Int × Bool) : nextG (pre ++ [p]) v = if p.1 = v.1 then nextG pre v else nextG pre v ++ [(p.1, p.2 - (if v.2 = true then 1 else 0))] := by
  unfold nextG
  by_cases z : p.1 = v.1 <;> simp [List.filter_append, z]
theorem valG {L : List GP} (hs : SrtG L) {p : GP} (hp : p ∈ L) : valD (L.map gKV) (.inl p.1) = some (.int p.2) := by
  induction L with
  | nil => simp at hp
  | cons q L ih =>
    rw [List.map_cons, valD_cons]
    rcases List.mem_cons.mp hp with rfl | hp
    · exact if_pos rfl
    · have := (List.pairwise_cons.mp hs).1 p hp
      rw [if_neg (fun z => by
        have z : q.1 = p.1 := by simpa [gKV] using z
        omega)]
      exact ih (List.pairwise_cons.mp hs).2 hp
theorem putG {L : List GP} {q : GP} (h : ∀ p ∈ L, p.1 < q.1) : putD (L.map gKV) (.inl q.1) (.int q.2) = (L ++ [q]).map gKV := by
  unfold putD
  rw [if_neg, List.map_append]
  · rfl
  · intro z
    obtain ⟨x, hx, e⟩ := List.any_eq_true.mp z
    obtain ⟨p, hp, rfl⟩ := List.mem_map.mp hx
    have e : (Sum.inl p.1 : Key) = .inl q.1 := by simpa [gKV] using e
    have := h p hp
    injection e with e
    omega

/-! LGW2: the web that a growth makes -/
def tiesR : List Int → List (Int × Bool) → List (Int × Int)
  | _, [] => []
  | A, v :: vs => (if v.2 = true then A.map fun o => (v.1, o) else []) ++ tiesR (A ++ [v.1]) vs
def tiesG (vs : List (Int × Bool)) : List (Int × Int) := tiesR [] vs
theorem tiesR_snoc : ∀ (A : List Int) (pre : List (Int × Bool)) (v : Int × Bool), tiesR A (pre ++ [v]) = tiesR A pre ++ (if v.2 = true then (A ++ pre.map (·.1)).map fun o => (v.1, o) else [])
  | A, [], v => by simp [tiesR]
  | A, u :: pre, v => by
    show _ ++ tiesR _ (pre ++ [v]) = _ ++ tiesR _ pre ++ _
    rw [tiesR_snoc, List.append_assoc]
    simp
theorem tiesG_snoc (pre : List (Int × Bool)) (v : Int × Bool) : tiesG (pre ++ [v]) = tiesG pre ++ (if v.2 = true then (pre.map (·.1)).map fun o => (v.1, o) else []) := by
  unfold tiesG
  rw [tiesR_snoc, List.nil_append]
def GrownOk (vs : List (Int × Bool)) : Prop := (1 ≤ vs.length ∧ vs.length ≤ 24) ∧ srtI (vs.map (·.1)) = rngI vs.length ∧ (vs[0]?).map (·.2) = some false
theorem tiesR_mem : ∀ (A : List Int) (vs : List (Int × Bool)), (A ++ vs.map (·.1)).Nodup → ∀ p ∈ tiesR A vs, p.1 ∈ vs.map (·.1) ∧ p.2 ∈ A ++ vs.map (·.1) ∧ p.1 ≠ p.2
  | A, [], _, p, hp => by simp [tiesR] at hp
  | A, v :: vs, hn, p, hp => by
    rcases List.mem_append.mp hp with hp | hp
    · by_cases c : v.2 = true
      · rw [if_pos c] at hp
        obtain ⟨o, ho, rfl⟩ := List.mem_map.mp hp
        refine ⟨by simp, by simp [ho], fun z => ?_⟩
        have z : v.1 = o := z
        exact (List.nodup_append.mp hn).2.2 o ho v.1 (by simp) z.symm
      · rw [if_neg c] at hp
        simp at hp
    · have := tiesR_mem (A ++ [v.1]) vs (by simpa using hn) p hp
      refine ⟨List.mem_cons_of_mem _ this.1, ?_, this.2.2⟩
      simpa using this.2.1
theorem nrm_two {a b c d : Int} (h : nrm (a, b) = nrm (c, d)) : (a = c ∧ b = d) ∨ (a = d ∧ b = c) := by
  unfold nrm at h
  simp only [Prod.mk.injEq] at h
  omega
theorem tiesR_nd : ∀ (A : List Int) (vs : List (Int × Bool)), (A ++ vs.map (·.1)).Nodup → ((tiesR A vs).map nrm).Nodup
  | A, [], _ => by simp [tiesR]
  | A, v :: vs, hn => by
    rw [tiesR, List.map_append]
    have hn2 : (A ++ [v.1] ++ vs.map (·.1)).Nodup := by simpa using hn
    have hA := (List.nodup_append.mp hn).1
    refine List.nodup_append.mpr ⟨?_, tiesR_nd (A ++ [v.1]) vs hn2, fun p hp q hq z => ?_⟩
    · by_cases c : v.2 = true
      · rw [if_pos c, List.map_map]
        refine List.pairwise_map.mpr (hA.imp fun {a b} h z => h ?_)
        rcases nrm_two z with z | z
        · exact z.2
        · omega
      · rw [if_neg c]
        simp
    · by_cases c : v.2 = true
      · rw [if_pos c] at hp
        obtain ⟨p', hp', rfl⟩ := List.mem_map.mp hp
        obtain ⟨o, ho, rfl⟩ := List.mem_map.mp hp'
        obtain ⟨q', hq', rfl⟩ := List.mem_map.mp hq
        have hm := tiesR_mem (A ++ [v.1]) vs hn2 q' hq'
        have dis := (List.nodup_append.mp hn2).2.2
        rcases nrm_two (c := q'.1) (d := q'.2) z with z | z
        · exact dis v.1 (by simp) q'.1 hm.1 z.1
        · exact dis o (by simp [ho]) q'.1 hm.1 z.2
      · rw [if_neg c] at hp
        simp at hp
theorem grown_perm {vs : List (Int × Bool)} (h : srtI (vs.map (·.1)) = rngI vs.length) : (vs.map (·.1)).Perm (rngI vs.length) := by
  rw [← h]
  exact (srtI_perm _).symm
theorem tiesG_fits {vs : List (Int × Bool)} (h : GrownOk vs) : Fits vs.length (tiesG vs) := by
  have hp := grown_perm h.2.1
  have hn : (([] : List Int) ++ vs.map (·.1)).Nodup := by
    rw [List.nil_append]
    exact hp.nodup_iff.mpr (rngI_nodup _)
  refine ⟨fun p hp2 => ?_, tiesR_nd [] vs hn⟩
  have hm := tiesR_mem [] vs hn p hp2
  have h1 := hp.mem_iff.mp hm.1
  have h2 := hp.mem_iff.mp hm.2.1
  rw [mem_rngI] at h1 h2
  have := hm.2.2
  unfold nrm
  show 0 ≤ min p.1 p.2 ∧ min p.1 p.2 < max p.1 p.2 ∧ max p.1 p.2 < (vs.length : Int)
  omega
theorem tiesG_len (vs : List (Int × Bool)) (h : vs.length ≤ 24) : (tiesG vs).length ≤ 24 * vs.length := by
  have : ∀ (k : Nat), k ≤ vs.length → (tiesG (vs.take k)).length ≤ 24 * k := fun k => by
    induction k with
    | zero => intro _; simp [tiesG, tiesR]
    | succ k ih =>
      intro hk
      have e : vs.take (k + 1) = vs.take k ++ [vs[k]] := (List.take_append_getElem (by omega)).symm
      rw [e, tiesG_snoc, List.length_append]
      have := ih (by omega)
      have h2 : (if (vs[k]).2 = true then ((vs.take k).map (·.1)).map fun o => ((vs[k]).1, o) else []).length ≤ k := by
        by_cases c : (vs[k]).2 = true
        · rw [if_pos c, List.length_map, List.length_map, List.length_take]
          omega
        · rw [if_neg c]
          simp
      omega
  have := this vs.length (Nat.le_refl _)
  rwa [List.take_length] at this
theorem enum_stepD (L : List (Int × Bool)) : enumD (L.map stepD) = L.zipIdx.map fun p => PyData.tuple [.int (p.2 : Nat), stepD p.1] := by
  unfold enumD
  refine List.ext_getElem? fun i => ?_
  rw [List.getElem?_mapIdx, List.getElem?_map, List.getElem?_map, List.getElem?_zipIdx]
  cases L[i]? <;> simp
theorem eqA_steps : ∀ A B : List (Int × Bool), PyData.eqvAll (A.map stepD) (B.map stepD) = decide (A = B)
  | [], [] => by simp [PyData.eqvAll]
  | [], b :: B => by simp [PyData.eqvAll]
  | a :: A, [] => by simp [PyData.eqvAll]
  | (a, a') :: A, (b, b') :: B => by
    simp only [List.map_cons, PyData.eqvAll, PyData.eqv, eqA_steps A B, stepD]
    by_cases h1 : a = b <;> by_cases h2 : a' = b' <;> by_cases h3 : A = B <;> simp [h1, h2, h3]
theorem shp_stepD {k : Nat} (v : Int × Bool) : Shp (k + 1) (stepD v) := fun d hd => by
  rcases List.mem_cons.mp hd with rfl | hd
  · exact shp_int _
  · rw [List.mem_singleton] at hd
    subst hd
    cases k <;> trivial
theorem shp_steps {k : Nat} (A : List (Int × Bool)) : Shp (k + 2) (.list (A.map stepD)) := fun d hd => by
  obtain ⟨v, _, rfl⟩ := List.mem_map.mp hd
  exact shp_stepD v
theorem eqR_steps {A B : List (Int × Bool)} {neg : Bool} {P : D → Prop} (h : P (.bool (decide (A = B) ^^ neg))) : eqR neg (.list (A.map stepD)) (.list (B.map stepD)) P := by
  refine ⟨shp_steps A, shp_steps B, ?_⟩
  rw [show PyData.eqv (.list (A.map stepD)) (.list (B.map stepD)) = decide (A = B) by simp only [PyData.eqv]; exact eqA_steps A B]
  exact h

/-! LGW3: when a tally has a growth -/
def adjL (L : List (Int × Int)) : Int → Int → Bool := fun a b => decide (a ≠ b ∧ nrm (a, b) ∈ L)
theorem nrm_sym (a b : Int) : nrm (a, b) = nrm (b, a) := by unfold nrm; simp only [Prod.mk.injEq]; omega
theorem adjL_sym (L : List (Int × Int)) (a b : Int) : adjL L a b = adjL L b a := by
  unfold adjL
  rw [nrm_sym a b]
  have : (a ≠ b) ↔ (b ≠ a) := by omega
  simp only [this]
theorem adjL_irr (L : List (Int × Int)) (a : Int) : adjL L a a = false := by
  unfold adjL
  simp
theorem sum_ite (f : Int → Bool) : ∀ U : List Int, (U.map fun q => if f q = true then (1 : Int) else 0).sum = (U.countP f : Nat)
  | [] => rfl
  | a :: U => by
    rw [List.map_cons, List.sum_cons, sum_ite f U, List.countP_cons]
    split <;> omega
theorem adj_tally {n : Nat} {L : List (Int × Int)} (h : Ties n L) {i : Nat} (hi : i < n) : getI (tallyI n L) (i : Nat) = ((rngI n).countP (adjL L (i : Nat)) : Nat) := by
  have e := (mg_of_ties h).2 i hi
  unfold numI at e
  rw [← e, ← sum_ite, ← sm_rng (fun q => if adjL L (i : Nat) q = true then 1 else 0)]
  refine sm_congr fun j _ => ?_
  unfold matL adjL nrm
  by_cases c : i ≠ j ∧ (min (i : Int) (j : Int), max (i : Int) (j : Int)) ∈ L
  · rw [if_pos c, if_pos (decide_eq_true ⟨by omega, c.2⟩)]
  · rw [if_neg c, if_neg (by
      simp only [decide_eq_true_eq]
      rintro ⟨a, b⟩
      exact c ⟨by omega, b⟩)]
theorem split_at {U : List Int} (hn : U.Nodup) {x : Int} (hx : x ∈ U) : U.Perm (x :: U.filter fun q => !decide (q = x)) := by
  refine (List.perm_ext_iff_of_nodup hn ?_).mpr fun q => ?_
  · refine List.nodup_cons.mpr ⟨fun z => ?_, hn.filter _⟩
    have := (List.mem_filter.mp z).2
    simp at this
  · rw [List.mem_cons, List.mem_filter]
    by_cases c : q = x
    · subst c
      simp [hx]
    · simp [c]
def Stuck (adj : Int → Int → Bool) (U : List Int) : Prop := U ≠ [] ∧ ∀ a ∈ U, U.countP (adj a) ≠ 0 ∧ (U.countP (adj a) : Int) ≠ (U.length : Int) - 1
theorem count_nought {f : Int → Bool} {U : List Int} (h : U.countP f = 0) : ∀ q ∈ U, f q = false := fun q hq => by
  have := List.countP_eq_zero.mp h q hq
  simpa using this
theorem grow_thm {adj : Int → Int → Bool} (hs : ∀ a b, adj a b = adj b a) (hi : ∀ a, adj a a = false) : ∀ (n : Nat) (L : List GP), L.length = n → SrtG L → (∀ p ∈ L, p.2 = ((L.map (·.1)).countP (adj p.1) : Nat)) →
    (∃ ws, growG L.length L = some ws ∧ ws.Pairwise (fun v u => adj v.1 u.1 = v.2) ∧ (ws.map (·.1)).Perm (L.map (·.1)) ∧ ∀ z, ws.getLast? = some z → z.2 = false) ∨
    (growG L.length L = none ∧ ∃ U, U.Sublist (L.map (·.1)) ∧ Stuck adj U) := by
  intro n
  induction n using Nat.strongRecOn with
  | _ n ih =>
  intro L hL hsr hd
  by_cases h0 : L = []
  · subst h0
    exact .inl ⟨[], rfl, .nil, .nil, by simp⟩
  have hnd : (L.map (·.1)).Nodup := List.pairwise_map.mpr (hsr.imp fun h => by omega)
  cases e : lastG L with
  | none =>
    refine .inr ⟨growG_none h0 e, L.map (·.1), .refl _, by simpa using h0, fun a ha => ?_⟩
    obtain ⟨p, hp, rfl⟩ := List.mem_map.mp ha
    have hg : gP L p = false := by
      unfold lastG at e
      have := List.find?_eq_none.mp (Option.map_eq_none_iff.mp e) p hp
      simpa using this
    unfold gP at hg
    have hd := hd p hp
    simp only [Bool.or_eq_false_iff, decide_eq_false_iff_not] at hg
    rw [List.length_map]
    omega
  | some v =>
    obtain ⟨p, hp, hg, ev⟩ := lastG_mem e
    have hlen := nextG_len e
    have hpU : p.1 ∈ L.map (·.1) := List.mem_map_of_mem hp
    have hv1 : v.1 = p.1 := by rw [ev]
    have eU : (nextG L v).map (·.1) = (L.map (·.1)).filter fun q => !decide (q = p.1) := by
      unfold nextG
      rw [List.map_map, List.filter_map, hv1]
      rfl
    have hsp := split_at hnd hpU
    rw [← eU] at hsp
    have hdp := hd p hp
    have all : ∀ q ∈ (nextG L v).map (·.1), adj p.1 q = v.2 := fun q hq => by
      have hq' := hq
      rw [eU] at hq'
      have hqp : q ≠ p.1 := by simpa using (List.mem_filter.mp hq').2
      rw [hsp.countP_eq, List.countP_cons, hi, if_neg (by simp), Nat.add_zero] at hdp
      by_cases c : p.2 = 0
      · have e2 : v.2 = false := by rw [ev]; simp [c]
        rw [e2]
        exact count_nought (by omega) q hq
      · have e2 : v.2 = true := by rw [ev]; simp [c]
        unfold gP at hg
        simp only [Bool.or_eq_true, decide_eq_true_eq] at hg
        have hl2 := hsp.length_eq
        rw [List.length_map, List.length_cons] at hl2
        rw [e2]
        have hcl : ((nextG L v).map (·.1)).countP (adj p.1) = ((nextG L v).map (·.1)).length := by omega
        exact List.countP_eq_length.mp hcl q hq
    have hd' : ∀ r ∈ nextG L v, r.2 = (((nextG L v).map (·.1)).countP (adj r.1) : Nat) := fun r hr => by
      have hr1 : r.1 ∈ (nextG L v).map (·.1) := List.mem_map_of_mem hr
      have ha := all _ hr1
      unfold nextG at hr
      obtain ⟨r0, hr0, rfl⟩ := List.mem_map.mp hr
      have h1 := hd r0 (List.mem_filter.mp hr0).1
      rw [hsp.countP_eq, List.countP_cons, hs, ha] at h1
      show r0.2 - (if v.2 = true then 1 else 0) = ((((nextG L v).map (·.1)).countP (adj r0.1) : Nat) : Int)
      by_cases c : v.2 = true
      · rw [if_pos c] at h1 ⊢
        omega
      · rw [if_neg c] at h1 ⊢
        omega
    rw [growG_some e]
    rcases ih (nextG L v).length (by omega) _ rfl (nextG_srt hsr v) hd' with ⟨ws, w1, w2, w3, w4⟩ | ⟨w1, U, w2, w3⟩
    · refine .inl ⟨v :: ws, by rw [w1]; rfl, List.pairwise_cons.mpr ⟨fun u hu => ?_, w2⟩, ?_, fun z hz => ?_⟩
      · rw [hv1]
        exact all _ (w3.mem_iff.mp (List.mem_map_of_mem hu))
      · rw [List.map_cons, hv1]
        exact (List.Perm.cons _ w3).trans hsp.symm
      · cases ws with
        | nil =>
          have hz : v = z := by simpa using hz
          subst hz
          have hn : (nextG L v).map (·.1) = [] := by
            have := w3.length_eq
            simp only [List.map_nil, List.length_nil] at this
            exact List.eq_nil_of_length_eq_zero this.symm
          rw [hn] at hsp
          rw [hsp.countP_eq, List.countP_cons, hi] at hdp
          rw [ev]
          simp at hdp
          simp [hdp]
        | cons w ws =>
          rw [List.getLast?_cons_cons] at hz
          exact w4 z hz
    · exact .inr ⟨by rw [w1]; rfl, U, w2.trans (by rw [eU]; exact List.filter_sublist), w3⟩
/-- the ties that a growth makes -/
theorem ties_adj {adj : Int → Int → Bool} (hs : ∀ a b, adj a b = adj b a) : ∀ (A : List Int) (zs : List (Int × Bool)), (A ++ zs.map (·.1)).Nodup → zs.Pairwise (fun u v => adj v.1 u.1 = v.2) → (∀ a ∈ A, ∀ v ∈ zs, adj v.1 a = v.2) →
    ∀ x ∈ zs.map (·.1), ∀ y ∈ A ++ zs.map (·.1), x ≠ y → (nrm (x, y) ∈ (tiesR A zs).map nrm ↔ adj x y = true)
  | A, [], _, _, _, x, hx, _, _, _ => by simp at hx
  | A, v :: zs, hn, hp, hA, x, hx, y, hy, ne => by
    have hn2 : (A ++ [v.1] ++ zs.map (·.1)).Nodup := by simpa using hn
    have hA2 : ∀ a ∈ A ++ [v.1], ∀ w ∈ zs, adj w.1 a = w.2 := fun a ha w hw => by
      rcases List.mem_append.mp ha with ha | ha
      · exact hA a ha w (by simp [hw])
      · rw [List.mem_singleton] at ha
        subst ha
        exact (List.pairwise_cons.mp hp).1 w hw
    have ih := ties_adj hs (A ++ [v.1]) zs hn2 (List.pairwise_cons.mp hp).2 hA2
    have dis := (List.nodup_append.mp hn2).2.2
    have em : ∀ a b : Int, (nrm (a, b) ∈ (tiesR A (v :: zs)).map nrm ↔ (v.2 = true ∧ ∃ o ∈ A, nrm (a, b) = nrm (v.1, o)) ∨ nrm (a, b) ∈ (tiesR (A ++ [v.1]) zs).map nrm) := fun a b => by
      rw [tiesR, List.map_append, List.mem_append]
      by_cases c : v.2 = true
      · rw [if_pos c, List.map_map, List.mem_map]
        simp only [c, true_and]
        constructor
        · rintro (⟨o, ho, e⟩ | h)
          · exact .inl ⟨o, ho, e.symm⟩
          · exact .inr h
        · rintro (⟨o, ho, e⟩ | h)
          · exact .inl ⟨o, ho, e.symm⟩
          · exact .inr h
      · rw [if_neg c]
        simp [c]
    have later : ∀ a b : Int, a ∈ zs.map (·.1) → (nrm (a, b) ∈ (tiesR A (v :: zs)).map nrm ↔ nrm (a, b) ∈ (tiesR (A ++ [v.1]) zs).map nrm) := fun a b ha => by
      rw [em]
      refine ⟨fun h => h.resolve_left ?_, .inr⟩
      rintro ⟨_, o, ho, e⟩
      rcases nrm_two e with z | z
      · exact dis v.1 (by simp) a ha z.1.symm
      · exact dis o (by simp [ho]) a ha z.1.symm
    rw [List.map_cons, List.mem_cons] at hx
    rcases hx with rfl | hx
    · have hy' : y ∈ A ∨ y ∈ zs.map (·.1) := by
        rcases List.mem_append.mp hy with h | h
        · exact .inl h
        · rw [List.map_cons, List.mem_cons] at h
          exact h.elim (fun z => absurd z.symm ne) .inr
      rcases hy' with hy' | hy'
      · rw [em, hA y hy' v (by simp)]
        refine ⟨fun h => ?_, fun h => .inl ⟨h, y, hy', rfl⟩⟩
        rcases h with h | h
        · exact h.1
        · obtain ⟨p, hp2, e⟩ := List.mem_map.mp h
          have hm := (tiesR_mem (A ++ [v.1]) zs hn2 p hp2).1
          rcases nrm_two (a := p.1) (b := p.2) e with z | z
          · exact absurd z.1.symm (dis v.1 (by simp) p.1 hm)
          · exact absurd z.1.symm (dis y (by simp [hy']) p.1 hm)
      · rw [nrm_sym, later y v.1 hy', hs]
        exact ih y hy' v.1 (by simp) (Ne.symm ne)
    · rw [later x y hx]
      refine ih x hx y ?_ ne
      simpa using hy
/-- a growth's own ties -/
theorem ties_self : ∀ (A : List Int) (zs : List (Int × Bool)), (A ++ zs.map (·.1)).Nodup → (zs.Pairwise fun u v => decide (nrm (v.1, u.1) ∈ (tiesR A zs).map nrm) = v.2) ∧ ∀ a ∈ A, ∀ v ∈ zs, decide (nrm (v.1, a) ∈ (tiesR A zs).map nrm) = v.2
  | A, [], _ => ⟨.nil, by simp⟩
  | A, v :: zs, hn => by
    have hn2 : (A ++ [v.1] ++ zs.map (·.1)).Nodup := by simpa using hn
    obtain ⟨ih1, ih2⟩ := ties_self (A ++ [v.1]) zs hn2
    have dis := (List.nodup_append.mp hn2).2.2
    have em : ∀ a b : Int, (nrm (a, b) ∈ (tiesR A (v :: zs)).map nrm ↔ (v.2 = true ∧ ∃ o ∈ A, nrm (a, b) = nrm (v.1, o)) ∨ nrm (a, b) ∈ (tiesR (A ++ [v.1]) zs).map nrm) := fun a b => by
      rw [tiesR, List.map_append, List.mem_append]
      by_cases c : v.2 = true
      · rw [if_pos c, List.map_map, List.mem_map]
        simp only [c, true_and]
        constructor
        · rintro (⟨o, ho, e⟩ | h)
          · exact .inl ⟨o, ho, e.symm⟩
          · exact .inr h
        · rintro (⟨o, ho, e⟩ | h)
          · exact .inl ⟨o, ho, e.symm⟩
          · exact .inr h
      · rw [if_neg c]
        simp [c]
    have later : ∀ a b : Int, a ∈ zs.map (·.1) → (nrm (a, b) ∈ (tiesR A (v :: zs)).map nrm ↔ nrm (a, b) ∈ (tiesR (A ++ [v.1]) zs).map nrm) := fun a b ha => by
      rw [em]
      refine ⟨fun h => h.resolve_left ?_, .inr⟩
      rintro ⟨_, o, ho, e⟩
      rcases nrm_two e with z | z
      · exact dis v.1 (by simp) a ha z.1.symm
      · exact dis o (by simp [ho]) a ha z.1.symm
    have hmem : ∀ w ∈ zs, w.1 ∈ zs.map (·.1) := fun w hw => List.mem_map_of_mem hw
    refine ⟨List.pairwise_cons.mpr ⟨fun w hw => ?_, ?_⟩, fun a ha w hw => ?_⟩
    · rw [decide_eq_decide.mpr (later w.1 v.1 (hmem w hw))]
      exact ih2 v.1 (by simp) w hw
    · refine ih1.imp_of_mem fun {u w} hu hw h => ?_
      rw [decide_eq_decide.mpr (later w.1 u.1 (hmem w hw))]
      exact h
    · rcases List.mem_cons.mp hw with rfl | hw
      · have : nrm (w.1, a) ∈ (tiesR A (w :: zs)).map nrm ↔ w.2 = true := by
          rw [em]
          refine ⟨fun h => ?_, fun h => .inl ⟨h, a, ha, rfl⟩⟩
          rcases h with h | h
          · exact h.1
          · obtain ⟨p, hp2, e⟩ := List.mem_map.mp h
            have hm := (tiesR_mem (A ++ [w.1]) zs hn2 p hp2).1
            rcases nrm_two (a := p.1) (b := p.2) e with z | z
            · exact absurd z.1.symm (dis w.1 (by simp) p.1 hm)
            · exact absurd z.1.symm (dis a (by simp [ha]) p.1 hm)
        by_cases c : w.2 = true
        · rw [decide_eq_true (this.mpr c), c]
        · rw [decide_eq_false fun z => c (this.mp z)]
          simpa using c
      · rw [decide_eq_decide.mpr (later w.1 a (hmem w hw))]
        exact ih2 a (by simp [ha]) w hw

/-! LGW4: a growth of a grown web's tally grows the same web -/
theorem fits_ties {n : Nat} {M : List (Int × Int)} (h : Fits n M) : Ties n (sortP (M.map nrm)) := by
  refine ⟨sortP_srt h.2, fun p hp => ?_⟩
  obtain ⟨q, hq, rfl⟩ := List.mem_map.mp ((sortP_perm _).mem_iff.mp hp)
  exact h.1 q hq
theorem enG_fst (ks : List Int) : (enG ks).map (·.1) = rngI ks.length := by
  unfold enG rngI
  rw [List.map_map]
  rfl
theorem enG_adj {n : Nat} {L : List (Int × Int)} (h : Ties n L) : ∀ p ∈ enG (tallyI n L), p.2 = (((enG (tallyI n L)).map (·.1)).countP (adjL L p.1) : Nat) := fun p hp => by
  rw [enG_fst, tallyI_len]
  unfold enG at hp
  rw [tallyI_len] at hp
  obtain ⟨i, hi, rfl⟩ := List.mem_map.mp hp
  exact adj_tally h (List.mem_range.mp hi)
theorem srtI_eq {A B : List Int} (h : A.Perm B) (hB : B.Pairwise (· ≤ ·)) : srtI A = B :=
  ((srtI_perm A).trans h).eq_of_pairwise (fun a b _ _ h1 h2 => by omega) ((srtI_srt A).imp fun h => h) hB
theorem rngI_srt (n : Nat) : (rngI n).Pairwise (· ≤ ·) := List.pairwise_map.mpr (List.pairwise_lt_range.imp fun h => by omega)
/-- a growth of a web's tally: it is a growth, and makes the web -/
theorem grow_makes {n : Nat} {L : List (Int × Int)} (hL : Ties n L) (h1 : 1 ≤ n) (h2 : n ≤ 24) {ws : List (Int × Bool)} (w2 : ws.Pairwise (fun v u => adjL L v.1 u.1 = v.2)) (w3 : (ws.map (·.1)).Perm (rngI n)) (w4 : ∀ z, ws.getLast? = some z → z.2 = false) :
    ws.length = n ∧ GrownOk ws.reverse ∧ sortP ((tiesG ws.reverse).map nrm) = L := by
  have hl : ws.length = n := by
    have := w3.length_eq
    rwa [List.length_map, rngI_len] at this
  have hp : (ws.reverse.map (·.1)).Perm (rngI n) := by
    rw [List.map_reverse]
    exact (List.reverse_perm _).trans w3
  have hg : GrownOk ws.reverse := by
    refine ⟨by rw [List.length_reverse]; omega, ?_, ?_⟩
    · rw [List.length_reverse, hl]
      exact srtI_eq hp (rngI_srt n)
    · have e : ws.reverse[0]? = ws.getLast? := by
        rw [← List.head?_eq_getElem?, List.head?_reverse]
      rw [e]
      cases e2 : ws.getLast? with
      | none =>
        have : ws = [] := List.getLast?_eq_none_iff.mp e2
        subst this
        simp at hl
        omega
      | some z => exact congrArg some (w4 z e2)
  have hT := fits_ties (tiesG_fits hg)
  rw [List.length_reverse, hl] at hT
  refine ⟨hl, hg, ties_ext hT hL fun p => ?_⟩
  have hnd : (([] : List Int) ++ ws.reverse.map (·.1)).Nodup := by
    rw [List.nil_append]
    exact hp.nodup_iff.mpr (rngI_nodup n)
  have key := ties_adj (adjL_sym L) [] ws.reverse hnd (List.pairwise_reverse.mpr w2) (by simp)
  rw [(sortP_perm _).mem_iff]
  have back : ∀ p : Int × Int, 0 ≤ p.1 ∧ p.1 < p.2 ∧ p.2 < n → (p ∈ (tiesG ws.reverse).map nrm ↔ p ∈ L) := fun p hr => by
    have e : nrm (p.1, p.2) = p := by unfold nrm; exact Prod.ext (by show min p.1 p.2 = p.1; omega) (by show max p.1 p.2 = p.2; omega)
    have k := key p.1 (hp.mem_iff.mpr (mem_rngI.mpr (by omega))) p.2 (by rw [List.nil_append]; exact hp.mem_iff.mpr (mem_rngI.mpr (by omega))) (by omega)
    rw [e] at k
    rw [show p ∈ (tiesG ws.reverse).map nrm ↔ p ∈ (tiesR [] ws.reverse).map nrm from Iff.rfl, k]
    unfold adjL
    rw [e, decide_eq_true_eq]
    exact ⟨fun h => h.2, fun h => ⟨by omega, h⟩⟩
  refine ⟨fun h => (back p ?_).mp h, fun h => (back p (hL.rng p h)).mpr h⟩
  exact hT.rng p ((sortP_perm _).mem_iff.mpr h)
theorem grow_or {n : Nat} {L : List (Int × Int)} (hL : Ties n L) (h1 : 1 ≤ n) (h2 : n ≤ 24) :
    (∃ ws, growD (tallyI n L) = some ws ∧ ws.length = n ∧ GrownOk ws.reverse ∧ sortP ((tiesG ws.reverse).map nrm) = L) ∨ (growD (tallyI n L) = none ∧ ∃ U, U.Sublist (rngI n) ∧ Stuck (adjL L) U) := by
  have hlen : (enG (tallyI n L)).length = n := by rw [enG_len, tallyI_len]
  have e : growD (tallyI n L) = growG (enG (tallyI n L)).length (enG (tallyI n L)) := by
    unfold growD
    rw [hlen, tallyI_len]
  rw [e]
  have ef : (enG (tallyI n L)).map (·.1) = rngI n := by rw [enG_fst, tallyI_len]
  rcases grow_thm (adjL_sym L) (adjL_irr L) _ _ rfl (enG_srt _) (enG_adj hL) with ⟨ws, w1, w2, w3, w4⟩ | ⟨w1, U, w2, w3⟩
  · rw [ef] at w3
    exact .inl ⟨ws, w1, grow_makes hL h1 h2 w2 w3 w4⟩
  · rw [ef] at w2
    exact .inr ⟨w1, U, w2, w3⟩
/-- a grown web is never stuck -/
theorem grown_free {vs : List (Int × Bool)} {adj : Int → Int → Bool} (hs : ∀ a b, adj a b = adj b a) (hi : ∀ a, adj a a = false) (hp : vs.Pairwise fun u v => adj v.1 u.1 = v.2) (hn : (vs.map (·.1)).Nodup) {U : List Int} (hU : U.Nodup) (hsub : ∀ q ∈ U, q ∈ vs.map (·.1)) (h : Stuck adj U) : False := by
  obtain ⟨h0, h⟩ := h
  have hp' := hp.filter fun v => decide (v.1 ∈ U)
  have hpm : ((vs.filter fun v => decide (v.1 ∈ U)).map (·.1)).Perm U := by
    have hnf : ((vs.filter fun v => decide (v.1 ∈ U)).map (·.1)).Nodup := List.Nodup.sublist (List.filter_sublist.map _) hn
    refine (List.perm_ext_iff_of_nodup hnf hU).mpr fun q => ?_
    rw [List.mem_map]
    constructor
    · rintro ⟨v, hv, rfl⟩
      simpa using (List.mem_filter.mp hv).2
    · intro hq
      obtain ⟨v, hv, rfl⟩ := List.mem_map.mp (hsub q hq)
      exact ⟨v, List.mem_filter.mpr ⟨hv, by simpa using hq⟩, rfl⟩
  generalize (vs.filter fun v => decide (v.1 ∈ U)) = us at hp' hpm
  have hne : us ≠ [] := by
    rintro rfl
    exact h0 (List.eq_nil_of_length_eq_zero hpm.length_eq.symm)
  obtain ⟨us', z, rfl⟩ : ∃ us' z, us = us' ++ [z] := ⟨us.dropLast, us.getLast hne, (List.dropLast_concat_getLast hne).symm⟩
  rw [List.map_append] at hpm
  have hz : z.1 ∈ U := hpm.mem_iff.mp (by simp)
  have hall : ∀ u ∈ us', adj z.1 u.1 = z.2 := fun u hu => (List.pairwise_append.mp hp').2.2 u hu z (by simp)
  have hc := h z.1 hz
  have hlen := hpm.length_eq
  rw [← hpm.countP_eq, List.countP_append] at hc
  rw [List.length_append] at hlen
  simp only [List.map_cons, List.map_nil, List.countP_cons, List.countP_nil, hi, List.length_cons, List.length_nil, List.length_map] at hc hlen
  cases e : z.2 with
  | false =>
    have : (us'.map (·.1)).countP (adj z.1) = 0 := List.countP_eq_zero.mpr fun q hq => by
      obtain ⟨u, hu, rfl⟩ := List.mem_map.mp hq
      rw [hall u hu, e]
      simp
    rw [this] at hc
    simp at hc
  | true =>
    have : (us'.map (·.1)).countP (adj z.1) = (us'.map (·.1)).length := List.countP_eq_length.mpr fun q hq => by
      obtain ⟨u, hu, rfl⟩ := List.mem_map.mp hq
      rw [hall u hu, e]
    rw [this, List.length_map] at hc
    simp at hc
    omega
theorem grow_back {vs : List (Int × Bool)} (hg : GrownOk vs) : ∃ ws, growD (tallyI vs.length (sortP ((tiesG vs).map nrm))) = some ws ∧ ws.length = vs.length ∧ GrownOk ws.reverse ∧ sortP ((tiesG ws.reverse).map nrm) = sortP ((tiesG vs).map nrm) := by
  have hT := fits_ties (tiesG_fits hg)
  have hp := grown_perm hg.2.1
  rcases grow_or hT hg.1.1 hg.1.2 with h | ⟨_, U, hU, hst⟩
  · exact h
  · exfalso
    have hn : (vs.map (·.1)).Nodup := hp.nodup_iff.mpr (rngI_nodup _)
    have hs := (ties_self [] vs (by simpa using hn)).1
    refine grown_free (adjL_sym _) (adjL_irr _) ?_ hn ((rngI_nodup _).sublist hU) (fun q hq => hp.mem_iff.mpr (hU.subset hq)) hst
    refine (hs.and (List.pairwise_map.mp hn)).imp fun {u v} h => ?_
    rw [← h.1]
    unfold adjL
    rw [decide_eq_decide]
    rw [(sortP_perm _).mem_iff]
    exact ⟨fun z => z.2, fun z => ⟨fun c => h.2 c.symm, z⟩⟩

/-! LGW5: exchanges of four places; a tally without a growth has one -/
theorem ties_sortPG {n : Nat} {L : List (Int × Int)} (h : L.Nodup) (hr : ∀ p ∈ L, 0 ≤ p.1 ∧ p.1 < p.2 ∧ p.2 < n) : Ties n (sortP L) := ⟨sortP_srt h, fun p hp => hr p ((sortP_perm L).mem_iff.mp hp)⟩
def exchG (L : List (Int × Int)) (a b c d : Int) : List (Int × Int) := sortP ((L.filter fun p => decide (p ≠ nrm (a, b) ∧ p ≠ nrm (c, d))) ++ [nrm (a, d), nrm (c, b)])
theorem mem_exchG {L : List (Int × Int)} {a b c d : Int} {p : Int × Int} : p ∈ exchG L a b c d ↔ (p ∈ L ∧ p ≠ nrm (a, b) ∧ p ≠ nrm (c, d)) ∨ p = nrm (a, d) ∨ p = nrm (c, b) := by
  unfold exchG
  rw [(sortP_perm _).mem_iff, List.mem_append, List.mem_filter, decide_eq_true_eq]
  simp
structure ExP (n : Nat) (L : List (Int × Int)) (a b c d : Int) : Prop where
  ab : nrm (a, b) ∈ L
  cd : nrm (c, d) ∈ L
  nad : nrm (a, d) ∉ L
  ncb : nrm (c, b) ∉ L
  ne : a ≠ c ∧ b ≠ d ∧ a ≠ d ∧ c ≠ b
section
variable {n : Nat} {L : List (Int × Int)} {a b c d : Int}
theorem ExP.rngs (hL : Ties n L) (h : ExP n L a b c d) : (0 ≤ a ∧ a < n) ∧ (0 ≤ b ∧ b < n) ∧ (0 ≤ c ∧ c < n) ∧ (0 ≤ d ∧ d < n) ∧ a ≠ b ∧ c ≠ d := by
  have h1 := hL.rng _ h.ab
  have h2 := hL.rng _ h.cd
  unfold nrm at h1 h2
  simp only at h1 h2
  omega
theorem exg_list (hL : Ties n L) (h : ExP n L a b c d) : ((L.filter fun p => decide (p ≠ nrm (a, b) ∧ p ≠ nrm (c, d))) ++ [nrm (a, d), nrm (c, b)]).Nodup ∧ ∀ p ∈ (L.filter fun p => decide (p ≠ nrm (a, b) ∧ p ≠ nrm (c, d))) ++ [nrm (a, d), nrm (c, b)], 0 ≤ p.1 ∧ p.1 < p.2 ∧ p.2 < n := by
  obtain ⟨ra, rb, rc, rd, ab, cd⟩ := h.rngs hL
  obtain ⟨e1, e2, e3, e4⟩ := h.ne
  refine ⟨List.nodup_append.mpr ⟨hL.nodup.filter _, ?_, fun x hx y hy => ?_⟩, fun p hp => ?_⟩
  · refine List.nodup_cons.mpr ⟨fun z => ?_, by simp⟩
    rw [List.mem_singleton] at z
    unfold nrm at z
    rw [Prod.mk.injEq] at z
    simp only at z
    omega
  · rintro rfl
    have hx := (List.mem_filter.mp hx).1
    simp only [List.mem_cons, List.not_mem_nil, or_false] at hy
    rcases hy with rfl | rfl
    · exact h.nad hx
    · exact h.ncb hx
  · rcases List.mem_append.mp hp with hp | hp
    · exact hL.rng p (List.mem_filter.mp hp).1
    · simp only [List.mem_cons, List.not_mem_nil, or_false] at hp
      rcases hp with rfl | rfl
      · unfold nrm
        simp only
        omega
      · unfold nrm
        simp only
        omega
theorem exg_ties (hL : Ties n L) (h : ExP n L a b c d) : Ties n (exchG L a b c d) := ties_sortPG (exg_list hL h).1 (exg_list hL h).2
theorem hasP_nrmG (x y v : Int) : (if hasP v (nrm (x, y)) = true then 1 else 0) = if v = x ∨ v = y then 1 else 0 := by
  have : hasP v (nrm (x, y)) = decide (v = x ∨ v = y) := by
    rw [Bool.eq_iff_iff]
    unfold hasP nrm
    simp only [Bool.or_eq_true, beq_iff_eq, decide_eq_true_eq]
    omega
  rw [this]
  simp
theorem exg_tally (hL : Ties n L) (h : ExP n L a b c d) : tallyI n (exchG L a b c d) = tallyI n L := by
  obtain ⟨ra, rb, rc, rd, ab, cd⟩ := h.rngs hL
  obtain ⟨e1, e2, e3, e4⟩ := h.ne
  have hne : nrm (a, b) ≠ nrm (c, d) := fun z => by
    unfold nrm at z
    rw [Prod.mk.injEq] at z
    simp only at z
    omega
  have hp : L.Perm (nrm (a, b) :: nrm (c, d) :: L.filter fun p => decide (p ≠ nrm (a, b) ∧ p ≠ nrm (c, d))) := by
    refine (List.perm_ext_iff_of_nodup hL.nodup (List.nodup_cons.mpr ⟨fun z => ?_, List.nodup_cons.mpr ⟨fun z => ?_, hL.nodup.filter _⟩⟩)).mpr fun p => ?_
    · rcases List.mem_cons.mp z with z | z
      · exact hne z
      · exact (of_decide_eq_true (List.mem_filter.mp z).2).1 rfl
    · exact (of_decide_eq_true (List.mem_filter.mp z).2).2 rfl
    · rw [List.mem_cons, List.mem_cons, List.mem_filter, decide_eq_true_eq]
      constructor
      · intro hm
        by_cases c1 : p = nrm (a, b)
        · exact .inl c1
        · by_cases c2 : p = nrm (c, d)
          · exact .inr (.inl c2)
          · exact .inr (.inr ⟨hm, c1, c2⟩)
      · rintro (rfl | rfl | hm)
        · exact h.ab
        · exact h.cd
        · exact hm.1
  unfold exchG
  rw [tally_perm (sortP_perm _), tally_perm hp]
  unfold tallyI
  refine List.map_congr_left fun v _ => ?_
  have hd : deg ((L.filter fun p => decide (p ≠ nrm (a, b) ∧ p ≠ nrm (c, d))) ++ [nrm (a, d), nrm (c, b)]) (v : Nat) = deg (nrm (a, b) :: nrm (c, d) :: L.filter fun p => decide (p ≠ nrm (a, b) ∧ p ≠ nrm (c, d))) (v : Nat) := by
    rw [deg_append, deg_cons, deg_cons, deg_cons, deg_cons, hasP_nrmG, hasP_nrmG, hasP_nrmG, hasP_nrmG, show deg [] ((v : Nat) : Int) = 0 from rfl]
    generalize ((v : Nat) : Int) = w
    have : (if w = a ∨ w = d then 1 else 0) + (if w = c ∨ w = b then 1 else 0) = (if w = a ∨ w = b then 1 else 0) + (if w = c ∨ w = d then (1 : Nat) else 0) := by
      by_cases ha : w = a
      · subst ha
        simp [ab, e1, e3]
      · by_cases hb : w = b
        · subst hb
          simp [ha, e2]
          omega
        · by_cases hc : w = c
          · subst hc
            simp [ha, hb, cd]
          · by_cases hd : w = d
            · subst hd
              simp [ha, hb, hc]
            · simp [ha, hb, hc, hd]
    omega
  rw [hd]
end
theorem exists_max (f : Int → Nat) : ∀ U : List Int, U ≠ [] → ∃ v ∈ U, ∀ w ∈ U, f w ≤ f v
  | [], h => absurd rfl h
  | [a], _ => ⟨a, by simp, by simp⟩
  | a :: b :: U, _ => by
    obtain ⟨v, hv, h⟩ := exists_max f (b :: U) (by simp)
    by_cases c : f v ≤ f a
    · refine ⟨a, by simp, fun w hw => ?_⟩
      rcases List.mem_cons.mp hw with rfl | hw
      · exact Nat.le_refl _
      · exact Nat.le_trans (h w hw) c
    · refine ⟨v, List.mem_cons_of_mem _ hv, fun w hw => ?_⟩
      rcases List.mem_cons.mp hw with rfl | hw
      · omega
      · exact h w hw
theorem stuck_exch {n : Nat} {L : List (Int × Int)} {U : List Int} (hU : U.Sublist (rngI n)) (h : Stuck (adjL L) U) : ∃ a b c d, ExP n L a b c d := by
  obtain ⟨h0, h⟩ := h
  have hnd : U.Nodup := (rngI_nodup n).sublist hU
  have sym := adjL_sym L
  have irr := adjL_irr L
  obtain ⟨v, hv, hmax⟩ := exists_max (fun q => U.countP (adjL L q)) U h0
  have sp := split_at hnd hv
  generalize hR : (U.filter fun q => !decide (q = v)) = R at sp
  have cv : U.countP (adjL L v) = R.countP (adjL L v) := by rw [sp.countP_eq, List.countP_cons, irr]; simp
  have hlR := sp.length_eq
  rw [List.length_cons] at hlR
  obtain ⟨u, huR, hu⟩ : ∃ u ∈ R, adjL L v u = false := by
    refine Classical.byContradiction fun z => ?_
    have : R.countP (adjL L v) = R.length := List.countP_eq_length.mpr fun q hq => by
      cases e : adjL L v q with
      | true => rfl
      | false => exact absurd ⟨q, hq, e⟩ z
    have := (h v hv).2
    omega
  have huv : u ≠ v := by
    rw [← hR] at huR
    simpa using (List.mem_filter.mp huR).2
  have huU : u ∈ U := sp.mem_iff.mpr (List.mem_cons_of_mem _ huR)
  obtain ⟨w, hw, huw⟩ : ∃ w ∈ U, adjL L u w = true := by
    refine Classical.byContradiction fun z => ?_
    refine (h u huU).1 (List.countP_eq_zero.mpr fun q hq e => z ⟨q, hq, e⟩)
  have hwv : w ≠ v := by
    rintro rfl
    rw [sym, hu] at huw
    cases huw
  have hwu : w ≠ u := by
    rintro rfl
    rw [irr] at huw
    cases huw
  have hwR : w ∈ R := (List.mem_cons.mp (sp.mem_iff.mp hw)).resolve_left hwv
  have hndR : R.Nodup := (List.nodup_cons.mp (sp.nodup_iff.mp hnd)).2
  have sp2 := split_at hndR hwR
  generalize hS : (R.filter fun q => !decide (q = w)) = S at sp2
  have huS : u ∈ S := (List.mem_cons.mp (sp2.mem_iff.mp huR)).resolve_left (Ne.symm hwu)
  have hndS : S.Nodup := (List.nodup_cons.mp (sp2.nodup_iff.mp hndR)).2
  have sp3 := split_at hndS huS
  generalize hQ : (S.filter fun q => !decide (q = u)) = Q at sp3
  obtain ⟨x, hxQ, hx1, hx2⟩ : ∃ x ∈ Q, adjL L v x = true ∧ adjL L w x = false := by
    refine Classical.byContradiction fun z => ?_
    have mono : Q.countP (adjL L v) ≤ Q.countP (adjL L w) := List.countP_mono_left fun q hq e => by
      cases e2 : adjL L w q with
      | true => rfl
      | false => exact absurd ⟨q, hq, e, e2⟩ z
    have m := hmax w hw
    have c1 : U.countP (adjL L v) = (if adjL L v w = true then 1 else 0) + Q.countP (adjL L v) := by
      rw [cv, sp2.countP_eq, List.countP_cons, sp3.countP_eq, List.countP_cons, hu]
      simp
      omega
    have c2 : U.countP (adjL L w) = (if adjL L w v = true then 1 else 0) + 1 + Q.countP (adjL L w) := by
      rw [sp.countP_eq, List.countP_cons, sp2.countP_eq, List.countP_cons, irr, sp3.countP_eq, List.countP_cons, sym w u, huw]
      simp
      omega
    have : U.countP (adjL L w) ≤ U.countP (adjL L v) := m
    rw [sym w v] at c2
    omega
  have inS : x ∈ S := sp3.mem_iff.mpr (List.mem_cons_of_mem _ hxQ)
  have inR : x ∈ R := sp2.mem_iff.mpr (List.mem_cons_of_mem _ inS)
  have hxv : x ≠ v := by
    rintro rfl
    rw [irr] at hx1
    cases hx1
  have hxw : x ≠ w := by
    rw [← hS] at inS
    simpa using (List.mem_filter.mp inS).2
  have hxu : x ≠ u := by
    rintro rfl
    rw [hu] at hx1
    cases hx1
  have yes : ∀ {p q : Int}, adjL L p q = true → nrm (p, q) ∈ L := fun e => (of_decide_eq_true e).2
  have no : ∀ {p q : Int}, p ≠ q → adjL L p q = false → nrm (p, q) ∉ L := fun ne e z => of_decide_eq_false e ⟨ne, z⟩
  refine ⟨v, x, w, u, yes hx1, ?_, no (Ne.symm huv) hu, no (Ne.symm hxw) hx2, Ne.symm hwv, hxu, Ne.symm huv, Ne.symm hxw⟩
  rw [nrm_sym]
  exact yes huw
/-- the growth of a tally and its webs -/
theorem grow_sole {n : Nat} {L M : List (Int × Int)} (hL : Ties n L) (hM : Ties n M) (e : tallyI n M = tallyI n L) (h1 : 1 ≤ n) (h2 : n ≤ 24) (hg : growD (tallyI n L) ≠ none) : M = L := by
  rcases grow_or hL h1 h2 with ⟨ws, w1, _, _, w4⟩ | ⟨w1, _⟩
  · rcases grow_or hM h1 h2 with ⟨ws', w1', _, _, w4'⟩ | ⟨w1', _⟩
    · rw [e, w1] at w1'
      cases w1'
      rw [← w4, ← w4']
    · rw [e, w1] at w1'
      cases w1'
  · exact absurd w1 hg
theorem exch_none {n : Nat} {L : List (Int × Int)} (hL : Ties n L) (h1 : 1 ≤ n) (h2 : n ≤ 24) : growD (tallyI n L) = none ↔ ∃ a b c d, ExP n L a b c d := by
  constructor
  · intro hg
    rcases grow_or hL h1 h2 with ⟨ws, w1, _⟩ | ⟨_, U, hU, hs⟩
    · rw [w1] at hg
      cases hg
    · exact stuck_exch hU hs
  · rintro ⟨a, b, c, d, h⟩
    refine Classical.byContradiction fun hg => ?_
    have e := grow_sole hL (exg_ties hL h) (exg_tally hL h) h1 h2 hg
    have := mem_exchG.mpr (.inr (.inl (rfl : nrm (a, d) = nrm (a, d))) : (nrm (a, d) ∈ L ∧ nrm (a, d) ≠ nrm (a, b) ∧ nrm (a, d) ≠ nrm (c, d)) ∨ nrm (a, d) = nrm (a, d) ∨ nrm (a, d) = nrm (c, b))
    rw [e] at this
    exact h.nad this

local macro_rules | `(tactic| walk_at "s") => `(tactic| repeat (refine And.intro (by first | omega | decide | exact lit_div (by decide) (by decide) | exact mid_div (by omega) (by omega) | exact small_mul (by first | decide | (constructor <;> omega)) | exact lit_mul (by first | decide | (constructor <;> omega)) | exact ⟨by decide, by decide, by decide⟩) ?_))

/-! _law_row -/
theorem p__law_row {cell size : Int} {n : Nat} {P : D → Prop} {Z : String → Prop} (h0 : 0 < size) (h1 : size ≤ 1000000000) (hn : n ≤ 90000) (h : ∀ r : List Int, r.length = n → (∀ x ∈ r, 0 ≤ x ∧ x < size) → P (.list (r.map .int))) : w__law_row [.int cell, .int (n : Nat), .int size] P Z := by
  rw [u__law_row]
  unfold rd__law_row
  walk_at "r"
  walk_at "s"
  refine forI (fun i : Nat => .int (i : Nat)) (List.range n) (fun pre (s : List Int × Int × Sl) => s.1.length = pre.length ∧ ∀ x ∈ s.1, 0 ≤ x ∧ x < size) (fun s => [.fz (.int cell), .fz (.int (n : Nat)), .fz (.int size), .ow (.list (s.1.map .int)), .fz (.int s.2.1), .un, .un]) ([], cell / 2, .un) rfl ⟨rfl, fun x hx => by simp at hx⟩ (fun s hs => ?_) (fun pre i post s hM hs => ?_) (by rw [Int.toNat_natCast, range_encN])
  · walk_at "r"
    rw [List.length_range] at hs
    exact h _ hs.1 hs.2
  · obtain ⟨hi, hi2⟩ := range_mem hM
    have app : ∀ x : Int, s.1.map PyData.int ++ [PyData.int x] = (s.1 ++ [x]).map .int := fun x => by rw [List.map_append]; rfl
    have good : ∀ x : Int, 0 ≤ x ∧ x < size → (s.1 ++ [x]).length = (pre ++ [i]).length ∧ ∀ y ∈ s.1 ++ [x], 0 ≤ y ∧ y < size := fun x hx => by
      refine ⟨by rw [List.length_append, List.length_append, hs.1]; rfl, fun y hy => ?_⟩
      rcases List.mem_append.mp hy with hy | hy
      · exact hs.2 y hy
      · rw [List.mem_singleton] at hy
        subst hy
        exact hx
    walk_at "r"
    rw [List.length_map, hs.1]
    refine ⟨by decide, fun c => ?_, fun c => ?_⟩
    · walk_at "s"
      exact ⟨(s.1 ++ [s.2.1 % size], s.2.1 / size, .un), app _, rfl, good _ ⟨Int.emod_nonneg _ (by omega), Int.emod_lt_of_pos _ h0⟩⟩
    · have a1 := Int.emod_nonneg (s.2.1 + 977 * (i : Int) + 1) (b := 2147483647) (by decide)
      have a2 := Int.emod_lt_of_pos (s.2.1 + 977 * (i : Int) + 1) (b := 2147483647) (by decide)
      walk_at "s"
      exact ⟨(s.1 ++ [_], s.2.1, .un), app _, rfl, good _ ⟨Int.emod_nonneg _ (by omega), Int.emod_lt_of_pos _ h0⟩⟩
theorem p__law_row_even {k size : Int} {n : Nat} {P : D → Prop} {Z : String → Prop} (h0 : 0 < size) (h1 : size ≤ 1000000000) (hn : n ≤ 90000) (h : P (.list ((digs size k n).map .int))) : w__law_row [.int (2 * k), .int (n : Nat), .int size] P Z := by
  rw [u__law_row]
  unfold rd__law_row
  walk_at "r"
  walk_at "s"
  refine forI (fun i : Nat => .int (i : Nat)) (List.range n) (fun pre (s : List Int × Int) => s.1.length = pre.length ∧ s.1 ++ digs size s.2 (n - pre.length) = digs size k n) (fun s => [.fz (.int (2 * k)), .fz (.int (n : Nat)), .fz (.int size), .ow (.list (s.1.map .int)), .fz (.int s.2), .un, .un]) ([], 2 * k / 2) rfl ⟨rfl, by rw [show 2 * k / 2 = k by omega]; rfl⟩ (fun s hs => ?_) (fun pre i post s hM hs => ?_) (by rw [Int.toNat_natCast, range_encN])
  · walk_at "r"
    obtain ⟨-, hs⟩ := hs
    rw [List.length_range, Nat.sub_self, show digs size s.2 0 = [] from rfl, List.append_nil] at hs
    rw [hs]
    exact h
  · obtain ⟨hi, hi2⟩ := range_mem hM
    have app : ∀ x : Int, s.1.map PyData.int ++ [PyData.int x] = (s.1 ++ [x]).map .int := fun x => by rw [List.map_append]; rfl
    walk_at "r"
    rw [List.length_map, hs.1]
    refine ⟨by decide, fun c => ?_, fun c => absurd (show 2 * k % 2 = 0 by omega) c⟩
    walk_at "s"
    refine ⟨(s.1 ++ [s.2 % size], s.2 / size), app _, rfl, by rw [List.length_append, List.length_append, hs.1]; rfl, ?_⟩
    rw [← hs.2, List.append_assoc, List.length_append, List.length_singleton, show n - pre.length = (n - (pre.length + 1)) + 1 by omega]
    rfl

/-! _law_ties -/
theorem p__law_ties_gen {n : Nat} {cell : Int} {V : List Int → Prop} {P : D → Prop} {Z : String → Prop} (hn : n ≤ 24) (hr : ∀ {P : D → Prop} {Z : String → Prop}, (∀ row : List Int, row.length = (pairsI n).length → V row → P (.list (row.map .int))) → w__law_row [.int cell, .int ((pairsI n).length : Nat), .int 2] P Z) (h : ∀ row : List Int, row.length = (pairsI n).length → V row → P (.list ((selI (pairsI n) row).map eP))) : w__law_ties [.int (n : Nat), .int cell] P Z := by
  rw [u__law_ties]
  unfold rd__law_ties
  have hk := pairs_len hn
  have hm : CMulD (n : Int) ((n : Int) - 1) := small_mul (by constructor <;> omega)
  walk_at "r"
  refine ⟨hm, lit_div (by decide) (by decide), ?_⟩
  rw [pairs_two]
  refine hr fun row hrow hV => ?_
  walk_at "s"
  have hg : ∀ k : Nat, k < (pairsI n).length → atI (row.map PyData.int) (k : Int) = some (.int (getI row (k : Nat))) := fun k hk => at_getI (by omega) (by omega)
  refine forI (fun i : Nat => .int (i : Nat)) (List.range n) (fun pre (s : List (Int × Int) × Int) => s.1 = selI (pre.flatMap (rowI n)) row ∧ s.2 = ((pre.flatMap (rowI n)).length : Nat)) (fun s => [.fz (.int (n : Nat)), .fz (.int cell), .fz (.list (row.map .int)), .ow (.list (s.1.map eP)), .fz (.int s.2), .un, .un]) ([], 0) rfl ⟨rfl, rfl⟩ (fun s hs => ?_) (fun pre i post s hM hs => ?_) (by rw [Int.toNat_natCast, range_encN])
  · walk_at "r"
    rw [hs.1]
    exact h row hrow hV
  · obtain ⟨hi0, hi⟩ := range_mem hM
    have hall : ∀ pr : List Nat, ∀ j : Nat, ∀ po : List Nat, List.range (n - (i + 1)) = pr ++ j :: po → ((pre.flatMap (rowI n)).length + pr.length : Nat) < (pairsI n).length := fun pr j po hM2 => by
      have e : (pairsI n).length = ((List.range n).flatMap (rowI n)).length := rfl
      have hr : (rowI n i).length = n - (i + 1) := by
        unfold rowI
        rw [List.length_map, List.length_range]
      have hl := congrArg List.length hM2
      rw [List.length_range, List.length_append, List.length_cons] at hl
      rw [e, hM, List.flatMap_append, List.flatMap_cons, List.length_append, List.length_append, hr]
      omega
    obtain ⟨s1, s2⟩ := s
    obtain ⟨hs1, rfl⟩ := hs
    simp only at hs1
    walk_at "r"
    walk_at "s"
    refine forI (fun j : Nat => .int ((i : Int) + 1 + (j : Nat))) (List.range (n - (i + 1))) (fun pr (s : List (Int × Int) × Int) => s.1 = selI (pre.flatMap (rowI n) ++ pr.map fun j => ((i : Int), (i : Int) + 1 + (j : Nat))) row ∧ s.2 = ((pre.flatMap (rowI n)).length + pr.length : Nat)) (fun s => [.fz (.int (n : Nat)), .fz (.int cell), .fz (.list (row.map .int)), .ow (.list (s.1.map eP)), .fz (.int s.2), .fz (.int (i : Nat)), .un]) (s1, ((pre.flatMap (rowI n)).length : Nat)) rfl ⟨by simpa using hs1, rfl⟩ (fun s hs => ?_) (fun pr j po s hM2 hs => ?_) ?_
    · refine ⟨s, rfl, ?_, ?_⟩
      · rw [List.flatMap_append, List.flatMap_cons, List.flatMap_nil, List.append_nil]
        exact hs.1
      · rw [hs.2, List.flatMap_append, List.flatMap_cons, List.flatMap_nil, List.append_nil, List.length_append, List.length_range]
        unfold rowI
        rw [List.length_map, List.length_range]
    · obtain ⟨t1, t2⟩ := s
      obtain ⟨ht, rfl⟩ := hs
      simp only at ht
      have hlt := hall pr j po hM2
      have hlen := selI_len (pre.flatMap (rowI n) ++ pr.map fun j => ((i : Int), (i : Int) + 1 + (j : Nat))) row
      rw [← ht, List.length_append, List.length_map] at hlen
      have ap : (pre.flatMap (rowI n) ++ (pr ++ [j]).map fun j => ((i : Int), (i : Int) + 1 + (j : Nat))) = (pre.flatMap (rowI n) ++ pr.map fun j => ((i : Int), (i : Int) + 1 + (j : Nat))) ++ [((i : Int), (i : Int) + 1 + (j : Nat))] := by
        rw [List.map_append, ← List.append_assoc]
        rfl
      walk_at "r"
      refine ⟨_, hg _ hlt, ?_⟩
      walk_at "r"
      refine ⟨fun c => ⟨by rw [List.length_map]; omega, (t1 ++ [((i : Int), (i : Int) + 1 + (j : Nat))], _), by rw [List.map_append]; rfl, rfl, ?_, ?_⟩, fun c => ⟨(t1, _), rfl, rfl, ?_, ?_⟩⟩
      · rw [ap, selI_snoc, List.length_append, List.length_map, if_pos c, ← ht]
      · rw [List.length_append, List.length_singleton]
        omega
      · rw [ap, selI_snoc, List.length_append, List.length_map, if_neg c, ← ht]
      · rw [List.length_append, List.length_singleton]
        omega
    · unfold rangeD
      rw [show ((n : Int) - ((i : Int) + 1)).toNat = n - (i + 1) by omega]
theorem p__law_ties {n : Nat} {cell : Int} {P : D → Prop} {Z : String → Prop} (hn : n ≤ 24) (h : ∀ L : List (Int × Int), L.Sublist (pairsI n) → P (.list (L.map eP))) : w__law_ties [.int (n : Nat), .int cell] P Z :=
  p__law_ties_gen (V := fun _ => True) hn (fun {P Z} hP => p__law_row (by decide) (by decide) (by have := pairs_len hn; omega) fun r h1 _ => hP r h1 trivial) fun row _ _ => h _ (selI_sub _ row)
theorem p__law_ties_even {n k : Nat} {P : D → Prop} {Z : String → Prop} (hn : n ≤ 24) (h : P (.list ((webK n k).map eP))) : w__law_ties [.int (n : Nat), .int (2 * (k : Int))] P Z :=
  p__law_ties_gen (V := fun r => r = digs 2 (k : Int) (pairsI n).length) hn (fun {P Z} hP => p__law_row_even (by decide) (by decide) (by have := pairs_len hn; omega) (hP _ digs_len rfl)) fun row _ hr => by
    subst hr
    exact h

/-! _law_web -/
theorem p__law_web {cell : Int} {P : D → Prop} {Z : String → Prop} (h : ∀ (n : Nat) (L : List (Int × Int)), 1 ≤ n → n ≤ 6 → L.Sublist (pairsI n) → P (.tuple [.int (n : Nat), .list (L.map eP)])) : w__law_web [.int cell] P Z := by
  rw [u__law_web]
  unfold rd__law_web
  refine seq_setw (V := fun x => ∃ n : Nat, x = .int (n : Nat) ∧ 1 ≤ n ∧ n ≤ 6) (fun P h => by
    walk_at "r"
    walk_at "s"
    exact h _ ⟨(1 + cell % 6).toNat, by rw [Int.toNat_of_nonneg (by omega)], by omega, by omega⟩) ?_
  rintro _ ⟨n, rfl, hn1, hn2⟩
  refine seq_setNw (V := fun x => ∃ L : List (Int × Int), L.Sublist (pairsI n) ∧ x = .list (L.map eP)) (fun P h => by
    walk_at "r"
    exact ⟨lit_div (by decide) (by decide), p__law_ties (by omega) fun L hL => h _ ⟨L, hL, rfl⟩⟩) ?_
  rintro _ ⟨L, hL, rfl⟩
  refine seq_ifg (b := cell / 6 % 2 == 1) (Good := fun ρ => ∃ (L : List (Int × Int)) (s : Sl), L.Sublist (pairsI n) ∧ ρ = [.fz (.int cell), .fz (.int (n : Nat)), .ow (.list (L.map eP)), s, .un, .un]) (fun P h => by
    walk_at "r"
    exact ⟨lit_div (by decide) (by decide), by decide, h⟩) ?_ (fun _ nx hx => ?_) (fun _ nx hx => hx _ ⟨L, .un, hL, rfl⟩)
  · rintro _ ⟨L, s, hL, rfl⟩
    walk_at "r"
    exact h n L hn1 hn2 hL
  · refine seq_setw (V := fun x => ∃ r : List Int, r.length = n ∧ x = .list (r.map .int)) (fun P h => by
      walk_at "r"
      exact ⟨lit_div (by decide) (by decide), p__law_row (by decide) (by decide) (by omega) fun r hr _ => h _ ⟨r, hr, rfl⟩⟩) ?_
    rintro _ ⟨r, hr, rfl⟩
    walk_at "r"
    refine ⟨by omega, by omega, ?_⟩
    refine forF (fun i : Nat => .int (i : Nat)) (List.range n) (fun pre => [.fz (.int cell), .fz (.int (n : Nat)), .ow (.list ((pre.flatMap fun i => (rowI n i).filter fun p => getI r p.2 == 1).map eP)), .fz (.list (r.map .int)), .un, .un]) rfl ?_ (fun pre i post hM => ?_) (by rw [Int.toNat_natCast, range_encN])
    · refine hx _ ⟨_, .fz (.list (r.map .int)), ?_, rfl⟩
      have : (pairsI n).filter (fun p => getI r p.2 == 1) = (List.range n).flatMap fun i => (rowI n i).filter fun p => getI r p.2 == 1 := by
        unfold pairsI
        rw [List.filter_flatMap]
      rw [← this]
      exact List.filter_sublist
    · obtain ⟨hi, hi2⟩ := range_mem hM
      walk_at "r"
      refine ⟨by omega, by omega, by omega, by omega, ?_⟩
      refine lcI (fun j : Nat => .int ((i : Int) + 1 + (j : Nat))) (List.range (n - (i + 1))) (fun j => getI r ((i : Int) + 1 + (j : Nat)) == 1) (fun j => eP ((i : Int), (i : Int) + 1 + (j : Nat))) (by rw [List.length_range]; omega) (fun j hj K K2 hK hK2 => ?_) ?_ ?_
      · have hj := List.mem_range.mp hj
        walk_at "r"
        refine ⟨_, at_getI (by omega) (by omega), x_eqI.mpr ⟨_, rfl, fun c => ?_, fun c => ?_⟩⟩
        · rw [Bool.xor_false] at c
          exact hK c
        · rw [Bool.xor_false] at c
          exact hK2 c
      · have er : ((List.range (n - (i + 1))).filter fun j => getI r ((i : Int) + 1 + (j : Nat)) == 1).map (fun j => eP ((i : Int), (i : Int) + 1 + (j : Nat))) = ((rowI n i).filter fun p => getI r p.2 == 1).map eP := by
          unfold rowI
          rw [List.filter_map, List.map_map]
          rfl
        rw [er]
        refine ⟨_, rfl, ?_, ?_⟩
        · have l1 : (pre.flatMap fun i => (rowI n i).filter fun p => getI r p.2 == 1).length ≤ 6 * pre.length := by
            clear hM hi
            induction pre with
            | nil => simp
            | cons a pre ih =>
              rw [List.flatMap_cons, List.length_append, List.length_cons]
              have : ((rowI n a).filter fun p => getI r p.2 == 1).length ≤ (rowI n a).length := List.length_filter_le _ _
              have h2 : (rowI n a).length = n - (a + 1) := by unfold rowI; rw [List.length_map, List.length_range]
              omega
          have l2 : ((rowI n i).filter fun p => getI r p.2 == 1).length ≤ (rowI n i).length := List.length_filter_le _ _
          have h2 : (rowI n i).length = n - (i + 1) := by unfold rowI; rw [List.length_map, List.length_range]
          rw [List.length_map, List.length_map]
          omega
        · rw [List.flatMap_append, List.map_append]
          simp
      · unfold rangeD
        rw [show ((n : Int) - ((i : Int) + 1)).toNat = n - (i + 1) by omega]

/-! _law_sums -/
theorem p__law_sums_ne {n : Nat} {L : List (Int × Int)} {x : D} {P : D → Prop} {Z : String → Prop} (hx : x = .list (L.map eP) ∨ x = .tuple (L.map eP)) (hn : n ≤ 90000) (hT : ∀ p ∈ L, (0 ≤ p.1 ∧ p.1 < n) ∧ (0 ≤ p.2 ∧ p.2 < n) ∧ p.1 ≠ p.2) (h : P (.list ((tallyI n L).map .int))) : w__law_sums [.int (n : Nat), x] P Z := by
  rw [u__law_sums]
  unfold rd__law_sums
  walk_at "r"
  walk_at "s"
  rw [rep_tally]
  refine ⟨L.map eP, hx, ?_⟩
  refine forF eP L (fun pre => [.fz (.int (n : Nat)), .fz x, .ow (.list ((tallyI n pre).map .int)), .un, .un]) ?_ ⟨_, rfl, h⟩ (fun pre q post hM => ?_) rfl
  · rfl
  obtain ⟨⟨h1, h2⟩, ⟨h3, h4⟩, h5⟩ := hT q (by rw [hM]; simp)
  obtain ⟨q1, q2⟩ := q
  obtain ⟨a, rfl⟩ : ∃ a : Nat, q1 = (a : Int) := ⟨_, (Int.toNat_of_nonneg h1).symm⟩
  obtain ⟨b, rfl⟩ : ∃ b : Nat, q2 = (b : Int) := ⟨_, (Int.toNat_of_nonneg h3).symm⟩
  simp only at h1 h2 h3 h4 h5
  have ha : a < n := by omega
  have hb : b < n := by omega
  simp only [eP]
  walk_at "r"
  rw [List.length_map, tallyI_len]
  refine ⟨_, atI_ints (tallyI_get ha), ?_⟩
  walk_at "r"
  refine ⟨a, ixN_nat ha, ?_⟩
  refine ⟨_, atI_nat (j := b) (v := .int (deg pre (b : Nat))) ?_, ?_⟩
  · rw [List.getElem?_set_ne (by omega), List.getElem?_map, tallyI_get hb]
    rfl
  walk_at "r"
  rw [List.length_set, List.length_map, tallyI_len]
  refine ⟨b, ixN_nat hb, ?_⟩
  rw [← tally_step ha hb (by omega), List.map_set, List.map_set]
theorem p__law_sums {n : Nat} {L : List (Int × Int)} {x : D} {P : D → Prop} {Z : String → Prop} (hx : x = .list (L.map eP) ∨ x = .tuple (L.map eP)) (hn : n ≤ 90000) (hT : ∀ p ∈ L, 0 ≤ p.1 ∧ p.1 < p.2 ∧ p.2 < n) (h : P (.list ((tallyI n L).map .int))) : w__law_sums [.int (n : Nat), x] P Z :=
  p__law_sums_ne hx hn (fun p hp => by have := hT p hp; omega) h

/-! look_at_tally -/
theorem p_look_at_tally {x : D} {ks : List Int} {P : D → Prop} {Z : String → Prop} (hx : IsI x ks) (h1 : 1 ≤ ks.length → ks.length ≤ 24 → P .none) (h2 : ¬ (1 ≤ ks.length ∧ ks.length ≤ 24) → Z "BadTally") : w_look_at_tally [x] P Z := by
  rw [u_look_at_tally]
  unfold rd_look_at_tally
  walk_at "r"
  refine len_isI hx ?_
  walk_at "r"
  refine ⟨fun c => h2 (by omega), fun c => len_isI hx ?_⟩
  walk_at "r"
  exact ⟨fun c2 => h2 (by omega), fun c2 => h1 (by omega) (by omega)⟩

/-! order_of -/
theorem tup_isI {x : D} {ks : List Int} (h : IsI x ks) {i : Nat} {ρ : List Sl} (hs : ρ[i]?.bind Sl.rd = some x) : tupR i ρ ks := by
  rcases h with rfl | rfl
  · exact .inl hs
  · exact .inr hs
theorem p_order_of {x : D} {ks : List Int} {P : D → Prop} {Z : String → Prop} (hx : IsI x ks) (h1 : 1 ≤ ks.length → ks.length ≤ 24 → P (.list ((orderI ks (rngI ks.length)).map .int))) (h2 : ¬ (1 ≤ ks.length ∧ ks.length ≤ 24) → Z "BadTally") : w_order_of [x] P Z := by
  rw [u_order_of]
  unfold rd_order_of
  walk_at "r"
  refine p_look_at_tally hx (fun a b => ?_) h2
  refine len_isI hx ?_
  exact ⟨ks.length, rfl, by omega, ks, tup_isI hx rfl, Nat.le_refl _, h1 a b⟩

/-! room_at -/
theorem p_room_at {x : D} {ks : List Int} {r : Int} {P : D → Prop} {Z : String → Prop} (hx : IsI x ks) (hr : -100000 ≤ r ∧ r ≤ 100000) (h1 : 1 ≤ ks.length → ks.length ≤ 24 → P (.int (roomI ks r))) (h2 : ¬ (1 ≤ ks.length ∧ ks.length ≤ 24) → Z "BadTally") : w_room_at [x, .int r] P Z := by
  rw [u_room_at]
  unfold rd_room_at
  walk_at "r"
  refine p_order_of hx (fun a b => ?_) h2
  walk_at "r"
  refine ⟨small_mul (by constructor <;> omega), ?_⟩
  refine forF (fun p : Int × Nat => .tuple [.int (p.2 : Nat), .int p.1]) (orderI ks (rngI ks.length)).zipIdx (fun pre => [.fz x, .fz (.int r), .fz (.list ((orderI ks (rngI ks.length)).map .int)), .fz (.int (roomP r (pre.map fun p => getI ks p.1))), .un, .un]) ?_ ?_ (fun pre q post hM => ?_) (enum_enc _ _)
  · simp [fgt, roomP]
  · walk_at "r"
    have e : (orderI ks (rngI ks.length)).zipIdx.map (fun p => getI ks p.1) = descI ks := by
      rw [← order_desc ks]
      have := List.zipIdx_map_fst 0 (orderI ks (rngI ks.length))
      conv => rhs; rw [← this, List.map_map]
      rfl
    rw [e]
    exact h1 a b
  · obtain ⟨e1, e2, e3⟩ := zip_at hM
    have hq : 0 ≤ q.1 ∧ q.1 < ks.length := mem_order.mp (List.mem_of_getElem? e2)
    have hl : ((pre.map fun p => getI ks p.1).length : Int) = (q.2 : Nat) := by rw [List.length_map, e1]
    have hs := roomP_snoc (r := r) (x := getI ks q.1) (xs := pre.map fun p => getI ks p.1)
    rw [hl] at hs
    walk_at "r"
    refine ⟨fun c => ix_isI hx hq.1 hq.2 ?_, fun c => ix_isI hx hq.1 hq.2 ?_⟩
    · walk_at "r"
      rw [if_pos c] at hs
      rw [List.map_append, List.map_singleton, hs]
    · walk_at "r"
      rw [if_neg (by omega)] at hs
      rw [List.map_append, List.map_singleton, hs]

/-! wall_of -/
theorem p_wall_of {x : D} {ks : List Int} {P : D → Prop} {Z : String → Prop} (hx : IsI x ks) (h1 : 1 ≤ ks.length → ks.length ≤ 24 → P (wallD ks)) (h2 : ¬ (1 ≤ ks.length ∧ ks.length ≤ 24) → Z "BadTally") : w_wall_of [x] P Z := by
  rw [u_wall_of]
  unfold rd_wall_of
  walk_at "r"
  refine p_look_at_tally hx (fun a b => ?_) h2
  have hP := h1 a b
  refine ⟨_, hx, ?_⟩
  refine forI (fun i : Nat => .tuple [.int (i : Nat), .int (getI ks (i : Nat))]) (List.range ks.length) (fun pre (_ : Unit) => ∀ i ∈ pre, decide (getI ks (i : Nat) < 0) = false) (fun _ => [.fz x, .un, .un, .un]) () rfl (fun i hi => by simp at hi) (fun _ hn => ?_) (fun pre i post _ hM hn => ?_) (enum_rng ks)
  · have e1 : negI ks = none := find_no hn
    walk_at "r"
    refine sum_isI hx ?_
    walk_at "r"
    refine ⟨by decide, fun ho => ?_, fun ho => len_isI hx ?_⟩
    · unfold wallD at hP
      rw [e1] at hP
      simp only [if_pos ho] at hP
      exact hP
    · walk_at "r"
      refine ⟨by decide, by decide, by omega, by omega, ?_⟩
      refine forI (fun i : Nat => .int (1 + (i : Nat))) (List.range ks.length) (fun pre (_ : Unit) => ∀ i ∈ pre, decide (roomI ks (1 + (i : Nat)) < 0) = false) (fun _ => [.fz x, .un, .un, .un]) () rfl (fun i hi => by simp at hi) (fun _ hn2 => ?_) (fun pre i post _ hM hn2 => ?_) ?_
      · have e2 : thinI ks = none := find_no hn2
        unfold wallD at hP
        rw [e1] at hP
        simp only [if_neg ho, e2] at hP
        walk_at "r"
        exact hP
      · obtain ⟨hi, hi2⟩ := range_mem hM
        walk_at "r"
        refine p_room_at hx (by omega) (fun _ _ => ?_) h2
        walk_at "r"
        refine ⟨fun c => ?_, fun c j hj => ?_⟩
        · have e2 : thinI ks = some i := find_at hM hn2 (decide_eq_true c)
          unfold wallD at hP
          rw [e1] at hP
          simp only [if_neg ho, e2] at hP
          exact hP
        · rcases List.mem_append.mp hj with hj | hj
          · exact of_decide_eq_false (hn2 j hj)
          · rw [List.mem_singleton] at hj
            subst hj
            omega
      · rw [range_enc, List.map_map, show ((ks.length : Int) + 1 - 1).toNat = ks.length by omega]
        rfl
  · walk_at "r"
    refine ⟨fun c => ?_, fun c j hj => ?_⟩
    · have e1 : negI ks = some i := find_at hM hn (decide_eq_true c)
      unfold wallD at hP
      rw [e1] at hP
      exact hP
    · rcases List.mem_append.mp hj with hj | hj
      · exact of_decide_eq_false (hn j hj)
      · rw [List.mem_singleton] at hj
        subst hj
        omega

/-! look_for_web -/
theorem isN_none {d : D} : isN d = true ↔ d = .none := by cases d <;> simp [isN]
theorem p_look_for_web {x : D} {ks : List Int} {P : D → Prop} {Z : String → Prop} (hx : IsI x ks) (hT : ¬ (1 ≤ ks.length ∧ ks.length ≤ 24) → Z "BadTally") (hW : 1 ≤ ks.length → ks.length ≤ 24 → ¬ HasWeb ks → Z "NoWeb") (h : 1 ≤ ks.length → ks.length ≤ 24 → HasWeb ks → P .none) : w_look_for_web [x] P Z := by
  rw [u_look_for_web]
  unfold rd_look_for_web
  walk_at "r"
  refine p_wall_of hx (fun a b => ?_) hT
  refine ⟨fun c => ?_, fun c => ?_⟩
  · refine hW a b fun w => ?_
    have c' : isN (wallD ks) = false := c
    rw [web_iff.mpr w] at c'
    exact nomatch c'
  · have c' : isN (wallD ks) = true := c
    exact h a b (web_iff.mp (isN_none.mp c'))

/-! last_put -/
theorem p_last_put {L : List GP} {P : D → Prop} {Z : String → Prop} (hs : SrtG L) (hl : L.length ≤ 24) (h : P (match lastG L with | none => .none | some v => stepD v)) : w_last_put [dctK (L.map gKV)] P Z := by
  rw [u_last_put]
  unfold rd_last_put
  walk_at "r"
  refine ⟨L.map (·.1), by rw [List.map_map, List.map_map]; rfl, by rw [List.length_map]; omega, fun ys hp hsy => ?_⟩
  have hks : (L.map (·.1)).Pairwise (· ≤ ·) := List.pairwise_map.mpr (hs.imp fun h => Int.le_of_lt h)
  have ey : ys = L.map (·.1) := hp.eq_of_pairwise (fun a b _ _ h1 h2 => by omega) hsy hks
  subst ey
  refine forI (fun p : GP => .int p.1) L (fun pre (_ : Unit) => ∀ q ∈ pre, gP L q = false) (fun _ => [.ln (dctK (L.map gKV)), .un]) () rfl (fun q hq => by simp at hq) (fun _ hq => ?_) (fun pre p post _ hM hq => ?_) (by rw [List.map_map]; rfl)
  · rw [show lastG L = none by unfold lastG; rw [find_no hq]; rfl] at h
    exact h
  · have hm : p ∈ L := by rw [hM]; simp
    have hv := valG hs hm
    have fin : gP L p = true → lastG L = some (p.1, !decide (p.2 = 0)) := fun c => by
      unfold lastG
      rw [find_at hM hq c]
      rfl
    walk_at "r"
    rw [hv, List.length_map]
    refine ⟨_, rfl, x_eqI.mpr ⟨_, rfl, fun c => ?_, fun c => ⟨_, rfl, x_eqI.mpr ⟨_, rfl, fun c2 => ?_, fun c2 q hq' => ?_⟩⟩⟩⟩
    · have c : p.2 = 0 := by simpa using c
      rw [fin (by simp [gP, c])] at h
      simpa [stepD, c] using h
    · have c : ¬ p.2 = 0 := by simpa using c
      have c2 : p.2 = (L.length : Int) - 1 := by simpa using c2
      rw [fin (by simp [gP, c2])] at h
      simpa [stepD, c] using h
    · rcases List.mem_append.mp hq' with hq' | hq'
      · exact hq q hq'
      · rw [List.mem_singleton] at hq'
        subst hq'
        have c : ¬ q.2 = 0 := by simpa using c
        have c2 : ¬ q.2 = (L.length : Int) - 1 := by simpa using c2
        simp [gP, c, c2]

/-! growth -/
theorem p_growth {x : D} {ks : List Int} {P : D → Prop} {Z : String → Prop} (hx : IsI x ks) (hT : ¬ (1 ≤ ks.length ∧ ks.length ≤ 24) → Z "BadTally") (hW : 1 ≤ ks.length → ks.length ≤ 24 → ¬ HasWeb ks → Z "NoWeb") (h : 1 ≤ ks.length → ks.length ≤ 24 → HasWeb ks → P (match growD ks with | none => .none | some vs => .list (vs.reverse.map stepD))) : w_growth [x] P Z := by
  rw [u_growth]
  unfold rd_growth
  walk_at "r"
  refine p_look_for_web hx hT hW (fun a b w => ?_)
  replace h := h a b w
  refine ⟨ks.map .int, hx, ?_⟩
  rw [enum_rng]
  refine forF (fun i : Nat => PyData.tuple [.int (i : Nat), .int (getI ks (i : Nat))]) (List.range ks.length) (fun pre => [.fz x, .ow (dctK (((enG ks).take pre.length).map gKV)), .un, .un, .un, .un, .un]) ?_ ?_ (fun pre i post hM => ?_) rfl
  · rfl
  · rw [List.length_range, show (enG ks).take ks.length = enG ks from List.take_of_length_le (by rw [enG_len]; exact Nat.le_refl _)]
    walk_at "r"
    refine ⟨fun m ρ' => ∃ (L : List GP) (vs : List (Int × Bool)), SrtG L ∧ L.length + vs.length ≤ ks.length ∧ growD ks = (growG L.length L).map (vs ++ ·) ∧ m = L.length ∧ ρ' = [.fz x, .ow (dctK (L.map gKV)), .un, .un, .ow (.list (vs.map stepD)), .un, .un], ⟨_, enG ks, [], enG_srt ks, by rw [enG_len]; simp, ?_, rfl, rfl⟩, ?_⟩
    · unfold growD
      rw [enG_len]
      simp
    · rintro m ρ' ⟨L, vs, hs, hl, hg, rfl, rfl⟩
      walk_at "r"
      refine ⟨fun c => p_last_put hs (by omega) ?_, fun c => ?_⟩
      · have hne : L ≠ [] := by
          rintro rfl
          simp at c
        cases e : lastG L with
        | none =>
          rw [growG_none hne e] at hg
          rw [show growD ks = none from hg] at h
          exact ⟨fun _ => h, fun z => nomatch z⟩
        | some v =>
          have hlen := nextG_len e
          refine ⟨fun z => (nomatch z), fun _ => ⟨by rw [List.length_map]; omega, _, rfl, ?_⟩⟩
          refine forF (fun p : GP => .int p.1) L (fun pre => [.fz x, .fz (lkK (L.map gKV)), .un, .un, .ow (.list (vs.map stepD ++ [stepD v])), .fz (stepD v), .ow (dctK ((nextG pre v).map gKV))]) rfl ?_ (fun pre p post hM => ?_) (by unfold keysK; rw [List.map_map]; rfl)
          · refine ⟨_, rfl, rfl, _, hlen, nextG L v, nextG_srt hs v, vs ++ [v], ?_, ?_, rfl, ?_⟩
            · rw [List.length_append, List.length_singleton]
              omega
            · rw [hg, growG_some e, Option.map_map]
              congr 1
              funext r
              simp
            · rw [List.map_append]
              rfl
          · have hm : p ∈ L := by rw [hM]; simp
            have hv := valG hs hm
            have hlt : ∀ q ∈ nextG pre v, q.1 < p.1 := fun q hq => by
              unfold nextG at hq
              obtain ⟨q', hq', rfl⟩ := List.mem_map.mp hq
              have hq' := (List.mem_filter.mp hq').1
              rw [hM] at hs
              exact (List.pairwise_append.mp hs).2.2 q' hq' p (by simp)
            have hpl : (nextG pre v).length ≤ 100000 := by
              have : pre.length ≤ L.length := by rw [hM, List.length_append]; omega
              have h2 : (nextG pre v).length ≤ pre.length := by
                unfold nextG
                rw [List.length_map]
                exact List.length_filter_le _ _
              omega
            rw [nextG_snoc]
            unfold stepD
            walk_at "r"
            refine ⟨_, rfl, x_eqI.mpr ⟨_, rfl, fun c => ⟨by rw [List.length_map]; exact hpl, _, hv.symm, _, rfl, ?_⟩, fun c => ?_⟩⟩
            · have c : ¬ p.1 = v.1 := by simpa using c
              rw [if_neg c]
              walk_at "r"
              exact putG (q := (p.1, p.2 - if v.2 = true then 1 else 0)) hlt
            · have c : p.1 = v.1 := by simpa using c
              rw [if_pos c]
      · have hn : L = [] := by
          cases L with
          | nil => rfl
          | cons a L => simp at c
        subst hn
        rw [show growD ks = some vs by rw [hg]; simp [growG]] at h
        rw [← List.map_reverse]
        exact h
  · obtain ⟨hi, hi2⟩ := range_mem hM
    have hp : (pre ++ [i]).length = i + 1 := by rw [List.length_append, List.length_singleton, hi]
    have et : (enG ks).take (i + 1) = (enG ks).take i ++ [((i : Int), getI ks (i : Nat))] := by
      unfold enG
      rw [← List.map_take, ← List.map_take, List.take_range, List.take_range, Nat.min_eq_left (by omega), Nat.min_eq_left (by omega), List.range_succ, List.map_append]
      rfl
    rw [hp, ← hi]
    walk_at "r"
    rw [List.length_map, List.length_take, enG_len]
    refine ⟨by omega, ?_⟩
    rw [et]
    exact putG (q := ((i : Int), getI ks (i : Nat))) fun p hp => by
      unfold enG at hp
      rw [← List.map_take, List.take_range, Nat.min_eq_left (by omega)] at hp
      obtain ⟨j, hj, rfl⟩ := List.mem_map.mp hp
      have := List.mem_range.mp hj
      show (j : Int) < (i : Int)
      omega

/-! _law_can -/
theorem sub_len : ∀ (F G : List Int), F.Nodup → (∀ q ∈ F, q ∈ G) → F.length ≤ G.length
  | [], _, _, _ => Nat.zero_le _
  | a :: F, G, hn, hs => by
    have h := List.nodup_cons.mp hn
    have := sub_len F (G.erase a) h.2 fun q hq => (List.mem_erase_of_ne (by rintro rfl; exact h.1 hq)).mpr (hs q (by simp [hq]))
    have ha := hs a (by simp)
    have := List.length_erase_of_mem ha
    have := List.length_pos_of_mem ha
    rw [List.length_cons]
    omega
theorem filter_four {n : Nat} {a b c d : Int} (ra : 0 ≤ a ∧ a < n) (rb : 0 ≤ b ∧ b < n) (rc : 0 ≤ c ∧ c < n) (rd : 0 ≤ d ∧ d < n) : ((List.range n).filter fun i : Nat => decide ((i : Int) ∈ [a, b, c, d])).length = 4 ↔ [a, b, c, d].Nodup := by
  have hnd : (((List.range n).filter fun i : Nat => decide ((i : Int) ∈ [a, b, c, d])).map fun i : Nat => (i : Int)).Nodup := List.pairwise_map.mpr ((List.nodup_range.filter _).imp fun h => by omega)
  have hm : ∀ q : Int, q ∈ ((List.range n).filter fun i : Nat => decide ((i : Int) ∈ [a, b, c, d])).map (fun i : Nat => (i : Int)) ↔ q ∈ [a, b, c, d] := fun q => by
    rw [List.mem_map]
    constructor
    · rintro ⟨i, hi, rfl⟩
      exact of_decide_eq_true (List.mem_filter.mp hi).2
    · intro hq
      have hr : 0 ≤ q ∧ q < n := by
        simp only [List.mem_cons, List.not_mem_nil, or_false] at hq
        omega
      exact ⟨q.toNat, List.mem_filter.mpr ⟨List.mem_range.mpr (by omega), decide_eq_true (by rw [Int.toNat_of_nonneg hr.1]; exact hq)⟩, Int.toNat_of_nonneg hr.1⟩
  rw [← List.length_map (f := fun i : Nat => (i : Int))]
  constructor
  · intro hl
    refine Classical.byContradiction fun hc => ?_
    have three : ∀ x y z : Int, (∀ q ∈ [a, b, c, d], q ∈ [x, y, z]) → False := fun x y z h => by
      have := sub_len _ [x, y, z] hnd fun q hq => h q ((hm q).mp hq)
      rw [hl] at this
      simp at this
    have h6 : a = b ∨ a = c ∨ a = d ∨ b = c ∨ b = d ∨ c = d := by
      refine Classical.byContradiction fun z => hc ?_
      simp only [not_or] at z
      simp [z]
    rcases h6 with rfl | rfl | rfl | rfl | rfl | rfl
    · exact three a c d (by simp)
    · exact three a b d (by simp)
    · exact three a b c (by simp)
    · exact three a b d (by simp)
    · exact three a b c (by simp)
    · exact three a b c (by simp)
  · intro h4
    have := (List.perm_ext_iff_of_nodup hnd h4).mpr hm
    rw [this.length_eq]
    rfl
theorem tie_iff {n : Nat} {L : List (Int × Int)} (hL : Ties n L) (a b : Int) : (a, b) ∈ L ++ L.map (fun p => (p.2, p.1)) ↔ nrm (a, b) ∈ L := by
  rw [List.mem_append, List.mem_map]
  unfold nrm
  constructor
  · rintro (h | ⟨p, h, e⟩)
    · have := hL.rng _ h
      simp only at this
      rw [show min a b = a by omega, show max a b = b by omega]
      exact h
    · have := hL.rng _ h
      cases e
      rw [show min p.2 p.1 = p.1 by omega, show max p.2 p.1 = p.2 by omega]
      exact h
  · intro h
    simp only at h
    rcases (show (min a b = a ∧ max a b = b) ∨ (min a b = b ∧ max a b = a) by omega) with ⟨e1, e2⟩ | ⟨e1, e2⟩
    · rw [e1, e2] at h
      exact .inl h
    · rw [e1, e2] at h
      exact .inr ⟨_, h, rfl⟩
theorem p__law_can {n : Nat} {L : List (Int × Int)} {P : D → Prop} {Z : String → Prop} (hn : n ≤ 6) (hL : Ties n L) (hl : L.length ≤ 576) (h1 : (∃ a b c d, ExP n L a b c d) → P (.bool true)) (h0 : (¬ ∃ a b c d, ExP n L a b c d) → P (.bool false)) : w__law_can [.int (n : Nat), .list (L.map eP)] P Z := by
  rw [u__law_can]
  unfold rd__law_can
  walk_at "r"
  refine lcI eP L (fun _ => true) (fun p => eP (p.2, p.1)) (by omega) (fun p hp K K2 hK hK2 => ?_) ?_ rfl
  · unfold eP
    walk_at "r"
    exact hK rfl
  · rw [List.filter_eq_self.mpr fun _ _ => rfl]
    have eB : L.map (fun p => eP (p.2, p.1)) = (L.map fun p => (p.2, p.1)).map eP := by rw [List.map_map]; rfl
    rw [eB]
    walk_at "r"
    rw [← List.map_append]
    have hB := tie_iff hL
    have lB : (L ++ L.map fun p : Int × Int => (p.2, p.1)).length ≤ 2000 := by
      rw [List.length_append, List.length_map]
      omega
    generalize (L ++ L.map fun p : Int × Int => (p.2, p.1)) = B at hB lB
    have ey : ∀ p ∈ B, nrm p ∈ L := fun p hp => (hB p.1 p.2).mp hp
    refine ⟨by rw [List.length_map, List.length_map, List.length_map]; omega, ?_⟩
    have bad : ∀ pre : List (Int × Int), (∀ p ∈ B, ∀ q ∈ B, ¬ ExP n L p.1 p.2 q.1 q.2) → P (.bool false) := fun _ h => h0 fun ⟨a, b, c, d, e⟩ => h (a, b) ((hB a b).mpr e.ab) (c, d) ((hB c d).mpr e.cd) e
    refine forI eP B (fun pre (_ : Unit) => ∀ p ∈ pre, ∀ q ∈ B, ¬ ExP n L p.1 p.2 q.1 q.2) (fun _ => [.fz (.int (n : Nat)), .fz (.list (L.map eP)), .fz (.list (B.map eP)), .un, .un, .un, .un, .un, .un, .un]) () rfl (fun p hp => by simp at hp) (fun _ h => bad [] h) (fun pre p post _ hM hI => ?_) rfl
    obtain ⟨a, b⟩ := p
    have hab : nrm (a, b) ∈ L := ey (a, b) (by rw [hM]; simp)
    rw [show eP (a, b) = .tuple [.int a, .int b] from rfl]
    walk_at "r"
    refine forI eP B (fun pr (_ : Unit) => ∀ q ∈ pr, ¬ ExP n L a b q.1 q.2) (fun _ => [.fz (.int (n : Nat)), .fz (.list (L.map eP)), .fz (.list (B.map eP)), .fz (.int a), .fz (.int b), .un, .un, .un, .un, .un]) () rfl (fun p hp => by simp at hp) (fun _ h => ?_) (fun pr q po _ hM2 hI2 => ?_) rfl
    · refine ⟨rfl, fun p hp q hq => ?_⟩
      rcases List.mem_append.mp hp with hp | hp
      · exact hI p hp q hq
      · rw [List.mem_singleton] at hp
        subst hp
        exact h q hq
    · obtain ⟨c, d⟩ := q
      have hcd : nrm (c, d) ∈ L := ey (c, d) (by rw [hM2]; simp)
      rw [show eP (c, d) = .tuple [.int c, .int d] from rfl]
      walk_at "r"
      refine ⟨by omega, by omega, ?_⟩
      have r1 := hL.rng _ hab
      have r2 := hL.rng _ hcd
      unfold nrm at r1 r2
      simp only at r1 r2
      have snoc : ¬ ExP n L a b c d → ∀ q ∈ pr ++ [(c, d)], ¬ ExP n L a b q.1 q.2 := fun h q hq => by
        rcases List.mem_append.mp hq with hq | hq
        · exact hI2 q hq
        · rw [List.mem_singleton] at hq
          subst hq
          exact h
      refine lcI (fun i : Nat => .int (i : Nat)) (List.range n) (fun i : Nat => decide ((i : Int) ∈ [a, b, c, d])) (fun _ => .int 1) (by rw [List.length_range]; omega) (fun i hi K K2 hK hK2 => ?_) ?_ (by rw [Int.toNat_natCast, range_encN])
      · walk_at "r"
        have e4 : [PyData.int a, .int b, .int c, .int d] = [a, b, c, d].map .int := rfl
        rw [e4, in_ints]
        exact ⟨shp_int _, shp_ints _, hK, hK2⟩
      · walk_at "r"
        rw [List.length_map]
        have f4 := filter_four (n := n) (a := a) (b := b) (c := c) (d := d) (by omega) (by omega) (by omega) (by omega)
        rw [in_eP, in_eP]
        have hB1 := hB a d
        have hB2 := hB c b
        refine ⟨fun hc => ⟨shp_ii _ _, shp_map shp_pair B, fun n1 => ⟨shp_ii _ _, shp_map shp_pair B, fun n2 => ?_, fun n2 => snoc fun e => ?_⟩, fun n1 => snoc fun e => ?_⟩, fun hc => snoc fun e => ?_⟩
        · have hnd := f4.mp (by omega)
          simp only [List.nodup_cons, List.mem_cons, List.not_mem_nil, or_false, not_or] at hnd
          exact h1 ⟨a, b, c, d, hab, hcd, fun z => of_decide_eq_false n1 (hB1.mpr z), fun z => of_decide_eq_false n2 (hB2.mpr z), by omega⟩
        · exact e.ncb (hB2.mp (of_decide_eq_true n2))
        · exact e.nad (hB1.mp (of_decide_eq_true n1))
        · refine hc ?_
          have := e.ne
          have := f4.mpr (by simp; omega)
          omega

/-! look_at_webs -/
theorem isN_noneW {d : D} : isN d = true ↔ d = .none := by cases d <;> simp [isN]
theorem p_look_at_webs {x : D} {ks : List Int} {P : D → Prop} {Z : String → Prop} (hx : IsI x ks) (hT : ¬ (1 ≤ ks.length ∧ ks.length ≤ 24) → Z "BadTally") (hW : 1 ≤ ks.length → ks.length ≤ 24 → ¬ HasWeb ks → Z "NoWeb") (h : 1 ≤ ks.length → ks.length ≤ 24 → HasWeb ks → P .none) : w_look_at_webs [x] P Z := by
  rw [u_look_at_webs]
  unfold rd_look_at_webs
  walk_at "r"
  refine p_look_at_tally hx (fun a b => ?_) hT
  refine p_wall_of hx (fun _ _ => ?_) (fun c => absurd ⟨a, b⟩ c)
  refine ⟨fun c => ?_, fun c => ?_⟩
  · refine hW a b fun w => ?_
    have c' : isN (wallD ks) = false := c
    rw [web_iff.mpr w] at c'
    exact nomatch c'
  · have c' : isN (wallD ks) = true := c
    exact h a b (web_iff.mp (isN_noneW.mp c'))

/-! look_at_place -/
theorem p_look_at_place {n v : Int} {P : D → Prop} {Z : String → Prop} (h1 : 0 ≤ v → v < n → P .none) (h2 : ¬ (0 ≤ v ∧ v < n) → Z "NoPlace") : w_look_at_place [.int n, .int v] P Z := by
  rw [u_look_at_place]
  unfold rd_look_at_place
  walk_at "r"
  exact ⟨fun c => h2 (by omega), fun c => ⟨fun c2 => h2 (by omega), fun c2 => h1 (by omega) (by omega)⟩⟩

/-! moved -/
theorem p_moved {x : D} {ks : List Int} {u m : Int} {P : D → Prop} {Z : String → Prop} (hx : IsI x ks) (hT : ¬ (1 ≤ ks.length ∧ ks.length ≤ 24) → Z "BadTally") (hN : 1 ≤ ks.length → ks.length ≤ 24 → ¬ (0 ≤ u ∧ u < ks.length) → Z "NoPlace") (h : 1 ≤ ks.length → ks.length ≤ 24 → 0 ≤ u → u < ks.length → P (.list ((ks.set u.toNat (getI ks u + m)).map .int))) : w_moved [x, .int u, .int m] P Z := by
  rw [u_moved]
  unfold rd_moved
  walk_at "r"
  refine p_look_at_tally hx (fun a b => ?_) hT
  refine len_isI hx ?_
  refine p_look_at_place (fun c1 c2 => ?_) (hN a b)
  refine list_isI hx ?_
  obtain ⟨k, rfl⟩ : ∃ k : Nat, u = (k : Int) := ⟨_, (Int.toNat_of_nonneg c1).symm⟩
  walk_at "r"
  refine ⟨_, at_getI (by omega) (by omega), ?_⟩
  walk_at "r"
  refine ⟨k, by rw [List.length_map]; exact ixN_nat (by omega), ?_⟩
  rw [set_map]
  have q := h a b c1 c2
  rw [Int.toNat_natCast] at q
  exact q

/-! both_moved -/
theorem p_both_moved {x : D} {ks : List Int} {u v m : Int} {P : D → Prop} {Z : String → Prop} (hx : IsI x ks) (a : 1 ≤ ks.length) (b : ks.length ≤ 24) (hu : 0 ≤ u ∧ u < ks.length) (hv : 0 ≤ v ∧ v < ks.length) (h : P (.list ((bothI ks u v m).map .int))) : w_both_moved [x, .int u, .int v, .int m] P Z := by
  rw [u_both_moved]
  unfold rd_both_moved
  walk_at "r"
  refine p_moved hx (fun c => absurd ⟨a, b⟩ c) (fun _ _ c => absurd hu c) (fun _ _ _ _ => ?_)
  exact p_moved (.inl rfl) (fun c => absurd (by rw [List.length_set]; exact ⟨a, b⟩) c) (fun _ _ c => absurd (by rw [List.length_set]; exact hv) c) (fun _ _ _ _ => h)

/-! pairs_with_wall -/
theorem p_pairs_with_wall {x : D} {ks : List Int} {m : Int} {P : D → Prop} {Z : String → Prop} (hx : IsI x ks) (hT : ¬ (1 ≤ ks.length ∧ ks.length ≤ 24) → Z "BadTally") (hW : 1 ≤ ks.length → ks.length ≤ 24 → ¬ HasWeb ks → Z "NoWeb") (h : 1 ≤ ks.length → ks.length ≤ 24 → HasWeb ks → P (.list ((pairsW ks m).map eP))) : w_pairs_with_wall [x, .int m] P Z := by
  rw [u_pairs_with_wall]
  unfold rd_pairs_with_wall
  walk_at "r"
  refine p_look_at_webs hx hT hW (fun a b w => ?_)
  refine len_isI hx ?_
  walk_at "r"
  walk_at "s"
  have q := h a b w
  generalize hn : ks.length = n at *
  refine forI (fun i : Nat => .int (i : Nat)) (List.range n) (fun pre (s : List (List Key × D) × List (Int × Int)) => s.1.length ≤ (pre.flatMap (rowI n)).length ∧ (∀ (c d : Int) (z : D), valD s.1 [.inl c, .inl d] = some z → ∀ i j : Nat, i < n → j < n → i ≠ j → min (getI ks (i : Nat)) (getI ks (j : Nat)) = c → max (getI ks (i : Nat)) (getI ks (j : Nat)) = d → z = .bool (wallB (bothI ks i j m))) ∧ s.2 = (pre.flatMap (rowI n)).filter fun p => wallB (bothI ks p.1 p.2 m)) (fun s => [.fz x, .fz (.int m), .ow (dctT s.1), .ow (.list (s.2.map eP)), .un, .un, .un]) ([], []) rfl ⟨Nat.zero_le _, fun c d z hz => by simp [valD] at hz, rfl⟩ (fun s hs => ?_) (fun pre i post s hM hs => ?_) (by rw [Int.toNat_natCast, range_encN])
  · walk_at "r"
    have e := hs.2.2
    rw [show (List.range n).flatMap (rowI n) = pairsI n from rfl] at e
    rw [e]
    unfold pairsW at q
    rw [hn] at q
    exact q
  · have hi : i < n := (range_mem hM).2
    have hpl : pre.length ≤ n := by
      have := congrArg List.length hM
      rw [List.length_range, List.length_append] at this
      omega
    have hfl := flat_len (n := n) pre
    have hl2 : pre.length * n ≤ 24 * 24 := Nat.mul_le_mul (by omega) b
    obtain ⟨h1, h2, h3⟩ := hs
    walk_at "r"
    refine len_isI hx ?_
    rw [hn]
    walk_at "r"
    refine ⟨by omega, by omega, by omega, by omega, ?_⟩
    refine forI (fun j : Nat => .int ((i : Int) + 1 + (j : Nat))) (List.range (n - (i + 1))) (fun pr (s : List (List Key × D) × List (Int × Int)) => s.1.length ≤ (pre.flatMap (rowI n)).length + pr.length ∧ (∀ (c d : Int) (z : D), valD s.1 [.inl c, .inl d] = some z → ∀ i j : Nat, i < n → j < n → i ≠ j → min (getI ks (i : Nat)) (getI ks (j : Nat)) = c → max (getI ks (i : Nat)) (getI ks (j : Nat)) = d → z = .bool (wallB (bothI ks i j m))) ∧ s.2 = (pre.flatMap (rowI n) ++ pr.map fun j => ((i : Int), (i : Int) + 1 + (j : Nat))).filter fun p => wallB (bothI ks p.1 p.2 m)) (fun s => [.fz x, .fz (.int m), .ow (dctT s.1), .ow (.list (s.2.map eP)), .fz (.int (i : Nat)), .un, .un]) s rfl ⟨by simpa using h1, h2, by rw [h3, List.map_nil, List.append_nil]⟩ (fun s2 hs2 => ?_) (fun pr j po s2 hM2 hs2 => ?_) ?_
    · refine ⟨s2, rfl, ?_, hs2.2.1, ?_⟩
      · rw [List.flatMap_append, List.flatMap_cons, List.flatMap_nil, List.append_nil, List.length_append]
        have : (rowI n i).length = n - (i + 1) := by unfold rowI; rw [List.length_map, List.length_range]
        have h4 := hs2.1
        rw [List.length_range] at h4
        omega
      · rw [hs2.2.2, List.flatMap_append, List.flatMap_cons, List.flatMap_nil, List.append_nil]
        rfl
    · obtain ⟨hj0, hj⟩ := range_mem hM2
      obtain ⟨g1, g2, g3⟩ := hs2
      have hpr : pr.length ≤ n := by omega
      have hj2 : i + 1 + j < n := by omega
      have ej : (i : Int) + 1 + (j : Nat) = ((i + 1 + j : Nat) : Int) := by omega
      rw [ej]
      have hfl2 : s2.2.length ≤ (pre.flatMap (rowI n)).length + pr.length := by
        rw [g3]
        refine Nat.le_trans (List.length_filter_le _ _) ?_
        rw [List.length_append, List.length_map]
        omega
      have fin : ∀ {s3 : List (List Key × D)}, s3.length ≤ (pre.flatMap (rowI n)).length + pr.length + 1 → (∀ (c d : Int) (z : D), valD s3 [.inl c, .inl d] = some z → ∀ i j : Nat, i < n → j < n → i ≠ j → min (getI ks (i : Nat)) (getI ks (j : Nat)) = c → max (getI ks (i : Nat)) (getI ks (j : Nat)) = d → z = .bool (wallB (bothI ks i j m))) → ∀ {z : D}, valD s3 [.inl (min (getI ks (i : Nat)) (getI ks ((i + 1 + j : Nat) : Int))), .inl (max (getI ks (i : Nat)) (getI ks ((i + 1 + j : Nat) : Int)))] = some z → z = .bool (wallB (bothI ks i ((i + 1 + j : Nat) : Int) m)) := fun {s3} _ k2 {z} hz => k2 _ _ _ hz i (i + 1 + j) hi hj2 (by omega) rfl rfl
      have f1 : (pre.flatMap (rowI n) ++ (pr ++ [j]).map fun j => ((i : Int), (i : Int) + 1 + (j : Nat))).filter (fun p => wallB (bothI ks p.1 p.2 m)) = s2.2 ++ if wallB (bothI ks i ((i + 1 + j : Nat) : Int) m) = true then [((i : Int), ((i + 1 + j : Nat) : Int))] else [] := by
        rw [List.map_append, ← List.append_assoc, List.filter_append, ← g3]
        simp only [List.map_cons, List.map_nil]
        rw [ej, List.filter_cons]
        simp
      have lp : (pr ++ [j]).length = pr.length + 1 := by simp
      walk_at "r"
      refine ix_isI hx (by omega) (by omega) ?_
      refine ix_isI hx (by omega) (by omega) ?_
      walk_at "r"
      refine ix_isI hx (by omega) (by omega) ?_
      refine ix_isI hx (by omega) (by omega) ?_
      walk_at "r"
      rw [f1, lp]
      have hlm : (s2.2.map eP).length ≤ 100000 := by rw [List.length_map]; omega
      have two : ∀ (w : Bool) {kds : List (List Key × D)}, kds.length ≤ (pre.flatMap (rowI n)).length + (pr.length + 1) → (∀ (c d : Int) (z : D), valD kds [.inl c, .inl d] = some z → ∀ i j : Nat, i < n → j < n → ¬ i = j → min (getI ks (i : Nat)) (getI ks (j : Nat)) = c → max (getI ks (i : Nat)) (getI ks (j : Nat)) = d → z = .bool (wallB (bothI ks i j m))) → w = wallB (bothI ks i ((i + 1 + j : Nat) : Int) m) →
          (w = true → (s2.2.map eP).length ≤ 100000 ∧ ∃ s' : List (List Key × D) × List (Int × Int), kds = s'.1 ∧ s2.2.map eP ++ [PyData.tuple [.int (i : Nat), .int ((i + 1 + j : Nat) : Int)]] = s'.2.map eP ∧ s'.1.length ≤ (pre.flatMap (rowI n)).length + (pr.length + 1) ∧ (∀ (c d : Int) (z : D), valD s'.1 [.inl c, .inl d] = some z → ∀ i j : Nat, i < n → j < n → ¬ i = j → min (getI ks (i : Nat)) (getI ks (j : Nat)) = c → max (getI ks (i : Nat)) (getI ks (j : Nat)) = d → z = .bool (wallB (bothI ks i j m))) ∧ s'.2 = s2.2 ++ if wallB (bothI ks i ((i + 1 + j : Nat) : Int) m) = true then [((i : Int), ((i + 1 + j : Nat) : Int))] else []) ∧
          (w = false → ∃ s' : List (List Key × D) × List (Int × Int), kds = s'.1 ∧ s2.2.map eP = s'.2.map eP ∧ s'.1.length ≤ (pre.flatMap (rowI n)).length + (pr.length + 1) ∧ (∀ (c d : Int) (z : D), valD s'.1 [.inl c, .inl d] = some z → ∀ i j : Nat, i < n → j < n → ¬ i = j → min (getI ks (i : Nat)) (getI ks (j : Nat)) = c → max (getI ks (i : Nat)) (getI ks (j : Nat)) = d → z = .bool (wallB (bothI ks i j m))) ∧ s'.2 = s2.2 ++ if wallB (bothI ks i ((i + 1 + j : Nat) : Int) m) = true then [((i : Int), ((i + 1 + j : Nat) : Int))] else []) := fun w {kds} k1 k2 e => by
        subst e
        refine ⟨fun c => ⟨hlm, (kds, s2.2 ++ [((i : Int), ((i + 1 + j : Nat) : Int))]), rfl, by rw [List.map_append]; rfl, k1, k2, by rw [if_pos c]⟩, fun c => ⟨(kds, s2.2), rfl, rfl, k1, k2, by rw [c]; simp⟩⟩
      refine ⟨fun c => ⟨by omega, p_both_moved hx (by omega) (by omega) (by omega) (by omega) (p_wall_of (.inl rfl) (fun _ _ => ?_) (fun c => absurd (by rw [bothI_len]; omega) c))⟩, fun c => ?_⟩
      · refine ⟨_, (by rw [val_putD, if_pos rfl]), _, rfl, ?_⟩
        refine two _ ?_ ?_ rfl
        · have := putD_len s2.1 [Sum.inl (min (getI ks (i : Nat)) (getI ks ((i + 1 + j : Nat) : Int))), Sum.inl (max (getI ks (i : Nat)) (getI ks ((i + 1 + j : Nat) : Int)))] (.bool (wallB (bothI ks i ((i + 1 + j : Nat) : Int) m)))
          exact Nat.le_trans this (by omega)
        · intro c d z hz i2 j2 h1' h2' h3' h4' h5'
          rw [val_putD] at hz
          split at hz
          · rename_i e
            simp only [List.cons.injEq, Sum.inl.injEq, and_true] at e
            rw [← Option.some.inj hz]
            exact congrArg PyData.bool (wallB_both (by omega) (by omega) (by omega) (by omega) (by omega) h3' (by omega) (by omega))
          · exact g2 c d z hz i2 j2 h1' h2' h3' h4' h5'
      · obtain ⟨z, hz⟩ := Option.isSome_iff_exists.mp c
        have e := fin (by omega) g2 hz
        subst e
        refine ⟨_, hz.symm, _, rfl, ?_⟩
        exact two _ (by omega) (fun c d z a1 a2 a3 a4 a5 a6 => g2 c d z a1 a2 a3 a4 a5 a6) rfl
    · unfold rangeD
      rw [show ((n : Int) - ((i : Int) + 1)).toNat = n - (i + 1) by omega]

/-! always -/
theorem p_always {x : D} {ks : List Int} {P : D → Prop} {Z : String → Prop} (hx : IsI x ks) (hT : ¬ (1 ≤ ks.length ∧ ks.length ≤ 24) → Z "BadTally") (hW : 1 ≤ ks.length → ks.length ≤ 24 → ¬ HasWeb ks → Z "NoWeb") (h : 1 ≤ ks.length → ks.length ≤ 24 → HasWeb ks → P (.list ((pairsW ks 1).map eP))) : w_always [x] P Z := by
  rw [u_always]
  unfold rd_always
  walk_at "r"
  exact p_pairs_with_wall hx hT hW h

/-! never -/
theorem p_never {x : D} {ks : List Int} {P : D → Prop} {Z : String → Prop} (hx : IsI x ks) (hT : ¬ (1 ≤ ks.length ∧ ks.length ≤ 24) → Z "BadTally") (hW : 1 ≤ ks.length → ks.length ≤ 24 → ¬ HasWeb ks → Z "NoWeb") (h : 1 ≤ ks.length → ks.length ≤ 24 → HasWeb ks → P (.list ((pairsW ks (-1)).map eP))) : w_never [x] P Z := by
  rw [u_never]
  unfold rd_never
  walk_at "r"
  exact p_pairs_with_wall hx hT hW h

/-! ties_fit -/
theorem fits_app {n : Int} {pre post : List (Int × Int)} {x : Int × Int} (h : Fits n (pre ++ x :: post)) : 0 ≤ (nrm x).1 ∧ (nrm x).1 < (nrm x).2 ∧ (nrm x).2 < n ∧ nrm x ∉ pre.map nrm := by
  obtain ⟨h1, h2⟩ := h
  obtain ⟨a, b, c⟩ := h1 x (by simp)
  refine ⟨a, b, c, fun hm => ?_⟩
  rw [List.map_append, List.nodup_append] at h2
  exact h2.2.2 _ hm _ (by simp) rfl
theorem fits_snoc {n : Int} {pre : List (Int × Int)} {x : Int × Int} (h : Fits n pre) (a : 0 ≤ (nrm x).1) (b : (nrm x).1 < (nrm x).2) (c : (nrm x).2 < n) (d : nrm x ∉ pre.map nrm) : Fits n (pre ++ [x]) := by
  refine ⟨fun p hp => ?_, ?_⟩
  · rcases List.mem_append.mp hp with hp | hp
    · exact h.1 p hp
    · rw [List.mem_singleton] at hp
      subst hp
      exact ⟨a, b, c⟩
  · rw [List.map_append, List.nodup_append]
    refine ⟨h.2, by simp, fun p hp q hq => ?_⟩
    simp at hq
    subst hq
    rintro rfl
    exact d hp
theorem p_ties_fit {n : Int} {M : List (Int × Int)} {x : D} {P : D → Prop} {Z : String → Prop} (hx : x = .list (M.map eP) ∨ x = .tuple (M.map eP)) (hl : M.length ≤ 90000) (h : P (.bool (decide (Fits n M)))) : w_ties_fit [.int n, x] P Z := by
  rw [u_ties_fit]
  unfold rd_ties_fit
  walk_at "r"
  refine ⟨_, hx, ?_⟩
  refine forI eP M (fun pre (s : List (Int × Int)) => s = pre ∧ Fits n pre) (fun s => [.fz (.int n), .ln x, .ow (dctT (seenD (s.map nrm))), .un, .un, .un, .un]) [] ?_ ⟨rfl, fun p hp => by simp at hp, by simp⟩ (fun s hs => ?_) (fun pre q post s hM hs => ?_) rfl
  · rfl
  · obtain ⟨rfl, hf⟩ := hs
    rw [decide_eq_true hf] at h
    exact h
  · obtain ⟨rfl, hf⟩ := hs
    have hfl : ¬ Fits n M → P (.bool false) := fun c => by
      rw [decide_eq_false c] at h
      exact h
    rw [hM] at hfl
    have hle : s.length ≤ 90000 := by
      have := congrArg List.length hM
      rw [List.length_append] at this
      omega
    simp only [eP]
    walk_at "r"
    have e1 : (nrm q).1 = min q.1 q.2 := rfl
    have e2 : (nrm q).2 = max q.1 q.2 := rfl
    refine ⟨fun c => hfl fun f => ?_, fun c => ⟨fun c2 => hfl fun f => ?_, fun c2 => ⟨fun c3 => hfl fun f => ?_, fun c3 => ?_⟩⟩⟩
    · have := fits_app f
      omega
    · have := fits_app f
      omega
    · have := fits_app f
      omega
    · rw [seen_val]
      refine ⟨fun c4 => hfl fun f => ?_, fun c4 => ⟨by simp [seenD]; omega, ?_⟩⟩
      · exact (fits_app f).2.2.2 (of_decide_eq_true c4)
      · have c5 : nrm q ∉ s.map nrm := of_decide_eq_false c4
        refine ⟨s ++ [q], ?_, rfl, fits_snoc hf (by omega) (by omega) (by omega) c5⟩
        rw [seen_put _ _ _ c5, List.map_append]
        rfl

/-! made -/
theorem lmin2 {a b : Int} : lmin [a, b] = min a b := rfl
theorem lmax2 {a b : Int} : lmax [a, b] = max a b := rfl
theorem p_made {n : Int} {M : List (Int × Int)} {x : D} {P : D → Prop} {Z : String → Prop} (hx : x = .list (M.map eP) ∨ x = .tuple (M.map eP)) (hl : M.length ≤ 90000)
    (h1 : 1 ≤ n → n ≤ 24 → Fits n M → P (eW n.toNat (sortP (M.map nrm)))) (h2 : ¬ (1 ≤ n ∧ n ≤ 24 ∧ Fits n M) → Z "BadWeb") : w_made [.int n, x] P Z := by
  rw [u_made]
  unfold rd_made
  walk_at "r"
  refine ⟨fun c => h2 fun f => by omega, fun c => ⟨fun c2 => h2 fun f => by omega, fun c2 => ?_⟩⟩
  refine p_ties_fit hx hl ?_
  walk_at "r"
  refine ⟨fun c3 => h2 fun f => c3 f.2.2, fun c3 => ⟨_, hx, ?_⟩⟩
  refine lcA eP M (fun p => eP (nrm p)) (by omega) (fun p hp K K2 hK => ?_) ?_ rfl
  · simp only [eP]
    walk_at "r"
    exact hK
  · walk_at "r"
    rw [show (M.map fun p => eP (nrm p)) = (M.map nrm).map eP by rw [List.map_map]; rfl]
    refine ⟨sort_ok_eP (by rw [List.length_map]; omega), ?_⟩
    rw [srt_eP]
    have q := h1 (by omega) (by omega) c3
    unfold eW at q
    rw [Int.toNat_of_nonneg (by omega)] at q
    exact q

/-! grown -/
theorem p_grown {x : D} {vs : List (Int × Bool)} {P : D → Prop} {Z : String → Prop} (hx : x = .list (vs.map stepD) ∨ x = .tuple (vs.map stepD)) (hl : vs.length ≤ 60) (h1 : GrownOk vs → P (eW vs.length (sortP ((tiesG vs).map nrm)))) (h2 : ¬ GrownOk vs → Z "BadWeb") : w_grown [x] P Z := by
  rw [u_grown]
  unfold rd_grown
  have ek : vs.map (fun v => PyData.int v.1) = (vs.map (·.1)).map .int := by rw [List.map_map]; rfl
  have er : rngL 0 (vs.length : Nat) = rngI vs.length := by
    unfold rngL rngI
    rw [show ((vs.length : Nat) : Int) - 0 = (vs.length : Nat) by omega, Int.toNat_natCast]
    exact List.map_congr_left fun i _ => by omega
  rcases hx with rfl | rfl
  · walk_at "r"
    refine lcI stepD vs (fun _ => true) (fun v => .int v.1) (by omega) (fun v hv K K2 hK hK2 => ?_) ?_ rfl
    · unfold stepD
      walk_at "r"
      exact ⟨_, rfl, hK rfl⟩
    · rw [List.filter_eq_self.mpr fun _ _ => rfl, ek]
      walk_at "r"
      rw [srt_ints, List.length_map]
      refine ⟨fun c => h2 fun g => ?_, fun c => ⟨fun c2 => h2 fun g => ?_, fun c2 => ⟨sort_ok_ints (by rw [List.length_map]; omega), by omega, by omega, ?_⟩⟩⟩
      · have := g.1.1
        omega
      · have := g.1.2
        omega
      · rw [er]
        refine eqR_ints ⟨_, rfl, fun c3 => h2 fun g => ?_, fun c3 => ?_⟩
        · have := g.2.1
          rw [decide_eq_true this] at c3
          cases c3
        · have c3 : srtI (vs.map (·.1)) = rngI vs.length := by simpa using c3
          obtain ⟨v, hv⟩ : ∃ v, vs[0]? = some v := ⟨vs[0], List.getElem?_eq_getElem (by omega)⟩
          refine ⟨stepD v, atI_nat (j := 0) (by rw [List.getElem?_map, hv]; rfl), ?_⟩
          rw [show stepD v = .tuple [.int v.1, .bool v.2] from rfl]
          walk_at "r"
          refine ⟨_, rfl, _, rfl, fun c4 => h2 fun g => ?_, fun c4 => ?_⟩
          · have := g.2.2
            rw [hv] at this
            have this : v.2 = false := Option.some.inj this
            rw [this] at c4
            cases c4
          · have gk : GrownOk vs := ⟨⟨by omega, by omega⟩, c3, by rw [hv]; exact congrArg some c4⟩
            rw [enum_stepD]
            refine forF (fun p : (Int × Bool) × Nat => .tuple [.int (p.2 : Nat), stepD p.1]) vs.zipIdx (fun pre => [.fz (.list (vs.map stepD)), .fz (.list ((vs.map (·.1)).map .int)), .ow (.list ((tiesG (vs.take pre.length)).map eP)), .un, .un, .un, .un, .un]) rfl ?_ (fun pre p post hM => ?_) rfl
            · rw [List.length_zipIdx, List.take_length]
              walk_at "r"
              rw [List.length_map]
              have tl := tiesG_len vs (by omega)
              exact p_made (.inl rfl) (by omega) (fun _ _ _ => h1 gk) fun c => absurd ⟨by omega, by omega, tiesG_fits gk⟩ c
            · obtain ⟨v, k⟩ := p
              obtain ⟨e1, e2, e3⟩ := zip_at hM
              simp only at e1 e2
              subst e1
              have tl := tiesG_len (vs.take pre.length) (by rw [List.length_take]; omega)
              rw [List.length_take] at tl
              have et : vs.take (pre ++ [(v, pre.length)]).length = vs.take pre.length ++ [v] := by
                rw [List.length_append, List.length_singleton, List.take_succ, e2]
                rfl
              rw [et, tiesG_snoc]
              unfold stepD
              walk_at "r"
              refine ⟨fun c5 => ?_, fun c5 => ?_⟩
              · have c5 : v.2 = true := c5
                rw [if_pos c5, cutD_to, ← List.map_take, ← List.map_take]
                refine lcI (fun o : Int => .int o) ((vs.take pre.length).map (·.1)) (fun _ => true) (fun o => eP (v.1, o)) (by rw [List.length_map, List.length_take]; omega) (fun o ho K K2 hK hK2 => ?_) ?_ rfl
                · walk_at "r"
                  exact hK rfl
                · rw [List.filter_eq_self.mpr fun _ _ => rfl]
                  refine ⟨_, rfl, ?_, ?_⟩
                  · rw [List.length_map, List.length_map, List.length_map, List.length_take]
                    omega
                  · rw [List.map_append, List.map_map (f := fun o => (v.1, o))]
                    rfl
              · have c5 : v.2 = false := c5
                rw [if_neg (by rw [c5]; simp), List.append_nil]
  · walk_at "r"
    refine lcI stepD vs (fun _ => true) (fun v => .int v.1) (by omega) (fun v hv K K2 hK hK2 => ?_) ?_ rfl
    · unfold stepD
      walk_at "r"
      exact ⟨_, rfl, hK rfl⟩
    · rw [List.filter_eq_self.mpr fun _ _ => rfl, ek]
      walk_at "r"
      rw [srt_ints, List.length_map]
      refine ⟨fun c => h2 fun g => ?_, fun c => ⟨fun c2 => h2 fun g => ?_, fun c2 => ⟨sort_ok_ints (by rw [List.length_map]; omega), by omega, by omega, ?_⟩⟩⟩
      · have := g.1.1
        omega
      · have := g.1.2
        omega
      · rw [er]
        refine eqR_ints ⟨_, rfl, fun c3 => h2 fun g => ?_, fun c3 => ?_⟩
        · have := g.2.1
          rw [decide_eq_true this] at c3
          cases c3
        · have c3 : srtI (vs.map (·.1)) = rngI vs.length := by simpa using c3
          obtain ⟨v, hv⟩ : ∃ v, vs[0]? = some v := ⟨vs[0], List.getElem?_eq_getElem (by omega)⟩
          refine ⟨stepD v, atI_nat (j := 0) (by rw [List.getElem?_map, hv]; rfl), ?_⟩
          rw [show stepD v = .tuple [.int v.1, .bool v.2] from rfl]
          walk_at "r"
          refine ⟨_, rfl, _, rfl, fun c4 => h2 fun g => ?_, fun c4 => ?_⟩
          · have := g.2.2
            rw [hv] at this
            have this : v.2 = false := Option.some.inj this
            rw [this] at c4
            cases c4
          · have gk : GrownOk vs := ⟨⟨by omega, by omega⟩, c3, by rw [hv]; exact congrArg some c4⟩
            rw [enum_stepD]
            refine forF (fun p : (Int × Bool) × Nat => .tuple [.int (p.2 : Nat), stepD p.1]) vs.zipIdx (fun pre => [.fz (.tuple (vs.map stepD)), .fz (.list ((vs.map (·.1)).map .int)), .ow (.list ((tiesG (vs.take pre.length)).map eP)), .un, .un, .un, .un, .un]) rfl ?_ (fun pre p post hM => ?_) rfl
            · rw [List.length_zipIdx, List.take_length]
              walk_at "r"
              rw [List.length_map]
              have tl := tiesG_len vs (by omega)
              exact p_made (.inl rfl) (by omega) (fun _ _ _ => h1 gk) fun c => absurd ⟨by omega, by omega, tiesG_fits gk⟩ c
            · obtain ⟨v, k⟩ := p
              obtain ⟨e1, e2, e3⟩ := zip_at hM
              simp only at e1 e2
              subst e1
              have tl := tiesG_len (vs.take pre.length) (by rw [List.length_take]; omega)
              rw [List.length_take] at tl
              have et : vs.take (pre ++ [(v, pre.length)]).length = vs.take pre.length ++ [v] := by
                rw [List.length_append, List.length_singleton, List.take_succ, e2]
                rfl
              rw [et, tiesG_snoc]
              unfold stepD
              walk_at "r"
              refine ⟨fun c5 => ?_, fun c5 => ?_⟩
              · have c5 : v.2 = true := c5
                rw [if_pos c5, cutD_to, ← List.map_take, ← List.map_take]
                refine lcI (fun o : Int => .int o) ((vs.take pre.length).map (·.1)) (fun _ => true) (fun o => eP (v.1, o)) (by rw [List.length_map, List.length_take]; omega) (fun o ho K K2 hK hK2 => ?_) ?_ rfl
                · walk_at "r"
                  exact hK rfl
                · rw [List.filter_eq_self.mpr fun _ _ => rfl]
                  refine ⟨_, rfl, ?_, ?_⟩
                  · rw [List.length_map, List.length_map, List.length_map, List.length_take]
                    omega
                  · rw [List.map_append, List.map_map (f := fun o => (v.1, o))]
                    rfl
              · have c5 : v.2 = false := c5
                rw [if_neg (by rw [c5]; simp), List.append_nil]

theorem q60' : CPow 10 60 := ⟨by decide, by decide, by decide⟩
theorem in_ePl (L : List (Int × Int)) (q : Int × Int) : ((L.map eP).any fun z => PyData.eqv z (eP q)) = decide (q ∈ L) := in_eP L q.1 q.2
theorem shp_two (A B : List (Int × Int)) : Shp 8 (.list [.list (A.map eP), .list (B.map eP)]) := fun d hd => by
  rcases List.mem_cons.mp hd with rfl | hd
  · exact shp_lst shp_pair A
  · rw [List.mem_singleton] at hd
    subst hd
    exact shp_lst shp_pair B
theorem nb_two (A B : List (Int × Int)) : Nb 8 (.list [.list (A.map eP), .list (B.map eP)]) := fun d hd => by
  rcases List.mem_cons.mp hd with rfl | hd
  · exact nb_lst nb_pair A
  · rw [List.mem_singleton] at hd
    subst hd
    exact nb_lst nb_pair B
theorem pairs_loop {n : Nat} {s0 s1 s3 s4 s5 : Sl} {d : DEnds} {Z : Zs} (hn : n ≤ 24) (h : d.nx [s0, s1, .fz (.int (n : Nat)), s3, s4, s5, .ow (.list ((pairsI n).map eP)), .un, .un, .un, .un]) :
    ForI [7] (gNm 7) (dExt 6 (dLc [9] (dRng2 (dCons (d2 addD (dV 7) (dC (.int 1))) (dCons (dV 2) dNil))) (gNm 9) dYes (dTup (dCons (dV 7) (dCons (dV 9) dNil))))) d Z [s0, s1, .fz (.int (n : Nat)), s3, s4, s5, .ow (.list []), .un, .un, .un, .un] (rangeD 0 ((n : Int)).toNat) := by
  refine forF (fun i : Nat => .int (i : Nat)) (List.range n) (fun pre => [s0, s1, .fz (.int (n : Nat)), s3, s4, s5, .ow (.list ((pre.flatMap (rowI n)).map eP)), .un, .un, .un, .un]) rfl h (fun pre i post hM => ?_) (by rw [Int.toNat_natCast, range_encN])
  obtain ⟨hi, hi2⟩ := range_mem hM
  walk_at "r"
  refine ⟨by omega, by omega, by omega, by omega, ?_⟩
  refine lcI (fun j : Nat => .int ((i : Int) + 1 + (j : Nat))) (List.range (n - (i + 1))) (fun j => true) (fun j => eP ((i : Int), (i : Int) + 1 + (j : Nat))) (by rw [List.length_range]; omega) (fun j hj K K2 hK hK2 => ?_) ?_ ?_
  · walk_at "r"
    exact hK rfl
  · rw [List.filter_eq_self.mpr fun _ _ => rfl]
    have er : (List.range (n - (i + 1))).map (fun j : Nat => eP ((i : Int), (i : Int) + 1 + (j : Nat))) = (rowI n i).map eP := by
      unfold rowI
      rw [List.map_map]
      rfl
    rw [er]
    have h2 : ∀ i, (rowI n i).length = n - (i + 1) := fun i => by unfold rowI; rw [List.length_map, List.length_range]
    refine ⟨_, rfl, ?_, ?_⟩
    · have l1 : (pre.flatMap (rowI n)).length ≤ 24 * pre.length := by
        clear hM hi
        induction pre with
        | nil => simp
        | cons a pre ih =>
          rw [List.flatMap_cons, List.length_append, List.length_cons, h2]
          omega
      rw [List.length_map, List.length_map, h2]
      omega
    · rw [List.flatMap_append, List.map_append]
      simp
  · unfold rangeD
    rw [show ((n : Int) - ((i : Int) + 1)).toNat = n - (i + 1) by omega]
theorem pairs_in {n : Nat} {L : List (Int × Int)} (hL : Ties n L) : (pairsI n).filter (fun p => decide (p ∈ L)) = L :=
  ties_ext ((ties_pairs n).sub List.filter_sublist) hL fun p => by
    rw [List.mem_filter, decide_eq_true_eq, mem_pairs]
    exact ⟨fun h => h.2, fun h => ⟨hL.rng p h, h⟩⟩
theorem sole_all {n : Nat} {L : List (Int × Int)} (hL : Ties n L) (h1 : 1 ≤ n) (h2 : n ≤ 24) (hg : growD (tallyI n L) ≠ none) : pairsW (tallyI n L) 1 = L ∧ pairsW (tallyI n L) (-1) = (pairsI n).filter (fun p => decide (p ∉ L)) := by
  have hA : AllL (tallyI n L) [L] := ⟨by simp, fun M hM => by
    rw [List.mem_singleton] at hM
    subst hM
    rw [tallyI_len]
    exact ⟨hL, rfl⟩, fun M hM e => by
    rw [tallyI_len] at hM e
    rw [List.mem_singleton]
    exact grow_sole hL hM e h1 h2 hg⟩
  have key : ∀ p ∈ pairsI n, (wallB (bothI (tallyI n L) p.1 p.2 1) = decide (p ∈ L)) ∧ wallB (bothI (tallyI n L) p.1 p.2 (-1)) = decide (p ∉ L) := fun p hp => by
    obtain ⟨u, v⟩ := p
    obtain ⟨a, b, c⟩ := mem_pairs.mp hp
    simp only at a b c
    obtain ⟨u, rfl⟩ : ∃ m : Nat, u = (m : Int) := ⟨_, (Int.toNat_of_nonneg a).symm⟩
    obtain ⟨v, rfl⟩ : ∃ m : Nat, v = (m : Int) := ⟨_, (Int.toNat_of_nonneg (by omega)).symm⟩
    have k1 := all_in hA (u := u) (v := v) (by rw [tallyI_len]; omega) (by rw [tallyI_len]; omega) (by omega)
    have k2 := none_in hA (u := u) (v := v) (by rw [tallyI_len]; omega) (by rw [tallyI_len]; omega) (by omega)
    rw [nrm_lt (by omega)] at k1 k2
    simp only [List.mem_singleton, forall_eq] at k1 k2
    constructor
    · rw [Bool.eq_iff_iff, wallB_iff, decide_eq_true_eq]
      exact k1.symm
    · rw [Bool.eq_iff_iff, wallB_iff, decide_eq_true_eq]
      exact k2.symm
  unfold pairsW
  rw [tallyI_len]
  refine ⟨(List.filter_congr fun p hp => (key p hp).1).trans (pairs_in hL), List.filter_congr fun p hp => (key p hp).2⟩
theorem exch_open {n : Nat} {L : List (Int × Int)} (hL : Ties n L) {a b c d : Int} (h : ExP n L a b c d) : ∃ p ∈ pairsI n, p ∉ pairsW (tallyI n L) 1 ∧ p ∉ pairsW (tallyI n L) (-1) := by
  have hr := hL.rng _ h.ab
  obtain ⟨u, v⟩ : ∃ u : Nat, (nrm (a, b)).1 = (u : Int) := ⟨_, (Int.toNat_of_nonneg hr.1).symm⟩
  obtain ⟨w, z⟩ : ∃ w : Nat, (nrm (a, b)).2 = (w : Int) := ⟨_, (Int.toNat_of_nonneg (by omega)).symm⟩
  have e : nrm (a, b) = ((u : Int), (w : Int)) := Prod.ext v z
  rw [v, z] at hr
  have hab := h.ab
  have hM : nrm ((u : Int), (w : Int)) ∉ exchG L a b c d := by
    rw [nrm_lt (by omega), ← e, mem_exchG]
    rintro (q | q | q)
    · exact q.2.1 rfl
    · have := nrm_two q
      have := h.ne
      omega
    · have := nrm_two q
      have := h.ne
      have := (h.rngs hL).2.2.2.2.1
      omega
  rw [e] at hab
  refine ⟨_, mem_pairs.mpr (hL.rng _ hab), ?_, ?_⟩
  · rw [mem_pairsW (by omega) (by rw [tallyI_len]; omega)]
    intro q
    exact q (both_more (by rw [tallyI_len]; omega) (by rw [tallyI_len]; omega) (by omega) (by rw [tallyI_len]; exact exg_ties hL h) (by rw [tallyI_len]; exact exg_tally hL h) hM)
  · rw [mem_pairsW (by omega) (by rw [tallyI_len]; omega)]
    intro q
    exact q (both_less (by rw [tallyI_len]; omega) (by rw [tallyI_len]; omega) (by omega) (by rw [tallyI_len]; exact hL) (by rw [tallyI_len]) (by rw [nrm_lt (by omega)]; exact hab))
theorem plain {ns : List Int} (hl : ns.length ≤ 63) (hb : ∀ z ∈ ns, Builtin.Int.intBits z ≤ 1048576) : w_law [.list (ns.map .int)] (fun d => d = .bool true) (fun _ => False) := by
  rw [u_law]
  unfold rd_law
  walk_at "r"
  have e16 : cutD (ns.map PyData.int) none (some 12) = (ns.take 12).map .int := ints_take (k := 12) (by decide)
  rw [e16, List.length_map]
  refine ⟨by rw [List.length_take]; omega, ?_⟩
  refine forI PyData.int (0 :: ns.take 12) (fun pre (_ : Unit) => True) (fun _ => [.ln (.list (ns.map .int)), .un, .un, .un, .un, .un, .un, .un, .un, .un, .un]) () rfl trivial (fun _ _ => ?_) (fun pre cell post _ hM _ => ?_) rfl
  · walk_at "r"
  · walk_at "r"
    refine ⟨q60', ?_, ?_⟩
    · decide
    refine p__law_web fun n L hn1 hn2 hsub => ?_
    have hL : Ties n L := (ties_pairs n).sub hsub
    walk_at "r"
    have hw : HasWeb (tallyI n L) := ⟨L, by rw [tallyI_len]; exact hL, by rw [tallyI_len]⟩
    have tl1 : 1 ≤ (tallyI n L).length := by rw [tallyI_len]; omega
    have tl2 : (tallyI n L).length ≤ 24 := by rw [tallyI_len]; omega
    have ll : L.length ≤ 576 := Nat.le_trans hsub.length_le (pairs_len (by omega))
    refine p__law_sums (.inl rfl) (by omega) hL.rng ?_
    walk_at "r"
    refine p_growth (.inl rfl) (fun c => absurd ⟨tl1, tl2⟩ c) (fun _ _ c => absurd hw c) (fun _ _ _ => ?_)
    have hno := exch_none hL hn1 (by omega)
    refine p__law_can (by omega) hL ll (fun hx => ?_) (fun hx => ?_)
    · rw [hno.mpr hx]
      refine x_eqB.mpr ⟨_, rfl, fun c => (nomatch c), fun _ => ⟨by omega, by omega, ?_⟩⟩
      refine pairs_loop (by omega) ?_
      walk_at "r"
      refine p_always (.inl rfl) (fun c => absurd ⟨tl1, tl2⟩ c) (fun _ _ c => absurd hw c) (fun _ _ _ => ?_)
      refine p_never (.inl rfl) (fun c => absurd ⟨tl1, tl2⟩ c) (fun _ _ c => absurd hw c) (fun _ _ _ => ?_)
      obtain ⟨a, b, c, d, e⟩ := hx
      obtain ⟨p, hp, p1, p2⟩ := exch_open hL e
      refine lcI eP (pairsI n) (fun p => decide (p ∉ pairsW (tallyI n L) 1 ++ pairsW (tallyI n L) (-1))) eP (Nat.le_trans (pairs_len (by omega)) (by decide)) (fun q hq K K2 hK hK2 => ?_) ?_ rfl
      · have w1 : (pairsW (tallyI n L) 1).length ≤ 576 := Nat.le_trans (List.length_filter_le _ _) (by rw [tallyI_len]; exact pairs_len (by omega))
        have w2 : (pairsW (tallyI n L) (-1)).length ≤ 576 := Nat.le_trans (List.length_filter_le _ _) (by rw [tallyI_len]; exact pairs_len (by omega))
        walk_at "r"
        refine ⟨_, atI0, _, atI1, ?_⟩
        walk_at "r"
        rw [← List.map_append, in_ePl]
        refine ⟨by rw [List.length_map, List.length_map]; omega, shp_pair q, shp_map shp_pair _, fun z => hK ?_, fun z => hK2 ?_⟩
        · exact decide_eq_true (of_decide_eq_false z)
        · exact decide_eq_false (fun y => y (of_decide_eq_true z))
      · refine eqR_pairs (B := []) ⟨_, rfl, fun z => ?_⟩
        have z : ((pairsI n).filter fun p => decide (p ∉ pairsW (tallyI n L) 1 ++ pairsW (tallyI n L) (-1))) = [] := by simpa using z
        have := List.filter_eq_nil_iff.mp z p hp
        simp [p1, p2] at this
    · have hg : growD (tallyI n L) ≠ none := fun z => hx (hno.mp z)
      obtain ⟨vs, hv⟩ := Option.ne_none_iff_exists'.mp hg
      rw [hv]
      refine x_eqB.mpr ⟨_, rfl, fun c => (nomatch c), fun _ => ⟨by omega, by omega, ?_⟩⟩
      refine pairs_loop (by omega) ?_
      walk_at "r"
      refine p_always (.inl rfl) (fun c => absurd ⟨tl1, tl2⟩ c) (fun _ _ c => absurd hw c) (fun _ _ _ => ?_)
      refine p_never (.inl rfl) (fun c => absurd ⟨tl1, tl2⟩ c) (fun _ _ c => absurd hw c) (fun _ _ _ => ?_)
      obtain ⟨e1, e2⟩ := sole_all hL hn1 (by omega) hg
      rw [e1, e2]
      obtain ⟨ws, w1, w2, w3, w4⟩ : ∃ ws, growD (tallyI n L) = some ws ∧ ws.length = n ∧ GrownOk ws.reverse ∧ sortP ((tiesG ws.reverse).map nrm) = L := by
        rcases grow_or hL hn1 (by omega) with h | h
        · exact h
        · exact absurd h.1 hg
      rw [hv] at w1
      cases w1
      refine p_grown (.inl rfl) (by rw [List.length_reverse]; omega) (fun _ => ?_) (fun c => absurd w3 c)
      rw [w4, List.length_reverse, w2]
      refine eqR_webs ⟨_, rfl, fun c => by simp at c, fun _ => ?_⟩
      refine lcI eP (pairsI n) (fun p => decide (p ∉ L)) eP (Nat.le_trans (pairs_len (by omega)) (by decide)) (fun q hq K K2 hK hK2 => ?_) ?_ rfl
      · walk_at "r"
        rw [in_ePl]
        refine ⟨shp_pair q, shp_map shp_pair _, fun z => hK ?_, fun z => hK2 ?_⟩
        · exact decide_eq_true (of_decide_eq_false z)
        · exact decide_eq_false (fun y => y (of_decide_eq_true z))
      · refine eqR_of (p := True) ?_ ?_ ?_ ?_ (by simp) ?_
        · exact shp_two _ _
        · exact shp_two _ _
        · exact nb_two _ _
        · exact nb_two _ _
        · exact ⟨_, rfl, fun c => (nomatch c)⟩

end DL
set_option maxRecDepth 100000
set_option maxHeartbeats 16000000
namespace DL
open PySem PySem.Spec PyProof.Rows L2

def topS (i : Nat) : Stmt := PySem.Challenge.pw_tallyweb_k39_whole_lone_or_exchanged.main.body.getD i (.Pass ⟨0, 0, 0, 0⟩)
abbrev s__law_row : Stmt := topS 31
abbrev s__law_ties : Stmt := topS 32
abbrev s__law_web : Stmt := topS 34
abbrev s__law_sums : Stmt := topS 33
abbrev s_look_at_tally : Stmt := topS 12
abbrev s_order_of : Stmt := topS 13
abbrev s_room_at : Stmt := topS 16
abbrev s_wall_of : Stmt := topS 17
abbrev s_look_for_web : Stmt := topS 20
abbrev s_last_put : Stmt := topS 21
abbrev s_growth : Stmt := topS 22
abbrev s__law_can : Stmt := topS 35
abbrev s_look_at_webs : Stmt := topS 25
abbrev s_look_at_place : Stmt := topS 10
abbrev s_moved : Stmt := topS 14
abbrev s_both_moved : Stmt := topS 26
abbrev s_pairs_with_wall : Stmt := topS 27
abbrev s_always : Stmt := topS 28
abbrev s_never : Stmt := topS 29
abbrev s_ties_fit : Stmt := topS 8
abbrev s_made : Stmt := topS 9
abbrev s_grown : Stmt := topS 23
abbrev s_law : Stmt := topS 36
structure Tx (K : PySem.W.Frag) (mg : Str → Option Value) (cs : List (Addr × Addr)) (TT : List (Addr × Str)) : Prop where
  b_enumerate : mg "enumerate" = none
  b_int : mg "int" = none
  b_len : mg "len" = none
  b_list : mg "list" = none
  b_max : mg "max" = none
  b_min : mg "min" = none
  b_range : mg "range" = none
  b_reversed : mg "reversed" = none
  b_sorted : mg "sorted" = none
  b_sum : mg "sum" = none
  b_tuple : mg "tuple" = none
  c_MOST_PLACES_seen : ∃ t, mg "MOST_PLACES_seen" = some (.int 24 t)
  c_MOST_PLACES_webs : ∃ t, mg "MOST_PLACES_webs" = some (.int 24 t)
  e_BadTally : Exd K mg "BadTally"
  e_BadWeb : Exd K mg "BadWeb"
  e_NoPlace : Exd K mg "NoPlace"
  e_NoWeb : Exd K mg "NoWeb"
  f__law_row : FnF K mg "_law_row" s__law_row
  f__law_ties : FnF K mg "_law_ties" s__law_ties
  f__law_web : FnF K mg "_law_web" s__law_web
  f__law_sums : FnF K mg "_law_sums" s__law_sums
  f_look_at_tally : FnF K mg "look_at_tally" s_look_at_tally
  f_order_of : FnC K mg "order_of" s_order_of cs TT
  f_room_at : FnF K mg "room_at" s_room_at
  f_wall_of : FnF K mg "wall_of" s_wall_of
  f_look_for_web : FnF K mg "look_for_web" s_look_for_web
  f_last_put : FnF K mg "last_put" s_last_put
  f_growth : FnF K mg "growth" s_growth
  f__law_can : FnF K mg "_law_can" s__law_can
  f_look_at_webs : FnF K mg "look_at_webs" s_look_at_webs
  f_look_at_place : FnF K mg "look_at_place" s_look_at_place
  f_moved : FnF K mg "moved" s_moved
  f_both_moved : FnF K mg "both_moved" s_both_moved
  f_pairs_with_wall : FnF K mg "pairs_with_wall" s_pairs_with_wall
  f_always : FnF K mg "always" s_always
  f_never : FnF K mg "never" s_never
  f_ties_fit : FnF K mg "ties_fit" s_ties_fit
  f_made : FnF K mg "made" s_made
  f_grown : FnF K mg "grown" s_grown
  f_law : FnF K mg "law" s_law
section
variable {P : Program} {w : World} {K : PySem.W.Frag} {mg : Str → Option Value} {base : Heap} {TT : List (Addr × Str)} {cs : List (Addr × Addr)}
abbrev N__law_row : List Str := ["cell", "many", "size", "told", "rest", "k", "mark"]
theorem sc__law_row : FnScope N__law_row ["cell", "many", "size"] (defScope s__law_row) := ⟨rfl, rfl, rfl, by decide +kernel, rfl, by decide +kernel, by decide +kernel⟩
theorem dv__law_row (T : Tx K mg cs TT) (TB : ∀ p ∈ cs, LamX.TabB base mg p.1 p.2) (f : Addr) (cdv : Value) (A : Around) (outer : List Env) (s : Shared) (H : Hp) (E : XK) (hr : Room 0 (A.deeper (envOfC "_law_row" (defScope s__law_row) s.heap.objs.size f cdv))) : DSs (cxOf CX0 P w K mg base N__law_row "_law_row" (defScope s__law_row) f cdv A outer s H E).nox (W0 TT) .nw (defBody s__law_row) rd__law_row := by
  have nd := (sc__law_row).nd
  exact (dss_cons (ds_setN 3 nd (de_lst (n := 0) da_nil))
  (dss_cons (ds_set 4 nd (de_op op_fdivW r2_intC (de_v 0) de_int))
  (dss_cons (ds_for [5, 6] PassesOwn.never rfl (di_range1 T.b_range (da_cons (de_v 1) da_nil)) (dg_name 5 nd)
  (dss_one (ds_if (dt_cmp (op_eqD hr.units) r2_eq (de_op op_mod r2_intC (de_v 0) de_int) de_int (nomark _))
  (dss_cons (ds_app 3 (pv 3) (de_op op_mod r2_intC (de_v 4) (de_v 2)))
  (dss_one (ds_set 4 nd (de_op op_fdivW r2_intC (de_v 4) (de_v 2)))))
  (dss_cons (ds_set 6 nd (de_op op_mod r2_intC (de_op op_addD r2_add (de_op op_addD r2_add (de_v 4) (de_op op_mulD r2_intC de_int (de_v 5))) de_int) de_int))
  (dss_cons (ds_set 6 nd (de_op op_mod r2_intC (de_op op_mulD r2_intC (de_op op_mod r2_intC (de_op op_mulD r2_intC (de_v 6) (de_v 6)) de_int) de_int) de_int))
  (dss_one (ds_app 3 (pv 3) (de_op op_mod r2_intC (de_op op_fdivW r2_intC (de_v 6) de_int) (de_v 2)))))))))
  (dss_one (ds_retO 3)))))
theorem bd__law_row : Bnd "_law_row" s__law_row ["cell", "many", "size"] := fun _ _ _ _ _ _ us hl => match us, hl with | [_, _, _], _ => rfl
theorem df__law_row (T : Tx K mg cs TT) (TB : ∀ p ∈ cs, LamX.TabB base mg p.1 p.2) : Df P w K mg base TT CX0 1 "_law_row" [.fz, .fz, .fz] .nw w__law_row := df0 T.f__law_row sc__law_row rfl bd__law_row (dv__law_row T TB)
abbrev N__law_ties : List Str := ["places", "cell", "marks", "ties", "k", "one", "other"]
theorem sc__law_ties : FnScope N__law_ties ["places", "cell"] (defScope s__law_ties) := ⟨rfl, rfl, rfl, by decide +kernel, rfl, by decide +kernel, by decide +kernel⟩
theorem dv__law_ties (T : Tx K mg cs TT) (TB : ∀ p ∈ cs, LamX.TabB base mg p.1 p.2) (f : Addr) (cdv : Value) (A : Around) (outer : List Env) (s : Shared) (H : Hp) (E : XK) (hr : Room 1 (A.deeper (envOfC "_law_ties" (defScope s__law_ties) s.heap.objs.size f cdv))) : DSs (cxOf CX0 P w K mg base N__law_ties "_law_ties" (defScope s__law_ties) f cdv A outer s H E).nox (W0 TT) .nw (defBody s__law_ties) rd__law_ties := by
  have nd := (sc__law_ties).nd
  exact (dss_cons (ds_set 2 nd (DE.fz (de_call (df__law_row T TB) pass0 (hr.mono (by decide)) (da_cons (de_v 1) (da_cons (de_op op_fdivW r2_intC (de_op op_mulD r2_intC (de_v 0) (de_op op_sub r2_int (de_v 0) de_int)) de_int) (da_cons de_int da_nil))))))
  (dss_cons (ds_setN 3 nd (de_lst (n := 0) da_nil))
  (dss_cons (ds_set 4 nd de_int)
  (dss_cons (ds_for [5, 6] PassesOwn.never rfl (di_range1 T.b_range (da_cons (de_v 0) da_nil)) (dg_name 5 nd)
  (dss_one (ds_for [6] PassesOwn.never rfl (di_range2 T.b_range (da_cons (de_op op_addD r2_add (de_v 5) de_int) (da_cons (de_v 0) da_nil))) (dg_name 6 nd)
  (dss_cons (ds_if (dt_cmp (op_eqD hr.units) r2_eq (de_ix ix_two r2_ix (de_v 2) (de_v 4) (fun _ _ => rfl)) de_int (nomark _))
  (dss_one (ds_app 3 (pv 3) (de_tup (n := 2) (da_cons (de_v 5) (da_cons (de_v 6) da_nil)))))
  dss_nil)
  (dss_one (ds_set 4 nd (de_op op_addD r2_add (de_v 4) de_int)))))))
  (dss_one (ds_retO 3))))))
theorem bd__law_ties : Bnd "_law_ties" s__law_ties ["places", "cell"] := fun _ _ _ _ _ _ us hl => match us, hl with | [_, _], _ => rfl
theorem df__law_ties (T : Tx K mg cs TT) (TB : ∀ p ∈ cs, LamX.TabB base mg p.1 p.2) : Df P w K mg base TT CX0 2 "_law_ties" [.fz, .fz] .nw w__law_ties := df0 T.f__law_ties sc__law_ties rfl bd__law_ties (dv__law_ties T TB)
abbrev N__law_web : List Str := ["rest", "places", "ties", "marks", "one", "other"]
theorem sc__law_web : FnScope N__law_web ["rest"] (defScope s__law_web) := ⟨rfl, rfl, rfl, by decide +kernel, rfl, by decide +kernel, by decide +kernel⟩
theorem dv__law_web (T : Tx K mg cs TT) (TB : ∀ p ∈ cs, LamX.TabB base mg p.1 p.2) (f : Addr) (cdv : Value) (A : Around) (outer : List Env) (s : Shared) (H : Hp) (E : XK) (hr : Room 2 (A.deeper (envOfC "_law_web" (defScope s__law_web) s.heap.objs.size f cdv))) : DSs (cxOf CX0 P w K mg base N__law_web "_law_web" (defScope s__law_web) f cdv A outer s H E).nox (W0 TT) .fz (defBody s__law_web) rd__law_web := by
  have nd := (sc__law_web).nd
  exact (dss_cons (ds_set 1 nd (de_op op_addD r2_add de_int (de_op op_mod r2_intC (de_v 0) de_int)))
  (dss_cons (ds_setN 2 nd (de_call (df__law_ties T TB) pass0 (hr.mono (by decide)) (da_cons (de_v 1) (da_cons (de_op op_fdivW r2_intC (de_v 0) de_int) da_nil))))
  (dss_cons (ds_if (dt_cmp (op_eqD hr.units) r2_eq (de_op op_mod r2_intC (de_op op_fdivW r2_intC (de_v 0) de_int) de_int) de_int (nomark _))
  (dss_cons (ds_set 3 nd (DE.fz (de_call (df__law_row T TB) pass0 (hr.mono (by decide)) (da_cons (de_op op_fdivW r2_intC (de_v 0) de_int) (da_cons (de_v 1) (da_cons de_int da_nil))))))
  (dss_cons (ds_setN 2 nd (de_lst (n := 0) da_nil))
  (dss_one (ds_for [4] PassesOwn.never rfl (di_range1 T.b_range (da_cons (de_v 1) da_nil)) (dg_name 4 nd)
  (dss_one (ds_ext 2 (pv 2) (DE.fz (de_lc (own := [("other", 5)]) rfl nd (di_range2 T.b_range (da_cons (de_op op_addD r2_add (de_v 4) de_int) (da_cons (de_v 1) da_nil))) (blkOk_by (N := N__law_web) (sc := defScope s__law_web) (by decide +kernel)) (by decide) (fun _ _ _ _ _ => (dg_name 5 nd)) (fun _ _ _ _ _ => (dts_one (dt_cmp (op_eqD hr.units) r2_eq (de_ix ix_two r2_ix (de_v 3) (de_v 5) (fun _ _ => rfl)) de_int (nomark _)))) (fun _ _ _ _ _ => (de_tup (n := 2) (da_cons (de_v 4) (da_cons (de_v 5) da_nil))))))))))))
  dss_nil)
  (dss_frz 2 (dss_one (ds_ret (de_tup (n := 2) (da_cons (de_v 1) (da_cons (de_v 2) da_nil)))))))))
theorem bd__law_web : Bnd "_law_web" s__law_web ["rest"] := fun _ _ _ _ _ _ us hl => match us, hl with | [_], _ => rfl
theorem df__law_web (T : Tx K mg cs TT) (TB : ∀ p ∈ cs, LamX.TabB base mg p.1 p.2) : Df P w K mg base TT CX0 3 "_law_web" [.fz] .fz w__law_web := df0 T.f__law_web sc__law_web rfl bd__law_web (dv__law_web T TB)
abbrev N__law_sums : List Str := ["places", "ties", "told", "one", "other"]
theorem sc__law_sums : FnScope N__law_sums ["places", "ties"] (defScope s__law_sums) := ⟨rfl, rfl, rfl, by decide +kernel, rfl, by decide +kernel, by decide +kernel⟩
theorem dv__law_sums (T : Tx K mg cs TT) (TB : ∀ p ∈ cs, LamX.TabB base mg p.1 p.2) (f : Addr) (cdv : Value) (A : Around) (outer : List Env) (s : Shared) (H : Hp) (E : XK) (hr : Room 0 (A.deeper (envOfC "_law_sums" (defScope s__law_sums) s.heap.objs.size f cdv))) : DSs (cxOf CX0 P w K mg base N__law_sums "_law_sums" (defScope s__law_sums) f cdv A outer s H E).nox (W0 TT) .nw (defBody s__law_sums) rd__law_sums := by
  have nd := (sc__law_sums).nd
  exact (dss_cons (ds_setN 2 nd (de_op op_rep r2_rep (DE.fz (de_lst (n := 1) (da_cons de_int da_nil))) (de_v 0)))
  (dss_cons (ds_for [3, 4] PassesOwn.never rfl (di_seq (DE.st (de_v 1))) (dg_tup rfl (dgs_cons (dg_name 3 nd) (dgs_cons (dg_name 4 nd) dgs_nil)))
  (dss_cons (ds_putL 2 (pv 2) (de_v 3) (de_op op_addD r2_add (de_ix ix_two r2_ix (de_vr 2) (de_v 3) (fun _ _ => rfl)) de_int))
  (dss_one (ds_putL 2 (pv 2) (de_v 4) (de_op op_addD r2_add (de_ix ix_two r2_ix (de_vr 2) (de_v 4) (fun _ _ => rfl)) de_int)))))
  (dss_one (ds_retO 2))))
theorem bd__law_sums : Bnd "_law_sums" s__law_sums ["places", "ties"] := fun _ _ _ _ _ _ us hl => match us, hl with | [_, _], _ => rfl
theorem df__law_sums (T : Tx K mg cs TT) (TB : ∀ p ∈ cs, LamX.TabB base mg p.1 p.2) : Df P w K mg base TT CX0 1 "_law_sums" [.fz, .fz] .nw w__law_sums := df0 T.f__law_sums sc__law_sums rfl bd__law_sums (dv__law_sums T TB)
abbrev N_look_at_tally : List Str := ["tally"]
theorem sc_look_at_tally : FnScope N_look_at_tally ["tally"] (defScope s_look_at_tally) := ⟨rfl, rfl, rfl, by decide +kernel, rfl, by decide +kernel, by decide +kernel⟩
theorem dv_look_at_tally (T : Tx K mg cs TT) (TB : ∀ p ∈ cs, LamX.TabB base mg p.1 p.2) (f : Addr) (cdv : Value) (A : Around) (outer : List Env) (s : Shared) (H : Hp) (E : XK) (hr : Room 0 (A.deeper (envOfC "look_at_tally" (defScope s_look_at_tally) s.heap.objs.size f cdv))) : DSs (cxOf (L2.CX P w) P w K mg base N_look_at_tally "look_at_tally" (defScope s_look_at_tally) f cdv A outer s H E) ⟨fun cls d _ H => E cls d H, TT⟩ .fz (defBody s_look_at_tally) rd_look_at_tally := by
  have nd := (sc_look_at_tally).nd
  have tk : Takes (cxOf (L2.CX P w) P w K mg base N_look_at_tally "look_at_tally" (defScope s_look_at_tally) f cdv A outer s H E) (fun cls d _ H => E cls d H) := takes_of rfl rfl rfl rfl
  exact (dss_one (ds_if (DEw.dt (dw_or (dt_cmp (op_ltO hr.units0) r2_ord (de_bi call_len ra_len rfl T.b_len bt_len (da_cons (de_v 0) da_nil)) de_int (nomark _)) (dw_or1 (dt_cmp (op_gtO hr.units0) r2_ord (de_bi call_len ra_len rfl T.b_len bt_len (da_cons (de_v 0) da_nil)) (de_cint T.c_MOST_PLACES_webs) (nomark _)))))
  (dss_one (ds_raise (x := "BadTally") tk rfl T.e_BadTally))
  dss_nil))
theorem bd_look_at_tally : Bnd "look_at_tally" s_look_at_tally ["tally"] := fun _ _ _ _ _ _ us hl => match us, hl with | [_], _ => rfl
theorem df_look_at_tally (T : Tx K mg cs TT) (TB : ∀ p ∈ cs, LamX.TabB base mg p.1 p.2) : Df P w K mg base TT (L2.CX P w) 1 "look_at_tally" [.fz] .fz w_look_at_tally := dfX T.f_look_at_tally sc_look_at_tally rfl bd_look_at_tally (dv_look_at_tally T TB)
abbrev N_order_of : List Str := ["tally"]
theorem sc_order_of : FnScope N_order_of ["tally"] (defScope s_order_of) := ⟨rfl, rfl, rfl, by decide +kernel, rfl, by decide +kernel, by decide +kernel⟩
theorem dv_order_of (T : Tx K mg cs TT) (TB : ∀ p ∈ cs, LamX.TabB base mg p.1 p.2) (f c Pt : Addr) (tb : LamX.TabB base mg c Pt) (hmT : (Pt, lamQ "order_of") ∈ TT) (huT : ∀ q ∈ TT, q.1 = Pt → q.2 = lamQ "order_of") (A : Around) (outer : List Env) (s : Shared) (H : Hp) (E : XK) (hr : Room 1 (A.deeper (envOfC "order_of" (defScope s_order_of) s.heap.objs.size f (.ref c)))) : DSs (cxOf (L2.CX P w) P w K mg base N_order_of "order_of" (defScope s_order_of) f (.ref c) A outer s H E) ⟨fun cls d _ H => E cls d H, TT⟩ .nw (defBody s_order_of) rd_order_of := by
  have nd := (sc_order_of).nd
  have tk : Takes (cxOf (L2.CX P w) P w K mg base N_order_of "order_of" (defScope s_order_of) f (.ref c) A outer s H E) (fun cls d _ H => E cls d H) := takes_of rfl rfl rfl rfl
  have td : TabD (cxOf (L2.CX P w) P w K mg base N_order_of "order_of" (defScope s_order_of) f (.ref c) A outer s H E) TT := ⟨c, Pt, tb, rfl, hmT, huT⟩
  exact (dss_cons (ds_drop (de_callX tk (df_look_at_tally T TB) (hr.mono (by decide)) (da_cons (de_v 0) da_nil)))
  (dss_one (ds_ret (de_sortR (x := "tally") (v := "place") 0 .sub (de_bi call_len ra_len rfl T.b_len bt_len (da_cons (de_v 0) da_nil)) T.b_sorted T.b_range td (hr.mono (by decide)) (lamP_by (sc := defScope s_order_of) (by decide +kernel)) rfl (fun _ _ _ _ _ _ => rfl)))))
theorem bd_order_of : Bnd "order_of" s_order_of ["tally"] := fun _ _ _ _ _ _ us hl => match us, hl with | [_], _ => rfl
theorem df_order_of (T : Tx K mg cs TT) (TB : ∀ p ∈ cs, LamX.TabB base mg p.1 p.2) : Df P w K mg base TT (L2.CX P w) 2 "order_of" [.fz] .nw w_order_of := dfXC T.f_order_of TB sc_order_of rfl bd_order_of (dv_order_of T TB)
abbrev N_room_at : List Str := ["tally", "r", "order", "room", "k", "place"]
theorem sc_room_at : FnScope N_room_at ["tally", "r"] (defScope s_room_at) := ⟨rfl, rfl, rfl, by decide +kernel, rfl, by decide +kernel, by decide +kernel⟩
theorem dv_room_at (T : Tx K mg cs TT) (TB : ∀ p ∈ cs, LamX.TabB base mg p.1 p.2) (f : Addr) (cdv : Value) (A : Around) (outer : List Env) (s : Shared) (H : Hp) (E : XK) (hr : Room 2 (A.deeper (envOfC "room_at" (defScope s_room_at) s.heap.objs.size f cdv))) : DSs (cxOf (L2.CX P w) P w K mg base N_room_at "room_at" (defScope s_room_at) f cdv A outer s H E) ⟨fun cls d _ H => E cls d H, TT⟩ .fz (defBody s_room_at) rd_room_at := by
  have nd := (sc_room_at).nd
  have tk : Takes (cxOf (L2.CX P w) P w K mg base N_room_at "room_at" (defScope s_room_at) f cdv A outer s H E) (fun cls d _ H => E cls d H) := takes_of rfl rfl rfl rfl
  exact (dss_cons (ds_set 2 nd (DE.fz (de_callX tk (df_order_of T TB) (hr.mono (by decide)) (da_cons (de_v 0) da_nil))))
  (dss_cons (ds_set 3 nd (de_op op_mulD r2_intC (de_v 1) (de_op op_sub r2_int (de_v 1) de_int)))
  (dss_cons (ds_for [4, 5] (passes_of rfl) rfl (di_enumA T.b_enumerate (da_cons (DE.st (de_v 2)) da_nil)) (dg_tup rfl (dgs_cons (dg_name 4 nd) (dgs_cons (dg_name 5 nd) dgs_nil)))
  (dss_one (ds_if (dt_cmp (op_ltO hr.units0) r2_ord (de_v 4) (de_v 1) (nomark _))
  (dss_one (ds_set 3 nd (de_op op_sub r2_int (de_v 3) (de_ix ix_two r2_ix (de_v 0) (de_v 5) (fun _ _ => rfl)))))
  (dss_one (ds_set 3 nd (de_op op_addD r2_add (de_v 3) (de_bi (call_min2 rfl) ra_min2 rfl T.b_min bt_min (da_cons (de_ix ix_two r2_ix (de_v 0) (de_v 5) (fun _ _ => rfl)) (da_cons (de_v 1) da_nil)))))))))
  (dss_one (ds_ret (de_v 3))))))
theorem bd_room_at : Bnd "room_at" s_room_at ["tally", "r"] := fun _ _ _ _ _ _ us hl => match us, hl with | [_, _], _ => rfl
theorem df_room_at (T : Tx K mg cs TT) (TB : ∀ p ∈ cs, LamX.TabB base mg p.1 p.2) : Df P w K mg base TT (L2.CX P w) 3 "room_at" [.fz, .fz] .fz w_room_at := dfX T.f_room_at sc_room_at rfl bd_room_at (dv_room_at T TB)
abbrev N_wall_of : List Str := ["tally", "place", "number", "r"]
theorem sc_wall_of : FnScope N_wall_of ["tally"] (defScope s_wall_of) := ⟨rfl, rfl, rfl, by decide +kernel, rfl, by decide +kernel, by decide +kernel⟩
theorem dv_wall_of (T : Tx K mg cs TT) (TB : ∀ p ∈ cs, LamX.TabB base mg p.1 p.2) (f : Addr) (cdv : Value) (A : Around) (outer : List Env) (s : Shared) (H : Hp) (E : XK) (hr : Room 3 (A.deeper (envOfC "wall_of" (defScope s_wall_of) s.heap.objs.size f cdv))) : DSs (cxOf (L2.CX P w) P w K mg base N_wall_of "wall_of" (defScope s_wall_of) f cdv A outer s H E) ⟨fun cls d _ H => E cls d H, TT⟩ .fz (defBody s_wall_of) rd_wall_of := by
  have nd := (sc_wall_of).nd
  have tk : Takes (cxOf (L2.CX P w) P w K mg base N_wall_of "wall_of" (defScope s_wall_of) f cdv A outer s H E) (fun cls d _ H => E cls d H) := takes_of rfl rfl rfl rfl
  exact (dss_cons (ds_drop (de_callX tk (df_look_at_tally T TB) (hr.mono (by decide)) (da_cons (de_v 0) da_nil)))
  (dss_cons (ds_for [1, 2] (passes_of rfl) rfl (di_enumA T.b_enumerate (da_cons (DE.st (de_v 0)) da_nil)) (dg_tup rfl (dgs_cons (dg_name 1 nd) (dgs_cons (dg_name 2 nd) dgs_nil)))
  (dss_one (ds_if (dt_cmp (op_ltO hr.units0) r2_ord (de_v 2) de_int (nomark _))
  (dss_one (ds_ret (de_tup (n := 2) (da_cons de_str (da_cons (de_v 1) da_nil)))))
  dss_nil)))
  (dss_cons (ds_if (dt_cmp (op_eqD hr.units) r2_eq (de_op op_mod r2_intC (de_bi (cr_sumA rfl) ra_seqI rfl T.b_sum bt_sum (da_cons (de_v 0) da_nil)) de_int) de_int (nomark _))
  (dss_one (ds_ret (de_tup (n := 1) (da_cons de_str da_nil))))
  dss_nil)
  (dss_cons (ds_for [3] (passes_of rfl) rfl (di_range2 T.b_range (da_cons de_int (da_cons (de_op op_addD r2_add (de_bi call_len ra_len rfl T.b_len bt_len (da_cons (de_v 0) da_nil)) de_int) da_nil))) (dg_name 3 nd)
  (dss_one (ds_if (dt_cmp (op_ltO hr.units0) r2_ord (de_callX tk (df_room_at T TB) (hr.mono (by decide)) (da_cons (de_v 0) (da_cons (de_v 3) da_nil))) de_int (nomark _))
  (dss_one (ds_ret (de_tup (n := 2) (da_cons de_str (da_cons (de_v 3) da_nil)))))
  dss_nil)))
  (dss_one (ds_ret de_non))))))
theorem bd_wall_of : Bnd "wall_of" s_wall_of ["tally"] := fun _ _ _ _ _ _ us hl => match us, hl with | [_], _ => rfl
theorem df_wall_of (T : Tx K mg cs TT) (TB : ∀ p ∈ cs, LamX.TabB base mg p.1 p.2) : Df P w K mg base TT (L2.CX P w) 4 "wall_of" [.fz] .fz w_wall_of := dfX T.f_wall_of sc_wall_of rfl bd_wall_of (dv_wall_of T TB)
abbrev N_look_for_web : List Str := ["tally"]
theorem sc_look_for_web : FnScope N_look_for_web ["tally"] (defScope s_look_for_web) := ⟨rfl, rfl, rfl, by decide +kernel, rfl, by decide +kernel, by decide +kernel⟩
theorem dv_look_for_web (T : Tx K mg cs TT) (TB : ∀ p ∈ cs, LamX.TabB base mg p.1 p.2) (f : Addr) (cdv : Value) (A : Around) (outer : List Env) (s : Shared) (H : Hp) (E : XK) (hr : Room 4 (A.deeper (envOfC "look_for_web" (defScope s_look_for_web) s.heap.objs.size f cdv))) : DSs (cxOf (L2.CX P w) P w K mg base N_look_for_web "look_for_web" (defScope s_look_for_web) f cdv A outer s H E) ⟨fun cls d _ H => E cls d H, TT⟩ .fz (defBody s_look_for_web) rd_look_for_web := by
  have nd := (sc_look_for_web).nd
  have tk : Takes (cxOf (L2.CX P w) P w K mg base N_look_for_web "look_for_web" (defScope s_look_for_web) f cdv A outer s H E) (fun cls d _ H => E cls d H) := takes_of rfl rfl rfl rfl
  exact (dss_one (ds_if (dt_cmp op_isnotD r2_is (de_callX tk (df_wall_of T TB) (hr.mono (by decide)) (da_cons (de_v 0) da_nil)) de_non (nomark _))
  (dss_one (ds_raise (x := "NoWeb") tk rfl T.e_NoWeb))
  dss_nil))
theorem bd_look_for_web : Bnd "look_for_web" s_look_for_web ["tally"] := fun _ _ _ _ _ _ us hl => match us, hl with | [_], _ => rfl
theorem df_look_for_web (T : Tx K mg cs TT) (TB : ∀ p ∈ cs, LamX.TabB base mg p.1 p.2) : Df P w K mg base TT (L2.CX P w) 5 "look_for_web" [.fz] .fz w_look_for_web := dfX T.f_look_for_web sc_look_for_web rfl bd_look_for_web (dv_look_for_web T TB)
abbrev N_last_put : List Str := ["left", "place"]
theorem sc_last_put : FnScope N_last_put ["left"] (defScope s_last_put) := ⟨rfl, rfl, rfl, by decide +kernel, rfl, by decide +kernel, by decide +kernel⟩
theorem dv_last_put (T : Tx K mg cs TT) (TB : ∀ p ∈ cs, LamX.TabB base mg p.1 p.2) (f : Addr) (cdv : Value) (A : Around) (outer : List Env) (s : Shared) (H : Hp) (E : XK) (hr : Room 0 (A.deeper (envOfC "last_put" (defScope s_last_put) s.heap.objs.size f cdv))) : DSs (cxOf CX0 P w K mg base N_last_put "last_put" (defScope s_last_put) f cdv A outer s H E).nox (W0 TT) .fz (defBody s_last_put) rd_last_put := by
  have nd := (sc_last_put).nd
  exact (dss_cons (ds_for [1] PassesOwn.never rfl (di_seq (DE.st (DE.fz (de_bi (call_sortedDI rfl) ra_sortD rfl T.b_sorted bt_sorted (da_cons (DE.rd (de_vs 0)) da_nil))))) (dg_name 1 nd)
  (dss_cons (ds_if (dt_cmp (op_eqD hr.units) r2_eq (de_dget (hu_of hr) (de_vs 0) (de_v 1) (fun _ _ => rfl)) de_int (nomark _))
  (dss_one (ds_ret (de_tup (n := 2) (da_cons (de_v 1) (da_cons de_bl da_nil)))))
  dss_nil)
  (dss_one (ds_if (dt_cmp (op_eqD hr.units) r2_eq (de_dget (hu_of hr) (de_vs 0) (de_v 1) (fun _ _ => rfl)) (de_op op_sub r2_int (de_bi call_lenRd ra_lenD rfl T.b_len bt_len (da_cons (DE.rd (de_vs 0)) da_nil)) de_int) (nomark _))
  (dss_one (ds_ret (de_tup (n := 2) (da_cons (de_v 1) (da_cons de_bl da_nil)))))
  dss_nil))))
  (dss_one (ds_ret de_non)))
theorem bd_last_put : Bnd "last_put" s_last_put ["left"] := fun _ _ _ _ _ _ us hl => match us, hl with | [_], _ => rfl
theorem df_last_put (T : Tx K mg cs TT) (TB : ∀ p ∈ cs, LamX.TabB base mg p.1 p.2) : Df P w K mg base TT CX0 1 "last_put" [.rd] .fz w_last_put := df0 T.f_last_put sc_last_put rfl bd_last_put (dv_last_put T TB)
abbrev N_growth : List Str := ["tally", "left", "place", "number", "steps", "step", "rest"]
theorem sc_growth : FnScope N_growth ["tally"] (defScope s_growth) := ⟨rfl, rfl, rfl, by decide +kernel, rfl, by decide +kernel, by decide +kernel⟩
theorem dv_growth (T : Tx K mg cs TT) (TB : ∀ p ∈ cs, LamX.TabB base mg p.1 p.2) (f : Addr) (cdv : Value) (A : Around) (outer : List Env) (s : Shared) (H : Hp) (E : XK) (hr : Room 5 (A.deeper (envOfC "growth" (defScope s_growth) s.heap.objs.size f cdv))) : DSs (cxOf (L2.CX P w) P w K mg base N_growth "growth" (defScope s_growth) f cdv A outer s H E) ⟨fun cls d _ H => E cls d H, TT⟩ .fz (defBody s_growth) rd_growth := by
  have nd := (sc_growth).nd
  have tk : Takes (cxOf (L2.CX P w) P w K mg base N_growth "growth" (defScope s_growth) f cdv A outer s H E) (fun cls d _ H => E cls d H) := takes_of rfl rfl rfl rfl
  exact (dss_cons (ds_drop (de_callX tk (df_look_for_web T TB) (hr.mono (by decide)) (da_cons (de_v 0) da_nil)))
  (dss_cons (ds_setN 1 nd de_dnewK)
  (dss_cons (ds_for [2, 3] (passes_of rfl) rfl (di_enumA T.b_enumerate (da_cons (DE.st (de_v 0)) da_nil)) (dg_tup rfl (dgs_cons (dg_name 2 nd) (dgs_cons (dg_name 3 nd) dgs_nil)))
  (dss_one (ds_putK 1 (hu_of hr) (pv 1) (de_v 2) (de_v 3))))
  (dss_cons (ds_setN 4 nd (de_lst (n := 0) da_nil))
  (dss_cons (ds_while [2, 5, 6] (passes_of rfl) (dt_neD0 1 (hu_of hr) (pv 1))
  (dss_cons (ds_set 5 nd (de_call (df_last_put T TB) pass0 (hr.mono (by decide)) (da_cons (de_vr 1) da_nil)))
  (dss_cons (ds_if (dt_cmp op_isD r2_is (de_v 5) de_non (nomark _))
  (dss_one (ds_ret de_non))
  dss_nil)
  (dss_cons (ds_app 4 (pv 4) (de_v 5))
  (dss_cons (ds_setN 6 nd de_dnewK)
  (dss_lck 1 (dss_cons (ds_for [2] (passes_of rfl) rfl (di_keysK (de_v 1)) (dg_name 2 nd)
  (dss_one (ds_if (dt_cmp (op_neD hr.units) r2_ne (de_v 2) (de_ix ix_two r2_ix (de_v 5) de_int (fun _ _ => rfl)) (nomark _))
  (dss_one (ds_putK 6 (hu_of hr) (pv 6) (de_v 2) (de_op op_sub r2_int (de_dget (hu_of hr) (de_v 1) (de_v 2) (fun _ _ => rfl)) (de_ty call_int1 ra_int rfl T.b_int bt_int (da_cons (de_ix ix_two r2_ix (de_v 5) de_int (fun _ _ => rfl)) da_nil)))))
  dss_nil)))
  (dss_one (ds_mov 1 6 nd (pv 6))))))))))
  (dss_frz 4 (dss_one (ds_ret (DE.fz (de_listRev (de_v 4) T.b_list T.b_reversed))))))))))
theorem bd_growth : Bnd "growth" s_growth ["tally"] := fun _ _ _ _ _ _ us hl => match us, hl with | [_], _ => rfl
theorem df_growth (T : Tx K mg cs TT) (TB : ∀ p ∈ cs, LamX.TabB base mg p.1 p.2) : Df P w K mg base TT (L2.CX P w) 6 "growth" [.fz] .fz w_growth := dfX T.f_growth sc_growth rfl bd_growth (dv_growth T TB)
abbrev N__law_can : List Str := ["places", "ties", "both", "a", "b", "c", "d", "one", "other", "place"]
theorem sc__law_can : FnScope N__law_can ["places", "ties"] (defScope s__law_can) := ⟨rfl, rfl, rfl, by decide +kernel, rfl, by decide +kernel, by decide +kernel⟩
theorem dv__law_can (T : Tx K mg cs TT) (TB : ∀ p ∈ cs, LamX.TabB base mg p.1 p.2) (f : Addr) (cdv : Value) (A : Around) (outer : List Env) (s : Shared) (H : Hp) (E : XK) (hr : Room 0 (A.deeper (envOfC "_law_can" (defScope s__law_can) s.heap.objs.size f cdv))) : DSs (cxOf CX0 P w K mg base N__law_can "_law_can" (defScope s__law_can) f cdv A outer s H E).nox (W0 TT) .fz (defBody s__law_can) rd__law_can := by
  have nd := (sc__law_can).nd
  exact (dss_cons (ds_set 2 nd (de_op op_addD r2_add (de_v 1) (DE.fz (de_lc (own := [("one", 7), ("other", 8)]) rfl nd (di_seq (DE.st (de_v 1))) (blkOk_by (N := N__law_can) (sc := defScope s__law_can) (by decide +kernel)) (by decide) (fun _ _ _ _ _ => (dg_tup rfl (dgs_cons (dg_name 7 nd) (dgs_cons (dg_name 8 nd) dgs_nil)))) (fun _ _ _ _ _ => dts_nil) (fun _ _ _ _ _ => (de_tup (n := 2) (da_cons (de_v 8) (da_cons (de_v 7) da_nil))))))))
  (dss_cons (ds_for [3, 4, 5, 6] PassesOwn.never rfl (di_seq (DE.st (de_v 2))) (dg_tup rfl (dgs_cons (dg_name 3 nd) (dgs_cons (dg_name 4 nd) dgs_nil)))
  (dss_one (ds_for [5, 6] PassesOwn.never rfl (di_seq (DE.st (de_v 2))) (dg_tup rfl (dgs_cons (dg_name 5 nd) (dgs_cons (dg_name 6 nd) dgs_nil)))
  (dss_one (ds_if (dt_cmp (op_eqD hr.units) r2_eq (de_bi call_len ra_len rfl T.b_len bt_len (da_cons (de_lc (own := [("place", 9)]) rfl nd (di_range1 T.b_range (da_cons (de_v 0) da_nil)) (blkOk_by (N := N__law_can) (sc := defScope s__law_can) (by decide +kernel)) (by decide) (fun _ _ _ _ _ => (dg_name 9 nd)) (fun _ _ _ _ _ => (dts_one (dt_cmp (op_inS hr.units) r2_in (de_v 9) (de_tup (n := 4) (da_cons (de_v 3) (da_cons (de_v 4) (da_cons (de_v 5) (da_cons (de_v 6) da_nil))))) rfl))) (fun _ _ _ _ _ => de_int)) da_nil)) de_int (nomark _))
  (dss_one (ds_if (DEw.dt (dw_and (dt_cmp (op_notInS hr.units) r2_in (de_tup (n := 2) (da_cons (de_v 3) (da_cons (de_v 6) da_nil))) (de_v 2) rfl) (dw_and1 (dt_cmp (op_notInS hr.units) r2_in (de_tup (n := 2) (da_cons (de_v 5) (da_cons (de_v 4) da_nil))) (de_v 2) rfl))))
  (dss_one (ds_ret de_bl))
  dss_nil))
  dss_nil)))))
  (dss_one (ds_ret de_bl))))
theorem bd__law_can : Bnd "_law_can" s__law_can ["places", "ties"] := fun _ _ _ _ _ _ us hl => match us, hl with | [_, _], _ => rfl
theorem df__law_can (T : Tx K mg cs TT) (TB : ∀ p ∈ cs, LamX.TabB base mg p.1 p.2) : Df P w K mg base TT CX0 1 "_law_can" [.fz, .fz] .fz w__law_can := df0 T.f__law_can sc__law_can rfl bd__law_can (dv__law_can T TB)
abbrev N_look_at_webs : List Str := ["tally"]
theorem sc_look_at_webs : FnScope N_look_at_webs ["tally"] (defScope s_look_at_webs) := ⟨rfl, rfl, rfl, by decide +kernel, rfl, by decide +kernel, by decide +kernel⟩
theorem dv_look_at_webs (T : Tx K mg cs TT) (TB : ∀ p ∈ cs, LamX.TabB base mg p.1 p.2) (f : Addr) (cdv : Value) (A : Around) (outer : List Env) (s : Shared) (H : Hp) (E : XK) (hr : Room 4 (A.deeper (envOfC "look_at_webs" (defScope s_look_at_webs) s.heap.objs.size f cdv))) : DSs (cxOf (L2.CX P w) P w K mg base N_look_at_webs "look_at_webs" (defScope s_look_at_webs) f cdv A outer s H E) ⟨fun cls d _ H => E cls d H, TT⟩ .fz (defBody s_look_at_webs) rd_look_at_webs := by
  have nd := (sc_look_at_webs).nd
  have tk : Takes (cxOf (L2.CX P w) P w K mg base N_look_at_webs "look_at_webs" (defScope s_look_at_webs) f cdv A outer s H E) (fun cls d _ H => E cls d H) := takes_of rfl rfl rfl rfl
  exact (dss_cons (ds_drop (de_callX tk (df_look_at_tally T TB) (hr.mono (by decide)) (da_cons (de_v 0) da_nil)))
  (dss_one (ds_if (dt_cmp op_isnotD r2_is (de_callX tk (df_wall_of T TB) (hr.mono (by decide)) (da_cons (de_v 0) da_nil)) de_non (nomark _))
  (dss_one (ds_raise (x := "NoWeb") tk rfl T.e_NoWeb))
  dss_nil)))
theorem bd_look_at_webs : Bnd "look_at_webs" s_look_at_webs ["tally"] := fun _ _ _ _ _ _ us hl => match us, hl with | [_], _ => rfl
theorem df_look_at_webs (T : Tx K mg cs TT) (TB : ∀ p ∈ cs, LamX.TabB base mg p.1 p.2) : Df P w K mg base TT (L2.CX P w) 5 "look_at_webs" [.fz] .fz w_look_at_webs := dfX T.f_look_at_webs sc_look_at_webs rfl bd_look_at_webs (dv_look_at_webs T TB)
abbrev N_look_at_place : List Str := ["many", "place"]
theorem sc_look_at_place : FnScope N_look_at_place ["many", "place"] (defScope s_look_at_place) := ⟨rfl, rfl, rfl, by decide +kernel, rfl, by decide +kernel, by decide +kernel⟩
theorem dv_look_at_place (T : Tx K mg cs TT) (TB : ∀ p ∈ cs, LamX.TabB base mg p.1 p.2) (f : Addr) (cdv : Value) (A : Around) (outer : List Env) (s : Shared) (H : Hp) (E : XK) (hr : Room 0 (A.deeper (envOfC "look_at_place" (defScope s_look_at_place) s.heap.objs.size f cdv))) : DSs (cxOf (L2.CX P w) P w K mg base N_look_at_place "look_at_place" (defScope s_look_at_place) f cdv A outer s H E) ⟨fun cls d _ H => E cls d H, TT⟩ .fz (defBody s_look_at_place) rd_look_at_place := by
  have nd := (sc_look_at_place).nd
  have tk : Takes (cxOf (L2.CX P w) P w K mg base N_look_at_place "look_at_place" (defScope s_look_at_place) f cdv A outer s H E) (fun cls d _ H => E cls d H) := takes_of rfl rfl rfl rfl
  exact (dss_one (ds_if (DEw.dt (dw_or (dt_cmp (op_ltO hr.units0) r2_ord (de_v 1) de_int (nomark _)) (dw_or1 (dt_cmp (op_geO hr.units0) r2_ord (de_v 1) (de_v 0) (nomark _)))))
  (dss_one (ds_raise (x := "NoPlace") tk rfl T.e_NoPlace))
  dss_nil))
theorem bd_look_at_place : Bnd "look_at_place" s_look_at_place ["many", "place"] := fun _ _ _ _ _ _ us hl => match us, hl with | [_, _], _ => rfl
theorem df_look_at_place (T : Tx K mg cs TT) (TB : ∀ p ∈ cs, LamX.TabB base mg p.1 p.2) : Df P w K mg base TT (L2.CX P w) 1 "look_at_place" [.fz, .fz] .fz w_look_at_place := dfX T.f_look_at_place sc_look_at_place rfl bd_look_at_place (dv_look_at_place T TB)
abbrev N_moved : List Str := ["tally", "place", "more", "told"]
theorem sc_moved : FnScope N_moved ["tally", "place", "more"] (defScope s_moved) := ⟨rfl, rfl, rfl, by decide +kernel, rfl, by decide +kernel, by decide +kernel⟩
theorem dv_moved (T : Tx K mg cs TT) (TB : ∀ p ∈ cs, LamX.TabB base mg p.1 p.2) (f : Addr) (cdv : Value) (A : Around) (outer : List Env) (s : Shared) (H : Hp) (E : XK) (hr : Room 1 (A.deeper (envOfC "moved" (defScope s_moved) s.heap.objs.size f cdv))) : DSs (cxOf (L2.CX P w) P w K mg base N_moved "moved" (defScope s_moved) f cdv A outer s H E) ⟨fun cls d _ H => E cls d H, TT⟩ .nw (defBody s_moved) rd_moved := by
  have nd := (sc_moved).nd
  have tk : Takes (cxOf (L2.CX P w) P w K mg base N_moved "moved" (defScope s_moved) f cdv A outer s H E) (fun cls d _ H => E cls d H) := takes_of rfl rfl rfl rfl
  exact (dss_cons (ds_drop (de_callX tk (df_look_at_tally T TB) (hr.mono (by decide)) (da_cons (de_v 0) da_nil)))
  (dss_cons (ds_drop (de_callX tk (df_look_at_place T TB) (hr.mono (by decide)) (da_cons (de_bi call_len ra_len rfl T.b_len bt_len (da_cons (de_v 0) da_nil)) (da_cons (de_v 1) da_nil))))
  (dss_cons (ds_setN 3 nd (de_ty call_list_of ra_list rfl T.b_list bt_list (da_cons (de_v 0) da_nil)))
  (dss_cons (ds_putL 3 (pv 3) (de_v 1) (de_op op_addD r2_add (de_ix ix_two r2_ix (de_vr 3) (de_v 1) (fun _ _ => rfl)) (de_v 2)))
  (dss_one (ds_retO 3))))))
theorem bd_moved : Bnd "moved" s_moved ["tally", "place", "more"] := fun _ _ _ _ _ _ us hl => match us, hl with | [_, _, _], _ => rfl
theorem df_moved (T : Tx K mg cs TT) (TB : ∀ p ∈ cs, LamX.TabB base mg p.1 p.2) : Df P w K mg base TT (L2.CX P w) 2 "moved" [.fz, .fz, .fz] .nw w_moved := dfX T.f_moved sc_moved rfl bd_moved (dv_moved T TB)
abbrev N_both_moved : List Str := ["tally", "one", "other", "more"]
theorem sc_both_moved : FnScope N_both_moved ["tally", "one", "other", "more"] (defScope s_both_moved) := ⟨rfl, rfl, rfl, by decide +kernel, rfl, by decide +kernel, by decide +kernel⟩
theorem dv_both_moved (T : Tx K mg cs TT) (TB : ∀ p ∈ cs, LamX.TabB base mg p.1 p.2) (f : Addr) (cdv : Value) (A : Around) (outer : List Env) (s : Shared) (H : Hp) (E : XK) (hr : Room 2 (A.deeper (envOfC "both_moved" (defScope s_both_moved) s.heap.objs.size f cdv))) : DSs (cxOf (L2.CX P w) P w K mg base N_both_moved "both_moved" (defScope s_both_moved) f cdv A outer s H E) ⟨fun cls d _ H => E cls d H, TT⟩ .nw (defBody s_both_moved) rd_both_moved := by
  have nd := (sc_both_moved).nd
  have tk : Takes (cxOf (L2.CX P w) P w K mg base N_both_moved "both_moved" (defScope s_both_moved) f cdv A outer s H E) (fun cls d _ H => E cls d H) := takes_of rfl rfl rfl rfl
  exact (dss_one (ds_ret (de_callX tk (df_moved T TB) (hr.mono (by decide)) (da_cons (DE.fz (de_callX tk (df_moved T TB) (hr.mono (by decide)) (da_cons (de_v 0) (da_cons (de_v 1) (da_cons (de_v 3) da_nil))))) (da_cons (de_v 2) (da_cons (de_v 3) da_nil))))))
theorem bd_both_moved : Bnd "both_moved" s_both_moved ["tally", "one", "other", "more"] := fun _ _ _ _ _ _ us hl => match us, hl with | [_, _, _, _], _ => rfl
theorem df_both_moved (T : Tx K mg cs TT) (TB : ∀ p ∈ cs, LamX.TabB base mg p.1 p.2) : Df P w K mg base TT (L2.CX P w) 3 "both_moved" [.fz, .fz, .fz, .fz] .nw w_both_moved := dfX T.f_both_moved sc_both_moved rfl bd_both_moved (dv_both_moved T TB)
abbrev N_pairs_with_wall : List Str := ["tally", "more", "known", "pairs", "one", "other", "numbers"]
theorem sc_pairs_with_wall : FnScope N_pairs_with_wall ["tally", "more"] (defScope s_pairs_with_wall) := ⟨rfl, rfl, rfl, by decide +kernel, rfl, by decide +kernel, by decide +kernel⟩
theorem dv_pairs_with_wall (T : Tx K mg cs TT) (TB : ∀ p ∈ cs, LamX.TabB base mg p.1 p.2) (f : Addr) (cdv : Value) (A : Around) (outer : List Env) (s : Shared) (H : Hp) (E : XK) (hr : Room 5 (A.deeper (envOfC "pairs_with_wall" (defScope s_pairs_with_wall) s.heap.objs.size f cdv))) : DSs (cxOf (L2.CX P w) P w K mg base N_pairs_with_wall "pairs_with_wall" (defScope s_pairs_with_wall) f cdv A outer s H E) ⟨fun cls d _ H => E cls d H, TT⟩ .nw (defBody s_pairs_with_wall) rd_pairs_with_wall := by
  have nd := (sc_pairs_with_wall).nd
  have tk : Takes (cxOf (L2.CX P w) P w K mg base N_pairs_with_wall "pairs_with_wall" (defScope s_pairs_with_wall) f cdv A outer s H E) (fun cls d _ H => E cls d H) := takes_of rfl rfl rfl rfl
  exact (dss_cons (ds_drop (de_callX tk (df_look_at_webs T TB) (hr.mono (by decide)) (da_cons (de_v 0) da_nil)))
  (dss_cons (ds_setN 2 nd de_dnewT)
  (dss_cons (ds_setN 3 nd (de_lst (n := 0) da_nil))
  (dss_cons (ds_for [4, 5, 6] (passes_of rfl) rfl (di_range1 T.b_range (da_cons (de_bi call_len ra_len rfl T.b_len bt_len (da_cons (de_v 0) da_nil)) da_nil)) (dg_name 4 nd)
  (dss_one (ds_for [5, 6] (passes_of rfl) rfl (di_range2 T.b_range (da_cons (de_op op_addD r2_add (de_v 4) de_int) (da_cons (de_bi call_len ra_len rfl T.b_len bt_len (da_cons (de_v 0) da_nil)) da_nil))) (dg_name 5 nd)
  (dss_cons (ds_set 6 nd (de_tup (n := 2) (da_cons (de_bi (call_min2 rfl) ra_min2 rfl T.b_min bt_min (da_cons (de_ix ix_two r2_ix (de_v 0) (de_v 4) (fun _ _ => rfl)) (da_cons (de_ix ix_two r2_ix (de_v 0) (de_v 5) (fun _ _ => rfl)) da_nil))) (da_cons (de_bi (call_max2 rfl) ra_max2 rfl T.b_max bt_max (da_cons (de_ix ix_two r2_ix (de_v 0) (de_v 4) (fun _ _ => rfl)) (da_cons (de_ix ix_two r2_ix (de_v 0) (de_v 5) (fun _ _ => rfl)) da_nil))) da_nil))))
  (dss_cons (ds_if (dt_dnotin (hu_of hr) (de_v 6) (de_vr 2))
  (dss_one (ds_putT 2 (hu_of hr) (pv 2) (de_v 6) (de_cmp op_isnotD r2_is (de_callX tk (df_wall_of T TB) (hr.mono (by decide)) (da_cons (DE.fz (de_callX tk (df_both_moved T TB) (hr.mono (by decide)) (da_cons (de_v 0) (da_cons (de_v 4) (da_cons (de_v 5) (da_cons (de_v 1) da_nil)))))) da_nil)) de_non (nomark _))))
  dss_nil)
  (dss_one (ds_if (dt_val (de_dget (hu_of hr) (de_vr 2) (de_v 6) (fun _ _ => rfl)))
  (dss_one (ds_app 3 (pv 3) (de_tup (n := 2) (da_cons (de_v 4) (da_cons (de_v 5) da_nil)))))
  dss_nil)))))))
  (dss_one (ds_retO 3))))))
theorem bd_pairs_with_wall : Bnd "pairs_with_wall" s_pairs_with_wall ["tally", "more"] := fun _ _ _ _ _ _ us hl => match us, hl with | [_, _], _ => rfl
theorem df_pairs_with_wall (T : Tx K mg cs TT) (TB : ∀ p ∈ cs, LamX.TabB base mg p.1 p.2) : Df P w K mg base TT (L2.CX P w) 6 "pairs_with_wall" [.fz, .fz] .nw w_pairs_with_wall := dfX T.f_pairs_with_wall sc_pairs_with_wall rfl bd_pairs_with_wall (dv_pairs_with_wall T TB)
abbrev N_always : List Str := ["tally"]
theorem sc_always : FnScope N_always ["tally"] (defScope s_always) := ⟨rfl, rfl, rfl, by decide +kernel, rfl, by decide +kernel, by decide +kernel⟩
theorem dv_always (T : Tx K mg cs TT) (TB : ∀ p ∈ cs, LamX.TabB base mg p.1 p.2) (f : Addr) (cdv : Value) (A : Around) (outer : List Env) (s : Shared) (H : Hp) (E : XK) (hr : Room 6 (A.deeper (envOfC "always" (defScope s_always) s.heap.objs.size f cdv))) : DSs (cxOf (L2.CX P w) P w K mg base N_always "always" (defScope s_always) f cdv A outer s H E) ⟨fun cls d _ H => E cls d H, TT⟩ .nw (defBody s_always) rd_always := by
  have nd := (sc_always).nd
  have tk : Takes (cxOf (L2.CX P w) P w K mg base N_always "always" (defScope s_always) f cdv A outer s H E) (fun cls d _ H => E cls d H) := takes_of rfl rfl rfl rfl
  exact (dss_one (ds_ret (de_callX tk (df_pairs_with_wall T TB) (hr.mono (by decide)) (da_cons (de_v 0) (da_cons de_int da_nil)))))
theorem bd_always : Bnd "always" s_always ["tally"] := fun _ _ _ _ _ _ us hl => match us, hl with | [_], _ => rfl
theorem df_always (T : Tx K mg cs TT) (TB : ∀ p ∈ cs, LamX.TabB base mg p.1 p.2) : Df P w K mg base TT (L2.CX P w) 7 "always" [.fz] .nw w_always := dfX T.f_always sc_always rfl bd_always (dv_always T TB)
abbrev N_never : List Str := ["tally"]
theorem sc_never : FnScope N_never ["tally"] (defScope s_never) := ⟨rfl, rfl, rfl, by decide +kernel, rfl, by decide +kernel, by decide +kernel⟩
theorem dv_never (T : Tx K mg cs TT) (TB : ∀ p ∈ cs, LamX.TabB base mg p.1 p.2) (f : Addr) (cdv : Value) (A : Around) (outer : List Env) (s : Shared) (H : Hp) (E : XK) (hr : Room 6 (A.deeper (envOfC "never" (defScope s_never) s.heap.objs.size f cdv))) : DSs (cxOf (L2.CX P w) P w K mg base N_never "never" (defScope s_never) f cdv A outer s H E) ⟨fun cls d _ H => E cls d H, TT⟩ .nw (defBody s_never) rd_never := by
  have nd := (sc_never).nd
  have tk : Takes (cxOf (L2.CX P w) P w K mg base N_never "never" (defScope s_never) f cdv A outer s H E) (fun cls d _ H => E cls d H) := takes_of rfl rfl rfl rfl
  exact (dss_one (ds_ret (de_callX tk (df_pairs_with_wall T TB) (hr.mono (by decide)) (da_cons (de_v 0) (da_cons (de_un un_neg r1_int de_int) da_nil)))))
theorem bd_never : Bnd "never" s_never ["tally"] := fun _ _ _ _ _ _ us hl => match us, hl with | [_], _ => rfl
theorem df_never (T : Tx K mg cs TT) (TB : ∀ p ∈ cs, LamX.TabB base mg p.1 p.2) : Df P w K mg base TT (L2.CX P w) 7 "never" [.fz] .nw w_never := dfX T.f_never sc_never rfl bd_never (dv_never T TB)
abbrev N_ties_fit : List Str := ["places", "ties", "seen", "one", "other", "low", "high"]
theorem sc_ties_fit : FnScope N_ties_fit ["places", "ties"] (defScope s_ties_fit) := ⟨rfl, rfl, rfl, by decide +kernel, rfl, by decide +kernel, by decide +kernel⟩
theorem dv_ties_fit (T : Tx K mg cs TT) (TB : ∀ p ∈ cs, LamX.TabB base mg p.1 p.2) (f : Addr) (cdv : Value) (A : Around) (outer : List Env) (s : Shared) (H : Hp) (E : XK) (hr : Room 0 (A.deeper (envOfC "ties_fit" (defScope s_ties_fit) s.heap.objs.size f cdv))) : DSs (cxOf CX0 P w K mg base N_ties_fit "ties_fit" (defScope s_ties_fit) f cdv A outer s H E).nox (W0 TT) .fz (defBody s_ties_fit) rd_ties_fit := by
  have nd := (sc_ties_fit).nd
  exact (dss_cons (ds_setN 2 nd de_dnewT)
  (dss_cons (ds_for [3, 4, 5, 6] PassesOwn.never rfl (di_seq (de_vs 1)) (dg_tup rfl (dgs_cons (dg_name 3 nd) (dgs_cons (dg_name 4 nd) dgs_nil)))
  (dss_cons (ds_set 5 nd (de_bi (call_min2 rfl) ra_min2 rfl T.b_min bt_min (da_cons (de_v 3) (da_cons (de_v 4) da_nil))))
  (dss_cons (ds_set 6 nd (de_bi (call_max2 rfl) ra_max2 rfl T.b_max bt_max (da_cons (de_v 3) (da_cons (de_v 4) da_nil))))
  (dss_cons (ds_if (DEw.dt (dw_or (dt_cmp (op_ltO hr.units0) r2_ord (de_v 5) de_int (nomark _)) (dw_or (dt_cmp (op_eqD hr.units) r2_eq (de_v 5) (de_v 6) (nomark _)) (dw_or (dt_cmp (op_geO hr.units0) r2_ord (de_v 6) (de_v 0) (nomark _)) (dw_or1 (dt_din (hu_of hr) (de_tup (n := 2) (da_cons (de_v 5) (da_cons (de_v 6) da_nil))) (de_vr 2)))))))
  (dss_one (ds_ret de_bl))
  dss_nil)
  (dss_one (ds_putT 2 (hu_of hr) (pv 2) (de_tup (n := 2) (da_cons (de_v 5) (da_cons (de_v 6) da_nil))) de_bl))))))
  (dss_one (ds_ret de_bl))))
theorem bd_ties_fit : Bnd "ties_fit" s_ties_fit ["places", "ties"] := fun _ _ _ _ _ _ us hl => match us, hl with | [_, _], _ => rfl
theorem df_ties_fit (T : Tx K mg cs TT) (TB : ∀ p ∈ cs, LamX.TabB base mg p.1 p.2) : Df P w K mg base TT CX0 1 "ties_fit" [.fz, .rd] .fz w_ties_fit := df0 T.f_ties_fit sc_ties_fit rfl bd_ties_fit (dv_ties_fit T TB)
abbrev N_made : List Str := ["places", "ties", "tie"]
theorem sc_made : FnScope N_made ["places", "ties"] (defScope s_made) := ⟨rfl, rfl, rfl, by decide +kernel, rfl, by decide +kernel, by decide +kernel⟩
theorem dv_made (T : Tx K mg cs TT) (TB : ∀ p ∈ cs, LamX.TabB base mg p.1 p.2) (f : Addr) (cdv : Value) (A : Around) (outer : List Env) (s : Shared) (H : Hp) (E : XK) (hr : Room 1 (A.deeper (envOfC "made" (defScope s_made) s.heap.objs.size f cdv))) : DSs (cxOf (L2.CX P w) P w K mg base N_made "made" (defScope s_made) f cdv A outer s H E) ⟨fun cls d _ H => E cls d H, TT⟩ .fz (defBody s_made) rd_made := by
  have nd := (sc_made).nd
  have tk : Takes (cxOf (L2.CX P w) P w K mg base N_made "made" (defScope s_made) f cdv A outer s H E) (fun cls d _ H => E cls d H) := takes_of rfl rfl rfl rfl
  exact (dss_cons (ds_if (DEw.dt (dw_or (dt_cmp (op_ltO hr.units0) r2_ord (de_v 0) de_int (nomark _)) (dw_or1 (dt_cmp (op_gtO hr.units0) r2_ord (de_v 0) (de_cint T.c_MOST_PLACES_webs) (nomark _)))))
  (dss_one (ds_raise (x := "BadWeb") tk rfl T.e_BadWeb))
  dss_nil)
  (dss_cons (ds_if (dt_not (dt_val (de_call (df_ties_fit T TB) pass0 (hr.mono (by decide)) (da_cons (de_v 0) (da_cons (DE.rd (de_vs 1)) da_nil)))))
  (dss_one (ds_raise (x := "BadWeb") tk rfl T.e_BadWeb))
  dss_nil)
  (dss_one (ds_ret (de_tup (n := 2) (da_cons (de_v 0) (da_cons (de_ty call_tuple_of ra_tuple rfl T.b_tuple bt_tuple (da_cons (DE.fz (de_bi (cr_sortD hr.units) ra_sort rfl T.b_sorted bt_sorted (da_cons (de_lc (own := [("tie", 2)]) rfl nd (di_seq (de_vs 1)) (blkOk_by (N := N_made) (sc := defScope s_made) (by decide +kernel)) (by decide) (fun _ _ _ _ _ => (dg_name 2 nd)) (fun _ _ _ _ _ => dts_nil) (fun _ _ _ _ _ => (de_tup (n := 2) (da_cons (de_bi (cr_minA rfl) ra_seqI rfl T.b_min bt_min (da_cons (de_v 2) da_nil)) (da_cons (de_bi (cr_maxA rfl) ra_seqI rfl T.b_max bt_max (da_cons (de_v 2) da_nil)) da_nil))))) da_nil))) da_nil)) da_nil)))))))
theorem bd_made : Bnd "made" s_made ["places", "ties"] := fun _ _ _ _ _ _ us hl => match us, hl with | [_, _], _ => rfl
theorem df_made (T : Tx K mg cs TT) (TB : ∀ p ∈ cs, LamX.TabB base mg p.1 p.2) : Df P w K mg base TT (L2.CX P w) 2 "made" [.fz, .rd] .fz w_made := dfX T.f_made sc_made rfl bd_made (dv_made T TB)
abbrev N_grown : List Str := ["steps", "places", "ties", "k", "place", "to_all", "step", "other"]
theorem sc_grown : FnScope N_grown ["steps"] (defScope s_grown) := ⟨rfl, rfl, rfl, by decide +kernel, rfl, by decide +kernel, by decide +kernel⟩
theorem dv_grown (T : Tx K mg cs TT) (TB : ∀ p ∈ cs, LamX.TabB base mg p.1 p.2) (f : Addr) (cdv : Value) (A : Around) (outer : List Env) (s : Shared) (H : Hp) (E : XK) (hr : Room 2 (A.deeper (envOfC "grown" (defScope s_grown) s.heap.objs.size f cdv))) : DSs (cxOf (L2.CX P w) P w K mg base N_grown "grown" (defScope s_grown) f cdv A outer s H E) ⟨fun cls d _ H => E cls d H, TT⟩ .fz (defBody s_grown) rd_grown := by
  have nd := (sc_grown).nd
  have tk : Takes (cxOf (L2.CX P w) P w K mg base N_grown "grown" (defScope s_grown) f cdv A outer s H E) (fun cls d _ H => E cls d H) := takes_of rfl rfl rfl rfl
  exact (dss_cons (ds_setLc 1 (own := [("step", 6)]) rfl nd (di_seq (DE.st (de_v 0))) (blkOk_by (N := N_grown) (sc := defScope s_grown) (by decide +kernel)) (by decide) (fun _ _ _ _ _ => (dg_name 6 nd)) (fun _ _ _ _ _ => dts_nil) (fun _ _ _ _ _ => (de_ix ix_two r2_ix (de_v 6) de_int (fun _ _ => rfl))))
  (dss_frz 1 (dss_cons (ds_if (DEw.dt (dw_or (dt_cmp (op_eqD hr.units) r2_eq (de_bi call_len ra_len rfl T.b_len bt_len (da_cons (de_v 0) da_nil)) de_int (nomark _)) (dw_or (dt_cmp (op_gtO hr.units0) r2_ord (de_bi call_len ra_len rfl T.b_len bt_len (da_cons (de_v 0) da_nil)) (de_cint T.c_MOST_PLACES_seen) (nomark _)) (dw_or1 (dt_cmp (op_neD hr.units) r2_ne (de_bi (cr_sortD hr.units) ra_sort rfl T.b_sorted bt_sorted (da_cons (de_v 1) da_nil)) (de_listRg1 (de_bi call_len ra_len rfl T.b_len bt_len (da_cons (de_v 0) da_nil)) T.b_list T.b_range) (nomark _))))))
  (dss_one (ds_raise (x := "BadWeb") tk rfl T.e_BadWeb))
  dss_nil)
  (dss_cons (ds_if (dt_val (de_ix ix_two r2_ix (de_ix ix_two r2_ix (de_v 0) de_int (fun _ _ => rfl)) de_int (fun _ _ => rfl)))
  (dss_one (ds_raise (x := "BadWeb") tk rfl T.e_BadWeb))
  dss_nil)
  (dss_cons (ds_setN 2 nd (de_lst (n := 0) da_nil))
  (dss_cons (ds_for [3, 4, 5] (passes_of rfl) rfl (di_enumA T.b_enumerate (da_cons (DE.st (de_v 0)) da_nil)) (dg_tup rfl (dgs_cons (dg_name 3 nd) (dgs_cons (dg_tup rfl (dgs_cons (dg_name 4 nd) (dgs_cons (dg_name 5 nd) dgs_nil))) dgs_nil)))
  (dss_one (ds_if (dt_val (de_v 5))
  (dss_one (ds_ext 2 (pv 2) (DE.fz (de_lc (own := [("other", 7)]) rfl nd (di_seq (DE.st (de_slice (de_v 1) do_none (do_some (de_v 3))))) (blkOk_by (N := N_grown) (sc := defScope s_grown) (by decide +kernel)) (by decide) (fun _ _ _ _ _ => (dg_name 7 nd)) (fun _ _ _ _ _ => dts_nil) (fun _ _ _ _ _ => (de_tup (n := 2) (da_cons (de_v 4) (da_cons (de_v 7) da_nil))))))))
  dss_nil)))
  (dss_frz 2 (dss_one (ds_ret (de_callX tk (df_made T TB) (hr.mono (by decide)) (da_cons (de_bi call_len ra_len rfl T.b_len bt_len (da_cons (de_v 0) da_nil)) (da_cons (DE.rd (de_v 2)) da_nil))))))))))))
theorem bd_grown : Bnd "grown" s_grown ["steps"] := fun _ _ _ _ _ _ us hl => match us, hl with | [_], _ => rfl
theorem df_grown (T : Tx K mg cs TT) (TB : ∀ p ∈ cs, LamX.TabB base mg p.1 p.2) : Df P w K mg base TT (L2.CX P w) 3 "grown" [.fz] .fz w_grown := dfX T.f_grown sc_grown rfl bd_grown (dv_grown T TB)
abbrev N_law : List Str := ["script", "cell", "places", "ties", "tally", "found", "pairs", "one", "sure", "other", "pair"]
theorem sc_law : FnScope N_law ["script"] (defScope s_law) := ⟨rfl, rfl, rfl, by decide +kernel, rfl, by decide +kernel, by decide +kernel⟩
theorem dv_law (T : Tx K mg cs TT) (TB : ∀ p ∈ cs, LamX.TabB base mg p.1 p.2) (f : Addr) (cdv : Value) (A : Around) (outer : List Env) (s : Shared) (H : Hp) (E : XK) (hr : Room 7 (A.deeper (envOfC "law" (defScope s_law) s.heap.objs.size f cdv))) : DSs (cxOf CX0 P w K mg base N_law "law" (defScope s_law) f cdv A outer s H E).nox (W0 TT) .fz (defBody s_law) rd_law := by
  have nd := (sc_law).nd
  exact (dss_cons (ds_for [1, 2, 3, 4, 5, 6, 7, 8] PassesOwn.never rfl (di_seq (DE.st (de_op op_addD r2_add (DE.fz (de_lst (n := 1) (da_cons de_int da_nil))) (de_slice (de_vs 0) do_none (do_some de_int))))) (dg_name 1 nd)
  (dss_cons (ds_asg (de_call (df__law_web T TB) pass0 (hr.mono (by decide)) (da_cons (de_op op_mod r2_intC (de_v 1) (de_op op_pow r2_intC de_int de_int)) da_nil)) (dg_tup rfl (dgs_cons (dg_name 2 nd) (dgs_cons (dg_name 3 nd) dgs_nil))))
  (dss_cons (ds_set 4 nd (DE.fz (de_call (df__law_sums T TB) pass0 (hr.mono (by decide)) (da_cons (de_v 2) (da_cons (de_v 3) da_nil)))))
  (dss_cons (ds_set 5 nd (de_call (df_growth T TB) passL (hr.mono (by decide)) (da_cons (DE.fz (de_ty call_list_of ra_list rfl T.b_list bt_list (da_cons (de_v 4) da_nil))) da_nil)))
  (dss_cons (ds_if (dt_cmp (op_neD hr.units) r2_ne (de_cmp op_isD r2_is (de_v 5) de_non (nomark _)) (de_call (df__law_can T TB) pass0 (hr.mono (by decide)) (da_cons (de_v 2) (da_cons (de_v 3) da_nil))) (nomark _))
  (dss_one (ds_ret de_bl))
  dss_nil)
  (dss_cons (ds_setN 6 nd (de_lst (n := 0) da_nil))
  (dss_cons (ds_for [7] PassesOwn.never rfl (di_range1 T.b_range (da_cons (de_v 2) da_nil)) (dg_name 7 nd)
  (dss_one (ds_ext 6 (pv 6) (DE.fz (de_lc (own := [("other", 9)]) rfl nd (di_range2 T.b_range (da_cons (de_op op_addD r2_add (de_v 7) de_int) (da_cons (de_v 2) da_nil))) (blkOk_by (N := N_law) (sc := defScope s_law) (by decide +kernel)) (by decide) (fun _ _ _ _ _ => (dg_name 9 nd)) (fun _ _ _ _ _ => dts_nil) (fun _ _ _ _ _ => (de_tup (n := 2) (da_cons (de_v 7) (da_cons (de_v 9) da_nil)))))))))
  (dss_frz 6 (dss_cons (ds_set 8 nd (DE.fz (de_lst (n := 2) (da_cons (DE.fz (de_call (df_always T TB) passL (hr.mono (by decide)) (da_cons (DE.fz (de_ty call_list_of ra_list rfl T.b_list bt_list (da_cons (de_v 4) da_nil))) da_nil))) (da_cons (DE.fz (de_call (df_never T TB) passL (hr.mono (by decide)) (da_cons (DE.fz (de_ty call_list_of ra_list rfl T.b_list bt_list (da_cons (de_v 4) da_nil))) da_nil))) da_nil)))))
  (dss_one (ds_if (dt_cmp op_isD r2_is (de_v 5) de_non (nomark _))
  (dss_one (ds_if (dt_cmp (op_eqD hr.units) r2_eq (de_lc (own := [("pair", 10)]) rfl nd (di_seq (DE.st (de_v 6))) (blkOk_by (N := N_law) (sc := defScope s_law) (by decide +kernel)) (by decide) (fun _ _ _ _ _ => (dg_name 10 nd)) (fun _ _ _ _ _ => (dts_one (dt_cmp (op_notInS hr.units) r2_in (de_v 10) (de_op op_addD r2_add (de_ix ix_two r2_ix (de_v 8) de_int (fun _ _ => rfl)) (de_ix ix_two r2_ix (de_v 8) de_int (fun _ _ => rfl))) rfl))) (fun _ _ _ _ _ => (de_v 10))) (de_lst (n := 0) da_nil) (nomark _))
  (dss_one (ds_ret de_bl))
  dss_nil))
  (dss_one (ds_if (dt_cmp (op_neD hr.units) r2_ne (de_call (df_grown T TB) passL (hr.mono (by decide)) (da_cons (de_v 5) da_nil)) (de_tup (n := 2) (da_cons (de_v 2) (da_cons (de_ty call_tuple_of ra_tuple rfl T.b_tuple bt_tuple (da_cons (de_v 3) da_nil)) da_nil))) (nomark _))
  (dss_one (ds_ret de_bl))
  (dss_one (ds_if (dt_cmp (op_neD hr.units) r2_ne (de_v 8) (de_lst (n := 2) (da_cons (de_v 3) (da_cons (DE.fz (de_lc (own := [("pair", 10)]) rfl nd (di_seq (DE.st (de_v 6))) (blkOk_by (N := N_law) (sc := defScope s_law) (by decide +kernel)) (by decide) (fun _ _ _ _ _ => (dg_name 10 nd)) (fun _ _ _ _ _ => (dts_one (dt_cmp (op_notInS hr.units) r2_in (de_v 10) (de_v 3) rfl))) (fun _ _ _ _ _ => (de_v 10)))) da_nil))) (nomark _))
  (dss_one (ds_ret de_bl))
  dss_nil)))))))))))))))
  (dss_one (ds_ret de_bl)))
theorem bd_law : Bnd "law" s_law ["script"] := fun _ _ _ _ _ _ us hl => match us, hl with | [_], _ => rfl
theorem df_law (T : Tx K mg cs TT) (TB : ∀ p ∈ cs, LamX.TabB base mg p.1 p.2) : Df P w K mg base TT CX0 8 "law" [.rd] .fz w_law := df0 T.f_law sc_law rfl bd_law (dv_law T TB)
end
section
variable {P : Program} {w : World} {K : PySem.W.Frag} {mg : Str → Option Value}
theorem all_mk {l : PySem.W.OpenLaw} {h : Heap} {fa : Addr} {t_MOST_PLACES_seen : Tok} {t_MOST_PLACES_webs : Tok} {C_BadTally : Addr} {C_BadWeb : Addr} {C_NoPlace : Addr} {C_NoWeb : Addr} {f0 : Addr} {oc0 kV0 dc0 pm0 cd0 ct0 : Value} {od0 an0 : Option Addr} {sl0 : Array (Option Value)} {f1 : Addr} {oc1 kV1 dc1 pm1 cd1 ct1 : Value} {od1 an1 : Option Addr} {sl1 : Array (Option Value)} {f2 : Addr} {oc2 kV2 dc2 pm2 cd2 ct2 : Value} {od2 an2 : Option Addr} {sl2 : Array (Option Value)} {f3 : Addr} {oc3 kV3 dc3 pm3 cd3 ct3 : Value} {od3 an3 : Option Addr} {sl3 : Array (Option Value)} {f4 : Addr} {oc4 kV4 dc4 pm4 cd4 ct4 : Value} {od4 an4 : Option Addr} {sl4 : Array (Option Value)} {f5 : Addr} {oc5 kV5 dc5 pm5 ct5 : Value} {od5 an5 : Option Addr} {sl5 : Array (Option Value)} {cd5 Pt5 : Addr} {occ5 : Value} {odc5 : Option Addr} {vs5 : Array Value} {slc5 : Array (Option Value)} {f6 : Addr} {oc6 kV6 dc6 pm6 cd6 ct6 : Value} {od6 an6 : Option Addr} {sl6 : Array (Option Value)} {f7 : Addr} {oc7 kV7 dc7 pm7 cd7 ct7 : Value} {od7 an7 : Option Addr} {sl7 : Array (Option Value)} {f8 : Addr} {oc8 kV8 dc8 pm8 cd8 ct8 : Value} {od8 an8 : Option Addr} {sl8 : Array (Option Value)} {f9 : Addr} {oc9 kV9 dc9 pm9 cd9 ct9 : Value} {od9 an9 : Option Addr} {sl9 : Array (Option Value)} {f10 : Addr} {oc10 kV10 dc10 pm10 cd10 ct10 : Value} {od10 an10 : Option Addr} {sl10 : Array (Option Value)} {f11 : Addr} {oc11 kV11 dc11 pm11 cd11 ct11 : Value} {od11 an11 : Option Addr} {sl11 : Array (Option Value)} {f12 : Addr} {oc12 kV12 dc12 pm12 cd12 ct12 : Value} {od12 an12 : Option Addr} {sl12 : Array (Option Value)} {f13 : Addr} {oc13 kV13 dc13 pm13 cd13 ct13 : Value} {od13 an13 : Option Addr} {sl13 : Array (Option Value)} {f14 : Addr} {oc14 kV14 dc14 pm14 cd14 ct14 : Value} {od14 an14 : Option Addr} {sl14 : Array (Option Value)} {f15 : Addr} {oc15 kV15 dc15 pm15 cd15 ct15 : Value} {od15 an15 : Option Addr} {sl15 : Array (Option Value)} {f16 : Addr} {oc16 kV16 dc16 pm16 cd16 ct16 : Value} {od16 an16 : Option Addr} {sl16 : Array (Option Value)} {f17 : Addr} {oc17 kV17 dc17 pm17 cd17 ct17 : Value} {od17 an17 : Option Addr} {sl17 : Array (Option Value)} {f18 : Addr} {oc18 kV18 dc18 pm18 cd18 ct18 : Value} {od18 an18 : Option Addr} {sl18 : Array (Option Value)} {f19 : Addr} {oc19 kV19 dc19 pm19 cd19 ct19 : Value} {od19 an19 : Option Addr} {sl19 : Array (Option Value)} {f20 : Addr} {oc20 kV20 dc20 pm20 cd20 ct20 : Value} {od20 an20 : Option Addr} {sl20 : Array (Option Value)} {f21 : Addr} {oc21 kV21 dc21 pm21 cd21 ct21 : Value} {od21 an21 : Option Addr} {sl21 : Array (Option Value)} {f22 : Addr} {oc22 kV22 dc22 pm22 cd22 ct22 : Value} {od22 an22 : Option Addr} {sl22 : Array (Option Value)} (X : K.In h) (G : h.Ns mainGlobals mg) (hfa : mg "law" = some (.ref fa))
    (b_enumerate : PySem.W.nsIn K mainGlobals "enumerate" = some none)
    (b_int : PySem.W.nsIn K mainGlobals "int" = some none)
    (b_len : PySem.W.nsIn K mainGlobals "len" = some none)
    (b_list : PySem.W.nsIn K mainGlobals "list" = some none)
    (b_max : PySem.W.nsIn K mainGlobals "max" = some none)
    (b_min : PySem.W.nsIn K mainGlobals "min" = some none)
    (b_range : PySem.W.nsIn K mainGlobals "range" = some none)
    (b_reversed : PySem.W.nsIn K mainGlobals "reversed" = some none)
    (b_sorted : PySem.W.nsIn K mainGlobals "sorted" = some none)
    (b_sum : PySem.W.nsIn K mainGlobals "sum" = some none)
    (b_tuple : PySem.W.nsIn K mainGlobals "tuple" = some none)
    (c_MOST_PLACES_seen : PySem.W.nsIn K mainGlobals "MOST_PLACES_seen" = some (some (.int 24 t_MOST_PLACES_seen)))
    (c_MOST_PLACES_webs : PySem.W.nsIn K mainGlobals "MOST_PLACES_webs" = some (some (.int 24 t_MOST_PLACES_webs)))
    (e_BadTally : PySem.W.nsIn K mainGlobals "BadTally" = some (some (.ref C_BadTally)))
    (e_BadWeb : PySem.W.nsIn K mainGlobals "BadWeb" = some (some (.ref C_BadWeb)))
    (e_NoPlace : PySem.W.nsIn K mainGlobals "NoPlace" = some (some (.ref C_NoPlace)))
    (e_NoWeb : PySem.W.nsIn K mainGlobals "NoWeb" = some (some (.ref C_NoWeb)))
    (x_BadTally : PySem.W.excIn K C_BadTally [.type "ValueError", .type "Exception", .type "BaseException", .type "object"] "ValueError.__new__" = true)
    (k_BadTally : PySem.W.keepIn K (.ref C_BadTally) = true)
    (s_BadTally : PySem.W.subIn K (.ref C_BadTally) (.type "BaseException") = some true)
    (y_BadTally : PySem.W.typeIn K (.ref C_BadTally) = some (.type "type"))
    (x_BadWeb : PySem.W.excIn K C_BadWeb [.type "ValueError", .type "Exception", .type "BaseException", .type "object"] "ValueError.__new__" = true)
    (k_BadWeb : PySem.W.keepIn K (.ref C_BadWeb) = true)
    (s_BadWeb : PySem.W.subIn K (.ref C_BadWeb) (.type "BaseException") = some true)
    (y_BadWeb : PySem.W.typeIn K (.ref C_BadWeb) = some (.type "type"))
    (x_NoPlace : PySem.W.excIn K C_NoPlace [.type "ValueError", .type "Exception", .type "BaseException", .type "object"] "ValueError.__new__" = true)
    (k_NoPlace : PySem.W.keepIn K (.ref C_NoPlace) = true)
    (s_NoPlace : PySem.W.subIn K (.ref C_NoPlace) (.type "BaseException") = some true)
    (y_NoPlace : PySem.W.typeIn K (.ref C_NoPlace) = some (.type "type"))
    (x_NoWeb : PySem.W.excIn K C_NoWeb [.type "ValueError", .type "Exception", .type "BaseException", .type "object"] "ValueError.__new__" = true)
    (k_NoWeb : PySem.W.keepIn K (.ref C_NoWeb) = true)
    (s_NoWeb : PySem.W.subIn K (.ref C_NoWeb) (.type "BaseException") = some true)
    (y_NoWeb : PySem.W.typeIn K (.ref C_NoWeb) = some (.type "type"))
    (a0 : PySem.W.nsIn K mainGlobals "_law_row" = some (some (.ref f0))) (l0 : K.lookup f0 = some ⟨oc0, od0, .func (PySem.W.fnOf "_law_row" "_law_row" (defArgs s__law_row) (defBody s__law_row) (defScope s__law_row) .none kV0 dc0 pm0 an0 cd0 ct0), sl0⟩) (d0 : PySem.W.codeIn K cd0 "_law_row" = true) (k0 : PySem.W.keepIn K (.ref f0) = true)
    (a1 : PySem.W.nsIn K mainGlobals "_law_ties" = some (some (.ref f1))) (l1 : K.lookup f1 = some ⟨oc1, od1, .func (PySem.W.fnOf "_law_ties" "_law_ties" (defArgs s__law_ties) (defBody s__law_ties) (defScope s__law_ties) .none kV1 dc1 pm1 an1 cd1 ct1), sl1⟩) (d1 : PySem.W.codeIn K cd1 "_law_ties" = true) (k1 : PySem.W.keepIn K (.ref f1) = true)
    (a2 : PySem.W.nsIn K mainGlobals "_law_web" = some (some (.ref f2))) (l2 : K.lookup f2 = some ⟨oc2, od2, .func (PySem.W.fnOf "_law_web" "_law_web" (defArgs s__law_web) (defBody s__law_web) (defScope s__law_web) .none kV2 dc2 pm2 an2 cd2 ct2), sl2⟩) (d2 : PySem.W.codeIn K cd2 "_law_web" = true) (k2 : PySem.W.keepIn K (.ref f2) = true)
    (a3 : PySem.W.nsIn K mainGlobals "_law_sums" = some (some (.ref f3))) (l3 : K.lookup f3 = some ⟨oc3, od3, .func (PySem.W.fnOf "_law_sums" "_law_sums" (defArgs s__law_sums) (defBody s__law_sums) (defScope s__law_sums) .none kV3 dc3 pm3 an3 cd3 ct3), sl3⟩) (d3 : PySem.W.codeIn K cd3 "_law_sums" = true) (k3 : PySem.W.keepIn K (.ref f3) = true)
    (a4 : PySem.W.nsIn K mainGlobals "look_at_tally" = some (some (.ref f4))) (l4 : K.lookup f4 = some ⟨oc4, od4, .func (PySem.W.fnOf "look_at_tally" "look_at_tally" (defArgs s_look_at_tally) (defBody s_look_at_tally) (defScope s_look_at_tally) .none kV4 dc4 pm4 an4 cd4 ct4), sl4⟩) (d4 : PySem.W.codeIn K cd4 "look_at_tally" = true) (k4 : PySem.W.keepIn K (.ref f4) = true)
    (a5 : PySem.W.nsIn K mainGlobals "order_of" = some (some (.ref f5))) (l5 : K.lookup f5 = some ⟨oc5, od5, .func (PySem.W.fnOf "order_of" "order_of" (defArgs s_order_of) (defBody s_order_of) (defScope s_order_of) .none kV5 dc5 pm5 an5 (.ref cd5) ct5), sl5⟩) (d5 : PySem.W.codeIn K (.ref cd5) "order_of" = true) (k5 : PySem.W.keepIn K (.ref f5) = true)
    (lc5 : K.lookup cd5 = some ⟨occ5, odc5, .fields vs5, slc5⟩) (vp5 : vs5[11]? = some (.ref Pt5)) (hd5 : PySem.W.codeHdIn K cd5 Pt5 = true) (np5 : K.lookup Pt5 = none) (tp5 : h.get? Pt5 = some { cls := .none, data := .fields #[] })
    (a6 : PySem.W.nsIn K mainGlobals "room_at" = some (some (.ref f6))) (l6 : K.lookup f6 = some ⟨oc6, od6, .func (PySem.W.fnOf "room_at" "room_at" (defArgs s_room_at) (defBody s_room_at) (defScope s_room_at) .none kV6 dc6 pm6 an6 cd6 ct6), sl6⟩) (d6 : PySem.W.codeIn K cd6 "room_at" = true) (k6 : PySem.W.keepIn K (.ref f6) = true)
    (a7 : PySem.W.nsIn K mainGlobals "wall_of" = some (some (.ref f7))) (l7 : K.lookup f7 = some ⟨oc7, od7, .func (PySem.W.fnOf "wall_of" "wall_of" (defArgs s_wall_of) (defBody s_wall_of) (defScope s_wall_of) .none kV7 dc7 pm7 an7 cd7 ct7), sl7⟩) (d7 : PySem.W.codeIn K cd7 "wall_of" = true) (k7 : PySem.W.keepIn K (.ref f7) = true)
    (a8 : PySem.W.nsIn K mainGlobals "look_for_web" = some (some (.ref f8))) (l8 : K.lookup f8 = some ⟨oc8, od8, .func (PySem.W.fnOf "look_for_web" "look_for_web" (defArgs s_look_for_web) (defBody s_look_for_web) (defScope s_look_for_web) .none kV8 dc8 pm8 an8 cd8 ct8), sl8⟩) (d8 : PySem.W.codeIn K cd8 "look_for_web" = true) (k8 : PySem.W.keepIn K (.ref f8) = true)
    (a9 : PySem.W.nsIn K mainGlobals "last_put" = some (some (.ref f9))) (l9 : K.lookup f9 = some ⟨oc9, od9, .func (PySem.W.fnOf "last_put" "last_put" (defArgs s_last_put) (defBody s_last_put) (defScope s_last_put) .none kV9 dc9 pm9 an9 cd9 ct9), sl9⟩) (d9 : PySem.W.codeIn K cd9 "last_put" = true) (k9 : PySem.W.keepIn K (.ref f9) = true)
    (a10 : PySem.W.nsIn K mainGlobals "growth" = some (some (.ref f10))) (l10 : K.lookup f10 = some ⟨oc10, od10, .func (PySem.W.fnOf "growth" "growth" (defArgs s_growth) (defBody s_growth) (defScope s_growth) .none kV10 dc10 pm10 an10 cd10 ct10), sl10⟩) (d10 : PySem.W.codeIn K cd10 "growth" = true) (k10 : PySem.W.keepIn K (.ref f10) = true)
    (a11 : PySem.W.nsIn K mainGlobals "_law_can" = some (some (.ref f11))) (l11 : K.lookup f11 = some ⟨oc11, od11, .func (PySem.W.fnOf "_law_can" "_law_can" (defArgs s__law_can) (defBody s__law_can) (defScope s__law_can) .none kV11 dc11 pm11 an11 cd11 ct11), sl11⟩) (d11 : PySem.W.codeIn K cd11 "_law_can" = true) (k11 : PySem.W.keepIn K (.ref f11) = true)
    (a12 : PySem.W.nsIn K mainGlobals "look_at_webs" = some (some (.ref f12))) (l12 : K.lookup f12 = some ⟨oc12, od12, .func (PySem.W.fnOf "look_at_webs" "look_at_webs" (defArgs s_look_at_webs) (defBody s_look_at_webs) (defScope s_look_at_webs) .none kV12 dc12 pm12 an12 cd12 ct12), sl12⟩) (d12 : PySem.W.codeIn K cd12 "look_at_webs" = true) (k12 : PySem.W.keepIn K (.ref f12) = true)
    (a13 : PySem.W.nsIn K mainGlobals "look_at_place" = some (some (.ref f13))) (l13 : K.lookup f13 = some ⟨oc13, od13, .func (PySem.W.fnOf "look_at_place" "look_at_place" (defArgs s_look_at_place) (defBody s_look_at_place) (defScope s_look_at_place) .none kV13 dc13 pm13 an13 cd13 ct13), sl13⟩) (d13 : PySem.W.codeIn K cd13 "look_at_place" = true) (k13 : PySem.W.keepIn K (.ref f13) = true)
    (a14 : PySem.W.nsIn K mainGlobals "moved" = some (some (.ref f14))) (l14 : K.lookup f14 = some ⟨oc14, od14, .func (PySem.W.fnOf "moved" "moved" (defArgs s_moved) (defBody s_moved) (defScope s_moved) .none kV14 dc14 pm14 an14 cd14 ct14), sl14⟩) (d14 : PySem.W.codeIn K cd14 "moved" = true) (k14 : PySem.W.keepIn K (.ref f14) = true)
    (a15 : PySem.W.nsIn K mainGlobals "both_moved" = some (some (.ref f15))) (l15 : K.lookup f15 = some ⟨oc15, od15, .func (PySem.W.fnOf "both_moved" "both_moved" (defArgs s_both_moved) (defBody s_both_moved) (defScope s_both_moved) .none kV15 dc15 pm15 an15 cd15 ct15), sl15⟩) (d15 : PySem.W.codeIn K cd15 "both_moved" = true) (k15 : PySem.W.keepIn K (.ref f15) = true)
    (a16 : PySem.W.nsIn K mainGlobals "pairs_with_wall" = some (some (.ref f16))) (l16 : K.lookup f16 = some ⟨oc16, od16, .func (PySem.W.fnOf "pairs_with_wall" "pairs_with_wall" (defArgs s_pairs_with_wall) (defBody s_pairs_with_wall) (defScope s_pairs_with_wall) .none kV16 dc16 pm16 an16 cd16 ct16), sl16⟩) (d16 : PySem.W.codeIn K cd16 "pairs_with_wall" = true) (k16 : PySem.W.keepIn K (.ref f16) = true)
    (a17 : PySem.W.nsIn K mainGlobals "always" = some (some (.ref f17))) (l17 : K.lookup f17 = some ⟨oc17, od17, .func (PySem.W.fnOf "always" "always" (defArgs s_always) (defBody s_always) (defScope s_always) .none kV17 dc17 pm17 an17 cd17 ct17), sl17⟩) (d17 : PySem.W.codeIn K cd17 "always" = true) (k17 : PySem.W.keepIn K (.ref f17) = true)
    (a18 : PySem.W.nsIn K mainGlobals "never" = some (some (.ref f18))) (l18 : K.lookup f18 = some ⟨oc18, od18, .func (PySem.W.fnOf "never" "never" (defArgs s_never) (defBody s_never) (defScope s_never) .none kV18 dc18 pm18 an18 cd18 ct18), sl18⟩) (d18 : PySem.W.codeIn K cd18 "never" = true) (k18 : PySem.W.keepIn K (.ref f18) = true)
    (a19 : PySem.W.nsIn K mainGlobals "ties_fit" = some (some (.ref f19))) (l19 : K.lookup f19 = some ⟨oc19, od19, .func (PySem.W.fnOf "ties_fit" "ties_fit" (defArgs s_ties_fit) (defBody s_ties_fit) (defScope s_ties_fit) .none kV19 dc19 pm19 an19 cd19 ct19), sl19⟩) (d19 : PySem.W.codeIn K cd19 "ties_fit" = true) (k19 : PySem.W.keepIn K (.ref f19) = true)
    (a20 : PySem.W.nsIn K mainGlobals "made" = some (some (.ref f20))) (l20 : K.lookup f20 = some ⟨oc20, od20, .func (PySem.W.fnOf "made" "made" (defArgs s_made) (defBody s_made) (defScope s_made) .none kV20 dc20 pm20 an20 cd20 ct20), sl20⟩) (d20 : PySem.W.codeIn K cd20 "made" = true) (k20 : PySem.W.keepIn K (.ref f20) = true)
    (a21 : PySem.W.nsIn K mainGlobals "grown" = some (some (.ref f21))) (l21 : K.lookup f21 = some ⟨oc21, od21, .func (PySem.W.fnOf "grown" "grown" (defArgs s_grown) (defBody s_grown) (defScope s_grown) .none kV21 dc21 pm21 an21 cd21 ct21), sl21⟩) (d21 : PySem.W.codeIn K cd21 "grown" = true) (k21 : PySem.W.keepIn K (.ref f21) = true)
    (a22 : PySem.W.nsIn K mainGlobals "law" = some (some (.ref f22))) (l22 : K.lookup f22 = some ⟨oc22, od22, .func (PySem.W.fnOf "law" "law" (defArgs s_law) (defBody s_law) (defScope s_law) .none kV22 dc22 pm22 an22 cd22 ct22), sl22⟩) (d22 : PySem.W.codeIn K cd22 "law" = true) (k22 : PySem.W.keepIn K (.ref f22) = true) :
    LamX.LawAtS l w K CX0 8 63 "script" mg fa h := by
  have T : Tx K mg [(cd5, Pt5)] [(Pt5, lamQ "order_of")] := { b_enumerate := PySem.W.mg_none_of X G b_enumerate, b_int := PySem.W.mg_none_of X G b_int, b_len := PySem.W.mg_none_of X G b_len, b_list := PySem.W.mg_none_of X G b_list, b_max := PySem.W.mg_none_of X G b_max, b_min := PySem.W.mg_none_of X G b_min, b_range := PySem.W.mg_none_of X G b_range, b_reversed := PySem.W.mg_none_of X G b_reversed, b_sorted := PySem.W.mg_none_of X G b_sorted, b_sum := PySem.W.mg_none_of X G b_sum, b_tuple := PySem.W.mg_none_of X G b_tuple, c_MOST_PLACES_seen := ⟨_, PySem.W.mg_of X G c_MOST_PLACES_seen⟩, c_MOST_PLACES_webs := ⟨_, PySem.W.mg_of X G c_MOST_PLACES_webs⟩, e_BadTally := ⟨_, PySem.W.mg_of X G e_BadTally, x_BadTally, k_BadTally, s_BadTally, y_BadTally⟩, e_BadWeb := ⟨_, PySem.W.mg_of X G e_BadWeb, x_BadWeb, k_BadWeb, s_BadWeb, y_BadWeb⟩, e_NoPlace := ⟨_, PySem.W.mg_of X G e_NoPlace, x_NoPlace, k_NoPlace, s_NoPlace, y_NoPlace⟩, e_NoWeb := ⟨_, PySem.W.mg_of X G e_NoWeb, x_NoWeb, k_NoWeb, s_NoWeb, y_NoWeb⟩, f__law_row := fnF_mk X G a0 l0 d0 k0, f__law_ties := fnF_mk X G a1 l1 d1 k1, f__law_web := fnF_mk X G a2 l2 d2 k2, f__law_sums := fnF_mk X G a3 l3 d3 k3, f_look_at_tally := fnF_mk X G a4 l4 d4 k4, f_order_of := fnC_mk (Pt := Pt5) X G a5 l5 d5 k5 (by simp) (by simp) (fun q hq e => by
    simp only [List.mem_cons, List.not_mem_nil, or_false] at hq
    rcases hq with rfl <;> first | exact absurd e (by assumption) | exact absurd e.symm (by assumption) | rfl), f_room_at := fnF_mk X G a6 l6 d6 k6, f_wall_of := fnF_mk X G a7 l7 d7 k7, f_look_for_web := fnF_mk X G a8 l8 d8 k8, f_last_put := fnF_mk X G a9 l9 d9 k9, f_growth := fnF_mk X G a10 l10 d10 k10, f__law_can := fnF_mk X G a11 l11 d11 k11, f_look_at_webs := fnF_mk X G a12 l12 d12 k12, f_look_at_place := fnF_mk X G a13 l13 d13 k13, f_moved := fnF_mk X G a14 l14 d14 k14, f_both_moved := fnF_mk X G a15 l15 d15 k15, f_pairs_with_wall := fnF_mk X G a16 l16 d16 k16, f_always := fnF_mk X G a17 l17 d17 k17, f_never := fnF_mk X G a18 l18 d18 k18, f_ties_fit := fnF_mk X G a19 l19 d19 k19, f_made := fnF_mk X G a20 l20 d20 k20, f_grown := fnF_mk X G a21 l21 d21 k21, f_law := fnF_mk X G a22 l22 d22 k22 }
  refine law_atS (cs := [(cd5, Pt5)]) (T := [(Pt5, lamQ "order_of")]) (List.forall_mem_cons.mpr ⟨tp5, fun _ h => nomatch h⟩) (List.forall_mem_cons.mpr ⟨np5, fun _ h => nomatch h⟩) (List.forall_mem_cons.mpr ⟨PySem.W.codeHd_of_K X hd5, fun _ h => nomatch h⟩) ?_ ?_
  · intro q hq
    simp only [List.mem_cons, List.not_mem_nil, or_false] at hq
    rcases hq with rfl
    · exact ⟨(cd5, Pt5), by simp, rfl⟩
  · exact law_allT hfa T.f_law sc_law bd_law (fun base TB f cdv A outer s H E hr => dv_law (base := base) T TB f cdv A outer s H E hr) (fun ns hl hb => plain hl hb)
end
end DL
open PySem PySem.W PyProof.Rows
set_option maxHeartbeats 0 in
theorem PySem.Challenge.cw_tallyweb_k39_whole_lone_or_exchanged_holds : PySem.Challenge.rw_tallyweb_k39_whole_lone_or_exchanged.Holds := by
  w_on; o_law; k_head; (case hw => w_witness2)
  k_fill
  refine LamX.walk_ofTs (l := PySem.Challenge.rw_tallyweb_k39_whole_lone_or_exchanged) (n := 63) (k := 8) (x := "script") (CX := fun _ => L2.CX0) rfl (by decide) rfl ⟨rfl, by decide, by decide⟩ (fun w h Y => PySem.W.km_in_of Y) ?F (fun _ _ _ _ _ h => h)
  case F =>
    intro w mg fa h Y KX G hmg
    refine' DL.all_mk KX G hmg ?b_enumerate ?b_int ?b_len ?b_list ?b_max ?b_min ?b_range ?b_reversed ?b_sorted ?b_sum ?b_tuple ?c_MOST_PLACES_seen ?c_MOST_PLACES_webs ?e_BadTally ?e_BadWeb ?e_NoPlace ?e_NoWeb ?x_BadTally ?k_BadTally ?s_BadTally ?y_BadTally ?x_BadWeb ?k_BadWeb ?s_BadWeb ?y_BadWeb ?x_NoPlace ?k_NoPlace ?s_NoPlace ?y_NoPlace ?x_NoWeb ?k_NoWeb ?s_NoWeb ?y_NoWeb ?a0 ?l0 ?d0 ?k0 ?a1 ?l1 ?d1 ?k1 ?a2 ?l2 ?d2 ?k2 ?a3 ?l3 ?d3 ?k3 ?a4 ?l4 ?d4 ?k4 ?a5 ?l5 ?d5 ?k5 ?lc5 ?vp5 ?hd5 ?np5 ?tp5 ?a6 ?l6 ?d6 ?k6 ?a7 ?l7 ?d7 ?k7 ?a8 ?l8 ?d8 ?k8 ?a9 ?l9 ?d9 ?k9 ?a10 ?l10 ?d10 ?k10 ?a11 ?l11 ?d11 ?k11 ?a12 ?l12 ?d12 ?k12 ?a13 ?l13 ?d13 ?k13 ?a14 ?l14 ?d14 ?k14 ?a15 ?l15 ?d15 ?k15 ?a16 ?l16 ?d16 ?k16 ?a17 ?l17 ?d17 ?k17 ?a18 ?l18 ?d18 ?k18 ?a19 ?l19 ?d19 ?k19 ?a20 ?l20 ?d20 ?k20 ?a21 ?l21 ?d21 ?k21 ?a22 ?l22 ?d22 ?k22
    (case b_enumerate => k_is); (case b_int => k_is); (case b_len => k_is); (case b_list => k_is); (case b_max => k_is); (case b_min => k_is)
    (case b_range => k_is); (case b_reversed => k_is); (case b_sorted => k_is); (case b_sum => k_is); (case b_tuple => k_is); (case c_MOST_PLACES_seen => k_is)
    (case c_MOST_PLACES_webs => k_is); (case e_BadTally => k_is); (case e_BadWeb => k_is); (case e_NoPlace => k_is); (case e_NoWeb => k_is); (case x_BadTally => k_exc)
    (case k_BadTally => k_is); (case s_BadTally => k_is); (case y_BadTally => k_is); (case x_BadWeb => k_exc); (case k_BadWeb => k_is); (case s_BadWeb => k_is)
    (case y_BadWeb => k_is); (case x_NoPlace => k_exc); (case k_NoPlace => k_is); (case s_NoPlace => k_is); (case y_NoPlace => k_is); (case x_NoWeb => k_exc)
    (case k_NoWeb => k_is); (case s_NoWeb => k_is); (case y_NoWeb => k_is); (case a0 => k_is); (case l0 => k_is); (case d0 => k_is)
    (case k0 => k_is); (case a1 => k_is); (case l1 => k_is); (case d1 => k_is); (case k1 => k_is); (case a2 => k_is)
    (case l2 => k_is); (case d2 => k_is); (case k2 => k_is); (case a3 => k_is); (case l3 => k_is); (case d3 => k_is)
    (case k3 => k_is); (case a4 => k_is); (case l4 => k_is); (case d4 => k_is); (case k4 => k_is); (case a5 => k_is)
    (case l5 => k_is); (case d5 => k_is); (case k5 => k_is); (case lc5 => k_is); (case vp5 => exact rfl); (case hd5 => kernel_rfl)
    (case np5 => kernel_rfl); (case tp5 => exact PySem.W.km_tabs_of Y _ (by k_mem)); (case a6 => k_is); (case l6 => k_is); (case d6 => k_is); (case k6 => k_is)
    (case a7 => k_is); (case l7 => k_is); (case d7 => k_is); (case k7 => k_is); (case a8 => k_is); (case l8 => k_is)
    (case d8 => k_is); (case k8 => k_is); (case a9 => k_is); (case l9 => k_is); (case d9 => k_is); (case k9 => k_is)
    (case a10 => k_is); (case l10 => k_is); (case d10 => k_is); (case k10 => k_is); (case a11 => k_is); (case l11 => k_is)
    (case d11 => k_is); (case k11 => k_is); (case a12 => k_is); (case l12 => k_is); (case d12 => k_is); (case k12 => k_is)
    (case a13 => k_is); (case l13 => k_is); (case d13 => k_is); (case k13 => k_is); (case a14 => k_is); (case l14 => k_is)
    (case d14 => k_is); (case k14 => k_is); (case a15 => k_is); (case l15 => k_is); (case d15 => k_is); (case k15 => k_is)
    (case a16 => k_is); (case l16 => k_is); (case d16 => k_is); (case k16 => k_is); (case a17 => k_is); (case l17 => k_is)
    (case d17 => k_is); (case k17 => k_is); (case a18 => k_is); (case l18 => k_is); (case d18 => k_is); (case k18 => k_is)
    (case a19 => k_is); (case l19 => k_is); (case d19 => k_is); (case k19 => k_is); (case a20 => k_is); (case l20 => k_is)
    (case d20 => k_is); (case k20 => k_is); (case a21 => k_is); (case l21 => k_is); (case d21 => k_is); (case k21 => k_is)
    (case a22 => k_is); (case l22 => k_is); (case d22 => k_is); (case k22 => k_is)
#print axioms PySem.Challenge.cw_tallyweb_k39_whole_lone_or_exchanged_holds
