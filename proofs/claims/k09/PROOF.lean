import PyProof.Rows.All
import Wide.All
import OpenK.AllK
import Wide.FinOn
import HandS.ForMost
import HandS.Deep
import HandS.ForExc
import HandS.IsInst
import HandS.TupAny
import HandS.TupMul
import HandS.Style
import HandS.Flow
import HandS.Zip
import HandS.Walk
import HandS.TryMany
import HandS.ExcInit
import HandS.Lambda
import KE.DataIsa
import KE.DataCmp
import KE.SortData
import KE.KDictKeyed
import HandS.WordsExc
import HandS.ExcOwn
import HandS.ExcCtx
import KE.GoesEnum
import HandS.SetFor
import HandS.SetTxt0
import KE.KDictSum
import KE.KDictWalk
import HandS.More
import KE.KDictDisplayH
import HandS.DictComp
import HandS.TryOnly
import HandS.TupLen
import PyProof.EqLayable
import PySem.Challenge.RW_lastlight_k09_whole_where_nothing_bars
set_option Elab.async false
set_option linter.all false
set_option maxRecDepth 100000
set_option maxHeartbeats 2000000
/-! A layer over HandS: plain data (PyData) and a store of mutable objects by labels in place of values and heaps. Each expression, statement, def has a total Lean function over them (its mirror), and the rules say that the program does what the mirror does. -/
namespace QL
open PySem
mutual
def pbeq : PyData → PyData → Bool
  | .none, .none => true
  | .bool a, .bool b => a == b
  | .int a, .int b => decide (a = b)
  | .str a, .str b => decide (a = b)
  | .list a, .list b => pbeqs a b
  | .tuple a, .tuple b => pbeqs a b
  | .dict a, .dict b => pbeqd a b
  | _, _ => false
def pbeqs : List PyData → List PyData → Bool
  | [], [] => true
  | a :: as, b :: bs => pbeq a b && pbeqs as bs
  | _, _ => false
def pbeqd : List (PyData × PyData) → List (PyData × PyData) → Bool
  | [], [] => true
  | (a, c) :: as, (b, d) :: bs => pbeq a b && (pbeq c d && pbeqd as bs)
  | _, _ => false
end
mutual
theorem pbeq_self : ∀ a : PyData, pbeq a a = true
  | .none => rfl
  | .bool a => by simp [pbeq]
  | .int a => by simp [pbeq]
  | .str a => by simp [pbeq]
  | .list a => by rw [pbeq]; exact pbeqs_self a
  | .tuple a => by rw [pbeq]; exact pbeqs_self a
  | .dict a => by rw [pbeq]; exact pbeqd_self a
theorem pbeqs_self : ∀ a : List PyData, pbeqs a a = true
  | [] => rfl
  | a :: as => by rw [pbeqs, pbeq_self a, pbeqs_self as]; rfl
theorem pbeqd_self : ∀ a : List (PyData × PyData), pbeqd a a = true
  | [] => rfl
  | (a, b) :: as => by rw [pbeqd, pbeq_self a, pbeq_self b, pbeqd_self as]; rfl
end
mutual
theorem eq_of_pbeq : ∀ a b : PyData, pbeq a b = true → a = b
  | .none, b, h => by cases b <;> simp_all [pbeq]
  | .bool a, b, h => by cases b <;> simp_all [pbeq]
  | .int a, b, h => by cases b <;> simp_all [pbeq]
  | .str a, b, h => by cases b <;> simp_all [pbeq]
  | .list a, b, h => by
    cases b with
    | list b => rw [pbeq] at h; rw [eq_of_pbeqs a b h]
    | _ => simp [pbeq] at h
  | .tuple a, b, h => by
    cases b with
    | tuple b => rw [pbeq] at h; rw [eq_of_pbeqs a b h]
    | _ => simp [pbeq] at h
  | .dict a, b, h => by
    cases b with
    | dict b => rw [pbeq] at h; rw [eq_of_pbeqd a b h]
    | _ => simp [pbeq] at h
theorem eq_of_pbeqs : ∀ a b : List PyData, pbeqs a b = true → a = b
  | [], [], _ => rfl
  | a :: as, b :: bs, h => by
    rw [pbeqs, Bool.and_eq_true] at h
    rw [eq_of_pbeq a b h.1, eq_of_pbeqs as bs h.2]
  | [], _ :: _, h => by simp [pbeqs] at h
  | _ :: _, [], h => by simp [pbeqs] at h
theorem eq_of_pbeqd : ∀ a b : List (PyData × PyData), pbeqd a b = true → a = b
  | [], [], _ => rfl
  | (a, c) :: as, (b, d) :: bs, h => by
    rw [pbeqd, Bool.and_eq_true, Bool.and_eq_true] at h
    rw [eq_of_pbeq a b h.1, eq_of_pbeq c d h.2.1, eq_of_pbeqd as bs h.2.2]
  | [], _ :: _, h => by simp [pbeqd] at h
  | _ :: _, [], h => by simp [pbeqd] at h
end
instance : DecidableEq PyData := fun a b => if h : pbeq a b = true then .isTrue (eq_of_pbeq a b h) else .isFalse fun e => h (e ▸ pbeq_self a)
end QL
namespace QL
open PySem PySem.Spec PyProof.Rows L2

structure Tp where
  P : Program
  w : World
  K : PySem.W.Frag
  mg : Str → Option Value
abbrev tpOf (X : Cx) : Tp := ⟨X.prog, X.w, X.K, X.mg⟩

/-- what a name holds: data that never change, or a mutable object by its label -/
inductive Cell where
  | dat (d : PyData)
  | obj (l : Nat)
  /-- a dict that never changes from here on -/
  | fdc (kvs : List (PyData × PyData))
  /-- a dict of texts that never changes from here on -/
  | ftd (kvs : List (Str × PyData))
  deriving DecidableEq
/-- a mutable object -/
inductive MO where
  | lst (ds : List PyData)
  | dct (kvs : List (PyData × PyData))
  | tdc (kvs : List (Str × PyData))
  | ins (x : Str) (fs : List (Str × Cell))
  | dead
  deriving DecidableEq
abbrev Mem := List MO
abbrev Env' := List (Option Cell)

/-- F: what is told of the heap and never changes; R: what else must stay; α: where the labels stand -/
structure Wo where
  F : Hp
  R : Hp
  α : List Addr
def Ext (u u' : Wo) : Prop := Same u.F u'.F ∧ u'.R = u.R ∧ ∃ m, u'.α = u.α ++ m
theorem Ext.refl (u : Wo) : Ext u u := ⟨Same.refl _, rfl, [], (List.append_nil _).symm⟩
theorem Ext.trans {u v w : Wo} (a : Ext u v) (b : Ext v w) : Ext u w := by
  obtain ⟨a1, a2, m, a3⟩ := a
  obtain ⟨b1, b2, n, b3⟩ := b
  exact ⟨a1.trans b1, b2.trans a2, m ++ n, by rw [b3, a3, List.append_assoc]⟩
theorem Ext.at {u u' : Wo} (e : Ext u u') {l : Nat} {a : Addr} (h : u.α[l]? = some a) : u'.α[l]? = some a := by
  obtain ⟨_, _, m, e3⟩ := e
  rw [e3, List.getElem?_append_left (List.getElem?_eq_some_iff.mp h).1]
  exact h

theorem same_sqt {K : PySem.W.Frag} {H H' : Hp} {a : Addr} {xs : List V} (e : Same H H') (h : SqT K H a xs) : SqT K H' a xs := by
  rcases h with (h | ⟨o, h⟩) | h
  · exact .inl (.inl (e _ _ h))
  · exact .inl (.inr ⟨o, e _ _ h⟩)
  · exact .inr h
theorem same_rd {H H' : Hp} {a : Addr} {o : HO} (e : Same H H') (h : Rd H a o) : Rd H' a o := by
  rcases h with h | ⟨o, h⟩
  · exact .inl (e _ _ h)
  · exact .inr ⟨o, e _ _ h⟩
/-- a list to be read: a tracked one, or one of the module's own -/
def RdK (K : PySem.W.Frag) (H : Hp) (a : Addr) (xs : List V) : Prop :=
  Rd H a (.lst xs) ∨ ∃ (its : List Value) (n : Nat), K.lookup a = some { cls := .type "list", data := .seq its.toArray n } ∧ its.length ≤ sizeLine ∧ Vals xs its
theorem RdK.sql {K : PySem.W.Frag} {H : Hp} {a : Addr} {xs : List V} (h : RdK K H a xs) : SqL K H a xs := by
  rcases h with h | ⟨its, n, k, z, r⟩
  · exact .inl h
  · exact .inr ⟨_, its.toArray, n, k, rfl, rfl, rfl, by simpa using z, by simpa using r⟩
theorem same_rdk {K : PySem.W.Frag} {H H' : Hp} {a : Addr} {xs : List V} (e : Same H H') (h : RdK K H a xs) : RdK K H' a xs := h.imp (same_rd e) id
-- a value that reads as data
mutual
inductive RD (K : PySem.W.Frag) (H : Hp) : V → PyData → Prop
  | non : RD K H .non .none
  | bl (b : Bool) : RD K H (.bl b) (.bool b)
  | int (i : Int) : RD K H (.int i) (.int i)
  | str (x : Str) : RD K H (.str x) (.str x)
  | lst {a : Addr} {xs : List V} {ds : List PyData} : RdK K H a xs → RDs K H xs ds → RD K H (.ref a) (.list ds)
  | tup {a : Addr} {xs : List V} {ds : List PyData} : SqT K H a xs → RDs K H xs ds → RD K H (.ref a) (.tuple ds)
inductive RDs (K : PySem.W.Frag) (H : Hp) : List V → List PyData → Prop
  | nil : RDs K H [] []
  | cons {v : V} {vs : List V} {d : PyData} {ds : List PyData} : RD K H v d → RDs K H vs ds → RDs K H (v :: vs) (d :: ds)
end
mutual
theorem RD.dp {K : PySem.W.Frag} {H : Hp} : ∀ (d : PyData) (v : V), RD K H v d → Dp K H v d
  | .none, _, h => by cases h; exact .non
  | .bool _, _, h => by cases h; exact .bl _
  | .int _, _, h => by cases h; exact .int _
  | .str _, _, h => by cases h; exact .str _
  | .list ds, _, h => by
    cases h with
    | lst hs ha => exact .lst hs.sql (RDs.dp ds _ ha)
  | .tuple ds, _, h => by
    cases h with
    | tup hs ha => exact .tup hs (RDs.dp ds _ ha)
  | .dict _, _, h => by cases h
theorem RDs.dp {K : PySem.W.Frag} {H : Hp} : ∀ (ds : List PyData) (vs : List V), RDs K H vs ds → DpAll K H vs ds
  | [], _, h => by cases h; exact .nil
  | d :: ds, _, h => by
    cases h with
    | cons h1 h2 => exact .cons (RD.dp d _ h1) (RDs.dp ds _ h2)
end
mutual
theorem RD.mono {K : PySem.W.Frag} {H H' : Hp} (e : Same H H') : ∀ (d : PyData) (v : V), RD K H v d → RD K H' v d
  | .none, _, h => by cases h; exact .non
  | .bool _, _, h => by cases h; exact .bl _
  | .int _, _, h => by cases h; exact .int _
  | .str _, _, h => by cases h; exact .str _
  | .list ds, _, h => by
    cases h with
    | lst hs ha => exact .lst (same_rdk e hs) (RDs.mono e ds _ ha)
  | .tuple ds, _, h => by
    cases h with
    | tup hs ha => exact .tup (same_sqt e hs) (RDs.mono e ds _ ha)
  | .dict _, _, h => by cases h
theorem RDs.mono {K : PySem.W.Frag} {H H' : Hp} (e : Same H H') : ∀ (ds : List PyData) (vs : List V), RDs K H vs ds → RDs K H' vs ds
  | [], _, h => by cases h; exact .nil
  | d :: ds, _, h => by
    cases h with
    | cons h1 h2 => exact .cons (RD.mono e d _ h1) (RDs.mono e ds _ h2)
end
theorem RDs.length {K : PySem.W.Frag} {H : Hp} : ∀ {vs : List V} {ds : List PyData}, RDs K H vs ds → vs.length = ds.length
  | _, _, .nil => rfl
  | _, _, .cons _ t => congrArg (· + 1) (RDs.length t)
theorem RDs.get {K : PySem.W.Frag} {H : Hp} : ∀ {vs : List V} {ds : List PyData} {i : Nat} {d : PyData}, RDs K H vs ds → ds[i]? = some d → ∃ v, vs[i]? = some v ∧ RD K H v d
  | _, _, _, _, .nil, e => by simp at e
  | _, _, 0, _, .cons h _, e => by simp at e; subst e; exact ⟨_, rfl, h⟩
  | _, _, i + 1, _, .cons _ t, e => by
    obtain ⟨v, h1, h2⟩ := RDs.get (i := i) t (by simpa using e)
    exact ⟨v, by simpa using h1, h2⟩
theorem RDs.getV {K : PySem.W.Frag} {H : Hp} : ∀ {vs : List V} {ds : List PyData} {i : Nat} {v : V}, RDs K H vs ds → vs[i]? = some v → ∃ d, ds[i]? = some d ∧ RD K H v d
  | _, _, _, _, .nil, e => by simp at e
  | _, _, 0, _, .cons h _, e => by simp at e; subst e; exact ⟨_, rfl, h⟩
  | _, _, i + 1, _, .cons _ t, e => by
    obtain ⟨v, h1, h2⟩ := RDs.getV (i := i) t (by simpa using e)
    exact ⟨v, by simpa using h1, h2⟩
theorem RDs.append {K : PySem.W.Frag} {H : Hp} : ∀ {vs ws : List V} {ds es : List PyData}, RDs K H vs ds → RDs K H ws es → RDs K H (vs ++ ws) (ds ++ es)
  | _, _, _, _, .nil, s => s
  | _, _, _, _, .cons h t, s => .cons h (RDs.append t s)
theorem RDs.take {K : PySem.W.Frag} {H : Hp} : ∀ {vs : List V} {ds : List PyData} (n : Nat), RDs K H vs ds → RDs K H (vs.take n) (ds.take n)
  | _, _, 0, _ => .nil
  | _, _, _ + 1, .nil => .nil
  | _, _, n + 1, .cons h t => .cons h (RDs.take n t)
theorem RDs.drop {K : PySem.W.Frag} {H : Hp} : ∀ {vs : List V} {ds : List PyData} (n : Nat), RDs K H vs ds → RDs K H (vs.drop n) (ds.drop n)
  | _, _, 0, h => h
  | _, _, _ + 1, .nil => .nil
  | _, _, n + 1, .cons _ t => RDs.drop n t
theorem RDs.set {K : PySem.W.Frag} {H : Hp} {v : V} {d : PyData} (r : RD K H v d) : ∀ {vs : List V} {ds : List PyData} (i : Nat), RDs K H vs ds → RDs K H (vs.set i v) (ds.set i d)
  | _, _, _, .nil => .nil
  | _, _, 0, .cons _ t => .cons r t
  | _, _, i + 1, .cons h t => .cons h (RDs.set r i t)
theorem RDs.erase {K : PySem.W.Frag} {H : Hp} : ∀ {vs : List V} {ds : List PyData} (i : Nat), RDs K H vs ds → RDs K H (vs.eraseIdx i) (ds.eraseIdx i)
  | _, _, _, .nil => .nil
  | _, _, 0, .cons _ t => t
  | _, _, i + 1, .cons h t => .cons h (RDs.erase i t)
theorem RDs.rev {K : PySem.W.Frag} {H : Hp} : ∀ {vs : List V} {ds : List PyData}, RDs K H vs ds → RDs K H vs.reverse ds.reverse
  | _, _, .nil => .nil
  | _, _, .cons h t => by
    rw [List.reverse_cons, List.reverse_cons]
    exact RDs.append (RDs.rev t) (.cons h .nil)
theorem RDs.mem {K : PySem.W.Frag} {H : Hp} : ∀ {vs : List V} {ds : List PyData} {d : PyData}, RDs K H vs ds → d ∈ ds → ∃ v, v ∈ vs ∧ RD K H v d
  | _, _, _, .nil, e => by cases e
  | _, _, _, .cons h t, e => by
    rcases List.mem_cons.mp e with rfl | e
    · exact ⟨_, List.mem_cons_self, h⟩
    · obtain ⟨v, h1, h2⟩ := RDs.mem t e
      exact ⟨v, List.mem_cons_of_mem _ h1, h2⟩

/-! ### keys of dicts: data without truths and lists -/
mutual
def keyOf : PyData → Option NestedKey
  | .none => some .none
  | .bool _ => none
  | .int i => some (.num i)
  | .str x => some (.text x)
  | .list _ => none
  | .tuple ds => match keysOf ds with | some ks => some (.tup ks) | none => none
  | .dict _ => none
def keysOf : List PyData → Option (List NestedKey)
  | [] => some []
  | d :: ds => match keyOf d with
    | some k => match keysOf ds with | some ks => some (k :: ks) | none => none
    | none => none
end
mutual
theorem keyOf_data : ∀ (a : PyData) (k : NestedKey), keyOf a = some k → k.data = a
  | .none, k, h => by rw [keyOf] at h; cases h; rfl
  | .bool _, k, h => by rw [keyOf] at h; cases h
  | .int i, k, h => by rw [keyOf] at h; cases h; rfl
  | .str i, k, h => by rw [keyOf] at h; cases h; rfl
  | .list _, k, h => by rw [keyOf] at h; cases h
  | .dict _, k, h => by rw [keyOf] at h; cases h
  | .tuple ds, k, h => by
    rw [keyOf] at h
    cases e : keysOf ds with
    | none => rw [e] at h; cases h
    | some ks =>
      rw [e] at h
      cases h
      rw [NestedKey.data, keysOf_data ds ks e]
theorem keysOf_data : ∀ (a : List PyData) (k : List NestedKey), keysOf a = some k → NestedKey.datas k = a
  | [], k, h => by rw [keysOf] at h; cases h; rfl
  | a :: as, k, h => by
    rw [keysOf] at h
    cases e1 : keyOf a with
    | none => rw [e1] at h; cases h
    | some x =>
      cases e2 : keysOf as with
      | none => rw [e1, e2] at h; cases h
      | some xs =>
        rw [e1, e2] at h
        cases h
        rw [NestedKey.datas, keyOf_data a x e1, keysOf_data as xs e2]
end
theorem keyOf_inj {a b : PyData} {k : NestedKey} (h : keyOf a = some k) (g : keyOf b = some k) : a = b := (keyOf_data a k h).symm.trans (keyOf_data b k g)
/-- what may be a dict's key here: a tuple of such, not too deep -/
def kOk (d : PyData) : Bool := match d with
  | .tuple _ => match keyOf d with | some k => decide (k.depth ≤ 8) | none => false
  | _ => false
theorem kOk_key {d : PyData} (h : kOk d = true) : ∃ ds ks, d = .tuple ds ∧ keyOf d = some (.tup ks) ∧ (NestedKey.tup ks).depth ≤ 8 := by
  cases d with
  | tuple ds =>
    unfold kOk at h
    simp only at h
    cases e : keyOf (.tuple ds) with
    | none => rw [e] at h; cases h
    | some k =>
      rw [e] at h
      have e' := e
      rw [keyOf] at e'
      cases e2 : keysOf ds with
      | none => rw [e2] at e'; cases e'
      | some ks =>
        rw [e2] at e'
        obtain rfl := Option.some.inj e'
        exact ⟨ds, ks, rfl, rfl, of_decide_eq_true h⟩
  | none => cases h
  | bool _ => cases h
  | int _ => cases h
  | str _ => cases h
  | list _ => cases h
  | dict _ => cases h

/-- a dict's entry: its key, the key's tuple, its value -/
structure NE where
  k : NestedKey
  a : Addr
  v : V
abbrev NEs (es : List NE) (xs : List (NestedKey × Addr × Value)) : Prop := Paired (fun (p : NE) (q : NestedKey × Addr × Value) => p.k = q.1 ∧ p.a = q.2.1 ∧ RelV p.v q.2.2) es xs
/-- the dict at a, by its object alone -/
def DictAt (tp : Tp) (a : Addr) (es : List NE) (h : Heap) : Prop :=
  ∃ xs, NEs es xs ∧ ∃ o ar ep, h.get? a = some o ∧ o.ExactDict ∧ o.data = .dict ar ep ∧ ar.toList = xs.map (entryOfKey (nestedKind tp.P tp.w))
def ND (tp : Tp) (a : Addr) (es : List NE) : HO := .ext (DictAt tp a es)
theorem DictAt.at {tp : Tp} {a : Addr} {es : List NE} {h h' : Heap} (d : DictAt tp a es h) (k : ∀ o, h.get? a = some o → h'.get? a = some o) : DictAt tp a es h' := by
  obtain ⟨xs, r, o, ar, ep, ho, q⟩ := d
  exact ⟨xs, r, o, ar, ep, k o ho, q⟩
theorem nd_new {tp : Tp} {H : Hp} {h : Heap} {a : Addr} {es : List NE} (d : DictAt tp a es h) : ObjOk tp.P tp.w H h a (ND tp a es) := by
  have ⟨_, _, o, _, _, ho, _⟩ := d
  exact ⟨d, ⟨o, ho⟩, fun h1 h2 p k => p.at k⟩
def RepE (tp : Tp) (u : Wo) (es : List NE) (kvs : List (PyData × PyData)) : Prop :=
  Paired (fun (p : NE) (q : PyData × PyData) => kOk q.1 = true ∧ keyOf q.1 = some p.k ∧ RD tp.K u.F (.ref p.a) q.1 ∧ RD tp.K u.F p.v q.2) es kvs
theorem RepE.mono {tp : Tp} {u u' : Wo} (e : Same u.F u'.F) {es : List NE} {kvs : List (PyData × PyData)} (h : RepE tp u es kvs) : RepE tp u' es kvs :=
  Paired.mapP h fun _ _ ⟨r0, r1, r2, r3⟩ => ⟨r0, r1, RD.mono e _ _ r2, RD.mono e _ _ r3⟩
/-! ### dicts whose keys are texts -/
abbrev TVs (vs : List (Str × V)) (xs : List (Str × Value)) : Prop := Paired (fun (p : Str × V) (q : Str × Value) => p.1 = q.1 ∧ RelV p.2 q.2) vs xs
/-- the dict at a, told by its texts and values -/
def TDAt (tp : Tp) (a : Addr) (vs : List (Str × V)) (h : Heap) : Prop := ∃ xs, TVs vs xs ∧ h.DictOf (PySem.strKind tp.P tp.w) a xs
def TD (tp : Tp) (a : Addr) (vs : List (Str × V)) : HO := .ext (TDAt tp a vs)
theorem td_new {tp : Tp} {H : Hp} {h : Heap} {a : Addr} {vs : List (Str × V)} (d : TDAt tp a vs h) : ObjOk tp.P tp.w H h a (TD tp a vs) := by
  have ⟨_, _, o, _, _, ho, _⟩ := d
  exact ⟨d, ⟨o, ho⟩, fun h1 h2 ⟨xs, r, q⟩ k => ⟨xs, r, q.at k⟩⟩
def RepT (tp : Tp) (u : Wo) (vs : List (Str × V)) (kvs : List (Str × PyData)) : Prop := Paired (fun (p : Str × V) (q : Str × PyData) => p.1 = q.1 ∧ RD tp.K u.F p.2 q.2) vs kvs
theorem RepT.mono {tp : Tp} {u u' : Wo} (e : Same u.F u'.F) {vs : List (Str × V)} {kvs : List (Str × PyData)} (h : RepT tp u vs kvs) : RepT tp u' vs kvs :=
  Paired.mapP h fun _ _ ⟨r0, r1⟩ => ⟨r0, RD.mono e _ _ r1⟩
def FTd (tp : Tp) (u : Wo) (v : V) (kvs : List (Str × PyData)) : Prop :=
  ∃ (a : Addr) (vs : List (Str × V)), v = .ref a ∧ u.F a = some (TD tp a vs) ∧ (a == sysModules) = false ∧ kvs.length ≤ sizeLine ∧ RepT tp u vs kvs
theorem FTd.mono {tp : Tp} {u u' : Wo} (e : Same u.F u'.F) {v : V} {kvs : List (Str × PyData)} (h : FTd tp u v kvs) : FTd tp u' v kvs := by
  obtain ⟨a, vs, h1, h2, h3, h4, h5⟩ := h
  exact ⟨a, vs, h1, e _ _ h2, h3, h4, h5.mono e⟩
/-! ### representation -/
/-- the dict at v never changes: its very object is told -/
def FDc (tp : Tp) (u : Wo) (v : V) (kvs : List (PyData × PyData)) : Prop :=
  ∃ (a : Addr) (o : Obj) (ar : Array DictEntry) (ep : Nat) (es : List NE) (xs : List (NestedKey × Addr × Value)), v = .ref a ∧ u.F a = some (.ext fun h => h.get? a = some o) ∧ (a == sysModules) = false ∧ (kvs.map (·.1)).Nodup ∧ kvs.length ≤ sizeLine ∧ RepE tp u es kvs ∧ NEs es xs ∧
    o.ExactDict ∧ o.data = .dict ar ep ∧ ar.toList = xs.map (entryOfKey (nestedKind tp.P tp.w))
theorem FDc.mono {tp : Tp} {u u' : Wo} (e : Same u.F u'.F) {v : V} {kvs : List (PyData × PyData)} (h : FDc tp u v kvs) : FDc tp u' v kvs := by
  obtain ⟨a, o, ar, ep, es, xs, h1, h2, h3, h4, h5, h6, h7⟩ := h
  exact ⟨a, o, ar, ep, es, xs, h1, e _ _ h2, h3, h4, h5, h6.mono e, h7⟩
def RepC (tp : Tp) (u : Wo) : V → Cell → Prop
  | v, .dat d => RD tp.K u.F v d
  | v, .obj l => ∃ a, u.α[l]? = some a ∧ v = .ref a
  | v, .fdc kvs => FDc tp u v kvs
  | v, .ftd kvs => FTd tp u v kvs
theorem RepC.mono {tp : Tp} {u u' : Wo} (e : Ext u u') {v : V} {c : Cell} (h : RepC tp u v c) : RepC tp u' v c := by
  cases c with
  | dat d => exact RD.mono e.1 d v h
  | obj l =>
    obtain ⟨a, h1, h2⟩ := h
    exact ⟨a, e.at h1, h2⟩
  | fdc kvs => exact FDc.mono e.1 h
  | ftd kvs => exact FTd.mono e.1 h
def RepCs (tp : Tp) (u : Wo) (vs : List V) (cs : List Cell) : Prop := Paired (RepC tp u) vs cs
theorem RepCs.mono {tp : Tp} {u u' : Wo} (e : Ext u u') {vs : List V} {cs : List Cell} (h : RepCs tp u vs cs) : RepCs tp u' vs cs := Paired.mapP h fun _ _ r => r.mono e
theorem RepCs.length {tp : Tp} {u : Wo} {vs : List V} {cs : List Cell} (h : RepCs tp u vs cs) : vs.length = cs.length := Paired.length h


def RepF (tp : Tp) (u : Wo) (vs : List (Str × V)) (cs : List (Str × Cell)) : Prop := Paired (fun (p : Str × V) (q : Str × Cell) => p.1 = q.1 ∧ RepC tp u p.2 q.2) vs cs
/-- the object of a label -/
def RepM (tp : Tp) (u : Wo) (H : Hp) (a : Addr) : MO → Prop
  | .lst ds => ∃ vs, H a = some (.lst vs) ∧ RDs tp.K u.F vs ds ∧ vs.length ≤ sizeLine
  | .dct kvs => (a == sysModules) = false ∧ (kvs.map (·.1)).Nodup ∧ kvs.length ≤ sizeLine ∧ ∃ es, H a = some (ND tp a es) ∧ RepE tp u es kvs
  | .tdc kvs => (a == sysModules) = false ∧ kvs.length ≤ sizeLine ∧ ∃ vs, H a = some (TD tp a vs) ∧ RepT tp u vs kvs
  | .ins x fs => ∃ C dx vs, tp.mg x = some (.ref C) ∧ H a = some (.ins C dx vs) ∧ RepF tp u vs fs
  | .dead => True
theorem RepM.mono {tp : Tp} {u u' : Wo} {H H' : Hp} {a : Addr} {m : MO} (e : Ext u u') (k : ∀ o, H a = some o → H' a = some o) (h : RepM tp u H a m) : RepM tp u' H' a m := by
  cases m with
  | lst ds => obtain ⟨vs, h1, h2, h3⟩ := h; exact ⟨vs, k _ h1, RDs.mono e.1 _ _ h2, h3⟩
  | dct kvs => obtain ⟨h0, h4, h5, es, h1, h2⟩ := h; exact ⟨h0, h4, h5, es, k _ h1, h2.mono e.1⟩
  | tdc kvs => obtain ⟨h0, h5, vs, h1, h2⟩ := h; exact ⟨h0, h5, vs, k _ h1, h2.mono e.1⟩
  | ins C fs => obtain ⟨C', dx, vs, h0, h1, h2⟩ := h; exact ⟨C', dx, vs, h0, k _ h1, Paired.mapP h2 fun _ _ ⟨a, b⟩ => ⟨a, b.mono e⟩⟩
  | dead => trivial

def FOk (F : Hp) : Prop := ∀ a xs, (Rd F a (.lst xs) ∨ Rd F a (.tup xs)) → xs.length ≤ sizeLine
/-- the heap H holds what u and M tell -/
structure Sto (tp : Tp) (u : Wo) (M : Mem) (H : Hp) : Prop where
  sub : Same u.F H
  fr : Same u.R H
  dis : ∀ a o, u.R a = some o → u.F a = none
  fok : FOk u.F
  len : u.α.length = M.length
  rep : ∀ (l : Nat) (m : MO) (a : Addr), M[l]? = some m → m ≠ .dead → u.α[l]? = some a → u.F a = none ∧ u.R a = none ∧ (∃ o, H a = some o) ∧ RepM tp u H a m
  inj : ∀ (l l' : Nat) (a : Addr) (m m' : MO), M[l]? = some m → M[l']? = some m' → m ≠ .dead → m' ≠ .dead → u.α[l]? = some a → u.α[l']? = some a → l = l'
structure Goo (tp : Tp) (u : Wo) (ρ : Env') (M : Mem) (σ : L2.St) (H : Hp) : Prop where
  sto : Sto tp u M H
  len : σ.length = ρ.length
  env : ∀ (i : Nat) (c : Cell), ρ[i]? = some (some c) → ∃ v, σ[i]? = some (some v) ∧ RepC tp u v c
theorem Goo.ext {tp : Tp} {u u' : Wo} {ρ : Env'} {M M' : Mem} {σ : L2.St} {H H' : Hp} (g : Goo tp u ρ M σ H) (e : Ext u u') (s : Sto tp u' M' H') : Goo tp u' ρ M' σ H' :=
  ⟨s, g.len, fun i c h => let ⟨v, a, b⟩ := g.env i c h; ⟨v, a, b.mono e⟩⟩
theorem Goo.set {tp : Tp} {u : Wo} {ρ : Env'} {M : Mem} {σ : L2.St} {H : Hp} {i : Nat} {v : V} {c : Cell} (g : Goo tp u ρ M σ H) (r : RepC tp u v c) : Goo tp u (ρ.set i (some c)) M (σ.set i (some v)) H :=
  ⟨g.sto, by rw [List.length_set, List.length_set, g.len], fun j d h => by
    by_cases hj : i = j
    · subst hj
      have hi : i < ρ.length := by
        have := (List.getElem?_eq_some_iff.mp h).1
        rw [List.length_set] at this
        exact this
      rw [List.getElem?_set_self hi] at h
      have hc := Option.some.inj (Option.some.inj h)
      subst hc
      exact ⟨v, by rw [List.getElem?_set_self (by rw [g.len]; exact hi)], r⟩
    · rw [List.getElem?_set_ne hj] at h
      rw [List.getElem?_set_ne hj]
      exact g.env j d h⟩
/-- a new object that never changes -/
theorem Sto.fresh {tp : Tp} {u : Wo} {M : Mem} {H : Hp} {p : Addr} {o : HO} (s : Sto tp u M H) (hp : H p = none) (z : ∀ xs, (o = .lst xs ∨ o = .tup xs) → xs.length ≤ sizeLine) (nz : ∀ ob v, o ≠ .frz ob v) :
    Ext u { u with F := upd u.F p o } ∧ Sto tp { u with F := upd u.F p o } M (upd H p o) := by
  have fp : u.F p = none := s.sub.free hp
  have rp : u.R p = none := s.fr.free hp
  have e : Ext u { u with F := upd u.F p o } := ⟨fun b x q => (upd_ne (ne_of_none q fp)).trans q, rfl, [], (List.append_nil _).symm⟩
  refine ⟨e, ⟨fun b x q => ?_, fun b x q => ?_, fun b x q => ?_, fun b xs q => ?_, s.len, fun l m a h1 h2 h3 => ?_, s.inj⟩⟩
  · by_cases hb : b = p
    · subst hb
      have q' : upd u.F b o b = some x := q
      rw [upd_same] at q' ⊢; exact q'
    · rw [upd_ne hb]
      have q' : upd u.F p o b = some x := q
      rw [upd_ne hb] at q'
      exact s.sub b x q'
  · rw [upd_ne (ne_of_none q rp)]; exact s.fr b x q
  · show upd u.F p o b = none
    rw [upd_ne (ne_of_none q rp)]; exact s.dis b x q
  · by_cases hb : b = p
    · subst hb
      rcases q with (q | ⟨w, q⟩) | (q | ⟨w, q⟩)
      · have q' : upd u.F b o b = some (.lst xs) := q
        rw [upd_same] at q'
        exact z xs (.inl (Option.some.inj q'))
      · have q' : upd u.F b o b = some (.frz w (.lst xs)) := q
        rw [upd_same] at q'
        exact absurd (Option.some.inj q') (nz _ _)
      · have q' : upd u.F b o b = some (.tup xs) := q
        rw [upd_same] at q'
        exact z xs (.inr (Option.some.inj q'))
      · have q' : upd u.F b o b = some (.frz w (.tup xs)) := q
        rw [upd_same] at q'
        exact absurd (Option.some.inj q') (nz _ _)
    · refine s.fok b xs ?_
      rcases q with (q | ⟨w, q⟩) | (q | ⟨w, q⟩)
      · exact .inl (.inl ((upd_ne hb).symm.trans q))
      · exact .inl (.inr ⟨w, (upd_ne hb).symm.trans q⟩)
      · exact .inr (.inl ((upd_ne hb).symm.trans q))
      · exact .inr (.inr ⟨w, (upd_ne hb).symm.trans q⟩)
  · obtain ⟨f1, f2, ⟨x, f3⟩, f4⟩ := s.rep l m a h1 h2 h3
    have hne : a ≠ p := ne_of_none f3 hp
    exact ⟨by show upd u.F p o a = none; rw [upd_ne hne]; exact f1, f2, ⟨x, by rw [upd_ne hne]; exact f3⟩, f4.mono e fun y q => by rw [upd_ne hne]; exact q⟩
/-- a new mutable object: the next label -/
theorem Sto.alloc {tp : Tp} {u : Wo} {M : Mem} {H : Hp} {p : Addr} {o : HO} {m : MO} (s : Sto tp u M H) (hp : H p = none) (r : RepM tp u (upd H p o) p m) :
    Ext u { u with α := u.α ++ [p] } ∧ Sto tp { u with α := u.α ++ [p] } (M ++ [m]) (upd H p o) := by
  have fp : u.F p = none := s.sub.free hp
  have rp : u.R p = none := s.fr.free hp
  have e : Ext u { u with α := u.α ++ [p] } := ⟨Same.refl _, rfl, [p], rfl⟩
  have old : ∀ l x, (M ++ [m])[l]? = some x → (l < M.length ∧ M[l]? = some x) ∨ (l = M.length ∧ x = m) := fun l x h => by
    by_cases hl : l < M.length
    · rw [List.getElem?_append_left hl] at h; exact .inl ⟨hl, h⟩
    · have hlt := (List.getElem?_eq_some_iff.mp h).1
      rw [List.length_append, List.length_singleton] at hlt
      have hl2 : l = M.length := by omega
      subst hl2
      rw [List.getElem?_concat_length] at h
      exact .inr ⟨rfl, (Option.some.inj h).symm⟩
  have oldA : ∀ l a, (u.α ++ [p])[l]? = some a → (l < M.length ∧ u.α[l]? = some a) ∨ (l = M.length ∧ a = p) := fun l a h => by
    rw [← s.len]
    by_cases hl : l < u.α.length
    · rw [List.getElem?_append_left hl] at h; exact .inl ⟨hl, h⟩
    · have hlt := (List.getElem?_eq_some_iff.mp h).1
      rw [List.length_append, List.length_singleton] at hlt
      have hl2 : l = u.α.length := by omega
      subst hl2
      rw [List.getElem?_concat_length] at h
      exact .inr ⟨rfl, (Option.some.inj h).symm⟩
  refine ⟨e, ⟨fun b x q => ?_, fun b x q => ?_, s.dis, s.fok, by simp [s.len], fun l x a h1 h2 h3 => ?_, fun l l' a x x' h1 h2 h3 h4 h5 h6 => ?_⟩⟩
  · rw [upd_ne (ne_of_none q fp)]; exact s.sub b x q
  · rw [upd_ne (ne_of_none q rp)]; exact s.fr b x q
  · rcases old l x h1 with ⟨hl, h1⟩ | ⟨hl, h1⟩
    · rcases oldA l a h3 with ⟨_, h3⟩ | ⟨hl', _⟩
      · obtain ⟨f1, f2, ⟨y, f3⟩, f4⟩ := s.rep l x a h1 h2 h3
        have hne : a ≠ p := ne_of_none f3 hp
        exact ⟨f1, f2, ⟨y, by rw [upd_ne hne]; exact f3⟩, f4.mono e fun z q => by rw [upd_ne hne]; exact q⟩
      · omega
    · rcases oldA l a h3 with ⟨hl', _⟩ | ⟨_, h3⟩
      · omega
      · subst h1; subst h3
        exact ⟨fp, rp, ⟨o, upd_same⟩, r.mono e fun _ q => q⟩
  · rcases old l x h1 with ⟨hl, h1⟩ | ⟨hl, h1⟩
    · rcases old l' x' h2 with ⟨hl', h2⟩ | ⟨hl', h2⟩
      · rcases oldA l a h5 with ⟨_, h5⟩ | ⟨_, h5⟩
        · rcases oldA l' a h6 with ⟨_, h6⟩ | ⟨_, h6⟩
          · exact s.inj l l' a x x' h1 h2 h3 h4 h5 h6
          · omega
        · omega
      · rcases oldA l a h5 with ⟨_, h5⟩ | ⟨_, h5⟩
        · rcases oldA l' a h6 with ⟨_, h6⟩ | ⟨_, h6⟩
          · omega
          · obtain ⟨_, _, ⟨y, f3⟩, _⟩ := s.rep l x a h1 h3 h5
            rw [h6, hp] at f3; cases f3
        · omega
    · rcases old l' x' h2 with ⟨hl', h2⟩ | ⟨hl', h2⟩
      · rcases oldA l' a h6 with ⟨_, h6⟩ | ⟨_, h6⟩
        · rcases oldA l a h5 with ⟨_, h5⟩ | ⟨_, h5⟩
          · omega
          · obtain ⟨_, _, ⟨y, f3⟩, _⟩ := s.rep l' x' a h2 h4 h6
            rw [h5, hp] at f3; cases f3
        · omega
      · omega
/-- a mutable object changes -/
theorem Sto.write {tp : Tp} {u : Wo} {M : Mem} {H : Hp} {l : Nat} {a : Addr} {m0 m : MO} {o : HO} (s : Sto tp u M H) (h0 : M[l]? = some m0) (hd : m0 ≠ .dead) (ha : u.α[l]? = some a) (r : RepM tp u (upd H a o) a m) :
    Sto tp u (M.set l m) (upd H a o) := by
  obtain ⟨f1, f2, ⟨x, f3⟩, f4⟩ := s.rep l m0 a h0 hd ha
  have ll : l < M.length := (List.getElem?_eq_some_iff.mp h0).1
  refine ⟨fun b y q => ?_, fun b y q => ?_, s.dis, s.fok, by rw [List.length_set]; exact s.len, fun l' m' a' h1 h2 h3 => ?_, fun l1 l2 b m1 m2 h1 h2 h3 h4 h5 h6 => ?_⟩
  · rw [upd_ne (ne_of_none q f1)]; exact s.sub b y q
  · rw [upd_ne (ne_of_none q f2)]; exact s.fr b y q
  · by_cases hl : l' = l
    · subst hl
      rw [List.getElem?_set_self ll] at h1
      obtain rfl := Option.some.inj h1
      rw [ha] at h3
      obtain rfl := Option.some.inj h3
      exact ⟨f1, f2, ⟨o, upd_same⟩, r⟩
    · rw [List.getElem?_set_ne (Ne.symm hl)] at h1
      obtain ⟨g1, g2, ⟨y, g3⟩, g4⟩ := s.rep l' m' a' h1 h2 h3
      have hne : a' ≠ a := fun z => hl (s.inj l' l a' m' m0 h1 h0 h2 hd h3 (z ▸ ha))
      exact ⟨g1, g2, ⟨y, by rw [upd_ne hne]; exact g3⟩, g4.mono (Ext.refl u) fun z q => by rw [upd_ne hne]; exact q⟩
  · have live : ∀ (l' : Nat) (m' : MO), (M.set l m)[l']? = some m' → m' ≠ .dead → ∃ m'', M[l']? = some m'' ∧ m'' ≠ .dead := fun l' m' h1 h2 => by
      by_cases hl : l' = l
      · subst hl; exact ⟨m0, h0, hd⟩
      · rw [List.getElem?_set_ne (Ne.symm hl)] at h1; exact ⟨m', h1, h2⟩
    obtain ⟨n1, e1, e2⟩ := live l1 m1 h1 h3
    obtain ⟨n2, e3, e4⟩ := live l2 m2 h2 h4
    exact s.inj l1 l2 b n1 n2 e1 e3 e2 e4 h5 h6
/-- a mutable object is forgotten -/
theorem Sto.kill {tp : Tp} {u : Wo} {M : Mem} {H : Hp} {l : Nat} (s : Sto tp u M H) : Sto tp u (M.set l .dead) H := by
  have live : ∀ (l' : Nat) (m' : MO), (M.set l MO.dead)[l']? = some m' → m' ≠ .dead → M[l']? = some m' := fun l' m' h1 h2 => by
    by_cases hl : l' = l
    · subst hl
      by_cases hlt : l' < M.length
      · rw [List.getElem?_set_self hlt] at h1
        exact absurd (Option.some.inj h1).symm h2
      · rw [List.getElem?_eq_none (by rw [List.length_set]; omega)] at h1; cases h1
    · rw [List.getElem?_set_ne (Ne.symm hl)] at h1; exact h1
  exact ⟨s.sub, s.fr, s.dis, s.fok, by rw [List.length_set]; exact s.len, fun l' m' a' h1 h2 h3 => s.rep l' m' a' (live l' m' h1 h2) h2 h3,
    fun l1 l2 b m1 m2 h1 h2 h3 h4 h5 h6 => s.inj l1 l2 b m1 m2 (live _ _ h1 h3) (live _ _ h2 h4) h3 h4 h5 h6⟩
/-- .. and from now on never changes -/
theorem Sto.freeze {tp : Tp} {u : Wo} {M : Mem} {H : Hp} {l : Nat} {a : Addr} {ds : List PyData} (s : Sto tp u M H) (h0 : M[l]? = some (.lst ds)) (ha : u.α[l]? = some a) :
    ∃ vs, Ext u { u with F := upd u.F a (.lst vs) } ∧ Sto tp { u with F := upd u.F a (.lst vs) } (M.set l .dead) H ∧ RD tp.K (upd u.F a (.lst vs)) (.ref a) (.list ds) := by
  obtain ⟨f1, f2, _, vs, f4, f5, f6⟩ := s.rep l _ a h0 (by intro z; cases z) ha
  have e : Ext u { u with F := upd u.F a (.lst vs) } := ⟨fun b x q => (upd_ne (ne_of_none q f1)).trans q, rfl, [], (List.append_nil _).symm⟩
  have k := s.kill (l := l)
  have ll : l < M.length := (List.getElem?_eq_some_iff.mp h0).1
  refine ⟨vs, e, ⟨fun b x q => ?_, k.fr, fun b x q => ?_, fun b xs q => ?_, k.len, fun l' m' a' h1 h2 h3 => ?_, k.inj⟩, .lst (.inl (.inl upd_same)) (RDs.mono e.1 _ _ f5)⟩
  · by_cases hb : b = a
    · subst hb
      have q' : upd u.F b (.lst vs) b = some x := q
      rw [upd_same] at q'
      rw [← Option.some.inj q']; exact f4
    · have q' : upd u.F a (.lst vs) b = some x := q
      rw [upd_ne hb] at q'
      exact s.sub b x q'
  · show upd u.F a (.lst vs) b = none
    rw [upd_ne (ne_of_none q f2)]; exact s.dis b x q
  · by_cases hb : b = a
    · subst hb
      rcases q with (q | ⟨w, q⟩) | (q | ⟨w, q⟩) <;> (have q' := q; simp only [upd_same] at q')
      · cases Option.some.inj q'; exact f6
      · cases Option.some.inj q'
      · cases Option.some.inj q'
      · cases Option.some.inj q'
    · refine s.fok b xs ?_
      rcases q with (q | ⟨w, q⟩) | (q | ⟨w, q⟩)
      · exact .inl (.inl ((upd_ne hb).symm.trans q))
      · exact .inl (.inr ⟨w, (upd_ne hb).symm.trans q⟩)
      · exact .inr (.inl ((upd_ne hb).symm.trans q))
      · exact .inr (.inr ⟨w, (upd_ne hb).symm.trans q⟩)
  · obtain ⟨g1, g2, g3, g4⟩ := k.rep l' m' a' h1 h2 h3
    have hl : l' ≠ l := fun z => by
      subst z
      rw [List.getElem?_set_self ll] at h1
      exact h2 (Option.some.inj h1).symm
    rw [List.getElem?_set_ne (Ne.symm hl)] at h1
    have hne : a' ≠ a := fun z => hl (s.inj l' l a' m' _ h1 h0 h2 (by intro z; cases z) h3 (z ▸ ha))
    exact ⟨by show upd u.F a (.lst vs) a' = none; rw [upd_ne hne]; exact g1, g2, g3, g4.mono e fun _ q => q⟩
/-- a dict from now on never changes: its object o is told -/
theorem Sto.freezeD {tp : Tp} {u : Wo} {M : Mem} {H : Hp} {l : Nat} {a : Addr} {m0 : MO} {φ : Heap → Prop} (s : Sto tp u M H) (h0 : M[l]? = some m0) (h0d : m0 ≠ .dead) (ha : u.α[l]? = some a) :
    Ext u { u with F := upd u.F a (.ext φ) } ∧ Sto tp { u with F := upd u.F a (.ext φ) } (M.set l .dead) (upd H a (.ext φ)) := by
  obtain ⟨f1, f2, _, _⟩ := s.rep l _ a h0 h0d ha
  have e : Ext u { u with F := upd u.F a (.ext φ) } := ⟨fun b x q => (upd_ne (ne_of_none q f1)).trans q, rfl, [], (List.append_nil _).symm⟩
  have k := s.kill (l := l)
  have ll : l < M.length := (List.getElem?_eq_some_iff.mp h0).1
  refine ⟨e, ⟨fun b x q => ?_, fun b x q => ?_, fun b x q => ?_, fun b xs q => ?_, k.len, fun l' m' a' h1 h2 h3 => ?_, k.inj⟩⟩
  · by_cases hb : b = a
    · subst hb
      have q' : upd u.F b (.ext φ) b = some x := q
      rw [upd_same] at q' ⊢; exact q'
    · have q' : upd u.F a (.ext φ) b = some x := q
      rw [upd_ne hb] at q' ⊢
      exact s.sub b x q'
  · rw [upd_ne (ne_of_none q f2)]; exact s.fr b x q
  · show upd u.F a (.ext φ) b = none
    rw [upd_ne (ne_of_none q f2)]; exact s.dis b x q
  · by_cases hb : b = a
    · subst hb
      rcases q with (q | ⟨w, q⟩) | (q | ⟨w, q⟩) <;> (have q' := q; simp only [upd_same] at q'; cases Option.some.inj q')
    · refine s.fok b xs ?_
      rcases q with (q | ⟨w, q⟩) | (q | ⟨w, q⟩)
      · exact .inl (.inl ((upd_ne hb).symm.trans q))
      · exact .inl (.inr ⟨w, (upd_ne hb).symm.trans q⟩)
      · exact .inr (.inl ((upd_ne hb).symm.trans q))
      · exact .inr (.inr ⟨w, (upd_ne hb).symm.trans q⟩)
  · obtain ⟨g1, g2, ⟨y, g3⟩, g4⟩ := k.rep l' m' a' h1 h2 h3
    have hl : l' ≠ l := fun z => by
      subst z
      rw [List.getElem?_set_self ll] at h1
      exact h2 (Option.some.inj h1).symm
    rw [List.getElem?_set_ne (Ne.symm hl)] at h1
    have hne : a' ≠ a := fun z => hl (s.inj l' l a' m' _ h1 h0 h2 h0d h3 (z ▸ ha))
    exact ⟨by show upd u.F a (.ext φ) a' = none; rw [upd_ne hne]; exact g1, g2, ⟨y, by rw [upd_ne hne]; exact g3⟩, g4.mono e fun z q => by rw [upd_ne hne]; exact q⟩
end QL

set_option Elab.async false
set_option linter.all false
set_option maxRecDepth 100000
set_option maxHeartbeats 2000000
namespace QL
open PySem PySem.Spec PyProof.Rows L2

/-- an exception: its class by name, its fields -/
structure Xc where
  cls : Str
  fs : List (Str × PyData)
inductive Res (α : Type) where
  | ok (a : α) (M : Mem)
  | ex (x : Xc) (M : Mem)
  | no
def Res.bind {α β : Type} : Res α → (α → Mem → Res β) → Res β
  | .ok a M, k => k a M
  | .ex x M, _ => .ex x M
  | .no, _ => .no
def Res.of {α : Type} : Option (α × Mem) → Res α
  | some (a, M) => .ok a M
  | none => .no
abbrev EvF := Env' → Mem → Res Cell
abbrev EvB := Env' → Mem → Res Bool
abbrev EvA := Env' → Mem → Res (List Cell)

def RepX (tp : Tp) (u : Wo) (H : Hp) (x : Xc) (cls : Value) (dd : Option Addr) : Prop :=
  tp.mg x.cls = some cls ∧ ((x.fs = [] ∧ dd = none) ∨ ∃ d vs, dd = some d ∧ H d = some (.xd vs) ∧ Paired (fun (p : Str × V) (q : Str × PyData) => p.1 = q.1 ∧ RD tp.K u.F p.2 q.2) vs x.fs)
section
variable {tp : Tp} {W : WX} {α β γ δ : Type}
/-- what must hold behind: where the mirror ends well, for each value and heap that read as its answer -/
def Post (tp : Tp) (W : WX) (u : Wo) (σ : L2.St) (Rp : Wo → β → α → Prop) (r : Res α) (Q : β → Hp → Prop) : Prop := match r with
  | .ok c M' => ∀ v H' u', Ext u u' → Sto tp u' M' H' → Rp u' v c → Q v H'
  | .ex x M' => ∀ cls dd H' u', Ext u u' → Sto tp u' M' H' → RepX tp u' H' x cls dd → W cls dd σ H'
  | .no => False
theorem Post.ext {u u1 : Wo} {σ : L2.St} {Rp : Wo → β → α → Prop} {r : Res α} {Q : β → Hp → Prop} (e : Ext u u1) (h : Post tp W u σ Rp r Q) : Post tp W u1 σ Rp r Q := by
  cases r with
  | ok c M => exact fun v H' u' e' => h v H' u' (e.trans e')
  | ex x M => exact fun cls dd H' u' e' => h cls dd H' u' (e.trans e')
  | no => exact h
theorem Post.mono {u : Wo} {σ : L2.St} {Rp : Wo → β → α → Prop} {r : Res α} {Q Q' : β → Hp → Prop} (h : Post tp W u σ Rp r Q) (k : ∀ v H, Q v H → Q' v H) : Post tp W u σ Rp r Q' := by
  cases r with
  | ok c M => exact fun v H' u' e' s r => k _ _ (h v H' u' e' s r)
  | ex x M => exact h
  | no => exact h
def tR (tp : Tp) (W : WX) (Rp : Wo → β → α → Prop) (f : Env' → Mem → Res α) : L2.St → Hp → (β → Hp → Prop) → Prop := fun σ H Q => ∃ u ρ M, Goo tp u ρ M σ H ∧ Post tp W u σ Rp (f ρ M) Q
/-- a reading in two steps -/
theorem tR_bind {Rp : Wo → β → α → Prop} {Rp2 : Wo → δ → γ → Prop} {f : Env' → Mem → Res α} {k : Env' → α → Mem → Res γ} {σ : L2.St} {H : Hp} {Q : δ → Hp → Prop} (h : tR tp W Rp2 (fun ρ M => (f ρ M).bind (k ρ)) σ H Q) :
    tR tp W Rp f σ H fun v H1 => ∃ u ρ M c, Goo tp u ρ M σ H1 ∧ Rp u v c ∧ Post tp W u σ Rp2 (k ρ c M) Q := by
  obtain ⟨u, ρ, M, g, q⟩ := h
  refine ⟨u, ρ, M, g, ?_⟩
  have q : Post tp W u σ Rp2 ((f ρ M).bind (k ρ)) Q := q
  revert q
  cases f ρ M with
  | ok c M' => exact fun q v H' u' e s r => ⟨u', ρ, M', c, g.ext e s, r, Post.ext e q⟩
  | ex x M' => exact fun q => q
  | no => exact fun q => q
/-- a last step by values -/
theorem post_of {u : Wo} {σ : L2.St} {Rp : Wo → β → α → Prop} {o : Option (α × Mem)} {Q : β → Hp → Prop} (h : Post tp W u σ Rp (Res.of o) Q) :
    ∃ c M', o = some (c, M') ∧ ∀ v H' u', Ext u u' → Sto tp u' M' H' → Rp u' v c → Q v H' := by
  cases o with
  | none => exact h.elim
  | some p => exact ⟨p.1, p.2, rfl, h⟩
abbrev RB : Wo → Bool → Bool → Prop := fun _ a b => a = b
abbrev tE (tp : Tp) (W : WX) (f : EvF) : TE := tR tp W (RepC tp) f
abbrev tT (tp : Tp) (W : WX) (f : EvB) : TT := tR tp W RB f
abbrev tAs (tp : Tp) (W : WX) (f : EvA) : TA := tR tp W (RepCs tp) f
end
theorem PE.weak {X : Cx} {e : Expr} {t t' : TE} (h : PE X e t) (k : ∀ σ H Q, t' σ H Q → t σ H Q) : PE X e t' := ⟨fun pins s σ H Q I q => h.run pins s σ H Q I (k _ _ _ q)⟩
theorem PT.weak {X : Cx} {e : Expr} {t t' : TT} (h : PT X e t) (k : ∀ σ H Q, t' σ H Q → t σ H Q) : PT X e t' := ⟨fun pins s σ H Q I q => h.run pins s σ H Q I (k _ _ _ q)⟩
theorem PW.weak {X : Cx} {e : Expr} {t t' : TT} (h : PW X e t) (k : ∀ σ H Q, t' σ H Q → t σ H Q) : PW X e t' := ⟨fun wh pins s σ H Q I q => h.run wh pins s σ H Q I (k _ _ _ q)⟩
theorem PA.weak {X : Cx} {e : List Expr} {t t' : TA} (h : PA X e t) (k : ∀ σ H Q, t' σ H Q → t σ H Q) : PA X e t' := ⟨fun p pins s σ H Q I q => h.run p pins s σ H Q I (k _ _ _ q)⟩
theorem PSs.weak {X : Cx} {e : List Stmt} {t t' : TS} (h : PSs X e t) (k : ∀ D σ H, t' D σ H → t D σ H) : PSs X e t' := ⟨fun pins s σ H D I q => h.run pins s σ H D I (k _ _ _ q)⟩
theorem PS.weak {X : Cx} {e : Stmt} {t t' : TS} (h : PS X e t) (k : ∀ D σ H, t' D σ H → t D σ H) : PS X e t' := ⟨fun pins s σ H D I q => h.run pins s σ H D I (k _ _ _ q)⟩

/-! ### names, constants -/
def eVar (i : Nat) : EvF := fun ρ M => match ρ[i]? with
  | some (some c) => .ok c M
  | _ => .no
def eD (d : PyData) : EvF := fun _ M => .ok (.dat d) M
section
variable {X : Cx} {W : WX} {pos : Pos}
theorem qv (i : Nat) {x : Str} (hN : X.N[i]? = some x := by rfl) (hv : Vis X.env.scope x := by first | exact Or.inl rfl | exact Or.inr (Or.inl rfl) | exact Or.inr (Or.inr rfl)) (hd : (x == ("__debug__" : Str)) = false := by decide)
    (hcd : (x == ("__classdict__" : Str)) = false := by decide) : PE X (.Name x pos) (tE (tpOf X) W (eVar i)) := by
  refine PE.weak (pe_var hN hv hd hcd) fun σ H Q ⟨u, ρ, M, g, q⟩ => ?_
  revert q
  unfold eVar
  cases e : ρ[i]? with
  | none => exact fun q => q.elim
  | some o =>
    cases o with
    | none => exact fun q => q.elim
    | some c =>
      obtain ⟨v, h1, h2⟩ := g.env i c e
      exact fun q => ⟨v, h1, q v H u (Ext.refl u) g.sto h2⟩
theorem q_const {e : Expr} {v : V} {d : PyData} (h : PE X e (tC v)) (r : ∀ F, RD X.K F v d) : PE X e (tE (tpOf X) W (eD d)) :=
  PE.weak h fun σ H Q ⟨u, ρ, M, g, q⟩ => q v H u (Ext.refl u) g.sto (r _)
theorem q_int {i j} : PE X (.Constant (.int i) j pos) (tE (tpOf X) W (eD (.int i))) := q_const pe_int fun _ => .int _
theorem q_bl {b j} : PE X (.Constant (.bool b) j pos) (tE (tpOf X) W (eD (.bool b))) := q_const pe_bl fun _ => .bl _
theorem q_non {j} : PE X (.Constant .none j pos) (tE (tpOf X) W (eD .none)) := q_const pe_non fun _ => .non
theorem q_str {x j} : PE X (.Constant (.str x) j pos) (tE (tpOf X) W (eD (.str x))) := q_const pe_str fun _ => .str _
/-- a module's constant -/
theorem q_gint {x : Str} {i : Int} {t : Tok} (hm : X.mg x = some (.int i t)) (hg : Gl X x := by rfl) (hd : (x == ("__debug__" : Str)) = false := by decide) : PE X (.Name x pos) (tE (tpOf X) W (eD (.int i))) := q_const (pe_glob (v := .int i) hg hm ⟨t, rfl⟩ hd) fun _ => .int _
theorem q_gstr {x z : Str} {t : Tok} (hm : X.mg x = some (.str z t)) (hg : Gl X x := by rfl) (hd : (x == ("__debug__" : Str)) = false := by decide) : PE X (.Name x pos) (tE (tpOf X) W (eD (.str z))) := q_const (pe_glob (v := .str z) hg hm ⟨t, rfl⟩ hd) fun _ => .str _

/-! ### argument lists, displays -/
def aNil : EvA := fun _ M => .ok [] M
def aCons (f : EvF) (g : EvA) : EvA := fun ρ M => (f ρ M).bind fun c M => (g ρ M).bind fun cs M => .ok (c :: cs) M
theorem qa_nil : PA X [] (tAs (tpOf X) W aNil) := PA.weak pa_nil fun σ H Q ⟨u, ρ, M, g, q⟩ => q [] H u (Ext.refl u) g.sto .nil
theorem qa_cons {e : Expr} {es : List Expr} {f : EvF} {g : EvA} (ha : PE X e (tE (tpOf X) W f)) (hr : PA X es (tAs (tpOf X) W g)) (hs : starEach (e :: es) X.env = (false, eval e X.env) :: starEach es X.env := by rfl) : PA X (e :: es) (tAs (tpOf X) W (aCons f g)) := by
  refine PA.weak (pa_cons ha hr hs) fun σ H Q h => ?_
  obtain ⟨u, ρ, M, g0, q⟩ := tR_bind (Rp := RepC (tpOf X)) h
  refine ⟨u, ρ, M, g0, Post.mono q fun v H1 ⟨u1, ρ1, M1, c, g1, r1, q1⟩ => ?_⟩
  obtain ⟨u2, ρ2, M2, g2, q2⟩ := tR_bind (f := g) (k := fun ρ cs M => .ok (c :: cs) M) (Rp := RepCs (tpOf X)) ⟨u1, ρ1, M1, g1, q1⟩
  exact ⟨u1, ρ1, M1, g1, by
    revert q1
    cases g ρ1 M1 with
    | ok cs M' => exact fun q1 vs H' u' e s r => q1 (v :: vs) H' u' e s (.cons (r1.mono e) r)
    | ex x M' => exact fun q1 => q1
    | no => exact fun q1 => q1⟩
end
end QL

set_option Elab.async false
set_option linter.all false
set_option maxRecDepth 100000
set_option maxHeartbeats 2000000
namespace QL
open PySem PySem.Spec PyProof.Rows L2

/-- sizes below this need no further look -/
abbrev LIM : Nat := 1000000
theorem lim_ok {n : Nat} (h : n ≤ LIM) : n ≤ sizeLine := Nat.le_trans h (by rw [sizeLine_eq]; decide)
theorem lim_lt {n : Nat} (h : n < LIM) : n < sizeLine := Nat.lt_of_lt_of_le h (by rw [sizeLine_eq]; decide)
theorem line64 {n : Nat} (h : n ≤ sizeLine) : n < 2 ^ 63 := Nat.lt_of_le_of_lt h (by rw [sizeLine_eq]; decide)

abbrev V1 := Cell → Mem → Option (Cell × Mem)
abbrev V2 := Cell → Cell → Mem → Option (Cell × Mem)
abbrev VN := List Cell → Mem → Option (Cell × Mem)
def PostO (tp : Tp) (u : Wo) (o : Option (Cell × Mem)) (Q : VK) : Prop := match o with
  | some (c, M') => ∀ v H' u', Ext u u' → Sto tp u' M' H' → RepC tp u' v c → Q v H'
  | none => False
def rV1 (tp : Tp) (k : V1) : V → Hp → VK → Prop := fun x H Q => ∃ u M c, Sto tp u M H ∧ RepC tp u x c ∧ PostO tp u (k c M) Q
def rV2 (tp : Tp) (k : V2) : R2 := fun x y H Q => ∃ u M c d, Sto tp u M H ∧ RepC tp u x c ∧ RepC tp u y d ∧ PostO tp u (k c d M) Q
def rVN (tp : Tp) (k : VN) : List V → Hp → VK → Prop := fun xs H Q => ∃ u M cs, Sto tp u M H ∧ RepCs tp u xs cs ∧ PostO tp u (k cs M) Q
def or2 (k k' : V2) : V2 := fun a b M => match k a b M with | some r => some r | none => k' a b M
def orN (k k' : VN) : VN := fun a M => match k a M with | some r => some r | none => k' a M
def or1 (k k' : V1) : V1 := fun a M => match k a M with | some r => some r | none => k' a M
theorem OpR.or2 {X : Cx} {f : Value → Value → Sem Value} {k k' : V2} (h : OpR X f (rV2 (tpOf X) k)) (h' : OpR X f (rV2 (tpOf X) k')) : OpR X f (rV2 (tpOf X) (or2 k k')) := by
  intro pins s σ H x y v u Q I rx ry ⟨w, M, c, d, st, r1, r2, q⟩
  unfold QL.or2 at q
  cases e : k c d M with
  | some r => rw [e] at q; exact h pins s σ H x y v u Q I rx ry ⟨w, M, c, d, st, r1, r2, by rw [e]; exact q⟩
  | none => rw [e] at q; exact h' pins s σ H x y v u Q I rx ry ⟨w, M, c, d, st, r1, r2, q⟩
theorem IxR.or2 {X : Cx} {k k' : V2} (h : IxR X (rV2 (tpOf X) k)) (h' : IxR X (rV2 (tpOf X) k')) : IxR X (rV2 (tpOf X) (or2 k k')) := by
  intro va sl pins s σ H x y v u Q I rx ry ⟨w, M, c, d, st, r1, r2, q⟩ hs
  unfold QL.or2 at q
  cases e : k c d M with
  | some r => rw [e] at q; exact h va sl pins s σ H x y v u Q I rx ry ⟨w, M, c, d, st, r1, r2, by rw [e]; exact q⟩ hs
  | none => rw [e] at q; exact h' va sl pins s σ H x y v u Q I rx ry ⟨w, M, c, d, st, r1, r2, q⟩ hs
theorem CallR.orN {X : Cx} {f : Value} {k k' : VN} (h : CallR X f (rVN (tpOf X) k)) (h' : CallR X f (rVN (tpOf X) k')) : CallR X f (rVN (tpOf X) (orN k k')) := by
  intro pins s σ H xs us Q I r ⟨w, M, cs, st, r1, q⟩
  unfold QL.orN at q
  cases e : k cs M with
  | some r' => rw [e] at q; exact h pins s σ H xs us Q I r ⟨w, M, cs, st, r1, by rw [e]; exact q⟩
  | none => rw [e] at q; exact h' pins s σ H xs us Q I r ⟨w, M, cs, st, r1, q⟩

/-! ### reading lists, tuples, data off cells -/
def asL : Cell → Mem → Option (List PyData)
  | .dat (.list ds), _ => some ds
  | .obj l, M => match M[l]? with | some (.lst ds) => some ds | _ => none
  | _, _ => none
def asT : Cell → Option (List PyData)
  | .dat (.tuple ds) => some ds
  | _ => none
def asD : Cell → Mem → Option PyData
  | .dat d, _ => some d
  | .obj l, M => match M[l]? with | some (.lst ds) => some (.list ds) | _ => none
  | .fdc _, _ => none
  | .ftd _, _ => none
section
variable {tp : Tp} {u : Wo} {M : Mem} {H : Hp} {x : V} {c : Cell}
theorem rdk_len {K : PySem.W.Frag} {F : Hp} {a : Addr} {vs : List V} (f : FOk F) (h : RdK K F a vs) : vs.length ≤ sizeLine := by
  rcases h with h | ⟨its, _, _, hz, r⟩
  · exact f a vs (.inl h)
  · rw [r.length]; exact hz
theorem asL_rep {ds : List PyData} (s : Sto tp u M H) (r : RepC tp u x c) (e : asL c M = some ds) : ∃ a vs, x = .ref a ∧ RdK tp.K H a vs ∧ RDs tp.K u.F vs ds ∧ vs.length ≤ sizeLine := by
  cases c with
  | dat d =>
    cases d with
    | list es =>
      simp only [asL, Option.some.injEq] at e
      subst e
      cases r with
      | lst h1 h2 => exact ⟨_, _, rfl, same_rdk s.sub h1, h2, rdk_len s.fok h1⟩
    | none => simp [asL] at e
    | bool _ => simp [asL] at e
    | int _ => simp [asL] at e
    | str _ => simp [asL] at e
    | tuple _ => simp [asL] at e
    | dict _ => simp [asL] at e
  | obj l =>
    obtain ⟨a, h1, h2⟩ := r
    unfold asL at e
    cases em : M[l]? with
    | none => simp [em] at e
    | some m =>
      cases m with
      | lst es =>
        simp only [em, Option.some.injEq] at e
        subst e
        obtain ⟨_, _, _, vs, f4, f5, f6⟩ := s.rep l _ a em (by intro z; cases z) h1
        exact ⟨a, vs, h2, .inl (.inl f4), f5, f6⟩
      | dct _ => simp [em] at e
      | tdc _ => simp [em] at e
      | ins _ _ => simp [em] at e
      | dead => simp [em] at e
  | fdc kvs => simp [asL] at e
  | ftd kvs => simp [asL] at e
theorem sqt_len {K : PySem.W.Frag} {F : Hp} {a : Addr} {vs : List V} (f : FOk F) (h : SqT K F a vs) : vs.length ≤ sizeLine := by
  rcases h with h | ⟨_, its, _, _, _, _, hz, r⟩
  · exact f a vs (.inr h)
  · rw [r.length, Array.length_toList]
    exact hz
theorem asT_rep {ds : List PyData} (s : Sto tp u M H) (r : RepC tp u x c) (e : asT c = some ds) : ∃ a vs, x = .ref a ∧ SqT tp.K H a vs ∧ RDs tp.K u.F vs ds ∧ vs.length ≤ sizeLine := by
  cases c with
  | fdc _ => simp [asT] at e
  | ftd _ => simp [asT] at e
  | obj l => simp [asT] at e
  | dat d =>
    cases d with
    | tuple es =>
      simp only [asT, Option.some.injEq] at e
      subst e
      cases r with
      | tup h1 h2 => exact ⟨_, _, rfl, same_sqt s.sub h1, h2, sqt_len s.fok h1⟩
    | none => simp [asT] at e
    | bool _ => simp [asT] at e
    | int _ => simp [asT] at e
    | str _ => simp [asT] at e
    | list _ => simp [asT] at e
    | dict _ => simp [asT] at e
theorem asD_rep {d : PyData} (s : Sto tp u M H) (r : RepC tp u x c) (e : asD c M = some d) : Dp tp.K H x d := by
  cases c with
  | dat d' =>
    simp only [asD, Option.some.injEq] at e
    subst e
    exact RD.dp _ _ (RD.mono s.sub _ _ r)
  | obj l =>
    obtain ⟨a, h1, h2⟩ := r
    unfold asD at e
    cases em : M[l]? with
    | none => simp [em] at e
    | some m =>
      cases m with
      | lst es =>
        simp only [em, Option.some.injEq] at e
        subst e h2
        obtain ⟨_, _, _, vs, f4, f5, f6⟩ := s.rep l _ a em (by intro z; cases z) h1
        exact .lst (SqL.of f4) (RDs.dp _ _ (RDs.mono s.sub _ _ f5))
      | dct _ => simp [em] at e
      | tdc _ => simp [em] at e
      | ins _ _ => simp [em] at e
      | dead => simp [em] at e
  | fdc _ => simp [asD] at e
  | ftd _ => simp [asD] at e
theorem rep_int {i : Int} (r : RepC tp u x (.dat (.int i))) : x = .int i := by cases r; rfl
theorem rep_str {i : Str} (r : RepC tp u x (.dat (.str i))) : x = .str i := by cases r; rfl
theorem rep_bl {i : Bool} (r : RepC tp u x (.dat (.bool i))) : x = .bl i := by cases r; rfl
theorem rep_non (r : RepC tp u x (.dat .none)) : x = .non := by cases r; rfl
theorem dat_inv {d : PyData} (h : RepC tp u x (.dat d)) : RD tp.K u.F x d := h
end
theorem Inv.rdL {X : Cx} {pins : List (Addr × Obj)} {σ : L2.St} {H : Hp} {s : Shared} {a : Addr} {xs : List V} (I : Inv X pins σ H s) (h : RdK X.K H a xs) :
    xs.length ≤ sizeLine ∧ ∃ (its : List Value) (n : Nat), Vals xs its ∧ xs.length = its.length ∧ s.heap.get? a = some { cls := .type "list", data := .seq its.toArray n } := by
  rcases h with h | ⟨its, n, k, z, r⟩
  · obtain ⟨z, its, n, r, e⟩ := h.ok I.hok
    exact ⟨z, its, n, r, r.length, e⟩
  · exact ⟨by rw [r.length]; exact z, its, n, r, r.length, I.kIn a _ k⟩
/-- the answer of a step that makes a new list -/
theorem post_list {tp : Tp} {u : Wo} {M : Mem} {H : Hp} {vs : List V} {ds : List PyData} {Q : VK} (s : Sto tp u M H) (r : RDs tp.K u.F vs ds) (z : vs.length ≤ sizeLine) (q : PostO tp u (some (.dat (.list ds), M)) Q) :
    ∀ p, H p = none → Q (.ref p) (upd H p (.lst vs)) := fun p hp => by
  obtain ⟨e, s'⟩ := s.fresh (o := .lst vs) hp (fun xs h => by rcases h with h | h <;> cases h; exact z) (fun _ _ h => by cases h)
  exact q (.ref p) _ _ e s' (.lst (.inl (.inl upd_same)) (RDs.mono e.1 _ _ r))
theorem post_tuple {tp : Tp} {u : Wo} {M : Mem} {H : Hp} {vs : List V} {ds : List PyData} {Q : VK} (s : Sto tp u M H) (r : RDs tp.K u.F vs ds) (z : vs.length ≤ sizeLine) (q : PostO tp u (some (.dat (.tuple ds), M)) Q) :
    ∀ p, H p = none → Q (.ref p) (upd H p (.tup vs)) := fun p hp => by
  obtain ⟨e, s'⟩ := s.fresh (o := .tup vs) hp (fun xs h => by rcases h with h | h <;> cases h; exact z) (fun _ _ h => by cases h)
  exact q (.ref p) _ _ e s' (.tup (.inl (.inl upd_same)) (RDs.mono e.1 _ _ r))
theorem post_same {tp : Tp} {u : Wo} {M : Mem} {H : Hp} {v : V} {c : Cell} {Q : VK} (s : Sto tp u M H) (r : RepC tp u v c) (q : PostO tp u (some (c, M)) Q) : Q v H := q v H u (Ext.refl u) s r

section
variable {tp : Tp} {u : Wo} {M : Mem} {H : Hp} {Q : VK}
theorem post_int {i : Int} (s : Sto tp u M H) (q : PostO tp u (some (.dat (.int i), M)) Q) : Q (.int i) H := post_same (c := .dat (.int i)) s (RD.int i) q
theorem post_str {i : Str} (s : Sto tp u M H) (q : PostO tp u (some (.dat (.str i), M)) Q) : Q (.str i) H := post_same (c := .dat (.str i)) s (RD.str i) q
theorem post_bl {i : Bool} (s : Sto tp u M H) (q : PostO tp u (some (.dat (.bool i), M)) Q) : Q (.bl i) H := post_same (c := .dat (.bool i)) s (RD.bl i) q
theorem post_non (s : Sto tp u M H) (q : PostO tp u (some (.dat .none, M)) Q) : Q .non H := post_same (c := .dat .none) s RD.non q
theorem post_d {v : V} {d : PyData} (s : Sto tp u M H) (r : RD tp.K u.F v d) (q : PostO tp u (some (.dat d, M)) Q) : Q v H := post_same (c := .dat d) s r q
end
/-! ### binary operators -/
def vInt2 (C : Int → Int → Bool) (g : Int → Int → Int) : V2
  | .dat (.int i), .dat (.int j), M => if C i j then some (.dat (.int (g i j)), M) else none
  | _, _, _ => none
theorem int2_inv {C : Int → Int → Bool} {g : Int → Int → Int} {c d : Cell} {M : Mem} {o : Cell × Mem} (h : vInt2 C g c d M = some o) : ∃ i j, c = .dat (.int i) ∧ d = .dat (.int j) ∧ C i j = true ∧ o = (.dat (.int (g i j)), M) := by
  unfold vInt2 at h
  split at h
  · rename_i i j
    split at h
    · rename_i hc
      exact ⟨i, j, rfl, rfl, hc, (Option.some.inj h).symm⟩
    · cases h
  · cases h
theorem postO_some {tp : Tp} {u : Wo} {o : Option (Cell × Mem)} {Q : VK} (h : PostO tp u o Q) : ∃ r, o = some r := by
  cases o with
  | none => exact h.elim
  | some r => exact ⟨r, rfl⟩
theorem opInt {X : Cx} {f : Value → Value → Sem Value} {C : Int → Int → Prop} [∀ i j, Decidable (C i j)] {g : Int → Int → Int} (h : OpR X f (rI C fun i j => .int (g i j))) : OpR X f (rV2 (tpOf X) (vInt2 (fun i j => decide (C i j)) g)) := by
  intro pins s σ H x y v u Q I rx ry ⟨w, M, c, d, st, r1, r2, q⟩
  obtain ⟨o, e⟩ := postO_some q
  obtain ⟨i, j, rfl, rfl, hc, rfl⟩ := int2_inv e
  rw [e] at q
  exact h pins s σ H x y v u Q I rx ry ⟨i, j, rep_int r1, rep_int r2, of_decide_eq_true hc, post_int st q⟩
theorem opInt0 {X : Cx} {f : Value → Value → Sem Value} {g : Int → Int → Int} (h : OpR X f (rI0 fun i j => .int (g i j))) : OpR X f (rV2 (tpOf X) (vInt2 (fun _ _ => true) g)) := by
  intro pins s σ H x y v u Q I rx ry ⟨w, M, c, d, st, r1, r2, q⟩
  obtain ⟨o, e⟩ := postO_some q
  obtain ⟨i, j, rfl, rfl, hc, rfl⟩ := int2_inv e
  rw [e] at q
  exact h pins s σ H x y v u Q I rx ry ⟨i, j, rep_int r1, rep_int r2, post_int st q⟩
instance (i j : Int) : Decidable (CMul i j) := inferInstanceAs (Decidable (_ ∨ _))
instance (i j : Int) : Decidable (CPow i j) := inferInstanceAs (Decidable (_ ∧ _))
instance (i j : Int) : Decidable (CDiv i j) := inferInstanceAs (Decidable (_ ∧ _))
def vSub : V2 := vInt2 (fun _ _ => true) fun i j => i - j
def vMod : V2 := vInt2 (fun _ j => decide (0 < j)) fun i j => i % j
def vFdiv : V2 := vInt2 (fun i j => decide (CDiv i j)) fun i j => i / j
def vPow : V2 := vInt2 (fun i j => decide (CPow i j)) fun i j => i ^ j.toNat
def vCatS : V2
  | .dat (.str x), .dat (.str y), M => if x.length + y.length ≤ LIM then some (.dat (.str (x ++ y)), M) else none
  | _, _, _ => none
def vCatT : V2 := fun c d M => match asT c, asT d with
  | some x, some y => if x.length + y.length ≤ LIM then some (.dat (.tuple (x ++ y)), M) else none
  | _, _ => none
def vCatL : V2 := fun c d M => match asL c M, asL d M with
  | some x, some y => if x.length + y.length ≤ LIM then some (.dat (.list (x ++ y)), M) else none
  | _, _ => none
def vAdd : V2 := or2 (vInt2 (fun _ _ => true) fun i j => i + j) (or2 vCatT (or2 vCatL vCatS))
def vRepL : V2 := fun c d M => match asL c M, d with
  | some x, .dat (.int k) => if 0 ≤ k ∧ k ≤ 1000000 ∧ x.length * k.toNat ≤ LIM then some (.dat (.list (List.replicate k.toNat x).flatten), M) else none
  | _, _ => none
def vRepT : V2 := fun c d M => match asT c, d with
  | some x, .dat (.int k) => if x ≠ [] ∧ 2 ≤ k ∧ k ≤ 1000 ∧ x.length ≤ 1000 then some (.dat (.tuple (List.replicate k.toNat x).flatten), M) else none
  | _, _ => none
def vMul : V2 := or2 (vInt2 (fun i j => decide (CMul i j)) fun i j => i * j) (or2 vRepL vRepT)
theorem RDs.rep {K : PySem.W.Frag} {H : Hp} {vs : List V} {ds : List PyData} (h : RDs K H vs ds) : ∀ n : Nat, RDs K H (List.replicate n vs).flatten (List.replicate n ds).flatten
  | 0 => .nil
  | n + 1 => by
    rw [List.replicate_succ, List.replicate_succ, List.flatten_cons, List.flatten_cons]
    exact h.append (RDs.rep h n)
section
variable {X : Cx}
theorem o_sub : OpR X (binaryOp .Sub) (rV2 (tpOf X) vSub) := opInt0 op_sub
theorem o_mod : OpR X (binaryOp .Mod) (rV2 (tpOf X) vMod) := opInt (C := fun _ j => 0 < j) op_mod
theorem o_fdiv : OpR X (binaryOp .FloorDiv) (rV2 (tpOf X) vFdiv) := opInt (C := CDiv) op_fdiv
theorem o_pow : OpR X (binaryOp .Pow) (rV2 (tpOf X) vPow) := opInt (C := CPow) op_pow
theorem o_catS : OpR X (binaryOp .Add) (rV2 (tpOf X) vCatS) := by
  intro pins s σ H x y v u Q I rx ry ⟨w, M, c, d, st, r1, r2, q⟩
  unfold vCatS at q
  split at q
  · split at q
    · rename_i hz
      exact op_add_str pins s σ H x y v u Q I rx ry ⟨_, _, rep_str r1, rep_str r2, lim_ok hz, post_str st q⟩
    · exact q.elim
  · exact q.elim
theorem o_catT : OpR X (binaryOp .Add) (rV2 (tpOf X) vCatT) := by
  intro pins s σ H x y v u Q I rx ry ⟨w, M, c, d, st, r1, r2, q⟩
  unfold vCatT at q
  cases e1 : asT c with
  | none => simp only [e1] at q; exact q.elim
  | some ds =>
    cases e2 : asT d with
    | none => simp only [e1, e2] at q; exact q.elim
    | some es =>
      simp only [e1, e2] at q
      split at q
      · rename_i hz
        obtain ⟨a, vs, rfl, h1, h2, h3⟩ := asT_rep st r1 e1
        obtain ⟨b, ws, rfl, g1, g2, g3⟩ := asT_rep st r2 e2
        have z : vs.length + ws.length ≤ sizeLine := by rw [h2.length, g2.length]; exact lim_ok hz
        have same : ∀ {a : Addr} {c : Cell} {es fs : List PyData}, RepC (tpOf X) w (.ref a) c → asT c = some es → es = fs → RepC (tpOf X) w (.ref a) (.dat (.tuple fs)) := fun {a c es fs} r e q => by
          cases c with
          | fdc _ => simp [asT] at e
          | ftd _ => simp [asT] at e
          | obj l => simp [asT] at e
          | dat d => cases d <;> simp [asT] at e; rw [← q, ← e]; exact r
        refine op_catA pins s σ H _ _ v u Q I rx ry ⟨a, b, vs, ws, rfl, rfl, h1, g1, z, fun hn => ?_, fun hn hm => ?_, fun hn hm => ?_⟩
        · subst hn
          cases h2
          exact post_same st (same r2 e2 (List.nil_append _).symm) q
        · subst hm
          cases g2
          exact post_same st (same r1 e1 (List.append_nil _).symm) q
        · exact post_tuple st (h2.append g2) (by rw [List.length_append]; exact z) q
      · exact q.elim
theorem o_catL : OpR X (binaryOp .Add) (rV2 (tpOf X) vCatL) := by
  intro pins s σ H x y v u Q I rx ry ⟨w, M, c, d, st, r1, r2, q⟩
  unfold vCatL at q
  cases e1 : asL c M with
  | none => simp only [e1] at q; exact q.elim
  | some ds =>
    cases e2 : asL d M with
    | none => simp only [e1, e2] at q; exact q.elim
    | some es =>
      simp only [e1, e2] at q
      split at q
      · rename_i hz
        obtain ⟨a, vs, rfl, h1, h2, h3⟩ := asL_rep st r1 e1
        obtain ⟨b, ws, rfl, g1, g2, g3⟩ := asL_rep st r2 e2
        have z : vs.length + ws.length ≤ sizeLine := by rw [h2.length, g2.length]; exact lim_ok hz
        cases rx
        cases ry
        obtain ⟨z1, its, n, r, hl, e⟩ := Inv.rdL I h1
        obtain ⟨z2, its2, n2, r2', hl2, e'⟩ := Inv.rdL I g1
        refine PySem.P.add_list e e' ?_ (by have := sizeLine_eq; rw [List.size_toArray, List.size_toArray]; omega)
        have ea : its.toArray ++ its2.toArray = (its ++ its2).toArray := by simp
        rw [ea]
        exact ⟨.ref _, _, I.lnew (t' := s.toks) (r.append r2') (by rw [List.length_append]; omega), rfl, post_list st (h2.append g2) (by rw [List.length_append]; exact z) q _ I.fresh⟩
      · exact q.elim
theorem o_add : OpR X (binaryOp .Add) (rV2 (tpOf X) vAdd) := OpR.or2 (opInt0 op_add) (OpR.or2 o_catT (OpR.or2 o_catL o_catS))
theorem o_repT : OpR X (binaryOp .Mult) (rV2 (tpOf X) vRepT) := by
  intro pins s σ H x y v u Q I rx ry ⟨w, M, c, d, st, r1, r2, q⟩
  unfold vRepT at q
  split at q
  · rename_i ds k e1
    split at q
    · rename_i hz
      obtain ⟨z1, z2, z3, z4⟩ := hz
      obtain ⟨a, vs, rfl, h1, h2, h3⟩ := asT_rep st r1 e1
      have hl := h2.length
      have hne : vs ≠ [] := fun z => by
        subst z
        cases ds with
        | nil => exact z1 rfl
        | cons _ _ => cases hl
      refine op_repT pins s σ H _ _ v u Q I rx ry ⟨a, k, vs, rfl, rep_int r2, h1, hne, z2, z3, by omega, ?_⟩
      refine post_tuple st (h2.rep _) ?_ q
      rw [PyProof.Rows.lm_len_rep_flat]
      have : k.toNat * vs.length ≤ 1000 * 1000 := Nat.mul_le_mul (by omega) (by omega)
      exact lim_ok this
    · exact q.elim
  · exact q.elim
end
end QL

set_option Elab.async false
set_option linter.all false
set_option maxRecDepth 100000
set_option maxHeartbeats 2000000
namespace QL
open PySem PySem.Spec PyProof.Rows L2

section
variable {X : Cx}
theorem o_repL : OpR X (binaryOp .Mult) (rV2 (tpOf X) vRepL) := by
  intro pins s σ H x y v u Q I rx ry ⟨w, M, c, d, st, r1, r2, q⟩
  unfold vRepL at q
  split at q
  · rename_i ds k e1
    split at q
    · rename_i hz
      obtain ⟨z1, z0, z2⟩ := hz
      obtain ⟨a, vs, rfl, h1, h2, h3⟩ := asL_rep st r1 e1
      obtain rfl := rep_int r2
      have hl0 := h2.length
      cases rx
      obtain ⟨t, rfl⟩ := ry
      obtain ⟨z, its, n, r, hl, e⟩ := Inv.rdL I h1
      have hbig : k < 2 ^ 63 := by omega
      · have hlen : its.toArray.size * k.toNat ≤ sizeLine := by
          rw [List.size_toArray, ← hl, hl0]
          exact lim_ok z2
        have hcap : ¬ its.toArray.size * k.toNat > (2 ^ 63 - 1) / 8 := by
          have : (sizeLine : Nat) ≤ (2 ^ 63 - 1) / 8 := by decide
          omega
        have hfit : ¬ (!Builtin.List.listFitsIndex k) = true := by
          rw [fitsIndex_both (by omega) hbig]
          exact Bool.false_ne_true
        have hlong : ¬ Builtin.List.listTooLong (its.toArray.size * k.toNat) = true := by
          rw [notLongL hlen]
          exact Bool.false_ne_true
        have hnew : List.foldl (fun x1 x2 => x1 ++ x2) #[] (List.replicate (if its.toArray.isEmpty = true then 0 else k.toNat) its.toArray) = (List.replicate k.toNat its).flatten.toArray := by
          have f0 : ∀ m : Nat, List.foldl (fun x1 x2 => x1 ++ x2) #[] (List.replicate m its.toArray) = (List.replicate m its).flatten.toArray := fun m => by
            have := foldl_rep its m []
            rw [List.nil_append] at this
            exact this
          rw [f0]
          cases its with
          | nil => simp
          | cons a r' => rw [if_neg (by simp)]
        refine wpAny_binaryOp_repeat_ref (T := "list") (U := "int") (by decide) ⟨_, e, rfl⟩ (fun s' => typeIs_int s' k t) noFill_list_mul F.fills_int_mul F.slot_int_rmul repeat_list F.slot_int_index.lookup
          (call_meets F.slot_int_rmul (typeIs_int s k t) F.entry_int_rmul (F.args_int_rmul_2 _ _) (int___rmul___int_list k t a its.toArray n)
            ⟨e, rfl, ⟨_, e, rfl⟩, call_meets F.slot_list_mul ⟨_, e, rfl⟩ F.entry_list_mul (F.args_list_mul_2 _ _) (AutoListH.list___mul___list_int_3 a its.toArray n k t hfit hcap hlong) ⟨e, ?_⟩⟩)
        rw [hnew]
        have hzz : (List.replicate k.toNat vs).flatten.length ≤ sizeLine := by
          rw [PyProof.Rows.lm_len_rep_flat, Nat.mul_comm, hl0]
          exact lim_ok z2
        exact ⟨.ref _, _, I.lnew (t' := s.toks) (r.rep k.toNat) hzz, rfl, post_list st (h2.rep _) hzz q _ I.fresh⟩
    · exact q.elim
  · exact q.elim
theorem o_mul : OpR X (binaryOp .Mult) (rV2 (tpOf X) vMul) := OpR.or2 (opInt (C := CMul) op_mul) (OpR.or2 o_repL o_repT)
end

/-! ### comparisons -/
def vEqD (neg : Bool) : V2 := fun c d M => match asD c M, asD d M with
  | some x, some y => if SeqAt.shaped x && SeqAt.shaped y then some (.dat (.bool (if neg then !PyData.eqv x y else PyData.eqv x y)), M) else none
  | _, _ => none
def vEq : V2 := vEqD false
def vNe : V2 := vEqD true
def vIn (neg : Bool) : V2 := fun c d M => match asD c M, asD d M with
  | some x, some (.list ys) => if SeqAt.shaped x && SeqAt.shaped (.list ys) then some (.dat (.bool (if neg then !ys.any (fun z => PyData.eqv z x) else ys.any (fun z => PyData.eqv z x))), M) else none
  | some x, some (.tuple ys) => if SeqAt.shaped x && SeqAt.shaped (.tuple ys) then some (.dat (.bool (if neg then !ys.any (fun z => PyData.eqv z x) else ys.any (fun z => PyData.eqv z x))), M) else none
  | some (.str x), some (.str y) => some (.dat (.bool (if neg then !(!(Builtin.Str.occurrences y x 0 y.length 1).isEmpty) else !(Builtin.Str.occurrences y x 0 y.length 1).isEmpty)), M)
  | _, _ => none
/-- <, >, <=, >= of data that are alike -/
def vOrd (g : PyData → PyData → Bool) : V2 := fun c d M => match asD c M, asD d M with
  | some x, some y => if PySem.W.alike x y && decide (x ≠ .none) && decide (x.depth ≤ 64) then some (.dat (.bool (g x y)), M) else none
  | _, _ => none
def vLt : V2 := vOrd fun x y => PySem.W.dataLt x y
def vGt : V2 := vOrd fun x y => PySem.W.dataLt y x
def vLe : V2 := vOrd fun x y => !PySem.W.dataLt y x
def vGe : V2 := vOrd fun x y => !PySem.W.dataLt x y
def vIsN (neg : Bool) : V2
  | c, .dat .none, M => some (.dat (.bool (if neg then !decide (c = .dat .none) else decide (c = .dat .none))), M)
  | _, _, _ => none
def vIsB (neg : Bool) : V2
  | .dat (.bool a), .dat (.bool b), M => some (.dat (.bool (if neg then !decide (a = b) else decide (a = b))), M)
  | _, _, _ => none
def vIs : V2 := or2 (vIsN false) (vIsB false)
def vIsNot : V2 := or2 (vIsN true) (vIsB true)
section
variable {X : Cx}
theorem o_eqD {neg : Bool} {f : Value → Value → Sem Value} (h : OpR X f (fun x y H Q => ∃ d e, Dp X.K H x d ∧ Dp X.K H y e ∧ SeqAt.shaped d = true ∧ SeqAt.shaped e = true ∧ Q (.bl (if neg then !PyData.eqv d e else PyData.eqv d e)) H)) : OpR X f (rV2 (tpOf X) (vEqD neg)) := by
  intro pins s σ H x y v u Q I rx ry ⟨w, M, c, d, st, r1, r2, q⟩
  unfold vEqD at q
  split at q
  · rename_i x' y' e1 e2
    split at q
    · rename_i hs
      rw [Bool.and_eq_true] at hs
      exact h pins s σ H x y v u Q I rx ry ⟨_, _, asD_rep st r1 e1, asD_rep st r2 e2, hs.1, hs.2, post_bl st q⟩
    · exact q.elim
  · exact q.elim
theorem o_eq (hu : X.A.units + 100 < cLine) : OpR X (compareOp .Eq) (rV2 (tpOf X) vEq) := o_eqD (neg := false) (op_eqD (by omega))
theorem o_ne (hu : X.A.units + 100 < cLine) : OpR X (compareOp .NotEq) (rV2 (tpOf X) vNe) := o_eqD (neg := true) (op_neD (by omega))
theorem o_inG {neg : Bool} (hu : X.A.units + 100 < cLine) : OpR X (compareOp (if neg then .NotIn else .In)) (rV2 (tpOf X) (vIn neg)) := by
  intro pins s σ H x y v u Q I rx ry ⟨w, M, c, d, st, r1, r2, q⟩
  unfold vIn at q
  split at q
  · rename_i x' ys e1 e2
    split at q
    · rename_i hs
      rw [Bool.and_eq_true] at hs
      obtain ⟨as, q1⟩ := Dp.reads I _ x v (asD_rep st r1 e1) rx
      obtain ⟨bs, q2⟩ := Dp.reads I _ y u (asD_rep st r2 e2) ry
      cases neg with
      | true => exact SeqAt.notIn_list_reads q2 q1 (SeqAt.canLay_of_shaped hs.2) (SeqAt.canLay_of_shaped hs.1) (room_in_shaped hs.1 (by omega)) ⟨.bl _, H, I, rfl, post_bl st q⟩
      | false => exact SeqAt.in_list_reads q2 q1 (SeqAt.canLay_of_shaped hs.2) (SeqAt.canLay_of_shaped hs.1) (room_in_shaped hs.1 (by omega)) ⟨.bl _, H, I, rfl, post_bl st q⟩
    · exact q.elim
  · rename_i x' ys e1 e2
    split at q
    · rename_i hs
      rw [Bool.and_eq_true] at hs
      obtain ⟨as, q1⟩ := Dp.reads I _ x v (asD_rep st r1 e1) rx
      obtain ⟨bs, q2⟩ := Dp.reads I _ y u (asD_rep st r2 e2) ry
      cases neg with
      | true => exact SeqAt.notIn_tuple_reads q2 q1 (SeqAt.canLay_of_shaped hs.2) (SeqAt.canLay_of_shaped hs.1) (room_in_shaped hs.1 (by omega)) ⟨.bl _, H, I, rfl, post_bl st q⟩
      | false => exact SeqAt.in_tuple_reads q2 q1 (SeqAt.canLay_of_shaped hs.2) (SeqAt.canLay_of_shaped hs.1) (room_in_shaped hs.1 (by omega)) ⟨.bl _, H, I, rfl, post_bl st q⟩
    · exact q.elim
  · rename_i x' y' e1 e2
    have h1 : x = .str x' := by have := asD_rep st r1 e1; cases this; rfl
    have h2 : y = .str y' := by have := asD_rep st r2 e2; cases this; rfl
    cases neg with
    | true => exact op_notin_str pins s σ H x y v u Q I rx ry ⟨_, _, h1, h2, post_bl st q⟩
    | false => exact op_in_str pins s σ H x y v u Q I rx ry ⟨_, _, h1, h2, post_bl st q⟩
  · exact q.elim
theorem o_in (hu : X.A.units + 100 < cLine) : OpR X (compareOp .In) (rV2 (tpOf X) (vIn false)) := o_inG (neg := false) hu
theorem o_notIn (hu : X.A.units + 100 < cLine) : OpR X (compareOp .NotIn) (rV2 (tpOf X) (vIn true)) := o_inG (neg := true) hu
theorem o_ord {op : CmpOp} {g : PyData → PyData → Bool} (hu : X.A.units + 100 < cLine)
    (h : ∀ (s : Shared) (a b : Value) (da db : PyData) (as bs : List Addr) (Q : Value → Shared → Prop), Reads s.heap a da as → Reads s.heap b db bs → PySem.W.alike da db = true → da ≠ .none → X.A.units + min da.depth db.depth < cLine → Q (.bool (g da db)) s → wpAny (model X.prog X.w) X.A (compareOp op a b) Q X.xe s) :
    OpR X (compareOp op) (rV2 (tpOf X) (vOrd g)) := by
  intro pins s σ H x y v u Q I rx ry ⟨w, M, c, d, st, r1, r2, q⟩
  unfold vOrd at q
  split at q
  · rename_i x' y' e1 e2
    split at q
    · rename_i hs
      rw [Bool.and_eq_true, Bool.and_eq_true] at hs
      obtain ⟨⟨h1, h2⟩, h3⟩ := hs
      obtain ⟨as, q1⟩ := Dp.reads I _ x v (asD_rep st r1 e1) rx
      obtain ⟨bs, q2⟩ := Dp.reads I _ y u (asD_rep st r2 e2) ry
      have h3' := of_decide_eq_true h3
      refine h s v u x' y' as bs _ q1 q2 h1 (of_decide_eq_true h2) ?_ ⟨.bl _, H, I, rfl, post_bl st q⟩
      have : min x'.depth y'.depth ≤ x'.depth := Nat.min_le_left _ _
      omega
    · exact q.elim
  · exact q.elim
theorem o_lt (hu : X.A.units + 100 < cLine) : OpR X (compareOp .Lt) (rV2 (tpOf X) vLt) := o_ord hu fun _ _ _ _ _ _ _ _ a b c d e f => PySem.W.lt_data a b c d e f
theorem o_gt (hu : X.A.units + 100 < cLine) : OpR X (compareOp .Gt) (rV2 (tpOf X) vGt) := o_ord hu fun _ _ _ _ _ _ _ _ a b c d e f => PySem.W.gt_data a b c d e f
theorem o_le (hu : X.A.units + 100 < cLine) : OpR X (compareOp .LtE) (rV2 (tpOf X) vLe) := o_ord hu fun _ _ _ _ _ _ _ _ a b c d e f => PySem.W.le_data a b c d e f
theorem o_ge (hu : X.A.units + 100 < cLine) : OpR X (compareOp .GtE) (rV2 (tpOf X) vGe) := o_ord hu fun _ _ _ _ _ _ _ _ a b c d e f => PySem.W.ge_data a b c d e f
theorem non_iff {tp : Tp} {u : Wo} {x : V} {c : Cell} (r : RepC tp u x c) : decide (x = .non) = decide (c = .dat .none) := by
  cases c with
  | fdc kvs =>
    obtain ⟨a, _, _, _, _, _, rfl, _⟩ := r
    rfl
  | ftd kvs =>
    obtain ⟨a, _, rfl, _⟩ := r
    rfl
  | obj l =>
    obtain ⟨a, _, rfl⟩ := r
    rfl
  | dat d =>
    cases d with
    | none => cases r; rfl
    | bool b => cases r; simp
    | int b => cases r; simp
    | str b => cases r; simp
    | list b => cases r; simp
    | tuple b => cases r; simp
    | dict b => cases r
theorem o_is : OpR X (compareOp .Is) (rV2 (tpOf X) vIs) := by
  refine OpR.or2 ?_ ?_
  · intro pins s σ H x y v u Q I rx ry ⟨w, M, c, d, st, r1, r2, q⟩
    unfold vIsN at q
    split at q
    · exact op_isN pins s σ H x y v u Q I rx ry ⟨rep_non r2, by rw [non_iff r1]; exact post_bl st q⟩
    · exact q.elim
  · intro pins s σ H x y v u Q I rx ry ⟨w, M, c, d, st, r1, r2, q⟩
    unfold vIsB at q
    split at q
    · exact op_isBl pins s σ H x y v u Q I rx ry ⟨_, _, rep_bl r1, rep_bl r2, post_bl st q⟩
    · exact q.elim
theorem o_isNot : OpR X (compareOp .IsNot) (rV2 (tpOf X) vIsNot) := by
  refine OpR.or2 ?_ ?_
  · intro pins s σ H x y v u Q I rx ry ⟨w, M, c, d, st, r1, r2, q⟩
    unfold vIsN at q
    split at q
    · exact op_notN pins s σ H x y v u Q I rx ry ⟨rep_non r2, by rw [non_iff r1]; exact post_bl st q⟩
    · exact q.elim
  · intro pins s σ H x y v u Q I rx ry ⟨w, M, c, d, st, r1, r2, q⟩
    unfold vIsB at q
    split at q
    · exact op_notBl pins s σ H x y v u Q I rx ry ⟨_, _, rep_bl r1, rep_bl r2, post_bl st q⟩
    · exact q.elim
end

/-! ### expressions by operators -/
def e2 (k : V2) (f g : EvF) : EvF := fun ρ M => (f ρ M).bind fun c M => (g ρ M).bind fun d M => Res.of (k c d M)
def e1 (k : V1) (f : EvF) : EvF := fun ρ M => (f ρ M).bind fun c M => Res.of (k c M)
/-- a cell that must be a truth -/
def asB : Cell → Option Bool
  | .dat (.bool b) => some b
  | _ => none
def toB (r : Res Cell) : Res Bool := r.bind fun c M => match asB c with | some b => .ok b M | none => .no
def e2B (k : V2) (f g : EvF) : EvB := fun ρ M => toB (e2 k f g ρ M)
def eB (f : EvF) : EvB := fun ρ M => toB (f ρ M)
section
variable {X : Cx} {W : WX} {pos : Pos} {a b : Expr} {f g : EvF} {k : V2}
theorem e2_read {σ : L2.St} {H : Hp} {Q : VK} (h : tE (tpOf X) W (e2 k f g) σ H Q) : tOp (rV2 (tpOf X) k) (tE (tpOf X) W f) (tE (tpOf X) W g) σ H Q := by
  obtain ⟨u, ρ, M, g0, q⟩ := tR_bind (Rp := RepC (tpOf X)) (k := fun ρ c M => (g ρ M).bind fun d M => Res.of (k c d M)) h
  refine ⟨u, ρ, M, g0, Post.mono q fun v H1 ⟨u1, ρ1, M1, c, g1, r1, q1⟩ => ?_⟩
  refine ⟨u1, ρ1, M1, g1, ?_⟩
  revert q1
  cases g ρ1 M1 with
  | ok d M' =>
    intro q1 y H2 u2 e s r
    cases ek : k c d M' with
    | none =>
      have q1 : Post (tpOf X) W u1 σ (RepC (tpOf X)) (Res.of (k c d M')) Q := q1
      rw [ek] at q1
      exact q1.elim
    | some p =>
      have q1 : Post (tpOf X) W u1 σ (RepC (tpOf X)) (Res.of (k c d M')) Q := q1
      rw [ek] at q1
      exact ⟨u2, M', c, d, s, r1.mono e, r, by rw [ek]; exact fun v' H' u' e' => q1 v' H' u' (e.trans e')⟩
  | ex x M' => exact fun q1 => q1
  | no => exact fun q1 => q1
theorem q_op {op : Operator} (ho : OpR X (binaryOp op) (rV2 (tpOf X) k)) (ha : PE X a (tE (tpOf X) W f)) (hb : PE X b (tE (tpOf X) W g)) : PE X (.BinOp a op b pos) (tE (tpOf X) W (e2 k f g)) := PE.weak (pe_op ho ha hb) fun _ _ _ h => e2_read h
theorem q_cmp {op : CmpOp} (ho : OpR X (compareOp op) (rV2 (tpOf X) k)) (ha : PE X a (tE (tpOf X) W f)) (hb : PE X b (tE (tpOf X) W g)) (hm : behindInMarks op b = false := by first | exact nomark _ | rfl) : PE X (.Compare a [op] [b] pos) (tE (tpOf X) W (e2 k f g)) := PE.weak (pe_cmpR ho ha hb hm) fun _ _ _ h => e2_read h
theorem toB_read {σ : L2.St} {H : Hp} {h : EvF} {Q : Bool → Hp → Prop} (q : tT (tpOf X) W (eB h) σ H Q) : tE (tpOf X) W h σ H fun x H' => ∃ k, x = .bl k ∧ Q k H' := by
  obtain ⟨u, ρ, M, g0, q⟩ := q
  refine ⟨u, ρ, M, g0, ?_⟩
  have q : Post (tpOf X) W u σ RB (toB (h ρ M)) Q := q
  revert q
  cases h ρ M with
  | ok c M' =>
    intro q v H' u' e s r
    unfold toB Res.bind at q
    cases ec : asB c with
    | none => simp only [ec] at q; exact q.elim
    | some b =>
      simp only [ec] at q
      have hc : c = .dat (.bool b) := by
        cases c with
        | fdc _ => cases ec
        | ftd _ => cases ec
        | obj l => cases ec
        | dat d => cases d <;> first | cases ec; rfl | cases ec
      subst hc
      exact ⟨b, rep_bl r, q b H' u' e s rfl⟩
  | ex x M' => exact fun q => q
  | no => exact fun q => q
theorem qt_cmp {op : CmpOp} (ho : OpR X (compareOp op) (rV2 (tpOf X) k)) (ha : PE X a (tE (tpOf X) W f)) (hb : PE X b (tE (tpOf X) W g)) (hm : behindInMarks op b = false := by first | exact nomark _ | rfl) : PT X (.Compare a [op] [b] pos) (tT (tpOf X) W (eB (e2 k f g))) :=
  PT.weak (pt_cmpR ho ha hb hm) fun σ H Q h => e2_read (toB_read h)
theorem qt_val {e : Expr} {f : EvF} (h : PE X e (tE (tpOf X) W f)) (he : ∀ whole, isTrue e X.env whole = (do let v ← whole; standAt e.pos; holding [v] (truthy v)) := by intro _; rfl) : PT X e (tT (tpOf X) W (eB f)) := PT.weak (pt_val h he) fun σ H Q q => toB_read q
end
end QL

set_option Elab.async false
set_option linter.all false
set_option maxRecDepth 100000
set_option maxHeartbeats 2000000
namespace QL
open PySem PySem.Spec PyProof.Rows L2

/-! ### and, or, not, if .. else, chains -/
def bAnd (f g : EvB) : EvB := fun ρ M => (f ρ M).bind fun b M => if b then g ρ M else .ok false M
def bOr (f g : EvB) : EvB := fun ρ M => (f ρ M).bind fun b M => if b then .ok true M else g ρ M
def bNot (f : EvB) : EvB := fun ρ M => (f ρ M).bind fun b M => .ok (!b) M
/-- as values: all but the last are truths -/
def eAnd (f g : EvF) : EvF := fun ρ M => (eB f ρ M).bind fun b M => if b then g ρ M else .ok (.dat (.bool false)) M
def eOr (f g : EvF) : EvF := fun ρ M => (eB f ρ M).bind fun b M => if b then .ok (.dat (.bool true)) M else g ρ M
def eNot (f : EvF) : EvF := fun ρ M => (eB f ρ M).bind fun b M => .ok (.dat (.bool (!b))) M
def eIf (c : EvB) (f g : EvF) : EvF := fun ρ M => (c ρ M).bind fun b M => if b then f ρ M else g ρ M
def eChain (k k' : V2) (f g h : EvF) : EvF := fun ρ M => (f ρ M).bind fun x M => (g ρ M).bind fun y M => (toB (Res.of (k x y M))).bind fun b M => if b then (h ρ M).bind fun z M => toE (toB (Res.of (k' y z M))) else .ok (.dat (.bool false)) M
where toE (r : Res Bool) : Res Cell := r.bind fun b M => .ok (.dat (.bool b)) M
section
variable {X : Cx} {W : WX} {pos : Pos} {a b c : Expr} {rest : List Expr}
theorem post_ok {tp : Tp} {β α : Type} {W : WX} {u : Wo} {σ : L2.St} {Rp : Wo → β → α → Prop} {Q : β → Hp → Prop} {r : α} {M : Mem} {H : Hp} {v : β} (s : Sto tp u M H) (rv : Rp u v r) (h : Post tp W u σ Rp (.ok r M) Q) : Q v H := h v H u (Ext.refl u) s rv
theorem bind_b {f : EvB} {α β : Type} {Rp : Wo → β → α → Prop} {k : Env' → Bool → Mem → Res α} {σ : L2.St} {H : Hp} {Q : β → Hp → Prop} (h : tR (tpOf X) W Rp (fun ρ M => (f ρ M).bind (k ρ)) σ H Q) :
    tT (tpOf X) W f σ H fun v H1 => ∃ u ρ M, Goo (tpOf X) u ρ M σ H1 ∧ Post (tpOf X) W u σ Rp (k ρ v M) Q := by
  obtain ⟨u, ρ, M, g0, q⟩ := tR_bind (Rp := RB) h
  exact ⟨u, ρ, M, g0, Post.mono q fun v H1 ⟨u1, ρ1, M1, c, g1, r1, q1⟩ => ⟨u1, ρ1, M1, g1, by rw [r1]; exact q1⟩⟩
theorem qw_and1 {f : EvB} (ha : PT X a (tT (tpOf X) W f)) : PW X (.BoolOp .And [a] pos) (tT (tpOf X) W f) := pw_and1 ha
theorem qw_or1 {f : EvB} (ha : PT X a (tT (tpOf X) W f)) : PW X (.BoolOp .Or [a] pos) (tT (tpOf X) W f) := pw_or1 ha
theorem qw_and {f g : EvB} (ha : PT X a (tT (tpOf X) W f)) (hb : PW X (.BoolOp .And (b :: rest) pos) (tT (tpOf X) W g)) : PW X (.BoolOp .And (a :: b :: rest) pos) (tT (tpOf X) W (bAnd f g)) := by
  refine PW.weak (pw_and ha hb) fun σ H Q h => ?_
  obtain ⟨u, ρ, M, g0, q⟩ := bind_b (Rp := RB) (k := fun ρ b M => if b then g ρ M else .ok false M) h
  refine ⟨u, ρ, M, g0, Post.mono q fun v H1 ⟨u1, ρ1, M1, g1, q1⟩ => ?_⟩
  cases v with
  | true => exact ⟨u1, ρ1, M1, g1, q1⟩
  | false => exact q1 false H1 u1 (Ext.refl u1) g1.sto rfl
theorem qw_or {f g : EvB} (ha : PT X a (tT (tpOf X) W f)) (hb : PW X (.BoolOp .Or (b :: rest) pos) (tT (tpOf X) W g)) : PW X (.BoolOp .Or (a :: b :: rest) pos) (tT (tpOf X) W (bOr f g)) := by
  refine PW.weak (pw_or ha hb) fun σ H Q h => ?_
  obtain ⟨u, ρ, M, g0, q⟩ := bind_b (Rp := RB) (k := fun ρ b M => if b then .ok true M else g ρ M) h
  refine ⟨u, ρ, M, g0, Post.mono q fun v H1 ⟨u1, ρ1, M1, g1, q1⟩ => ?_⟩
  cases v with
  | false => exact ⟨u1, ρ1, M1, g1, q1⟩
  | true => exact q1 true H1 u1 (Ext.refl u1) g1.sto rfl
theorem qt_not {f : EvB} (ha : PT X a (tT (tpOf X) W f)) : PT X (.UnaryOp .Not a pos) (tT (tpOf X) W (bNot f)) := by
  refine PT.weak (pt_not ha) fun σ H Q h => ?_
  obtain ⟨u, ρ, M, g0, q⟩ := bind_b (Rp := RB) (k := fun ρ b M => .ok (!b) M) h
  exact ⟨u, ρ, M, g0, Post.mono q fun v H1 ⟨u1, ρ1, M1, g1, q1⟩ => q1 (!v) H1 u1 (Ext.refl u1) g1.sto rfl⟩
theorem q_one {op} {f : EvF} (h : PE X a (tE (tpOf X) W f)) : PE X (.BoolOp op [a] pos) (tE (tpOf X) W f) := pe_one h
theorem q_and {f g : EvF} (ha : PE X a (tE (tpOf X) W f)) (hb : PE X (.BoolOp .And (b :: rest) pos) (tE (tpOf X) W g)) : PE X (.BoolOp .And (a :: b :: rest) pos) (tE (tpOf X) W (eAnd f g)) := by
  refine PE.weak (pe_and ha hb) fun σ H Q h => ?_
  refine toB_read (Q := fun c H1 => if c = true then _ else _) ?_
  obtain ⟨u, ρ, M, g0, q⟩ := bind_b (Rp := RepC (tpOf X)) (k := fun ρ b M => if b then g ρ M else .ok (.dat (.bool false)) M) h
  refine ⟨u, ρ, M, g0, Post.mono q fun v H1 ⟨u1, ρ1, M1, g1, q1⟩ => ?_⟩
  cases v with
  | true => exact ⟨u1, ρ1, M1, g1, q1⟩
  | false => exact q1 (.bl false) H1 u1 (Ext.refl u1) g1.sto (RD.bl false)
theorem q_or {f g : EvF} (ha : PE X a (tE (tpOf X) W f)) (hb : PE X (.BoolOp .Or (b :: rest) pos) (tE (tpOf X) W g)) : PE X (.BoolOp .Or (a :: b :: rest) pos) (tE (tpOf X) W (eOr f g)) := by
  refine PE.weak (pe_or ha hb) fun σ H Q h => ?_
  refine toB_read (Q := fun c H1 => if c = true then _ else _) ?_
  obtain ⟨u, ρ, M, g0, q⟩ := bind_b (Rp := RepC (tpOf X)) (k := fun ρ b M => if b then .ok (.dat (.bool true)) M else g ρ M) h
  refine ⟨u, ρ, M, g0, Post.mono q fun v H1 ⟨u1, ρ1, M1, g1, q1⟩ => ?_⟩
  cases v with
  | false => exact ⟨u1, ρ1, M1, g1, q1⟩
  | true => exact q1 (.bl true) H1 u1 (Ext.refl u1) g1.sto (RD.bl true)
theorem q_not {f : EvF} (ha : PE X a (tE (tpOf X) W f)) : PE X (.UnaryOp .Not a pos) (tE (tpOf X) W (eNot f)) := by
  refine PE.weak (pe_not ha) fun σ H Q h => ?_
  refine toB_read (Q := fun c H1 => Q (.bl (!c)) H1) ?_
  obtain ⟨u, ρ, M, g0, q⟩ := bind_b (Rp := RepC (tpOf X)) (k := fun ρ b M => .ok (.dat (.bool (!b))) M) h
  exact ⟨u, ρ, M, g0, Post.mono q fun v H1 ⟨u1, ρ1, M1, g1, q1⟩ => q1 (.bl (!v)) H1 u1 (Ext.refl u1) g1.sto (RD.bl _)⟩
theorem q_ifExp {t : EvB} {f g : EvF} (hc : PT X c (tT (tpOf X) W t)) (ha : PE X a (tE (tpOf X) W f)) (hb : PE X b (tE (tpOf X) W g)) : PE X (.IfExp c a b pos) (tE (tpOf X) W (eIf t f g)) := by
  refine PE.weak (pe_ifExp hc ha hb) fun σ H Q h => ?_
  obtain ⟨u, ρ, M, g0, q⟩ := bind_b (Rp := RepC (tpOf X)) (k := fun ρ b M => if b then f ρ M else g ρ M) h
  refine ⟨u, ρ, M, g0, Post.mono q fun v H1 ⟨u1, ρ1, M1, g1, q1⟩ => ?_⟩
  cases v with
  | true => exact ⟨u1, ρ1, M1, g1, q1⟩
  | false => exact ⟨u1, ρ1, M1, g1, q1⟩

/-! ### subscripts -/
def vIxT : V2 := fun c d M => match asT c, d with
  | some xs, .dat (.int i) => match atI xs i with | some v => some (.dat v, M) | none => none
  | _, _ => none
def vIxL : V2 := fun c d M => match asL c M, d with
  | some xs, .dat (.int i) => match atI xs i with | some v => some (.dat v, M) | none => none
  | _, _ => none
def vIx : V2 := or2 vIxT vIxL
theorem RDs.atI {K : PySem.W.Frag} {H : Hp} {vs : List V} {ds : List PyData} {i : Int} {d : PyData} (h : RDs K H vs ds) (e : atI ds i = some d) : ∃ v, L2.atI vs i = some v ∧ RD K H v d := by
  unfold L2.atI at e ⊢
  rw [h.length]
  cases q : ixN ds.length i with
  | none => rw [q] at e; cases e
  | some j =>
    rw [q] at e
    exact h.get e
theorem i_tup : IxR X (rV2 (tpOf X) vIxT) := by
  intro va sl pins s σ H x y v u Q I rx ry ⟨w, M, c, d, st, r1, r2, q⟩ hs
  unfold vIxT at q
  split at q
  · rename_i xs i e1
    split at q
    · rename_i z e2
      obtain ⟨a, vs, rfl, h1, h2, h3⟩ := asT_rep st r1 e1
      obtain ⟨vv, g1, g2⟩ := h2.atI e2
      exact ix_tup va sl pins s σ H _ y v u Q I rx ry ⟨a, vs, i, vv, rfl, rep_int r2, h1, g1, post_d st g2 q⟩ hs
    · exact q.elim
  · exact q.elim
theorem i_list : IxR X (rV2 (tpOf X) vIxL) := by
  intro va sl pins s σ H x y v u Q I rx ry ⟨w, M, c, d, st, r1, r2, q⟩ hs
  unfold vIxL at q
  split at q
  · rename_i xs i e1
    split at q
    · rename_i z e2
      obtain ⟨a, vs, rfl, h1, h2, h3⟩ := asL_rep st r1 e1
      obtain ⟨vv, g1, g2⟩ := h2.atI e2
      exact ix_list va sl pins s σ H _ y v u Q I rx ry ⟨a, vs, i, vv, rfl, rep_int r2, h1.sql, g1, post_d st g2 q⟩ hs
    · exact q.elim
  · exact q.elim
theorem i_seq : IxR X (rV2 (tpOf X) vIx) := IxR.or2 i_tup i_list
theorem q_ix {k : V2} {f g : EvF} (hr : IxR X (rV2 (tpOf X) k)) (ha : PE X a (tE (tpOf X) W f)) (hb : PE X b (tE (tpOf X) W g)) (hs : PlainIx b := by intro _ _; rfl) : PE X (.Subscript a b pos) (tE (tpOf X) W (e2 k f g)) := PE.weak (pe_ix hr ha hb hs) fun _ _ _ h => e2_read h

/-! ### slices -/
abbrev EvO := Env' → Mem → Res (Option Int)
def oNone : EvO := fun _ M => .ok none M
def oSome (f : EvF) : EvO := fun ρ M => (f ρ M).bind fun c M => match c with | .dat (.int i) => .ok (some i) M | _ => .no
def cutD (xs : List PyData) (lo hi : Option Int) : List PyData := (xs.drop (HT.sIx xs.length 0 lo)).take (HT.sIx xs.length xs.length hi - HT.sIx xs.length 0 lo)
def vSl (c : Cell) (lo hi : Option Int) (M : Mem) : Option (Cell × Mem) := match asT c with
  | some xs => some (.dat (.tuple (cutD xs lo hi)), M)
  | none => match asL c M with
    | some xs => some (.dat (.list (cutD xs lo hi)), M)
    | none => none
def eSl (f : EvF) (l h : EvO) : EvF := fun ρ M => (f ρ M).bind fun c M => (l ρ M).bind fun lo M => (h ρ M).bind fun hi M => Res.of (vSl c lo hi M)
abbrev RO : Wo → Option Int → Option Int → Prop := fun _ a b => a = b
abbrev tO (tp : Tp) (W : WX) (f : EvO) : TO := tR tp W RO f
theorem PO.weak {e : Option Expr} {t t' : TO} (h : PO X e t) (k : ∀ σ H Q, t' σ H Q → t σ H Q) : PO X e t' := ⟨fun pins s σ H Q I q => h.run pins s σ H Q I (k _ _ _ q)⟩
theorem qo_none : PO X none (tO (tpOf X) W oNone) := PO.weak po_none fun σ H Q ⟨u, ρ, M, g, q⟩ => q none H u (Ext.refl u) g.sto rfl
theorem qo_some {f : EvF} (h : PE X a (tE (tpOf X) W f)) : PO X (some a) (tO (tpOf X) W (oSome f)) := by
  refine PO.weak (po_some h) fun σ H Q h => ?_
  obtain ⟨u, ρ, M, g0, q⟩ := tR_bind (Rp := RepC (tpOf X)) (k := fun ρ c M => match c with | .dat (.int i) => .ok (some i) M | _ => .no) h
  refine ⟨u, ρ, M, g0, Post.mono q fun v H1 ⟨u1, ρ1, M1, c, g1, r1, q1⟩ => ?_⟩
  cases c with
  | fdc _ => exact q1.elim
  | ftd _ => exact q1.elim
  | obj l => exact q1.elim
  | dat d =>
    cases d with
    | int i => exact ⟨i, rep_int r1, q1 (some i) H1 u1 (Ext.refl u1) g1.sto rfl⟩
    | none => exact q1.elim
    | bool _ => exact q1.elim
    | str _ => exact q1.elim
    | list _ => exact q1.elim
    | tuple _ => exact q1.elim
    | dict _ => exact q1.elim
theorem RDs.cut {K : PySem.W.Frag} {H : Hp} {vs : List V} {ds : List PyData} (h : RDs K H vs ds) (lo hi : Option Int) : RDs K H (cutV vs lo hi) (cutD ds lo hi) := by
  unfold cutV cutD
  rw [h.length]
  exact (h.drop _).take _
theorem cut_whole {α : Type} (xs : List α) {lo hi : Option Int} (h : HT.sIx xs.length 0 lo = 0 ∧ HT.sIx xs.length xs.length hi = xs.length) : (xs.drop (HT.sIx xs.length 0 lo)).take (HT.sIx xs.length xs.length hi - HT.sIx xs.length 0 lo) = xs := by
  rw [h.1, h.2, List.drop_zero, Nat.sub_zero, List.take_length]
def rV3 (tp : Tp) : V → Option Int → Option Int → Hp → VK → Prop := fun x lo hi H Q => ∃ u M c, Sto tp u M H ∧ RepC tp u x c ∧ PostO tp u (vSl c lo hi M) Q
theorem s_seq : SlR X (rV3 (tpOf X)) := by
  intro pins s σ H x v vl vu lo hi sl Q I rx hs pl pu ⟨w, M, c, st, r1, q⟩
  unfold vSl at q
  split at q
  · rename_i xs e1
    obtain ⟨a, vs, rfl, h1, h2, h3⟩ := asT_rep st r1 e1
    refine sl_tupA pins s σ H _ v vl vu lo hi sl Q I rx hs pl pu ⟨a, vs, rfl, h1, fun hw => ?_, fun _ => post_tuple st (h2.cut lo hi) (Nat.le_trans (cutV_length _ _ _) h3) q⟩
    have hw2 : cutD xs lo hi = xs := by rw [h2.length] at hw; exact cut_whole xs hw
    rw [hw2] at q
    have : c = .dat (.tuple xs) := by
      cases c with
      | fdc _ => simp [asT] at e1
      | ftd _ => simp [asT] at e1
      | obj l => simp [asT] at e1
      | dat d => cases d <;> simp [asT] at e1; rw [e1]
    subst this
    exact post_same st r1 q
  · split at q
    · rename_i xs e1
      obtain ⟨a, vs, rfl, h1, h2, h3⟩ := asL_rep st r1 e1
      exact sl_list pins s σ H _ v vl vu lo hi sl Q I rx hs pl pu ⟨a, vs, rfl, h1.sql, post_list st (h2.cut lo hi) (Nat.le_trans (cutV_length _ _ _) h3) q⟩
    · exact q.elim
theorem q_slice {lo hi : Option Expr} {p2 : Pos} {f : EvF} {l h : EvO} (he : PE X a (tE (tpOf X) W f)) (hl : PO X lo (tO (tpOf X) W l)) (hh : PO X hi (tO (tpOf X) W h)) : PE X (.Subscript a (.Slice lo hi none p2) pos) (tE (tpOf X) W (eSl f l h)) := by
  refine PE.weak (pe_slice s_seq he hl hh) fun σ H Q h0 => ?_
  obtain ⟨u, ρ, M, g0, q⟩ := tR_bind (Rp := RepC (tpOf X)) (k := fun ρ c M => (l ρ M).bind fun lo M => (h ρ M).bind fun hi M => Res.of (vSl c lo hi M)) h0
  refine ⟨u, ρ, M, g0, Post.mono q fun v H1 ⟨u1, ρ1, M1, c, g1, r1, q1⟩ => ?_⟩
  refine ⟨u1, ρ1, M1, g1, ?_⟩
  revert q1
  cases l ρ1 M1 with
  | no => exact fun q => q
  | ex x M' => exact fun q => q
  | ok lo M2 =>
    intro q1 lo' H2 u2 e2 s2 r2
    cases r2
    refine ⟨u2, ρ1, M2, g1.ext e2 s2, ?_⟩
    have q1 : Post (tpOf X) W u1 σ (RepC (tpOf X)) ((h ρ1 M2).bind fun hi M => Res.of (vSl c lo hi M)) Q := q1
    revert q1
    cases h ρ1 M2 with
    | no => exact fun q => q
    | ex x M' => exact fun q => Post.ext (Rp := RepC (tpOf X)) (r := .ex x M') (Q := Q) e2 q
    | ok hi M3 =>
      intro q1 hi' H3 u3 e3 s3 r3
      cases r3
      have q1 : Post (tpOf X) W u1 σ (RepC (tpOf X)) (Res.of (vSl c lo hi M3)) Q := q1
      cases ek : vSl c lo hi M3 with
      | none => rw [ek] at q1; exact q1.elim
      | some p =>
        rw [ek] at q1
        exact ⟨u3, M3, c, s3, r1.mono (e2.trans e3), by rw [ek]; exact fun v' H' u' e' => q1 v' H' u' ((e2.trans e3).trans e')⟩
end
end QL

set_option Elab.async false
set_option linter.all false
set_option maxRecDepth 100000
set_option maxHeartbeats 2000000
namespace QL
open PySem PySem.Spec PyProof.Rows L2

/-- how a statement ends -/
inductive SRes where
  | nx (ρ : Env') (M : Mem)
  | rt (c : Cell) (M : Mem)
  | bk (ρ : Env') (M : Mem)
  | ct (ρ : Env') (M : Mem)
  | ex (x : Xc) (ρ : Env') (M : Mem)
  | no
abbrev EvS := Env' → Mem → SRes
def SRes.bind (r : SRes) (k : Env' → Mem → SRes) : SRes := match r with
  | .nx ρ M => k ρ M
  | r => r
/-- an expression's answer handed on -/
def Res.toS {α : Type} (r : Res α) (ρ : Env') (k : α → Mem → SRes) : SRes := match r with
  | .ok a M => k a M
  | .ex x M => .ex x ρ M
  | .no => .no
def PostS (tp : Tp) (W : WX) (u : Wo) (r : SRes) (D : Ends) : Prop := match r with
  | .nx ρ M => ∀ σ H u', Ext u u' → Goo tp u' ρ M σ H → D.nx σ H
  | .rt c M => ∀ v H u', Ext u u' → Sto tp u' M H → RepC tp u' v c → D.rt v H
  | .bk ρ M => ∀ σ H u', Ext u u' → Goo tp u' ρ M σ H → D.bk σ H
  | .ct ρ M => ∀ σ H u', Ext u u' → Goo tp u' ρ M σ H → D.ct σ H
  | .ex x ρ M => ∀ cls dd σ H u', Ext u u' → Goo tp u' ρ M σ H → RepX tp u' H x cls dd → W cls dd σ H
  | .no => False
def tS (tp : Tp) (W : WX) (f : EvS) : TS := fun D σ H => ∃ u ρ M, Goo tp u ρ M σ H ∧ PostS tp W u (f ρ M) D
section
variable {tp : Tp} {W : WX} {u u1 : Wo} {r : SRes} {D D' : Ends}
theorem PostS.ext (e : Ext u u1) (h : PostS tp W u r D) : PostS tp W u1 r D := by
  cases r with
  | nx ρ M => exact fun σ H u' e' => h σ H u' (e.trans e')
  | rt c M => exact fun v H u' e' => h v H u' (e.trans e')
  | bk ρ M => exact fun σ H u' e' => h σ H u' (e.trans e')
  | ct ρ M => exact fun σ H u' e' => h σ H u' (e.trans e')
  | ex x ρ M => exact fun c d σ H u' e' => h c d σ H u' (e.trans e')
  | no => exact h
/-- an expression, then a step -/
theorem tS_bind {α β : Type} {Rp : Wo → β → α → Prop} {f : Env' → Mem → Res α} {k : Env' → α → Mem → SRes} {σ : L2.St} {H : Hp} (h : tS tp W (fun ρ M => (f ρ M).toS ρ (k ρ)) D σ H) :
    tR tp W Rp f σ H fun v H1 => ∃ u ρ M c, Goo tp u ρ M σ H1 ∧ Rp u v c ∧ PostS tp W u (k ρ c M) D := by
  obtain ⟨u, ρ, M, g, q⟩ := h
  refine ⟨u, ρ, M, g, ?_⟩
  have q : PostS tp W u ((f ρ M).toS ρ (k ρ)) D := q
  revert q
  cases f ρ M with
  | ok c M' => exact fun q v H' u' e s r => ⟨u', ρ, M', c, g.ext e s, r, PostS.ext e q⟩
  | ex x M' => exact fun q cls dd H' u' e s r => q cls dd σ H' u' e (g.ext e s) r
  | no => exact fun q => q
end

/-! ### blocks -/
def sSkip : EvS := fun ρ M => .nx ρ M
def sSeq (f g : EvS) : EvS := fun ρ M => (f ρ M).bind g
def sRet (f : EvF) : EvS := fun ρ M => (f ρ M).toS ρ fun c M => .rt c M
def sIf (c : EvB) (f g : EvS) : EvS := fun ρ M => (c ρ M).toS ρ fun b M => if b then f ρ M else g ρ M
def sDrop (f : EvF) : EvS := fun ρ M => (f ρ M).toS ρ fun _ M => .nx ρ M
def sBrk : EvS := fun ρ M => .bk ρ M
def sCnt : EvS := fun ρ M => .ct ρ M
section
variable {X : Cx} {W : WX} {st : Stmt} {rest : List Stmt} {f g : EvS} {e : Expr} {pos : Pos}
theorem qs_nil : PSs X [] (tS (tpOf X) W sSkip) := PSs.weak pss_nil fun D σ H ⟨u, ρ, M, g, q⟩ => q σ H u (Ext.refl u) g
theorem qs_pass : PS X (.Pass pos) (tS (tpOf X) W sSkip) := PS.weak ps_pass fun D σ H ⟨u, ρ, M, g, q⟩ => q σ H u (Ext.refl u) g
theorem qs_break : PS X (.Break pos) (tS (tpOf X) W sBrk) := PS.weak ps_break fun D σ H ⟨u, ρ, M, g, q⟩ => q σ H u (Ext.refl u) g
theorem qs_continue : PS X (.Continue pos) (tS (tpOf X) W sCnt) := PS.weak ps_continue fun D σ H ⟨u, ρ, M, g, q⟩ => q σ H u (Ext.refl u) g
theorem qs_cons (h1 : PS X st (tS (tpOf X) W f)) (h2 : PSs X rest (tS (tpOf X) W g)) : PSs X (st :: rest) (tS (tpOf X) W (sSeq f g)) := by
  refine PSs.weak (pss_cons h1 h2) fun D σ H ⟨u, ρ, M, g0, q⟩ => ?_
  refine ⟨u, ρ, M, g0, ?_⟩
  have q : PostS (tpOf X) W u ((f ρ M).bind g) D := q
  revert q
  cases f ρ M with
  | nx ρ' M' => exact fun q σ' H' u' e g' => ⟨u', ρ', M', g', PostS.ext e q⟩
  | rt c M => exact fun q => q
  | bk ρ M => exact fun q => q
  | ct ρ M => exact fun q => q
  | ex x ρ M => exact fun q => q
  | no => exact fun q => q
theorem qs_one (h1 : PS X st (tS (tpOf X) W f)) : PSs X [st] (tS (tpOf X) W f) := pss_one h1
theorem qs_ret {f : EvF} (he : PE X e (tE (tpOf X) W f)) : PS X (.Return (some e) pos) (tS (tpOf X) W (sRet f)) := by
  refine PS.weak (ps_ret he) fun D σ H h => ?_
  obtain ⟨u, ρ, M, g0, q⟩ := tS_bind (Rp := RepC (tpOf X)) (k := fun ρ c M => .rt c M) h
  exact ⟨u, ρ, M, g0, Post.mono q fun v H1 ⟨u1, ρ1, M1, c, g1, r1, q1⟩ => q1 v H1 u1 (Ext.refl u1) g1.sto r1⟩
theorem qs_retN : PS X (.Return none pos) (tS (tpOf X) W (sRet (eD .none))) := PS.weak ps_retN fun D σ H ⟨u, ρ, M, g, q⟩ => q .non H u (Ext.refl u) g.sto RD.non
theorem bind_bS {c : EvB} {k : Env' → Bool → Mem → SRes} {D : Ends} {σ : L2.St} {H : Hp} (h : tS (tpOf X) W (fun ρ M => (c ρ M).toS ρ (k ρ)) D σ H) :
    tT (tpOf X) W c σ H fun v H1 => ∃ u ρ M, Goo (tpOf X) u ρ M σ H1 ∧ PostS (tpOf X) W u (k ρ v M) D := by
  obtain ⟨u, ρ, M, g0, q⟩ := tS_bind (Rp := RB) h
  exact ⟨u, ρ, M, g0, Post.mono q fun v H1 ⟨u1, ρ1, M1, c, g1, r1, q1⟩ => ⟨u1, ρ1, M1, g1, by rw [r1]; exact q1⟩⟩
theorem qs_if {t : Expr} {a b : List Stmt} {c : EvB} (hc : PT X t (tT (tpOf X) W c)) (ha : PSs X a (tS (tpOf X) W f)) (hb : PSs X b (tS (tpOf X) W g)) : PS X (.If t a b pos) (tS (tpOf X) W (sIf c f g)) := by
  refine PS.weak (ps_if hc ha hb) fun D σ H h => ?_
  obtain ⟨u, ρ, M, g0, q⟩ := bind_bS (k := fun ρ b M => if b then f ρ M else g ρ M) h
  refine ⟨u, ρ, M, g0, Post.mono q fun v H1 ⟨u1, ρ1, M1, g1, q1⟩ => ?_⟩
  cases v with
  | true => exact ⟨u1, ρ1, M1, g1, q1⟩
  | false => exact ⟨u1, ρ1, M1, g1, q1⟩
theorem qs_expr {f : EvF} (he : PE X e (tE (tpOf X) W f)) (hs : swapsWith e none pos.line X.env = pure false := by rfl) : PS X (.Expr e pos) (tS (tpOf X) W (sDrop f)) := by
  refine PS.weak (ps_expr he hs) fun D σ H h => ?_
  obtain ⟨u, ρ, M, g0, q⟩ := tS_bind (Rp := RepC (tpOf X)) (k := fun ρ c M => .nx ρ M) h
  exact ⟨u, ρ, M, g0, Post.mono q fun v H1 ⟨u1, ρ1, M1, c, g1, r1, q1⟩ => q1 σ H1 u1 (Ext.refl u1) g1⟩

/-! ### targets -/
abbrev EvG := Cell → Env' → Mem → SRes
/-- v given to a target -/
def tG (tp : Tp) (W : WX) (g : EvG) : TG := fun v σ H Q => ∃ u ρ M c, Goo tp u ρ M σ H ∧ RepC tp u v c ∧ PostS tp W u (g c ρ M) { nx := Q, rt := fun _ _ => False, bk := fun _ _ => False, ct := fun _ _ => False }
def gN (i : Nat) : EvG := fun c ρ M => .nx (ρ.set i (some c)) M
theorem PG.weak {tg : Expr} {t t' : TG} (h : PG X tg t) (k : ∀ v σ H Q, t' v σ H Q → t v σ H Q) : PG X tg t' := ⟨fun pins s σ H v u Q I r q => h.run pins s σ H v u Q I r (k _ _ _ _ q)⟩
theorem qg_name (i : Nat) {x : Str} (hN : X.N.Nodup) (hi : X.N[i]? = some x := by rfl) (hx : Loc X.env.scope x := by first | exact Or.inl rfl | exact Or.inr rfl) (hf : X.fn x = true ∨ X.env.scope.names.lookup x = some .local := by first | exact .inl rfl | exact .inr rfl) : PG X (.Name x pos) (tG (tpOf X) W (gN i)) :=
  PG.weak (pg_name hN hi hx hf) fun v σ H Q ⟨u, ρ, M, c, g, r, q⟩ => q _ H u (Ext.refl u) (g.set r)
/-- several names for a tuple's items -/
def gNs : List EvG → List PyData → Env' → Mem → SRes
  | [], [], ρ, M => .nx ρ M
  | g :: gs, d :: ds, ρ, M => (g (.dat d) ρ M).bind fun ρ M => gNs gs ds ρ M
  | _, _, _, _ => .no
def gT (gs : List EvG) : EvG := fun c ρ M => match asT c with
  | some ds => if ds.length = gs.length then gNs gs ds ρ M else .no
  | none => .no
def tGs (tp : Tp) (W : WX) (gs : List EvG) : TGs := fun vs σ H Q => ∃ u ρ M ds, Goo tp u ρ M σ H ∧ RDs tp.K u.F vs ds ∧ PostS tp W u (gNs gs ds ρ M) { nx := Q, rt := fun _ _ => False, bk := fun _ _ => False, ct := fun _ _ => False }
theorem PGs.weak {tg : List Expr} {t t' : TGs} (h : PGs X tg t) (k : ∀ v σ H Q, t' v σ H Q → t v σ H Q) : PGs X tg t' := ⟨fun pins s σ H v u Q I r q => h.run pins s σ H v u Q I r (k _ _ _ _ q)⟩
theorem qgs_nil : PGs X [] (tGs (tpOf X) W []) := PGs.weak pgs_nil fun vs σ H Q ⟨u, ρ, M, ds, g, r, q⟩ => by
  cases r with
  | nil => exact ⟨rfl, q σ H u (Ext.refl u) g⟩
  | cons _ _ => exact q.elim
theorem qgs_cons {e : Expr} {es : List Expr} {g : EvG} {gs : List EvG} (h1 : PG X e (tG (tpOf X) (fun _ _ _ _ => False) g)) (h2 : PGs X es (tGs (tpOf X) (fun _ _ _ _ => False) gs))
    (hs : (assignEach (e :: es) X.env).map (·.2) = assign e X.env :: (assignEach es X.env).map (·.2) := by rfl) : PGs X (e :: es) (tGs (tpOf X) (fun _ _ _ _ => False) (g :: gs)) :=
  PGs.weak (pgs_cons h1 h2 hs) fun vs σ H Q ⟨u, ρ, M, ds, g0, r, q⟩ => by
    cases r with
    | nil => exact q.elim
    | @cons v vr d dr r1 r2 =>
      refine ⟨v, vr, rfl, u, ρ, M, .dat d, g0, r1, ?_⟩
      have q : PostS (tpOf X) (fun _ _ _ _ => False) u ((g (.dat d) ρ M).bind fun ρ M => gNs gs dr ρ M) _ := q
      revert q
      cases g (.dat d) ρ M with
      | nx ρ' M' => exact fun q σ' H' u' e g' => ⟨u', ρ', M', dr, g', RDs.mono e.1 _ _ r2, PostS.ext e q⟩
      | rt c M => exact fun q => q
      | bk ρ M => exact fun q => q
      | ct ρ M => exact fun q => q
      | ex x ρ M => exact fun q => q
      | no => exact fun q => q
theorem qg_tup {es : List Expr} {k : Nat} {gs : List EvG} (hc : X.calm = true) (h : PGs X es (tGs (tpOf X) (fun _ _ _ _ => False) gs)) 
    (hn : (assignEach es X.env).length = gs.length := by rfl) (hst : (assignEach es X.env).findIdx? (·.1) = none := by rfl) : PG X (.Tuple es k pos) (tG (tpOf X) (fun _ _ _ _ => False) (gT gs)) :=
  PG.weak (pg_tup hc h hn hst) fun v σ H Q ⟨u, ρ, M, c, g0, r, q⟩ => by
    unfold gT at q
    cases e : asT c with
    | none => simp only [e] at q; exact q.elim
    | some ds =>
      simp only [e] at q
      split at q
      · rename_i hl
        obtain ⟨a, vs, rfl, h1, h2, h3⟩ := asT_rep g0.sto r e
        exact ⟨a, vs, rfl, h1, by rw [h2.length]; exact hl, u, ρ, M, ds, g0, h2, q⟩
      · exact q.elim
theorem PG.mono {tg : Expr} {g : EvG} (h : PG X tg (tG (tpOf X) (fun _ _ _ _ => False) g)) (W : WX) (nx : ∀ c ρ M x ρ' M', g c ρ M ≠ .ex x ρ' M') : PG X tg (tG (tpOf X) W g) :=
  PG.weak h fun v σ H Q ⟨u, ρ, M, c, g0, r, q⟩ => ⟨u, ρ, M, c, g0, r, by
    have := nx c ρ M
    revert q this
    cases g c ρ M with
    | nx ρ' M' => exact fun q _ => q
    | rt c M => exact fun q _ => q
    | bk ρ M => exact fun q _ => q
    | ct ρ M => exact fun q _ => q
    | ex x ρ M => exact fun q h => absurd rfl (h x ρ M)
    | no => exact fun q _ => q⟩
def sAsg (f : EvF) (g : EvG) : EvS := fun ρ M => (f ρ M).toS ρ fun c M => g c ρ M
def sSet (i : Nat) (f : EvF) : EvS := sAsg f (gN i)
theorem asg_read {f : EvF} {g : EvG} {D : Ends} {σ : L2.St} {H : Hp} (nx : ∀ c ρ M, ∃ ρ' M', g c ρ M = .nx ρ' M' ∨ g c ρ M = .no) (h : tS (tpOf X) W (sAsg f g) D σ H) : tAsg (tE (tpOf X) W f) (tG (tpOf X) (fun _ _ _ _ => False) g) D σ H := by
  obtain ⟨u, ρ, M, g0, q⟩ := tS_bind (Rp := RepC (tpOf X)) (k := fun ρ c M => g c ρ M) h
  refine ⟨u, ρ, M, g0, Post.mono q fun v H1 ⟨u1, ρ1, M1, c, g1, r1, q1⟩ => ?_⟩
  refine ⟨u1, ρ1, M1, c, g1, r1, ?_⟩
  obtain ⟨ρ', M', e | e⟩ := nx c ρ1 M1
  · rw [e] at q1 ⊢; exact q1
  · rw [e] at q1; exact q1.elim
theorem qs_asg {tg e : Expr} {f : EvF} {g : EvG} (he : PE X e (tE (tpOf X) W f)) (hg : PG X tg (tG (tpOf X) (fun _ _ _ _ => False) g)) (nx : ∀ c ρ M, ∃ ρ' M', g c ρ M = .nx ρ' M' ∨ g c ρ M = .no)
    (hs : swapsWithSole [tg] e pos.line X.env = pure false := by rfl) (hw : swappedStores [tg] e X.env = pure none := by rfl) (h1 : (assignEach [tg] X.env).map (·.2) = [assign tg X.env] := by rfl) : PS X (.Assign [tg] e pos) (tS (tpOf X) W (sAsg f g)) :=
  PS.weak (ps_asg he hg hs hw h1) fun D σ H h => asg_read nx h
theorem gN_nx (i : Nat) : ∀ c ρ M, ∃ ρ' M', gN i c ρ M = .nx ρ' M' ∨ gN i c ρ M = .no := fun c ρ M => ⟨_, _, .inl rfl⟩
theorem gNs_nx : ∀ (is : List Nat) (ds : List PyData) (ρ : Env') (M : Mem), ∃ ρ' M', gNs (is.map gN) ds ρ M = .nx ρ' M' ∨ gNs (is.map gN) ds ρ M = .no
  | [], [], ρ, M => ⟨ρ, M, .inl rfl⟩
  | [], _ :: _, ρ, M => ⟨ρ, M, .inr rfl⟩
  | _ :: _, [], ρ, M => ⟨ρ, M, .inr rfl⟩
  | i :: is, d :: ds, ρ, M => gNs_nx is ds _ _
theorem gT_nx (is : List Nat) : ∀ c ρ M, ∃ ρ' M', gT (is.map gN) c ρ M = .nx ρ' M' ∨ gT (is.map gN) c ρ M = .no := fun c ρ M => by
  unfold gT
  split
  · split
    · exact gNs_nx _ _ _ _
    · exact ⟨ρ, M, .inr rfl⟩
  · exact ⟨ρ, M, .inr rfl⟩
theorem qs_set (i : Nat) {x : Str} {e : Expr} {f : EvF} {pos' : Pos} (hN : X.N.Nodup) (he : PE X e (tE (tpOf X) W f)) (hi : X.N[i]? = some x := by rfl) (hx : Loc X.env.scope x := by first | exact Or.inl rfl | exact Or.inr rfl)
    (hs : swapsWith e (some (.Name x pos')) pos.line X.env = pure false := by rfl) (hf : X.fn x = true ∨ X.env.scope.names.lookup x = some .local := by first | exact .inl rfl | exact .inr rfl) :
    PS X (.Assign [.Name x pos'] e pos) (tS (tpOf X) W (sSet i f)) :=
  PS.weak (ps_set hN hi hx he hs hf) fun D σ H h => by
    obtain ⟨u, ρ, M, g0, q⟩ := tS_bind (Rp := RepC (tpOf X)) (k := fun ρ c M => gN i c ρ M) h
    exact ⟨u, ρ, M, g0, Post.mono q fun v H1 ⟨u1, ρ1, M1, c, g1, r1, q1⟩ => q1 _ H1 u1 (Ext.refl u1) (g1.set r1)⟩
/-- a, b = e1, e2 -/
def sPar (i j : Nat) (f g : EvF) : EvS := fun ρ M => (f ρ M).toS ρ fun c M => (g ρ M).toS ρ fun d M => .nx ((ρ.set i (some c)).set j (some d)) M
end
end QL

set_option Elab.async false
set_option linter.all false
set_option maxRecDepth 100000
set_option maxHeartbeats 2000000
namespace QL
open PySem PySem.Spec PyProof.Rows L2

/-! ### what a def makes and drops is forgotten at its end -/
def cloM (n : Nat) : MO → Bool
  | .ins _ fs => fs.all fun p => match p.2 with | .obj l => decide (l < n) | .dat _ => true | .fdc _ => true | .ftd _ => true
  | _ => true
def cutM (n : Nat) (M : Mem) : Option Mem := if (M.take n).all (cloM n) then some (M.take n) else none
def topC (n : Nat) : Cell → Nat
  | .obj l => max n (l + 1)
  | .dat _ => n
  | .fdc _ => n
  | .ftd _ => n
theorem Sto.cut {tp : Tp} {u : Wo} {M M2 : Mem} {H : Hp} {n : Nat} (s : Sto tp u M H) (h : cutM n M = some M2) : Sto tp { u with α := u.α.take n } M2 H := by
  unfold cutM at h
  split at h
  · rename_i hc
    obtain rfl := Option.some.inj h
    have gl : ∀ (l : Nat) (m : MO), (M.take n)[l]? = some m → l < n ∧ M[l]? = some m := fun l m e => by
      rw [List.getElem?_take] at e
      split at e
      · rename_i hl; exact ⟨hl, e⟩
      · cases e
    have ga : ∀ (l : Nat) (a : Addr), (u.α.take n)[l]? = some a → l < n ∧ u.α[l]? = some a := fun l a e => by
      rw [List.getElem?_take] at e
      split at e
      · rename_i hl; exact ⟨hl, e⟩
      · cases e
    refine ⟨s.sub, s.fr, s.dis, s.fok, by rw [List.length_take, List.length_take, s.len], fun l m a h1 h2 h3 => ?_, fun l l' a m m' h1 h2 h3 h4 h5 h6 => s.inj l l' a m m' (gl _ _ h1).2 (gl _ _ h2).2 h3 h4 (ga _ _ h5).2 (ga _ _ h6).2⟩
    obtain ⟨g1, g2, g3, g4⟩ := s.rep l m a (gl _ _ h1).2 h2 (ga _ _ h3).2
    refine ⟨g1, g2, g3, ?_⟩
    cases m with
    | lst ds => exact g4
    | dct kvs => exact g4
    | tdc kvs => exact g4
    | dead => trivial
    | ins C fs =>
      obtain ⟨C', dx, vs, e0, e1, e2⟩ := g4
      have hcl : cloM n (.ins C fs) = true := List.all_eq_true.mp hc _ (List.mem_of_getElem? h1)
      refine ⟨C', dx, vs, e0, e1, ?_⟩
      have key : ∀ {vs : List (Str × V)} {fs : List (Str × Cell)}, RepF tp u vs fs → (fs.all fun p => match p.2 with | .obj l => decide (l < n) | .dat _ => true | .fdc _ => true | .ftd _ => true) = true → RepF tp { u with α := u.α.take n } vs fs := by
        intro vs fs r hf
        unfold RepF at r ⊢
        induction r with
        | nil => exact .nil
        | @cons p q ps qs hpq _ ih =>
          rw [List.all_cons, Bool.and_eq_true] at hf
          refine .cons ⟨hpq.1, ?_⟩ (ih hf.2)
          have hr := hpq.2
          have h1 := hf.1
          revert hr h1
          cases q.2 with
          | dat d => exact fun hr _ => hr
          | fdc d => exact fun hr _ => hr
          | ftd d => exact fun hr _ => hr
          | obj l =>
            intro ⟨a, h1, h2⟩ h3
            exact ⟨a, by show (u.α.take n)[l]? = some a; rw [List.getElem?_take, if_pos (of_decide_eq_true h3)]; exact h1, h2⟩
      exact key e2 hcl
  · cases h
theorem Ext.cut {u u' : Wo} {n : Nat} (e : Ext u u') (h : u.α.length ≤ n) : Ext u { u' with α := u'.α.take n } := by
  obtain ⟨e1, e2, m, e3⟩ := e
  refine ⟨e1, e2, m.take (n - u.α.length), ?_⟩
  show u'.α.take n = _
  rw [e3, List.take_append, List.take_of_length_le h]
theorem topC_le (n : Nat) (c : Cell) : n ≤ topC n c := by cases c <;> simp [topC] <;> omega
theorem RepC.cut {tp : Tp} {u : Wo} {v : V} {c : Cell} {n : Nat} (r : RepC tp u v c) : RepC tp { u with α := u.α.take (topC n c) } v c := by
  cases c with
  | dat d => exact r
  | fdc d => exact r
  | ftd d => exact r
  | obj l =>
    obtain ⟨a, h1, h2⟩ := r
    refine ⟨a, ?_, h2⟩
    show (u.α.take (max n (l + 1)))[l]? = some a
    rw [List.getElem?_take, if_pos (by omega)]
    exact h1
abbrev FnF := List Cell → Mem → Res Cell
/-- a def by its body's mirror: N names, n of them parameters -/
def fnRes (N n : Nat) (m : EvS) : FnF := fun cs M =>
  if cs.length = n then
    match m (cs.map some ++ List.replicate (N - n) none) M with
    | .rt c M' => match cutM (topC M.length c) M' with | some M2 => .ok c M2 | none => .no
    | .nx _ M' => match cutM M.length M' with | some M2 => .ok (.dat .none) M2 | none => .no
    | .ex x _ M' => match cutM M.length M' with | some M2 => .ex x M2 | none => .no
    | _ => .no
  else .no
def PostF (tp : Tp) (u : Wo) (r : Res Cell) (Q : VK) (E : XK) : Prop := match r with
  | .ok c M' => ∀ v H' u', Ext u u' → Sto tp u' M' H' → RepC tp u' v c → Q v H'
  | .ex x M' => ∀ cls dd H' u', Ext u u' → Sto tp u' M' H' → RepX tp u' H' x cls dd → E cls dd H'
  | .no => False
/-- the promise: what the mirror says -/
def spF (tp : Tp) (n : Nat) (F : FnF) : Sp := fun vs H Q E => ∃ u M cs, Sto tp u M H ∧ RepCs tp u vs cs ∧ cs.length = n ∧ PostF tp u (F cs M) Q E
theorem goo_start {tp : Tp} {u : Wo} {M : Mem} {H : Hp} {vs : List V} {cs : List Cell} {N : List Str} {n : Nat} (s : Sto tp u M H) (r : RepCs tp u vs cs) (hn : cs.length = n) : Goo tp u (cs.map some ++ List.replicate (N.length - n) none) M (L2.start N vs) H := by
  have hl := r.length
  refine ⟨s, by unfold L2.start; simp [hl, hn], fun i c e => ?_⟩
  have hi : i < cs.length := by
    rcases Nat.lt_or_ge i cs.length with h | h
    · exact h
    · rw [List.getElem?_append_right (by simpa using h)] at e
      rw [List.getElem?_replicate] at e
      split at e <;> cases e
  rw [List.getElem?_append_left (by simpa using hi), List.getElem?_map] at e
  have gen : ∀ {vs : List V} {cs : List Cell} {i : Nat} {c : Cell}, RepCs tp u vs cs → cs[i]? = some c → ∃ v, vs[i]? = some v ∧ RepC tp u v c := by
    intro vs cs i c r
    unfold RepCs at r
    induction r generalizing i with
    | nil => intro e; simp at e
    | @cons a b as bs h t ih =>
      intro e
      cases i with
      | zero => simp at e; subst e; exact ⟨a, rfl, h⟩
      | succ i =>
        obtain ⟨v, h1, h2⟩ := ih (i := i) (by simpa using e)
        exact ⟨v, by simpa using h1, h2⟩
  have e' : cs[i]? = some c := by
    cases q : cs[i]? with
    | none => rw [q] at e; cases e
    | some d =>
      rw [q] at e
      exact congrArg some (Option.some.inj (Option.some.inj e))
  obtain ⟨v, h1, h2⟩ := gen r e'
  refine ⟨v, ?_, h2⟩
  unfold L2.start
  rw [List.getElem?_append_left (by rw [List.length_map, hl]; exact hi), List.getElem?_map, h1]
  rfl
section
variable {P : Program} {w : World} {K : PySem.W.Frag} {mg : Str → Option Value} {base : Heap}
/-- around a body nothing is let out -/
theorem tk0 {X : Cx} : L2N.Takes X (fun _ _ _ _ => False) := fun _ _ x => by
  obtain ⟨_, _, _, _, _, _, _, _, _, _, _, _, _, _, _, _, z⟩ := x
  exact z.elim
/-- a def may raise: its promise by its body -/
theorem okN {x qual : Str} {st : Stmt} {f : Addr} {fd : FuncData} {N ps : List Str} {k : Nat} {sp : Sp} (F : Fun K x qual st f fd) (S : FnScope N ps (defScope st)) (len : ∀ vs H Q E, sp vs H Q E → vs.length = ps.length)
    (hb : ∀ (cdv : Value) (A : Around) (outer : List Env) (s : Shared) (H : Hp) (vs : List V) (Q : VK) (E : XK), Room k (A.deeper (envOfC qual (defScope st) s.heap.objs.size f cdv)) → sp vs H Q E →
      ∃ t, PSs (cxOf (L2N.CX P w) P w K mg base N qual (defScope st) f cdv A outer s H E) (defBody st) t ∧ t { nx := fun _ H' => Q .non H', rt := Q } (L2.start N vs) H) : FnOk P w K mg base (L2N.CX P w) (k + 1) f fd ps sp := by
  obtain ⟨oc, od, kV, doc, pm, an, cdv, ct, osl, rfl, lk, hcd⟩ := F.ex
  exact fn_of lk hcd S len fun A outer s H vs Q E hr hsp => hb cdv A outer s H vs Q E hr hsp
/-- THE RULE for a def -/
theorem okQ {x qual : Str} {st : Stmt} {f : Addr} {fd : FuncData} {N ps : List Str} {k : Nat} {m : EvS} (F : Fun K x qual st f fd) (S : FnScope N ps (defScope st))
    (hbody : ∀ (cdv : Value) (A : Around) (outer : List Env) (s : Shared) (H : Hp) (E : XK), Room k (A.deeper (envOfC qual (defScope st) s.heap.objs.size f cdv)) →
      PSs (cxOf (L2N.CX P w) P w K mg base N qual (defScope st) f cdv A outer s H E) (defBody st) (tS ⟨P, w, K, mg⟩ (fun c d _ H => E c d H) m)) :
    FnOk P w K mg base (L2N.CX P w) (k + 1) f fd ps (spF ⟨P, w, K, mg⟩ ps.length (fnRes N.length ps.length m)) := by
  refine okN F S (fun vs H Q E h => ?_) (fun cdv A outer s H vs Q E hr h => ?_)
  · obtain ⟨u, M, cs, _, r, hn, _⟩ := h
    rw [r.length, hn]
  · refine ⟨_, hbody cdv A outer s H E hr, ?_⟩
    obtain ⟨u, M, cs, st0, r, hn, q⟩ := h
    refine ⟨u, _, M, goo_start st0 r hn, ?_⟩
    have hlen : u.α.length = M.length := st0.len
    unfold fnRes at q
    rw [if_pos hn] at q
    revert q
    cases m (cs.map some ++ List.replicate (N.length - ps.length) none) M with
    | nx ρ' M' =>
      intro q σ' H' u' e g
      simp only at q
      cases hc : cutM M.length M' with
      | none => rw [hc] at q; exact q.elim
      | some M2 =>
        rw [hc] at q
        exact q .non H' _ (e.cut (by omega)) (g.sto.cut hc) RD.non
    | rt c M' =>
      intro q v H' u' e st' rv
      simp only at q
      cases hc : cutM (topC M.length c) M' with
      | none => rw [hc] at q; exact q.elim
      | some M2 =>
        rw [hc] at q
        exact q v H' _ (e.cut (by rw [hlen]; exact topC_le _ _)) (st'.cut hc) rv.cut
    | ex x ρ' M' =>
      intro q cls dd σ' H' u' e g rx
      simp only at q
      cases hc : cutM M.length M' with
      | none => rw [hc] at q; exact q.elim
      | some M2 =>
        rw [hc] at q
        exact q cls dd H' _ (e.cut (by omega)) (g.sto.cut hc) rx
    | bk ρ' M' => exact fun q => q.elim
    | ct ρ' M' => exact fun q => q.elim
    | no => exact fun q => q.elim
end

/-! ### calls of defs -/
def eCall (F : FnF) (g : EvA) : EvF := fun ρ M => (g ρ M).bind fun cs M => F cs M
section
variable {X : Cx} {W : WX} {e : Expr} {es : List Expr} {x : Str} {p pos : Pos} {g : EvA} {k n : Nat} {f : Addr} {fd : FuncData} {ps : List Str} {F : FnF}
theorem q_call (G : FnOk X.prog X.w X.K X.mg X.base (L2N.CX X.prog X.w) k f fd ps (spF (tpOf X) ps.length F)) (hr : Room k X.A) (tk : L2N.Takes X W) (hm : X.mg x = some (.ref f)) (hk : PySem.W.keepIn X.K (.ref f) = true) (hb : Binds X.K fd ps [])
    (hF : ∀ cs M, cs.length ≠ ps.length → F cs M = .no) (ha : PA X (e :: es) (tAs (tpOf X) W g)) (hg : Gl X x := by rfl) (hdb : (x == ("__debug__" : Str)) = false := by decide) (he : starEach (e :: es) X.env = (false, eval e X.env) :: starEach es X.env := by rfl) (hpl : (backTo pos (starEach es X.env)).any (·.1) = false := by rfl) :
    PE X (.Call (.Name x p) (e :: es) [] pos) (tE (tpOf X) W (eCall F g)) := by
  refine PE.weak (pe_callS G hr hg hm hk hb (E := WE W) (fun σ => L2N.passAt tk σ) ha hdb he hpl) fun σ H Q h => ?_
  obtain ⟨u, ρ, M, g0, q⟩ := tR_bind (Rp := RepCs (tpOf X)) (k := fun ρ cs M => F cs M) h
  refine ⟨u, ρ, M, g0, Post.mono q fun v H1 ⟨u1, ρ1, M1, c, g1, r1, q1⟩ => ?_⟩
  by_cases hn : c.length = ps.length
  · refine ⟨u1, M1, c, g1.sto, r1, hn, ?_⟩
    revert q1
    cases F c M1 with
    | ok c' M' => exact fun q => q
    | ex x M' => exact fun q => q
    | no => exact fun q => q
  · rw [hF c M1 hn] at q1
    exact q1.elim
theorem fn_len {N n : Nat} {m : EvS} : ∀ cs M, cs.length ≠ n → fnRes N n m cs M = .no := fun cs M h => by unfold fnRes; rw [if_neg h]

/-! ### calls of built-ins -/
def eBi (k : VN) (g : EvA) : EvF := fun ρ M => (g ρ M).bind fun cs M => Res.of (k cs M)
theorem bi_read {k : VN} {σ : L2.St} {H : Hp} {Q : VK} (h : tE (tpOf X) W (eBi k g) σ H Q) : tCB (rVN (tpOf X) k) (tAs (tpOf X) W g) σ H Q := by
  obtain ⟨u, ρ, M, g0, q⟩ := tR_bind (Rp := RepCs (tpOf X)) (k := fun ρ cs M => Res.of (k cs M)) h
  refine ⟨u, ρ, M, g0, Post.mono q fun v H1 ⟨u1, ρ1, M1, c, g1, r1, q1⟩ => ⟨u1, M1, c, g1.sto, r1, ?_⟩⟩
  revert q1
  cases k c M1 with
  | none => exact fun q => q
  | some p => exact fun q => q
theorem q_bi {k : VN} {id : String} (hc : CallR X (.builtin id) (rVN (tpOf X) k)) (hm : X.mg x = none) (ha : PA X (e :: es) (tAs (tpOf X) W g)) (hv : bootBuiltins x = some (.builtin id) := by decide +kernel) (hg : Gl X x := by rfl) (hn : x ≠ "__name__" := by decide) (hdb : (x == ("__debug__" : Str)) = false := by decide)
    (he : starEach (e :: es) X.env = (false, eval e X.env) :: starEach es X.env := by rfl) (hpl : (backTo pos (starEach es X.env)).any (·.1) = false := by rfl) : PE X (.Call (.Name x p) (e :: es) [] pos) (tE (tpOf X) W (eBi k g)) :=
  PE.weak (pe_callB hc hg hm hv ha hn hdb he hpl) fun σ H Q h => bi_read h
theorem q_ty {k : VN} {T : String} (hc : CallR X (.type T) (rVN (tpOf X) k)) (hm : X.mg x = none) (ha : PA X (e :: es) (tAs (tpOf X) W g)) (hv : bootBuiltins x = some (.type T) := by decide +kernel) (hg : Gl X x := by rfl) (hn : x ≠ "__name__" := by decide) (hdb : (x == ("__debug__" : Str)) = false := by decide)
    (he : starEach (e :: es) X.env = (false, eval e X.env) :: starEach es X.env := by rfl) (hpl : (backTo pos (starEach es X.env)).any (·.1) = false := by rfl) :
    PE X (.Call (.Name x p) (e :: es) [] pos) (tE (tpOf X) W (eBi k g)) :=
  PE.weak (pe_callTy hc hg hm hv ha hn hdb he hpl) fun σ H Q h => bi_read h

/-! ### displays -/
def dats : List Cell → Option (List PyData)
  | [] => some []
  | .dat d :: cs => match dats cs with | some ds => some (d :: ds) | none => none
  | .obj _ :: _ => none
  | .fdc _ :: _ => none
  | .ftd _ :: _ => none
theorem dats_rep {tp : Tp} {u : Wo} : ∀ {vs : List V} {cs : List Cell} {ds : List PyData}, RepCs tp u vs cs → dats cs = some ds → RDs tp.K u.F vs ds
  | _, _, _, .nil, e => by cases e; exact .nil
  | _, .obj l :: _, _, .cons h t, e => by cases e
  | _, .fdc l :: _, _, .cons h t, e => by cases e
  | _, .ftd l :: _, _, .cons h t, e => by cases e
  | _, .dat d :: cs, ds, .cons h t, e => by
    rw [dats] at e
    cases q : dats cs with
    | none => rw [q] at e; cases e
    | some es =>
      rw [q] at e
      cases e
      exact .cons h (dats_rep t q)
def vTup : VN := fun cs M => match dats cs with
  | some ds => if ds.length ≤ LIM then some (.dat (.tuple ds), M) else none
  | none => none
def vLst : VN := fun cs M => match dats cs with
  | some ds => if ds.length ≤ LIM then some (.dat (.list ds), M) else none
  | none => none
/-- a list that will change -/
def vNewL : VN := fun cs M => match dats cs with
  | some ds => if ds.length ≤ LIM then some (.obj M.length, M ++ [.lst ds]) else none
  | none => none
theorem q_tup {x1 : Nat} (h : PA X es (tAs (tpOf X) W g)) : PE X (.Tuple es x1 pos) (tE (tpOf X) W (eBi vTup g)) := by
  refine PE.weak (pe_tup h) fun σ H Q h => ?_
  obtain ⟨u, ρ, M, g0, q⟩ := bi_read h
  refine ⟨u, ρ, M, g0, Post.mono q fun vs H1 ⟨u1, M1, cs, s1, r1, q1⟩ => ?_⟩
  unfold vTup at q1
  split at q1
  · rename_i ds e
    split at q1
    · rename_i hz
      have rd := dats_rep r1 e
      have z : vs.length ≤ sizeLine := by rw [rd.length]; exact lim_ok hz
      exact ⟨z, post_tuple s1 rd z q1⟩
    · exact q1.elim
  · exact q1.elim
theorem q_lst (h : PA X es (tAs (tpOf X) W g)) : PE X (.List es pos) (tE (tpOf X) W (eBi vLst g)) := by
  refine PE.weak (pe_lst h) fun σ H Q h => ?_
  obtain ⟨u, ρ, M, g0, q⟩ := bi_read h
  refine ⟨u, ρ, M, g0, Post.mono q fun vs H1 ⟨u1, M1, cs, s1, r1, q1⟩ => ?_⟩
  unfold vLst at q1
  split at q1
  · rename_i ds e
    split at q1
    · rename_i hz
      have rd := dats_rep r1 e
      have z : vs.length ≤ sizeLine := by rw [rd.length]; exact lim_ok hz
      exact ⟨z, post_list s1 rd z q1⟩
    · exact q1.elim
  · exact q1.elim
/-- the answer of a step that makes a new list that will change -/
theorem post_new {tp : Tp} {u : Wo} {M : Mem} {H : Hp} {vs : List V} {ds : List PyData} {Q : VK} (s : Sto tp u M H) (r : RDs tp.K u.F vs ds) (z : vs.length ≤ sizeLine) (q : PostO tp u (some (.obj M.length, M ++ [.lst ds])) Q) :
    ∀ p, H p = none → Q (.ref p) (upd H p (.lst vs)) := fun p hp => by
  obtain ⟨e, s'⟩ := s.alloc (o := .lst vs) (m := .lst ds) hp ⟨vs, upd_same, r, z⟩
  exact q (.ref p) _ _ e s' ⟨p, by rw [← s.len]; exact List.getElem?_concat_length, rfl⟩
theorem q_newL (h : PA X es (tAs (tpOf X) W g)) : PE X (.List es pos) (tE (tpOf X) W (eBi vNewL g)) := by
  refine PE.weak (pe_lst h) fun σ H Q h => ?_
  obtain ⟨u, ρ, M, g0, q⟩ := bi_read h
  refine ⟨u, ρ, M, g0, Post.mono q fun vs H1 ⟨u1, M1, cs, s1, r1, q1⟩ => ?_⟩
  unfold vNewL at q1
  split at q1
  · rename_i ds e
    split at q1
    · rename_i hz
      have rd := dats_rep r1 e
      have z : vs.length ≤ sizeLine := by rw [rd.length]; exact lim_ok hz
      exact ⟨z, post_new s1 rd z q1⟩
    · exact q1.elim
  · exact q1.elim
end
end QL

set_option Elab.async false
set_option linter.all false
set_option maxRecDepth 100000
set_option maxHeartbeats 2000000
namespace QL
open PySem PySem.Spec PyProof.Rows L2

theorem rep1 {tp : Tp} {u : Wo} {vs : List V} {c : Cell} (r : RepCs tp u vs [c]) : ∃ v, vs = [v] ∧ RepC tp u v c := by
  cases r with
  | cons h t => cases t; exact ⟨_, rfl, h⟩
/-- a one-place rule as a call's -/
def v1N (k : V1) : VN
  | [c], M => k c M
  | _, _ => none
def vLen : V1 := fun c M => match asD c M with
  | some (.list ds) => some (.dat (.int ds.length), M)
  | some (.tuple ds) => some (.dat (.int ds.length), M)
  | some (.str x) => if x.length ≤ LIM then some (.dat (.int x.length), M) else none
  | _ => none
/-- all(..), any(..) of a list of truths -/
def bools : List PyData → Option (List Bool)
  | [] => some []
  | .bool b :: ds => match bools ds with | some bs => some (b :: bs) | none => none
  | _ :: _ => none
def vAll : V1 := fun c M => match asL c M with
  | some ds => match bools ds with | some bs => some (.dat (.bool (bs.all id)), M) | none => none
  | none => none
def vAny : V1 := fun c M => match asL c M with
  | some ds => match bools ds with | some bs => some (.dat (.bool (bs.any id)), M) | none => none
  | none => none
/-- tuple(..) -/
def vToT : V1 := fun c M => match asT c with
  | some ds => some (.dat (.tuple ds), M)
  | none => match asL c M with
    | some ds => some (.dat (.tuple ds), M)
    | none => none
/-- list(..), a list that stays | one that will change -/
def vToL : V1 := fun c M => match asD c M with
  | some (.list ds) => some (.dat (.list ds), M)
  | some (.tuple ds) => some (.dat (.list ds), M)
  | _ => none
def vToNewL : V1 := fun c M => match asD c M with
  | some (.list ds) => some (.obj M.length, M ++ [.lst ds])
  | some (.tuple ds) => some (.obj M.length, M ++ [.lst ds])
  | _ => none
def vToI : V1
  | .dat (.bool b), M => some (.dat (.int (if b then 1 else 0)), M)
  | .dat (.int i), M => some (.dat (.int i), M)
  | _, _ => none
def vStrI : V1
  | .dat (.int i), M => if i.natAbs.log2 < 1920 then some (.dat (.str (toString i)), M) else none
  | _, _ => none
/-- sorted(..) -/
def neTup : PyData → Bool
  | .tuple (_ :: _) => true
  | _ => false
def noTup : PyData → Bool
  | .none => false
  | .tuple _ => false
  | _ => true
def sortB (ds : List PyData) : Bool := (ds.all fun d => ds.all fun e => PySem.W.alike d e) && (ds.all neTup || ds.all noTup) && (ds.all fun d => decide (d.depth ≤ 32))
section
variable {α : Type}
def mrgF (le : α → α → Bool) : Nat → List α → List α → List α
  | 0, _, _ => []
  | _ + 1, [], ys => ys
  | _ + 1, x :: xs, [] => x :: xs
  | n + 1, x :: xs, y :: ys => if le x y then x :: mrgF le n xs (y :: ys) else y :: mrgF le n (x :: xs) ys
theorem mrgF_eq (le : α → α → Bool) : ∀ (n : Nat) (xs ys : List α), xs.length + ys.length < n → mrgF le n xs ys = List.merge xs ys le
  | 0, _, _, h => by omega
  | _ + 1, [], ys, _ => by rw [mrgF, List.nil_merge]
  | _ + 1, x :: xs, [], _ => by rw [mrgF, List.merge_right]
  | n + 1, x :: xs, y :: ys, h => by
    rw [mrgF, List.cons_merge_cons]
    simp only [List.length_cons] at h
    rw [mrgF_eq le n xs (y :: ys) (by simp only [List.length_cons]; omega), mrgF_eq le n (x :: xs) ys (by simp only [List.length_cons]; omega)]
def msF (le : α → α → Bool) : Nat → List α → List α
  | 0, l => l
  | _ + 1, [] => []
  | _ + 1, [a] => [a]
  | n + 1, a :: b :: xs => mrgF le (xs.length + 3) (msF le n ((a :: b :: xs).take ((xs.length + 3) / 2))) (msF le n ((a :: b :: xs).drop ((xs.length + 3) / 2)))
theorem msF_eq (le : α → α → Bool) : ∀ (n : Nat) (xs : List α), xs.length ≤ n → msF le n xs = xs.mergeSort le
  | 0, l, h => by
    have : l = [] := List.length_eq_zero_iff.mp (by omega)
    subst this
    simp [msF]
  | _ + 1, [], _ => by simp [msF]
  | _ + 1, [a], _ => by simp [msF]
  | n + 1, a :: b :: xs, h => by
    simp only [List.length_cons] at h
    rw [msF, List.mergeSort]
    rw [msF_eq le n _ (by rw [List.length_take]; simp only [List.length_cons]; omega), msF_eq le n _ (by rw [List.length_drop]; simp only [List.length_cons]; omega)]
    rw [mrgF_eq le _ _ _ (by rw [List.length_mergeSort, List.length_mergeSort, List.length_take, List.length_drop]; simp only [List.length_cons]; omega)]
    simp only [List.MergeSort.Internal.splitInTwo_fst, List.MergeSort.Internal.splitInTwo_snd, List.length_cons]
end
def sortD (ds : List PyData) : List PyData := msF (PySem.W.dataLe false id) ds.length ds
theorem sortD_eq (ds : List PyData) : sortD ds = ds.mergeSort (PySem.W.dataLe false id) := msF_eq _ _ _ (Nat.le_refl _)
def vSort : V1 := fun c M => match asL c M with
  | some ds => if sortB ds then some (.dat (.list (sortD ds)), M) else none
  | none => none
/-- isinstance(.., T), T a built-in type -/
def vIsi (p : PyData → Bool) : V1 := fun c M => match asD c M with
  | some d => some (.dat (.bool (p d)), M)
  | none => none

section
variable {X : Cx}
theorem bools_rep {K : PySem.W.Frag} {F : Hp} : ∀ {vs : List V} {ds : List PyData} {bs : List Bool}, RDs K F vs ds → bools ds = some bs → vs = bs.map V.bl
  | _, _, _, .nil, e => by cases e; rfl
  | _, d :: ds, bs, .cons h t, e => by
    cases d with
    | bool b =>
      rw [bools] at e
      cases q : bools ds with
      | none => rw [q] at e; cases e
      | some es =>
        rw [q] at e
        cases e
        cases h
        rw [bools_rep t q]
        rfl
    | none => cases e
    | int _ => cases e
    | str _ => cases e
    | list _ => cases e
    | tuple _ => cases e
    | dict _ => cases e
theorem asD_list {tp : Tp} {u : Wo} {M : Mem} {H : Hp} {x : V} {c : Cell} {ds : List PyData} (s : Sto tp u M H) (r : RepC tp u x c) (e : asD c M = some (.list ds)) : asL c M = some ds := by
  cases c with
  | fdc _ => simp [asD] at e
  | ftd _ => simp [asD] at e
  | dat d => simp only [asD, Option.some.injEq] at e; subst e; rfl
  | obj l =>
    unfold asD at e
    unfold asL
    cases em : M[l]? with
    | none => simp [em] at e
    | some m => cases m <;> simp [em] at e ⊢; exact e
theorem asD_tuple {c : Cell} {M : Mem} {ds : List PyData} (e : asD c M = some (.tuple ds)) : asT c = some ds := by
  cases c with
  | fdc _ => simp [asD] at e
  | ftd _ => simp [asD] at e
  | dat d => simp only [asD, Option.some.injEq] at e; subst e; rfl
  | obj l =>
    unfold asD at e
    cases em : M[l]? with
    | none => simp [em] at e
    | some m => cases m <;> simp [em] at e
theorem asD_str {c : Cell} {M : Mem} {x : Str} (e : asD c M = some (.str x)) : c = .dat (.str x) := by
  cases c with
  | fdc _ => simp [asD] at e
  | ftd _ => simp [asD] at e
  | dat d => simp only [asD, Option.some.injEq] at e; subst e; rfl
  | obj l =>
    unfold asD at e
    cases em : M[l]? with
    | none => simp [em] at e
    | some m => cases m <;> simp [em] at e
/-- a one-place call by its rule -/
theorem call1 {f : Value} {k : V1} (h : ∀ (pins : List (Addr × Obj)) (s : Shared) (σ : L2.St) (H : Hp) (x : V) (us : List Value) (Q : VK) (w : Wo) (M : Mem) (c : Cell), Inv X pins σ H s → Vals [x] us → Sto (tpOf X) w M H → RepC (tpOf X) w x c → PostO (tpOf X) w (k c M) Q →
    wpAny (model X.prog X.w) X.A (call f us) (EP X pins σ Q) X.xe s) : CallR X f (rVN (tpOf X) (v1N k)) := by
  intro pins s σ H xs us Q I r ⟨w, M, cs, st, rc, q⟩
  cases cs with
  | nil => exact q.elim
  | cons c cs =>
    cases cs with
    | nil =>
      obtain ⟨x, rfl, r1⟩ := rep1 rc
      exact h pins s σ H x us Q w M c I r st r1 q
    | cons _ _ => exact q.elim
theorem c_len : CallR X (.builtin "len") (rVN (tpOf X) (v1N vLen)) := call1 fun pins s σ H x us Q w M c I r st r1 q => by
  unfold vLen at q
  split at q
  · rename_i ds e
    obtain ⟨a, vs, rfl, h1, h2, h3⟩ := asL_rep st r1 (asD_list st r1 e)
    exact call_len_seq pins s σ H _ us Q I r ⟨a, vs, rfl, .inl h1.sql, by rw [h2.length]; exact post_int st q⟩
  · rename_i ds e
    obtain ⟨a, vs, rfl, h1, h2, h3⟩ := asT_rep st r1 (asD_tuple e)
    exact call_len_seq pins s σ H _ us Q I r ⟨a, vs, rfl, .inr h1, by rw [h2.length]; exact post_int st q⟩
  · rename_i z e
    split at q
    · rename_i hz
      have := asD_str e
      subst this
      obtain rfl := rep_str r1
      exact call_len_str pins s σ H _ us Q I r ⟨z, rfl, lim_ok hz, post_int st q⟩
    · exact q.elim
  · exact q.elim
theorem c_all (hc : X.calm = true) : CallR X (.builtin "all") (rVN (tpOf X) (v1N vAll)) := call1 fun pins s σ H x us Q w M c I r st r1 q => by
  unfold vAll at q
  split at q
  · rename_i ds e
    split at q
    · rename_i bs eb
      obtain ⟨a, vs, rfl, h1, h2, h3⟩ := asL_rep st r1 e
      exact cr_all hc pins s σ H _ us Q I r ⟨a, bs, rfl, by rw [← bools_rep h2 eb]; exact h1.sql, post_bl st q⟩
    · exact q.elim
  · exact q.elim
theorem c_any (hc : X.calm = true) : CallR X (.builtin "any") (rVN (tpOf X) (v1N vAny)) := call1 fun pins s σ H x us Q w M c I r st r1 q => by
  unfold vAny at q
  split at q
  · rename_i ds e
    split at q
    · rename_i bs eb
      obtain ⟨a, vs, rfl, h1, h2, h3⟩ := asL_rep st r1 e
      exact cr_any hc pins s σ H _ us Q I r ⟨a, bs, rfl, by rw [← bools_rep h2 eb]; exact h1.sql, post_bl st q⟩
    · exact q.elim
  · exact q.elim
theorem c_toT : CallR X (.type "tuple") (rVN (tpOf X) (v1N vToT)) := call1 fun pins s σ H x us Q w M c I r st r1 q => by
  unfold vToT at q
  split at q
  · rename_i ds e
    obtain ⟨a, vs, rfl, h1, h2, h3⟩ := asT_rep st r1 e
    have : c = .dat (.tuple ds) := by
      cases c with
      | fdc _ => simp [asT] at e
      | ftd _ => simp [asT] at e
      | obj l => simp [asT] at e
      | dat d => cases d <;> simp [asT] at e; rw [e]
    subst this
    exact call_tuple_of pins s σ H _ us Q I r ⟨a, vs, rfl, .inr ⟨h1, post_same st r1 q⟩⟩
  · split at q
    · rename_i ds e
      obtain ⟨a, vs, rfl, h1, h2, h3⟩ := asL_rep st r1 e
      exact call_tuple_of pins s σ H _ us Q I r ⟨a, vs, rfl, .inl ⟨h1.sql, post_tuple st h2 h3 q⟩⟩
    · exact q.elim
theorem c_toL : CallR X (.type "list") (rVN (tpOf X) (v1N vToL)) := call1 fun pins s σ H x us Q w M c I r st r1 q => by
  unfold vToL at q
  split at q
  · rename_i ds e
    obtain ⟨a, vs, rfl, h1, h2, h3⟩ := asL_rep st r1 (asD_list st r1 e)
    exact call_list_of pins s σ H _ us Q I r ⟨a, vs, rfl, .inl h1.sql, post_list st h2 h3 q⟩
  · rename_i ds e
    obtain ⟨a, vs, rfl, h1, h2, h3⟩ := asT_rep st r1 (asD_tuple e)
    exact call_list_of pins s σ H _ us Q I r ⟨a, vs, rfl, .inr h1, post_list st h2 h3 q⟩
  · exact q.elim
theorem c_toNewL : CallR X (.type "list") (rVN (tpOf X) (v1N vToNewL)) := call1 fun pins s σ H x us Q w M c I r st r1 q => by
  unfold vToNewL at q
  split at q
  · rename_i ds e
    obtain ⟨a, vs, rfl, h1, h2, h3⟩ := asL_rep st r1 (asD_list st r1 e)
    exact call_list_of pins s σ H _ us Q I r ⟨a, vs, rfl, .inl h1.sql, post_new st h2 h3 q⟩
  · rename_i ds e
    obtain ⟨a, vs, rfl, h1, h2, h3⟩ := asT_rep st r1 (asD_tuple e)
    exact call_list_of pins s σ H _ us Q I r ⟨a, vs, rfl, .inr h1, post_new st h2 h3 q⟩
  · exact q.elim
theorem c_toI : CallR X (.type "int") (rVN (tpOf X) (v1N vToI)) := call1 fun pins s σ H x us Q w M c I r st r1 q => by
  unfold vToI at q
  split at q
  · obtain rfl := rep_bl r1
    exact call_int1 pins s σ H _ us Q I r (.inr ⟨_, rfl, post_int st q⟩)
  · obtain rfl := rep_int r1
    exact call_int1 pins s σ H _ us Q I r (.inl ⟨_, rfl, post_int st q⟩)
  · exact q.elim
theorem c_strI : CallR X (.type "str") (rVN (tpOf X) (v1N vStrI)) := call1 fun pins s σ H x us Q w M c I r st r1 q => by
  unfold vStrI at q
  split at q
  · split at q
    · rename_i hz
      obtain rfl := rep_int r1
      exact call_str_int pins s σ H _ us Q I r ⟨_, rfl, hz, post_str st q⟩
    · exact q.elim
  · exact q.elim
theorem vals_read {pins : List (Addr × Obj)} {σ : L2.St} {H : Hp} {s : Shared} {F : Hp} (I : Inv X pins σ H s) (sub : Same F H) : ∀ {vs : List V} {ds : List PyData} {us : List Value}, RDs X.K F vs ds → Vals vs us →
    PySem.W.EachIs (fun u d => ∃ v, RelV v u ∧ RD X.K F v d) us ds ∧ PySem.W.EachIs (fun u d => ∃ as, Reads s.heap u d as) us ds
  | _, _, _, .nil, .nil => ⟨.nil, .nil⟩
  | _, _, _, .cons h t, .cons r rr => by
    obtain ⟨a, b⟩ := vals_read I sub t rr
    exact ⟨.cons ⟨_, r, h⟩ a, .cons (Dp.reads I _ _ _ (RD.dp _ _ (RD.mono sub _ _ h)) r) b⟩
theorem each_vals {K : PySem.W.Frag} {F : Hp} : ∀ {us : List Value} {ds : List PyData}, PySem.W.EachIs (fun u d => ∃ v, RelV v u ∧ RD K F v d) us ds → ∃ vs, Vals vs us ∧ RDs K F vs ds
  | _, _, .nil => ⟨[], .nil, .nil⟩
  | _, _, .cons ⟨v, r, h⟩ t => by
    obtain ⟨vs, a, b⟩ := each_vals t
    exact ⟨v :: vs, .cons r a, .cons h b⟩
theorem neTup_inv {d : PyData} (h : neTup d = true) : ∃ x r, d = .tuple (x :: r) := by
  cases d with
  | tuple xs => cases xs with
    | nil => cases h
    | cons x r => exact ⟨x, r, rfl⟩
  | _ => cases h
theorem noTup_inv {d : PyData} (h : noTup d = true) : d ≠ .none ∧ ∀ xs, d ≠ .tuple xs := by
  cases d with
  | none => cases h
  | tuple _ => cases h
  | bool _ => exact ⟨(by intro z; cases z), (by intro _ z; cases z)⟩
  | int _ => exact ⟨(by intro z; cases z), (by intro _ z; cases z)⟩
  | str _ => exact ⟨(by intro z; cases z), (by intro _ z; cases z)⟩
  | list _ => exact ⟨(by intro z; cases z), (by intro _ z; cases z)⟩
  | dict _ => exact ⟨(by intro z; cases z), (by intro _ z; cases z)⟩
/-- sorted of a list whose items are read off the frozen part -/
theorem sorted_run {pins : List (Addr × Obj)} {s : Shared} {σ : L2.St} {H : Hp} {a : Addr} {vs : List V} {ds : List PyData} {Q : VK} {w : Wo} {M : Mem} (hu : X.A.units + 100 < cLine) (I : Inv X pins σ H s) (st : Sto (tpOf X) w M H) (h1 : RdK X.K H a vs) (h2 : RDs X.K w.F vs ds) (h3 : vs.length ≤ sizeLine)
    (hs : sortB ds = true) (q : PostO (tpOf X) w (some (.dat (.list (sortD ds)), M)) Q) : wpAny (model X.prog X.w) X.A (call (.builtin "sorted") [.ref a]) (EP X pins σ Q) X.xe s := by
  unfold sortB at hs
  rw [Bool.and_eq_true, Bool.and_eq_true, Bool.or_eq_true] at hs
  obtain ⟨⟨s1, s2⟩, s3⟩ := hs
  obtain ⟨z1, its, n, rv, hl, e⟩ := Inv.rdL I h1
  obtain ⟨e1, e2⟩ := vals_read I st.sub h2 rv
  have hal : PySem.W.AllAlike (ds.map id) := fun d hd d' hd' => by
    rw [List.map_id] at hd hd'
    exact List.all_eq_true.mp (List.all_eq_true.mp s1 d hd) d' hd'
  have hk : PySem.W.Sortable (ds.map id) := by
    rw [List.map_id]
    rcases s2 with s2 | s2
    · exact .inl fun d hd => neTup_inv (List.all_eq_true.mp s2 d hd)
    · exact .inr fun d hd => noTup_inv (List.all_eq_true.mp s2 d hd)
  have hlen := h2.length
  refine PySem.W.sorted_data (bs := ds) (enc := id) (R := fun u d => ∃ v, RelV v u ∧ RD X.K w.F v d) ⟨_, e, rfl, n, rfl⟩ e1 e2 hal hk (by omega) (fun b hb => ?_) fun out ho eo => ?_
  · have := of_decide_eq_true (List.all_eq_true.mp s3 b hb)
    show X.A.units + 2 + b.depth < cLine
    omega
  · rw [← sortD_eq] at eo
    obtain ⟨ws, r1, r2⟩ := each_vals eo
    obtain ⟨c, hc⟩ := PyProof.Rows.sortedAll_at s.heap its out.toArray
    have lw : ws.length ≤ sizeLine := by rw [r1.length, ho]; omega
    have fr : H (s.heap.objs.size + 1) = none := I.hok.fresh (Nat.le_succ _)
    refine ⟨.ref _, _, I.laid (t' := s.toks) (a := s.heap.objs.size + 1) (o := .lst ws) (fun b o q => PyProof.Rows.sortedAll_old q) (Nat.le_succ _) ⟨lw, out, c, r1, hc⟩, rfl, post_list st r2 lw q _ fr⟩
theorem c_sort (hu : X.A.units + 100 < cLine) : CallR X (.builtin "sorted") (rVN (tpOf X) (v1N vSort)) := call1 fun pins s σ H x us Q w M c I r st r1 q => by
  unfold vSort at q
  split at q
  · rename_i ds e
    split at q
    · rename_i hs
      obtain ⟨a, vs, rfl, h1, h2, h3⟩ := asL_rep st r1 e
      have := Vals.ref1 r
      subst this
      exact sorted_run hu I st h1 h2 h3 hs q
    · exact q.elim
  · exact q.elim
/-- isinstance(e, T) -/
theorem q_isi {W : WX} {e : Expr} {f : EvF} {T : String} {p : PyData → Bool} {p1 p2 pos : Pos} {y : Str} (h : PE X e (tE (tpOf X) W f)) (hm : X.mg "isinstance" = none) (hT : X.mg y = none)
    (rule : ∀ (s : Shared) (v : Value) (d : PyData) (as : List Addr) (Q : Value → Shared → Prop), Reads s.heap v d as → (∀ tk, s.toks ≤ tk → Q (.bool (p d)) { s with toks := tk }) → wpAny (model X.prog X.w) X.A (call (.builtin "isinstance") [v, .type T]) Q X.xe s)
    (hv : bootBuiltins y = some (.type T) := by decide +kernel) (hg : Gl X "isinstance" := by rfl) (hgT : Gl X y := by rfl) (hn : y ≠ "__name__" := by decide) (hdb : (y == ("__debug__" : Str)) = false := by decide)
    (he : starEach (e :: [.Name y p2]) X.env = (false, eval e X.env) :: starEach [.Name y p2] X.env := by rfl) (he2 : starEach [.Name y p2] X.env = (false, eval (.Name y p2) X.env) :: starEach [] X.env := by rfl) (hpl : (backTo pos (starEach [.Name y p2] X.env)).any (·.1) = false := by rfl) :
    PE X (.Call (.Name "isinstance" p1) [e, .Name y p2] [] pos) (tE (tpOf X) W (e1 (vIsi p) f)) := by
  have hT' : PE X (.Name y p2) (tC (.ty T)) := pe_bltn hgT hT hv rfl hn hdb
  have hc : CallR X (.builtin "isinstance") (fun xs H Q => ∃ x, xs = [x, .ty T] ∧ rV1 (tpOf X) (vIsi p) x H Q) := by
    intro pins s σ H xs us Q I r ⟨x, ex, w, M, c, st, r1, q⟩
    subst ex
    obtain ⟨u1, u2, rfl, g1, g2⟩ := vals2 r
    cases g2
    unfold vIsi at q
    split at q
    · rename_i d ed
      obtain ⟨as, rd⟩ := Dp.reads I d x u1 (asD_rep st r1 ed) g1
      exact rule s u1 d as _ rd fun tk _ => ⟨.bl _, H, I.tok tk, rfl, post_bl st q⟩
    · exact q.elim
  refine PE.weak (pe_callB hc hg hm (by decide +kernel) (pa_cons h (pa_cons hT' pa_nil he2) he) (by decide) (by decide) he hpl) fun σ H Q h => ?_
  obtain ⟨u, ρ, M, g0, q⟩ := tR_bind (Rp := RepC (tpOf X)) (k := fun ρ c M => Res.of (vIsi p c M)) h
  refine ⟨u, ρ, M, g0, Post.mono q fun v H1 ⟨u1, ρ1, M1, c, g1, r1, q1⟩ => ⟨v, rfl, u1, M1, c, g1.sto, r1, ?_⟩⟩
  revert q1
  cases vIsi p c M1 with
  | none => exact fun q => q
  | some r => exact fun q => q
theorem q_isi_int {W : WX} {e : Expr} {f : EvF} {p1 p2 pos : Pos} (h : PE X e (tE (tpOf X) W f)) (hm : X.mg "isinstance" = none) (hT : X.mg "int" = none) (hg : Gl X "isinstance" := by rfl) (hgT : Gl X "int" := by rfl)
    (he : starEach (e :: [.Name "int" p2]) X.env = (false, eval e X.env) :: starEach [.Name "int" p2] X.env := by rfl) (he2 : starEach [.Name "int" p2] X.env = (false, eval (.Name "int" p2) X.env) :: starEach [] X.env := by rfl) (hpl : (backTo pos (starEach [.Name "int" p2] X.env)).any (·.1) = false := by rfl) :
    PE X (.Call (.Name "isinstance" p1) [e, .Name "int" p2] [] pos) (tE (tpOf X) W (e1 (vIsi PyData.isInt) f)) := q_isi (T := "int") h hm hT (fun _ _ _ _ _ r h => PySem.W.isinstance_int_data r h) (by decide +kernel) hg hgT (by decide) (by decide) he he2 hpl
theorem q_isi_bool {W : WX} {e : Expr} {f : EvF} {p1 p2 pos : Pos} (h : PE X e (tE (tpOf X) W f)) (hm : X.mg "isinstance" = none) (hT : X.mg "bool" = none) (hg : Gl X "isinstance" := by rfl) (hgT : Gl X "bool" := by rfl)
    (he : starEach (e :: [.Name "bool" p2]) X.env = (false, eval e X.env) :: starEach [.Name "bool" p2] X.env := by rfl) (he2 : starEach [.Name "bool" p2] X.env = (false, eval (.Name "bool" p2) X.env) :: starEach [] X.env := by rfl) (hpl : (backTo pos (starEach [.Name "bool" p2] X.env)).any (·.1) = false := by rfl) :
    PE X (.Call (.Name "isinstance" p1) [e, .Name "bool" p2] [] pos) (tE (tpOf X) W (e1 (vIsi PyData.isBool) f)) := q_isi (T := "bool") h hm hT (fun _ _ _ _ _ r h => PySem.W.isinstance_bool_data r h) (by decide +kernel) hg hgT (by decide) (by decide) he he2 hpl
theorem q_isi_str {W : WX} {e : Expr} {f : EvF} {p1 p2 pos : Pos} (h : PE X e (tE (tpOf X) W f)) (hm : X.mg "isinstance" = none) (hT : X.mg "str" = none) (hg : Gl X "isinstance" := by rfl) (hgT : Gl X "str" := by rfl)
    (he : starEach (e :: [.Name "str" p2]) X.env = (false, eval e X.env) :: starEach [.Name "str" p2] X.env := by rfl) (he2 : starEach [.Name "str" p2] X.env = (false, eval (.Name "str" p2) X.env) :: starEach [] X.env := by rfl) (hpl : (backTo pos (starEach [.Name "str" p2] X.env)).any (·.1) = false := by rfl) :
    PE X (.Call (.Name "isinstance" p1) [e, .Name "str" p2] [] pos) (tE (tpOf X) W (e1 (vIsi PyData.isStr) f)) := q_isi (T := "str") h hm hT (fun _ _ _ _ _ r h => PySem.W.isinstance_str_data r h) (by decide +kernel) hg hgT (by decide) (by decide) he he2 hpl
theorem q_isi_tuple {W : WX} {e : Expr} {f : EvF} {p1 p2 pos : Pos} (h : PE X e (tE (tpOf X) W f)) (hm : X.mg "isinstance" = none) (hT : X.mg "tuple" = none) (hg : Gl X "isinstance" := by rfl) (hgT : Gl X "tuple" := by rfl)
    (he : starEach (e :: [.Name "tuple" p2]) X.env = (false, eval e X.env) :: starEach [.Name "tuple" p2] X.env := by rfl) (he2 : starEach [.Name "tuple" p2] X.env = (false, eval (.Name "tuple" p2) X.env) :: starEach [] X.env := by rfl) (hpl : (backTo pos (starEach [.Name "tuple" p2] X.env)).any (·.1) = false := by rfl) :
    PE X (.Call (.Name "isinstance" p1) [e, .Name "tuple" p2] [] pos) (tE (tpOf X) W (e1 (vIsi PyData.isTuple) f)) := q_isi (T := "tuple") h hm hT (fun _ _ _ _ _ r h => PySem.W.isinstance_tuple_data r h) (by decide +kernel) hg hgT (by decide) (by decide) he he2 hpl
theorem q_isi_list {W : WX} {e : Expr} {f : EvF} {p1 p2 pos : Pos} (h : PE X e (tE (tpOf X) W f)) (hm : X.mg "isinstance" = none) (hT : X.mg "list" = none) (hg : Gl X "isinstance" := by rfl) (hgT : Gl X "list" := by rfl)
    (he : starEach (e :: [.Name "list" p2]) X.env = (false, eval e X.env) :: starEach [.Name "list" p2] X.env := by rfl) (he2 : starEach [.Name "list" p2] X.env = (false, eval (.Name "list" p2) X.env) :: starEach [] X.env := by rfl) (hpl : (backTo pos (starEach [.Name "list" p2] X.env)).any (·.1) = false := by rfl) :
    PE X (.Call (.Name "isinstance" p1) [e, .Name "list" p2] [] pos) (tE (tpOf X) W (e1 (vIsi PyData.isList) f)) := q_isi (T := "list") h hm hT (fun _ _ _ _ _ r h => PySem.W.isinstance_list_data r h) (by decide +kernel) hg hgT (by decide) (by decide) he he2 hpl
end
end QL

set_option Elab.async false
set_option linter.all false
set_option maxRecDepth 100000
set_option maxHeartbeats 4000000
namespace QL
open PySem PySem.Spec PyProof.Rows L2
/-! ### enumerate of a tuple -/
open AutoSeq1 MeetsSeq MeetsSeq2 MeetsSeq3 SeqRoads2 in
theorem meets_enumerate_newT (t : Addr) (items : Array Value) :
    Meets (Builtin.«enumerate.__new__» ⟨[.type "enumerate", .ref t], []⟩) (fun _ R s => s.heap.IsTuple t items ∧
      R (.ok (.ret (.ref (s.heap.push { cls := .type "tuple_iterator", data := .fields #[.ref t, .int 0 0] }).objs.size)))
        { s with heap := (s.heap.push { cls := .type "tuple_iterator", data := .fields #[.ref t, .int 0 0] }).push { cls := .type "enumerate", data := .fields #[.none, .bool false, .ref s.heap.objs.size, rawInt 0, .none, .none] } }) :=
  .of_wp fun prog w A R s h => by
    obtain ⟨hp, g, d, tk, os⟩ := s; obtain ⟨h1, h⟩ := h
    have hsub := sub_enumerate
    have q1 : ∀ {A' : Around} {E : Value → Shared → Prop} {Q : Value → Shared → Prop}, Q (.ref hp.objs.size) ⟨hp.push { cls := .type "tuple_iterator", data := .fields #[.ref t, .int 0 0] }, g, d, tk, os⟩ → wpAny (model prog w) A' (pyIter (.ref t)) Q E ⟨hp, g, d, tk, os⟩ :=
      fun q => wpAny_pyIter_tuple (s := ⟨hp, g, d, tk, os⟩) h1 q
    wp_walk using q1
    refine wpAny_stack_any fun st => wpAny_pure ?_
    split
    · rename_i c _ _ _ _ _
      cases (c == Value.type "enumerate")
      · wp_walk using q1
        exact ⟨_, rfl, h⟩
      · wp_walk using q1
        exact ⟨_, rfl, h⟩
    · wp_walk using q1
      exact ⟨_, rfl, h⟩
theorem call_enumerate_tuple {prog : Program} {w : World} {A : Around} {E : Value → Shared → Prop} {s : Shared} {l : Addr} {items : Array Value} {Q : Value → Shared → Prop} (hL : s.heap.IsTuple l items)
    (h : ∀ h', IsEnum h' (s.heap.objs.size + 1) s.heap.objs.size 0 .none → h'.IsTupleIter s.heap.objs.size l 0 → h'.objs.size = s.heap.objs.size + 2 →
      (∀ b o, s.heap.get? b = some o → h'.get? b = some o) → Q (.ref (s.heap.objs.size + 1)) { s with heap := h' }) :
    wpAny (model prog w) A (call (.type "enumerate") [.ref l]) Q E s := by
  refine callType_new F.called_enumerate (by decide) (F.typeCall_enumerate_1 _) (F.newCall_enumerate_1 _) (fun obj => F.args_object_init_2 obj _) F.entry_enumerate_new
    (meets_enumerate_newT l items) ⟨hL, ?_⟩
  have hz : (s.heap.push { cls := .type "tuple_iterator", data := .fields #[.ref l, .int 0 0] }).objs.size = s.heap.objs.size + 1 := Heap.size_push ..
  show _ ∧ _
  rw [hz]
  have he : IsEnum ((s.heap.push { cls := .type "tuple_iterator", data := .fields #[.ref l, .int 0 0] }).push
      { cls := .type "enumerate", data := .fields #[.none, .bool false, .ref s.heap.objs.size, rawInt 0, .none, .none] }) (s.heap.objs.size + 1) s.heap.objs.size 0 .none := by
    have := Heap.get?_push_size (s.heap.push { cls := .type "tuple_iterator", data := .fields #[.ref l, .int 0 0] })
      (o := { cls := .type "enumerate", data := .fields #[.none, .bool false, .ref s.heap.objs.size, rawInt 0, .none, .none] }) rfl
    rw [hz] at this; exact this
  refine ⟨⟨_, he, rfl⟩, h _ he ⟨_, Heap.get?_push_of_some _ (Heap.get?_push_size _ rfl), rfl, rfl⟩ (by rw [Heap.size_push, hz]) fun b o x => Heap.get?_push_of_some _ (Heap.get?_push_of_some _ x)⟩
/-- the tuple at a, each item in a new pair -/
def IteT (K : PySem.W.Frag) (a : Addr) : It :=
  ⟨fun i H => ∃ (xs : List V) (x : V), SqT K H a xs ∧ xs[i]? = some x, fun i H v H' => ∃ T x, v = .ref T ∧ H T = none ∧ H' = upd H T (.tup [.int (i : Nat), x]) ∧ ∀ xs, SqT K H a xs → xs[i]? = some x, fun i H => ∃ xs : List V, SqT K H a xs ∧ xs.length ≤ i⟩
theorem turn_enumT {P : Program} {w : World} {K : PySem.W.Frag} {elts : List Expr} {kk : Nat} {tpos : Pos} (a e it : Addr) (hai : a ≠ it) :
    Turn P w K (.Tuple elts kk tpos) (IteT K a) [e, it] e (fun i h => (∃ old, IsEnum h e it ((i : Nat) : Int) old) ∧ h.IsTupleIter it a i ∧ e ≠ it) where
  mem := by simp
  obj := fun i h st b hb => by
    obtain ⟨⟨old, he⟩, ⟨o, ho, hc, hd⟩, _⟩ := st
    have e' : b = e ∨ b = it := by simpa using hb
    rcases e' with z | z
    · rw [z]; exact ⟨_, he, fun v q => nomatch q⟩
    · rw [z]; exact ⟨o, ho, fun v q => by rw [hd] at q; cases q⟩
  keep := fun i h h' st k => let ⟨⟨old, he⟩, hi, hne⟩ := st; ⟨⟨old, k e (by simp) _ he⟩, hi.at fun o q => k it (by simp) o q, hne⟩
  item := by
    intro X hP hw hK hc i pins s σ H E I hf st hg
    subst hP hw hK
    obtain ⟨⟨old, he⟩, hit, hne⟩ := st
    obtain ⟨xs, x, hq, hx⟩ := hg
    obtain ⟨its, rv, p, hz⟩ := I.tuple hq
    obtain ⟨u, hu, ru⟩ := rv.get hx
    have hel : e < s.heap.objs.size := Heap.lt_size he
    have hil : it < s.heap.objs.size := by obtain ⟨_, q, _⟩ := hit; exact Heap.lt_size q
    have hlt : i < its.toArray.size := by
      have := (List.getElem?_eq_some_iff.mp hu).1
      simpa using this
    have pT : s.heap.IsTuple a its.toArray := p
    refine wpAny_pyNext_enum_itemD (Draws.tuple (prog := X.prog) (w := X.w) (A := X.A.in1) (show X.A.in1.handled = none from I.ok.hd hc) it a hai its.toArray) he ⟨hit, pT⟩ hlt hne ?_ fun x' h' tk hP' ho hit' hT hsz hk => ?_
    · have hea : e ≠ a := by
        intro z
        obtain ⟨o, q, c, _⟩ := p
        rw [← z, he] at q
        cases q
        exact absurd (Value.type.inj c) (by decide)
      first
        | (simp; exact ⟨hne, hea⟩)
        | (simp; exact ⟨hea, hne⟩)
        | (simp; exact hne)
        | (intro hm; simp at hm; rcases hm with z | z <;> first | exact hne z | exact hea z)
    · have hxu : x' = u := by
        have h1 : its.toArray[i]? = some x' := hP'
        rw [List.getElem?_toArray, hu] at h1
        exact (Option.some.inj h1).symm
      subst hxu
      refine ⟨_, rfl, wpAny_letOwnedTupleGo_enum (s := { s with heap := h', toks := tk + 1 }) ho fun h'' he' sb => ?_⟩
      have hT2 : h''.get? s.heap.objs.size = some { cls := .type "tuple", data := .seq #[.int i tk, x'] } := (sb.2 _ (Nat.ne_of_gt hel)).trans hT
      have new : ObjOk X.prog X.w (upd H s.heap.objs.size (.tup [.int (i : Nat), x])) h'' s.heap.objs.size (.tup [.int (i : Nat), x]) :=
        ⟨by show 2 ≤ sizeLine; decide, [.int i tk, x'], .cons ⟨_, rfl⟩ (.cons ru .nil), ⟨_, hT2, rfl, _, rfl⟩⟩
      have I1 : Inv X pins σ (upd H s.heap.objs.size (.tup [.int (i : Nat), x])) { s with heap := h'', toks := tk + 1 } :=
        I.turnedNew (ch := [e, it]) (fun b ob hb q => (sb.2 b (fun z => hb (by simp [z]))).trans (hk b ob (fun z => hb (by simp [z])) (fun z => hb (by simp [z])) q)) hf (Nat.le_refl _) new
      refine ⟨.ref s.heap.objs.size, _, I1, rfl, ⟨_, x, rfl, I.hok.fresh (Nat.le_refl _), rfl, fun ys hy => by rw [I.tuple_inj hy hq]; exact hx⟩, ⟨⟨x', ?_⟩, hit'.1.at fun o q => (sb.2 it (Ne.symm hne)).trans q, hne⟩, fun b hb => ?_⟩
      · have e1 : ((i + 1 : Nat) : Int) = (i : Int) + 1 := by omega
        rw [e1]; exact he'
      · have hb' : b < s.heap.objs.size := by
          have e' : b = e ∨ b = it := by simpa using hb
          rcases e' with z | z
          · rw [z]; exact hel
          · rw [z]; exact hil
        rw [upd_ne (Nat.ne_of_lt hb')]
        exact (hf b hb).1
  done := by
    intro X hP hw hK hc i pins s σ H E I hf st hg
    subst hP hw hK
    obtain ⟨⟨old, he⟩, hit, hne⟩ := st
    obtain ⟨xs, hq, hx⟩ := hg
    obtain ⟨its, rv, p, hz⟩ := I.tuple hq
    obtain ⟨f0, f1, f2, f3, f4, f5⟩ := hf it (by simp)
    have hl := rv.length
    have pT : s.heap.IsTuple a its.toArray := p
    have hx' : its.toArray[i]? = none := by
      rw [List.getElem?_toArray]
      exact List.getElem?_eq_none (by omega)
    have hT : s.TypeIs (.ref e) "enumerate" := ⟨_, he, rfl⟩
    unfold pyNext
    refine wpAny_bind (wpAny_attempt (wpAny_callSpecial?_slot (name := Str.ofString "__next__") hT F.slot_enumerate_next
      (wpAny_call_entry F.slot_enumerate_next hT F.entry_enumerate_next ?_ (F.args_enumerate_next_1 _))))
    show wpAny _ _ (field (.ref e) 2 >>= _) _ _ _
    refine wpAny_bind (wpAny_field he rfl (x := .ref it) rfl ?_)
    refine wpAny_bind (wpAny_nextOf_tuple_end (show X.A.in1.handled = none from I.ok.hd hc) hit pT hx' fun h' x he' hx' => ?_)
    obtain ⟨o, ho, hc⟩ := hx'
    refine wpAny_bind (wpAny_isInstance (T := "StopIteration") (b := true) ⟨o, ho, hc⟩ isSubtype_stop ?_)
    exact wpAny_pure ⟨rfl, I.turned (t' := s.toks) (fun b o hb q => he' b o hb q) f0 f1 f3 f4 f5⟩
  self := fun A i s Q E st h => let ⟨⟨_, he⟩, _⟩ := st; wpAny_pyIter_enum he h
def iEnumT (K : PySem.W.Frag) (ta : TA) : TI := fun σ H R => ta σ H fun vs H1 => ∃ a xs, vs = [.ref a] ∧ SqT K H1 a xs ∧ R (IteT K a) H1
theorem pi_enumT {X : Cx} {e : Expr} {ta : TA} {p pos tpos : Pos} {elts : List Expr} {kk : Nat} (hg : Gl X "enumerate") (hm : X.mg "enumerate" = none) (ha : PA X [e] ta) (hs : starEach [e] X.env = [(false, eval e X.env)] := by rfl) :
    PI X (.Tuple elts kk tpos) (.Call (.Name "enumerate" p) [e] [] pos) (iEnumT X.K ta) := by
  refine ⟨fun pins s σ H R I h => ?_⟩
  refine Call_ (ld_blt I hg hm boot_enumerate (PyProof.Rows.callWith_type1 (thn (ha.run pos pins s σ H _ I h) fun us s1 ⟨vs, H1, I1, r1, q1⟩ => ?_) hs rfl))
  obtain ⟨a, xs, ex, hq, q⟩ := q1
  subst ex
  cases r1 with
  | cons r rr =>
    cases rr
    cases r
    obtain ⟨its, rv, p', hz⟩ := I1.tuple hq
    refine call_enumerate_tuple (show s1.heap.IsTuple a its.toArray from p') fun h' he hit hsz hk => wpAny_pyIter_enum he ?_
    have I2 : Inv X pins σ H1 { s1 with heap := h' } := I1.kept (t' := s1.toks) hk
    have hai : a ≠ s1.heap.objs.size := Nat.ne_of_lt p'.lt
    refine ⟨s1.heap.objs.size + 1, [s1.heap.objs.size + 1, s1.heap.objs.size], _, _, H1, rfl, I2, turn_enumT a (s1.heap.objs.size + 1) s1.heap.objs.size hai, ⟨⟨.none, he⟩, hit, Nat.succ_ne_self _⟩, fun b hb => ?_, q⟩
    have e' : b = s1.heap.objs.size + 1 ∨ b = s1.heap.objs.size := by simpa using hb
    have hle : s1.heap.objs.size ≤ b := by
      rcases e' with z | z
      · rw [z]; exact Nat.le_add_right _ _
      · rw [z]; exact Nat.le_refl _
    exact I1.fpOk hle (I1.hok.fresh hle)
section
variable {K : PySem.W.Frag} {a b : Addr} {xs ys : List V}
theorem walk_enumT : Walk (IteT K a) xs.length (fun H => SqT K H a xs) (YPair (fun i => some (.int (i : Nat))) (fun i => xs[i]?)) :=
  ⟨fun i H hi h => ⟨xs, xs[i], h, by simp [hi]⟩, fun H h => ⟨xs, h, Nat.le_refl _⟩, fun i H x H' hi h ⟨T, y, e1, e2, e3, e4⟩ => ⟨T, _, y, e1, e2, e3, rfl, e4 xs h⟩⟩
theorem walk_zipT {n : Nat} (hn : n = min xs.length ys.length) : Walk (RZ.ItzT K a b) n (fun H => SqT K H a xs ∧ SqT K H b ys) (YPair (fun i => xs[i]?) (fun i => ys[i]?)) :=
  ⟨fun i H hi h => ⟨xs, ys, xs[i]'(by omega), ys[i]'(by omega), h.1, h.2, by simp, by simp⟩, fun H h => ⟨xs, ys, h.1, h.2, by omega⟩, fun i H x H' hi h ⟨T, y, z, e1, e2, e3, e4, e5⟩ => ⟨T, y, z, e1, e2, e3, e4 xs h.1, e5 ys h.2⟩⟩
end
end QL

set_option Elab.async false
set_option linter.all false
set_option maxRecDepth 100000
set_option maxHeartbeats 4000000
namespace QL
open PySem PySem.Spec PyProof.Rows L2

/-! ### what is walked -/
structure Src where
  items : List PyData
  locks : List (Nat × MO)
def Src.holds (s : Src) (M : Mem) : Bool := s.locks.all fun p => decide (M[p.1]? = some p.2)
/-- as Ext, whatever else must stay -/
def Ext0 (u u' : Wo) : Prop := Same u.F u'.F ∧ ∃ m, u'.α = u.α ++ m
theorem Ext.zero {u u' : Wo} (e : Ext u u') : Ext0 u u' := ⟨e.1, e.2.2⟩
theorem Ext0.refl (u : Wo) : Ext0 u u := (Ext.refl u).zero
theorem Ext0.trans {u v w : Wo} (a : Ext0 u v) (b : Ext0 v w) : Ext0 u w := by
  obtain ⟨a1, m, a3⟩ := a
  obtain ⟨b1, n, b3⟩ := b
  exact ⟨a1.trans b1, m ++ n, by rw [b3, a3, List.append_assoc]⟩
theorem Ext0.at {u u' : Wo} (e : Ext0 u u') {l : Nat} {a : Addr} (h : u.α[l]? = some a) : u'.α[l]? = some a := by
  obtain ⟨_, m, e3⟩ := e
  rw [e3, List.getElem?_append_left (List.getElem?_eq_some_iff.mp h).1]
  exact h
/-- J walks what src tells -/
def ItOk (tp : Tp) (u : Wo) (J : It) (src : Src) : Prop := ∃ G Y, Walk J src.items.length G Y ∧ (∀ u' M H, Ext0 u u' → Sto tp u' M H → src.holds M = true → G H) ∧
  (∀ i H x H' u' M d, Ext0 u u' → Sto tp u' M H → src.holds M = true → src.items[i]? = some d → Y i H x H' → ∃ u'', Ext u' u'' ∧ Sto tp u'' M H' ∧ RD tp.K u''.F x d)
theorem ItOk.ext {tp : Tp} {u u1 : Wo} {J : It} {src : Src} (e : Ext u u1) (h : ItOk tp u J src) : ItOk tp u1 J src := by
  obtain ⟨G, Y, w, a, b⟩ := h
  exact ⟨G, Y, w, fun u' M H e' => a u' M H (e.zero.trans e'), fun i H x H' u' M d e' => b i H x H' u' M d (e.zero.trans e')⟩
abbrev EvI := Env' → Mem → Res Src
abbrev tI (tp : Tp) (W : WX) (f : EvI) : TI := tR tp W (ItOk tp) f
theorem PI.weak {X : Cx} {tg e : Expr} {t t' : TI} (h : PI X tg e t) (k : ∀ σ H Q, t' σ H Q → t σ H Q) : PI X tg e t' := ⟨fun pins s σ H Q I q => h.run pins s σ H Q I (k _ _ _ q)⟩
/-- a list or a tuple walked -/
def seqSrc (c : Cell) (M : Mem) : Option Src := match c with
  | .dat (.list ds) => some ⟨ds, []⟩
  | .dat (.tuple ds) => some ⟨ds, []⟩
  | .obj l => match M[l]? with | some (.lst ds) => some ⟨ds, [(l, .lst ds)]⟩ | _ => none
  | _ => none
def iSeq (f : EvF) : EvI := fun ρ M => (f ρ M).bind fun c M => match seqSrc c M with | some s => .ok s M | none => .no
section
variable {X : Cx} {W : WX}
/-- what a list-or-tuple cell is at the heap -/
theorem seq_rep {tp : Tp} {u : Wo} {M : Mem} {H : Hp} {x : V} {c : Cell} {s : Src} (st : Sto tp u M H) (r : RepC tp u x c) (e : seqSrc c M = some s) :
    ∃ a vs, x = .ref a ∧ RDs tp.K u.F vs s.items ∧ vs.length ≤ sizeLine ∧
      ((RdK tp.K H a vs ∧ ∀ u' M' H', Ext0 u u' → Sto tp u' M' H' → s.holds M' = true → ∃ vs', RdK tp.K H' a vs' ∧ RDs tp.K u'.F vs' s.items) ∨ (SqT tp.K H a vs ∧ ∀ u' M' H', Ext0 u u' → Sto tp u' M' H' → SqT tp.K H' a vs)) := by
  cases c with
  | dat d =>
    cases d with
    | list ds =>
      simp only [seqSrc, Option.some.injEq] at e
      subst e
      cases r with
      | @lst a vs _ h1 h2 => exact ⟨a, vs, rfl, h2, rdk_len st.fok h1, .inl ⟨same_rdk st.sub h1, fun u' M' H' e' s' _ => ⟨vs, same_rdk s'.sub (same_rdk e'.1 h1), RDs.mono e'.1 _ _ h2⟩⟩⟩
    | tuple ds =>
      simp only [seqSrc, Option.some.injEq] at e
      subst e
      cases r with
      | @tup a vs _ h1 h2 => exact ⟨a, vs, rfl, h2, sqt_len st.fok h1, .inr ⟨same_sqt st.sub h1, fun u' M' H' e' s' => same_sqt s'.sub (same_sqt e'.1 h1)⟩⟩
    | none => simp [seqSrc] at e
    | bool _ => simp [seqSrc] at e
    | int _ => simp [seqSrc] at e
    | str _ => simp [seqSrc] at e
    | dict _ => simp [seqSrc] at e
  | obj l =>
    obtain ⟨a, h1, h2⟩ := r
    unfold seqSrc at e
    cases em : M[l]? with
    | none => simp [em] at e
    | some m =>
      cases m with
      | lst ds =>
        simp only [em, Option.some.injEq] at e
        subst e h2
        obtain ⟨_, _, _, vs, f4, f5, f6⟩ := st.rep l _ a em (by intro z; cases z) h1
        refine ⟨a, vs, rfl, f5, f6, .inl ⟨.inl (.inl f4), fun u' M' H' e' s' hh => ?_⟩⟩
        have hM : M'[l]? = some (.lst ds) := by
          unfold Src.holds at hh
          simp only [List.all_cons, List.all_nil, Bool.and_true] at hh
          exact of_decide_eq_true hh
        obtain ⟨_, _, _, ws, g4, g5, g6⟩ := s'.rep l _ a hM (by intro z; cases z) (e'.at h1)
        exact ⟨ws, .inl (.inl g4), g5⟩
      | dct _ => simp [em] at e
      | tdc _ => simp [em] at e
      | ins _ _ => simp [em] at e
      | dead => simp [em] at e
  | fdc _ => simp [seqSrc] at e
  | ftd _ => simp [seqSrc] at e
theorem rdl_inj {H : Hp} {a : Addr} {xs ys : List V} (h : Rd H a (.lst xs)) (h' : Rd H a (.lst ys)) : xs = ys := by
  rcases h with h | ⟨o, h⟩
  · rcases h' with h' | ⟨o', h'⟩
    · rw [h] at h'; cases h'; rfl
    · rw [h] at h'; cases h'
  · rcases h' with h' | ⟨o', h'⟩
    · rw [h] at h'; cases h'
    · rw [h] at h'; cases h'; rfl
/-- the list at a, whatever list it is at each turn -/
theorem walk_listQ {K : PySem.W.Frag} {a : Addr} {n : Nat} : Walk (Itl K a) n (fun H => ∃ xs, RdK K H a xs ∧ xs.length = n) (fun i H x H' => H' = H ∧ ∀ xs, RdK K H a xs → xs[i]? = some x) :=
  ⟨fun i H hi ⟨xs, h, hl⟩ => ⟨xs, xs[i], h.sql, by simp⟩, fun H ⟨xs, h, hl⟩ => ⟨xs, h.sql, by omega⟩, fun i H x H' hi ⟨xs, h, hl⟩ ⟨e, q⟩ => ⟨e, fun ys hy => q ys hy.sql⟩⟩
theorem qi_seq {tg e : Expr} {f : EvF} (he : PE X e (tE (tpOf X) W f)) : PI X tg e (tI (tpOf X) W (iSeq f)) := by
  refine ⟨fun pins s σ H R I h => ?_⟩
  obtain ⟨u, ρ, M, g0, q⟩ := tR_bind (Rp := RepC (tpOf X)) (k := fun ρ c M => match seqSrc c M with | some s => .ok s M | none => .no) h
  refine thn (he.run pins s σ H _ I ⟨u, ρ, M, g0, q⟩) fun v s1 ⟨x, H1, I1, r1, u1, ρ1, M1, c, g1, rc, q1⟩ => ?_
  cases es : seqSrc c M1 with
  | none => simp only [es] at q1; exact q1.elim
  | some src =>
    simp only [es] at q1
    obtain ⟨a, vs, rfl, h2, h3, h4⟩ := seq_rep g1.sto rc es
    cases r1
    rcases h4 with ⟨h4, h5⟩ | ⟨h4, h5⟩
    · obtain ⟨its, rv, p, hz⟩ := I1.list h4.sql
      refine wpAny_pyIter_list p.isList ?_
      refine ⟨s1.heap.objs.size, [s1.heap.objs.size], _, _, H1, rfl, I1.kept (t' := s1.toks) fun b o e => Heap.get?_push_of_some _ e, turn_list a _, ⟨_, Heap.get?_push_size _ rfl, rfl, rfl⟩, fun b hb => ?_, ?_⟩
      · have e : b = s1.heap.objs.size := by simpa using hb
        subst e
        exact I1.fpOk (Nat.le_refl _) (I1.hok.fresh (Nat.le_refl _))
      · refine q1 _ H1 u1 (Ext.refl u1) g1.sto ⟨_, _, walk_listQ, fun u' M' H' e' s' hh => ?_, fun i H' x H'' u' M' d e' s' hh hd ⟨eH, hx⟩ => ?_⟩
        · obtain ⟨vs', a1, a2⟩ := h5 u' M' H' e' s' hh
          exact ⟨vs', a1, a2.length⟩
        · subst eH
          obtain ⟨vs', a1, a2⟩ := h5 u' M' H'' e' s' hh
          obtain ⟨v, b1, b2⟩ := a2.get hd
          rw [hx _ a1] at b1
          rw [Option.some.inj b1]
          exact ⟨u', Ext.refl u', s', b2⟩
    · obtain ⟨its, rv, p, hz⟩ := I1.tuple h4
      refine wpAny_pyIter_tuple (show s1.heap.IsTuple a its.toArray from p) ?_
      refine ⟨s1.heap.objs.size, [s1.heap.objs.size], _, _, H1, rfl, I1.kept (t' := s1.toks) fun b o e => Heap.get?_push_of_some _ e, turn_tuple a _, ⟨_, Heap.get?_push_size _ rfl, rfl, rfl⟩, fun b hb => ?_, ?_⟩
      · have e : b = s1.heap.objs.size := by simpa using hb
        subst e
        exact I1.fpOk (Nat.le_refl _) (I1.hok.fresh (Nat.le_refl _))
      · have w : Walk (Itt X.K a) src.items.length (fun H => SqT X.K H a vs) (YAt vs) := h2.length ▸ walk_tup
        refine q1 _ H1 u1 (Ext.refl u1) g1.sto ⟨_, _, w, fun u' M' H' e' s' _ => h5 u' M' H' e' s', fun i H' x H'' u' M' d e' s' hh hd ⟨eH, hx⟩ => ?_⟩
        subst eH
        obtain ⟨v, b1, b2⟩ := (RDs.mono e'.1 _ _ h2).get hd
        rw [hx] at b1
        rw [Option.some.inj b1]
        exact ⟨u', Ext.refl u', s', b2⟩
/-- range -/
def rngD (lo : Int) (n : Nat) : List PyData := (List.range n).map fun i => .int (lo + (i : Nat))
def iRng1 (f : EvF) : EvI := fun ρ M => (f ρ M).bind fun c M => match c with | .dat (.int j) => if 0 ≤ j ∧ j ≤ 1000000 then .ok ⟨rngD 0 j.toNat, []⟩ M else .no | _ => .no
theorem itok_range {tp : Tp} {u : Wo} {lo : Int} {n : Nat} : ItOk tp u (Itr lo n) ⟨rngD lo n, []⟩ := by
  have hn : (rngD lo n).length = n := by unfold rngD; simp
  have w : Walk (Itr lo n) (Src.mk (rngD lo n) []).items.length (fun _ => True) (YFn fun i => .int (lo + i)) := by
    show Walk (Itr lo n) (rngD lo n).length _ _
    rw [hn]; exact walk_range
  refine ⟨_, _, w, fun _ _ _ _ _ _ => trivial, fun i H x H' u' M d e' s' _ hd ⟨eH, hx⟩ => ⟨u', Ext.refl u', by subst eH; exact s', ?_⟩⟩
  subst hx
  have hd' : (rngD lo n)[i]? = some d := hd
  unfold rngD at hd'
  rw [List.getElem?_map] at hd'
  cases q : (List.range n)[i]? with
  | none => rw [q] at hd'; cases hd'
  | some k =>
    have hk := List.getElem?_eq_some_iff.mp q
    have : k = i := by have := hk.2; rw [List.getElem_range] at this; exact this.symm
    subst this
    rw [q] at hd'
    cases hd'
    exact RD.int _
theorem qi_range1 {tg a : Expr} {f : EvF} {p pos : Pos} (ha : PE X a (tE (tpOf X) W f)) (hm : X.mg "range" = none) (hg : Gl X "range" := by rfl) (hs : starEach [a] X.env = [(false, eval a X.env)] := by rfl) (hs' : starEach (a :: []) X.env = (false, eval a X.env) :: starEach [] X.env := by rfl) :
    PI X tg (.Call (.Name "range" p) [a] [] pos) (tI (tpOf X) W (iRng1 f)) := by
  refine PI.weak (pi_range1 hg hm (pa_cons ha pa_nil hs') hs) fun σ H R h => ?_
  obtain ⟨u, ρ, M, g0, q⟩ := tR_bind (Rp := RepC (tpOf X)) (k := fun ρ c M => match c with | .dat (.int j) => if 0 ≤ j ∧ j ≤ 1000000 then .ok (Src.mk (rngD 0 j.toNat) []) M else .no | _ => .no) h
  refine ⟨u, ρ, M, g0, Post.mono q fun v H1 ⟨u1, ρ1, M1, c, g1, r1, q1⟩ => ?_⟩
  cases c with
  | fdc _ => exact q1.elim
  | ftd _ => exact q1.elim
  | obj l => exact q1.elim
  | dat d =>
    cases d with
    | int j =>
      simp only at q1
      split at q1
      · rename_i hj
        obtain rfl := rep_int r1
        exact ⟨j, rfl, by omega, by omega, q1 _ H1 u1 (Ext.refl u1) g1.sto itok_range⟩
      · exact q1.elim
    | none => exact q1.elim
    | bool _ => exact q1.elim
    | str _ => exact q1.elim
    | list _ => exact q1.elim
    | tuple _ => exact q1.elim
    | dict _ => exact q1.elim
end
end QL

set_option Elab.async false
set_option linter.all false
set_option maxRecDepth 100000
set_option maxHeartbeats 4000000
namespace QL
open PySem PySem.Spec PyProof.Rows L2

/-! ### enumerate, zip -/
def enumD (ds : List PyData) : List PyData := ds.zipIdx.map fun p => .tuple [.int (p.2 : Nat), p.1]
def iEnumQ (f : EvF) : EvI := fun ρ M => (f ρ M).bind fun c M => match seqSrc c M with | some s => .ok (Src.mk (enumD s.items) s.locks) M | none => .no
def zipD (xs ys : List PyData) : List PyData := (xs.zip ys).map fun p => .tuple [p.1, p.2]
def iZipQ (f g : EvF) : EvI := fun ρ M => (f ρ M).bind fun c M => (g ρ M).bind fun d M => match seqSrc c M, seqSrc d M with
  | some s, some t => if (asT c).isSome = (asT d).isSome then .ok (Src.mk (zipD s.items t.items) (s.locks ++ t.locks)) M else .no
  | _, _ => .no
theorem enumD_get {ds : List PyData} {i : Nat} {d : PyData} (h : (enumD ds)[i]? = some d) : ∃ x, ds[i]? = some x ∧ d = .tuple [.int (i : Nat), x] := by
  unfold enumD at h
  rw [List.getElem?_map, List.getElem?_zipIdx] at h
  cases q : ds[i]? with
  | none => rw [q] at h; cases h
  | some x =>
    rw [q] at h
    simp at h
    exact ⟨x, rfl, h.symm⟩
theorem zipD_get {xs ys : List PyData} {i : Nat} {d : PyData} (h : (zipD xs ys)[i]? = some d) : ∃ x y, xs[i]? = some x ∧ ys[i]? = some y ∧ d = .tuple [x, y] := by
  unfold zipD at h
  rw [List.getElem?_map] at h
  cases q : (xs.zip ys)[i]? with
  | none => rw [q] at h; cases h
  | some p =>
    rw [q] at h
    obtain ⟨x, y⟩ := p
    obtain ⟨a, b⟩ := List.getElem?_zip_eq_some.mp q
    exact ⟨x, y, a, b, (Option.some.inj h).symm⟩
section
variable {X : Cx} {W : WX}
/-- a new pair yielded -/
theorem pair_new {tp : Tp} {u : Wo} {M : Mem} {H : Hp} {T : Addr} {x y : V} {dx dy : PyData} (s : Sto tp u M H) (hT : H T = none) (rx : RD tp.K u.F x dx) (ry : RD tp.K u.F y dy) :
    ∃ u'', Ext u u'' ∧ Sto tp u'' M (upd H T (.tup [x, y])) ∧ RD tp.K u''.F (.ref T) (.tuple [dx, dy]) := by
  obtain ⟨e, s'⟩ := s.fresh (o := .tup [x, y]) hT (fun xs h => by rcases h with h | h <;> cases h; show 2 ≤ sizeLine; decide) (fun _ _ h => by cases h)
  exact ⟨_, e, s', .tup (.inl (.inl upd_same)) (RDs.mono e.1 _ _ (.cons rx (.cons ry .nil)))⟩
theorem tE_mono {tp : Tp} {f : EvF} {σ : L2.St} {H : Hp} {C C' : VK} (q : tE tp W f σ H C) (k : ∀ v H, C v H → C' v H) : tE tp W f σ H C' := by
  obtain ⟨u, ρ, M, g0, q⟩ := q
  exact ⟨u, ρ, M, g0, Post.mono q k⟩
theorem run1 {e : Expr} {f : EvF} {pos : Pos} {pins : List (Addr × Obj)} {s : Shared} {σ : L2.St} {H : Hp} {C : VK} (he : PE X e (tE (tpOf X) W f)) (hs' : starEach (e :: []) X.env = (false, eval e X.env) :: starEach [] X.env) (I : Inv X pins σ H s) (q : tE (tpOf X) W f σ H C) :
    wpAny (model X.prog X.w) X.A (spliced (backTo pos (starEach [e] X.env))) (fun us s1 => ∃ v u1 H1, us = [u1] ∧ Inv X pins σ H1 s1 ∧ RelV v u1 ∧ C v H1) X.xe s := by
  refine thn ((pa_cons he pa_nil hs').run pos pins s σ H (fun vs H1 => ∃ v, vs = [v] ∧ C v H1) I (tE_mono q fun v H1 hc => ⟨v, rfl, hc⟩)) fun us s1 ⟨vs, H1, I1, r, v, ev, hc⟩ => ?_
  subst ev
  obtain ⟨u1, rfl, r1⟩ := Vals.one r
  exact ⟨v, u1, H1, rfl, I1, r1, hc⟩
/-- the list at a in new pairs with the turn's number -/
theorem walk_enumQ {K : PySem.W.Frag} {a : Addr} {n : Nat} : Walk (Ite K a) n (fun H => ∃ xs, RdK K H a xs ∧ xs.length = n) (fun i H v H' => ∃ T x, v = .ref T ∧ H T = none ∧ H' = upd H T (.tup [.int (i : Nat), x]) ∧ ∀ xs, RdK K H a xs → xs[i]? = some x) :=
  ⟨fun i H hi ⟨xs, h, hl⟩ => ⟨xs, xs[i], h.sql, by simp⟩, fun H ⟨xs, h, hl⟩ => ⟨xs, h.sql, by omega⟩, fun i H x H' hi ⟨xs, h, hl⟩ ⟨T, y, e1, e2, e3, e4⟩ => ⟨T, y, e1, e2, e3, fun xs h => e4 xs h.sql⟩⟩
theorem qi_enum {e : Expr} {f : EvF} {p pos tpos : Pos} {elts : List Expr} {kk : Nat} (he : PE X e (tE (tpOf X) W f)) (hm : X.mg "enumerate" = none) (hg : Gl X "enumerate" := by rfl) (hs : starEach [e] X.env = [(false, eval e X.env)] := by rfl) (hs' : starEach (e :: []) X.env = (false, eval e X.env) :: starEach [] X.env := by rfl) :
    PI X (.Tuple elts kk tpos) (.Call (.Name "enumerate" p) [e] [] pos) (tI (tpOf X) W (iEnumQ f)) := by
  refine ⟨fun pins s σ H R I h => ?_⟩
  have q := tR_bind (Rp := RepC (tpOf X)) (k := fun ρ c M => match seqSrc c M with | some s => .ok (Src.mk (enumD s.items) s.locks) M | none => .no) h
  refine Call_ (ld_blt I hg hm boot_enumerate (PyProof.Rows.callWith_type1 (thn (run1 (pos := pos) he hs' I q) fun us s1 ⟨v, uv, H1, eu, I1, r1, u1, ρ1, M1, c, g1, rc, q1⟩ => ?_) hs rfl))
  subst eu
  cases es : seqSrc c M1 with
  | none => simp only [es] at q1; exact q1.elim
  | some src =>
    simp only [es] at q1
    obtain ⟨a, vs, rfl, h2, h3, h4⟩ := seq_rep g1.sto rc es
    have hlen : (enumD src.items).length = src.items.length := by unfold enumD; simp
    cases r1
    rcases h4 with ⟨h4, h5⟩ | ⟨h4, h5⟩
    · obtain ⟨its, rv, p', hz⟩ := I1.list h4.sql
      refine call_enumerate_list p'.isList fun h' he hit hsz hk => wpAny_pyIter_enum he ?_
      have I2 : Inv X pins σ H1 { s1 with heap := h' } := I1.kept (t' := s1.toks) hk
      refine ⟨s1.heap.objs.size + 1, [s1.heap.objs.size + 1, s1.heap.objs.size], _, _, H1, rfl, I2, turn_enum a (s1.heap.objs.size + 1) s1.heap.objs.size, ⟨⟨.none, he⟩, hit, Nat.succ_ne_self _⟩, fun b hb => ?_, ?_⟩
      · have e' : b = s1.heap.objs.size + 1 ∨ b = s1.heap.objs.size := by simpa using hb
        have hle : s1.heap.objs.size ≤ b := by
          rcases e' with z | z
          · rw [z]; exact Nat.le_add_right _ _
          · rw [z]; exact Nat.le_refl _
        exact I1.fpOk hle (I1.hok.fresh hle)
      · refine q1 _ H1 u1 (Ext.refl u1) g1.sto ⟨_, _, walk_enumQ, fun u' M' H' e' s' hh => ?_, fun i H' x H'' u' M' d e' s' hh hd hy => ?_⟩
        · obtain ⟨vs', a1, a2⟩ := h5 u' M' H' e' s' hh
          exact ⟨vs', a1, a2.length.trans hlen.symm⟩
        · obtain ⟨T, y, rfl, hT, rfl, hx⟩ := hy
          obtain ⟨vs', a1, a2⟩ := h5 u' M' H' e' s' hh
          obtain ⟨dx, e1, rfl⟩ := enumD_get hd
          obtain ⟨v, b1, b2⟩ := a2.get e1
          rw [hx _ a1] at b1
          rw [Option.some.inj b1]
          exact pair_new s' hT (RD.int _) b2
    · obtain ⟨its, rv, p', hz⟩ := I1.tuple h4
      refine call_enumerate_tuple (show s1.heap.IsTuple a its.toArray from p') fun h' he hit hsz hk => wpAny_pyIter_enum he ?_
      have I2 : Inv X pins σ H1 { s1 with heap := h' } := I1.kept (t' := s1.toks) hk
      have hai : a ≠ s1.heap.objs.size := Nat.ne_of_lt p'.lt
      refine ⟨s1.heap.objs.size + 1, [s1.heap.objs.size + 1, s1.heap.objs.size], _, _, H1, rfl, I2, turn_enumT a (s1.heap.objs.size + 1) s1.heap.objs.size hai, ⟨⟨.none, he⟩, hit, Nat.succ_ne_self _⟩, fun b hb => ?_, ?_⟩
      · have e' : b = s1.heap.objs.size + 1 ∨ b = s1.heap.objs.size := by simpa using hb
        have hle : s1.heap.objs.size ≤ b := by
          rcases e' with z | z
          · rw [z]; exact Nat.le_add_right _ _
          · rw [z]; exact Nat.le_refl _
        exact I1.fpOk hle (I1.hok.fresh hle)
      · have w : Walk (IteT X.K a) (Src.mk (enumD src.items) src.locks).items.length (fun H => SqT X.K H a vs) (YPair (fun i => some (.int (i : Nat))) (fun i => vs[i]?)) := by
          show Walk (IteT X.K a) (enumD src.items).length _ _
          rw [hlen, ← h2.length]; exact walk_enumT
        refine q1 _ H1 u1 (Ext.refl u1) g1.sto ⟨_, _, w, fun u' M' H' e' s' _ => h5 u' M' H' e' s', fun i H' x H'' u' M' d e' s' hh hd hy => ?_⟩
        obtain ⟨T, i', y, rfl, hT, rfl, hi, hx⟩ := hy
        obtain rfl := Option.some.inj hi
        obtain ⟨dx, e1, rfl⟩ := enumD_get hd
        obtain ⟨v, b1, b2⟩ := (RDs.mono e'.1 _ _ h2).get e1
        have hx : vs[i]? = some y := hx
        rw [hx] at b1
        rw [Option.some.inj b1]
        exact pair_new s' hT (RD.int _) b2
theorem walk_zipQ {K : PySem.W.Frag} {a b : Addr} {n : Nat} : Walk (Itz K a b) n (fun H => ∃ xs ys, RdK K H a xs ∧ RdK K H b ys ∧ n = min xs.length ys.length) (fun i H v H' => ∃ T x y, v = .ref T ∧ H T = none ∧ H' = upd H T (.tup [x, y]) ∧ (∀ xs, RdK K H a xs → xs[i]? = some x) ∧ ∀ ys, RdK K H b ys → ys[i]? = some y) :=
  ⟨fun i H hi ⟨xs, ys, h, h', hl⟩ => ⟨xs, ys, xs[i]'(by omega), ys[i]'(by omega), h.sql, h'.sql, by simp, by simp⟩, fun H ⟨xs, ys, h, h', hl⟩ => ⟨xs, ys, h.sql, h'.sql, by omega⟩,
    fun i H x H' hi ⟨xs, ys, h, h', hl⟩ ⟨T, y, z, e1, e2, e3, e4, e5⟩ => ⟨T, y, z, e1, e2, e3, fun xs h => e4 xs h.sql, fun ys h => e5 ys h.sql⟩⟩
theorem run2 {e e2 : Expr} {f g : EvF} {pos : Pos} {pins : List (Addr × Obj)} {s : Shared} {σ : L2.St} {H : Hp} {C : V → V → Hp → Prop} (he : PE X e (tE (tpOf X) W f)) (he2 : PE X e2 (tE (tpOf X) W g)) (hs : starEach [e, e2] X.env = (false, eval e X.env) :: starEach [e2] X.env)
    (hs' : starEach (e2 :: []) X.env = (false, eval e2 X.env) :: starEach [] X.env) (I : Inv X pins σ H s) (q : tE (tpOf X) W f σ H fun x H1 => tE (tpOf X) W g σ H1 fun y H2 => C x y H2) :
    wpAny (model X.prog X.w) X.A (spliced (backTo pos (starEach [e, e2] X.env))) (fun us s1 => ∃ v v2 u1 u2 H1, us = [u1, u2] ∧ Inv X pins σ H1 s1 ∧ RelV v u1 ∧ RelV v2 u2 ∧ C v v2 H1) X.xe s := by
  refine thn ((pa_cons he (pa_cons he2 pa_nil hs') hs).run pos pins s σ H (fun vs H1 => ∃ v v2, vs = [v, v2] ∧ C v v2 H1) I (tE_mono q fun v H1 hc => tE_mono hc fun v2 H2 hc => ⟨v, v2, rfl, hc⟩)) fun us s1 ⟨vs, H1, I1, r, v, v2, ev, hc⟩ => ?_
  subst ev
  obtain ⟨u1, u2, rfl, r1, r2⟩ := Vals.two r
  exact ⟨v, v2, u1, u2, H1, rfl, I1, r1, r2, hc⟩
theorem zip_len {xs ys : List PyData} : (zipD xs ys).length = min xs.length ys.length := by unfold zipD; simp
theorem asT_seq {c : Cell} {M : Mem} {s : Src} {ds : List PyData} (h : seqSrc c M = some s) (e : asT c = some ds) : s = ⟨ds, []⟩ := by
  cases c with
  | fdc _ => simp [asT] at e
  | ftd _ => simp [asT] at e
  | obj l => simp [asT] at e
  | dat d => cases d <;> simp [asT] at e <;> simp [seqSrc] at h; rw [← h, e]
theorem qi_zip {e e2 : Expr} {f g : EvF} {p pos tpos : Pos} {elts : List Expr} {kk : Nat} (he : PE X e (tE (tpOf X) W f)) (he2 : PE X e2 (tE (tpOf X) W g)) (hm : X.mg "zip" = none) (hg : Gl X "zip" := by rfl) (hs : starEach [e, e2] X.env = (false, eval e X.env) :: starEach [e2] X.env := by rfl)
    (hs' : starEach (e2 :: []) X.env = (false, eval e2 X.env) :: starEach [] X.env := by rfl) (hpl : (backTo pos (starEach [e2] X.env)).any (·.1) = false := by rfl) :
    PI X (.Tuple elts kk tpos) (.Call (.Name "zip" p) [e, e2] [] pos) (tI (tpOf X) W (iZipQ f g)) := by
  refine ⟨fun pins s σ H R I h => ?_⟩
  have q := tR_bind (Rp := RepC (tpOf X)) (k := fun ρ c M => (g ρ M).bind fun d M => match seqSrc c M, seqSrc d M with
    | some s, some t => if (asT c).isSome = (asT d).isSome then .ok (Src.mk (zipD s.items t.items) (s.locks ++ t.locks)) M else .no
    | _, _ => .no) h
  have q' : tE (tpOf X) W f σ H fun x H1 => tE (tpOf X) W g σ H1 fun y H2 => ∃ u ρ M c d, Goo (tpOf X) u ρ M σ H2 ∧ RepC (tpOf X) u x c ∧ RepC (tpOf X) u y d ∧ Post (tpOf X) W u σ (ItOk (tpOf X)) (match seqSrc c M, seqSrc d M with
    | some s, some t => if (asT c).isSome = (asT d).isSome then .ok (Src.mk (zipD s.items t.items) (s.locks ++ t.locks)) M else .no
    | _, _ => .no) R := by
    refine tE_mono q fun x H1 ⟨u, ρ, M, c, g0, r, q⟩ => ?_
    refine ⟨u, ρ, M, g0, ?_⟩
    revert q
    cases g ρ M with
    | ok d M' => exact fun q y H2 u2 e s r2 => ⟨u2, ρ, M', c, d, g0.ext e s, r.mono e, r2, Post.ext e q⟩
    | ex x M' => exact fun q => q
    | no => exact fun q => q
  refine Call_ (ld_blt I hg hm PyProof.Rows.boot_zip (PyProof.Rows.callWith_type1 (thn (run2 (pos := pos) he he2 hs hs' I q') fun us s1 ⟨v, v2, uv, uv2, H1, eu, I1, r1, r2, u1, ρ1, M1, c, d, g1, rc, rd, q1⟩ => ?_) hs hpl))
  subst eu
  cases es : seqSrc c M1 with
  | none => simp only [es] at q1; exact q1.elim
  | some src =>
    cases et : seqSrc d M1 with
    | none => simp only [es, et] at q1; exact q1.elim
    | some srd =>
      simp only [es, et] at q1
      split at q1
      · rename_i hsame
        obtain ⟨a, vs, rfl, h2, h3, h4⟩ := seq_rep g1.sto rc es
        obtain ⟨b, ws, rfl, k2, k3, k4⟩ := seq_rep g1.sto rd et
        cases r1
        cases r2
        have fresh5 : ∀ c, c ∈ [s1.heap.objs.size + 4, s1.heap.objs.size + 2, s1.heap.objs.size + 3, s1.heap.objs.size, s1.heap.objs.size + 1] → FpOk X pins H1 c := fun c hcm => by
          have e' : c = s1.heap.objs.size + 4 ∨ c = s1.heap.objs.size + 2 ∨ c = s1.heap.objs.size + 3 ∨ c = s1.heap.objs.size ∨ c = s1.heap.objs.size + 1 := by simpa using hcm
          have hle : s1.heap.objs.size ≤ c := by
            rcases e' with z | z | z | z | z
            · rw [z]; exact Nat.le_add_right _ _
            · rw [z]; exact Nat.le_add_right _ _
            · rw [z]; exact Nat.le_add_right _ _
            · rw [z]; exact Nat.le_refl _
            · rw [z]; exact Nat.le_add_right _ _
          exact I1.fpOk hle (I1.hok.fresh hle)
        have locks : ∀ M', (Src.mk (zipD src.items srd.items) (src.locks ++ srd.locks)).holds M' = true → src.holds M' = true ∧ srd.holds M' = true := fun M' h => by
          unfold Src.holds at h ⊢
          rw [List.all_append, Bool.and_eq_true] at h
          exact h
        cases ec : asT c with
        | some dc =>
          cases ed : asT d with
          | none => rw [ec, ed] at hsame; cases hsame
          | some dd =>
            obtain ⟨a', vs', ea, ta, tb, _⟩ := asT_rep g1.sto rc ec
            cases ea
            obtain ⟨b', ws', eb, tc, td, _⟩ := asT_rep g1.sto rd ed
            cases eb
            have e1 := asT_seq es ec
            have e2 := asT_seq et ed
            subst e1 e2
            obtain ⟨its, rv, p1, _⟩ := I1.tuple ta
            obtain ⟨its2, rv2, p2, _⟩ := I1.tuple tc
            obtain ⟨o1, ho1, _⟩ := id p1
            obtain ⟨o2, ho2, _⟩ := id p2
            refine RZ.call_zipT (show s1.heap.IsTuple a its.toArray from p1) (show s1.heap.IsTuple b its2.toArray from p2) fun h' hz hTI hTO h1 h2 hsz hk => wpAny_pyIter_zip hz ?_
            have I2 : Inv X pins σ H1 { s1 with heap := h' } := I1.kept (t' := s1.toks) hk
            refine ⟨s1.heap.objs.size + 4, [s1.heap.objs.size + 4, s1.heap.objs.size + 2, s1.heap.objs.size + 3, s1.heap.objs.size, s1.heap.objs.size + 1], _, _, H1, rfl, I2, RZ.turn_zipT (PySem.W.ktu_apart s1.heap.objs.size a b (Heap.lt_size ho1) (Heap.lt_size ho2)), ⟨hz, hTI, ⟨_, _, hTO⟩, h1, h2⟩, fresh5, ?_⟩
            have w : Walk (RZ.ItzT X.K a b) (zipD dc dd).length (fun H => SqT X.K H a vs' ∧ SqT X.K H b ws') (YPair (fun i => vs'[i]?) (fun i => ws'[i]?)) := walk_zipT (by rw [zip_len, tb.length, td.length])
            have ka : ∀ u' M' H', Ext0 u1 u' → Sto (tpOf X) u' M' H' → SqT X.K H' a vs' := fun u' M' H' e' s' => by
              cases c with
              | fdc _ => simp [asT] at ec
              | ftd _ => simp [asT] at ec
              | obj l => simp [asT] at ec
              | dat dd' =>
                cases dd' <;> simp [asT] at ec
                subst ec
                cases rc with
                | tup z1 z2 =>
                  have := I1.tuple_inj (same_sqt g1.sto.sub z1) ta
                  subst this
                  exact same_sqt s'.sub (same_sqt e'.1 z1)
            have kb : ∀ u' M' H', Ext0 u1 u' → Sto (tpOf X) u' M' H' → SqT X.K H' b ws' := fun u' M' H' e' s' => by
              cases d with
              | fdc _ => simp [asT] at ed
              | ftd _ => simp [asT] at ed
              | obj l => simp [asT] at ed
              | dat dd' =>
                cases dd' <;> simp [asT] at ed
                subst ed
                cases rd with
                | tup z1 z2 =>
                  have := I1.tuple_inj (same_sqt g1.sto.sub z1) tc
                  subst this
                  exact same_sqt s'.sub (same_sqt e'.1 z1)
            refine q1 _ H1 u1 (Ext.refl u1) g1.sto ⟨_, _, w, fun u' M' H' e' s' _ => ⟨ka u' M' H' e' s', kb u' M' H' e' s'⟩, fun i H' x H'' u' M' dt e' s' hh hd hy => ?_⟩
            obtain ⟨T, y1, y2, rfl, hT, rfl, hx1, hx2⟩ := hy
            obtain ⟨dx, dy, f1, f2, rfl⟩ := zipD_get hd
            obtain ⟨v1, b1, b2⟩ := (RDs.mono e'.1 _ _ tb).get f1
            obtain ⟨v2, c1, c2⟩ := (RDs.mono e'.1 _ _ td).get f2
            have hx1 : vs'[i]? = some y1 := hx1
            have hx2 : ws'[i]? = some y2 := hx2
            rw [hx1] at b1
            rw [hx2] at c1
            rw [Option.some.inj b1, Option.some.inj c1]
            exact pair_new s' hT b2 c2
        | none =>
          cases ed : asT d with
          | some dd => rw [ec, ed] at hsame; cases hsame
          | none =>
            have la : RdK X.K H1 a vs ∧ ∀ u' M' H', Ext0 u1 u' → Sto (tpOf X) u' M' H' → src.holds M' = true → ∃ vs', RdK X.K H' a vs' ∧ RDs X.K u'.F vs' src.items := by
              rcases h4 with h4 | h4
              · exact h4
              · exfalso
                cases c with
                | fdc _ => simp [seqSrc] at es
                | ftd _ => simp [seqSrc] at es
                | obj l =>
                  obtain ⟨a', z1, z2⟩ := rc
                  cases z2
                  unfold seqSrc at es
                  cases em : M1[l]? with
                  | none => simp [em] at es
                  | some m =>
                    cases m with
                    | lst ds =>
                      obtain ⟨_, _, _, vs2, f4, _, _⟩ := g1.sto.rep l _ a em (by intro z; cases z) z1
                      obtain ⟨_, _, p, _⟩ := I1.tuple h4.1
                      obtain ⟨_, its, n, _, e5⟩ := I1.hok a _ f4
                      obtain ⟨o, ho, hcc, _⟩ := p
                      rw [e5] at ho
                      cases ho
                      exact absurd (Value.type.inj hcc) (by decide)
                    | dct _ => simp [em] at es
                    | tdc _ => simp [em] at es
                    | ins _ _ => simp [em] at es
                    | dead => simp [em] at es
                | dat dd =>
                  cases dd <;> simp [asT] at ec <;> simp [seqSrc] at es
                  cases rc with
                  | lst z1 z2 =>
                    obtain ⟨_, _, p, _⟩ := I1.tuple h4.1
                    obtain ⟨_, its, n, _, _, e5⟩ := Inv.rdL I1 (same_rdk g1.sto.sub z1)
                    obtain ⟨o, ho, hcc, _⟩ := p
                    rw [e5] at ho
                    cases ho
                    exact absurd (Value.type.inj hcc) (by decide)
            have lb : RdK X.K H1 b ws ∧ ∀ u' M' H', Ext0 u1 u' → Sto (tpOf X) u' M' H' → srd.holds M' = true → ∃ vs', RdK X.K H' b vs' ∧ RDs X.K u'.F vs' srd.items := by
              rcases k4 with h4 | h4
              · exact h4
              · exfalso
                cases d with
                | fdc _ => simp [seqSrc] at et
                | ftd _ => simp [seqSrc] at et
                | obj l =>
                  obtain ⟨a', z1, z2⟩ := rd
                  cases z2
                  unfold seqSrc at et
                  cases em : M1[l]? with
                  | none => simp [em] at et
                  | some m =>
                    cases m with
                    | lst ds =>
                      obtain ⟨_, _, _, vs2, f4, _, _⟩ := g1.sto.rep l _ b em (by intro z; cases z) z1
                      obtain ⟨_, _, p, _⟩ := I1.tuple h4.1
                      obtain ⟨_, its, n, _, e5⟩ := I1.hok b _ f4
                      obtain ⟨o, ho, hcc, _⟩ := p
                      rw [e5] at ho
                      cases ho
                      exact absurd (Value.type.inj hcc) (by decide)
                    | dct _ => simp [em] at et
                    | tdc _ => simp [em] at et
                    | ins _ _ => simp [em] at et
                    | dead => simp [em] at et
                | dat dd =>
                  cases dd <;> simp [asT] at ed <;> simp [seqSrc] at et
                  cases rd with
                  | lst z1 z2 =>
                    obtain ⟨_, _, p, _⟩ := I1.tuple h4.1
                    obtain ⟨_, its, n, _, _, e5⟩ := Inv.rdL I1 (same_rdk g1.sto.sub z1)
                    obtain ⟨o, ho, hcc, _⟩ := p
                    rw [e5] at ho
                    cases ho
                    exact absurd (Value.type.inj hcc) (by decide)
            obtain ⟨la1, la2⟩ := la
            obtain ⟨lb1, lb2⟩ := lb
            obtain ⟨its, rv, p1, _⟩ := I1.list la1.sql
            obtain ⟨its2, rv2, p2, _⟩ := I1.list lb1.sql
            refine call_zip_2 p1.isList p2.isList fun h' hz hTI hTO h1 h2 hsz hk => wpAny_pyIter_zip hz ?_
            have I2 : Inv X pins σ H1 { s1 with heap := h' } := I1.kept (t' := s1.toks) hk
            refine ⟨s1.heap.objs.size + 4, [s1.heap.objs.size + 4, s1.heap.objs.size + 2, s1.heap.objs.size + 3, s1.heap.objs.size, s1.heap.objs.size + 1], _, _, H1, rfl, I2, turn_zip (PySem.W.ktu_apart s1.heap.objs.size a b p1.lt p2.lt), ⟨hz, hTI, ⟨_, _, hTO⟩, h1, h2⟩, fresh5, ?_⟩
            refine q1 _ H1 u1 (Ext.refl u1) g1.sto ⟨_, _, walk_zipQ, fun u' M' H' e' s' hh => ?_, fun i H' x H'' u' M' dt e' s' hh hd hy => ?_⟩
            · obtain ⟨l1, l2⟩ := locks M' hh
              obtain ⟨xs', a1, a2⟩ := la2 u' M' H' e' s' l1
              obtain ⟨ys', b1, b2⟩ := lb2 u' M' H' e' s' l2
              exact ⟨xs', ys', a1, b1, by show (zipD src.items srd.items).length = _; rw [zip_len, a2.length, b2.length]⟩
            · obtain ⟨T, y1, y2, rfl, hT, rfl, hx1, hx2⟩ := hy
              obtain ⟨l1, l2⟩ := locks M' hh
              obtain ⟨xs', a1, a2⟩ := la2 u' M' H' e' s' l1
              obtain ⟨ys', b1, b2⟩ := lb2 u' M' H' e' s' l2
              obtain ⟨dx, dy, f1, f2, rfl⟩ := zipD_get hd
              obtain ⟨v1, c1, c2⟩ := a2.get f1
              obtain ⟨v2, d1, d2⟩ := b2.get f2
              rw [hx1 _ a1] at c1
              rw [hx2 _ b1] at d1
              rw [Option.some.inj c1, Option.some.inj d1]
              exact pair_new s' hT c2 d2
      · exact q1.elim
end
end QL

set_option Elab.async false
set_option linter.all false
set_option maxRecDepth 100000
set_option maxHeartbeats 4000000
namespace QL
open PySem PySem.Spec PyProof.Rows L2

/-! ### for -/
def forL (src : Src) (g : EvG) (body : EvS) : List PyData → EvS
  | [], ρ, M => if src.holds M then .nx ρ M else .no
  | d :: ds, ρ, M => if src.holds M then (g (.dat d) ρ M).bind fun ρ M => match body ρ M with
      | .nx ρ M => forL src g body ds ρ M
      | .ct ρ M => forL src g body ds ρ M
      | .bk ρ M => .nx ρ M
      | r => r
    else .no
def sFor (it : EvI) (g : EvG) (body : EvS) : EvS := fun ρ M => (it ρ M).toS ρ fun src M => forL src g body src.items ρ M
section
variable {X : Cx} {W : WX} {pos : Pos}
theorem forL_holds {tp : Tp} {u : Wo} {src : Src} {g : EvG} {body : EvS} {ds : List PyData} {ρ : Env'} {M : Mem} {D : Ends} (h : PostS tp W u (forL src g body ds ρ M) D) : src.holds M = true := by
  cases ds with
  | nil =>
    unfold forL at h
    split at h
    · assumption
    · exact h.elim
  | cons d ds =>
    unfold forL at h
    split at h
    · assumption
    · exact h.elim
theorem qs_for {tg iter : Expr} {body : List Stmt} {it : EvI} {g : EvG} {fb : EvS} (hp : PassesOwn (model X.prog X.w) X.A X.env X.xe) (hc : X.calm = true) (hi : PI X tg iter (tI (tpOf X) W it)) (hg : PG X tg (tG (tpOf X) (fun _ _ _ _ => False) g)) (nx : ∀ c ρ M, ∃ ρ' M', g c ρ M = .nx ρ' M' ∨ g c ρ M = .no)
    (hb : PSs X body (tS (tpOf X) W fb)) (hs : ∀ x, foldedSetIterable iter X.env x = pure x := by intro _; rfl) : PS X (.For tg iter body [] pos) (tS (tpOf X) W (sFor it g fb)) := by
  refine PS.weak (ps_for hp hc hi hg hb hs) fun D σ H h => ?_
  obtain ⟨u, ρ, M, g0, q⟩ := tS_bind (Rp := ItOk (tpOf X)) (k := fun ρ src M => forL src g fb src.items ρ M) h
  refine ⟨u, ρ, M, g0, Post.mono q fun J H1 ⟨u1, ρ1, M1, src, g1, ok, q1⟩ => ?_⟩
  obtain ⟨G, Y, w, hG, hY⟩ := ok
  refine for_it w (fun i σ H => ∃ u' ρ M, Ext u1 u' ∧ Goo (tpOf X) u' ρ M σ H ∧ PostS (tpOf X) W u' (forL src g fb (src.items.drop i) ρ M) D)
    ⟨u1, ρ1, M1, Ext.refl u1, g1, q1⟩ (fun i σ H _ ⟨u', ρ, M, e, g', q⟩ => hG u' M H e.zero g'.sto (forL_holds q)) (fun i x σ H H' hi ⟨u', ρ, M, e, g', q⟩ hy => ?_) fun σ H ⟨u', ρ, M, e, g', q⟩ => ?_
  · have hh := forL_holds q
    have hd : src.items[i]? = some src.items[i] := List.getElem?_eq_getElem hi
    obtain ⟨u2, e2, s2, rx⟩ := hY i H x H' u' M _ e.zero g'.sto hh hd hy
    rw [List.drop_eq_getElem_cons hi] at q
    unfold forL at q
    rw [if_pos hh] at q
    obtain ⟨ρ3, M3, eg | eg⟩ := nx (.dat src.items[i]) ρ M
    · rw [eg] at q
      refine ⟨u2, ρ, M, .dat src.items[i], g'.ext e2 s2, rx, ?_⟩
      rw [eg]
      intro σ3 H3 u3 e3 g3
      refine ⟨u3, ρ3, M3, g3, ?_⟩
      have q : PostS (tpOf X) W u' (match fb ρ3 M3 with
        | .nx ρ M => forL src g fb (src.items.drop (i + 1)) ρ M
        | .ct ρ M => forL src g fb (src.items.drop (i + 1)) ρ M
        | .bk ρ M => .nx ρ M
        | r => r) D := q
      have e03 := e2.trans e3
      revert q
      cases fb ρ3 M3 with
      | nx ρ4 M4 => exact fun q σ4 H4 u4 e4 g4 => ⟨u4, ρ4, M4, (e.trans e03).trans e4, g4, PostS.ext (e03.trans e4) q⟩
      | ct ρ4 M4 => exact fun q σ4 H4 u4 e4 g4 => ⟨u4, ρ4, M4, (e.trans e03).trans e4, g4, PostS.ext (e03.trans e4) q⟩
      | bk ρ4 M4 => exact fun q σ4 H4 u4 e4 g4 => q σ4 H4 u4 (e03.trans e4) g4
      | rt c M4 => exact fun q v H4 u4 e4 => q v H4 u4 (e03.trans e4)
      | ex x ρ4 M4 => exact fun q c d σ4 H4 u4 e4 => q c d σ4 H4 u4 (e03.trans e4)
      | no => exact fun q => q
    · rw [eg] at q
      exact q.elim
  · rw [List.drop_length] at q
    unfold forL at q
    split at q
    · exact q σ H u' (Ext.refl u') g'
    · exact q.elim

/-! ### while: n turns at most -/
def whileL (c : EvB) (body : EvS) : Nat → EvS
  | 0, _, _ => .no
  | n + 1, ρ, M => (c ρ M).toS ρ fun b M => if b then (match body ρ M with
      | .nx ρ M => whileL c body n ρ M
      | .ct ρ M => whileL c body n ρ M
      | .bk ρ M => .nx ρ M
      | r => r) else .nx ρ M
theorem qs_while {t : Expr} {body : List Stmt} {c : EvB} {fb : EvS} (n : Nat) (hp : PassesOwn (model X.prog X.w) X.A X.env X.xe) (hc : PT X t (tT (tpOf X) W c)) (hb : PSs X body (tS (tpOf X) W fb)) : PS X (.While t body [] pos) (tS (tpOf X) W (whileL c fb n)) := by
  refine PS.weak (ps_while hp hc hb) fun D σ H ⟨u, ρ, M, g0, q⟩ => ?_
  refine ⟨fun m σ H => ∃ u' ρ M, Ext u u' ∧ Goo (tpOf X) u' ρ M σ H ∧ PostS (tpOf X) W u' (whileL c fb m ρ M) D, ⟨n, u, ρ, M, Ext.refl u, g0, q⟩, ?_⟩
  rintro m σ H ⟨u', ρ, M, e, g', q⟩
  cases m with
  | zero => exact q.elim
  | succ m =>
    have q : PostS (tpOf X) W u' ((c ρ M).toS ρ fun b M => if b then (match fb ρ M with
      | .nx ρ M => whileL c fb m ρ M
      | .ct ρ M => whileL c fb m ρ M
      | .bk ρ M => .nx ρ M
      | r => r) else .nx ρ M) D := q
    refine ⟨u', ρ, M, g', ?_⟩
    revert q
    cases c ρ M with
    | no => exact fun q => q
    | ex x M' => exact fun q cls dd H2 u2 e2 s2 r2 => q cls dd σ H2 u2 e2 (g'.ext e2 s2) r2
    | ok b M2 =>
      intro q b' H2 u2 e2 s2 r2
      subst r2
      have q : PostS (tpOf X) W u' (if b' then (match fb ρ M2 with
        | .nx ρ M => whileL c fb m ρ M
        | .ct ρ M => whileL c fb m ρ M
        | .bk ρ M => .nx ρ M
        | r => r) else .nx ρ M2) D := q
      cases b' with
      | false =>
        rw [if_neg Bool.false_ne_true] at q
        simp only [Bool.false_eq_true, if_false]
        exact q σ H2 u2 e2 (g'.ext e2 s2)
      | true =>
        rw [if_pos rfl] at q
        rw [if_pos rfl]
        refine ⟨fun σ H => ∃ u'' ρ M, Ext u u'' ∧ Goo (tpOf X) u'' ρ M σ H ∧ PostS (tpOf X) W u'' (whileL c fb m ρ M) D, fun σ' H' h => ⟨m, Nat.lt_succ_self m, h⟩, u2, ρ, M2, g'.ext e2 s2, ?_⟩
        revert q
        cases fb ρ M2 with
        | nx ρ4 M4 => exact fun q σ4 H4 u4 e4 g4 => ⟨u4, ρ4, M4, (e.trans e2).trans e4, g4, PostS.ext (e2.trans e4) q⟩
        | ct ρ4 M4 => exact fun q σ4 H4 u4 e4 g4 => ⟨u4, ρ4, M4, (e.trans e2).trans e4, g4, PostS.ext (e2.trans e4) q⟩
        | bk ρ4 M4 => exact fun q σ4 H4 u4 e4 g4 => q σ4 H4 u4 (e2.trans e4) g4
        | rt c M4 => exact fun q v H4 u4 e4 => q v H4 u4 (e2.trans e4)
        | ex x ρ4 M4 => exact fun q c d σ4 H4 u4 e4 => q c d σ4 H4 u4 (e2.trans e4)
        | no => exact fun q => q
end

/-! ### list comprehensions -/
def wipeE (ρ : Env') : List Nat → Env'
  | [] => ρ
  | v :: vs => (wipeE ρ vs).set v none
theorem wipeE_length (ρ : Env') : ∀ vs : List Nat, (wipeE ρ vs).length = ρ.length
  | [] => rfl
  | v :: vs => by unfold wipeE; rw [List.length_set, wipeE_length ρ vs]
theorem wipeE_some {ρ : Env'} {i : Nat} {x : Cell} : ∀ {vs : List Nat}, (wipeE ρ vs)[i]? = some (some x) → ρ[i]? = some (some x) ∧ i ∉ vs
  | [], h => ⟨h, by simp⟩
  | v :: vs, h => by
    unfold wipeE at h
    by_cases hi : v = i
    · subst hi
      by_cases hv : v < (wipeE ρ vs).length
      · rw [List.getElem?_set_self hv] at h; cases h
      · rw [List.getElem?_eq_none (by simpa using hv)] at h; cases h
    · rw [List.getElem?_set_ne hi] at h
      obtain ⟨h1, h2⟩ := wipeE_some h
      exact ⟨h1, by simp only [List.mem_cons, not_or]; exact ⟨fun e => hi e.symm, h2⟩⟩
theorem Goo.wipe {tp : Tp} {u : Wo} {ρ : Env'} {M : Mem} {σ : L2.St} {H : Hp} (g : Goo tp u ρ M σ H) (vs : List Nat) : Goo tp u (wipeE ρ vs) M (L2.wipe σ vs) H :=
  ⟨g.sto, by rw [wipe_length, wipeE_length, g.len], fun i c h => by
    obtain ⟨h1, h2⟩ := wipeE_some h
    obtain ⟨v, a, b⟩ := g.env i c h1
    exact ⟨v, by rw [wipe_out h2]; exact a, b⟩⟩
theorem wipe_set (σ : L2.St) (x : Option V) : ∀ (vs : List Nat) (i : Nat), i ∈ vs → L2.wipe (σ.set i x) vs = L2.wipe σ vs
  | [], i, h => by cases h
  | v :: vs, i, h => by
    unfold L2.wipe
    by_cases hv : i ∈ vs
    · rw [wipe_set σ x vs i hv]
    · have e : i = v := by
        rcases List.mem_cons.mp h with h | h
        · exact h
        · exact absurd h hv
      subst e
      have gen : ∀ (ws : List Nat) (τ : L2.St), i ∉ ws → L2.wipe (τ.set i x) ws = (L2.wipe τ ws).set i x := by
        intro ws
        induction ws with
        | nil => intro τ _; rfl
        | cons w ws ih =>
          intro τ hn
          have h1 : i ≠ w := fun e => hn (by rw [e]; exact List.mem_cons_self)
          have h2 : i ∉ ws := fun m => hn (List.mem_cons_of_mem _ m)
          unfold L2.wipe
          rw [ih τ h2, List.set_comm _ _ h1]
      rw [gen vs σ hv, List.set_set]
theorem wipe_none {σ : L2.St} {i : Nat} : ∀ {vs : List Nat}, i ∈ vs → i < σ.length → (L2.wipe σ vs)[i]? = some none
  | [], h, _ => by cases h
  | v :: vs, h, hl => by
    unfold L2.wipe
    by_cases hv : v = i
    · subst hv; rw [List.getElem?_set_self (by rw [wipe_length]; exact hl)]
    · rw [List.getElem?_set_ne hv]
      rcases List.mem_cons.mp h with h | h
      · exact absurd h.symm hv
      · exact wipe_none h hl
theorem wipe_idem (σ : L2.St) (vs : List Nat) : L2.wipe (L2.wipe σ vs) vs = L2.wipe σ vs := by
  refine List.ext_getElem? fun i => ?_
  by_cases hi : i ∈ vs
  · by_cases hl : i < σ.length
    · rw [wipe_none hi (by rw [wipe_length]; exact hl), wipe_none hi hl]
    · rw [List.getElem?_eq_none (by rw [wipe_length, wipe_length]; omega), List.getElem?_eq_none (by rw [wipe_length]; omega)]
  · rw [wipe_out hi]
/-- several slots filled -/
def setMany {α : Type} (ρ : List (Option α)) : List Nat → List α → List (Option α)
  | i :: is, v :: vs => setMany (ρ.set i (some v)) is vs
  | _, _ => ρ
theorem wipe_setMany {vs : List Nat} : ∀ (is : List Nat) (xs : List V) (σ : L2.St), (∀ i ∈ is, i ∈ vs) → L2.wipe (setMany σ is xs) vs = L2.wipe σ vs
  | [], _, σ, _ => rfl
  | _ :: _, [], σ, _ => rfl
  | i :: is, x :: xs, σ, h => by
    show L2.wipe (setMany (σ.set i (some x)) is xs) vs = _
    rw [wipe_setMany is xs _ fun j hj => h j (List.mem_cons_of_mem _ hj), wipe_set σ (some x) vs i (h i List.mem_cons_self)]
theorem Goo.setMany {tp : Tp} {u : Wo} {M : Mem} {H : Hp} : ∀ {is : List Nat} {vs : List V} {ds : List PyData} {ρ : Env'} {σ : L2.St}, Goo tp u ρ M σ H → RDs tp.K u.F vs ds → Goo tp u (QL.setMany ρ is (ds.map Cell.dat)) M (QL.setMany σ is vs) H
  | [], _, _, _, _, g, _ => g
  | _ :: _, _, _, _, _, g, .nil => g
  | i :: is, _, _, ρ, σ, g, .cons h t => Goo.setMany (is := is) (g.set (c := .dat _) h) t
/-- a comprehension's target: one name, or a tuple of names -/
inductive Tgt where
  | one (i : Nat)
  | tup (is : List Nat)
def Tgt.bind (t : Tgt) (d : PyData) (ρ : Env') : Option Env' := match t with
  | .one i => some (ρ.set i (some (.dat d)))
  | .tup is => match d with
    | .tuple ds => if ds.length = is.length then some (setMany ρ is (ds.map Cell.dat)) else none
    | _ => none
def Tgt.slots : Tgt → List Nat
  | .one i => [i]
  | .tup is => is
def gNames : List Nat → TGs
  | [] => gNil
  | i :: is => gCons (gName i) (gNames is)
theorem gNames_read {Q : L2.St → Hp → Prop} {H : Hp} : ∀ {is : List Nat} {vs : List V} {σ : L2.St}, vs.length = is.length → Q (setMany σ is vs) H → gNames is vs σ H Q
  | [], [], σ, _, h => ⟨rfl, h⟩
  | [], _ :: _, σ, e, h => by cases e
  | _ :: _, [], σ, e, h => by cases e
  | i :: is, v :: vs, σ, e, h => ⟨v, vs, rfl, gNames_read (is := is) (vs := vs) (Nat.succ.inj e) h⟩
def Tgt.read (K : PySem.W.Frag) : Tgt → TG
  | .one i => gName i
  | .tup is => gTup K is.length (gNames is)
/-- turn by turn -/
def lcL (src : Src) (t : Tgt) (test : EvB) (elt : EvF) (ρ : Env') : List PyData → Mem → Res (List PyData)
  | [], M => if src.holds M then .ok [] M else .no
  | d :: ds, M => if src.holds M then match t.bind d ρ with
      | some ρ2 => (test ρ2 M).bind fun b M => if b then (elt ρ2 M).bind fun c M => match c with
          | .dat y => (lcL src t test elt ρ ds M).bind fun ys M => .ok (y :: ys) M
          | _ => .no
        else lcL src t test elt ρ ds M
      | none => .no
    else .no
def noEx {α : Type} : Res α → Res α
  | .ok a M => .ok a M
  | _ => .no
def eLc (it : EvI) (t : Tgt) (test : EvB) (elt : EvF) (own : List Nat) : EvF := fun ρ M => (it ρ M).bind fun src M =>
  if src.items.length ≤ LIM then (noEx (lcL src t test elt (wipeE ρ own) src.items M)).bind fun ys M => .ok (.dat (.list ys)) M else .no
def bYes : EvB := fun _ M => .ok true M
theorem qts_nil {X : Cx} {W : WX} : PTs X [] (tT (tpOf X) W bYes) := ⟨fun pins s σ H Q I ⟨u, ρ, M, g, q⟩ => pts_nil.run pins s σ H Q I (q true H u (Ext.refl u) g.sto rfl)⟩
theorem qts_one {X : Cx} {W : WX} {c : Expr} {f : EvB} (h : PT X c (tT (tpOf X) W f)) : PTs X [c] (tT (tpOf X) W f) := pts_one h
end QL

set_option Elab.async false
set_option linter.all false
set_option maxRecDepth 100000
set_option maxHeartbeats 4000000
namespace QL
open PySem PySem.Spec PyProof.Rows L2

/-- the object at D, told by R, is put to what never changes -/
theorem Sto.thaw {tp : Tp} {F R : Hp} {α : List Addr} {M : Mem} {H : Hp} {D : Addr} {vs : List V} (s : Sto tp ⟨F, upd R D (.lst vs), α⟩ M H) (hR : R D = none) (z : vs.length ≤ sizeLine) :
    Ext ⟨F, R, α⟩ ⟨upd F D (.lst vs), R, α⟩ ∧ Sto tp ⟨upd F D (.lst vs), R, α⟩ M H := by
  have hD : H D = some (.lst vs) := s.fr D _ upd_same
  have fD : F D = none := s.dis D _ upd_same
  have e : Ext ⟨F, R, α⟩ ⟨upd F D (.lst vs), R, α⟩ := ⟨fun b x q => (upd_ne (ne_of_none q fD)).trans q, rfl, [], (List.append_nil _).symm⟩
  have rr : ∀ b o, R b = some o → upd R D (.lst vs) b = some o := fun b o q => (upd_ne (ne_of_none q hR)).trans q
  refine ⟨e, ⟨fun b x q => ?_, fun b x q => s.fr b x (rr b x q), fun b x q => ?_, fun b xs q => ?_, s.len, fun l m a h1 h2 h3 => ?_, s.inj⟩⟩
  · have q' : upd F D (.lst vs) b = some x := q
    by_cases hb : b = D
    · subst hb
      rw [upd_same] at q'
      rw [← Option.some.inj q']
      exact hD
    · rw [upd_ne hb] at q'
      exact s.sub b x q'
  · show upd F D (.lst vs) b = none
    have hb : b ≠ D := ne_of_none q hR
    rw [upd_ne hb]
    exact s.dis b x (rr b x q)
  · by_cases hb : b = D
    · subst hb
      rcases q with (q | ⟨w, q⟩) | (q | ⟨w, q⟩) <;> (have q' := q; simp only [upd_same] at q')
      · cases Option.some.inj q'; exact z
      · cases Option.some.inj q'
      · cases Option.some.inj q'
      · cases Option.some.inj q'
    · refine s.fok b xs ?_
      rcases q with (q | ⟨w, q⟩) | (q | ⟨w, q⟩)
      · exact .inl (.inl ((upd_ne hb).symm.trans q))
      · exact .inl (.inr ⟨w, (upd_ne hb).symm.trans q⟩)
      · exact .inr (.inl ((upd_ne hb).symm.trans q))
      · exact .inr (.inr ⟨w, (upd_ne hb).symm.trans q⟩)
  · obtain ⟨g1, g2, g3, g4⟩ := s.rep l m a h1 h2 h3
    have hne : a ≠ D := fun q => by
      have g2' : upd R D (.lst vs) a = none := g2
      rw [q, upd_same] at g2'
      cases g2'
    have g2' : upd R D (.lst vs) a = none := g2
    refine ⟨by show upd F D (.lst vs) a = none; rw [upd_ne hne]; exact g1, by rw [upd_ne hne] at g2'; exact g2', g3, ?_⟩
    refine RepM.mono (u := ⟨F, upd R D (.lst vs), α⟩) (u' := ⟨upd F D (.lst vs), upd R D (.lst vs), α⟩) ?_ (fun _ q => q) g4
    exact ⟨fun b x q => (upd_ne (ne_of_none q fD)).trans q, rfl, [], (List.append_nil _).symm⟩
/-- the object at D changes under R -/
theorem Sto.rewr {tp : Tp} {F R : Hp} {α : List Addr} {M : Mem} {H : Hp} {D : Addr} {o o' : HO} (s : Sto tp ⟨F, upd R D o, α⟩ M H) : Sto tp ⟨F, upd R D o', α⟩ M (upd H D o') := by
  have fD : F D = none := s.dis D _ upd_same
  refine ⟨fun b x q => ?_, fun b x q => ?_, fun b x q => ?_, s.fok, s.len, fun l m a h1 h2 h3 => ?_, s.inj⟩
  · rw [upd_ne (ne_of_none q fD)]
    exact s.sub b x q
  · have q' : upd R D o' b = some x := q
    by_cases hb : b = D
    · subst hb; rw [upd_same] at q' ⊢; exact q'
    · rw [upd_ne hb] at q' ⊢
      exact s.fr b x ((upd_ne hb).trans q')
  · have q' : upd R D o' b = some x := q
    by_cases hb : b = D
    · subst hb; exact fD
    · rw [upd_ne hb] at q'
      exact s.dis b x ((upd_ne hb).trans q')
  · obtain ⟨g1, g2, ⟨y, g3⟩, g4⟩ := s.rep l m a h1 h2 h3
    have g2' : upd R D o a = none := g2
    have hne : a ≠ D := fun q => by
      rw [q, upd_same] at g2'
      cases g2'
    refine ⟨g1, by show upd R D o' a = none; rw [upd_ne hne] at g2' ⊢; exact g2', ⟨y, by rw [upd_ne hne]; exact g3⟩, ?_⟩
    have hk : ∀ x, H a = some x → upd H D o' a = some x := fun x q => by rw [upd_ne hne]; exact q
    cases m with
    | lst ds => obtain ⟨vs, a1, a2, a3⟩ := g4; exact ⟨vs, hk _ a1, a2, a3⟩
    | dct kvs => obtain ⟨a0, a4, a5, es, a1, a2⟩ := g4; exact ⟨a0, a4, a5, es, hk _ a1, a2⟩
    | tdc kvs => obtain ⟨a0, a5, vs, a1, a2⟩ := g4; exact ⟨a0, a5, vs, hk _ a1, a2⟩
    | ins C fs => obtain ⟨C', dx, vs, a0, a1, a2⟩ := g4; exact ⟨C', dx, vs, a0, hk _ a1, a2⟩
    | dead => trivial
/-- a new object is put under R -/
theorem Sto.hold {tp : Tp} {u : Wo} {M : Mem} {H : Hp} {D : Addr} {o : HO} (s : Sto tp u M H) (hD : H D = none) : Sto tp ⟨u.F, upd u.R D o, u.α⟩ M (upd H D o) := by
  have fD : u.F D = none := s.sub.free hD
  have rD : u.R D = none := s.fr.free hD
  refine ⟨fun b x q => ?_, fun b x q => ?_, fun b x q => ?_, s.fok, s.len, fun l m a h1 h2 h3 => ?_, s.inj⟩
  · rw [upd_ne (ne_of_none q fD)]; exact s.sub b x q
  · have q' : upd u.R D o b = some x := q
    by_cases hb : b = D
    · subst hb; rw [upd_same] at q' ⊢; exact q'
    · rw [upd_ne hb] at q' ⊢; exact s.fr b x q'
  · have q' : upd u.R D o b = some x := q
    by_cases hb : b = D
    · subst hb; exact fD
    · rw [upd_ne hb] at q'; exact s.dis b x q'
  · obtain ⟨g1, g2, ⟨y, g3⟩, g4⟩ := s.rep l m a h1 h2 h3
    have hne : a ≠ D := ne_of_none g3 hD
    refine ⟨g1, by show upd u.R D o a = none; rw [upd_ne hne]; exact g2, ⟨y, by rw [upd_ne hne]; exact g3⟩, ?_⟩
    have hk : ∀ x, H a = some x → upd H D o a = some x := fun x q => by rw [upd_ne hne]; exact q
    cases m with
    | lst ds => obtain ⟨vs, a1, a2, a3⟩ := g4; exact ⟨vs, hk _ a1, a2, a3⟩
    | dct kvs => obtain ⟨a0, a4, a5, es, a1, a2⟩ := g4; exact ⟨a0, a4, a5, es, hk _ a1, a2⟩
    | tdc kvs => obtain ⟨a0, a5, vs, a1, a2⟩ := g4; exact ⟨a0, a5, vs, hk _ a1, a2⟩
    | ins C fs => obtain ⟨C', dx, vs, a0, a1, a2⟩ := g4; exact ⟨C', dx, vs, a0, hk _ a1, a2⟩
    | dead => trivial

/-- ItOk bears another frame -/
theorem lcL_holds {tp : Tp} {W : WX} {u : Wo} {σ : L2.St} {β α : Type} {Rp : Wo → β → α → Prop} {Q : β → Hp → Prop} {src : Src} {t : Tgt} {test : EvB} {elt : EvF} {ρ : Env'} {ds : List PyData} {M : Mem} {k : List PyData → Mem → Res α}
    (h : Post tp W u σ Rp ((lcL src t test elt ρ ds M).bind k) Q) : src.holds M = true := by
  cases ds with
  | nil =>
    unfold lcL at h
    split at h
    · assumption
    · exact h.elim
  | cons d ds =>
    unfold lcL at h
    split at h
    · assumption
    · exact h.elim
theorem bind_assoc {α β γ : Type} (r : Res α) (f : α → Mem → Res β) (g : β → Mem → Res γ) : (r.bind f).bind g = r.bind fun a M => (f a M).bind g := by cases r <;> rfl

section
variable {X : Cx} {W : WX}
abbrev W0 : WX := fun _ _ _ _ => False
theorem noEx_post {α β γ : Type} {tp : Tp} {u : Wo} {σ : L2.St} {Rp : Wo → γ → β → Prop} {r : Res α} {k : α → Mem → β} {Q : γ → Hp → Prop} (h : Post tp W u σ Rp ((noEx r).bind fun a M => .ok (k a M) M) Q) : Post tp W0 u σ Rp (r.bind fun a M => .ok (k a M) M) Q := by
  cases r with
  | ok a M => exact h
  | ex x M => exact h.elim
  | no => exact h.elim
theorem lc_read {t : Tgt} {it : EvI} {test : EvB} {elt : EvF} {own : List Nat} {σ : L2.St} {H : Hp} {Q : VK} (ht : ∀ i ∈ t.slots, i ∈ own) (h : tE (tpOf X) W (eLc it t test elt own) σ H Q) :
    tLc (tI (tpOf X) W it) (t.read X.K) (tT (tpOf X) W0 test) (tE (tpOf X) W0 elt) own σ H Q := by
  obtain ⟨u, ρ, M, g0, q⟩ := tR_bind (Rp := ItOk (tpOf X)) (k := fun ρ src M => if src.items.length ≤ LIM then (noEx (lcL src t test elt (wipeE ρ own) src.items M)).bind fun ys M => .ok (Cell.dat (.list ys)) M else .no) h
  refine ⟨u, ρ, M, g0, Post.mono q fun J H1 ⟨u1, ρ1, M1, src, g1, ok, q1⟩ => ?_⟩
  by_cases hlim : src.items.length ≤ LIM
  case neg =>
    rw [if_neg hlim] at q1
    exact q1.elim
  rw [if_pos hlim] at q1
  have q1 := noEx_post q1
  intro D hD
  have fD : u1.F D = none := g1.sto.sub.free hD
  have rD : u1.R D = none := g1.sto.fr.free hD
  obtain ⟨G, Y, w, hG, hY⟩ := ok
  -- what stands between two turns
  refine lc_it w (fun i H => ∃ F α M accv accd, Ext0 u1 ⟨F, u1.R, α⟩ ∧ Goo (tpOf X) ⟨F, upd u1.R D (.lst accv), α⟩ (wipeE ρ1 own) M (L2.wipe σ own) H ∧ RDs X.K F accv accd ∧ accv.length ≤ i ∧
      Post (tpOf X) W0 ⟨F, u1.R, α⟩ σ (RepC (tpOf X)) ((lcL src t test elt (wipeE ρ1 own) (src.items.drop i) M).bind fun ys M => .ok (Cell.dat (.list (accd ++ ys))) M) Q) ?_ ?_ ?_ ?_
  · refine ⟨u1.F, u1.α, M1, [], [], Ext0.refl u1, ?_, .nil, Nat.le_refl _, q1⟩
    exact ⟨g1.sto.hold hD, (g1.wipe own).len, (g1.wipe own).env⟩
  · rintro i H _ ⟨F, α, M, accv, accd, e, g, _, _, q⟩
    exact hG ⟨F, upd u1.R D (.lst accv), α⟩ M H e g.sto (lcL_holds q)
  · rintro i x H H' hi ⟨F, α, M, accv, accd, e, g, racc, hacc, q⟩ hy
    have hh := lcL_holds q
    have hd : src.items[i]? = some src.items[i] := List.getElem?_eq_getElem hi
    obtain ⟨⟨F2, R2, α2⟩, e2, s2, rx⟩ := hY i H x H' ⟨F, upd u1.R D (.lst accv), α⟩ M _ e g.sto hh hd hy
    have eR : R2 = upd u1.R D (.lst accv) := e2.2.1
    subst eR
    rw [List.drop_eq_getElem_cons hi] at q
    unfold lcL at q
    rw [if_pos hh] at q
    have g2 := g.ext e2 s2
    -- behind the target: slots that are the block's own
    have go : ∀ σ2 ρ2, t.bind src.items[i] (wipeE ρ1 own) = some ρ2 → L2.wipe σ2 own = L2.wipe σ own → Goo (tpOf X) ⟨F2, upd u1.R D (.lst accv), α2⟩ ρ2 M σ2 H' →
        L2.wipe σ2 own = L2.wipe σ own ∧ tT (tpOf X) W0 test σ2 H' fun b H3 => if b = true then tE (tpOf X) W0 elt σ2 H3 fun y H4 => ∃ acc, H4 D = some (.lst acc) ∧ acc.length < sizeLine ∧
          (∃ F α M accv accd, Ext0 u1 ⟨F, u1.R, α⟩ ∧ Goo (tpOf X) ⟨F, upd u1.R D (.lst accv), α⟩ (wipeE ρ1 own) M (L2.wipe σ own) (upd H4 D (.lst (acc ++ [y]))) ∧ RDs X.K F accv accd ∧ accv.length ≤ i + 1 ∧
            Post (tpOf X) W0 ⟨F, u1.R, α⟩ σ (RepC (tpOf X)) ((lcL src t test elt (wipeE ρ1 own) (src.items.drop (i + 1)) M).bind fun ys M => .ok (Cell.dat (.list (accd ++ ys))) M) Q) else
          (∃ F α M accv accd, Ext0 u1 ⟨F, u1.R, α⟩ ∧ Goo (tpOf X) ⟨F, upd u1.R D (.lst accv), α⟩ (wipeE ρ1 own) M (L2.wipe σ own) H3 ∧ RDs X.K F accv accd ∧ accv.length ≤ i + 1 ∧
            Post (tpOf X) W0 ⟨F, u1.R, α⟩ σ (RepC (tpOf X)) ((lcL src t test elt (wipeE ρ1 own) (src.items.drop (i + 1)) M).bind fun ys M => .ok (Cell.dat (.list (accd ++ ys))) M) Q) := by
      intro σ2 ρ2 eb ew gg
      rw [eb] at q
      refine ⟨ew, ⟨F2, upd u1.R D (.lst accv), α2⟩, ρ2, M, gg, ?_⟩
      have q : Post (tpOf X) W0 ⟨F, u1.R, α⟩ σ (RepC (tpOf X)) (((test ρ2 M).bind fun b M => if b then (elt ρ2 M).bind fun c M => match c with
          | .dat y => (lcL src t test elt (wipeE ρ1 own) (src.items.drop (i + 1)) M).bind fun ys M => .ok (y :: ys) M
          | _ => .no
        else lcL src t test elt (wipeE ρ1 own) (src.items.drop (i + 1)) M).bind fun ys M => .ok (Cell.dat (.list (accd ++ ys))) M) Q := q
      rw [bind_assoc] at q
      revert q
      cases test ρ2 M with
      | no => exact fun q => q
      | ex x M' => exact fun q cls dd H9 u9 e9 s9 r9 => (show False from q cls dd H9 ⟨u9.F, u1.R, u9.α⟩ ⟨e2.1.trans e9.1, rfl, (e2.zero.trans e9.zero).2⟩ (by
          have eR9 : u9.R = upd u1.R D (.lst accv) := e9.2.1
          obtain ⟨F9, R9, α9⟩ := u9
          have eR9 : R9 = upd u1.R D (.lst accv) := eR9
          subst eR9
          exact ⟨s9.sub, fun b o hb => s9.fr b o ((upd_ne (ne_of_none hb rD)).trans hb), fun b o hb => s9.dis b o ((upd_ne (ne_of_none hb rD)).trans hb), s9.fok, s9.len, fun l m a h1 h2 h3 => by
            obtain ⟨z1, z2, z3, z4⟩ := s9.rep l m a h1 h2 h3
            have z2 : upd u1.R D (.lst accv) a = none := z2
            have hne : a ≠ D := fun w => by rw [w, upd_same] at z2; cases z2
            rw [upd_ne hne] at z2
            exact ⟨z1, z2, z3, z4⟩, s9.inj⟩) r9).elim
      | ok b M3 =>
        intro q b' H3 u3 e3 s3 rb
        obtain rfl : b' = b := rb
        obtain ⟨F3, R3, α3⟩ := u3
        have eR : R3 = upd u1.R D (.lst accv) := e3.2.1
        subst eR
        have q : Post (tpOf X) W0 ⟨F, u1.R, α⟩ σ (RepC (tpOf X)) ((if b' then (elt ρ2 M3).bind fun c M => match c with
            | .dat y => (lcL src t test elt (wipeE ρ1 own) (src.items.drop (i + 1)) M).bind fun ys M => .ok (y :: ys) M
            | _ => .no
          else lcL src t test elt (wipeE ρ1 own) (src.items.drop (i + 1)) M3).bind fun ys M => .ok (Cell.dat (.list (accd ++ ys))) M) Q := q
        have e03 : Ext0 u1 ⟨F3, u1.R, α3⟩ := (e.trans (e2.zero.trans e3.zero) : Ext0 u1 ⟨F3, upd u1.R D (.lst accv), α3⟩)
        have eF : Ext ⟨F, u1.R, α⟩ ⟨F3, u1.R, α3⟩ := ⟨e2.1.trans e3.1, rfl, (e2.zero.trans e3.zero).2⟩
        have gw : Goo (tpOf X) ⟨F3, upd u1.R D (.lst accv), α3⟩ (wipeE ρ1 own) M3 (L2.wipe σ own) H3 := g.ext (e2.trans e3) s3
        cases b' with
        | false =>
          rw [if_neg Bool.false_ne_true] at q
          simp only [Bool.false_eq_true, if_false]
          exact ⟨F3, α3, M3, accv, accd, e03, gw, RDs.mono (e2.1.trans e3.1) _ _ racc, Nat.le_succ_of_le hacc, Post.ext eF q⟩
        | true =>
          rw [if_pos rfl, bind_assoc] at q
          rw [if_pos rfl]
          refine ⟨⟨F3, upd u1.R D (.lst accv), α3⟩, ρ2, M3, gg.ext e3 s3, ?_⟩
          revert q
          cases elt ρ2 M3 with
          | no => exact fun q => q
          | ex x M' => exact fun q cls dd H9 u9 e9 s9 r9 => (show False from q cls dd H9 ⟨u9.F, u1.R, u9.α⟩ ⟨(e2.1.trans e3.1).trans e9.1, rfl, ((e2.zero.trans e3.zero).trans e9.zero).2⟩ (by
              obtain ⟨F9, R9, α9⟩ := u9
              have eR9 : R9 = upd u1.R D (.lst accv) := e9.2.1
              subst eR9
              exact ⟨s9.sub, fun b o hb => s9.fr b o ((upd_ne (ne_of_none hb rD)).trans hb), fun b o hb => s9.dis b o ((upd_ne (ne_of_none hb rD)).trans hb), s9.fok, s9.len, fun l m a h1 h2 h3 => by
                obtain ⟨z1, z2, z3, z4⟩ := s9.rep l m a h1 h2 h3
                have z2 : upd u1.R D (.lst accv) a = none := z2
                have hne : a ≠ D := fun w => by rw [w, upd_same] at z2; cases z2
                rw [upd_ne hne] at z2
                exact ⟨z1, z2, z3, z4⟩, s9.inj⟩) r9).elim
          | ok c M4 =>
            intro q y H4 u4 e4 s4 ry
            obtain ⟨F4, R4, α4⟩ := u4
            have eR : R4 = upd u1.R D (.lst accv) := e4.2.1
            subst eR
            cases c with
            | fdc _ => exact q.elim
            | ftd _ => exact q.elim
            | obj l => exact q.elim
            | dat yd =>
              have q : Post (tpOf X) W0 ⟨F, u1.R, α⟩ σ (RepC (tpOf X)) (((lcL src t test elt (wipeE ρ1 own) (src.items.drop (i + 1)) M4).bind fun ys M => .ok (yd :: ys) M).bind fun ys M => .ok (Cell.dat (.list (accd ++ ys))) M) Q := q
              rw [bind_assoc] at q
              have hacc' : accv.length < sizeLine := by
                have h1 : src.items.length ≤ LIM := hlim
                have h2 : accv.length < LIM := by omega
                exact lim_lt h2
              refine ⟨accv, s4.fr D _ upd_same, hacc', F4, α4, M4, accv ++ [y], accd ++ [yd], e03.trans e4.zero, ?_, ?_, by rw [List.length_append]; simpa using hacc, ?_⟩
              · have gw4 := gw.ext e4 s4
                exact ⟨s4.rewr, gw4.len, fun j c hj => gw4.env j c hj⟩
              · exact (RDs.mono ((e2.1.trans e3.1).trans e4.1) _ _ racc).append (.cons ry .nil)
              · refine Post.ext (eF.trans ⟨e4.1, rfl, e4.zero.2⟩) ?_
                have hc : (fun (ys : List PyData) (M : Mem) => Res.ok (Cell.dat (PyData.list ((accd ++ [yd]) ++ ys))) M) = fun ys M => Res.ok (Cell.dat (PyData.list (accd ++ (yd :: ys)))) M := by
                  funext ys M
                  rw [List.append_assoc]
                  rfl
                rw [hc]
                exact q
    cases t with
    | one j =>
      refine go _ _ rfl ?_ (g2.set (c := .dat _) rx)
      rw [wipe_set _ _ _ _ (ht j (by simp [Tgt.slots])), wipe_idem]
    | tup is =>
      unfold Tgt.bind at q
      cases ed : src.items[i] with
      | tuple ds =>
        rw [ed] at q rx
        simp only at q
        by_cases hl : ds.length = is.length
        · cases rx with
          | @tup a vs _ h1 h2 =>
            refine ⟨a, vs, rfl, same_sqt s2.sub h1, by rw [h2.length]; exact hl, gNames_read (by rw [h2.length]; exact hl) ?_⟩
            refine go _ _ ?_ ?_ (g2.setMany h2)
            · show (match src.items[i] with | .tuple ds => if ds.length = is.length then some (setMany (wipeE ρ1 own) is (ds.map Cell.dat)) else none | _ => none) = _
              rw [ed]
              simp only [hl, if_true]
            · exact (wipe_setMany is vs _ fun j hj => ht j hj).trans (wipe_idem σ own)
        · simp only [hl, if_false] at q
          exact q.elim
      | none => rw [ed] at q; exact q.elim
      | bool _ => rw [ed] at q; exact q.elim
      | int _ => rw [ed] at q; exact q.elim
      | str _ => rw [ed] at q; exact q.elim
      | list _ => rw [ed] at q; exact q.elim
      | dict _ => rw [ed] at q; exact q.elim
  · rintro H ⟨F, α, M, accv, accd, e, g, racc, hacc, q⟩
    rw [List.drop_length] at q
    have hh := lcL_holds q
    unfold lcL at q
    rw [if_pos hh] at q
    have q : ∀ v H' u', Ext ⟨F, u1.R, α⟩ u' → Sto (tpOf X) u' M H' → RepC (tpOf X) u' v (.dat (.list (accd ++ []))) → Q v H' := q
    rw [List.append_nil] at q
    have z : accv.length ≤ sizeLine := Nat.le_trans hacc (lim_ok hlim)
    obtain ⟨e', s'⟩ := g.sto.thaw rD z
    exact q (.ref D) H _ e' s' (.lst (.inl (.inl upd_same)) (RDs.mono e'.1 _ _ racc))
/-- [elt for target in iter if ..] -/
theorem qe_lc {elt tg iter : Expr} {ifs : List Expr} {scope : Scope} {own : List (Str × Nat)} {pos : Pos} {it : EvI} {t : Tgt} {test : EvB} {fe : EvF} (hc : X.calm = true) (hN : X.N.Nodup) (hi : PI X tg iter (tI (tpOf X) W it)) (ok : BlkOk X.N X.env.scope scope own) (ht : ∀ i ∈ t.slots, i ∈ own.map (·.2))
    (hg : ∀ (s : Shared) (H : Hp) (C : Addr) (cl : List (Str × Addr)) (fp : List Addr), PG (X.blk s H scope (compEnvC scope cl C X.env) fp) tg (t.read X.K)) (hts : ∀ (s : Shared) (H : Hp) (C : Addr) (cl : List (Str × Addr)) (fp : List Addr), PTs (X.blk s H scope (compEnvC scope cl C X.env) fp) ifs (tT (tpOf X) W0 test))
    (he : ∀ (s : Shared) (H : Hp) (C : Addr) (cl : List (Str × Addr)) (fp : List Addr), PE (X.blk s H scope (compEnvC scope cl C X.env) fp) elt (tE (tpOf X) W0 fe)) (hs : ∀ x, foldedSetIterable iter X.env x = pure x := by intro _; rfl) :
    PE X (.ListComp elt [⟨tg, iter, ifs, 0⟩] scope pos) (tE (tpOf X) W (eLc it t test fe (own.map (·.2)))) :=
  PE.weak (pe_lc hc hN hi ok hg hts he hs) fun σ H Q h => lc_read ht h
/-- name = [..] -/
theorem qs_setLc (i : Nat) {y : Str} {py : Pos} {elt tg iter : Expr} {ifs : List Expr} {scope : Scope} {own : List (Str × Nat)} {pos spos : Pos} {it : EvI} {t : Tgt} {test : EvB} {fe : EvF} (hc : X.calm = true) (hN : X.N.Nodup) (hi : PI X tg iter (tI (tpOf X) W it)) (ok : BlkOk X.N X.env.scope scope own) (ht : ∀ i ∈ t.slots, i ∈ own.map (·.2))
    (hg : ∀ (s : Shared) (H : Hp) (C : Addr) (cl : List (Str × Addr)) (fp : List Addr), PG (X.blk s H scope (compEnvC scope cl C X.env) fp) tg (t.read X.K)) (hts : ∀ (s : Shared) (H : Hp) (C : Addr) (cl : List (Str × Addr)) (fp : List Addr), PTs (X.blk s H scope (compEnvC scope cl C X.env) fp) ifs (tT (tpOf X) W0 test))
    (he : ∀ (s : Shared) (H : Hp) (C : Addr) (cl : List (Str × Addr)) (fp : List Addr), PE (X.blk s H scope (compEnvC scope cl C X.env) fp) elt (tE (tpOf X) W0 fe)) (hy : X.N[i]? = some y := by rfl) (hyl : X.env.scope.names.lookup y = some .local := by rfl)
    (hsw : swapsWith (.ListComp elt [⟨tg, iter, ifs, 0⟩] scope pos) (some (.Name y py)) spos.line X.env = pure true := by exact sw_true rfl rfl rfl (by decide +kernel)) (hs : ∀ x, foldedSetIterable iter X.env x = pure x := by intro _; rfl) :
    PS X (.Assign [.Name y py] (.ListComp elt [⟨tg, iter, ifs, 0⟩] scope pos) spos) (tS (tpOf X) W (sSet i (eLc it t test fe (own.map (·.2))))) := by
  refine PS.weak (ps_setLc hc hN hy hyl hsw hi ok hg hts he hs) fun D σ H h => ?_
  obtain ⟨u, ρ, M, g0, q⟩ := tS_bind (Rp := RepC (tpOf X)) (k := fun ρ c M => gN i c ρ M) h
  exact lc_read ht ⟨u, ρ, M, g0, Post.mono q fun v H1 ⟨u1, ρ1, M1, c, g1, r1, q1⟩ => q1 _ H1 u1 (Ext.refl u1) (g1.set r1)⟩
end
end QL

set_option Elab.async false
set_option linter.all false
set_option maxRecDepth 100000
set_option maxHeartbeats 4000000
namespace QL
open PySem PySem.Spec PyProof.Rows L2
/-! ### what a set of ints is -/
def kOfS (e : Int × Value) : Str := match e.2 with | .str k _ => k | _ => ⟨#[]⟩
def GoodS (w : World) (e : Int × Value) : Prop := ∃ k tk, e.2 = Value.str k tk ∧ e.1 = hashStr w k

/-- the set of ints at a: S its members, n their number; its table rises and can be walked -/
def SetS (w : World) (h : Heap) (a : Addr) (S : Str → Bool) (n : Nat) : Prop :=
  ∃ o es ep t, h.get? a = some o ∧ o.ExactSet ∧ o.data = .set es ep t ∧ (∀ e ∈ es.toList, GoodS w e) ∧ (es.toList.map kOfS).Nodup ∧ (∀ k, S k = true ↔ k ∈ es.toList.map kOfS) ∧
    es.size < scanBound ∧ t.fits es.size = true ∧ es.size = n ∧ Ris t.place.toList ∧ (w.params.followText "set-order" = true ∨ t.led = true)

section
variable {P : Program} {w : World} {h h' : Heap} {a : Addr} {S : Str → Bool} {n : Nat}

theorem SetS.at (R : SetS w h a S n) (k : ∀ o, h.get? a = some o → h'.get? a = some o) : SetS w h' a S n := by
  obtain ⟨o, es, ep, t, ho, r⟩ := R
  exact ⟨o, es, ep, t, k o ho, r⟩
theorem SetS.lt (R : SetS w h a S n) : a < h.objs.size := by
  obtain ⟨o, es, ep, t, ho, r⟩ := R
  exact Heap.lt_size ho
theorem SetS.congr {S' : Str → Bool} (R : SetS w h a S n) (e : ∀ k, S' k = S k) : SetS w h a S' n := by
  have q : S' = S := funext e
  rw [q]; exact R
theorem goodS_elems {l : List (Int × Value)} (g : ∀ e ∈ l, GoodS w e) : ElemsOf (strKind P w) l := fun e he => by
  obtain ⟨k, tk, h1, h2⟩ := g e he
  exact ⟨⟨k, by rw [h1]; exact strKind_is P w k tk, h2⟩, by rw [h1] <;> rfl⟩
theorem goodS_is {e : Int × Value} (g : GoodS w e) (k : Str) : (strKind P w).is k e.2 = true ↔ kOfS e = k := by
  obtain ⟨k0, tk, h1, _⟩ := g
  unfold kOfS
  rw [h1]
  show ((k0 == k) = true) ↔ k0 = k
  exact beq_iff_eq
theorem goodS_mem {l : List (Int × Value)} (g : ∀ e ∈ l, GoodS w e) (k : Str) : k ∈ l.map kOfS ↔ ∃ e ∈ l, (strKind P w).is k e.2 = true := by
  rw [List.mem_map]
  constructor
  · rintro ⟨e, he, q⟩
    exact ⟨e, he, (goodS_is (g e he) k).2 q⟩
  · rintro ⟨e, he, q⟩
    exact ⟨e, he, (goodS_is (g e he) k).1 q⟩
theorem SetS.setOf (R : SetS w h a S n) : h.SetOf (strKind P w) a S n := by
  obtain ⟨o, es, ep, t, ho, hx, hd, g, nd, hm, hb, hf, hn, _⟩ := R
  exact ⟨o, es, ep, t, ho, hx, hd, goodS_elems g, fun k => (hm k).trans (goodS_mem g k), hb, hf, hn⟩
end

section
variable {P : Program} {w : World} {A : Around} {E : Value → Shared → Prop} {s : Shared} {a : Addr} {S : Str → Bool} {n : Nat}

/-! ### add -/
theorem store_at {h : Heap} {a : Addr} {o : Obj} {es es' : Array (Int × Value)} {ep : Nat} {t t' : SetTable} (ho : h.get? a = some o) (hd : o.data = .set es ep t) :
    (h.update a (Obj.putSet es' t')).get? a = some { o with data := .set es' (ep + 1) t' } := by
  have q := Heap.get?_update_self (Obj.putSet es' t') ho (by rw [putSet_of es' t' hd]; rfl)
  rw [putSet_of es' t' hd] at q
  exact q

theorem setS_add_tail {g : Bool → Sem Unit} (hg : ∀ (b : Bool) (s₁ : Shared) (Q' : Unit → Shared → Prop), Q' () s₁ → wpAny (model P w) A (g b) Q' E s₁)
    {o : Obj} {es : Array (Int × Value)} {ep : Nat} {t : SetTable} (ho : s.heap.get? a = some o) (hex : o.ExactSet) (hd : o.data = .set es ep t)
    {es1 : Array (Int × Value)} {t2 : SetTable} {S' : Str → Bool} (g1 : ∀ e ∈ es1.toList, GoodS w e) (nd1 : (es1.toList.map kOfS).Nodup) (m1 : ∀ k, S' k = true ↔ k ∈ es1.toList.map kOfS)
    (hb1 : es1.size < scanBound) (hf2 : t2.fits es1.size = true) (hr : Ris t2.place.toList) (hl : w.params.followText "set-order" = true ∨ t2.led = true) {wasDummy : Bool} {R : Option Bool → Shared → Prop}
    (hR : ∀ h', Heap.SameBut a s.heap h' → SetS w h' a S' es1.size → R (some true) { s with heap := h' }) :
    wpAny (model P w) A (do
        storeSet a es1 t2
        if (!wasDummy && t2.tooFull) = true then do
            g (relayAll t2 es1 (SetTable.grown es1.size)).2.2
            storeSet a (relayAll t2 es1 (SetTable.grown es1.size)).1 (relayAll t2 es1 (SetTable.grown es1.size)).2.1
            pure (some true)
          else pure (some true)) R E s := by
  refine wpAny_bind (wpAny_storeSet_of ho hd ?_ (fits_of_scanBound hb1))
  have ho1 := store_at (es' := es1) (t' := t2) ho hd
  have sb1 := Heap.SameBut.update s.heap a (Obj.putSet es1 t2)
  split
  · have pm := relayAll_perm t2 es1 (SetTable.grown es1.size)
    have hf3 := relayAll_fits t2 es1 (SetTable.grown es1.size)
    have hr3 := relayAll_ris t2 es1 (SetTable.grown es1.size)
    have hl3 := relayAll_led t2 es1 (SetTable.grown es1.size)
    generalize relayAll t2 es1 (SetTable.grown es1.size) = Z at pm hf3 hr3 hl3 ⊢
    obtain ⟨es2, t3, gave⟩ := Z
    dsimp only at pm hf3 hr3 hl3 ⊢
    have hsz : es2.size = es1.size := by rw [← Array.length_toList, pm.length_eq, Array.length_toList]
    have hb2 : es2.size < scanBound := by rw [hsz]; exact hb1
    refine wpAny_bind (hg _ _ _ ?_)
    refine wpAny_bind (wpAny_storeSet_of ho1 rfl ?_ (fits_of_scanBound hb2))
    have ho2 := store_at (es' := es2) (t' := t3) ho1 rfl
    refine wpAny_pure (hR _ (sb1.trans (Heap.SameBut.update _ a _)) ?_)
    exact ⟨_, es2, _, t3, ho2, hex, rfl, fun e he => g1 e (pm.mem_iff.mp he), (pm.map kOfS).nodup_iff.mpr nd1, fun k => (m1 k).trans (pm.map kOfS).mem_iff.symm, hb2, hf3, hsz, hr3,
      hl.imp id fun z => by rw [hl3]; exact z⟩
  · exact wpAny_pure (hR _ sb1 ⟨_, es1, _, t2, ho1, hex, rfl, g1, nd1, m1, hb1, hf2, rfl, hr, hl⟩)

theorem setS_add_hashed {k : Str} {tk : Tok} {Q : Bool → Shared → Prop} (R : SetS w s.heap a S n) (room : n + 1 < scanBound)
    (hQ : ∀ h', Heap.SameBut a s.heap h' → SetS w h' a (fun j => S j || decide (j = k)) (if S k = true then n else n + 1) → Q (!S k) { s with heap := h' }) :
    wpAny (model P w) A (setAddHashed a (.str k tk) ((strKind P w).hash k)) Q E s := by
  obtain ⟨o, es, ep, t, ho, hex, hd, g, nd, hm, hb, hf, hn, hr, hl⟩ := R
  have hkey : (strKind P w).is k (.str k tk) = true := strKind_is P w k tk
  have hsc : (Value.str k tk).scannable = true := rfl
  have hel : ElemsOf (strKind P w) es.toList := goodS_elems g
  unfold setAddHashed setAddHashedIn
  refine wpAny_holding (wpAny_bind (wpAny_setState_of ho hd hf ?_))
  dsimp only
  rw [byScan_of hsc hb hel]
  simp only [↓reduceIte]
  unfold setAddByScan
  refine wpAny_bind ?_
  refine wpAny_bind (wpAny_rule ?_)
  refine wpAny_bind (wpAny_setScan_of hkey ho hd hf hel ?_)
  cases hfi : List.findIdx? (fun e => (strKind P w).is k e.2) es.toList with
  | some j =>
    dsimp only
    obtain ⟨hj, pj, _⟩ := List.findIdx?_eq_some_iff_getElem.mp hfi
    have hSk : S k = true := (hm k).2 ((goodS_mem (P := P) g k).2 ⟨es.toList[j], List.getElem_mem hj, pj⟩)
    refine wpAny_pure (wpAny_pure ?_)
    have q := hQ s.heap (Heap.SameBut.refl a s.heap) ⟨o, es, ep, t, ho, hex, hd, g, nd, fun i => by
      rw [Bool.or_eq_true, decide_eq_true_eq, ← hm i]
      exact ⟨fun z => z.elim id (fun e => e ▸ hSk), .inl⟩, hb, hf, by rw [if_pos hSk]; exact hn, hr, hl⟩
    rw [hSk] at q
    exact q
  | none =>
    dsimp only
    have hnk : k ∉ es.toList.map kOfS := fun z => by
      obtain ⟨e, he, q⟩ := (goodS_mem (P := P) g k).1 z
      have c := List.findIdx?_eq_none_iff.mp hfi e he
      rw [q] at c
      cases c
    have hSk : S k = false := by
      cases q : S k with
      | false => rfl
      | true => exact absurd ((hm k).1 q) hnk
    have hgw : ∀ (b : Bool) {s₁ : Shared} {Q' : Unit → Shared → Prop}, Q' () s₁ → wpAny (model P w) A (match b with | true => rule "set.scan.the-table-gave-way" | false => pure ()) Q' E s₁ :=
      fun b s₁ Q' q => by cases b <;> first | exact wpAny_pure q | exact wpAny_rule q
    have pm := layNew_perm t es ((strKind P w).hash k) (.str k tk)
    have hf1 := layNew_fits t es ((strKind P w).hash k) (.str k tk)
    have hr1 := layNew_ris t es ((strKind P w).hash k) (.str k tk) hr
    have hl1 := layNew_led t es ((strKind P w).hash k) (.str k tk)
    generalize layNew t es ((strKind P w).hash k) (.str k tk) = Z at pm hf1 hr1 hl1 ⊢
    obtain ⟨es1, t1, wasDummy, gave⟩ := Z
    dsimp only at pm hf1 hr1 hl1 ⊢
    rw [Array.toList_push] at pm
    have pc : es1.toList.Perm (((strKind P w).hash k, Value.str k tk) :: es.toList) := pm.trans (List.perm_append_singleton _ _)
    have pk : (es1.toList.map kOfS).Perm (k :: es.toList.map kOfS) := pc.map kOfS
    have g1 : ∀ e ∈ es1.toList, GoodS w e := fun e he => by
      rcases List.mem_cons.mp (pc.mem_iff.mp he) with z | z
      · rw [z]; exact ⟨k, tk, rfl, rfl⟩
      · exact g e z
    have nd1 : (es1.toList.map kOfS).Nodup := pk.nodup_iff.mpr (List.nodup_cons.mpr ⟨hnk, nd⟩)
    have m1 : ∀ i, (S i || decide (i = k)) = true ↔ i ∈ es1.toList.map kOfS := fun i => by
      rw [Bool.or_eq_true, decide_eq_true_eq, hm i, pk.mem_iff, List.mem_cons]
      exact Or.comm
    have hsz : es1.size = n + 1 := by rw [← Array.length_toList, pc.length_eq, List.length_cons, Array.length_toList, hn]
    have hb1 : es1.size < scanBound := by rw [hsz]; exact room
    have hled : w.params.followText "set-order" = true ∨ t1.led = true := hl.imp id fun z => by rw [hl1]; exact z
    have fin : ∀ h', Heap.SameBut a s.heap h' → SetS w h' a (fun j => S j || decide (j = k)) es1.size → Q true { s with heap := h' } := fun h' sb r => by
      have q := hQ h' sb
      rw [hSk] at q
      rw [hsz] at r
      exact q r
    refine wpAny_bind (hgw _ ?_)
    split
    · refine wpAny_bind ?_
      rw [hashByValue_scannable 8 hsc]
      refine wpAny_pure ?_
      refine setS_add_tail ?_ ho hex hd g1 nd1 m1 hb1 ?_ ?_ ?_ ?_
      · intro b s₁ Q' q; cases b <;> first | exact wpAny_pure q | exact wpAny_rule q
      · first | (split <;> first | exact hf1 | exact SetTable.fits_plain_off hf1) | exact hf1
      · first | (split <;> exact hr1) | exact hr1
      · first | (split <;> exact hled) | exact hled
      · intro h' sb r; dsimp only; exact wpAny_pure (fin h' sb r)
    · refine wpAny_bind (wpAny_pure ?_)
      simp only [↓reduceIte]
      refine setS_add_tail ?_ ho hex hd g1 nd1 m1 hb1 hf1 hr1 hled ?_
      · intro b s₁ Q' q; cases b <;> first | exact wpAny_pure q | exact wpAny_rule q
      · intro h' sb r; dsimp only; exact wpAny_pure (fin h' sb r)

end
theorem setS_new_at {w : World} {h : Heap} {a : Addr} {ns : List Str} (ho : h.get? a = some { cls := .type "set", dict := none, data := .set #[] 0 (.fresh 0 0 (!w.params.followText "set-order")) }) : SetS w h a (fun j => decide (j ∈ ns.take 0)) 0 :=
  ⟨_, #[], 0, _, ho, ⟨rfl, rfl, rfl⟩, rfl, (fun e he => by simp at he), (by simp), (fun k => by simp), (by decide), (by rfl), rfl, List.Pairwise.nil, by
    show _ ∨ (!w.params.followText "set-order") = true
    cases w.params.followText "set-order"
    · exact .inr rfl
    · exact .inl rfl⟩
section
variable {P : Program} {w : World} {A : Around} {E : Value → Shared → Prop} {s : Shared}
theorem set_update_strs {I : Addr} {fp wr : List Addr} {G : Array GenState → Array GenState → Prop} {n : Nat} {Pv : Nat → Value → Prop} {St : Nat → Shared → Prop} {R : Result → Shared → Prop}
    (W : WalksS P w A.in1 I fp wr G n Pv St) (S : Addr) (hSf : S ∉ fp) (ns : List Str) (hn : n = ns.length) (hb : ns.length + 1 < scanBound) (hval : ∀ i v, Pv i v → ∃ k t, ns[i]? = some k ∧ v = .str k t) :
    ∀ (k i : Nat) (s : Shared), n - i = k → i ≤ n → St i s → (∃ c, c ≤ i ∧ SetS w s.heap S (fun j => decide (j ∈ ns.take i)) c) →
      (∀ s' c, Moved (S :: wr) G s s' → c ≤ n → SetS w s'.heap S (fun j => decide (j ∈ ns)) c → R (.ok (.ret .none)) s') →
      codeAny (model P w) A (.builtin "set.update.loop" ⟨[.ref S, .ref I], []⟩) R s := by
  have hSw : S ∉ wr := fun h => hSf (W.sub _ h)
  have hsub : ∀ b ∈ wr, b ∈ S :: wr := fun b hb => List.mem_cons_of_mem _ hb
  intro k
  induction k with
  | zero =>
    intro i s hk' hi hst ⟨c, hc, hS⟩ hR
    have hin : i = n := by omega
    subst hin
    refine codeAny_builtin F.entry_set_update_loop ?_
    rw [Around.under_plainId F.plain_set_update_loop _]
    show wpAny _ A.in1 (pyNext (.ref I) >>= _) _ _ s
    refine wpAny_bind (W.done s _ _ hst fun s' hm => ?_)
    show wpAny _ A.in1 (ret Value.none) _ _ s'
    have e : ns.take i = ns := List.take_of_length_le (by omega)
    rw [e] at hS
    exact wpAny_pure (hR s' c (hm.mono hsub) hc (hS.at fun o e => hm.heap S o hSw e))
  | succ k ih =>
    intro i s hk' hi hst ⟨c, hc, hS⟩ hR
    have hlt : i < n := by omega
    refine codeAny_builtin F.entry_set_update_loop ?_
    rw [Around.under_plainId F.plain_set_update_loop _]
    show wpAny _ A.in1 (pyNext (.ref I) >>= _) _ _ s
    refine wpAny_bind (W.item i s _ _ hlt hst fun v s' hP hst' hm => ?_)
    obtain ⟨z, t, hz, rfl⟩ := hval i v hP
    have hS' : SetS w s'.heap S (fun j => decide (j ∈ ns.take i)) c := hS.at fun o e => hm.heap S o hSw e
    show wpAny _ A.in1 (holding [Value.str z t] (setAdd S (.str z t)) >>= _) _ _ s'
    refine wpAny_bind (wpAny_holding ?_)
    unfold setAdd
    refine wpAny_holding ?_
    refine wpAny_bind ((strKind P w).pyHash (k := z) (strKind_is _ _ _ _) ?_)
    refine setS_add_hashed (s := { s' with toks := s'.toks + 1 }) hS' (by omega) fun h' hsb hS2 => ?_
    have hS3 : SetS w h' S (fun j => decide (j ∈ ns.take (i + 1))) (if decide (z ∈ ns.take i) = true then c else c + 1) := hS2.congr fun j => by
      rw [List.take_add_one, hz]
      simp [List.mem_append]
    have hc3 : (if decide (z ∈ ns.take i) = true then c else c + 1) ≤ i + 1 := by
      split <;> omega
    refine wpAny_pure ⟨plainId_quiet F.plain_set_update_loop _, ih (i + 1) _ (by omega) hlt (W.frame _ s' _ _ hst' (Nat.le_succ _) fun b hb o e => ?_) ⟨_, hc3, hS3⟩ fun s'' c2 hm'' hc'' hS'' => ?_⟩
    · rw [hsb.2 b (fun h : b = S => hSf (by rw [← h]; exact hb))]; exact e
    · refine hR s'' c2 (Moved.trans W.gtrans ((hm.mono hsub).then_heap (Nat.le_succ _) fun b o hb e => ?_) hm'') hc'' hS''
      rw [hsb.2 b (fun h : b = S => hb (by rw [h]; exact List.mem_cons_self))]; exact e
set_option maxRecDepth 100000 in
set_option maxHeartbeats 3200000 in
theorem call_set_tupS {l : Addr} {items : Array Value} (ns : List Str) {Q : Value → Shared → Prop} (hh : A.handled = none) (hl : s.heap.IsTuple l items) (hit : StrsAre items.toList ns) (hb : ns.length + 1 < scanBound)
    (h : ∀ (h' : Heap) (tk c : Nat), SetS w h' s.heap.objs.size (fun j => decide (j ∈ ns)) c → c ≤ ns.length → (∀ b o, s.heap.get? b = some o → h'.get? b = some o) → Q (.ref s.heap.objs.size) { s with heap := h', toks := tk }) :
    wpAny (model P w) A (call (.type "set") [.ref l]) Q E s := by
  have hisz : items.size = ns.length := by
    have q := StrsAre.length hit
    rw [Array.length_toList] at q
    exact q
  obtain ⟨c, tl, hmro⟩ := F.called_set.mro
  have hmade := F.called_set.made
  have hsub := F.called_set.sub
  refine wpAny_call (codeAny_of_tree ?_)
  show wpAny _ _ (callAny (.type "set") _) _ _ _
  refine wpAny_pure ⟨Code.quiet_builtin _ (by decide +kernel), codeAny_builtin F.entry_type_call ?_⟩
  rw [Around.under_plain (weight_type_call_type "set" [.ref l] []) rfl]
  have h1 := F.called_set.notType
  have h2 := F.called_set.canCreate
  have hct := F.typeCall_set_1 (.ref l)
  repeat (any_goals (first | assumption | wp_step))

  refine codeAny_mono (code_set_led1 (.ref l) (E := E) (Q₁ := fun obj s₁ => obj = .ref s.heap.objs.size ∧ s₁ = { s with heap := s.heap.push { cls := .type "set", dict := none, data := .set #[] 0 (.fresh 0 0 (!w.params.followText "set-order")) } }) ⟨rfl, rfl⟩) fun r s₁ hr => ?_
  cases r with
  | error e => exact hr
  | ok fl =>
    cases fl with
    | ret obj =>
      obtain ⟨rfl, rfl⟩ := hr
      have hS : (s.heap.push { cls := .type "set", dict := none, data := .set #[] 0 (.fresh 0 0 (!w.params.followText "set-order")) }).get? s.heap.objs.size = some { cls := .type "set", dict := none, data := .set #[] 0 (.fresh 0 0 (!w.params.followText "set-order")) } := Heap.get?_push_size _ rfl
      have hT : Shared.TypeIs { s with heap := s.heap.push { cls := .type "set", dict := none, data := .set #[] 0 (.fresh 0 0 (!w.params.followText "set-order")) } } (.ref s.heap.objs.size) "set" := ⟨_, hS, rfl⟩
      have hli := F.called_set.init.lookup
      have hbi := F.called_set.init.bind (.ref s.heap.objs.size)
      repeat (any_goals (first | assumption | wp_step))

      refine codeAny_mono (codeAny_call_builtin (R := wants (fun r s₂ => r = .none ∧ ∃ h' tk c, s₂ = { s with heap := h', toks := tk } ∧ SetS w h' s.heap.objs.size (fun j => decide (j ∈ ns)) c ∧ c ≤ ns.length ∧
          (∀ b o, s.heap.get? b = some o → h'.get? b = some o)) E) F.called_set.init.plain F.entry_set_init (check_set_init_1 hT ?_)) fun r₂ s₂ hr₂ => ?_
      · obtain ⟨ol, hol, hcl, nl, hdl⟩ := hl
        obtain ⟨ocls, odict, odata, oslots⟩ := ol
        simp only at hcl hdl
        subst hcl; subst hdl
        have hol' : (s.heap.push { cls := .type "set", dict := none, data := .set #[] 0 (.fresh 0 0 (!w.params.followText "set-order")) }).get? l = some { cls := .type "tuple", dict := odict, data := .seq items nl, slots := oslots } := Heap.get?_push_of_some _ hol
        have hsls := F.sub_tuple_set
        have hslf := F.sub_tuple_frozenset
        have hne : (Value.type "tuple" == Value.type "dict") = false := by decide
        have hl1 : (s.heap.push { cls := .type "set", dict := none, data := .set #[] 0 (.fresh 0 0 (!w.params.followText "set-order")) }).IsTuple l items := ⟨_, hol', rfl, nl, rfl⟩
        unfold Builtin.«set.__init__» noKeywords Builtin.Frozenset.updateFrom
        generalize hPI : pyIter = PI
        wp_walk
        subst hPI

        refine wpAny_pyIter_tuple hl1 ?_
        refine wpAny_bind (wpAny_runValue ?_)
        have hlS : l < s.heap.objs.size := Heap.lt_size hol
        have hh3 : A.in1.in1.in1.handled = none := by simp [hh]
        have hz1 : (s.heap.push { cls := .type "set", dict := none, data := .set #[] 0 (.fresh 0 0 (!w.params.followText "set-order")) }).objs.size = s.heap.objs.size + 1 := Heap.size_push ..
        have hneI : l ≠ (s.heap.push { cls := .type "set", dict := none, data := .set #[] 0 (.fresh 0 0 (!w.params.followText "set-order")) }).objs.size := by
          rw [Heap.size_push]; exact Nat.ne_of_lt (Nat.lt_succ_of_lt hlS)
        have hSf : s.heap.objs.size ∉ [(s.heap.push { cls := .type "set", dict := none, data := .set #[] 0 (.fresh 0 0 (!w.params.followText "set-order")) }).objs.size, l] := by
          rw [Heap.size_push]; simp only [List.mem_cons, List.mem_singleton, List.not_mem_nil, or_false, not_or]
          exact ⟨Nat.ne_of_lt (Nat.lt_succ_self _), Nat.ne_of_gt hlS⟩
        have hval : ∀ (i : Nat) (v : Value), items[i]? = some v → ∃ k t, ns[i]? = some k ∧ v = .str k t := fun i v hv => by
          obtain ⟨y, t, e1, e2⟩ := PyProof.Rows.StrsAre.item hit i v (by rw [Array.getElem?_toList]; exact hv)
          exact ⟨y, t, e2, e1⟩
        refine set_update_strs ((Walks.tuple hh3 _ l hneI items).toS) s.heap.objs.size
          hSf ns hisz hb hval (items.size - 0) 0 _ (by omega) (Nat.zero_le _)
          ⟨⟨_, Heap.get?_push_size _ rfl, rfl, rfl⟩, (hl1.push _)⟩ ?hS0 ?hR
        case hS0 =>
          have hget : ((s.heap.push { cls := .type "set", dict := none, data := .set #[] 0 (.fresh 0 0 (!w.params.followText "set-order")) }).push { cls := .type "tuple_iterator", data := .fields #[.ref l, .int 0 0] }).get? s.heap.objs.size
              = some { cls := .type "set", dict := none, data := .set #[] 0 (.fresh 0 0 (!w.params.followText "set-order")) } := Heap.get?_push_of_some _ hS
          exact ⟨0, Nat.le_refl 0, setS_new_at hget⟩
        case hR =>
          intro s' c' hm hc' hS'
          obtain ⟨h', g2, d', tk', os'⟩ := s'
          have eg : g2 = s.gens := hm.gens
          have ed : d' = s.drawn := hm.drawn
          have eo : os' = s.os := hm.os
          subst eg; subst ed; subst eo
          show wpAny _ _ _ _ _ _
          refine wpAny_pure ?_
          show wpAny _ _ (ret Value.none) _ _ _
          rw [hisz] at hc'
          refine wpAny_pure ⟨rfl, h', tk', c', rfl, hS', hc', fun b o e => ?_⟩
          have hb0 : b < s.heap.objs.size := Heap.lt_size e
          have hb1 : b ≠ s.heap.objs.size := Nat.ne_of_lt hb0
          have hb2 : b ≠ (s.heap.push { cls := .type "set", dict := none, data := .set #[] 0 (.fresh 0 0 (!w.params.followText "set-order")) }).objs.size := by
            rw [Heap.size_push]; exact Nat.ne_of_lt (Nat.lt_succ_of_lt hb0)
          exact hm.heap b o (by simp only [List.mem_cons, List.mem_singleton, List.not_mem_nil, or_false, not_or]; exact ⟨hb1, hb2⟩) (Heap.get?_push_of_some _ (Heap.get?_push_of_some _ e))

      · cases r₂ with
        | error e => exact hr₂
        | ok fl₂ =>
          cases fl₂ with
          | ret r =>
            obtain ⟨rfl, h', tk, c', rfl, hS', hc', hk'⟩ := hr₂
            repeat (any_goals (first | assumption | wp_step))
            exact h _ _ _ hS' hc' hk'
          | _ => exact hr₂.elim
    | _ => exact hr.elim

set_option maxRecDepth 100000 in
set_option maxHeartbeats 3200000 in
theorem call_set_lstS {l : Addr} {items : Array Value} (ns : List Str) {Q : Value → Shared → Prop} (hh : A.handled = none) (hl : s.heap.IsList l items) (hit : StrsAre items.toList ns) (hb : ns.length + 1 < scanBound)
    (h : ∀ (h' : Heap) (tk c : Nat), SetS w h' s.heap.objs.size (fun j => decide (j ∈ ns)) c → c ≤ ns.length → (∀ b o, s.heap.get? b = some o → h'.get? b = some o) → Q (.ref s.heap.objs.size) { s with heap := h', toks := tk }) :
    wpAny (model P w) A (call (.type "set") [.ref l]) Q E s := by
  have hisz : items.size = ns.length := by
    have q := StrsAre.length hit
    rw [Array.length_toList] at q
    exact q
  obtain ⟨c, tl, hmro⟩ := F.called_set.mro
  have hmade := F.called_set.made
  have hsub := F.called_set.sub
  refine wpAny_call (codeAny_of_tree ?_)
  show wpAny _ _ (callAny (.type "set") _) _ _ _
  refine wpAny_pure ⟨Code.quiet_builtin _ (by decide +kernel), codeAny_builtin F.entry_type_call ?_⟩
  rw [Around.under_plain (weight_type_call_type "set" [.ref l] []) rfl]
  have h1 := F.called_set.notType
  have h2 := F.called_set.canCreate
  have hct := F.typeCall_set_1 (.ref l)
  repeat (any_goals (first | assumption | wp_step))

  refine codeAny_mono (code_set_led1 (.ref l) (E := E) (Q₁ := fun obj s₁ => obj = .ref s.heap.objs.size ∧ s₁ = { s with heap := s.heap.push { cls := .type "set", dict := none, data := .set #[] 0 (.fresh 0 0 (!w.params.followText "set-order")) } }) ⟨rfl, rfl⟩) fun r s₁ hr => ?_
  cases r with
  | error e => exact hr
  | ok fl =>
    cases fl with
    | ret obj =>
      obtain ⟨rfl, rfl⟩ := hr
      have hS : (s.heap.push { cls := .type "set", dict := none, data := .set #[] 0 (.fresh 0 0 (!w.params.followText "set-order")) }).get? s.heap.objs.size = some { cls := .type "set", dict := none, data := .set #[] 0 (.fresh 0 0 (!w.params.followText "set-order")) } := Heap.get?_push_size _ rfl
      have hT : Shared.TypeIs { s with heap := s.heap.push { cls := .type "set", dict := none, data := .set #[] 0 (.fresh 0 0 (!w.params.followText "set-order")) } } (.ref s.heap.objs.size) "set" := ⟨_, hS, rfl⟩
      have hli := F.called_set.init.lookup
      have hbi := F.called_set.init.bind (.ref s.heap.objs.size)
      repeat (any_goals (first | assumption | wp_step))

      refine codeAny_mono (codeAny_call_builtin (R := wants (fun r s₂ => r = .none ∧ ∃ h' tk c, s₂ = { s with heap := h', toks := tk } ∧ SetS w h' s.heap.objs.size (fun j => decide (j ∈ ns)) c ∧ c ≤ ns.length ∧
          (∀ b o, s.heap.get? b = some o → h'.get? b = some o)) E) F.called_set.init.plain F.entry_set_init (check_set_init_1 hT ?_)) fun r₂ s₂ hr₂ => ?_
      · obtain ⟨ol, hol, hcl, nl, hdl⟩ := hl
        obtain ⟨ocls, odict, odata, oslots⟩ := ol
        simp only at hcl hdl
        subst hcl; subst hdl
        have hol' : (s.heap.push { cls := .type "set", dict := none, data := .set #[] 0 (.fresh 0 0 (!w.params.followText "set-order")) }).get? l = some { cls := .type "list", dict := odict, data := .seq items nl, slots := oslots } := Heap.get?_push_of_some _ hol
        have hsls := F.sub_list_set
        have hslf := F.sub_list_frozenset
        have hne : (Value.type "list" == Value.type "dict") = false := by decide
        have hl1 : (s.heap.push { cls := .type "set", dict := none, data := .set #[] 0 (.fresh 0 0 (!w.params.followText "set-order")) }).IsList l items := ⟨_, hol', rfl, nl, rfl⟩
        unfold Builtin.«set.__init__» noKeywords Builtin.Frozenset.updateFrom
        generalize hPI : pyIter = PI
        wp_walk
        subst hPI

        refine wpAny_pyIter_list hl1 ?_
        refine wpAny_bind (wpAny_runValue ?_)
        have hlS : l < s.heap.objs.size := Heap.lt_size hol
        have hh3 : A.in1.in1.in1.handled = none := by simp [hh]
        have hz1 : (s.heap.push { cls := .type "set", dict := none, data := .set #[] 0 (.fresh 0 0 (!w.params.followText "set-order")) }).objs.size = s.heap.objs.size + 1 := Heap.size_push ..
        have hneI : l ≠ (s.heap.push { cls := .type "set", dict := none, data := .set #[] 0 (.fresh 0 0 (!w.params.followText "set-order")) }).objs.size := by
          rw [Heap.size_push]; exact Nat.ne_of_lt (Nat.lt_succ_of_lt hlS)
        have hSf : s.heap.objs.size ∉ [(s.heap.push { cls := .type "set", dict := none, data := .set #[] 0 (.fresh 0 0 (!w.params.followText "set-order")) }).objs.size, l] := by
          rw [Heap.size_push]; simp only [List.mem_cons, List.mem_singleton, List.not_mem_nil, or_false, not_or]
          exact ⟨Nat.ne_of_lt (Nat.lt_succ_self _), Nat.ne_of_gt hlS⟩
        have hval : ∀ (i : Nat) (v : Value), items[i]? = some v → ∃ k t, ns[i]? = some k ∧ v = .str k t := fun i v hv => by
          obtain ⟨y, t, e1, e2⟩ := PyProof.Rows.StrsAre.item hit i v (by rw [Array.getElem?_toList]; exact hv)
          exact ⟨y, t, e2, e1⟩
        refine set_update_strs ((Walks.list hh3 _ l hneI items).toS) s.heap.objs.size
          hSf ns hisz hb hval (items.size - 0) 0 _ (by omega) (Nat.zero_le _)
          ⟨⟨_, Heap.get?_push_size _ rfl, rfl, rfl⟩, (hl1.push _)⟩ ?hS0 ?hR
        case hS0 =>
          have hget : ((s.heap.push { cls := .type "set", dict := none, data := .set #[] 0 (.fresh 0 0 (!w.params.followText "set-order")) }).push { cls := .type "list_iterator", data := .fields #[.ref l, .int 0 0] }).get? s.heap.objs.size
              = some { cls := .type "set", dict := none, data := .set #[] 0 (.fresh 0 0 (!w.params.followText "set-order")) } := Heap.get?_push_of_some _ hS
          exact ⟨0, Nat.le_refl 0, setS_new_at hget⟩
        case hR =>
          intro s' c' hm hc' hS'
          obtain ⟨h', g2, d', tk', os'⟩ := s'
          have eg : g2 = s.gens := hm.gens
          have ed : d' = s.drawn := hm.drawn
          have eo : os' = s.os := hm.os
          subst eg; subst ed; subst eo
          show wpAny _ _ _ _ _ _
          refine wpAny_pure ?_
          show wpAny _ _ (ret Value.none) _ _ _
          rw [hisz] at hc'
          refine wpAny_pure ⟨rfl, h', tk', c', rfl, hS', hc', fun b o e => ?_⟩
          have hb0 : b < s.heap.objs.size := Heap.lt_size e
          have hb1 : b ≠ s.heap.objs.size := Nat.ne_of_lt hb0
          have hb2 : b ≠ (s.heap.push { cls := .type "set", dict := none, data := .set #[] 0 (.fresh 0 0 (!w.params.followText "set-order")) }).objs.size := by
            rw [Heap.size_push]; exact Nat.ne_of_lt (Nat.lt_succ_of_lt hb0)
          exact hm.heap b o (by simp only [List.mem_cons, List.mem_singleton, List.not_mem_nil, or_false, not_or]; exact ⟨hb1, hb2⟩) (Heap.get?_push_of_some _ (Heap.get?_push_of_some _ e))

      · cases r₂ with
        | error e => exact hr₂
        | ok fl₂ =>
          cases fl₂ with
          | ret r =>
            obtain ⟨rfl, h', tk, c', rfl, hS', hc', hk'⟩ := hr₂
            repeat (any_goals (first | assumption | wp_step))
            exact h _ _ _ hS' hc' hk'
          | _ => exact hr₂.elim
    | _ => exact hr.elim


end
end QL

set_option Elab.async false
set_option linter.all false
set_option maxRecDepth 100000
set_option maxHeartbeats 4000000
namespace QL
open PySem PySem.Spec PyProof.Rows L2

/-! ### sorted(set(texts)) -/
def SetO (w : World) (a : Addr) (ns : List Str) : HO := .ext fun h => ∃ c, SetS w h a (fun j => decide (j ∈ ns)) c
theorem setO_new {P : Program} {w : World} {H : Hp} {h : Heap} {a : Addr} {ns : List Str} (R : ∃ c, SetS w h a (fun j => decide (j ∈ ns)) c) : ObjOk P w H h a (SetO w a ns) := by
  have ⟨c, o, es, ep, t, ho, r⟩ := R
  exact ⟨R, ⟨o, ho⟩, fun h1 h2 ⟨c, p⟩ k => ⟨c, p.at k⟩⟩
def strsOf : List PyData → Option (List Str)
  | [] => some []
  | .str x :: ds => match strsOf ds with | some xs => some (x :: xs) | none => none
  | _ :: _ => none
theorem strsOf_eq : ∀ {ds : List PyData} {xs : List Str}, strsOf ds = some xs → ds = xs.map .str
  | [], _, e => by cases e; rfl
  | d :: ds, xs, e => by
    cases d with
    | str x =>
      rw [strsOf] at e
      cases q : strsOf ds with
      | none => rw [q] at e; cases e
      | some ys => rw [q] at e; cases e; rw [strsOf_eq q]; rfl
    | none => simp [strsOf] at e
    | bool _ => simp [strsOf] at e
    | int _ => simp [strsOf] at e
    | list _ => simp [strsOf] at e
    | tuple _ => simp [strsOf] at e
    | dict _ => simp [strsOf] at e
theorem rds_strs {K : PySem.W.Frag} {F : Hp} : ∀ {xs : List Str} {vs : List V} {us : List Value}, RDs K F vs (xs.map .str) → Vals vs us → StrsAre us xs
  | [], _, _, .nil, .nil => .nil
  | x :: xs, _, _, .cons h t, .cons r rr => by
    cases h
    obtain ⟨u, rfl⟩ := r
    exact .cons _ _ (rds_strs t rr)
theorem perm_each {α β : Type} {R : α → β → Prop} {vs vs' : List α} {bs : List β} (p : vs'.Perm vs) (e : PySem.W.EachIs R vs bs) : ∃ bs', PySem.W.EachIs R vs' bs' ∧ bs'.Perm bs := by
  induction p generalizing bs with
  | nil => cases e; exact ⟨[], .nil, .nil⟩
  | cons x p ih =>
    cases e with
    | cons h t =>
      obtain ⟨b, e1, e2⟩ := ih t
      exact ⟨_, .cons h e1, e2.cons _⟩
  | swap x y l =>
    cases e with
    | cons h t =>
      cases t with
      | cons h2 t => exact ⟨_, .cons h2 (.cons h t), .swap _ _ _⟩
  | trans p1 p2 ih1 ih2 =>
    obtain ⟨b, e1, e2⟩ := ih2 e
    obtain ⟨b2, e3, e4⟩ := ih1 e1
    exact ⟨b2, e3, e4.trans e2⟩
/-! the order of texts -/
def strLe (a b : Str) : Bool := decide (a.cps.toList ≤ b.cps.toList)
theorem strLe_trans : ∀ a b c : Str, strLe a b = true → strLe b c = true → strLe a c = true := fun a b c h1 h2 => decide_eq_true (List.le_trans (of_decide_eq_true h1) (of_decide_eq_true h2))
theorem strLe_total : ∀ a b : Str, (strLe a b || strLe b a) = true := fun a b => by
  rw [Bool.or_eq_true]
  exact (List.le_total a.cps.toList b.cps.toList).imp decide_eq_true decide_eq_true
theorem strLe_anti {a b : Str} (h1 : strLe a b = true) (h2 : strLe b a = true) : a = b := by
  have e := List.le_antisymm (of_decide_eq_true h1) (of_decide_eq_true h2)
  cases a with | mk x =>
  cases b with | mk y =>
  exact congrArg Str.mk (Array.toList_inj.mp e)
theorem map_mergeSort_str (xs : List Str) : sortD (xs.map .str) = (xs.mergeSort strLe).map .str := by
  rw [sortD_eq]
  have e : (fun a b : Str => strLe a b) = PySem.W.dataLe false (fun b : Str => PyData.str b) := by
    rw [PySem.W.dataLe_str]; rfl
  have h := @List.map_mergeSort Str PyData strLe (PySem.W.dataLe false id) PyData.str xs (fun a _ b _ => congrFun (congrFun e a) b)
  exact h.symm
theorem sortD_perm {xs ys : List Str} (p : xs.Perm ys) : sortD (xs.map .str) = sortD (ys.map .str) := by
  rw [map_mergeSort_str, map_mergeSort_str]
  have p1 : (xs.mergeSort strLe).Perm (ys.mergeSort strLe) := (List.mergeSort_perm xs strLe).trans (p.trans (List.mergeSort_perm ys strLe).symm)
  have s1 := List.pairwise_mergeSort strLe_trans strLe_total xs
  have s2 := List.pairwise_mergeSort strLe_trans strLe_total ys
  rw [List.Perm.eq_of_pairwise (fun a b _ _ h1 h2 => strLe_anti h1 h2) s1 s2 p1]
def dedup : List Str → List Str
  | [] => []
  | x :: xs => if x ∈ xs then dedup xs else x :: dedup xs
theorem mem_dedup {x : Str} : ∀ {xs : List Str}, x ∈ dedup xs ↔ x ∈ xs
  | [] => Iff.rfl
  | y :: ys => by
    unfold dedup
    split
    · rename_i h
      rw [mem_dedup, List.mem_cons]
      exact ⟨.inr, fun q => q.elim (fun e => e ▸ h) id⟩
    · rw [List.mem_cons, List.mem_cons, mem_dedup]
theorem nodup_dedup : ∀ xs : List Str, (dedup xs).Nodup
  | [] => List.Pairwise.nil
  | y :: ys => by
    unfold dedup
    split
    · exact nodup_dedup ys
    · rename_i h
      exact List.nodup_cons.mpr ⟨fun q => h (mem_dedup.mp q), nodup_dedup ys⟩
def unS : PyData → Str | .str x => x | _ => ⟨#[]⟩
theorem perm_strs {ys zs : List Str} (p : (ys.map PyData.str).Perm (zs.map .str)) : ys.Perm zs := by
  have q := p.map unS
  rw [List.map_map, List.map_map] at q
  have e : unS ∘ PyData.str = id := rfl
  rw [e, List.map_id, List.map_id] at q
  exact q
/-- the model's answer: sorted(set(texts)) -/
def vSortSet : V1 := fun c M => match asD c M with
  | some (.list ds) => match strsOf ds with | some xs => if xs.length < 4000 then some (.dat (.list (sortD ((dedup xs).map .str))), M) else none | none => none
  | some (.tuple ds) => match strsOf ds with | some xs => if xs.length < 4000 then some (.dat (.list (sortD ((dedup xs).map .str))), M) else none | none => none
  | _ => none
section
variable {X : Cx}
def rSetQ (tp : Tp) : List V → Hp → VK → Prop := fun xs H Q => ∃ (x : V) (ns : List Str) (a : Addr) (vs : List V) (F : Hp), xs = [x] ∧ x = .ref a ∧ (RdK tp.K H a vs ∨ SqT tp.K H a vs) ∧ RDs tp.K F vs (ns.map .str) ∧ ns.length < 4000 ∧
  ∀ p, H p = none → Q (.ref p) (upd H p (SetO tp.w p ns))
theorem cr_setQ (hc : X.calm = true) : CallR X (.type "set") (rSetQ (tpOf X)) := by
  intro pins s σ H xs us Q I r h
  obtain ⟨x, ns, a, vs, F, rfl, rfl, hl, hr, hn, q⟩ := h
  rw [Vals.ref1 r]
  have hp : H s.heap.objs.size = none := I.hok.fresh (Nat.le_refl _)
  have fin : ∀ (h' : Heap) (tk c : Nat), SetS X.w h' s.heap.objs.size (fun j => decide (j ∈ ns)) c → (∀ b o, s.heap.get? b = some o → h'.get? b = some o) → EP X pins σ Q (.ref s.heap.objs.size) { s with heap := h', toks := tk } := fun h' tk c R k =>
    ⟨.ref s.heap.objs.size, _, I.laid (t' := tk) k (Nat.le_refl _) (setO_new ⟨c, R⟩), rfl, q _ hp⟩
  have hb : ns.length + 1 < scanBound := by unfold scanBound; omega
  rcases hl with hl | hl
  · obtain ⟨its, rv, p, hz⟩ := I.list hl.sql
    exact call_set_lstS (P := X.prog) (w := X.w) ns (I.ok.hd hc) p.isList (by simpa using rds_strs hr rv) hb fun h' tk c R _ k => fin h' tk c R k
  · obtain ⟨its, rv, p, hz⟩ := I.tuple hl
    exact call_set_tupS (P := X.prog) (w := X.w) ns (I.ok.hd hc) (show s.heap.IsTuple a its.toArray from p) (by simpa using rds_strs hr rv) hb fun h' tk c R _ k => fin h' tk c R k
theorem good_vals {w : World} : ∀ {l : List (Int × Value)}, (∀ e ∈ l, GoodS w e) → PySem.W.EachIs (fun u d => ∃ x tk, u = Value.str x tk ∧ d = PyData.str x) (l.map (·.2)) ((l.map kOfS).map .str)
  | [], _ => .nil
  | e :: l, g => by
    obtain ⟨k, tk, h1, _⟩ := g e List.mem_cons_self
    refine .cons ⟨k, tk, h1, ?_⟩ (good_vals fun e he => g e (List.mem_cons_of_mem _ he))
    unfold kOfS
    rw [h1]
def rSortQ (tp : Tp) : List V → Hp → VK → Prop := fun xs H Q => ∃ (a : Addr) (ns : List Str), xs = [.ref a] ∧ H a = some (SetO tp.w a ns) ∧ ns.length < 4000 ∧
  ∀ p vs F, H p = none → RDs tp.K F vs (sortD ((dedup ns).map .str)) → vs.length ≤ sizeLine → Q (.ref p) (upd H p (.lst vs))
theorem cr_sortQ (hc : X.calm = true) (hu : X.A.units + 100 < cLine) : CallR X (.builtin "sorted") (rSortQ (tpOf X)) := by
  intro pins s σ H xs us Q I r h
  obtain ⟨a, ns, rfl, ha, hlt, q⟩ := h
  obtain ⟨c, o, es, ep, t, ho, hex, hd, g, nd, hm, hb, hf, hn, hr, hl⟩ := (I.hok a _ ha).1
  rw [Vals.ref1 r]
  refine Calls.call_function_entry kind_sorted plain_sorted entry_sorted (args_sorted1 _) ?_
  unfold Builtin.«sorted»
  refine wpAny_bind (m := checkCount "sorted" 1 1 _) (wpAny_pure ?_)
  refine wpAny_bind (collect_set (A := X.A.in1) (I.ok.hd hc) ⟨o, ho, hex.1, hd⟩ hf hb hr hl fun s1 vs k1 hz g1 o1 pm => ?_)
  obtain ⟨bs, eb, pb⟩ := perm_each pm (good_vals g)
  have hlen : vs.length = bs.length := eb.length
  have pk : (es.toList.map kOfS).Perm (dedup ns) := (List.perm_ext_iff_of_nodup nd (nodup_dedup ns)).mpr fun x => by rw [mem_dedup, ← hm x, decide_eq_true_eq]
  have hbl : bs.length < 4096 := by
    have h1 := pb.length_eq
    rw [List.length_map, List.length_map] at h1
    have h3 : scanBound = 4096 := rfl
    have h4 : es.toList.length = es.size := Array.length_toList
    omega
  obtain ⟨ys, hys, hpy⟩ : ∃ ys : List Str, bs = ys.map .str ∧ ys.Perm (es.toList.map kOfS) := by
    have gen : ∀ {bs : List PyData} {zs : List Str}, bs.Perm (zs.map .str) → ∃ ys : List Str, bs = ys.map .str := by
      intro bs zs p
      have hall : ∀ b ∈ bs, ∃ x, b = PyData.str x := fun b hb => by
        obtain ⟨x, _, e⟩ := List.mem_map.mp (p.mem_iff.mp hb)
        exact ⟨x, e.symm⟩
      clear p
      induction bs with
      | nil => exact ⟨[], rfl⟩
      | cons b bs ih =>
        obtain ⟨x, rfl⟩ := hall b List.mem_cons_self
        obtain ⟨ys, rfl⟩ := ih fun b hb => hall b (List.mem_cons_of_mem _ hb)
        exact ⟨x :: ys, rfl⟩
    obtain ⟨ys, e⟩ := gen pb
    refine ⟨ys, e, ?_⟩
    rw [e] at pb
    exact perm_strs pb
  have es' : sortD bs = sortD ((dedup ns).map .str) := by rw [hys]; exact sortD_perm (hpy.trans pk)
  have hL : vs.length ≤ sizeLine := by rw [sizeLine_eq]; omega
  refine wpAny_bind (wpAny_newList ?_ hL)
  have hoL : (s1.heap.push (seqObj "list" vs.toArray 0)).get? s1.heap.objs.size = some (seqObj "list" vs.toArray 0) := Heap.get?_push_size _ rfl
  have hstr : ∀ b ∈ bs, ∃ x, b = PyData.str x := fun b hb => by
    rw [hys] at hb
    obtain ⟨x, _, e⟩ := List.mem_map.mp hb
    exact ⟨x, e.symm⟩
  refine wpAny_bind (wpAny_holding (PySem.W.list_sort_data (s := { s1 with heap := s1.heap.push (seqObj "list" vs.toArray 0) }) (bs := bs) (enc := id) (R := fun u d => ∃ x tk, u = Value.str x tk ∧ d = PyData.str x) hoL eb (eb.mono fun u d ⟨x, tk, e1, e2⟩ => by
      subst e1 e2; exact ⟨[], .str _ _, List.not_mem_nil⟩) ?_ ?_ (by rw [sizeLine_eq]; omega) ?_ fun out ho' eo => ?_))
  · intro d hd d' hd'
    rw [List.map_id] at hd hd'
    obtain ⟨x, rfl⟩ := hstr d hd
    obtain ⟨y, rfl⟩ := hstr d' hd'
    rfl
  · refine .inr fun d hd => ?_
    rw [List.map_id] at hd
    obtain ⟨x, rfl⟩ := hstr d hd
    exact ⟨(by intro z; cases z), (by intro _ z; cases z)⟩
  · intro b hb
    obtain ⟨x, rfl⟩ := hstr b hb
    have hd : (PyData.str x).depth ≤ 1 := by unfold PyData.depth; decide
    show X.A.units + 2 + (PyData.str x).depth < cLine
    omega
  obtain ⟨c', hc'⟩ := sortedHeap_at (vs := vs) (out := out.toArray) hoL
  have eo2 : PySem.W.EachIs (fun u d => ∃ v, RelV v u ∧ RD X.K (fun _ => none) v d) out (sortD bs) := by
    rw [sortD_eq]
    exact eo.mono fun u d ⟨x, tk, e1, e2⟩ => e1 ▸ e2 ▸ ⟨.str x, ⟨tk, rfl⟩, .str x⟩
  obtain ⟨ws, r1, r2⟩ := each_vals eo2
  have lw : ws.length ≤ sizeLine := by rw [r1.length, ho']; rw [sizeLine_eq]; omega
  have old : ∀ b u, s.heap.get? b = some u → (sortedHeap (s1.heap.push (seqObj "list" vs.toArray 0)) s1.heap.objs.size vs out.toArray).get? b = some u := fun b u e => by
    have q := k1 b u e
    have hlt := Heap.lt_size q
    rw [sortedHeap_old (Nat.ne_of_lt hlt) (by rw [size_push']; exact Nat.lt_succ_of_lt hlt)]
    exact Heap.get?_push_of_some _ q
  have hp : H s1.heap.objs.size = none := I.hok.fresh hz
  have J : Inv X pins σ (upd H s1.heap.objs.size (.lst ws)) { s with heap := sortedHeap (s1.heap.push (seqObj "list" vs.toArray 0)) s1.heap.objs.size vs out.toArray, gens := s1.gens, drawn := s1.drawn, toks := s1.toks } :=
    I.call (ch := []) (Un.laid old hz hp) (I.hok.laid old hz ⟨lw, out, c', r1, hc'⟩) (by rw [g1]; exact I.bare) (fun _ z => nomatch z)
  refine wpAny_pure ⟨_, rfl, .ref s1.heap.objs.size, upd H s1.heap.objs.size (.lst ws), ?_, rfl, q _ ws _ hp (es' ▸ r2) lw⟩
  have e : ({ s1 with heap := sortedHeap (s1.heap.push (seqObj "list" vs.toArray 0)) s1.heap.objs.size vs out.toArray } : Shared) = { s with heap := sortedHeap (s1.heap.push (seqObj "list" vs.toArray 0)) s1.heap.objs.size vs out.toArray, gens := s1.gens, drawn := s1.drawn, toks := s1.toks } := by
    cases s1
    cases s
    cases o1
    rfl
  rw [e]
  exact J
theorem q_sortSet {W : WX} {e : Expr} {f : EvF} {p1 p2 pos pos2 : Pos} (hc : X.calm = true) (hu : X.A.units + 100 < cLine) (h : PE X e (tE (tpOf X) W f)) (hm : X.mg "sorted" = none) (hm2 : X.mg "set" = none) (hg : Gl X "sorted" := by rfl) (hg2 : Gl X "set" := by rfl)
    (he : starEach [e] X.env = (false, eval e X.env) :: starEach [] X.env := by rfl) (he2 : starEach [.Call (.Name "set" p2) [e] [] pos2] X.env = (false, eval (.Call (.Name "set" p2) [e] [] pos2) X.env) :: starEach [] X.env := by rfl) :
    PE X (.Call (.Name "sorted" p1) [.Call (.Name "set" p2) [e] [] pos2] [] pos) (tE (tpOf X) W (e1 vSortSet f)) := by
  refine PE.weak (pe_callB (cr_sortQ hc hu) hg hm (by decide +kernel) (pa_cons (pe_callTy (cr_setQ hc) hg2 hm2 (by decide +kernel) (pa_cons h pa_nil he) (by decide) (by decide) he rfl) pa_nil he2) (by decide) (by decide) he2 rfl) fun σ H Q h => ?_
  obtain ⟨u, ρ, M, g0, q⟩ := tR_bind (Rp := RepC (tpOf X)) (k := fun ρ c M => Res.of (vSortSet c M)) h
  refine ⟨u, ρ, M, g0, Post.mono q fun v H1 ⟨u1, ρ1, M1, c, g1, r1, q1⟩ => ?_⟩
  have key : ∀ (ns : List Str) (a : Addr) (vs : List V), v = .ref a → (RdK X.K H1 a vs ∨ SqT X.K H1 a vs) → RDs X.K u1.F vs (ns.map .str) → ns.length < 4000 → PostO (tpOf X) u1 (some (.dat (.list (sortD ((dedup ns).map .str))), M1)) Q →
      rSetQ (tpOf X) [v] H1 fun x H2 => rSortQ (tpOf X) [x] H2 Q := fun ns a vs ev hl hr hlt qq => by
    refine ⟨v, ns, a, vs, u1.F, rfl, ev, hl, hr, hlt, fun p hp => ?_⟩
    obtain ⟨e2, s2⟩ := g1.sto.fresh (o := SetO X.w p ns) hp (fun xs h => by rcases h with h | h <;> cases h) (fun _ _ h => by cases h)
    refine ⟨p, ns, rfl, upd_same, hlt, fun p' ws F' hp' hr' hz => ?_⟩
    have fresh := s2.fresh (o := .lst ws) hp' (fun xs h => by rcases h with h | h <;> cases h; exact hz) (fun _ _ h => by cases h)
    obtain ⟨e3, s3⟩ := fresh
    refine qq _ _ _ (e2.trans e3) s3 (.lst (.inl (.inl upd_same)) ?_)
    have gen : ∀ {ws : List V} {xs : List Str} {F F' : Hp}, RDs X.K F ws (xs.map .str) → RDs X.K F' ws (xs.map .str) := by
      intro ws xs F F' h
      induction xs generalizing ws with
      | nil => cases h; exact .nil
      | cons x xs ih => cases h with | cons h t => cases h; exact .cons (.str _) (ih t)
    rw [map_mergeSort_str] at hr' ⊢
    exact gen hr'
  have q1 : Post (tpOf X) W u1 σ (RepC (tpOf X)) (Res.of (vSortSet c M1)) Q := q1
  unfold vSortSet at q1
  split at q1
  · rename_i ds e
    split at q1
    · rename_i ns en
      split at q1
      · rename_i hz
        obtain ⟨a, vs, rfl, h1, h2, h3⟩ := asL_rep g1.sto r1 (asD_list g1.sto r1 e)
        rw [strsOf_eq en] at h2
        exact key ns a vs rfl (.inl h1) h2 hz q1
      · exact q1.elim
    · exact q1.elim
  · rename_i ds e
    split at q1
    · rename_i ns en
      split at q1
      · rename_i hz
        obtain ⟨a, vs, rfl, h1, h2, h3⟩ := asT_rep g1.sto r1 (asD_tuple e)
        rw [strsOf_eq en] at h2
        exact key ns a vs rfl (.inr h1) h2 hz q1
      · exact q1.elim
    · exact q1.elim
  · exact q1.elim
end
end QL

set_option Elab.async false
set_option linter.all false
set_option maxRecDepth 100000
set_option maxHeartbeats 4000000
namespace QL
open PySem PySem.Spec PyProof.Rows L2

/-! ### dicts whose keys are tuples -/
abbrev KV' := List (PyData × PyData)
def dGet (kvs : KV') (d : PyData) : Option PyData := (kvs.find? fun p => decide (p.1 = d)).map (·.2)
def dPut (kvs : KV') (d e : PyData) : KV' := if kvs.any fun p => decide (p.1 = d) then kvs.map fun p => if p.1 = d then (p.1, e) else p else kvs ++ [(d, e)]
def nePut (es : List NE) (k : NestedKey) (a : Addr) (v : V) : List NE := if es.any fun p => decide (p.k = k) then es.map fun p => if p.k = k then ⟨p.k, p.a, v⟩ else p else es ++ [⟨k, a, v⟩]
theorem length_dPut (kvs : KV') (d e : PyData) : (dPut kvs d e).length ≤ kvs.length + 1 := by
  unfold dPut; split <;> simp
theorem keys_dPut (kvs : KV') (d e : PyData) (h : (kvs.map (·.1)).Nodup) : ((dPut kvs d e).map (·.1)).Nodup := by
  unfold dPut
  split
  · rw [List.map_map]
    have : (fun p : PyData × PyData => p.1) ∘ (fun p => if p.1 = d then (p.1, e) else p) = fun p => p.1 := by
      funext p; show (if p.1 = d then (p.1, e) else p).1 = p.1; split <;> rfl
    rw [this]; exact h
  · rename_i hn
    rw [List.map_append]
    refine List.nodup_append.mpr ⟨h, List.nodup_cons.mpr ⟨List.not_mem_nil, List.nodup_nil⟩, fun a ha b hb => ?_⟩
    intro e1
    subst e1
    rw [List.mem_singleton.mp hb] at ha
    obtain ⟨p, hp, e2⟩ := List.mem_map.mp ha
    exact hn (List.any_eq_true.mpr ⟨p, hp, decide_eq_true e2⟩)
mutual
/-- data read off a value are its key -/
theorem nested_of {X : Cx} {pins : List (Addr × Obj)} {σ : L2.St} {H F : Hp} {s : Shared} (I : Inv X pins σ H s) (sub : Same F H) : ∀ (d : PyData) (v : V) (u : Value) (k : NestedKey), RD X.K F v d → RelV v u → keyOf d = some k → NestedIs s.heap k u
  | .none, _, _, _, r, rv, e => by cases r; rw [keyOf] at e; cases e; cases rv; exact .none
  | .bool _, _, _, _, _, _, e => by rw [keyOf] at e; cases e
  | .int i, _, _, _, r, rv, e => by cases r; rw [keyOf] at e; cases e; obtain ⟨t, rfl⟩ := rv; exact .int _ _
  | .str i, _, _, _, r, rv, e => by cases r; rw [keyOf] at e; cases e; obtain ⟨t, rfl⟩ := rv; exact .text _ _
  | .list _, _, _, _, _, _, e => by rw [keyOf] at e; cases e
  | .dict _, _, _, _, _, _, e => by rw [keyOf] at e; cases e
  | .tuple ds, _, _, _, r, rv, e => by
    rw [keyOf] at e
    cases q : keysOf ds with
    | none => rw [q] at e; cases e
    | some ks =>
      rw [q] at e
      cases e
      cases r with
      | @tup a vs _ h1 h2 =>
        cases rv
        obtain ⟨its, rr, ⟨o, ho, hc, n, hd⟩, _⟩ := I.tuple (same_sqt sub h1)
        exact .tup ho hc hd (by simpa using nested_ofs I sub ds vs its ks h2 rr q)
theorem nested_ofs {X : Cx} {pins : List (Addr × Obj)} {σ : L2.St} {H F : Hp} {s : Shared} (I : Inv X pins σ H s) (sub : Same F H) : ∀ (ds : List PyData) (vs : List V) (us : List Value) (ks : List NestedKey), RDs X.K F vs ds → Vals vs us → keysOf ds = some ks → NestedAll s.heap ks us
  | [], _, _, _, .nil, .nil, e => by rw [keysOf] at e; cases e; exact .nil
  | d :: ds, _, _, _, .cons h t, .cons r rr, e => by
    rw [keysOf] at e
    cases e1 : keyOf d with
    | none => rw [e1] at e; cases e
    | some k =>
      cases e2 : keysOf ds with
      | none => rw [e1, e2] at e; cases e
      | some ks =>
        rw [e1, e2] at e
        cases e
        exact .cons (nested_of I sub d _ _ k h r e1) (nested_ofs I sub ds _ _ ks t rr e2)
end
theorem key_ok {X : Cx} {pins : List (Addr × Obj)} {σ : L2.St} {H F : Hp} {s : Shared} (I : Inv X pins σ H s) (sub : Same F H) {d : PyData} {x : V} {u : Value} (r : RD X.K F x d) (rv : RelV x u) (hk : kOk d = true) :
    ∃ a k, x = .ref a ∧ u = .ref a ∧ keyOf d = some k ∧ (nestedKind X.prog X.w).is s.heap k a := by
  obtain ⟨ds, ks, rfl, e, hd⟩ := kOk_key hk
  have n := nested_of I sub _ _ _ _ r rv e
  cases r with
  | tup h1 h2 =>
    cases rv
    exact ⟨_, _, rfl, rfl, e, n, hd⟩
theorem any_ne {tp : Tp} {u : Wo} {es : List NE} {kvs : KV'} {d : PyData} {k : NestedKey} (r : RepE tp u es kvs) (e : keyOf d = some k) : (es.any fun p => decide (p.k = k)) = kvs.any fun p => decide (p.1 = d) := by
  unfold RepE at r
  induction r with
  | nil => rfl
  | @cons p q ps qs h t ih =>
    rw [List.any_cons, List.any_cons, ih]
    congr 1
    by_cases hq : q.1 = d
    · rw [decide_eq_true hq]
      rw [hq, e] at h
      exact decide_eq_true (Option.some.inj h.2.1).symm
    · rw [decide_eq_false hq]
      refine decide_eq_false fun hp => hq ?_
      have h2 := h.2.1
      rw [hp] at h2
      exact keyOf_inj h2 e
theorem RepE.put {tp : Tp} {u : Wo} {es : List NE} {kvs : KV'} {d x : PyData} {k : NestedKey} {a : Addr} {v : V} (r : RepE tp u es kvs) (e : keyOf d = some k) (hk : kOk d = true) (ra : RD tp.K u.F (.ref a) d) (rv : RD tp.K u.F v x) : RepE tp u (nePut es k a v) (dPut kvs d x) := by
  unfold nePut dPut
  rw [any_ne r e]
  split
  · rename_i hany
    clear hany
    unfold RepE at r ⊢
    clear ra hk
    induction r with
    | nil => exact .nil
    | @cons p q ps qs h t ih =>
      refine .cons ?_ ih
      by_cases hq : q.1 = d
      · have hp : p.k = k := by have := h.2.1; rw [hq, e] at this; exact (Option.some.inj this).symm
        simp only [hq, hp, if_true]
        exact ⟨by rw [← hq]; exact h.1, e, by rw [← hq]; exact h.2.2.1, rv⟩
      · have hp : ¬ p.k = k := fun z => hq (by have := h.2.1; rw [z] at this; exact keyOf_inj this e)
        simp only [hq, hp, if_false]
        exact h
  · have gen : ∀ {es : List NE} {kvs : KV'}, RepE tp u es kvs → RepE tp u (es ++ [⟨k, a, v⟩]) (kvs ++ [(d, x)]) := by
      intro es kvs r
      unfold RepE at r ⊢
      induction r with
      | nil => exact .cons ⟨hk, e, ra, rv⟩ .nil
      | cons h t ih => exact .cons h ih
    exact gen r
theorem isSome_atKey {es : List NE} {xs : List (NestedKey × Addr × Value)} {k : NestedKey} (r : NEs es xs) : (atKey xs k).isSome = es.any fun p => decide (p.k = k) := by
  unfold NEs at r
  unfold atKey
  induction r with
  | nil => rfl
  | @cons p q ps qs h t ih =>
    rw [List.any_cons, List.find?_cons]
    by_cases hq : q.1 = k
    · have hp : p.k = k := h.1.trans hq
      simp [hq, hp]
    · have hp : ¬ p.k = k := fun z => hq (h.1.symm.trans z)
      simp only [hq, hp, decide_false, Bool.false_or]
      exact ih
theorem NEs.put {es : List NE} {xs : List (NestedKey × Addr × Value)} {k : NestedKey} {a : Addr} {v : V} {u : Value} (r : NEs es xs) (rv : RelV v u) : NEs (nePut es k a v) (storedH xs k a u) := by
  unfold nePut storedH
  rw [isSome_atKey r]
  split
  · rename_i hany
    clear hany
    unfold NEs at r ⊢
    induction r with
    | nil => exact .nil
    | @cons p q ps qs h t ih =>
      refine .cons ?_ ih
      unfold putAt
      by_cases hq : q.1 = k
      · have hp : p.k = k := h.1.trans hq
        dsimp only
        rw [if_pos hp, if_pos hq]
        exact ⟨h.1, h.2.1, rv⟩
      · have hp : ¬ p.k = k := fun z => hq (h.1.symm.trans z)
        simp only [hq, hp, if_false]
        exact h
  · have gen : ∀ {es : List NE} {xs : List (NestedKey × Addr × Value)}, NEs es xs → NEs (es ++ [⟨k, a, v⟩]) (xs ++ [(k, a, u)]) := by
      intro es xs r
      unfold NEs at r ⊢
      induction r with
      | nil => exact .cons ⟨rfl, rfl, rv⟩ .nil
      | cons h t ih => exact .cons h ih
    exact gen r
theorem dGet_val {tp : Tp} {u : Wo} {es : List NE} {kvs : KV'} {xs : List (NestedKey × Addr × Value)} {d x : PyData} {k : NestedKey} (r : RepE tp u es kvs) (rx : NEs es xs) (e : keyOf d = some k) (h : dGet kvs d = some x) :
    ∃ p v, atKey xs k = some p ∧ RelV v p.2 ∧ RD tp.K u.F v x := by
  unfold dGet at h
  unfold atKey
  unfold RepE at r
  unfold NEs at rx
  induction r generalizing xs with
  | nil => cases h
  | @cons p q ps qs hpq t ih =>
    cases rx with
    | @cons _ y _ ys hy ty =>
      rw [List.find?_cons] at h ⊢
      by_cases hq : q.1 = d
      · have hp : p.k = k := by have := hpq.2.1; rw [hq, e] at this; exact (Option.some.inj this).symm
        have hy' : y.1 = k := hy.1.symm.trans hp
        simp only [hq, decide_true] at h
        simp only [hy', decide_true]
        refine ⟨y.2, p.v, rfl, hy.2.2, ?_⟩
        have : q.2 = x := by simpa using h
        rw [← this]; exact hpq.2.2.2
      · have hp : ¬ p.k = k := fun z => hq (by have := hpq.2.1; rw [z] at this; exact keyOf_inj this e)
        have hy' : ¬ y.1 = k := fun z => hp (hy.1.trans z)
        simp only [hq, decide_false] at h
        simp only [hy', decide_false]
        exact ih ty h
theorem dGet_some {kvs : KV'} {d : PyData} : (dGet kvs d).isSome = kvs.any fun p => decide (p.1 = d) := by
  unfold dGet
  induction kvs with
  | nil => rfl
  | cons p ps ih =>
    rw [List.find?_cons, List.any_cons]
    by_cases h : p.1 = d
    · simp [h]
    · simp only [h, decide_false, Bool.false_or]
      exact ih
def asMo : Cell → Mem → Option KV'
  | .obj l, M => match M[l]? with | some (.dct kvs) => some kvs | _ => none
  | _, _ => none
def asM : Cell → Mem → Option KV'
  | .obj l, M => match M[l]? with | some (.dct kvs) => some kvs | _ => none
  | .fdc kvs, _ => some kvs
  | _, _ => none
section
variable {X : Cx} {pins : List (Addr × Obj)} {σ : L2.St} {H : Hp} {s : Shared} {w : Wo} {M : Mem}
theorem key_mem {tp : Tp} {u : Wo} : ∀ {es : List NE} {kvs : KV'} {xs : List (NestedKey × Addr × Value)}, RepE tp u es kvs → NEs es xs → ∀ x ∈ xs, ∃ q ∈ kvs, keyOf q.1 = some x.1 ∧ kOk q.1 = true ∧ RD tp.K u.F (.ref x.2.1) q.1
  | _, _, _, .nil, .nil, x, hx => by cases hx
  | _, _, _, .cons h t, .cons hy ty, x, hx => by
    rcases List.mem_cons.mp hx with rfl | hx
    · exact ⟨_, List.mem_cons_self, by rw [← hy.1]; exact h.2.1, h.1, by rw [← hy.2.1]; exact h.2.2.1⟩
    · obtain ⟨q', a1, a2⟩ := key_mem t ty x hx
      exact ⟨q', List.mem_cons_of_mem _ a1, a2⟩
theorem key_nodup {tp : Tp} {u : Wo} : ∀ {es : List NE} {kvs : KV'} {xs : List (NestedKey × Addr × Value)}, RepE tp u es kvs → NEs es xs → (kvs.map (·.1)).Nodup → (xs.map (·.1)).Nodup
  | _, _, _, .nil, .nil, _ => List.nodup_nil
  | _, _, _, .cons h t, .cons hy ty, hn => by
    rw [List.map_cons, List.nodup_cons] at hn ⊢
    refine ⟨fun hm => hn.1 ?_, key_nodup t ty hn.2⟩
    obtain ⟨z, hz, ez⟩ := List.mem_map.mp hm
    obtain ⟨q', hq', eq', _⟩ := key_mem t ty z hz
    have e1 := h.2.1
    rw [hy.1, ← ez] at e1
    rw [keyOf_inj e1 eq']
    exact List.mem_map.mpr ⟨q', hq', rfl⟩
theorem dict_parts {a : Addr} {o : Obj} {ar : Array DictEntry} {ep : Nat} {kvs : KV'} {es : List NE} {xs : List (NestedKey × Addr × Value)} (I : Inv X pins σ H s) (sub : Same w.F H) (ho : s.heap.get? a = some o) (hx : o.ExactDict) (hd : o.data = .dict ar ep) (he : ar.toList = xs.map (entryOfKey (nestedKind X.prog X.w)))
    (rE : RepE (tpOf X) w es kvs) (rX : NEs es xs) (hn : (kvs.map (·.1)).Nodup) : s.heap.DictOfH (nestedKind X.prog X.w) a xs := by
  refine ⟨o, ar, ep, ho, hx, hd, he, fun x hx => ?_, key_nodup rE rX hn⟩
  obtain ⟨q, _, q1, q2, q3⟩ := key_mem rE rX x hx
  obtain ⟨b, k, e1, e2, e3, e4⟩ := key_ok I sub q3 rfl q2
  cases e1
  rw [q1] at e3
  cases e3
  exact e4
/-- the dict of a label at the program's heap -/
theorem dct_rep {x : V} {c : Cell} {kvs : KV'} (I : Inv X pins σ H s) (st : Sto (tpOf X) w M H) (r : RepC (tpOf X) w x c) (e : asMo c M = some kvs) :
    ∃ a es xs l, c = .obj l ∧ M[l]? = some (.dct kvs) ∧ w.α[l]? = some a ∧ x = .ref a ∧ (a == sysModules) = false ∧ (kvs.map (·.1)).Nodup ∧ kvs.length ≤ sizeLine ∧ H a = some (ND (tpOf X) a es) ∧ RepE (tpOf X) w es kvs ∧ NEs es xs ∧ s.heap.DictOfH (nestedKind X.prog X.w) a xs ∧ xs.length = kvs.length ∧
      ∃ o ar ep, s.heap.get? a = some o ∧ o.ExactDict ∧ o.data = .dict ar ep ∧ ar.toList = xs.map (entryOfKey (nestedKind X.prog X.w)) := by
  cases c with
  | dat d => cases e
  | fdc d => cases e
  | ftd d => cases e
  | obj l =>
    obtain ⟨a, h1, h2⟩ := r
    unfold asMo at e
    cases em : M[l]? with
    | none => simp [em] at e
    | some m =>
      cases m with
      | dct kvs' =>
        simp only [em, Option.some.injEq] at e
        subst e h2
        obtain ⟨_, _, _, g1, g2, g3, es, g4, g5⟩ := st.rep l _ a em (by intro z; cases z) h1
        obtain ⟨xs, n1, o, ar, ep, d1, d2, d3, d4⟩ := (I.hok a _ g4).1
        have hlen : es.length = kvs'.length := Paired.length g5
        have hlen2 : es.length = xs.length := Paired.length n1
        exact ⟨a, es, xs, l, rfl, em, h1, rfl, g1, g2, g3, g4, g5, n1, dict_parts I st.sub d1 d2 d3 d4 g5 n1 g2, by omega, o, ar, ep, d1, d2, d3, d4⟩
      | lst _ => simp [em] at e
      | ins _ _ => simp [em] at e
      | tdc _ => simp [em] at e
      | dead => simp [em] at e
/-- a dict to be read -/
theorem dct_read {x : V} {c : Cell} {kvs : KV'} (I : Inv X pins σ H s) (st : Sto (tpOf X) w M H) (r : RepC (tpOf X) w x c) (e : asM c M = some kvs) :
    ∃ a es xs, x = .ref a ∧ (a == sysModules) = false ∧ (kvs.map (·.1)).Nodup ∧ kvs.length ≤ sizeLine ∧ RepE (tpOf X) w es kvs ∧ NEs es xs ∧ s.heap.DictOfH (nestedKind X.prog X.w) a xs ∧ xs.length = kvs.length := by
  cases c with
  | dat d => cases e
  | ftd d => cases e
  | fdc kvs' =>
    cases e
    obtain ⟨a, o, ar, ep, es, xs, rfl, h2, h3, h4, h5, h6, h7, h8, h9, h10⟩ := r
    have ho : s.heap.get? a = some o := (I.hok a _ (st.sub a _ h2)).1
    have hlen : es.length = kvs.length := Paired.length h6
    have hlen2 : es.length = xs.length := Paired.length h7
    exact ⟨a, es, xs, rfl, h3, h4, h5, h6, h7, dict_parts I st.sub ho h8 h9 h10 h6 h7 h4, by omega⟩
  | obj l =>
    obtain ⟨a, es, xs, l, _, _, _, h1, h2, h3, h4, _, h6, h7, h8, h9, _⟩ := dct_rep I st r (show asMo (.obj l) M = some kvs from e)
    exact ⟨a, es, xs, h1, h2, h3, h4, h6, h7, h8, h9⟩
end

/-! in, not in, d[k], d[k] = v -/
def vInM (neg : Bool) : V2 := fun c d M => match c, asM d M with
  | .dat k, some kvs => if kOk k then some (.dat (.bool (if neg then !(kvs.any fun p => decide (p.1 = k)) else kvs.any fun p => decide (p.1 = k))), M) else none
  | _, _ => none
def vIxM : V2 := fun c d M => match asM c M, d with
  | some kvs, .dat k => if kOk k then match dGet kvs k with | some v => some (.dat v, M) | none => none else none
  | _, _ => none
abbrev V3 := Cell → Cell → Cell → Mem → Option Mem
def vPutM : V3 := fun o i v M => match o, asMo o M, i, v with
  | .obj l, some kvs, .dat k, .dat e => if kOk k && decide (kvs.length < LIM) then some (M.set l (.dct (dPut kvs k e))) else none
  | _, _, _, _ => none
def vPutL : V3 := fun o i v M => match o, asL o M, i, v with
  | .obj l, some ds, .dat (.int k), .dat e => match ixN ds.length k with | some j => some (M.set l (.lst (ds.set j e))) | none => none
  | _, _, _, _ => none
def rPut (tp : Tp) (k : V3) : V → V → V → Hp → (Hp → Prop) → Prop := fun o i v H Q => ∃ u M c d e, Sto tp u M H ∧ RepC tp u o c ∧ RepC tp u i d ∧ RepC tp u v e ∧ match k c d e M with
  | some M' => ∀ H' u', Ext u u' → Sto tp u' M' H' → Q H'
  | none => False
def or3 (k k' : V3) : V3 := fun a b c M => match k a b c M with | some r => some r | none => k' a b c M
section
variable {X : Cx}
theorem PSet.or3 {k k' : V3} (h : PSet X (rPut (tpOf X) k)) (h' : PSet X (rPut (tpOf X) k')) : PSet X (rPut (tpOf X) (or3 k k')) := by
  intro pins s σ H o i v ov iv u Q I ro ri rv ⟨w, M, c, d, e, st, r1, r2, r3, q⟩
  unfold QL.or3 at q
  cases ek : k c d e M with
  | some r => rw [ek] at q; exact h pins s σ H o i v ov iv u Q I ro ri rv ⟨w, M, c, d, e, st, r1, r2, r3, by rw [ek]; exact q⟩
  | none => rw [ek] at q; exact h' pins s σ H o i v ov iv u Q I ro ri rv ⟨w, M, c, d, e, st, r1, r2, r3, q⟩
theorem room_nested {A : Around} (hu : A.units + 100 < cLine) {P : Program} {w : World} : (nestedKind P w).room A.in1 := by
  show A.units + 1 + 8 < cLine
  omega
theorem o_inM (hu : X.A.units + 100 < cLine) : OpR X (compareOp .In) (rV2 (tpOf X) (vInM false)) := by
  intro pins s σ H x y v u Q I rx ry ⟨w, M, c, d, st, r1, r2, q⟩
  unfold vInM at q
  split at q
  · rename_i k kvs e1
    split at q
    · rename_i hk
      obtain ⟨a, es, xs, rfl, hm, hn, hz, rE, rX, D, hl⟩ := dct_read I st r2 e1
      obtain ⟨b, ky, rfl, rfl, ek, hi⟩ := key_ok I st.sub r1 rx hk
      cases ry
      refine wpAny_in_heap (room_nested hu) hi hm D ⟨.bl _, H, I.tok _, ?_, post_bl st q⟩
      show Value.bool _ = Value.bool _
      rw [isSome_atKey rX, any_ne rE ek]
      rfl
    · exact q.elim
  · exact q.elim
theorem o_notInM (hu : X.A.units + 100 < cLine) : OpR X (compareOp .NotIn) (rV2 (tpOf X) (vInM true)) := by
  intro pins s σ H x y v u Q I rx ry ⟨w, M, c, d, st, r1, r2, q⟩
  unfold vInM at q
  split at q
  · rename_i k kvs e1
    split at q
    · rename_i hk
      obtain ⟨a, es, xs, rfl, hm, hn, hz, rE, rX, D, hl⟩ := dct_read I st r2 e1
      obtain ⟨b, ky, rfl, rfl, ek, hi⟩ := key_ok I st.sub r1 rx hk
      cases ry
      refine notIn_keyed (room_nested hu) hi hm ⟨xs, D, rfl⟩ ⟨.bl _, H, I.tok _, ?_, post_bl st q⟩
      show Value.bool _ = Value.bool _
      rw [valueAt_pairsH, Option.isSome_map, isSome_atKey rX, any_ne rE ek]
      rfl
    · exact q.elim
  · exact q.elim
theorem i_map (hu : X.A.units + 100 < cLine) : IxR X (rV2 (tpOf X) vIxM) := by
  intro va sl pins s σ H x y v u Q I rx ry ⟨w, M, c, d, st, r1, r2, q⟩ hs
  unfold vIxM at q
  split at q
  · rename_i kvs k e1
    split at q
    · rename_i hk
      split at q
      · rename_i z ez
        obtain ⟨a, es, xs, rfl, hm, hn, hz, rE, rX, D, hl⟩ := dct_read I st r1 e1
        obtain ⟨b, ky, rfl, rfl, ek, hi⟩ := key_ok I st.sub r2 ry hk
        obtain ⟨p, vv, hp, rv, rd⟩ := dGet_val rE rX ek ez
        cases rx
        exact subscriptTail_builtinR (x := p.2) D.typeIs PySem.F.slot_dict_getitem.lookup (wpAny_getItem_heap (room_nested hu) hi D hp ⟨rfl, vv, H, I.tok _, rv, post_d st rd q⟩) hs
      · exact q.elim
    · exact q.elim
  · exact q.elim
theorem set_map (hu : X.A.units + 100 < cLine) : PSet X (rPut (tpOf X) vPutM) := by
  intro pins s σ H o i v ov iv u Q I ro ri rv ⟨w, M, c, d, e, st, r1, r2, r3, q⟩
  unfold vPutM at q
  split at q
  · rename_i M' he
    split at he
    · rename_i l kvs k ee e1
      split at he
      · rename_i hk
        rw [Bool.and_eq_true] at hk
        obtain rfl := Option.some.inj he
        obtain ⟨a, es, xs, l', el, em, ea, rfl, hm, hn, hz, hH, rE, rX, D, hl, _⟩ := dct_rep I st r1 e1
        cases el
        obtain ⟨b, ky, rfl, rfl, ek, hi⟩ := key_ok I st.sub r2 ri hk.1
        cases ro
        have hlim : kvs.length < LIM := of_decide_eq_true hk.2
        refine wpAny_setItem_heap (hsz := by rw [hl]; exact hz) (room_nested hu) hi D fun h' D' sb => ?_
        have rX' := rX.put (k := ky) (a := b) rv
        have rE' := rE.put ek hk.1 r2 r3
        have hd : DictAt (tpOf X) a (nePut es ky b v) h' := by
          obtain ⟨ob, ar, ep, g1, g2, g3, g4, _⟩ := D'
          exact ⟨_, rX', ob, ar, ep, g1, g2, g3, g4⟩
        refine ⟨_, d_write I (by rw [hH]; exact True.intro) sb (let ⟨ob, _, _, g1, _⟩ := D'; ⟨ob, g1⟩) (nd_new hd), ?_⟩
        refine q _ w (Ext.refl w) (st.write em (by intro z; cases z) ea ⟨hm, keys_dPut _ _ _ hn, ?_, _, upd_same, rE'⟩)
        exact lim_ok (Nat.le_trans (length_dPut _ _ _) hlim)
      · cases he
    · cases he
  · exact q.elim
theorem set_lst : PSet X (rPut (tpOf X) vPutL) := by
  intro pins s σ H o i v ov iv u Q I ro ri rv ⟨w, M, c, d, e, st, r1, r2, r3, q⟩
  unfold vPutL at q
  split at q
  · rename_i M' he
    split at he
    · rename_i l ds k ee e1
      split at he
      · rename_i j ej
        obtain rfl := Option.some.inj he
        obtain ⟨a, h1, rfl⟩ := r1
        unfold asL at e1
        cases em : M[l]? with
        | none => simp [em] at e1
        | some m =>
          cases m with
          | lst ds' =>
            simp only [em, Option.some.injEq] at e1
            subst e1
            obtain ⟨_, _, _, vs, f4, f5, f6⟩ := st.rep l _ a em (by intro z; cases z) h1
            refine set_list pins s σ H _ i v ov iv u Q I ro ri rv ⟨a, vs, k, j, rfl, rep_int r2, f4, by rw [f5.length]; exact ej, ?_⟩
            exact q _ w (Ext.refl w) (st.write em (by intro z; cases z) h1 ⟨_, upd_same, f5.set r3 j, by rw [List.length_set]; exact f6⟩)
          | dct _ => simp [em] at e1
          | tdc _ => simp [em] at e1
          | ins _ _ => simp [em] at e1
          | dead => simp [em] at e1
      · cases he
    · cases he
  · exact q.elim
/-- o[i] = e -/
def sPut (k : V3) (f o i : EvF) : EvS := fun ρ M => (f ρ M).toS ρ fun c M => (o ρ M).toS ρ fun d M => (i ρ M).toS ρ fun j M => match k d j c M with
  | some M' => .nx ρ M'
  | none => .no
theorem qs_put {W : WX} {k : V3} {e o i : Expr} {f g h : EvF} {p pos : Pos} (hk : PSet X (rPut (tpOf X) k)) (he : PE X e (tE (tpOf X) W f)) (ho : PE X o (tE (tpOf X) W g)) (hi : PE X i (tE (tpOf X) W h))
    (hs : swapsWithSole [.Subscript o i p] e pos.line X.env = pure false := by rfl) (hw : swappedStores [.Subscript o i p] e X.env = pure none := by rfl) (h1 : (assignEach [.Subscript o i p] X.env).map (·.2) = [assign (.Subscript o i p) X.env] := by rfl)
    (ha : ∀ v, assign (.Subscript o i p) X.env v = (do
      let ov ← holding [v] (eval o X.env)
      let iv ← holding [v, ov] (eval i X.env)
      standAt p
      holding [v, ov, iv] (setItem ov iv v)
      release [v, ov, iv] []) := by intro _; rfl) : PS X (.Assign [.Subscript o i p] e pos) (tS (tpOf X) W (sPut k f g h)) := by
  refine PS.weak (ps_asg he (pg_sub ho hi hk ha) hs hw h1) fun D σ H h0 => ?_
  obtain ⟨u, ρ, M, g0, q⟩ := tS_bind (Rp := RepC (tpOf X)) (k := fun ρ c M => (g ρ M).toS ρ fun d M => (h ρ M).toS ρ fun j M => match k d j c M with | some M' => .nx ρ M' | none => .no) h0
  refine ⟨u, ρ, M, g0, Post.mono q fun v H1 ⟨u1, ρ1, M1, c, g1, r1, q1⟩ => ?_⟩
  refine ⟨u1, ρ1, M1, g1, ?_⟩
  have q1 : PostS (tpOf X) W u1 ((g ρ1 M1).toS ρ1 fun d M => (h ρ1 M).toS ρ1 fun j M => match k d j c M with | some M' => .nx ρ1 M' | none => .no) D := q1
  revert q1
  cases g ρ1 M1 with
  | no => exact fun q => q
  | ex x M' => exact fun q cls dd H' u' e s r => q cls dd σ H' u' e (g1.ext e s) r
  | ok d M2 =>
    intro q1 ov H2 u2 e2 s2 r2
    have g2 := g1.ext e2 s2
    refine ⟨u2, ρ1, M2, g2, ?_⟩
    have q1 : PostS (tpOf X) W u1 ((h ρ1 M2).toS ρ1 fun j M => match k d j c M with | some M' => .nx ρ1 M' | none => .no) D := q1
    revert q1
    cases h ρ1 M2 with
    | no => exact fun q => q
    | ex x M' => exact fun q cls dd H' u' e s r => q cls dd σ H' u' (e2.trans e) (g2.ext e s) r
    | ok j M3 =>
      intro q1 iv H3 u3 e3 s3 r3
      refine ⟨u3, M3, d, j, c, s3, r2.mono e3, r3, r1.mono (e2.trans e3), ?_⟩
      have q1 : PostS (tpOf X) W u1 (match k d j c M3 with | some M' => .nx ρ1 M' | none => .no) D := q1
      revert q1
      cases k d j c M3 with
      | none => exact fun q => q
      | some M' => exact fun q H4 u4 e4 s4 => q σ H4 u4 ((e2.trans e3).trans e4) (g1.ext ((e2.trans e3).trans e4) s4)
end
end QL

set_option Elab.async false
set_option linter.all false
set_option maxRecDepth 100000
set_option maxHeartbeats 4000000
namespace QL
open PySem PySem.Spec PyProof.Rows L2

/-! ### dicts whose keys are texts -/
abbrev KT' := List (Str × PyData)
def tdGet (kvs : KT') (k : Str) : Option PyData := (kvs.find? fun p => decide (p.1 = k)).map (·.2)
def tdPut (kvs : KT') (k : Str) (e : PyData) : KT' := if kvs.any fun p => decide (p.1 = k) then kvs.map fun p => if p.1 = k then (p.1, e) else p else kvs ++ [(k, e)]
def tvPut (vs : List (Str × V)) (k : Str) (v : V) : List (Str × V) := if vs.any fun p => decide (p.1 = k) then vs.map fun p => if p.1 = k then (p.1, v) else p else vs ++ [(k, v)]
theorem length_tdPut (kvs : KT') (k : Str) (e : PyData) : (tdPut kvs k e).length ≤ kvs.length + 1 := by
  unfold tdPut; split <;> simp
theorem any_rel {β γ : Type} {R : (Str × β) → (Str × γ) → Prop} (hR : ∀ p q, R p q → p.1 = q.1) {xs : List (Str × β)} {ys : List (Str × γ)} (r : Paired R xs ys) (k : Str) : (xs.any fun p => decide (p.1 = k)) = ys.any fun p => decide (p.1 = k) := by
  induction r with
  | nil => rfl
  | @cons p q ps qs h t ih => rw [List.any_cons, List.any_cons, ih, hR p q h]
theorem put_rel {β γ : Type} {R : β → γ → Prop} {xs : List (Str × β)} {ys : List (Str × γ)} (r : Paired (fun (p : Str × β) (q : Str × γ) => p.1 = q.1 ∧ R p.2 q.2) xs ys) {k : Str} {b : β} {c : γ} (hb : R b c) :
    Paired (fun (p : Str × β) (q : Str × γ) => p.1 = q.1 ∧ R p.2 q.2) (if xs.any fun p => decide (p.1 = k) then xs.map fun p => if p.1 = k then (p.1, b) else p else xs ++ [(k, b)])
      (if ys.any fun p => decide (p.1 = k) then ys.map fun p => if p.1 = k then (p.1, c) else p else ys ++ [(k, c)]) := by
  rw [any_rel (fun _ _ h => h.1) r k]
  split
  · rename_i hany
    clear hany
    induction r with
    | nil => exact .nil
    | @cons p q ps qs h t ih =>
      refine .cons ?_ ih
      by_cases hq : q.1 = k
      · have hp : p.1 = k := h.1.trans hq
        dsimp only
        rw [if_pos hp, if_pos hq]
        exact ⟨h.1, hb⟩
      · have hp : ¬ p.1 = k := fun z => hq (h.1.symm.trans z)
        dsimp only
        rw [if_neg hp, if_neg hq]
        exact h
  · have gen : ∀ {xs : List (Str × β)} {ys : List (Str × γ)}, Paired (fun (p : Str × β) (q : Str × γ) => p.1 = q.1 ∧ R p.2 q.2) xs ys → Paired (fun (p : Str × β) (q : Str × γ) => p.1 = q.1 ∧ R p.2 q.2) (xs ++ [(k, b)]) (ys ++ [(k, c)]) := by
      intro xs ys r
      induction r with
      | nil => exact .cons ⟨rfl, hb⟩ .nil
      | cons h t ih => exact .cons h ih
    exact gen r
theorem TVs.put {vs : List (Str × V)} {xs : List (Str × Value)} {k : Str} {v : V} {u : Value} (r : TVs vs xs) (rv : RelV v u) : TVs (tvPut vs k v) (stored xs k u) := put_rel r rv
theorem RepT.put {tp : Tp} {u : Wo} {vs : List (Str × V)} {kvs : KT'} {k : Str} {v : V} {d : PyData} (r : RepT tp u vs kvs) (rv : RD tp.K u.F v d) : RepT tp u (tvPut vs k v) (tdPut kvs k d) := put_rel (R := fun v d => RD tp.K u.F v d) r rv
theorem find_rel {β γ : Type} {R : β → γ → Prop} {xs : List (Str × β)} {ys : List (Str × γ)} (r : Paired (fun (p : Str × β) (q : Str × γ) => p.1 = q.1 ∧ R p.2 q.2) xs ys) (k : Str) :
    (∃ p q, (xs.find? fun p => decide (p.1 = k)) = some p ∧ (ys.find? fun p => decide (p.1 = k)) = some q ∧ R p.2 q.2) ∨ ((xs.find? fun p => decide (p.1 = k)) = none ∧ (ys.find? fun p => decide (p.1 = k)) = none) := by
  induction r with
  | nil => exact .inr ⟨rfl, rfl⟩
  | @cons p q ps qs h t ih =>
    by_cases hq : q.1 = k
    · have hp : p.1 = k := h.1.trans hq
      exact .inl ⟨p, q, by simp [hp], by simp [hq], h.2⟩
    · have hp : ¬ p.1 = k := fun z => hq (h.1.symm.trans z)
      rw [List.find?_cons, List.find?_cons, decide_eq_false hp, decide_eq_false hq]
      exact ih
def asTo : Cell → Mem → Option KT'
  | .obj l, M => match M[l]? with | some (.tdc kvs) => some kvs | _ => none
  | _, _ => none
def asTd : Cell → Mem → Option KT'
  | .obj l, M => match M[l]? with | some (.tdc kvs) => some kvs | _ => none
  | .ftd kvs, _ => some kvs
  | _, _ => none
def strO : Cell → Option Str
  | .dat (.str k) => some k
  | _ => none
section
variable {X : Cx} {pins : List (Addr × Obj)} {σ : L2.St} {H : Hp} {s : Shared} {w : Wo} {M : Mem}
theorem tdc_rep {x : V} {c : Cell} {kvs : KT'} (I : Inv X pins σ H s) (st : Sto (tpOf X) w M H) (r : RepC (tpOf X) w x c) (e : asTo c M = some kvs) :
    ∃ a vs xs l, c = .obj l ∧ M[l]? = some (.tdc kvs) ∧ w.α[l]? = some a ∧ x = .ref a ∧ (a == sysModules) = false ∧ kvs.length ≤ sizeLine ∧ H a = some (TD (tpOf X) a vs) ∧ RepT (tpOf X) w vs kvs ∧ TVs vs xs ∧ s.heap.DictOf (PySem.strKind X.prog X.w) a xs ∧ xs.length = kvs.length := by
  cases c with
  | dat d => cases e
  | fdc d => cases e
  | ftd d => cases e
  | obj l =>
    obtain ⟨a, h1, h2⟩ := r
    unfold asTo at e
    cases em : M[l]? with
    | none => simp [em] at e
    | some m =>
      cases m with
      | tdc kvs' =>
        simp only [em, Option.some.injEq] at e
        subst e h2
        obtain ⟨_, _, _, g1, g2, vs, g3, g4⟩ := st.rep l _ a em (by intro z; cases z) h1
        obtain ⟨xs, n1, d1⟩ := (I.hok a _ g3).1
        have hlen : vs.length = kvs'.length := Paired.length g4
        have hlen2 : vs.length = xs.length := Paired.length n1
        exact ⟨a, vs, xs, l, rfl, em, h1, rfl, g1, g2, g3, g4, n1, d1, by omega⟩
      | lst _ => simp [em] at e
      | dct _ => simp [em] at e
      | ins _ _ => simp [em] at e
      | dead => simp [em] at e
theorem tdc_read {x : V} {c : Cell} {kvs : KT'} (I : Inv X pins σ H s) (st : Sto (tpOf X) w M H) (r : RepC (tpOf X) w x c) (e : asTd c M = some kvs) :
    ∃ a vs xs, x = .ref a ∧ (a == sysModules) = false ∧ kvs.length ≤ sizeLine ∧ RepT (tpOf X) w vs kvs ∧ TVs vs xs ∧ s.heap.DictOf (PySem.strKind X.prog X.w) a xs ∧ xs.length = kvs.length := by
  cases c with
  | dat d => cases e
  | fdc d => cases e
  | ftd kvs' =>
    cases e
    obtain ⟨a, vs, rfl, h2, h3, h4, h5⟩ := r
    obtain ⟨xs, n1, d1⟩ := (I.hok a _ (st.sub a _ h2)).1
    have hlen : vs.length = kvs.length := Paired.length h5
    have hlen2 : vs.length = xs.length := Paired.length n1
    exact ⟨a, vs, xs, rfl, h3, h4, h5, n1, d1, by omega⟩
  | obj l =>
    obtain ⟨a, vs, xs, l, _, _, _, h1, h2, h3, _, h5, h6, h7, h8⟩ := tdc_rep I st r (show asTo (.obj l) M = some kvs from e)
    exact ⟨a, vs, xs, h1, h2, h3, h5, h6, h7, h8⟩
theorem tdc_any {tp : Tp} {vs : List (Str × V)} {xs : List (Str × Value)} {kvs : KT'} (r : RepT tp w vs kvs) (t : TVs vs xs) (k : Str) : (valueAt xs k).isSome = kvs.any fun p => decide (p.1 = k) := by
  rw [← any_rel (fun _ _ h => h.1) r k, any_rel (fun _ _ h => h.1) t k]
  unfold valueAt
  rw [Option.isSome_map]
  clear r t
  induction xs with
  | nil => rfl
  | cons p ps ih =>
    rw [List.find?_cons, List.any_cons]
    by_cases h : p.1 = k
    · simp [h]
    · simp only [h, decide_false, Bool.false_or]
      exact ih
theorem tdc_val {tp : Tp} {vs : List (Str × V)} {xs : List (Str × Value)} {kvs : KT'} (r : RepT tp w vs kvs) (t : TVs vs xs) (k : Str) :
    (∃ d v u, tdGet kvs k = some d ∧ valueAt xs k = some u ∧ RelV v u ∧ RD tp.K w.F v d) ∨ (tdGet kvs k = none ∧ valueAt xs k = none) := by
  unfold tdGet valueAt
  rcases find_rel (R := fun v d => RD tp.K w.F v d) r k with ⟨p, q, e1, e2, h⟩ | ⟨e1, e2⟩
  · rcases find_rel (R := RelV) t k with ⟨p', q', e3, e4, h'⟩ | ⟨e3, _⟩
    · rw [e1] at e3
      cases e3
      exact .inl ⟨q.2, p.2, q'.2, by rw [e2]; rfl, by rw [e4]; rfl, h', h⟩
    · rw [e1] at e3; cases e3
  · rcases find_rel (R := RelV) t k with ⟨p', q', e3, e4, h'⟩ | ⟨_, e4⟩
    · rw [e1] at e3; cases e3
    · exact .inr ⟨by rw [e2]; rfl, by rw [e4]; rfl⟩
theorem str_key {v : V} {u : Value} {k : Str} {F : Hp} {K : PySem.W.Frag} (r : RD K F v (.str k)) (rv : RelV v u) {P : Program} {w : World} : (PySem.strKind P w).is k u = true := by
  cases r
  obtain ⟨t, rfl⟩ := rv
  exact strKind_is P w k t
end

def vInT (neg : Bool) : V2 := fun c d M => match strO c, asTd d M with
  | some k, some kvs => some (.dat (.bool (if neg then !(kvs.any fun p => decide (p.1 = k)) else kvs.any fun p => decide (p.1 = k))), M)
  | _, _ => none
def vIxD : V2 := fun c d M => match asTd c M, strO d with
  | some kvs, some k => match tdGet kvs k with | some v => some (.dat v, M) | none => none
  | _, _ => none
def vPutT : V3 := fun o i v M => match o, asTo o M, strO i, v with
  | .obj l, some kvs, some k, .dat e => if kvs.length < LIM then some (M.set l (.tdc (tdPut kvs k e))) else none
  | _, _, _, _ => none
theorem strO_eq {c : Cell} {k : Str} (h : strO c = some k) : c = .dat (.str k) := by
  unfold strO at h
  split at h
  · cases h; rfl
  · cases h
section
variable {X : Cx}
theorem o_inT : OpR X (compareOp .In) (rV2 (tpOf X) (vInT false)) := by
  intro pins s σ H x y v u Q I rx ry ⟨w, M, c, d, st, r1, r2, q⟩
  unfold vInT at q
  split at q
  · rename_i k kvs e0 e1
    obtain rfl := strO_eq e0
    obtain ⟨a, vs, xs, rfl, hm, hz, rT, tV, D, hl⟩ := tdc_read I st r2 e1
    cases ry
    refine wpAny_in_of (str_key r1 rx) hm D.mapOf ⟨.bl _, H, I.tok _, ?_, post_bl st q⟩
    show Value.bool _ = Value.bool _
    rw [tdc_any rT tV]
    rfl
  · exact q.elim
theorem o_notInT : OpR X (compareOp .NotIn) (rV2 (tpOf X) (vInT true)) := by
  intro pins s σ H x y v u Q I rx ry ⟨w, M, c, d, st, r1, r2, q⟩
  unfold vInT at q
  split at q
  · rename_i k kvs e0 e1
    obtain rfl := strO_eq e0
    obtain ⟨a, vs, xs, rfl, hm, hz, rT, tV, D, hl⟩ := tdc_read I st r2 e1
    cases ry
    refine PySem.wpAny_notIn_of (str_key r1 rx) hm D.mapOf ⟨.bl _, H, I.tok _, ?_, post_bl st q⟩
    show Value.bool _ = Value.bool _
    rw [tdc_any rT tV]
    rfl
  · exact q.elim
theorem i_tmap : IxR X (rV2 (tpOf X) vIxD) := by
  intro va sl pins s σ H x y v u Q I rx ry ⟨w, M, c, d, st, r1, r2, q⟩ hs
  unfold vIxD at q
  split at q
  · rename_i kvs k e1 e0
    obtain rfl := strO_eq e0
    split at q
    · rename_i z ez
      obtain ⟨a, vs, xs, rfl, hm, hz, rT, tV, D, hl⟩ := tdc_read I st r1 e1
      cases rx
      rcases tdc_val rT tV k with ⟨d', vv, uu, e2, e3, rv, rd⟩ | ⟨e2, _⟩
      · rw [ez] at e2
        cases e2
        exact subscriptTail_builtinR (x := uu) D.typeIs PySem.F.slot_dict_getitem.lookup (wpAny_getItem_of (str_key r2 ry) D.mapOf e3 ⟨rfl, vv, H, I.tok _, rv, post_d st rd q⟩) hs
      · rw [ez] at e2; cases e2
    · exact q.elim
  · exact q.elim
theorem set_tmap : PSet X (rPut (tpOf X) vPutT) := by
  intro pins s σ H o i v ov iv u Q I ro ri rv ⟨w, M, c, d, e, st, r1, r2, r3, q⟩
  unfold vPutT at q
  split at q
  · rename_i M' he
    split at he
    · rename_i l kvs k ee e0 e1
      split at he
      · rename_i hlim
        obtain rfl := Option.some.inj he
        obtain rfl := strO_eq e0
        obtain ⟨a, vs, xs, l', el, em, ea, rfl, hm, hz, hH, rT, tV, D, hl⟩ := tdc_rep I st r1 e1
        cases el
        cases ro
        refine wpAny_setItem_pairs (hsz := by rw [hl]; exact hz) (str_key r2 ri) D fun h' D' sb => ?_
        have tV' := TVs.put (k := k) tV rv
        have rT' := RepT.put (k := k) rT r3
        have hd : TDAt (tpOf X) a (tvPut vs k v) h' := ⟨_, tV', D'⟩
        refine ⟨_, d_write I (by rw [hH]; exact True.intro) sb (let ⟨ob, _, _, g1, _⟩ := D'; ⟨ob, g1⟩) (td_new hd), ?_⟩
        refine q _ w (Ext.refl w) (st.write em (by intro z; cases z) ea ⟨hm, ?_, _, upd_same, rT'⟩)
        exact lim_ok (Nat.le_trans (length_tdPut _ _ _) hlim)
      · cases he
    · cases he
  · exact q.elim
end
end QL

set_option Elab.async false
set_option linter.all false
set_option maxRecDepth 100000
set_option maxHeartbeats 4000000
namespace QL
open PySem PySem.Spec PyProof.Rows L2
section
variable {X : Cx} {pins : List (Addr × Obj)} {σ : L2.St} {H : Hp} {s : Shared}
theorem each_len {α β : Type} {R : α → β → Prop} {vs : List α} {bs : List β} (e : PySem.W.EachIs R vs bs) : vs.length = bs.length := e.length
theorem sorted_from {x : Value} {F : Hp} {out : List PyData} {Q : VK} (hu : X.A.units + 100 < cLine) (I : Inv X pins σ H s) (sub : Same F H)
    (hcoll : ∀ (R : List Value → Shared → Prop), (∀ s1 vs bs, (∀ b o, s.heap.get? b = some o → s1.heap.get? b = some o) → s.heap.objs.size ≤ s1.heap.objs.size → s1.gens = s.gens → s1.os = s.os →
      PySem.W.EachIs (fun u d => ∃ v, RelV v u ∧ RD X.K F v d) vs bs → bs.length ≤ sizeLine → sortB bs = true → sortD bs = out → R vs s1) → wpAny (model X.prog X.w) X.A.in1 (collect x) R X.xe s)
    (q : ∀ p ws, H p = none → RDs X.K F ws out → ws.length ≤ sizeLine → Q (.ref p) (upd H p (.lst ws))) :
    wpAny (model X.prog X.w) X.A (call (.builtin "sorted") [x]) (EP X pins σ Q) X.xe s := by
  refine Calls.call_function_entry kind_sorted plain_sorted entry_sorted (args_sorted1 _) ?_
  unfold Builtin.«sorted»
  refine wpAny_bind (m := checkCount "sorted" 1 1 _) (wpAny_pure ?_)
  refine wpAny_bind (hcoll _ fun s1 vs bs k1 hz g1 o1 eb hL hs eo0 => ?_)
  have hlen : vs.length = bs.length := eb.length
  unfold sortB at hs
  rw [Bool.and_eq_true, Bool.and_eq_true, Bool.or_eq_true] at hs
  obtain ⟨⟨hs1, hs2⟩, hs3⟩ := hs
  have hal : PySem.W.AllAlike (bs.map id) := fun d hd d' hd' => by
    rw [List.map_id] at hd hd'
    exact List.all_eq_true.mp (List.all_eq_true.mp hs1 d hd) d' hd'
  have hk : PySem.W.Sortable (bs.map id) := by
    rw [List.map_id]
    rcases hs2 with hs2 | hs2
    · exact .inl fun d hd => neTup_inv (List.all_eq_true.mp hs2 d hd)
    · exact .inr fun d hd => noTup_inv (List.all_eq_true.mp hs2 d hd)
  refine wpAny_bind (wpAny_newList ?_ (by rw [hlen]; exact hL))
  have hoL : (s1.heap.push (seqObj "list" vs.toArray 0)).get? s1.heap.objs.size = some (seqObj "list" vs.toArray 0) := Heap.get?_push_size _ rfl
  have oldS : ∀ b u, s.heap.get? b = some u → (PySem.W.sortingHeap (s1.heap.push (seqObj "list" vs.toArray 0)) s1.heap.objs.size vs).get? b = some u := fun b u e => by
    have q := k1 b u e
    have hlt := Heap.lt_size q
    exact PySem.W.sortingHeap_old (Nat.ne_of_lt hlt) (Heap.get?_push_of_some _ q)
  have er' : PySem.W.EachIs (fun v b => ∃ as, Reads (PySem.W.sortingHeap (s1.heap.push (seqObj "list" vs.toArray 0)) s1.heap.objs.size vs) v (id b) as) vs bs := eb.mono fun u d ⟨v, r, h⟩ => by
    exact ⟨_, PyProof.Rows.Reads.keeps oldS (Dp.reads I d v u (RD.dp _ _ (RD.mono sub _ _ h)) r).choose_spec⟩
  refine wpAny_bind (wpAny_holding (wpAny_call_entry slot_list_sort ⟨_, hoL, rfl⟩ entry_list_sort (PySem.W.list_sort_vals (s := { s1 with heap := s1.heap.push (seqObj "list" vs.toArray 0) }) (κ := PySem.W.dataKind (PySem.W.sortingHeap (s1.heap.push (seqObj "list" vs.toArray 0)) s1.heap.objs.size vs) (bs.map id)) hoL
    (PySem.W.SortsAt.data (s := { s1 with heap := PySem.W.sortingHeap (s1.heap.push (seqObj "list" vs.toArray 0)) s1.heap.objs.size vs }) (PySem.W.each_map (R := fun v d => ∃ as, Reads (PySem.W.sortingHeap (s1.heap.push (seqObj "list" vs.toArray 0)) s1.heap.objs.size vs) v d as) id er') hal hk (PySem.W.bound_map fun b hb => ?_)) (by rw [hlen]; exact hL) ⟨.none, rfl, ?_⟩) (args_list_sort _)))
  · have := of_decide_eq_true (List.all_eq_true.mp hs3 b hb)
    show X.A.units + 2 + b.depth < cLine
    omega
  have ho' : (PySem.W.sortVals (PySem.W.dataKind (PySem.W.sortingHeap (s1.heap.push (seqObj "list" vs.toArray 0)) s1.heap.objs.size vs) (bs.map id)) false vs vs).length = bs.length := by rw [PySem.W.sortVals_length false rfl]; exact hlen
  have eo := PySem.W.sortVals_data false eb er' hal
  generalize PySem.W.sortVals (PySem.W.dataKind (PySem.W.sortingHeap (s1.heap.push (seqObj "list" vs.toArray 0)) s1.heap.objs.size vs) (bs.map id)) false vs vs = outv at ho' eo ⊢
  obtain ⟨c', hc'⟩ := sortedHeap_at (vs := vs) (out := outv.toArray) hoL
  rw [← sortD_eq] at eo
  obtain ⟨ws, r1, r2⟩ := each_vals eo
  have lw : ws.length ≤ sizeLine := by rw [r1.length, ho']; exact hL
  have old : ∀ b u, s.heap.get? b = some u → (sortedHeap (s1.heap.push (seqObj "list" vs.toArray 0)) s1.heap.objs.size vs outv.toArray).get? b = some u := fun b u e => by
    have q := k1 b u e
    have hlt := Heap.lt_size q
    rw [sortedHeap_old (Nat.ne_of_lt hlt) (by rw [size_push']; exact Nat.lt_succ_of_lt hlt)]
    exact Heap.get?_push_of_some _ q
  have hp : H s1.heap.objs.size = none := I.hok.fresh hz
  have J : Inv X pins σ (upd H s1.heap.objs.size (.lst ws)) { s with heap := sortedHeap (s1.heap.push (seqObj "list" vs.toArray 0)) s1.heap.objs.size vs outv.toArray, gens := s1.gens, drawn := s1.drawn, toks := s1.toks } :=
    I.call (ch := []) (Un.laid old hz hp) (I.hok.laid old hz ⟨lw, outv, c', r1, hc'⟩) (by rw [g1]; exact I.bare) (fun _ z => nomatch z)
  refine wpAny_pure ⟨_, rfl, .ref s1.heap.objs.size, upd H s1.heap.objs.size (.lst ws), ?_, rfl, q _ ws hp (eo0 ▸ r2) lw⟩
  have e : ({ s1 with heap := sortedHeap (s1.heap.push (seqObj "list" vs.toArray 0)) s1.heap.objs.size vs outv.toArray } : Shared) = { s with heap := sortedHeap (s1.heap.push (seqObj "list" vs.toArray 0)) s1.heap.objs.size vs outv.toArray, gens := s1.gens, drawn := s1.drawn, toks := s1.toks } := by
    cases s1
    cases s
    cases o1
    rfl
  rw [e]
  exact J
end
end QL

set_option Elab.async false
set_option linter.all false
set_option maxRecDepth 100000
set_option maxHeartbeats 4000000
namespace QL
open PySem PySem.Spec PyProof.Rows L2
/-! ### a dict's keys, gathered, sorted -/
theorem src_raw {prog : Program} {w : World} {d : Addr} {es : Array DictEntry} {ep : Nat} (lo : (d == sysModules) = false) : PySem.W.KdlSrc prog w "dict" d d es.size (fun i v => ∃ hi : i < es.size, v = es[i].key) (fun h => h.DictRaw d es ep) where
  type := fun _ hm => hm.typeIs
  there := fun _ hm => have ⟨_, ho, _⟩ := hm; ⟨Heap.lt_size ho, Heap.lt_size ho⟩
  keep := fun _ _ hm hk => hm.at fun o e => hk d (.inl rfl) o e
  notList := by decide
  notTuple := by decide
  hint := fun _ _ _ _ hm hq => PySem.W.kdl_hint_dict hm.typeIs hq
  iter := fun _ _ hh hm => have ⟨_, ho, _⟩ := hm; ⟨_, _, (fun _ _ hq => wpAny_pyIter_dict_raw lo hm hq), Walks.rawKeys hh _ d (Nat.ne_of_lt (Heap.lt_size ho)) es ep, ⟨⟨_, Heap.get?_push_size _ rfl, rfl, rfl⟩, hm.at fun o e => Heap.get?_push_of_some _ e⟩⟩
theorem each_of_get {α β : Type} {R : α → β → Prop} : ∀ {vs : List α} {bs : List β}, vs.length = bs.length → (∀ (i : Nat) (v : α) (b : β), vs[i]? = some v → bs[i]? = some b → R v b) → PySem.W.EachIs R vs bs
  | [], [], _, _ => .nil
  | v :: vs, b :: bs, hl, h => .cons (h 0 v b rfl rfl) (each_of_get (by simpa using hl) fun i v b e1 e2 => h (i + 1) v b (by simpa using e1) (by simpa using e2))
  | [], _ :: _, hl, _ => by simp at hl
  | _ :: _, [], hl, _ => by simp at hl
theorem keys_at {tp : Tp} {u : Wo} : ∀ {es : List NE} {kvs : KV'} {xs : List (NestedKey × Addr × Value)} {i : Nat} {y : NestedKey × Addr × Value}, RepE tp u es kvs → NEs es xs → xs[i]? = some y → ∃ q, kvs[i]? = some q ∧ RD tp.K u.F (.ref y.2.1) q.1 ∧ ∃ v, RelV v y.2.2 ∧ RD tp.K u.F v q.2
  | _, _, _, _, _, .nil, rx, e => by cases rx; simp at e
  | _, _, _, 0, _, .cons h t, rx, e => by
    cases rx with
    | cons hy ty =>
      simp at e
      subst e
      exact ⟨_, rfl, by rw [← hy.2.1]; exact h.2.2.1, _, hy.2.2, h.2.2.2⟩
  | _, _, _, i + 1, _, .cons h t, rx, e => by
    cases rx with
    | cons hy ty =>
      obtain ⟨q, a, b⟩ := keys_at (i := i) t ty (by simpa using e)
      exact ⟨q, by simpa using a, b⟩
open PySem.W in
/-- the library's gathering of a dict, the heap's size told -/
theorem kdu_collect2 {prog : Program} {w : World} {A : Around} {E : Value → Shared → Prop} {s : Shared} {T : String} {r d : Addr} {n : Nat} {P : Nat → Value → Prop} {OK : Heap → Prop} {R : List Value → Shared → Prop} (K : KdlSrc prog w T r d n P OK) (hh : A.handled = none) (hok : OK s.heap) (hn : n ≤ sizeLine)
    (h : ∀ (h' : Heap) (tk : Nat) (acc : Array Value), (∀ b o, s.heap.get? b = some o → h'.get? b = some o) → s.heap.objs.size ≤ h'.objs.size → ItemsOf P acc n → R acc.toList { s with heap := h', toks := tk }) :
    wpAny (model prog w) A (collect (.ref r)) R E s := by
  have hlt := K.there _ hok
  unfold collect
  refine wpAny_bind (wpAny_runValue (codeAny_builtin entry_proto_collect' ?_))
  rw [Around.under_plainId PySem.F.plain_proto_collect _]
  show wpAny _ A.in1 (newList [] >>= fun l => again (.builtin "list.__iadd__" ⟨[l, .ref r], []⟩)) _ _ s
  refine wpAny_bind (wpAny_newObj_type ?_)
  refine wpAny_pure ⟨plainId_quiet PySem.F.plain_list_iadd _, codeAny_builtin entry_list_iadd' ?_⟩
  rw [Around.under_plainId PySem.F.plain_list_iadd _]
  have hS₁ : (s.heap.push { cls := .type "list", data := .seq ([] : List Value).toArray }).get? s.heap.objs.size = some { cls := .type "list", data := .seq #[] } := Heap.get?_push_size _ rfl
  show wpAny _ A.in1 (Builtin.List.listExtendWith (.ref s.heap.objs.size) (.ref r) (.ref s.heap.objs.size)) _ _ _
  have key := kdl_extend (A := A) (s := { s with heap := s.heap.push { cls := .type "list", data := .seq ([] : List Value).toArray } })
    (R := fun (q : Result) (s' : Shared) => ∃ (h' : Heap) (tk : Nat) (acc' : Array Value) (c' : Nat), q = .ok (.ret (.ref s.heap.objs.size)) ∧ s' = { s with heap := h', toks := tk } ∧
      (∀ b o, s.heap.get? b = some o → h'.get? b = some o) ∧ h'.get? s.heap.objs.size = some { cls := .type "list", dict := none, data := .seq acc' c', slots := #[] } ∧ ItemsOf P acc' n)
    K hh (K.keep _ _ hok fun b _ o e => Heap.get?_push_of_some _ e) s.heap.objs.size (Nat.ne_of_gt hlt.1) (Nat.ne_of_gt hlt.2) (.ref s.heap.objs.size) 0 hS₁
    (fun h' tk acc' c' hk hS' hacc => ⟨h', tk, acc', c', rfl, rfl, fun b o e => hk b o (Nat.ne_of_lt (Heap.lt_size e)) (Heap.get?_push_of_some _ e), hS', hacc⟩) hn
  refine wpAny_mono key (fun fin s' x => ?_) fun e s' x => ?_
  · cases fin with
    | done f =>
      obtain ⟨h', tk, acc', c', e, rfl, hk, hS', hacc⟩ := x
      cases e
      show wpAny _ A (load s.heap.objs.size >>= _) _ _ _
      refine wpAny_bind (wpAny_load hS' ?_)
      exact wpAny_pure (h h' tk acc' hk (Nat.le_of_lt (Heap.lt_size hS')) hacc)
    | again c₁ =>
      refine ⟨x.1, codeAny_mono x.2 fun q s₂ y => ?_⟩
      obtain ⟨h', tk, acc', c', rfl, rfl, hk, hS', hacc⟩ := y
      show wpAny _ A (load s.heap.objs.size >>= _) _ _ _
      refine wpAny_bind (wpAny_load hS' ?_)
      exact wpAny_pure (h h' tk acc' hk (Nat.le_of_lt (Heap.lt_size hS')) hacc)
  · obtain ⟨_, _, _, _, e', _⟩ := x
    cases e'
def vSortM : V1 := fun c M => match asM c M with
  | some kvs => if sortB (kvs.map (·.1)) then some (.dat (.list (sortD (kvs.map (·.1)))), M) else none
  | none => none
def vKeys : V1 := fun c M => match asM c M with
  | some kvs => some (.dat (.list (kvs.map (·.1))), M)
  | none => none
section
variable {X : Cx}
theorem c_sortM (hc : X.calm = true) (hu : X.A.units + 100 < cLine) : CallR X (.builtin "sorted") (rVN (tpOf X) (v1N vSortM)) := call1 fun pins s σ H x us Q w M c I r st r1 q => by
  unfold vSortM at q
  split at q
  · rename_i kvs e
    split at q
    · rename_i hs
      obtain ⟨a, es, xs, rfl, hm, hn, hz, rE, rX, D, hl⟩ := dct_read I st r1 e
      have := Vals.ref1 r
      subst this
      obtain ⟨ar, ep, raw, hsz, hat⟩ := D.raw
      refine sorted_from (F := w.F) hu I st.sub (fun R hR => ?_) (fun p ws hp hr hz' => post_list st hr hz' q p hp)
      refine kdu_collect2 (src_raw hm) (I.ok.hd hc) raw (by rw [hsz, hl]; exact hz) fun h' tk acc hk hsz' hacc => ?_
      refine hR _ acc.toList (kvs.map (·.1)) hk hsz' rfl rfl ?_ (by rw [List.length_map]; exact hz) hs rfl
      · refine each_of_get (by rw [Array.length_toList, hacc.1, hsz, hl, List.length_map]) fun i v b e1 e2 => ?_
        rw [Array.getElem?_toList] at e1
        obtain ⟨hi, ev⟩ := hacc.2 i v e1
        obtain ⟨y, hy, hk1, hk2, _⟩ := hat i hi
        obtain ⟨q', a1, a2, _⟩ := keys_at rE rX hy
        rw [List.getElem?_map, a1] at e2
        cases e2
        exact ⟨.ref y.2.1, by rw [ev, hk1]; rfl, a2⟩
    · exact q.elim
  · exact q.elim
end

/-! ### from now on never changed -/
def frzC : Cell → Mem → Option (Cell × Mem)
  | .obj l, M => match M[l]? with
    | some (.lst ds) => some (.dat (.list ds), M.set l .dead)
    | some (.dct kvs) => some (.fdc kvs, M.set l .dead)
    | some (.tdc kvs) => some (.ftd kvs, M.set l .dead)
    | _ => none
  | c, M => some (c, M)
def eFrz (f : EvF) : EvF := fun ρ M => (f ρ M).bind fun c M => Res.of (frzC c M)
section
variable {X : Cx} {W : WX}
theorem q_frz {e : Expr} {f : EvF} (he : PE X e (tE (tpOf X) W f)) : PE X e (tE (tpOf X) W (eFrz f)) := by
  refine ⟨fun pins s σ H Q I h => ?_⟩
  obtain ⟨u, ρ, M, g0, q⟩ := tR_bind (Rp := RepC (tpOf X)) (k := fun ρ c M => Res.of (frzC c M)) h
  refine thn (he.run pins s σ H _ I ⟨u, ρ, M, g0, q⟩) fun v s1 ⟨x, H1, I1, r1, u1, ρ1, M1, c, g1, rc, q1⟩ => ?_
  have q1 : Post (tpOf X) W u1 σ (RepC (tpOf X)) (Res.of (frzC c M1)) Q := q1
  cases c with
  | dat d => exact ⟨x, H1, I1, r1, q1 x H1 u1 (Ext.refl u1) g1.sto rc⟩
  | fdc kvs => exact ⟨x, H1, I1, r1, q1 x H1 u1 (Ext.refl u1) g1.sto rc⟩
  | ftd kvs => exact ⟨x, H1, I1, r1, q1 x H1 u1 (Ext.refl u1) g1.sto rc⟩
  | obj l =>
    unfold frzC at q1
    obtain ⟨a, ha, rfl⟩ := id rc
    cases em : M1[l]? with
    | none => simp only [em] at q1; exact q1.elim
    | some m =>
      cases m with
      | lst ds =>
        simp only [em] at q1
        obtain ⟨vs, e, st, rd⟩ := g1.sto.freeze em ha
        exact ⟨_, H1, I1, r1, q1 _ H1 _ e st rd⟩
      | dct kvs =>
        simp only [em] at q1
        obtain ⟨a', es, xs, l', el, em', ea, ex, hm, hn, hz, hH, rE, rX, D, hl, o, ar, ep, d1, d2, d3, d4⟩ := dct_rep I1 g1.sto rc (show asMo (.obj l) M1 = some kvs by unfold asMo; simp [em])
        cases el
        cases ex
        obtain ⟨e, st⟩ := g1.sto.freezeD (φ := fun h => h.get? a = some o) em (by intro z; cases z) ea
        have I2 : Inv X pins σ (upd H1 a (.ext fun h => h.get? a = some o)) { s1 with heap := s1.heap, toks := s1.toks } :=
          I1.write (x := a) (e := a) (by rw [hH]; trivial) (.inl rfl) (fun b u _ q => q) ⟨o, d1⟩ ⟨d1, ⟨o, d1⟩, fun h1 h2 p k => k _ p⟩
        exact ⟨_, _, I2, r1, q1 _ _ _ e st ⟨a, o, ar, ep, es, xs, rfl, upd_same, hm, hn, hz, rE.mono e.1, rX, d2, d3, d4⟩⟩
      | tdc kvs =>
        simp only [em] at q1
        obtain ⟨_, _, _, hm, hz, vs, hH, rT⟩ := g1.sto.rep l _ a em (by intro z; cases z) ha
        obtain ⟨e, st⟩ := g1.sto.freezeD (φ := TDAt (tpOf X) a vs) em (by intro z; cases z) ha
        have hH' : upd H1 a (.ext (TDAt (tpOf X) a vs)) = H1 := by
          funext b
          by_cases hb : b = a
          · subst hb; rw [upd_same]; exact hH.symm
          · rw [upd_ne hb]
        rw [hH'] at st
        exact ⟨_, H1, I1, r1, q1 _ _ _ e st ⟨a, vs, rfl, upd_same, hm, hz, rT.mono e.1⟩⟩
      | ins _ _ => simp only [em] at q1; exact q1.elim
      | dead => simp only [em] at q1; exact q1.elim

/-! ### a dict that never changes, walked -/
def ItD (d : Addr) (o : Obj) (xs : List V) : It :=
  ⟨fun i H => H d = some (.ext fun h => h.get? d = some o) ∧ i < xs.length, fun i H x H' => H' = H ∧ xs[i]? = some x, fun i H => H d = some (.ext fun h => h.get? d = some o) ∧ xs.length ≤ i⟩
theorem turn_D {P : Program} {w : World} {K : PySem.W.Frag} {tg : Expr} {d : Addr} {o : Obj} {es : Array DictEntry} {ep : Nat} {xs : List V} (it : Addr) (hod : o.data = .dict es ep) (hsz : es.size = xs.length) (ent : ∀ (i : Nat) (x : V), xs[i]? = some x → ∃ en, es[i]? = some en ∧ RelV x en.key) :
    Turn P w K tg (ItD d o xs) [it] it (fun i h => h.IsKeyIter it d i xs.length ep) where
  mem := by simp
  obj := fun i h st b hb => by
    have e : b = it := by simpa using hb
    subst e
    obtain ⟨oi, e, c, dd⟩ := st
    exact ⟨oi, e, fun v z => by rw [dd] at z; cases z⟩
  keep := fun i h h' st k => st.at fun oi e => k it (by simp) oi e
  item := by
    intro X hP hw hK hc i pins s σ H E I hf st hg
    subst hP hw hK
    obtain ⟨hd, hi⟩ := hg
    obtain ⟨f0, f1, f2, f3, f4, f5⟩ := hf it (by simp)
    have hgd : s.heap.get? d = some o := (I.hok d _ hd).1
    obtain ⟨en, hen, hkey⟩ := ent i xs[i] (List.getElem?_eq_getElem hi)
    refine next_key_item st hgd hod hsz hen fun h' st' sb => ?_
    have I1 : Inv X pins σ H { s with heap := h' } := I.turned (t' := s.toks) (fun b ob hb e => (sb.2 b hb).trans e) f0 f1 f3 f4 f5
    obtain ⟨oi, e, c, dd⟩ := id st'
    exact ⟨en.key, rfl, go_of (s := { s with heap := h' }) e c dd (by decide) ⟨xs[i], H, I1, hkey, ⟨rfl, List.getElem?_eq_getElem hi⟩, st', fun b hb => (hf b hb).1⟩⟩
  done := by
    intro X hP hw hK hc i pins s σ H E I hf st hg
    subst hP hw hK
    obtain ⟨hd, hi⟩ := hg
    obtain ⟨f0, f1, f2, f3, f4, f5⟩ := hf it (by simp)
    have hgd : s.heap.get? d = some o := (I.hok d _ hd).1
    exact next_key_end (I.ok.hd hc) st hgd hod hsz hi fun h' eb => ⟨rfl, I.turned (t' := s.toks) (fun b ob hb e => eb b ob hb e) f0 f1 f3 f4 f5⟩
  self := fun A i s Q E st h => by
    refine wpAny_pyIter_slot st.typeIs F.slot_dict_keyiterator_iter (wpAny_call_entry F.slot_dict_keyiterator_iter st.typeIs F.entry_dict_keyiterator_iter ?_ (F.args_dict_keyiterator_iter_1 _))
    show wpAny _ _ (ret (.ref it)) _ _ s
    exact wpAny_pure ⟨_, rfl, "dict_keyiterator", _, st.typeIs, F.slot_dict_keyiterator_next.lookup, h⟩
def iDct (f : EvF) : EvI := fun ρ M => (f ρ M).bind fun c M => match c with | .fdc kvs => .ok (Src.mk (kvs.map (·.1)) []) M | _ => .no
theorem key_refs {tp : Tp} {u : Wo} : ∀ {es : List NE} {kvs : KV'} {xs : List (NestedKey × Addr × Value)}, RepE tp u es kvs → NEs es xs → RDs tp.K u.F (xs.map fun x => V.ref x.2.1) (kvs.map (·.1))
  | _, _, _, .nil, .nil => .nil
  | _, _, _, .cons h t, .cons hy ty => .cons (by dsimp only; rw [← hy.2.1]; exact h.2.2.1) (key_refs t ty)
theorem qi_dct {tg e : Expr} {f : EvF} (he : PE X e (tE (tpOf X) W f)) : PI X tg e (tI (tpOf X) W (iDct f)) := by
  refine ⟨fun pins s σ H R I h => ?_⟩
  obtain ⟨u, ρ, M, g0, q⟩ := tR_bind (Rp := RepC (tpOf X)) (k := fun ρ c M => match c with | .fdc kvs => .ok (Src.mk (kvs.map (·.1)) []) M | _ => .no) h
  refine thn (he.run pins s σ H _ I ⟨u, ρ, M, g0, q⟩) fun v s1 ⟨x, H1, I1, r1, u1, ρ1, M1, c, g1, rc, q1⟩ => ?_
  cases c with
  | dat d => exact q1.elim
  | obj d => exact q1.elim
  | ftd d => exact q1.elim
  | fdc kvs =>
    obtain ⟨a, o, ar, ep, es, xs, rfl, h2, h3, h4, h5, h6, h7, h8, h9, h10⟩ := rc
    cases r1
    have ha : H1 a = _ := g1.sto.sub a _ h2
    have ho : s1.heap.get? a = some o := (I1.hok a _ ha).1
    have hsz : ar.size = (xs.map fun x => V.ref x.2.1).length := by rw [List.length_map]; exact size_of_entries h10
    have rr := key_refs h6 h7
    refine iter_keys h3 ho h8 h9 (pi_one (tk := s1.toks) I1 _ (turn_D (xs := xs.map fun x => V.ref x.2.1) _ h9 hsz fun i x ex => ?_) ⟨_, Heap.get?_push_size _ rfl, rfl, by rw [hsz]; rfl⟩ ?_)
    · rw [List.getElem?_map] at ex
      cases ey : xs[i]? with
      | none => rw [ey] at ex; cases ex
      | some y =>
        rw [ey] at ex
        cases ex
        exact ⟨entryOfKey (nestedKind X.prog X.w) y, by rw [← Array.getElem?_toList, h10, List.getElem?_map, ey]; rfl, rfl⟩
    · have w : Walk (ItD a o (xs.map fun x => V.ref x.2.1)) (Src.mk (kvs.map (·.1)) []).items.length (fun H => H a = some (.ext fun h => h.get? a = some o)) (YAt (xs.map fun x => V.ref x.2.1)) := by
        show Walk _ (kvs.map (·.1)).length _ _
        rw [← rr.length]
        exact ⟨fun i H hi q => ⟨q, hi⟩, fun H q => ⟨q, Nat.le_refl _⟩, fun i H x H' hi q y => y⟩
      refine q1 _ H1 u1 (Ext.refl u1) g1.sto ⟨_, _, w, fun u' M' H' e' s' _ => s'.sub a _ (e'.1 a _ h2), fun i H' x H'' u' M' d e' s' hh hd ⟨eH, hx⟩ => ?_⟩
      subst eH
      obtain ⟨v, b1, b2⟩ := (RDs.mono e'.1 _ _ rr).get hd
      rw [hx] at b1
      rw [Option.some.inj b1]
      exact ⟨u', Ext.refl u', s', b2⟩
end
end QL

set_option Elab.async false
set_option linter.all false
set_option maxRecDepth 100000
set_option maxHeartbeats 4000000
namespace QL
open PySem PySem.Spec PyProof.Rows L2
/-! ### sorted(xs), xs of one item at most: any item that is alike itself -/
def oneOk (d : PyData) : Bool := PySem.W.alike d d && (match d with | .none => false | _ => true) && decide (d.depth ≤ 32)
/-- lists with at most one item -/
def vSort1 : V1 := fun c M => match asL c M with
  | some [d] => if oneOk d then some (.dat (.list [d]), M) else none
  | _ => none
theorem sortsAt_one {prog : Program} {w : World} {A : Around} {s : Shared} {v : Value} {d : PyData} {as : List Addr} (r : Reads s.heap v d as) (hal : PySem.W.alike d d = true) (hn : d ≠ .none) (hu : A.units + d.depth < cLine) :
    PySem.W.SortsAt prog w A s (PySem.W.dataKind s.heap [d]) [v] := by
  have ha : PySem.W.AllAlike [d] := fun a h1 b h2 => by
    rw [List.mem_singleton.mp h1, List.mem_singleton.mp h2]; exact hal
  refine ⟨fun u hu' => ?_, general', ?_, fun h2 => absurd h2 (by show ¬ 2 ≤ 1; omega)⟩
  · rw [List.mem_singleton.mp hu']
    exact ⟨_, PySem.W.dataKind_some ha List.mem_cons_self r⟩
  · intro E x y a b Q h1 h2 hq
    obtain ⟨d1, as1, m1, r1, rfl⟩ := PySem.W.dataKind_inv h1
    obtain ⟨d2, as2, m2, r2, rfl⟩ := PySem.W.dataKind_inv h2
    rw [List.mem_singleton.mp m1] at r1 hq
    rw [List.mem_singleton.mp m2] at r2 hq
    exact PySem.W.oneLt_alike (f := false) (fun z => nomatch z) r1 r2 hal hn (by rw [Nat.min_self]; exact hu) hq
section
variable {X : Cx}
theorem c_sort1 (hu : X.A.units + 100 < cLine) : CallR X (.builtin "sorted") (rVN (tpOf X) (v1N vSort1)) := call1 fun pins s σ H x us Q w M c I r st r1 q => by
  unfold vSort1 at q
  split at q
  · rename_i d e
    split at q
    · rename_i hk
      unfold oneOk at hk
      rw [Bool.and_eq_true, Bool.and_eq_true] at hk
      obtain ⟨⟨k1, k2⟩, k3⟩ := hk
      obtain ⟨a, vs, rfl, h1, h2, h3⟩ := asL_rep st r1 e
      have := Vals.ref1 r
      subst this
      obtain ⟨z1, its, n, rv, hl, e0⟩ := Inv.rdL I h1
      obtain ⟨e1, e2⟩ := vals_read I st.sub h2 rv
      have hlen := h2.length
      obtain ⟨v0, rfl⟩ : ∃ v0, vs = [v0] := by
        match vs, hlen with
        | [v0], _ => exact ⟨v0, rfl⟩
      obtain ⟨u0, rfl⟩ : ∃ u0, its = [u0] := by
        have := rv.length
        match its, this with
        | [u0], _ => exact ⟨u0, rfl⟩
      have ra : ∃ as, Reads s.heap u0 d as := by
        cases e2 with
        | cons h _ => exact h
      obtain ⟨as, ra⟩ := ra
      have ra' := PyProof.Rows.Reads.keeps (h' := PySem.W.sortingHeap (PySem.W.copyHeap s.heap [u0]) (s.heap.objs.size + 1) [u0]) (fun _ _ => PySem.W.sorting_copy_old) ra
      have hnn : d ≠ .none := fun z => by rw [z] at k2; cases k2
      have hdep := of_decide_eq_true k3
      refine PySem.W.sorted_vals ⟨_, e0, rfl, n, rfl⟩ (sortsAt_one (s := { s with heap := PySem.W.sortingHeap (PySem.W.copyHeap s.heap [u0]) (s.heap.objs.size + 1) [u0] }) ra' k1 hnn (by
        show X.A.units + 2 + d.depth < cLine
        omega)) (by rw [show [u0].length = 1 from rfl, sizeLine_eq]; omega) ?_
      have eo := PySem.W.sortVals_data (h' := PySem.W.sortingHeap (PySem.W.copyHeap s.heap [u0]) (s.heap.objs.size + 1) [u0]) (enc := id) false e1 (.cons ⟨_, ra'⟩ .nil) (fun a h1 b h2 => by
        rw [List.mem_singleton.mp h1, List.mem_singleton.mp h2]; exact k1)
      have ho := PySem.W.sortVals_length (κ := PySem.W.dataKind (PySem.W.sortingHeap (PySem.W.copyHeap s.heap [u0]) (s.heap.objs.size + 1) [u0]) ([d].map id)) (ks := [u0]) (vs := [u0]) false rfl
      have em : [d].mergeSort (PySem.W.dataLe false id) = [d] := by rw [List.mergeSort_singleton]
      rw [em] at eo
      obtain ⟨ws, r1', r2'⟩ := each_vals eo
      obtain ⟨c', hc⟩ := PyProof.Rows.sortedAll_at s.heap [u0] (PySem.W.sortVals (PySem.W.dataKind (PySem.W.sortingHeap (PySem.W.copyHeap s.heap [u0]) (s.heap.objs.size + 1) [u0]) ([d].map id)) false [u0] [u0]).toArray
      have lw : ws.length ≤ sizeLine := by rw [r1'.length, ho, show [u0].length = 1 from rfl, sizeLine_eq]; omega
      have fr : H (s.heap.objs.size + 1) = none := I.hok.fresh (Nat.le_succ _)
      exact ⟨.ref _, _, I.laid (t' := s.toks) (a := s.heap.objs.size + 1) (o := .lst ws) (fun b o q => PyProof.Rows.sortedAll_old q) (Nat.le_succ _) ⟨lw, _, c', r1', hc⟩, rfl, post_list st r2' lw q _ fr⟩
    · exact q.elim
  · exact q.elim
end
end QL

set_option Elab.async false
set_option linter.all false
set_option maxRecDepth 100000
set_option maxHeartbeats 4000000
namespace QL
open PySem PySem.Spec PyProof.Rows L2

/-! ### {}, {k: v} -/
def eD0 : EvF := fun _ M => .ok (.obj M.length) (M ++ [.dct []])
def putD1 (l : Nat) (c d : Cell) (M : Mem) : Option (Cell × Mem) := match M[l]?, c, d with
  | some (.dct []), .dat k, .dat e => if kOk k then some (.obj l, M.set l (.dct [(k, e)])) else none
  | _, _, _ => none
theorem putD1_inv {l : Nat} {c d : Cell} {M : Mem} {r : Cell × Mem} (h : putD1 l c d M = some r) : ∃ ke ee, M[l]? = some (.dct []) ∧ c = .dat ke ∧ d = .dat ee ∧ kOk ke = true ∧ r = (.obj l, M.set l (.dct [(ke, ee)])) := by
  unfold putD1 at h
  split at h
  · rename_i ke ee em
    split at h
    · rename_i hk
      exact ⟨ke, ee, em, rfl, rfl, hk, (Option.some.inj h).symm⟩
    · cases h
  · cases h
/-- the new dict stands empty while the pair is made -/
def eD1 (f g : EvF) : EvF := fun ρ M => (f ρ (M ++ [.dct []])).bind fun c M2 => (g ρ M2).bind fun d M3 => Res.of (putD1 M.length c d M3)
section
variable {X : Cx} {W : WX} {pos : Pos}
theorem dict_new {s : Shared} {H : Hp} {pins : List (Addr × Obj)} {σ : L2.St} (I : Inv X pins σ H s) : DictAt (tpOf X) s.heap.objs.size [] (s.heap.push { cls := .type "dict", data := .dict #[] }) ∧ (s.heap.objs.size == sysModules) = false :=
  ⟨⟨[], .nil, _, #[], 0, Heap.get?_push_size _ rfl, ⟨rfl, rfl, rfl⟩, rfl, rfl⟩, beq_eq_false_iff_ne.mpr (Ne.symm (Nat.ne_of_lt I.big))⟩
theorem q_dict0 : PE X (.Dict [] [] pos) (tE (tpOf X) W eD0) := by
  refine ⟨fun pins s σ H Q I h => ?_⟩
  obtain ⟨u, ρ, M, g0, q⟩ := h
  have q : ∀ v H' u', Ext u u' → Sto (tpOf X) u' (M ++ [.dct []]) H' → RepC (tpOf X) u' v (.obj M.length) → Q v H' := q
  obtain ⟨d1, d2⟩ := dict_new I
  have I1 : Inv X pins σ (upd H s.heap.objs.size (ND (tpOf X) s.heap.objs.size [])) { s with heap := s.heap.push { cls := .type "dict", data := .dict #[] }, toks := s.toks } :=
    I.laid (fun _ _ q => Heap.get?_push_of_some _ q) (Nat.le_refl _) (nd_new d1)
  obtain ⟨e, st⟩ := g0.sto.alloc (p := s.heap.objs.size) (o := ND (tpOf X) s.heap.objs.size []) (m := .dct []) (I.hok.fresh (Nat.le_refl _)) ⟨d2, List.nodup_nil, Nat.zero_le _, [], upd_same, .nil⟩
  exact wpAny_Dict_empty ⟨.ref s.heap.objs.size, _, I1, rfl, q _ _ _ e st ⟨_, by rw [← g0.sto.len]; exact List.getElem?_concat_length, rfl⟩⟩
theorem dict_pairs {prog : Program} {w : World} {A : Around} {E : Value → Shared → Prop} {s : Shared} {env : Env} {keys : List (Option Expr)} {values : List Expr} {pos : Pos} {pairs : List (Sem Value × Sem Value)} {Q : Value → Shared → Prop} (hu : (nestedKind prog w).room A)
    (hshape : (evalEachOpt keys env).zip ((evalEach values env).map fun v => do let x ← v; standAt pos; pure x) = pairs.map fun p => (some p.1, p.2)) (h0 : pairs ≠ []) (hlen : pairs.length ≤ 15)
    (h : wpAny (model prog w) A (evalPairs pairs) (fun vs s₁ => ∃ ps, CarriesH (nestedKind prog w) s₁.heap vs ps ∧ s₁.heap.DictOfH (nestedKind prog w) s.heap.objs.size [] ∧
      ∀ h' tk, h'.DictOfH (nestedKind prog w) s.heap.objs.size (storedAllH [] ps) → Heap.SameBut s.heap.objs.size s₁.heap h' → Q (.ref s.heap.objs.size) { s₁ with heap := h', toks := tk }) E
      { s with heap := s.heap.push { cls := .type "dict", data := .dict #[] } }) :
    wpAny (model prog w) A (eval (.Dict keys values pos) env) Q E s := by
  rw [arm_eval_Dict, hshape, dictDisplay_pairs pairs h0 (by omega)]
  exact wpAny_bind (wpAny_standAt (wpAny_bind (wpAny_subDictH (knd := nestedKind prog w) (Q := fun d s' => wpAny (model prog w) A (pure (Value.ref d)) Q E s') hu hlen
    (wpAny_mono h (fun vs s₁ h₁ => by obtain ⟨ps, hc, hm, hq⟩ := h₁; exact ⟨ps, hc, hm, fun h' tk a b => wpAny_pure (hq h' tk a b)⟩) fun _ _ e => e))))
theorem q_dict1 {k v : Expr} {f g : EvF} (hu : X.A.units + 100 < cLine) (hk : PE X k (tE (tpOf X) W f)) (hv : PE X v (tE (tpOf X) W g)) : PE X (.Dict [some k] [v] pos) (tE (tpOf X) W (eD1 f g)) := by
  refine ⟨fun pins s σ H Q I h => ?_⟩
  obtain ⟨u, ρ, M, g0, q⟩ := h
  have q : Post (tpOf X) W u σ (RepC (tpOf X)) ((f ρ (M ++ [.dct []])).bind fun c M2 => (g ρ M2).bind fun d M3 => Res.of (putD1 M.length c d M3)) Q := q
  obtain ⟨d1, d2⟩ := dict_new I
  have hlen : (pairTrees [some k] [v] X.env pos).length = 1 := pairTrees_length [some k] [v] X.env pos rfl rfl
  refine dict_pairs (show X.A.units + 8 < cLine by omega) (zip_pairTrees [some k] [v] X.env pos rfl rfl) (by intro z; rw [z] at hlen; cases hlen) (by rw [hlen]; decide) ?_
  have I1 : Inv X pins σ (upd H s.heap.objs.size (ND (tpOf X) s.heap.objs.size [])) { s with heap := s.heap.push { cls := .type "dict", data := .dict #[] }, toks := s.toks } :=
    I.laid (fun _ _ q => Heap.get?_push_of_some _ q) (Nat.le_refl _) (nd_new d1)
  obtain ⟨e1, st1⟩ := g0.sto.alloc (p := s.heap.objs.size) (o := ND (tpOf X) s.heap.objs.size []) (m := .dct []) (I.hok.fresh (Nat.le_refl _)) ⟨d2, List.nodup_nil, Nat.zero_le _, [], upd_same, .nil⟩
  have ha1 : (u.α ++ [s.heap.objs.size])[M.length]? = some s.heap.objs.size := by rw [← g0.sto.len]; exact List.getElem?_concat_length
  have g1 := g0.ext e1 st1
  refine pairTrees_cons_walk (thn (hk.run pins _ σ _ (fun x H2 => ∃ u2 M2 c, Ext u u2 ∧ u2.α[M.length]? = some s.heap.objs.size ∧ Goo (tpOf X) u2 ρ M2 σ H2 ∧ RepC (tpOf X) u2 x c ∧ Post (tpOf X) W u2 σ (RepC (tpOf X)) ((g ρ M2).bind fun d M3 => Res.of (putD1 M.length c d M3)) Q) I1 ⟨_, ρ, _, g1, ?_⟩) fun kv s2 ⟨x, H2, I2, rx, u2, M2, c, e2, ha2, g2, rc, q2⟩ => ?_)
  · revert q
    cases f ρ (M ++ [.dct []]) with
    | no => exact fun q => q
    | ex x M' => exact fun q cls dd H' u' e s r => q cls dd H' u' (e1.trans e) s r
    | ok c M2 => exact fun q v H' u' e s r => ⟨u', M2, c, e1.trans e, e.at ha1, g1.ext e s, r, Post.ext (e1.trans e) q⟩
  · refine thn (hv.run pins s2 σ H2 (fun y H3 => ∃ u3 M3 d, Ext u2 u3 ∧ Goo (tpOf X) u3 ρ M3 σ H3 ∧ RepC (tpOf X) u3 y d ∧ Post (tpOf X) W u3 σ (RepC (tpOf X)) (Res.of (putD1 M.length c d M3)) Q) I2 ⟨u2, ρ, M2, g2, ?_⟩) fun vv s3 ⟨y, H3, I3, ry, u3, M3, d, e3, g3, rd, q3⟩ => ?_
    · have q2 : Post (tpOf X) W u2 σ (RepC (tpOf X)) ((g ρ M2).bind fun d M3 => Res.of (putD1 M.length c d M3)) Q := q2
      revert q2
      cases g ρ M2 with
      | no => exact fun q => q
      | ex x M' => exact fun q => q
      | ok d M3 => exact fun q v H' u' e s r => ⟨u', M3, d, e, g2.ext e s, r, Post.ext e q⟩
    · refine pairTrees_nil_walk ?_
      have q3 : Post (tpOf X) W u3 σ (RepC (tpOf X)) (Res.of (putD1 M.length c d M3)) Q := q3
      obtain ⟨r1, r2, er, q3⟩ := post_of q3
      obtain ⟨ke, ee, em, rfl, rfl, hke, er2⟩ := putD1_inv er
      cases er2
      have ha3 := e3.at ha2
      obtain ⟨a, es, xs, l, el, em', ea, ex, hm, hn, hz, hH, rE, rX, D, hl, _⟩ := dct_rep (x := .ref s.heap.objs.size) (c := .obj M.length) I3 g3.sto ⟨_, ha3, rfl⟩ (show asMo (.obj M.length) M3 = some [] by unfold asMo; simp [em])
      cases el
      cases ex
      have hx : xs = [] := List.length_eq_zero_iff.mp hl
      subst hx
      have hes : es = [] := by cases rX; rfl
      subst hes
      have rc3 : RD X.K u3.F x ke := RD.mono e3.1 _ _ rc
      obtain ⟨b, ky, rfl, rfl, ek, hi⟩ := key_ok I3 g3.sto.sub rc3 rx hke
      refine ⟨[(ky, b, vv)], ⟨rfl, rfl, hi, trivial⟩, D, fun h' tk D' sb => ?_⟩
      have rX' : NEs [⟨ky, b, y⟩] [(ky, b, vv)] := .cons ⟨rfl, rfl, ry⟩ .nil
      have rE' : RepE (tpOf X) u3 [⟨ky, b, y⟩] [(ke, ee)] := .cons ⟨hke, ek, rc3, rd⟩ .nil
      have hd : DictAt (tpOf X) s.heap.objs.size [⟨ky, b, y⟩] h' := by
        obtain ⟨ob, ar, ep, z1, z2, z3, z4, _⟩ := D'
        exact ⟨_, rX', ob, ar, ep, z1, z2, z3, z4⟩
      refine ⟨.ref s.heap.objs.size, _, d_write I3 (by rw [hH]; exact True.intro) sb (let ⟨ob, _, _, z, _⟩ := D'; ⟨ob, z⟩) (nd_new hd), rfl, ?_⟩
      exact q3 _ _ u3 (Ext.refl u3) (g3.sto.write em (by intro z; cases z) ha3 ⟨hm, by simp, by show 1 ≤ sizeLine; decide, _, upd_same, rE'⟩) ⟨_, ha3, rfl⟩

/-! ### methods of built-in types -/
abbrev VM := Cell → List Cell → Mem → Option (Cell × Mem)
def rVM (tp : Tp) (k : VM) : V → List V → Hp → VK → Prop := fun x xs H Q => ∃ u M c cs, Sto tp u M H ∧ RepC tp u x c ∧ RepCs tp u xs cs ∧ PostO tp u (k c cs M) Q
/-- the cell is of that built-in type -/
def tyC (T : String) (c : Cell) (M : Mem) : Prop := (T = "list" ∧ (asL c M).isSome = true) ∨ (T = "dict" ∧ ((asM c M).isSome = true ∨ (asTd c M).isSome = true)) ∨ (T = "str" ∧ ∃ x, c = .dat (.str x))
theorem tyC_is {pins : List (Addr × Obj)} {σ : L2.St} {H : Hp} {s : Shared} {T : String} {x : V} {v : Value} {c : Cell} {u : Wo} {M : Mem} (I : Inv X pins σ H s) (r : RelV x v) (st : Sto (tpOf X) u M H) (rc : RepC (tpOf X) u x c) (ty : tyC T c M) :
    s.TypeIs v T ∧ ∀ a, v = .ref a → ∃ ob, s.heap.get? a = some ob ∧ ob.dict = none := by
  rcases ty with ⟨rfl, h⟩ | ⟨rfl, h⟩ | ⟨rfl, y, rfl⟩
  · cases e : asL c M with
    | none => rw [e] at h; cases h
    | some ds =>
      obtain ⟨a, vs, rfl, h1, _, _⟩ := asL_rep st rc e
      cases r
      obtain ⟨_, its, n, _, _, eo⟩ := Inv.rdL I h1
      exact ⟨⟨_, eo, rfl⟩, fun b eb => by cases eb; exact ⟨_, eo, rfl⟩⟩
  · rcases h with h | h
    · cases e : asM c M with
      | none => rw [e] at h; cases h
      | some kvs =>
        obtain ⟨a, es, xs, rfl, _, _, _, _, _, D, _⟩ := dct_read I st rc e
        cases r
        obtain ⟨o, _, _, ho, hx, _⟩ := D
        exact ⟨⟨o, ho, hx.1⟩, fun b eb => by cases eb; exact ⟨o, ho, hx.2.1⟩⟩
    · cases e : asTd c M with
      | none => rw [e] at h; cases h
      | some kvs =>
        obtain ⟨a, vs, xs, rfl, _, _, _, _, D, _⟩ := tdc_read I st rc e
        cases r
        obtain ⟨o, _, _, ho, hx, _⟩ := D
        exact ⟨⟨o, ho, hx.1⟩, fun b eb => by cases eb; exact ⟨o, ho, hx.2.1⟩⟩
  · obtain rfl := rep_str rc
    obtain ⟨t, rfl⟩ := r
    exact ⟨typeIs_str s y t, fun _ e => nomatch e⟩
def tyB (T : String) (c : Cell) (M : Mem) : Bool := if T = "list" then (asL c M).isSome else if T = "dict" then (asM c M).isSome || (asTd c M).isSome else if T = "str" then (match c with | .dat (.str _) => true | _ => false) else false
theorem tyB_ty {T : String} {c : Cell} {M : Mem} (h : tyB T c M = true) : tyC T c M := by
  unfold tyB at h
  split at h
  · rename_i e; exact .inl ⟨e, h⟩
  · split at h
    · rename_i e; exact .inr (.inl ⟨e, by simpa using h⟩)
    · split at h
      · rename_i e
        refine .inr (.inr ⟨e, ?_⟩)
        split at h
        · exact ⟨_, rfl⟩
        · cases h
      · cases h
def eM0 (T : String) (k : VM) (f : EvF) : EvF := fun ρ M => (f ρ M).bind fun c M => if tyB T c M then Res.of (k c [] M) else .no
def eMt (T : String) (k : VM) (f : EvF) (g : EvA) : EvF := fun ρ M => (f ρ M).bind fun c M => if tyB T c M then (g ρ M).bind fun cs M => Res.of (k c cs M) else .no
variable {o e : Expr} {es : List Expr} {f : EvF} {g : EvA} {name : Str} {apos cpos : Pos} {T id : String} {k : VM}
theorem q_bm0 (pa : PlainAttrs T) (slot : Slot T name id) (hty : typeOf (.builtin id) = pure (.type "method_descriptor")) (hm : MtR X id (rVM (tpOf X) k)) (ho : PE X o (tE (tpOf X) W f))
    (hbase : attributeBase o name X.env (eval o X.env) = eval o X.env := by rfl) (hline : (apos.endLine == cpos.line) = true := by rfl) : PE X (.Call (.Attribute o name apos) [] [] cpos) (tE (tpOf X) W (eM0 T k f)) := by
  refine ⟨fun pins s σ H Q I h => ?_⟩
  obtain ⟨u, ρ, M, g0, q⟩ := tR_bind (Rp := RepC (tpOf X)) (k := fun ρ c M => if tyB T c M then Res.of (k c [] M) else .no) h
  refine wpAny_Call_method0_late hbase hline (thn (ho.run pins s σ H _ I ⟨u, ρ, M, g0, q⟩) fun v s1 ⟨x, H1, I1, r1, u1, ρ1, M1, c, g1, rc, q1⟩ => ?_)
  split at q1
  · rename_i hT
    obtain ⟨h1, h2⟩ := tyC_is I1 r1 g1.sto rc (tyB_ty hT)
    refine ⟨T, id, pa, slot, hty, h1, h2, Calls.callWith_builtin rfl (PySem.evalArgs_none (hm pins s1 σ H1 x [] v [] Q I1 r1 .nil ⟨u1, M1, c, [], g1.sto, rc, .nil, ?_⟩))⟩
    revert q1
    cases k c [] M1 with
    | none => exact fun q => q
    | some p => exact fun q => q
  · exact q1.elim
theorem q_bm (pa : PlainAttrs T) (slot : Slot T name id) (hty : typeOf (.builtin id) = pure (.type "method_descriptor")) (hm : MtR X id (rVM (tpOf X) k)) (ho : PE X o (tE (tpOf X) W f)) (ha : PA X (e :: es) (tAs (tpOf X) W g))
    (hbase : attributeBase o name X.env (eval o X.env) = eval o X.env := by rfl)
    (hfew : ((backTo cpos (starEach (e :: es) X.env)).all (fun x => !x.1) && (backToKw cpos (keywordEach [] X.env)).all (fun x => x.1.isSome)
      && decide ((e :: es).length + ([] : List Keyword).length + (if ([] : List Keyword).isEmpty then 0 else 1) < 30)) = true := by rfl)
    (hline : (apos.endLine == cpos.line) = true := by rfl) (hs : starEach (e :: es) X.env = (false, eval e X.env) :: starEach es X.env := by rfl) (hplain : (backTo cpos (starEach es X.env)).any (·.1) = false := by rfl) :
    PE X (.Call (.Attribute o name apos) (e :: es) [] cpos) (tE (tpOf X) W (eMt T k f g)) := by
  refine ⟨fun pins s σ H Q I h => ?_⟩
  obtain ⟨u, ρ, M, g0, q⟩ := tR_bind (Rp := RepC (tpOf X)) (k := fun ρ c M => if tyB T c M then (g ρ M).bind fun cs M => Res.of (k c cs M) else .no) h
  refine wpAny_Call_method_late hbase hfew hline rfl (thn (ho.run pins s σ H _ I ⟨u, ρ, M, g0, q⟩) fun v s1 ⟨x, H1, I1, r1, u1, ρ1, M1, c, g1, rc, q1⟩ => ?_)
  split at q1
  · rename_i hT
    obtain ⟨h1, h2⟩ := tyC_is I1 r1 g1.sto rc (tyB_ty hT)
    refine ⟨T, id, pa, slot, hty, h1, h2, ?_⟩
    have hA := ha.run cpos pins s1 σ H1 (fun vs H2 => ∃ u2 M2 cs, Ext u1 u2 ∧ Sto (tpOf X) u2 M2 H2 ∧ RepCs (tpOf X) u2 vs cs ∧ PostO (tpOf X) u2 (k c cs M2) Q) I1 ⟨u1, ρ1, M1, g1, by
      have q1 : Post (tpOf X) W u1 σ (RepC (tpOf X)) ((g ρ1 M1).bind fun cs M => Res.of (k c cs M)) Q := q1
      revert q1
      cases g ρ1 M1 with
      | no => exact fun q => q
      | ex x M' => exact fun q => q
      | ok cs M2 =>
        intro q1 vs H' u' e s r
        refine ⟨u', M2, cs, e, s, r, ?_⟩
        have q1 : Post (tpOf X) W u1 σ (RepC (tpOf X)) (Res.of (k c cs M2)) Q := q1
        revert q1
        cases k c cs M2 with
        | none => exact fun q => q
        | some p => exact fun q v H'' u'' e' => q v H'' u'' (e.trans e')⟩
    rw [hs] at hA ⊢
    refine Calls.callWith_builtin (by show (false || (backTo cpos (starEach es X.env)).any (·.1)) = false; rw [hplain] <;> rfl) (Calls.evalArgs_plain ?_)
    exact thn hA fun us s2 ⟨vs, H2, I2, r2, u2, M2, cs, e2, st2, rcs, q2⟩ => hm pins s2 σ H2 x vs v us Q I2 r1 r2 ⟨u2, M2, c, cs, st2, rc.mono e2, rcs, q2⟩
  · exact q1.elim
def lstO (c : Cell) (M : Mem) : Option (Nat × List PyData) := match c with
  | .obj l => match M[l]? with | some (.lst ds) => some (l, ds) | _ => none
  | _ => none
theorem lstO_rep {tp : Tp} {u : Wo} {M : Mem} {H : Hp} {x : V} {c : Cell} {l : Nat} {ds : List PyData} (s : Sto tp u M H) (r : RepC tp u x c) (e : lstO c M = some (l, ds)) :
    ∃ a vs, x = .ref a ∧ M[l]? = some (.lst ds) ∧ u.α[l]? = some a ∧ H a = some (.lst vs) ∧ RDs tp.K u.F vs ds ∧ vs.length ≤ sizeLine := by
  unfold lstO at e
  split at e
  · rename_i l'
    split at e
    · rename_i ds' em
      cases e
      obtain ⟨a, h1, h2⟩ := r
      obtain ⟨_, _, _, vs, f4, f5, f6⟩ := s.rep l _ a em (by intro z; cases z) h1
      exact ⟨a, vs, h2, em, h1, f4, f5, f6⟩
    · cases e
  · cases e
def mAppend : VM := fun c cs M => match lstO c M, cs with
  | some (l, ds), [.dat d] => if ds.length < LIM then some (.dat .none, M.set l (.lst (ds ++ [d]))) else none
  | _, _ => none
def mPop : VM := fun c cs M => match lstO c M, cs with
  | some (l, ds), [] => match ds[ds.length - 1]? with | some d => some (.dat d, M.set l (.lst ds.dropLast)) | none => none
  | _, _ => none
def mPopAt : VM := fun c cs M => match lstO c M, cs with
  | some (l, ds), [.dat (.int 0)] => match ds[0]? with | some d => some (.dat d, M.set l (.lst (ds.eraseIdx 0))) | none => none
  | _, _ => none
def mInsert : VM := fun c cs M => match lstO c M, cs with
  | some (l, ds), [.dat (.int i), .dat d] => if ds.length < LIM ∧ 0 ≤ i ∧ i ≤ 1000000 then some (.dat .none, M.set l (.lst (ds.take i.toNat ++ [d] ++ ds.drop i.toNat))) else none
  | _, _ => none
theorem reps1 {tp : Tp} {u : Wo} {vs : List V} {c : Cell} (r : RepCs tp u vs [c]) : ∃ v, vs = [v] ∧ RepC tp u v c := rep1 r
theorem reps0 {tp : Tp} {u : Wo} {vs : List V} (r : RepCs tp u vs []) : vs = [] := by cases r; rfl
theorem RDs.dropLast {K : PySem.W.Frag} {F : Hp} {vs : List V} {ds : List PyData} (h : RDs K F vs ds) : RDs K F vs.dropLast ds.dropLast := by
  rw [List.dropLast_eq_take, List.dropLast_eq_take, h.length]
  exact h.take _
theorem m_append : MtR X "list.append" (rVM (tpOf X) mAppend) := by
  intro pins s σ H x xs v us Q I rx rs ⟨w, M, c, cs, st, r1, r2, q⟩
  unfold mAppend at q
  split at q
  · rename_i l ds d el
    split at q
    · rename_i hz
      obtain ⟨a, vs, rfl, em, ea, hH, hr, hl⟩ := lstO_rep st r1 el
      obtain ⟨y, rfl, ry⟩ := reps1 r2
      refine mt_append pins s σ H _ _ v us Q I rx rs ⟨a, vs, y, rfl, rfl, hH, by rw [hr.length]; exact lim_lt hz, ?_⟩
      exact q .non _ w (Ext.refl w) (st.write em (by intro z; cases z) ea ⟨_, upd_same, hr.append (.cons ry .nil), by rw [List.length_append, hr.length]; exact lim_ok hz⟩) RD.non
    · exact q.elim
  · exact q.elim
theorem m_pop : MtR X "list.pop" (rVM (tpOf X) mPop) := by
  intro pins s σ H x xs v us Q I rx rs ⟨w, M, c, cs, st, r1, r2, q⟩
  unfold mPop at q
  split at q
  · rename_i l ds el
    split at q
    · rename_i d ed
      obtain ⟨a, vs, rfl, em, ea, hH, hr, hl⟩ := lstO_rep st r1 el
      obtain rfl := reps0 r2
      obtain ⟨y, ey, ry⟩ := hr.get ed
      refine mt_pop pins s σ H _ _ v us Q I rx rs ⟨a, vs, y, rfl, rfl, hH, by rw [hr.length]; exact ey, ?_⟩
      exact q y _ w (Ext.refl w) (st.write em (by intro z; cases z) ea ⟨_, upd_same, hr.dropLast, by rw [List.length_dropLast]; omega⟩) ry
    · exact q.elim
  · exact q.elim
theorem m_popAt : MtR X "list.pop" (rVM (tpOf X) mPopAt) := by
  intro pins s σ H x xs v us Q I rx rs ⟨w, M, c, cs, st, r1, r2, q⟩
  unfold mPopAt at q
  split at q
  · rename_i l ds el
    split at q
    · rename_i d ed
      obtain ⟨a, vs, rfl, em, ea, hH, hr, hl⟩ := lstO_rep st r1 el
      obtain ⟨z, rfl, rz⟩ := reps1 r2
      obtain rfl := rep_int rz
      obtain ⟨y, ey, ry⟩ := hr.get ed
      have hv : 0 < vs.length := (List.getElem?_eq_some_iff.mp ey).1
      refine mt_popAt pins s σ H _ _ v us Q I rx rs ⟨a, vs, 0, 0, y, rfl, rfl, hH, by decide, by decide, ?_, ey, ?_⟩
      · unfold seqIndex?
        simp [hv]
      · exact q y _ w (Ext.refl w) (st.write em (by intro z; cases z) ea ⟨_, upd_same, hr.erase 0, Nat.le_trans (len_erase vs 0) hl⟩) ry
    · exact q.elim
  · exact q.elim
theorem reps2 {tp : Tp} {u : Wo} {vs : List V} {c d : Cell} (r : RepCs tp u vs [c, d]) : ∃ v v2, vs = [v, v2] ∧ RepC tp u v c ∧ RepC tp u v2 d := by
  cases r with
  | cons h t =>
    cases t with
    | cons h2 t => cases t; exact ⟨_, _, rfl, h, h2⟩
theorem m_insert : MtR X "list.insert" (rVM (tpOf X) mInsert) := by
  intro pins s σ H x xs v us Q I rx rs ⟨w, M, c, cs, st, r1, r2, q⟩
  unfold mInsert at q
  split at q
  · rename_i l ds i d el
    split at q
    · rename_i hz
      obtain ⟨a, vs, rfl, em, ea, hH, hr, hl⟩ := lstO_rep st r1 el
      obtain ⟨z, y, rfl, rz, ry⟩ := reps2 r2
      obtain rfl := rep_int rz
      refine mt_insert pins s σ H _ _ v us Q I rx rs ⟨a, vs, i, y, rfl, rfl, hH, by rw [hr.length]; exact lim_lt hz.1, hz.2.1, by omega, ?_⟩
      refine q .non _ w (Ext.refl w) (st.write em (by intro z; cases z) ea ⟨_, upd_same, ((hr.take _).append (.cons ry .nil)).append (hr.drop _), ?_⟩) RD.non
      have h1 := hr.length
      have h2 : ds.length < LIM := hz.1
      refine lim_ok ?_
      rw [List.length_append, List.length_append, List.length_take, List.length_drop, List.length_singleton]
      omega
    · exact q.elim
  · exact q.elim
end
end QL

set_option Elab.async false
set_option linter.all false
set_option maxRecDepth 100000
set_option maxHeartbeats 4000000
namespace QL
open PySem PySem.Spec PyProof.Rows L2
/-! ### {k: v}, k a text; d.get(k, x) -/
def putT1 (l : Nat) (c d : Cell) (M : Mem) : Option (Cell × Mem) := match M[l]?, strO c, d with
  | some (.tdc []), some k, .dat e => some (.obj l, M.set l (.tdc [(k, e)]))
  | _, _, _ => none
theorem putT1_inv {l : Nat} {c d : Cell} {M : Mem} {r : Cell × Mem} (h : putT1 l c d M = some r) : ∃ k ee, M[l]? = some (.tdc []) ∧ c = .dat (.str k) ∧ d = .dat ee ∧ r = (.obj l, M.set l (.tdc [(k, ee)])) := by
  unfold putT1 at h
  split at h
  · rename_i k ee em e1
    exact ⟨_, _, em, strO_eq e1, rfl, (Option.some.inj h).symm⟩
  · cases h
/-- the new dict stands empty while the pair is made -/
def eT1 (f g : EvF) : EvF := fun ρ M => (f ρ (M ++ [.tdc []])).bind fun c M2 => (g ρ M2).bind fun d M3 => Res.of (putT1 M.length c d M3)
section
variable {X : Cx} {W : WX} {pos : Pos}
theorem tdict_new {s : Shared} {H : Hp} {pins : List (Addr × Obj)} {σ : L2.St} (I : Inv X pins σ H s) : TDAt (tpOf X) s.heap.objs.size [] (s.heap.push { cls := .type "dict", data := .dict #[] }) ∧ (s.heap.objs.size == sysModules) = false :=
  ⟨⟨[], .nil, Heap.DictOf.new s.heap⟩, beq_eq_false_iff_ne.mpr (Ne.symm (Nat.ne_of_lt I.big))⟩
theorem q_dictT1 {k v : Expr} {f g : EvF} (hk : PE X k (tE (tpOf X) W f)) (hv : PE X v (tE (tpOf X) W g)) : PE X (.Dict [some k] [v] pos) (tE (tpOf X) W (eT1 f g)) := by
  refine ⟨fun pins s σ H Q I h => ?_⟩
  obtain ⟨u, ρ, M, g0, q⟩ := h
  have q : Post (tpOf X) W u σ (RepC (tpOf X)) ((f ρ (M ++ [.tdc []])).bind fun c M2 => (g ρ M2).bind fun d M3 => Res.of (putT1 M.length c d M3)) Q := q
  obtain ⟨d1, d2⟩ := tdict_new I
  have hlen : (pairTrees [some k] [v] X.env pos).length = 1 := pairTrees_length [some k] [v] X.env pos rfl rfl
  refine wpAny_Dict_pairs (knd := PySem.strKind X.prog X.w) (zip_pairTrees [some k] [v] X.env pos rfl rfl) (by intro z; rw [z] at hlen; cases hlen) (by rw [hlen]; decide) ?_
  have I1 : Inv X pins σ (upd H s.heap.objs.size (TD (tpOf X) s.heap.objs.size [])) { s with heap := s.heap.push { cls := .type "dict", data := .dict #[] }, toks := s.toks } :=
    I.laid (fun _ _ q => Heap.get?_push_of_some _ q) (Nat.le_refl _) (td_new d1)
  obtain ⟨e1, st1⟩ := g0.sto.alloc (p := s.heap.objs.size) (o := TD (tpOf X) s.heap.objs.size []) (m := .tdc []) (I.hok.fresh (Nat.le_refl _)) ⟨d2, Nat.zero_le _, [], upd_same, .nil⟩
  have ha1 : (u.α ++ [s.heap.objs.size])[M.length]? = some s.heap.objs.size := by rw [← g0.sto.len]; exact List.getElem?_concat_length
  have g1 := g0.ext e1 st1
  refine pairTrees_cons_walk (thn (hk.run pins _ σ _ (fun x H2 => ∃ u2 M2 c, Ext u u2 ∧ u2.α[M.length]? = some s.heap.objs.size ∧ Goo (tpOf X) u2 ρ M2 σ H2 ∧ RepC (tpOf X) u2 x c ∧ Post (tpOf X) W u2 σ (RepC (tpOf X)) ((g ρ M2).bind fun d M3 => Res.of (putT1 M.length c d M3)) Q) I1 ⟨_, ρ, _, g1, ?_⟩) fun kv s2 ⟨x, H2, I2, rx, u2, M2, c, e2, ha2, g2, rc, q2⟩ => ?_)
  · revert q
    cases f ρ (M ++ [.tdc []]) with
    | no => exact fun q => q
    | ex x M' => exact fun q cls dd H' u' e s r => q cls dd H' u' (e1.trans e) s r
    | ok c M2 => exact fun q v H' u' e s r => ⟨u', M2, c, e1.trans e, e.at ha1, g1.ext e s, r, Post.ext (e1.trans e) q⟩
  · refine thn (hv.run pins s2 σ H2 (fun y H3 => ∃ u3 M3 d, Ext u2 u3 ∧ Goo (tpOf X) u3 ρ M3 σ H3 ∧ RepC (tpOf X) u3 y d ∧ Post (tpOf X) W u3 σ (RepC (tpOf X)) (Res.of (putT1 M.length c d M3)) Q) I2 ⟨u2, ρ, M2, g2, ?_⟩) fun vv s3 ⟨y, H3, I3, ry, u3, M3, d, e3, g3, rd, q3⟩ => ?_
    · have q2 : Post (tpOf X) W u2 σ (RepC (tpOf X)) ((g ρ M2).bind fun d M3 => Res.of (putT1 M.length c d M3)) Q := q2
      revert q2
      cases g ρ M2 with
      | no => exact fun q => q
      | ex x M' => exact fun q => q
      | ok d M3 => exact fun q v H' u' e s r => ⟨u', M3, d, e, g2.ext e s, r, Post.ext e q⟩
    · refine pairTrees_nil_walk ?_
      have q3 : Post (tpOf X) W u3 σ (RepC (tpOf X)) (Res.of (putT1 M.length c d M3)) Q := q3
      obtain ⟨r1, r2, er, q3⟩ := post_of q3
      obtain ⟨ke, ee, em, rfl, rfl, er2⟩ := putT1_inv er
      cases er2
      have ha3 := e3.at ha2
      obtain ⟨a, vs, xs, l, el, em', ea, ex, hm, hz, hH, rT, tV, D, hl⟩ := tdc_rep (x := .ref s.heap.objs.size) (c := .obj M.length) I3 g3.sto ⟨_, ha3, rfl⟩ (show asTo (.obj M.length) M3 = some [] by unfold asTo; simp [em])
      cases el
      cases ex
      have hx : xs = [] := List.length_eq_zero_iff.mp hl
      subst hx
      have rc3 : RD X.K u3.F x (.str ke) := RD.mono e3.1 _ _ rc
      refine ⟨[(ke, vv)], ⟨str_key rc3 rx, rfl, trivial⟩, D, fun h' D' sb => ?_⟩
      have tV' : TVs [(ke, y)] [(ke, vv)] := .cons ⟨rfl, ry⟩ .nil
      have rT' : RepT (tpOf X) u3 [(ke, y)] [(ke, ee)] := .cons ⟨rfl, rd⟩ .nil
      have D' : h'.DictOf (PySem.strKind X.prog X.w) s.heap.objs.size [(ke, vv)] := D'
      have hd : TDAt (tpOf X) s.heap.objs.size [(ke, y)] h' := ⟨_, tV', D'⟩
      refine ⟨.ref s.heap.objs.size, _, d_write I3 (by rw [hH]; exact True.intro) sb (let ⟨ob, _, _, z, _⟩ := D'; ⟨ob, z⟩) (td_new hd), rfl, ?_⟩
      exact q3 _ _ u3 (Ext.refl u3) (g3.sto.write em (by intro z; cases z) ha3 ⟨hm, by show 1 ≤ sizeLine; decide, _, upd_same, rT'⟩) ⟨_, ha3, rfl⟩
/-- d.get(k, x) -/
def mGet : VM := fun c cs M => match cs with
  | [.dat k, .dat e] => match asM c M with
    | some kvs => if kOk k then some (.dat ((dGet kvs k).getD e), M) else none
    | none => match asTd c M, strO (.dat k) with
      | some kvs, some k => some (.dat ((tdGet kvs k).getD e), M)
      | _, _ => none
  | _ => none
theorem dGet_none {tp : Tp} {u : Wo} {es : List NE} {kvs : KV'} {xs : List (NestedKey × Addr × Value)} {d : PyData} {k : NestedKey} (r : RepE tp u es kvs) (rx : NEs es xs) (e : keyOf d = some k) (h : dGet kvs d = none) : atKey xs k = none := by
  have h1 := isSome_atKey (k := k) rx
  rw [any_ne r e, ← dGet_some, h] at h1
  cases q : atKey xs k with
  | none => rfl
  | some _ => rw [q] at h1; cases h1
theorem m_get (hu : X.A.units + 100 < cLine) : MtR X "dict.get" (rVM (tpOf X) mGet) := by
  intro pins s σ H x xs v us Q I rx rs ⟨w, M, c, cs, st, r1, r2, q⟩
  unfold mGet at q
  split at q
  · rename_i k e
    obtain ⟨vk, vs', rfl, rk, r2⟩ : ∃ vk vs', xs = vk :: vs' ∧ RepC (tpOf X) w vk (.dat k) ∧ RepCs (tpOf X) w vs' [.dat e] := by
      cases r2 with
      | cons a b => exact ⟨_, _, rfl, a, b⟩
    obtain ⟨ve, rfl, re⟩ := reps1 r2
    obtain ⟨uk, us', rfl, ruk, rs⟩ : ∃ uk us', us = uk :: us' ∧ RelV vk uk ∧ Vals [ve] us' := by
      cases rs with
      | cons a b => exact ⟨_, _, rfl, a, b⟩
    obtain ⟨ue, rfl, rue⟩ : ∃ ue, us' = [ue] ∧ RelV ve ue := by
      cases rs with
      | cons a b => cases b; exact ⟨_, rfl, a⟩
    split at q
    · rename_i kvs e1
      split at q
      · rename_i hk
        obtain ⟨a, es, xs, rfl, hm, hn, hz, rE, rX, D, hl⟩ := dct_read I st r1 e1
        obtain ⟨b, ky, rfl, rfl, ek, hi⟩ := key_ok I st.sub rk ruk hk
        cases rx
        refine call_meetsIn PySem.F.slot_dict_get D.typeIs PySem.F.entry_dict_get (PySem.F.args_dict_get_3 _ _ _) (meetsH_dict_get_default (nestedKind X.prog X.w) a b hm ue) ⟨room_nested hu, ky, xs, hi, D, ?_⟩
        cases eg : dGet kvs k with
        | some z =>
          obtain ⟨p, vv, hp, rv, rd⟩ := dGet_val rE rX ek eg
          rw [eg] at q
          rw [hp]
          exact ⟨vv, H, I.tok _, rv, post_d st rd q⟩
        | none =>
          rw [dGet_none rE rX ek eg]
          rw [eg] at q
          exact ⟨ve, H, I.tok _, rue, post_d st re q⟩
      · exact q.elim
    · split at q
      · rename_i kvs k' e1 e0
        have e0' := strO_eq e0
        cases e0'
        obtain ⟨a, vs, xs, rfl, hm, hz, rT, tV, D, hl⟩ := tdc_read I st r1 e1
        cases rx
        refine call_meetsIn PySem.F.slot_dict_get D.typeIs PySem.F.entry_dict_get (PySem.F.args_dict_get_3 _ _ _) (meets_dict_get_default (PySem.strKind X.prog X.w) a (str_key rk ruk) hm ue) ⟨_, D.mapOf, ?_⟩
        rcases tdc_val rT tV k' with ⟨d', vv, uu, e2, e3, rv, rd⟩ | ⟨e2, e3⟩
        · rw [e2] at q
          rw [e3]
          exact ⟨vv, H, I.tok _, rv, post_d st rd q⟩
        · rw [e2] at q
          rw [e3]
          exact ⟨ve, H, I.tok _, rue, post_d st re q⟩
      · exact q.elim
  · exact q.elim
end
end QL

set_option Elab.async false
set_option linter.all false
set_option maxRecDepth 100000
set_option maxHeartbeats 4000000
namespace QL
open PySem PySem.Spec PyProof.Rows L2
/-! ### x += [..] -/
def sAug (i : Nat) (f : EvF) : EvS := fun ρ M => match ρ[i]? with
  | some (some c) => (f ρ M).toS ρ fun d M => match lstO c M, asL d M with
    | some (l, ds), some es => if ds.length + es.length ≤ LIM then .nx (ρ.set i (some c)) (M.set l (.lst (ds ++ es))) else .no
    | _, _ => .no
  | _ => .no
section
variable {X : Cx} {W : WX} {pos : Pos}
def rExtQ (tp : Tp) : TIp := fun x y H Q => ∃ (l b : Addr) (xs zs : List V), x = .ref l ∧ y = .ref b ∧ H l = some (.lst xs) ∧ RdK tp.K H b zs ∧ xs.length + zs.length ≤ sizeLine ∧ Q (.ref l) (upd H l (.lst (xs ++ zs)))
theorem ip_ext : PIp X .Add (rExtQ (tpOf X)) := by
  intro pins s σ H x y v u Q I rx ry h
  obtain ⟨l, b, xs, zs, rfl, rfl, hH, hB, hz, q⟩ := h
  cases rx
  cases ry
  obtain ⟨z, its, n, r, hl, e⟩ := I.lstM hH
  obtain ⟨z2, its2, n2, r2, hl2, e2⟩ := Inv.rdL I hB
  have hsz : its.toArray.size + its2.toArray.size ≤ sizeLine := by rw [List.size_toArray, List.size_toArray]; omega
  have hlong : ¬ (!its.toArray.isEmpty && Builtin.List.listTooLong (its.toArray.size + its2.toArray.size)) = true := by
    rw [notLongL hsz, Bool.and_false]
    exact Bool.false_ne_true
  refine iadd_road ⟨_, e, rfl⟩ ⟨_, e2, rfl⟩ (call_meets PySem.F.slot_list_iadd ⟨_, e, rfl⟩ PySem.F.entry_list_iadd (PySem.F.args_list_iadd_2 _ _)
    (AutoSeq1.list___iadd___list_list_0 l its.toArray n b its2.toArray n2 hlong (by rw [List.size_toArray]; omega) (by omega)) ⟨e, e2, ?_⟩)
  refine ⟨.ref l, _, I.lset (its' := its ++ its2) (t' := s.toks) hH e (by simp) (r.append r2) ?_, rfl, q⟩
  rw [List.length_append]
  omega
theorem qs_aug (i : Nat) {x : Str} {e : Expr} {f : EvF} {pos' : Pos} (hN : X.N.Nodup) (he : PE X e (tE (tpOf X) W f)) (hi : X.N[i]? = some x := by rfl) (hx : Loc X.env.scope x := by first | exact Or.inl rfl | exact Or.inr rfl) (hf : X.fn x = true ∨ X.env.scope.names.lookup x = some .local := by first | exact .inl rfl | exact .inr rfl) :
    PS X (.AugAssign (.Name x pos') .Add e pos) (tS (tpOf X) W (sAug i f)) :=
  PS.weak (ps_aug hN hi hx he ip_ext hf) fun D σ H ⟨u, ρ, M, g0, q⟩ => by
    unfold sAug at q
    split at q
    · rename_i c hc
      obtain ⟨v, hv, rc⟩ := g0.env i c hc
      refine ⟨v, hv, u, ρ, M, g0, ?_⟩
      have q : PostS (tpOf X) W u ((f ρ M).toS ρ fun d M => match lstO c M, asL d M with
        | some (l, ds), some es => if ds.length + es.length ≤ LIM then .nx (ρ.set i (some c)) (M.set l (.lst (ds ++ es))) else .no
        | _, _ => .no) D := q
      revert q
      cases f ρ M with
      | no => exact fun q => q
      | ex x M' => exact fun q cls dd H' u' e s r => q cls dd σ H' u' e (g0.ext e s) r
      | ok d M1 =>
        intro q y H1 u1 e1 s1 ry
        have q : PostS (tpOf X) W u (match lstO c M1, asL d M1 with
          | some (l, ds), some es => if ds.length + es.length ≤ LIM then .nx (ρ.set i (some c)) (M1.set l (.lst (ds ++ es))) else .no
          | _, _ => .no) D := q
        split at q
        · rename_i l ds es el ee
          split at q
          · rename_i hz
            obtain ⟨a, vs, rfl, em, ea, hH, hr, hl⟩ := lstO_rep s1 (rc.mono e1) el
            obtain ⟨b, ws, rfl, h1, h2, h3⟩ := asL_rep s1 ry ee
            have z : vs.length + ws.length ≤ sizeLine := by rw [hr.length, h2.length]; exact lim_ok hz
            refine ⟨a, b, vs, ws, rfl, rfl, hH, h1, z, ?_⟩
            have st := s1.write (o := .lst (vs ++ ws)) (m := .lst (ds ++ es)) em (by intro z; cases z) ea ⟨_, upd_same, hr.append h2, by rw [List.length_append]; exact z⟩
            exact q _ _ u1 e1 (((g0.ext e1 s1).ext (Ext.refl u1) st).set (rc.mono e1))
          · exact q.elim
        · exact q.elim
    · exact q.elim

/-! ### a, b = e1, e2 -/
theorem two_read {f g : EvF} {σ : L2.St} {H : Hp} {i j : Nat} {D : Ends} (h : tS (tpOf X) W (sPar i j f g) D σ H) : tPar i j (tAs (tpOf X) W (aCons f (aCons g aNil))) D σ H := by
  obtain ⟨u, ρ, M, g0, q⟩ := h
  refine ⟨u, ρ, M, g0, ?_⟩
  unfold aCons aNil
  have q : PostS (tpOf X) W u ((f ρ M).toS ρ fun c M => (g ρ M).toS ρ fun d M => .nx ((ρ.set i (some c)).set j (some d)) M) D := q
  revert q
  cases f ρ M with
  | no => exact fun q => q
  | ex x M' => exact fun q cls dd H' u' e s r => q cls dd σ H' u' e (g0.ext e s) r
  | ok c M1 =>
    intro q
    have q : PostS (tpOf X) W u ((g ρ M1).toS ρ fun d M => .nx ((ρ.set i (some c)).set j (some d)) M) D := q
    show Post (tpOf X) W u σ (RepCs (tpOf X)) ((((g ρ M1).bind fun c M => Res.ok [c] M)).bind fun cs M => Res.ok (c :: cs) M) _
    revert q
    cases g ρ M1 with
    | no => exact fun q => q
    | ex x M' => exact fun q cls dd H' u' e s r => q cls dd σ H' u' e (g0.ext e s) r
    | ok d M2 =>
      intro q vs H' u' e s r
      obtain ⟨v, w, rfl, r1, r2⟩ := reps2 r
      exact ⟨v, w, rfl, q _ H' u' e (((g0.ext e s).set r1).set r2)⟩
theorem qs_par (i j : Nat) {x y : Str} {a b : Expr} {f g : EvF} {px py pt : Pos} {kt k2 pt2} (hc : X.calm = true) (hN : X.N.Nodup) (ha : PE X a (tE (tpOf X) W f)) (hb : PE X b (tE (tpOf X) W g)) (hij : i ≠ j := by decide) (hi : X.N[i]? = some x := by rfl) (hj : X.N[j]? = some y := by rfl) 
    (hx : X.env.scope.names.lookup x = some .local := by rfl) (hy : X.env.scope.names.lookup y = some .local := by rfl) (hs1 : starEach [a, b] X.env = (false, eval a X.env) :: starEach [b] X.env := by rfl) (hs2 : starEach [b] X.env = (false, eval b X.env) :: starEach [] X.env := by rfl)
    (hw : swappedStores [.Tuple [.Name x px, .Name y py] kt pt] (.Tuple [a, b] k2 pt2) X.env = pure (some [x, y]) := by rfl)
    (hs : swapsWithSole [.Tuple [.Name x px, .Name y py] kt pt] (.Tuple [a, b] k2 pt2) pos.line X.env = pure false := by rfl) :
    PS X (.Assign [.Tuple [.Name x px, .Name y py] kt pt] (.Tuple [a, b] k2 pt2) pos) (tS (tpOf X) W (sPar i j f g)) :=
  PS.weak (ps_par hc hN hi hj hij hx hy (qa_cons ha (qa_cons hb qa_nil hs2) hs1) hw hs) fun D σ H h => two_read h
def sPar3 (i j l : Nat) (f g h : EvF) : EvS := fun ρ M => (f ρ M).toS ρ fun c M => (g ρ M).toS ρ fun d M => (h ρ M).toS ρ fun e M => .nx (((ρ.set i (some c)).set j (some d)).set l (some e)) M
theorem reps3 {tp : Tp} {u : Wo} {vs : List V} {c d e : Cell} (r : RepCs tp u vs [c, d, e]) : ∃ v v2 v3, vs = [v, v2, v3] ∧ RepC tp u v c ∧ RepC tp u v2 d ∧ RepC tp u v3 e := by
  cases r with
  | cons h t =>
    obtain ⟨v2, v3, rfl, r2, r3⟩ := reps2 t
    exact ⟨_, _, _, rfl, h, r2, r3⟩
theorem three_read {f g h : EvF} {σ : L2.St} {H : Hp} {i j l : Nat} {D : Ends} (h0 : tS (tpOf X) W (sPar3 i j l f g h) D σ H) : tPar3 i j l (tAs (tpOf X) W (aCons f (aCons g (aCons h aNil)))) D σ H := by
  obtain ⟨u, ρ, M, g0, q⟩ := h0
  refine ⟨u, ρ, M, g0, ?_⟩
  unfold aCons aNil
  have q : PostS (tpOf X) W u ((f ρ M).toS ρ fun c M => (g ρ M).toS ρ fun d M => (h ρ M).toS ρ fun e M => .nx (((ρ.set i (some c)).set j (some d)).set l (some e)) M) D := q
  revert q
  cases f ρ M with
  | no => exact fun q => q
  | ex x M' => exact fun q cls dd H' u' e s r => q cls dd σ H' u' e (g0.ext e s) r
  | ok c M1 =>
    intro q
    have q : PostS (tpOf X) W u ((g ρ M1).toS ρ fun d M => (h ρ M).toS ρ fun e M => .nx (((ρ.set i (some c)).set j (some d)).set l (some e)) M) D := q
    show Post (tpOf X) W u σ (RepCs (tpOf X)) ((((g ρ M1).bind fun c M => ((h ρ M).bind fun c M => Res.ok [c] M).bind fun cs M => Res.ok (c :: cs) M)).bind fun cs M => Res.ok (c :: cs) M) _
    revert q
    cases g ρ M1 with
    | no => exact fun q => q
    | ex x M' => exact fun q cls dd H' u' e s r => q cls dd σ H' u' e (g0.ext e s) r
    | ok d M2 =>
      intro q
      have q : PostS (tpOf X) W u ((h ρ M2).toS ρ fun e M => .nx (((ρ.set i (some c)).set j (some d)).set l (some e)) M) D := q
      show Post (tpOf X) W u σ (RepCs (tpOf X)) ((((h ρ M2).bind fun c M => Res.ok [c] M).bind fun cs M => Res.ok (d :: cs) M).bind fun cs M => Res.ok (c :: cs) M) _
      revert q
      cases h ρ M2 with
      | no => exact fun q => q
      | ex x M' => exact fun q cls dd H' u' e s r => q cls dd σ H' u' e (g0.ext e s) r
      | ok e M3 =>
        intro q vs H' u' e' s r
        obtain ⟨v, w, z, rfl, r1, r2, r3⟩ := reps3 r
        exact ⟨v, w, z, rfl, q _ H' u' e' ((((g0.ext e' s).set r1).set r2).set r3)⟩
theorem qs_par3 (i j l : Nat) {x y z : Str} {a b c : Expr} {f g h : EvF} {px py pz pt : Pos} {kt k2 pt2} (hc : X.calm = true) (hN : X.N.Nodup) (ha : PE X a (tE (tpOf X) W f)) (hb : PE X b (tE (tpOf X) W g)) (hh : PE X c (tE (tpOf X) W h)) (hij : i ≠ j := by decide) (hil : i ≠ l := by decide) (hjl : j ≠ l := by decide)
    (hi : X.N[i]? = some x := by rfl) (hj : X.N[j]? = some y := by rfl) (hl : X.N[l]? = some z := by rfl) (hx : X.env.scope.names.lookup x = some .local := by rfl) (hy : X.env.scope.names.lookup y = some .local := by rfl) (hz : X.env.scope.names.lookup z = some .local := by rfl)
    (hs1 : starEach [a, b, c] X.env = (false, eval a X.env) :: starEach [b, c] X.env := by rfl) (hs2 : starEach [b, c] X.env = (false, eval b X.env) :: starEach [c] X.env := by rfl) (hs3 : starEach [c] X.env = (false, eval c X.env) :: starEach [] X.env := by rfl)
    (hw : swappedStores [.Tuple [.Name x px, .Name y py, .Name z pz] kt pt] (.Tuple [a, b, c] k2 pt2) X.env = pure (some [x, y, z]) := by rfl)
    (hs : swapsWithSole [.Tuple [.Name x px, .Name y py, .Name z pz] kt pt] (.Tuple [a, b, c] k2 pt2) pos.line X.env = pure false := by rfl) :
    PS X (.Assign [.Tuple [.Name x px, .Name y py, .Name z pz] kt pt] (.Tuple [a, b, c] k2 pt2) pos) (tS (tpOf X) W (sPar3 i j l f g h)) :=
  PS.weak (ps_par3 hc hN hi hj hl hij hil hjl hx hy hz (qa_cons ha (qa_cons hb (qa_cons hh qa_nil hs3) hs2) hs1) hw hs) fun D σ H h => three_read h
end
end QL

set_option Elab.async false
set_option linter.all false
set_option maxRecDepth 100000
set_option maxHeartbeats 4000000
namespace QL
open PySem PySem.Spec PyProof.Rows L2
section
variable {X : Cx}
/-- {k: v for target in iter}, the keys tuples: D the new dict -/
def tDcN (tp : Tp) (wi : TI) (g : TG) (tt : TT) (tk tv : TE) (vs : List Nat) : TE := fun σ H Q => wi σ H fun J H1 => ∀ D, H1 D = none → (D == sysModules) = false → ∃ W : Nat → Nat → Hp → Prop, (∃ m, W 0 m (upd H1 D (ND tp D []))) ∧ ∀ i m H, W i m H →
  (J.stop i H ∧ Q (.ref D) H) ∨ (J.go i H ∧ ∃ Nx : Hp → Prop, (∀ H', Nx H' → ∃ m', m' < m ∧ W (i + 1) m' H') ∧ ∀ x H', J.yld i H x H' → g x (L2.wipe σ vs) H' fun σ2 H2 => L2.wipe σ2 vs = L2.wipe σ vs ∧ tt σ2 H2 fun b H3 =>
    if b = true then tk σ2 H3 fun y H4 => tv σ2 H4 fun z H5 => ∃ u M l kvs dk dv, Sto tp u M H5 ∧ u.α[l]? = some D ∧ M[l]? = some (.dct kvs) ∧ RD tp.K u.F y dk ∧ RD tp.K u.F z dv ∧ kOk dk = true ∧ kvs.length < LIM ∧
      ∀ H6, Sto tp u (M.set l (.dct (dPut kvs dk dv))) H6 → Nx H6 else Nx H3)
theorem dcN_core {pins : List (Addr × Obj)} {s : Shared} {σ : L2.St} {H : Hp} {Q : VK} {kx vx tg iter : Expr} {ifs : List Expr} {scope : Scope} {own : List (Str × Nat)} {pos pos' : Pos} {wi : TI} {g : TG} {tt : TT} {tk tv : TE} {use : Option (Value → Sem Unit)} {Qf : Value → Shared → Prop}
    (hu : X.A.units + 100 < cLine) (hc : X.calm = true) (hN : X.N.Nodup) (I : L2.Inv X pins σ H s) (hi : PI X tg iter wi) (ok : BlkOk X.N X.env.scope scope own)
    (hg : ∀ (s : Shared) (H : Hp) (C : Addr) (cl : List (Str × Addr)) (fp : List Addr), PG (X.blk s H scope (compEnvC scope cl C X.env) fp) tg g) (ht : ∀ (s : Shared) (H : Hp) (C : Addr) (cl : List (Str × Addr)) (fp : List Addr), PTs (X.blk s H scope (compEnvC scope cl C X.env) fp) ifs tt)
    (hk : ∀ (s : Shared) (H : Hp) (C : Addr) (cl : List (Str × Addr)) (fp : List Addr), PE (X.blk s H scope (compEnvC scope cl C X.env) fp) kx tk)
    (he : ∀ (s : Shared) (H : Hp) (C : Addr) (cl : List (Str × Addr)) (fp : List Addr), PE (X.blk s H scope (compEnvC scope cl C X.env) fp) vx tv) (hs : ∀ x, foldedSetIterable iter X.env x = pure x)
    (h : tDcN (tpOf X) wi g tt tk tv (own.map (·.2)) σ H Q)
    (hRR : ∀ D C s' m H', L2.Inv X pins σ H' s' → Q (.ref D) H' → s'.heap.Ns C m → FpOk X pins H' C → compPost (model X.prog X.w) X.A X.xe use Qf (.ref D) C (.ok .next) s') :
    wpAny (model X.prog X.w) X.A (comprehension (.DictComp kx vx [⟨tg, iter, ifs, 0⟩] scope pos) scope X.env pos' newDict false (eval iter X.env) use) Qf X.xe s := by
  have hfree : ∀ y ∈ scope.names, y.2 = .free → ∃ c, X.env.cells.lookup y.1 = some c := fun y hy e => by
    rcases ok.free y hy e with k | k
    · exact I.ok.has _ (.inl k)
    · exact I.ok.has _ (.inr k)
  refine wpAny_comprehension_free (use := use) rfl hs (closure_ok hfree) ok.kind (fun y hy e => by rw [ok.uniq y hy, e])
    (thn (hi.run pins s σ H _ I h) fun xv s1 hx => thn hx fun itv s2 h2 => ?_)
  obtain ⟨it, fp, tn, J, H2, e, I2, T, st2, f2, q⟩ := h2
  subst e
  refine wpAny_newObj_type (newEnv_comp ?_)
  generalize hD : s2.heap.objs.size = D
  have hDn : H2 D = none := I2.hok.fresh (Nat.le_of_eq hD)
  obtain ⟨W, ⟨m0, w0⟩, turn⟩ := q D hDn (by rw [← hD]; exact (dict_new I2).2)
  -- the new list
  generalize hs3 : ({ s2 with heap := s2.heap.push { cls := .type "dict", data := .dict #[] } } : Shared) = s3
  have I3 : L2.Inv X pins σ (upd H2 D (ND (tpOf X) D [])) s3 := by
    rw [← hs3]
    refine I2.laid (t' := s2.toks) (fun b o e => Heap.get?_push_of_some _ e) (Nat.le_of_eq hD) ?_
    rw [← hD]
    exact nd_new (tp := tpOf X) (dict_new I2).1
  have h3 : s3.heap = s2.heap.push { cls := .type "dict", data := .dict #[] } := by rw [← hs3]
  have sz : ∀ b ∈ fp, b < s2.heap.objs.size := fun b hb => by
    obtain ⟨o, e, _⟩ := T.obj _ _ st2 b hb
    exact Heap.lt_size e
  have f3 : ∀ b ∈ fp, FpOk X pins (upd H2 D (ND (tpOf X) D [])) b ∧ b < s3.heap.objs.size := fun b hb => by
    have hlt := sz b hb
    refine ⟨⟨?_, (f2 b hb).2⟩, by rw [h3, Heap.size_push]; exact Nat.lt_succ_of_lt hlt⟩
    rw [upd_ne (by rw [← hD]; exact Nat.ne_of_lt hlt)]
    exact (f2 b hb).1
  have st3 : tn 0 s3.heap := T.keep _ _ _ st2 fun b _ o e => by rw [h3]; exact Heap.get?_push_of_some _ e
  have I4 := block_start I3 ok hN f3
  have pg := hg s3 (upd H2 D (ND (tpOf X) D [])) s3.heap.objs.size (cellsFrom (s3.heap.objs.size + 1) scope.names (cloFrom X.env.cells scope.names [])) fp
  have pt := ht s3 (upd H2 D (ND (tpOf X) D [])) s3.heap.objs.size (cellsFrom (s3.heap.objs.size + 1) scope.names (cloFrom X.env.cells scope.names [])) fp
  have pk := hk s3 (upd H2 D (ND (tpOf X) D [])) s3.heap.objs.size (cellsFrom (s3.heap.objs.size + 1) scope.names (cloFrom X.env.cells scope.names [])) fp
  have pe := he s3 (upd H2 D (ND (tpOf X) D [])) s3.heap.objs.size (cellsFrom (s3.heap.objs.size + 1) scope.names (cloFrom X.env.cells scope.names [])) fp
  show codeAny _ _ (.compStart (.DictComp kx vx [⟨tg, iter, ifs, 0⟩] scope pos) 0 (.ref it) (.ref D) (compEnvC scope (cellsFrom (s3.heap.objs.size + 1) scope.names (cloFrom X.env.cells scope.names [])) s3.heap.objs.size X.env)) (compPost (model X.prog X.w) X.A X.xe use Qf (.ref D) s3.heap.objs.size) { s3 with heap := pushCells (s3.heap.push { cls := .type "dict", data := .dict #[] }) scope.names }
  have nfp : ∀ b ∈ fp, (upd H2 D (ND (tpOf X) D [])) b = none := fun b hb => (f3 b hb).1.1
  generalize hce : compEnvC scope (cellsFrom (s3.heap.objs.size + 1) scope.names (cloFrom X.env.cells scope.names [])) s3.heap.objs.size X.env = ce at I4 pg pt pk pe ⊢
  have cL : ce.locals = s3.heap.objs.size := by subst hce; rfl
  generalize hH3 : upd H2 D (ND (tpOf X) D []) = H3 at I3 I4 pg pt pk pe w0 nfp f3
  generalize hs4 : ({ s3 with heap := pushCells (s3.heap.push { cls := .type "dict", data := .dict #[] }) scope.names } : Shared) = s4 at I4 ⊢
  have st4 : tn 0 s4.heap := T.keep _ _ _ st3 fun b _ o e => by rw [← hs4]; exact pushCells_keeps _ _ _ _ (Heap.get?_push_of_some _ e)
  have stat : ∀ {σ' : L2.St} {H' : Hp} {s' : Shared}, L2.Inv (X.blk s3 H3 scope ce fp) [] σ' H' s' → (∀ b ∈ fp, H' b = none) → ∀ b ∈ fp, FpOk (X.blk s3 H3 scope ce fp) [] H' b := fun {σ' H' s'} I' hn b hb =>
    ⟨hn b hb, (I'.ok.exf b hb).1, I'.ok.exfs b hb, .inl hb, fun x c e => (I'.ok.exf b hb).2 x c e, fun p hp => absurd (show p ∈ ([] : List (Addr × Obj)) ++ [] from hp) (by simp)⟩
  have loop : codeAny (model X.prog X.w) X.A (.compLoop (.DictComp kx vx [⟨tg, iter, ifs, 0⟩] scope pos) 0 (.ref it) (.ref D) ce) (compPost (model X.prog X.w) X.A X.xe use Qf (.ref D) s3.heap.objs.size) s4 := by
    refine compLoop_anyD (fun n s' => ∃ i H', L2.Inv (X.blk s3 H3 scope ce fp) [] (wipe σ (own.map (·.2))) H' s' ∧ tn i s'.heap ∧ (∀ b ∈ fp, H' b = none) ∧ W i n H') ?_ m0 ⟨0, H3, I4, st4, nfp, w0⟩
    rintro n s5 ⟨i, H5, I5, st5, n5, w5⟩
    rcases turn i n H5 w5 with ⟨stop, qq⟩ | ⟨go, Nx, hNx, step⟩
    · have td := T.done (X.blk s3 H3 scope ce fp) rfl rfl rfl hc i [] s5 _ H5 (fun _ _ => False) I5 (stat I5 n5) st5 stop
      refine thnF td fun r s6 ⟨hr, I6⟩ => ?_
      subst hr
      -- back in the def's context
      have I7 : L2.Inv X pins σ H5 s6 := I3.call' (ch := fp) I6.os I6.base I6.hok I6.bare fun b hb => ⟨(f3 b hb).1.2.2.2.1, (f3 b hb).1.2.1, (f3 b hb).1.2.2.2.2.1, (f3 b hb).1.2.2.2.2.2⟩
      have nC : H5 s3.heap.objs.size = none := by
        have z : H5 ce.locals = none := I6.free
        rw [cL] at z
        exact z
      obtain ⟨m, hn, _⟩ := I6.loc
      have hn : s6.heap.Ns ce.locals m := hn
      rw [cL] at hn
      exact hRR D s3.heap.objs.size s6 m H5 I7 qq hn (I3.fpOk (Nat.le_refl _) nC)
    · have ti := T.item (X.blk s3 H3 scope ce fp) rfl rfl rfl hc i [] s5 _ H5 (fun _ _ => False) I5 (stat I5 n5) st5 go
      refine thnF ti fun r s6 ⟨u, hr, h6⟩ => ?_
      subst hr
      refine thnF h6 fun _ s7 ⟨x, H7, I7, r7, y7, st7, n7⟩ => ?_
      have I7' := I7.pinned (stat I7 n7) (T.obj _ _ st7)
      refine thnF (pg.run _ s7 _ H7 x u _ I7' r7 (step x H7 y7)) fun _ s8 ⟨σ8, H8, I8, hw8, q8⟩ => ?_
      refine thnF (pt.run _ s8 σ8 H8 _ I8 q8) fun b s9 ⟨H9, I9, q9⟩ => ?_
      -- the turn's end
      have fin : ∀ {s' : Shared} {H' : Hp}, L2.Inv (X.blk s3 H3 scope ce fp) ([] ++ pinsAt fp s7.heap) σ8 H' s' → Nx H' → ∃ m, m < n ∧ ∃ i H', L2.Inv (X.blk s3 H3 scope ce fp) [] (wipe σ (own.map (·.2))) H' s' ∧ tn i s'.heap ∧ (∀ b ∈ fp, H' b = none) ∧ W i m H' := fun {s' H'} I' nx => by
        obtain ⟨m', hm, w'⟩ := hNx H' nx
        have pin' : ∀ b ∈ fp, ∀ o, s7.heap.get? b = some o → s'.heap.get? b = some o ∧ H' b = none := fun b hb o e =>
          let z := I'.pin (b, o) (List.mem_append_right _ (List.mem_append_right _ (mem_pinsAt hb e)))
          ⟨z.1, z.2.1⟩
        have hl : (wipe σ (own.map (·.2))).length = σ8.length := by rw [← hw8, wipe_length]
        refine ⟨m', hm, i + 1, H', (I'.unpinned (pins := [])).weak hl (fun j v e => ?_), T.keep _ _ _ st7 fun b hb o e => (pin' b hb o e).1, fun b hb => ?_, w'⟩
        · rw [← hw8] at e
          exact (wipe_some e).1
        · obtain ⟨o, e, _⟩ := T.obj _ _ st7 b hb
          exact (pin' b hb o e).2
      cases b with
      | false =>
        simp only [Bool.false_eq_true, if_false] at q9 ⊢
        exact fin I9 q9
      | true =>
        simp only [if_true] at q9 ⊢
        refine thnF (pk.run _ s9 σ8 H9 _ I9 q9) fun z s10 ⟨yk, H10, I10, r10, q10⟩ => ?_
        refine thnF (pe.run _ s10 σ8 H10 _ I10 q10) fun z2 s11 ⟨yv, H11, I11, r11, u, M, l, kvs, dk, dv, st11, ea11, em11, rk11, rv11, hk11, hz11, nx⟩ => ?_
        obtain ⟨b, ky, rfl, rfl, ek, hi⟩ := key_ok I11 st11.sub rk11 r10 hk11
        obtain ⟨D', es, xs, l', el, em', ea', ex, hm, hn, hz, hH, rE, rX, DH, hl, _⟩ := dct_rep (x := .ref D) (c := .obj l) I11 st11 ⟨_, ea11, rfl⟩ (show asMo (.obj l) M = some kvs by simp only [asMo, em11])
        cases el
        cases ex
        refine wpAny_dictSet_heap (hsz := by rw [hl]; exact hz) (knd := nestedKind X.prog X.w) (show X.A.units + 8 < cLine by omega) hi DH fun h' D' sb => ?_
        have rX' := rX.put (k := ky) (a := b) r11
        have rE' := rE.put ek hk11 rk11 rv11
        have hd : DictAt (tpOf X) D (nePut es ky b yv) h' := by
          obtain ⟨ob, ar, ep, g1, g2, g3, g4, _⟩ := D'
          exact ⟨_, rX', ob, ar, ep, g1, g2, g3, g4⟩
        refine fin (d_write I11 (by rw [hH]; exact True.intro) sb (let ⟨ob, _, _, g1, _⟩ := D'; ⟨ob, g1⟩) (nd_new hd)) (nx _ (st11.write em11 (by intro z; cases z) ea11 ⟨hm, keys_dPut _ _ _ hn, ?_, _, upd_same, rE'⟩))
        exact lim_ok (Nat.le_trans (length_dPut _ _ _) hz11)
  exact codeAny_compStart_dict loop (T.self X.A 0 _ _ _ st4 loop)
/-- as a value -/
theorem pe_dcN {kx vx tg iter : Expr} {ifs : List Expr} {scope : Scope} {own : List (Str × Nat)} {pos : Pos} {wi : TI} {g : TG} {tt : TT} {tk tv : TE} (hu : X.A.units + 100 < cLine) (hc : X.calm = true) (hN : X.N.Nodup) (hi : PI X tg iter wi) (ok : BlkOk X.N X.env.scope scope own)
    (hg : ∀ (s : Shared) (H : Hp) (C : Addr) (cl : List (Str × Addr)) (fp : List Addr), PG (X.blk s H scope (compEnvC scope cl C X.env) fp) tg g) (ht : ∀ (s : Shared) (H : Hp) (C : Addr) (cl : List (Str × Addr)) (fp : List Addr), PTs (X.blk s H scope (compEnvC scope cl C X.env) fp) ifs tt)
    (hk : ∀ (s : Shared) (H : Hp) (C : Addr) (cl : List (Str × Addr)) (fp : List Addr), PE (X.blk s H scope (compEnvC scope cl C X.env) fp) kx tk)
    (he : ∀ (s : Shared) (H : Hp) (C : Addr) (cl : List (Str × Addr)) (fp : List Addr), PE (X.blk s H scope (compEnvC scope cl C X.env) fp) vx tv) (hs : ∀ x, foldedSetIterable iter X.env x = pure x := by intro _; rfl) :
    PE X (.DictComp kx vx [⟨tg, iter, ifs, 0⟩] scope pos) (tDcN (tpOf X) wi g tt tk tv (own.map (·.2))) := by
  refine ⟨fun pins s σ H Q I h => ?_⟩
  rw [arm_eval_DictComp]
  refine dcN_core hu hc hN I hi ok hg ht hk he hs h fun D C s' m H' I' q hn f => ⟨m, hn, fun h'' sb => ?_⟩
  obtain ⟨f0, f1, f2, f3, f4, f5⟩ := f
  exact ⟨.ref D, H', I'.turned (t' := s'.toks) (fun b o hb e => (sb.2 b hb).trans e) f0 f1 f3 f4 f5, rfl, q⟩
end
end QL

set_option Elab.async false
set_option linter.all false
set_option maxRecDepth 100000
set_option maxHeartbeats 4000000
namespace QL
open PySem PySem.Spec PyProof.Rows L2
/-! ### {k: v for target in iter} -/
def putD (l : Nat) (c d : Cell) (M : Mem) : Option Mem := match M[l]?, c, d with
  | some (.dct kvs), .dat k, .dat e => if kOk k && decide (kvs.length < LIM) then some (M.set l (.dct (dPut kvs k e))) else none
  | _, _, _ => none
theorem putD_inv {l : Nat} {c d : Cell} {M M' : Mem} (h : putD l c d M = some M') : ∃ kvs dk dv, M[l]? = some (.dct kvs) ∧ c = .dat dk ∧ d = .dat dv ∧ kOk dk = true ∧ kvs.length < LIM ∧ M' = M.set l (.dct (dPut kvs dk dv)) := by
  unfold putD at h
  split at h
  · rename_i kvs dk dv em
    split at h
    · rename_i hk
      rw [Bool.and_eq_true] at hk
      exact ⟨kvs, dk, dv, em, rfl, rfl, hk.1, of_decide_eq_true hk.2, (Option.some.inj h).symm⟩
    · cases h
  · cases h
def dcL (src : Src) (t : Tgt) (fk fv : EvF) (l : Nat) (ρ : Env') : List PyData → Mem → Res Unit
  | [], M => if src.holds M then .ok () M else .no
  | d :: ds, M => if src.holds M then match t.bind d ρ with
      | some ρ2 => (fk ρ2 M).bind fun k M => (fv ρ2 M).bind fun v M => match putD l k v M with
          | some M' => dcL src t fk fv l ρ ds M'
          | none => .no
      | none => .no
    else .no
def eDc (it : EvI) (t : Tgt) (fk fv : EvF) (own : List Nat) : EvF := fun ρ M => (it ρ M).bind fun src M => (noEx (dcL src t fk fv M.length (wipeE ρ own) src.items (M ++ [.dct []]))).bind fun _ M' => .ok (.obj M.length) M'
theorem dcL_holds {tp : Tp} {W : WX} {u : Wo} {σ : L2.St} {β α : Type} {Rp : Wo → β → α → Prop} {Q : β → Hp → Prop} {src : Src} {t : Tgt} {fk fv : EvF} {l : Nat} {ρ : Env'} {ds : List PyData} {M : Mem} {k : Unit → Mem → Res α}
    (h : Post tp W u σ Rp ((dcL src t fk fv l ρ ds M).bind k) Q) : src.holds M = true := by
  cases ds with
  | nil =>
    unfold dcL at h
    split at h
    · assumption
    · exact h.elim
  | cons d ds =>
    unfold dcL at h
    split at h
    · assumption
    · exact h.elim
section
variable {X : Cx} {W : WX}
theorem dc_read {t : Tgt} {it : EvI} {fk fv : EvF} {own : List Nat} {σ : L2.St} {H : Hp} {Q : VK} (ht : ∀ i ∈ t.slots, i ∈ own) (h : tE (tpOf X) W (eDc it t fk fv own) σ H Q) :
    tDcN (tpOf X) (tI (tpOf X) W it) (t.read X.K) (tT (tpOf X) W0 bYes) (tE (tpOf X) W0 fk) (tE (tpOf X) W0 fv) own σ H Q := by
  obtain ⟨u, ρ, M, g0, q⟩ := tR_bind (Rp := ItOk (tpOf X)) (k := fun ρ src M => (noEx (dcL src t fk fv M.length (wipeE ρ own) src.items (M ++ [.dct []]))).bind fun _ M' => .ok (Cell.obj M.length) M') h
  refine ⟨u, ρ, M, g0, Post.mono q fun J H1 ⟨u1, ρ1, M1, src, g1, ok, q1⟩ => ?_⟩
  have q1 := noEx_post q1
  intro D hD hsys
  obtain ⟨G, Y, w, hG, hY⟩ := ok
  obtain ⟨e0, s0⟩ := g1.sto.alloc (p := D) (o := ND (tpOf X) D []) (m := .dct []) hD ⟨hsys, List.nodup_nil, Nat.zero_le _, [], upd_same, .nil⟩
  have ha0 : (u1.α ++ [D])[M1.length]? = some D := by rw [← g1.sto.len]; exact List.getElem?_concat_length
  have gw0 := (g1.wipe own).ext e0 s0
  refine ⟨fun i m H => m = src.items.length - i ∧ i ≤ src.items.length ∧ ∃ u M, Ext u1 u ∧ u.α[M1.length]? = some D ∧ Goo (tpOf X) u (wipeE ρ1 own) M (L2.wipe σ own) H ∧
    Post (tpOf X) W0 u σ (RepC (tpOf X)) ((dcL src t fk fv M1.length (wipeE ρ1 own) (src.items.drop i) M).bind fun _ M' => .ok (Cell.obj M1.length) M') Q,
    ⟨_, rfl, Nat.zero_le _, _, _, e0, ha0, gw0, Post.ext e0 q1⟩, ?_⟩
  rintro i m H ⟨rfl, hi, u, M, e, ha, g, q⟩
  have hh := dcL_holds q
  have hGo := hG u M H e.zero g.sto hh
  rcases Nat.lt_or_ge i src.items.length with hlt | hge
  · refine .inr ⟨w.goes i H hlt hGo, fun H' => ∃ u M, Ext u1 u ∧ u.α[M1.length]? = some D ∧ Goo (tpOf X) u (wipeE ρ1 own) M (L2.wipe σ own) H' ∧
      Post (tpOf X) W0 u σ (RepC (tpOf X)) ((dcL src t fk fv M1.length (wipeE ρ1 own) (src.items.drop (i + 1)) M).bind fun _ M' => .ok (Cell.obj M1.length) M') Q, fun H' hn => ⟨src.items.length - (i + 1), by omega, rfl, hlt, hn⟩, fun x H' hy => ?_⟩
    have hd : src.items[i]? = some src.items[i] := List.getElem?_eq_getElem hlt
    obtain ⟨u2, e2, s2, rx⟩ := hY i H x H' u M _ e.zero g.sto hh hd (w.yields i H x H' hlt hGo hy)
    rw [List.drop_eq_getElem_cons hlt] at q
    unfold dcL at q
    rw [if_pos hh] at q
    have g2 := g.ext e2 s2
    have go : ∀ σ2 ρ2, t.bind src.items[i] (wipeE ρ1 own) = some ρ2 → L2.wipe σ2 own = L2.wipe σ own → Goo (tpOf X) u2 ρ2 M σ2 H' →
        L2.wipe σ2 own = L2.wipe σ own ∧ tT (tpOf X) W0 bYes σ2 H' fun b H3 => if b = true then tE (tpOf X) W0 fk σ2 H3 fun y H4 => tE (tpOf X) W0 fv σ2 H4 fun z H5 => ∃ u M l kvs dk dv, Sto (tpOf X) u M H5 ∧ u.α[l]? = some D ∧ M[l]? = some (.dct kvs) ∧ RD X.K u.F y dk ∧ RD X.K u.F z dv ∧ kOk dk = true ∧ kvs.length < LIM ∧
          ∀ H6, Sto (tpOf X) u (M.set l (.dct (dPut kvs dk dv))) H6 → (∃ u M, Ext u1 u ∧ u.α[M1.length]? = some D ∧ Goo (tpOf X) u (wipeE ρ1 own) M (L2.wipe σ own) H6 ∧
            Post (tpOf X) W0 u σ (RepC (tpOf X)) ((dcL src t fk fv M1.length (wipeE ρ1 own) (src.items.drop (i + 1)) M).bind fun _ M' => .ok (Cell.obj M1.length) M') Q) else
          (∃ u M, Ext u1 u ∧ u.α[M1.length]? = some D ∧ Goo (tpOf X) u (wipeE ρ1 own) M (L2.wipe σ own) H3 ∧
            Post (tpOf X) W0 u σ (RepC (tpOf X)) ((dcL src t fk fv M1.length (wipeE ρ1 own) (src.items.drop (i + 1)) M).bind fun _ M' => .ok (Cell.obj M1.length) M') Q) := by
      intro σ2 ρ2 eb ew gg
      rw [eb] at q
      refine ⟨ew, u2, ρ2, M, gg, ?_⟩
      intro b H3 u3 e3 s3 rb
      obtain rfl : b = true := rb
      rw [if_pos rfl]
      refine ⟨u3, ρ2, M, gg.ext e3 s3, ?_⟩
      have q : Post (tpOf X) W0 u σ (RepC (tpOf X)) (((fk ρ2 M).bind fun k M => (fv ρ2 M).bind fun v M => match putD M1.length k v M with
          | some M' => dcL src t fk fv M1.length (wipeE ρ1 own) (src.items.drop (i + 1)) M'
          | none => .no).bind fun _ M' => .ok (Cell.obj M1.length) M') Q := q
      rw [bind_assoc] at q
      revert q
      cases fk ρ2 M with
      | no => exact fun q => q
      | ex x M' => exact fun q cls dd H9 u9 e9 s9 r9 => q cls dd H9 u9 ((e2.trans e3).trans e9) s9 r9
      | ok k M3 =>
        intro q y H4 u4 e4 s4 ry
        refine ⟨u4, ρ2, M3, (gg.ext e3 s3).ext e4 s4, ?_⟩
        have q : Post (tpOf X) W0 u σ (RepC (tpOf X)) (((fv ρ2 M3).bind fun v M => match putD M1.length k v M with
          | some M' => dcL src t fk fv M1.length (wipeE ρ1 own) (src.items.drop (i + 1)) M'
          | none => .no).bind fun _ M' => .ok (Cell.obj M1.length) M') Q := q
        rw [bind_assoc] at q
        revert q
        cases fv ρ2 M3 with
        | no => exact fun q => q
        | ex x M' => exact fun q cls dd H9 u9 e9 s9 r9 => q cls dd H9 u9 (((e2.trans e3).trans e4).trans e9) s9 r9
        | ok v M4 =>
          intro q z H5 u5 e5 s5 rz
          have q : Post (tpOf X) W0 u σ (RepC (tpOf X)) ((match putD M1.length k v M4 with
            | some M' => dcL src t fk fv M1.length (wipeE ρ1 own) (src.items.drop (i + 1)) M'
            | none => .no).bind fun _ M' => .ok (Cell.obj M1.length) M') Q := q
          have eall := ((e2.trans e3).trans e4).trans e5
          cases hp : putD M1.length k v M4 with
          | none => rw [hp] at q; exact q.elim
          | some M' =>
            rw [hp] at q
            obtain ⟨kvs, dk, dv, em, rfl, rfl, hk, hz, rfl⟩ := putD_inv hp
            refine ⟨u5, M4, M1.length, kvs, dk, dv, s5, eall.at ha, em, RD.mono e5.1 _ _ ry, rz, hk, hz, fun H6 s6 => ?_⟩
            exact ⟨u5, _, e.trans eall, eall.at ha, (g.ext eall s6), Post.ext eall q⟩
    cases t with
    | one j =>
      refine go _ _ rfl ?_ (g2.set (c := .dat _) rx)
      rw [wipe_set _ _ _ _ (ht j (by simp [Tgt.slots])), wipe_idem]
    | tup is =>
      unfold Tgt.bind at q
      cases ed : src.items[i] with
      | tuple ds =>
        rw [ed] at q rx
        simp only at q
        by_cases hl : ds.length = is.length
        · cases rx with
          | @tup a vs _ h1 h2 =>
            refine ⟨a, vs, rfl, same_sqt s2.sub h1, by rw [h2.length]; exact hl, gNames_read (by rw [h2.length]; exact hl) ?_⟩
            refine go _ _ ?_ ?_ (g2.setMany h2)
            · show (match src.items[i] with | .tuple ds => if ds.length = is.length then some (setMany (wipeE ρ1 own) is (ds.map Cell.dat)) else none | _ => none) = _
              rw [ed]
              simp only [hl, if_true]
            · exact (wipe_setMany is vs _ fun j hj => ht j hj).trans (wipe_idem σ own)
        · simp only [hl, if_false] at q
          exact q.elim
      | none => rw [ed] at q; exact q.elim
      | bool _ => rw [ed] at q; exact q.elim
      | int _ => rw [ed] at q; exact q.elim
      | str _ => rw [ed] at q; exact q.elim
      | list _ => rw [ed] at q; exact q.elim
      | dict _ => rw [ed] at q; exact q.elim
  · have hi' : i = src.items.length := by omega
    subst hi'
    rw [List.drop_length] at q
    unfold dcL at q
    rw [if_pos hh] at q
    exact .inl ⟨w.stops H hGo, q (.ref D) H u (Ext.refl u) g.sto ⟨D, ha, rfl⟩⟩
theorem qe_dc {kx vx tg iter : Expr} {scope : Scope} {own : List (Str × Nat)} {pos : Pos} {it : EvI} {t : Tgt} {fk fv : EvF} (hu : X.A.units + 100 < cLine) (hc : X.calm = true) (hN : X.N.Nodup) (hi : PI X tg iter (tI (tpOf X) W it)) (ok : BlkOk X.N X.env.scope scope own) (ht : ∀ i ∈ t.slots, i ∈ own.map (·.2))
    (hg : ∀ (s : Shared) (H : Hp) (C : Addr) (cl : List (Str × Addr)) (fp : List Addr), PG (X.blk s H scope (compEnvC scope cl C X.env) fp) tg (t.read X.K))
    (hk : ∀ (s : Shared) (H : Hp) (C : Addr) (cl : List (Str × Addr)) (fp : List Addr), PE (X.blk s H scope (compEnvC scope cl C X.env) fp) kx (tE (tpOf X) W0 fk))
    (he : ∀ (s : Shared) (H : Hp) (C : Addr) (cl : List (Str × Addr)) (fp : List Addr), PE (X.blk s H scope (compEnvC scope cl C X.env) fp) vx (tE (tpOf X) W0 fv)) (hs : ∀ x, foldedSetIterable iter X.env x = pure x := by intro _; rfl) :
    PE X (.DictComp kx vx [⟨tg, iter, [], 0⟩] scope pos) (tE (tpOf X) W (eDc it t fk fv (own.map (·.2)))) :=
  PE.weak (pe_dcN hu hc hN hi ok hg (fun _ _ _ _ _ => qts_nil) hk he hs) fun σ H Q h => dc_read ht h

/-! ### a < b < c -/
variable {a b c : Expr} {f g h : EvF} {k k' : V2} {pos : Pos}
theorem chain_read {σ : L2.St} {H : Hp} {Q : VK} (h0 : tE (tpOf X) W (eChain k k' f g h) σ H Q) : tChain (rV2 (tpOf X) k) (rV2 (tpOf X) k') (tE (tpOf X) W f) (tE (tpOf X) W g) (tE (tpOf X) W h) σ H Q := by
  obtain ⟨u, ρ, M, g0, q⟩ := tR_bind (Rp := RepC (tpOf X)) (k := fun ρ x M => (g ρ M).bind fun y M => (toB (Res.of (k x y M))).bind fun b M => if b then (h ρ M).bind fun z M => eChain.toE (toB (Res.of (k' y z M))) else .ok (.dat (.bool false)) M) h0
  refine ⟨u, ρ, M, g0, Post.mono q fun v H1 ⟨u1, ρ1, M1, x, g1, r1, q1⟩ => ?_⟩
  refine ⟨u1, ρ1, M1, g1, ?_⟩
  have q1 : Post (tpOf X) W u1 σ (RepC (tpOf X)) ((g ρ1 M1).bind fun y M => (toB (Res.of (k x y M))).bind fun b M => if b then (h ρ1 M).bind fun z M => eChain.toE (toB (Res.of (k' y z M))) else .ok (.dat (.bool false)) M) Q := q1
  revert q1
  cases g ρ1 M1 with
  | no => exact fun q => q
  | ex x M' => exact fun q => q
  | ok y M2 =>
    intro q1 yv H2 u2 e2 s2 r2
    have q1 : Post (tpOf X) W u1 σ (RepC (tpOf X)) ((toB (Res.of (k x y M2))).bind fun b M => if b then (h ρ1 M).bind fun z M => eChain.toE (toB (Res.of (k' y z M))) else .ok (.dat (.bool false)) M) Q := q1
    refine ⟨u2, M2, x, y, s2, r1.mono e2, r2, ?_⟩
    revert q1
    cases ek : k x y M2 with
    | none => exact fun q => q
    | some p =>
      obtain ⟨z, M3⟩ := p
      intro q1 zv H3 u3 e3 s3 r3
      have q1 : Post (tpOf X) W u1 σ (RepC (tpOf X)) ((match asB z with | some b => Res.ok b M3 | none => .no).bind fun b M => if b then (h ρ1 M).bind fun z M => eChain.toE (toB (Res.of (k' y z M))) else .ok (.dat (.bool false)) M) Q := q1
      have g3 := (g1.ext e2 s2).ext e3 s3
      cases eb : asB z with
      | none => rw [eb] at q1; exact q1.elim
      | some bb =>
        rw [eb] at q1
        have hz : z = .dat (.bool bb) := by
          unfold asB at eb
          split at eb
          · cases eb; rfl
          · cases eb
        subst hz
        refine ⟨bb, rep_bl r3, ?_⟩
        cases bb with
        | false =>
          rw [if_neg Bool.false_ne_true]
          exact q1 (.bl false) H3 u3 (e2.trans e3) s3 (RD.bl false)
        | true =>
          rw [if_pos rfl]
          refine ⟨u3, ρ1, M3, g3, ?_⟩
          have q1 : Post (tpOf X) W u1 σ (RepC (tpOf X)) ((h ρ1 M3).bind fun z M => eChain.toE (toB (Res.of (k' y z M)))) Q := q1
          revert q1
          cases h ρ1 M3 with
          | no => exact fun q => q
          | ex x M' => exact fun q cls dd H' u' e s r => q cls dd H' u' ((e2.trans e3).trans e) s r
          | ok w M4 =>
            intro q1 wv H4 u4 e4 s4 r4
            refine ⟨u4, M4, y, w, s4, r2.mono (e3.trans e4), r4, ?_⟩
            have q1 : Post (tpOf X) W u1 σ (RepC (tpOf X)) (eChain.toE (toB (Res.of (k' y w M4)))) Q := q1
            revert q1
            cases ek2 : k' y w M4 with
            | none => exact fun q => q
            | some p2 =>
              obtain ⟨z2, M5⟩ := p2
              intro q1 z2v H5 u5 e5 s5 r5
              have q1 : Post (tpOf X) W u1 σ (RepC (tpOf X)) (eChain.toE (match asB z2 with | some b => Res.ok b M5 | none => .no)) Q := q1
              cases eb2 : asB z2 with
              | none => rw [eb2] at q1; exact q1.elim
              | some b2 =>
                rw [eb2] at q1
                have hz2 : z2 = .dat (.bool b2) := by
                  unfold asB at eb2
                  split at eb2
                  · cases eb2; rfl
                  · cases eb2
                subst hz2
                exact q1 z2v H5 u5 (((e2.trans e3).trans e4).trans e5) s5 r5
theorem q_chain {op op' : CmpOp} (ho : OpR X (compareOp op) (rV2 (tpOf X) k)) (ho' : OpR X (compareOp op') (rV2 (tpOf X) k')) (ha : PE X a (tE (tpOf X) W f)) (hb : PE X b (tE (tpOf X) W g)) (hc : PE X c (tE (tpOf X) W h))
    (hm : lastMarks [op, op'] [b, c] = false := by with_unfolding_all rfl) : PE X (.Compare a [op, op'] [b, c] pos) (tE (tpOf X) W (eChain k k' f g h)) := PE.weak (pe_chain ho ho' ha hb hc hm) fun _ _ _ h => chain_read h
theorem qt_chain {op op' : CmpOp} (ho : OpR X (compareOp op) (rV2 (tpOf X) k)) (ho' : OpR X (compareOp op') (rV2 (tpOf X) k')) (ha : PE X a (tE (tpOf X) W f)) (hb : PE X b (tE (tpOf X) W g)) (hc : PE X c (tE (tpOf X) W h))
    (hm : lastMarks [op, op'] [b, c] = false := by with_unfolding_all rfl) : PT X (.Compare a [op, op'] [b, c] pos) (tT (tpOf X) W (eB (eChain k k' f g h))) := PT.weak (pt_chain ho ho' ha hb hc hm) fun _ _ _ h => chain_read (toB_read h)

/-! ### a text walked -/
def sgnD (x : Str) : List PyData := x.cps.toList.map fun c => .str ⟨#[c]⟩
def iStrQ (f : EvF) : EvI := fun ρ M => (f ρ M).bind fun c M => match c with | .dat (.str x) => .ok (Src.mk (sgnD x) []) M | _ => .no
theorem qi_str {tg e : Expr} (he : PE X e (tE (tpOf X) W f)) : PI X tg e (tI (tpOf X) W (iStrQ f)) := by
  refine PI.weak (pi_str he) fun σ H R h0 => ?_
  obtain ⟨u, ρ, M, g0, q⟩ := tR_bind (Rp := RepC (tpOf X)) (k := fun ρ c M => match c with | .dat (.str x) => .ok (Src.mk (sgnD x) []) M | _ => .no) h0
  refine ⟨u, ρ, M, g0, Post.mono q fun v H1 ⟨u1, ρ1, M1, c, g1, r1, q1⟩ => ?_⟩
  split at q1
  · rename_i x
    obtain rfl := rep_str r1
    have hl : (sgnD x).length = x.cps.size := by unfold sgnD; rw [List.length_map, Array.length_toList]
    have w : Walk (Its x) (Src.mk (sgnD x) []).items.length (fun _ => True) (fun i H v H' => H' = H ∧ ∃ c, x.cps[i]? = some c ∧ v = .str ⟨#[c]⟩) := by
      show Walk (Its x) (sgnD x).length _ _
      rw [hl]; exact walk_str
    refine ⟨x, rfl, q1 _ H1 u1 (Ext.refl u1) g1.sto ⟨_, _, w, fun _ _ _ _ _ _ => trivial, fun i H' y H'' u' M' d e' s' _ hd ⟨eH, c, hc, hy⟩ => ?_⟩⟩
    subst eH hy
    have hd : (sgnD x)[i]? = some d := hd
    unfold sgnD at hd
    rw [List.getElem?_map, Array.getElem?_toList, hc] at hd
    cases hd
    exact ⟨u', Ext.refl u', s', .str _⟩
  · exact q1.elim
end
end QL

set_option Elab.async false
set_option linter.all false
set_option maxRecDepth 100000
set_option maxHeartbeats 4000000
namespace QL
open PySem PySem.Spec PyProof.Rows L2
section
variable {X : Cx} {W : WX}
theorem sw_trueD {kx vx : Expr} {gs : List Comprehension} {scope : Scope} {pos py : Pos} {y : Str} {l : Nat} {env : Env} (hk : env.scope.kind = .function) (hy : env.scope.names.lookup y = some .local) (hl : (py.line == pos.line) = true)
    (ha : (scope.names.any fun (n, k) => n == y && (k == .local || k == .cell)) = false) : swapsWith (.DictComp kx vx gs scope pos) (some (.Name y py)) l env = pure true := by
  have ky : env.kindOf y = some .local := hy
  have hb : env.blockKind = .function := by unfold Env.blockKind; rw [hk]; rfl
  unfold swapsWith
  simp only [hb, ky, ha, Expr.pos, hl]
  rfl
theorem ps_setDcN {i : Nat} {y : Str} {py : Pos} {kx vx tg iter : Expr} {ifs : List Expr} {scope : Scope} {own : List (Str × Nat)} {pos spos : Pos} {wi : TI} {g : TG} {tt : TT} {tk tv : TE} (hu : X.A.units + 100 < cLine) (hc : X.calm = true) (hN : X.N.Nodup) (hy : X.N[i]? = some y) (hyl : X.env.scope.names.lookup y = some .local)
    (hsw : swapsWith (.DictComp kx vx [⟨tg, iter, ifs, 0⟩] scope pos) (some (.Name y py)) spos.line X.env = pure true) (hi : PI X tg iter wi) (ok : BlkOk X.N X.env.scope scope own)
    (hg : ∀ (s : Shared) (H : Hp) (C : Addr) (cl : List (Str × Addr)) (fp : List Addr), PG (X.blk s H scope (compEnvC scope cl C X.env) fp) tg g) (ht : ∀ (s : Shared) (H : Hp) (C : Addr) (cl : List (Str × Addr)) (fp : List Addr), PTs (X.blk s H scope (compEnvC scope cl C X.env) fp) ifs tt)
    (hk : ∀ (s : Shared) (H : Hp) (C : Addr) (cl : List (Str × Addr)) (fp : List Addr), PE (X.blk s H scope (compEnvC scope cl C X.env) fp) kx tk)
    (he : ∀ (s : Shared) (H : Hp) (C : Addr) (cl : List (Str × Addr)) (fp : List Addr), PE (X.blk s H scope (compEnvC scope cl C X.env) fp) vx tv) (hs : ∀ x, foldedSetIterable iter X.env x = pure x := by intro _; rfl) :
    PS X (.Assign [.Name y py] (.DictComp kx vx [⟨tg, iter, ifs, 0⟩] scope pos) spos) (tAsg (tDcN (tpOf X) wi g tt tk tv (own.map (·.2))) (gName i)) := by
  refine ⟨fun pins s σ H D I h => ?_⟩
  rw [exec_Assign_Name_used _ _ _ _ hsw]
  refine wpAny_bind (wpAny_standAt (wpAny_bind ?_))
  show wpAny _ X.A (do let _ ← comprehension (.DictComp kx vx [⟨tg, iter, ifs, 0⟩] scope pos) scope X.env (firstIterPos [⟨tg, iter, ifs, 0⟩] pos) newDict false (eval iter X.env) (some (assign (.Name y py) X.env))) _ _ s
  have h : tDcN (tpOf X) wi g tt tk tv (own.map (·.2)) σ H (fun x H1 => gName i x σ H1 D.nx) := h
  refine wpAny_bind (thn (dcN_core (Qf := fun _ s' => SP X pins D .next s') hu hc hN I hi ok hg ht hk he hs h fun L C s' m H' I' q hn f => ?_) fun _ s' hq => wpAny_pure (wpAny_pure hq))
  show wpAny _ _ (assign (.Name y py) X.env (.ref L)) _ _ _
  refine wpAny_assign_Name (store_ok2 (v := V.ref L) I' hN hy (.inl hyl) rfl (fun s2 I2 ⟨a, sb, ha⟩ => ?_) (.inr hyl))
  obtain ⟨f0, f1, f2, f3, f4, f5⟩ := f
  have haC : C ≠ a := by
    rcases ha with z | z
    · rw [z]; exact f1
    · exact fun e => f4 y a z e.symm
  refine ⟨m, hn.sameBut sb haC, fun h3 sb3 => ?_⟩
  exact ⟨_, H', I2.turned (t' := s2.toks) (fun b o hb e => (sb3.2 b hb).trans e) f0 f1 f3 f4 f5, q⟩
/-- name = {k: v for ..} -/
theorem qs_setDc (i : Nat) {y : Str} {py : Pos} {kx vx tg iter : Expr} {scope : Scope} {own : List (Str × Nat)} {pos spos : Pos} {it : EvI} {t : Tgt} {fk fv : EvF} (hu : X.A.units + 100 < cLine) (hc : X.calm = true) (hN : X.N.Nodup) (hi : PI X tg iter (tI (tpOf X) W it)) (ok : BlkOk X.N X.env.scope scope own) (ht : ∀ i ∈ t.slots, i ∈ own.map (·.2))
    (hg : ∀ (s : Shared) (H : Hp) (C : Addr) (cl : List (Str × Addr)) (fp : List Addr), PG (X.blk s H scope (compEnvC scope cl C X.env) fp) tg (t.read X.K))
    (hk : ∀ (s : Shared) (H : Hp) (C : Addr) (cl : List (Str × Addr)) (fp : List Addr), PE (X.blk s H scope (compEnvC scope cl C X.env) fp) kx (tE (tpOf X) W0 fk))
    (he : ∀ (s : Shared) (H : Hp) (C : Addr) (cl : List (Str × Addr)) (fp : List Addr), PE (X.blk s H scope (compEnvC scope cl C X.env) fp) vx (tE (tpOf X) W0 fv)) (hy : X.N[i]? = some y := by rfl) (hyl : X.env.scope.names.lookup y = some .local := by rfl)
    (hsw : swapsWith (.DictComp kx vx [⟨tg, iter, [], 0⟩] scope pos) (some (.Name y py)) spos.line X.env = pure true := by exact sw_trueD rfl rfl rfl (by decide +kernel)) (hs : ∀ x, foldedSetIterable iter X.env x = pure x := by intro _; rfl) :
    PS X (.Assign [.Name y py] (.DictComp kx vx [⟨tg, iter, [], 0⟩] scope pos) spos) (tS (tpOf X) W (sSet i (eDc it t fk fv (own.map (·.2))))) := by
  refine PS.weak (ps_setDcN (tt := tT (tpOf X) W0 bYes) hu hc hN hy hyl hsw hi ok hg (fun _ _ _ _ _ => qts_nil) hk he hs) fun D σ H h => ?_
  obtain ⟨u, ρ, M, g0, q⟩ := tS_bind (Rp := RepC (tpOf X)) (k := fun ρ c M => gN i c ρ M) h
  exact dc_read ht ⟨u, ρ, M, g0, Post.mono q fun v H1 ⟨u1, ρ1, M1, c, g1, r1, q1⟩ => q1 _ H1 u1 (Ext.refl u1) (g1.set r1)⟩
/-- several names for a list's items -/
def gL (gs : List EvG) : EvG := fun c ρ M => match asL c M with
  | some ds => if ds.length = gs.length then gNs gs ds ρ M else .no
  | none => .no
theorem qg_lst {es : List Expr} {k : Nat} {pos : Pos} {gs : List EvG} (hc : X.calm = true) (h : PGs X es (tGs (tpOf X) (fun _ _ _ _ => False) gs))
    (hn : (assignEach es X.env).length = gs.length := by rfl) (hst : (assignEach es X.env).findIdx? (·.1) = none := by rfl) : PG X (.Tuple es k pos) (tG (tpOf X) (fun _ _ _ _ => False) (gL gs)) :=
  PG.weak (pg_lst hc h hn hst) fun v σ H Q ⟨u, ρ, M, c, g0, r, q⟩ => by
    unfold gL at q
    cases e : asL c M with
    | none => simp only [e] at q; exact q.elim
    | some ds =>
      simp only [e] at q
      split at q
      · rename_i hl
        obtain ⟨a, vs, rfl, h1, h2, h3⟩ := asL_rep g0.sto r e
        exact ⟨a, vs, rfl, h1.sql, by rw [h2.length]; exact hl, u, ρ, M, ds, g0, h2, q⟩
      · exact q.elim
theorem gL_nx (is : List Nat) : ∀ c ρ M, ∃ ρ' M', gL (is.map gN) c ρ M = .nx ρ' M' ∨ gL (is.map gN) c ρ M = .no := fun c ρ M => by
  unfold gL
  split
  · split
    · exact gNs_nx _ _ _ _
    · exact ⟨ρ, M, .inr rfl⟩
  · exact ⟨ρ, M, .inr rfl⟩

/-! ### what is never reached -/
def sNo : EvS := fun _ _ => .no
def eNo : EvF := fun _ _ => .no
theorem qs_no {st : Stmt} : PS X st (tS (tpOf X) W sNo) := ⟨fun _ _ _ _ _ _ ⟨_, _, _, _, q⟩ => q.elim⟩
theorem q_no {e : Expr} : PE X e (tE (tpOf X) W eNo) := ⟨fun _ _ _ _ _ _ ⟨_, _, _, _, q⟩ => q.elim⟩
theorem qss_no {st : List Stmt} : PSs X st (tS (tpOf X) W sNo) := ⟨fun _ _ _ _ _ _ ⟨_, _, _, _, q⟩ => q.elim⟩
end

/-! ### defs by name -/
/-- what the top has written for a def -/
def Raw (K : PySem.W.Frag) (mg : Str → Option Value) (x qual : Str) (st : Stmt) : Prop := ∃ f fd, mg x = some (.ref f) ∧ PySem.W.keepIn K (.ref f) = true ∧ Fun K x qual st f fd
/-- a def that does what its mirror does -/
def Df (tp : Tp) (base : Heap) (x : Str) (ps : List Str) (k : Nat) (F : FnF) : Prop := (∀ cs M, cs.length ≠ ps.length → F cs M = .no) ∧
  ∃ f fd, tp.mg x = some (.ref f) ∧ PySem.W.keepIn tp.K (.ref f) = true ∧ Binds tp.K fd ps [] ∧ FnOk tp.P tp.w tp.K tp.mg base (L2N.CX tp.P tp.w) k f fd ps (spF tp ps.length F)
theorem q_fn {X : Cx} {W : WX} {e : Expr} {es : List Expr} {x : Str} {p pos : Pos} {g : EvA} {k : Nat} {ps : List Str} {F : FnF} (D : Df (tpOf X) X.base x ps k F) (hr : Room k X.A) (tk : L2N.Takes X W) (ha : PA X (e :: es) (tAs (tpOf X) W g)) (hg : Gl X x := by rfl) (hdb : (x == ("__debug__" : Str)) = false := by decide)
    (he : starEach (e :: es) X.env = (false, eval e X.env) :: starEach es X.env := by rfl) (hpl : (backTo pos (starEach es X.env)).any (·.1) = false := by rfl) : PE X (.Call (.Name x p) (e :: es) [] pos) (tE (tpOf X) W (eCall F g)) := by
  obtain ⟨hF, f, fd, h1, h2, h3, h4⟩ := D
  exact q_call h4 hr tk h1 h2 h3 hF ha hg hdb he hpl
theorem df_mk {P : Program} {w : World} {K : PySem.W.Frag} {mg : Str → Option Value} {base : Heap} {x qual : Str} {st : Stmt} {N ps : List Str} {k : Nat} {m : EvS} (R : Raw K mg x qual st) (S : FnScope N ps (defScope st)) (hb : ∀ {f : Addr} {fd : FuncData}, Fun K x qual st f fd → Binds K fd ps [])
    (hbody : ∀ (f : Addr) (cdv : Value) (A : Around) (outer : List Env) (s : Shared) (H : Hp) (E : XK), Room k (A.deeper (envOfC qual (defScope st) s.heap.objs.size f cdv)) →
      PSs (cxOf (L2N.CX P w) P w K mg base N qual (defScope st) f cdv A outer s H E) (defBody st) (tS ⟨P, w, K, mg⟩ (fun c d _ H => E c d H) m)) : Df ⟨P, w, K, mg⟩ base x ps (k + 1) (fnRes N.length ps.length m) := by
  obtain ⟨f, fd, h1, h2, h3⟩ := R
  exact ⟨fn_len, f, fd, h1, h2, hb h3, okQ h3 S fun cdv A outer s H E hr => hbody f cdv A outer s H E hr⟩
theorem room_u {k : Nat} {A : Around} (r : Room k A) : A.units + 100 < cLine := by have := r.un; omega
/-- the names of built-ins that stand as they are -/
structure Bn (mg : Str → Option Value) : Prop where
  len : mg "len" = none
  all : mg "all" = none
  any : mg "any" = none
  sorted : mg "sorted" = none
  set : mg "set" = none
  tuple : mg "tuple" = none
  list : mg "list" = none
  int : mg "int" = none
  str : mg "str" = none
  bool : mg "bool" = none
  isinstance : mg "isinstance" = none
  range : mg "range" = none
  enumerate : mg "enumerate" = none
  zip : mg "zip" = none
end QL

set_option Elab.async false
set_option linter.all false
set_option maxRecDepth 100000
set_option maxHeartbeats 4000000
namespace QL
open PySem PySem.Spec PyProof.Rows L2
/-! ### rules for any kind of thing -/
def vInA (neg : Bool) : V2 := or2 (or2 (vIn neg) (vInM neg)) (vInT neg)
def vIxA : V2 := or2 (or2 vIx vIxM) vIxD
def vPutA : V3 := or3 (or3 vPutL vPutM) vPutT
def vSortA : VN := orN (orN (v1N vSort) (v1N vSortM)) (v1N vSort1)
def vNeg : V1 := fun c M => match c with | .dat (.int i) => some (.dat (.int (-i)), M) | _ => none
def anySrc (c : Cell) (M : Mem) : Option Src := match seqSrc c M with
  | some s => some s
  | none => match c with
    | .fdc kvs => some (Src.mk (kvs.map (·.1)) [])
    | .dat (.str x) => some (Src.mk (sgnD x) [])
    | _ => none
def iAny (f : EvF) : EvI := fun ρ M => (f ρ M).bind fun c M => match anySrc c M with
  | some s => .ok s M
  | none => .no
section
variable {X : Cx} {W : WX} {pos : Pos}
theorem oA_in (hu : X.A.units + 100 < cLine) : OpR X (compareOp .In) (rV2 (tpOf X) (vInA false)) := OpR.or2 (OpR.or2 (o_in hu) (o_inM hu)) o_inT
theorem oA_notIn (hu : X.A.units + 100 < cLine) : OpR X (compareOp .NotIn) (rV2 (tpOf X) (vInA true)) := OpR.or2 (OpR.or2 (o_notIn hu) (o_notInM hu)) o_notInT
theorem iA (hu : X.A.units + 100 < cLine) : IxR X (rV2 (tpOf X) vIxA) := IxR.or2 (IxR.or2 i_seq (i_map hu)) i_tmap
theorem setA (hu : X.A.units + 100 < cLine) : PSet X (rPut (tpOf X) vPutA) := PSet.or3 (PSet.or3 set_lst (set_map hu)) set_tmap
theorem cA_sort (hc : X.calm = true) (hu : X.A.units + 100 < cLine) : CallR X (.builtin "sorted") (rVN (tpOf X) vSortA) := CallR.orN (CallR.orN (c_sort hu) (c_sortM hc hu)) (c_sort1 hu)
theorem q_neg {e : Expr} {f : EvF} (h : PE X e (tE (tpOf X) W f)) : PE X (.UnaryOp .USub e pos) (tE (tpOf X) W (e1 vNeg f)) := by
  refine PE.weak (pe_un un_neg h) fun σ H Q h0 => ?_
  obtain ⟨u, ρ, M, g0, q⟩ := tR_bind (Rp := RepC (tpOf X)) (k := fun ρ c M => Res.of (vNeg c M)) h0
  refine ⟨u, ρ, M, g0, Post.mono q fun v H1 ⟨u1, ρ1, M1, c, g1, r1, q1⟩ => ?_⟩
  have q1 : Post (tpOf X) W u1 σ (RepC (tpOf X)) (Res.of (vNeg c M1)) Q := q1
  obtain ⟨c2, M2, e2, q1⟩ := post_of q1
  have inv : ∃ i, c = .dat (.int i) ∧ c2 = .dat (.int (-i)) ∧ M2 = M1 := by
    unfold vNeg at e2
    split at e2
    · cases e2; exact ⟨_, rfl, rfl, rfl⟩
    · cases e2
  obtain ⟨i, rfl, rfl, rfl⟩ := inv
  obtain rfl := rep_int r1
  exact ⟨i, rfl, q1 (.int (-i)) H1 u1 (Ext.refl u1) g1.sto (RD.int _)⟩
theorem q_gi {x : Str} {i : Int} (hm : ∃ t, X.mg x = some (.int i t)) (hg : Gl X x := by rfl) (hd : (x == ("__debug__" : Str)) = false := by decide) : PE X (.Name x pos) (tE (tpOf X) W (eD (.int i))) := by
  obtain ⟨t, h⟩ := hm
  exact q_gint h hg hd
theorem q_gs {x z : Str} (hm : ∃ t, X.mg x = some (.str z t)) (hg : Gl X x := by rfl) (hd : (x == ("__debug__" : Str)) = false := by decide) : PE X (.Name x pos) (tE (tpOf X) W (eD (.str z))) := by
  obtain ⟨t, h⟩ := hm
  exact q_gstr h hg hd
theorem PI.or {tg e : Expr} {t t' : TI} (h : PI X tg e t) (h' : PI X tg e t') : PI X tg e (fun σ H Q => t σ H Q ∨ t' σ H Q) := ⟨fun pins s σ H R I q => q.elim (h.run pins s σ H R I) (h'.run pins s σ H R I)⟩
theorem qi_any {tg e : Expr} {f : EvF} (he : PE X e (tE (tpOf X) W f)) : PI X tg e (tI (tpOf X) W (iAny f)) := by
  refine PI.weak (PI.or (qi_seq (W := W) he) (PI.or (qi_dct (W := W) he) (qi_str (W := W) he))) fun σ H Q ⟨u, ρ, M, g, q⟩ => ?_
  have q : Post (tpOf X) W u σ (ItOk (tpOf X)) ((f ρ M).bind fun c M => match anySrc c M with | some s => .ok s M | none => .no) Q := q
  have key : ∀ (it : EvI), Post (tpOf X) W u σ (ItOk (tpOf X)) (it ρ M) Q → tI (tpOf X) W it σ H Q := fun it h => ⟨u, ρ, M, g, h⟩
  cases ef : f ρ M with
  | no => rw [ef] at q; exact q.elim
  | ex x M' =>
    rw [ef] at q
    refine .inl (key _ ?_)
    unfold iSeq
    rw [ef]
    exact q
  | ok c M' =>
    rw [ef] at q
    have q : Post (tpOf X) W u σ (ItOk (tpOf X)) (match anySrc c M' with | some s => .ok s M' | none => .no) Q := q
    unfold anySrc at q
    cases es : seqSrc c M' with
    | some s =>
      rw [es] at q
      refine .inl (key _ ?_)
      unfold iSeq
      rw [ef]
      show Post (tpOf X) W u σ (ItOk (tpOf X)) (match seqSrc c M' with | some s => .ok s M' | none => .no) Q
      rw [es]
      exact q
    | none =>
      rw [es] at q
      cases c with
      | obj l => exact q.elim
      | ftd l => exact q.elim
      | fdc kvs =>
        refine .inr (.inl (key _ ?_))
        unfold iDct
        rw [ef]
        exact q
      | dat d =>
        cases d with
        | str x =>
          refine .inr (.inr (key _ ?_))
          unfold iStrQ
          rw [ef]
          exact q
        | none => exact q.elim
        | bool _ => exact q.elim
        | int _ => exact q.elim
        | list _ => exact q.elim
        | tuple _ => exact q.elim
        | dict _ => exact q.elim
theorem tg1 (i : Nat) {x : Str} (hN : X.N.Nodup) (hi : X.N[i]? = some x := by rfl) (hx : Loc X.env.scope x := by first | exact Or.inl rfl | exact Or.inr rfl) (hf : X.fn x = true ∨ X.env.scope.names.lookup x = some .local := by first | exact .inl rfl | exact .inr rfl) : PG X (.Name x pos) (gName i) := pg_name hN hi hx hf
end
end QL

set_option Elab.async false
set_option linter.all false
set_option maxRecDepth 100000
set_option maxHeartbeats 4000000
namespace QL
open PySem PySem.Spec PyProof.Rows L2
/-! targets in targets -/
def NxP (g : EvG) : Prop := ∀ c ρ M, ∃ ρ' M', g c ρ M = .nx ρ' M' ∨ g c ρ M = .no
inductive NxG : List EvG → Prop
  | nil : NxG []
  | cons {g : EvG} {gs : List EvG} : NxP g → NxG gs → NxG (g :: gs)
theorem gNs_nx2 : ∀ {gs : List EvG}, NxG gs → ∀ (ds : List PyData) (ρ : Env') (M : Mem), ∃ ρ' M', gNs gs ds ρ M = .nx ρ' M' ∨ gNs gs ds ρ M = .no
  | [], _, [], ρ, M => ⟨ρ, M, .inl rfl⟩
  | [], _, _ :: _, ρ, M => ⟨ρ, M, .inr rfl⟩
  | _ :: _, _, [], ρ, M => ⟨ρ, M, .inr rfl⟩
  | g :: gs, .cons h t, d :: ds, ρ, M => by
    unfold gNs
    obtain ⟨ρ1, M1, e | e⟩ := h (.dat d) ρ M
    · rw [e]
      exact gNs_nx2 t ds ρ1 M1
    · rw [e]
      exact ⟨ρ, M, .inr rfl⟩
theorem gTs_nx {gs : List EvG} (h : NxG gs) : ∀ c ρ M, ∃ ρ' M', gT gs c ρ M = .nx ρ' M' ∨ gT gs c ρ M = .no := fun c ρ M => by
  unfold gT
  split
  · split
    · exact gNs_nx2 h _ _ _
    · exact ⟨ρ, M, .inr rfl⟩
  · exact ⟨ρ, M, .inr rfl⟩
/-! where a block stands in a def -/
def pDf : Expr := .Constant .none 0 ⟨0, 0, 0, 0⟩
def pStmt (s : Stmt) (j : Nat) : Stmt := (defBody s).getD j (.Pass ⟨0, 0, 0, 0⟩)
def pVal : Stmt → Expr
  | .Assign _ e _ => e
  | .Return (some e) _ => e
  | _ => pDf
def pArg (i : Nat) : Expr → Expr
  | .Call _ as _ _ => as.getD i pDf
  | _ => pDf
def pScope : Expr → Scope
  | .ListComp _ _ sc _ => sc
  | _ => { kind := .function, names := [], isGenerator := false, isCoroutine := false }
theorem lookup_relabel {env : Env} {x : Str} : ∀ {names : List (Str × NameKind)}, (names.lookup x = some .cell ∨ names.lookup x = some .free) →
    ((names.map fun (n, k) => if (k == NameKind.free && env.scope.kind == .function && env.kindOf n == some .cell) then (n, NameKind.cell) else (n, k)).lookup x = some .cell ∨
      (names.map fun (n, k) => if (k == NameKind.free && env.scope.kind == .function && env.kindOf n == some .cell) then (n, NameKind.cell) else (n, k)).lookup x = some .free)
  | [], h => by simp at h
  | (n, k) :: r, h => by
    have ih := @lookup_relabel env x r
    revert ih
    rw [List.map_cons]
    generalize (r.map fun ((n, k) : Str × NameKind) => if (k == NameKind.free && env.scope.kind == ScopeKind.function && env.kindOf n == some NameKind.cell) then (n, NameKind.cell) else (n, k)) = L
    intro ih
    show List.lookup x ((if (k == NameKind.free && env.scope.kind == .function && env.kindOf n == some .cell) = true then (n, NameKind.cell) else (n, k)) :: L) = _ ∨ List.lookup x ((if (k == NameKind.free && env.scope.kind == .function && env.kindOf n == some .cell) = true then (n, NameKind.cell) else (n, k)) :: L) = _
    cases hx : x == n with
    | true =>
      simp only [List.lookup_cons, hx] at h
      by_cases hc : (k == NameKind.free && env.scope.kind == .function && env.kindOf n == some .cell) = true
      · rw [if_pos hc]
        exact .inl (by simp only [List.lookup_cons, hx])
      · rw [if_neg hc]
        simp only [List.lookup_cons, hx]
        exact h
    | false =>
      simp only [List.lookup_cons, hx] at h
      by_cases hc : (k == NameKind.free && env.scope.kind == .function && env.kindOf n == some .cell) = true
      · rw [if_pos hc]
        simp only [List.lookup_cons, hx]
        exact ih h
      · rw [if_neg hc]
        simp only [List.lookup_cons, hx]
        exact ih h
/-- a block in a block -/
theorem blkOk_in {N : List Str} {sc scope : Scope} {own : List (Str × Nat)} {env : Env} (h : blkC N sc scope own = true) : BlkOk N (relabel sc env) scope own := by
  have b := blkOk_by h
  exact ⟨b.kind, b.uniq, b.ix, fun y hy e => lookup_relabel (b.free y hy e), b.own⟩
/-! xs.index(x) -/
def mIndex : VM := fun c cs M => match asD c M, cs with
  | some (.list ds), [.dat d] => if SeqAt.shaped (.list ds) && SeqAt.shaped d then match ds.findIdx? (fun z => PyData.eqv z d) with | some j => some (.dat (.int (j : Nat)), M) | none => none else none
  | _, _ => none
section
variable {X : Cx}
theorem m_index (hu : X.A.units + 100 < cLine) : MtR X "list.index" (rVM (tpOf X) mIndex) := by
  intro pins s σ H x xs v us Q I rx rs ⟨w, M, c, cs, st, r1, r2, q⟩
  unfold mIndex at q
  split at q
  · rename_i ds d ed
    split at q
    · rename_i hs
      rw [Bool.and_eq_true] at hs
      split at q
      · rename_i j ej
        obtain ⟨a, vs, rfl, h1, h2, h3⟩ := asL_rep st r1 (asD_list st r1 ed)
        obtain ⟨y, rfl, ry⟩ := reps1 r2
        obtain ⟨hj, e1, e2⟩ := List.findIdx?_eq_some_iff_getElem.mp ej
        refine mt_indexD (by omega) pins s σ H _ _ v us Q I rx rs ⟨a, y, d, ds, j, ds[j], rfl, rfl, asD_rep st r1 ed, asD_rep st ry rfl, hs.1, hs.2, List.getElem?_eq_getElem hj, e1, fun m z' hm hz => ?_, post_int st q⟩
        obtain ⟨hl, ez⟩ := List.getElem?_eq_some_iff.mp hz
        have := e2 m hm
        rw [ez] at this
        simpa using this
      · exact q.elim
    · exact q.elim
  · exact q.elim
end
end QL

set_option Elab.async false
set_option linter.all false
set_option maxRecDepth 100000
set_option maxHeartbeats 4000000
namespace QL
open PySem PySem.Spec PyProof.Rows L2
/-! len of a dict -/
def vLenM : V1 := fun c M => match asM c M with
  | some kvs => some (.dat (.int kvs.length), M)
  | none => none
/-! sorted(a tuple) -/
theorem collect_tupQ {prog : Program} {w : World} {A : Around} {E : Value → Shared → Prop} {s : Shared} {l : Addr} {vs : List Value} {Q : List Value → Shared → Prop} (hl : s.heap.IsTuple l vs.toArray)
    (h : Q vs { s with heap := (s.heap.push (seqObj "list" #[] 0)).update s.heap.objs.size (Obj.mapSeq (· ++ vs.toArray)) }) (hsz : vs.length ≤ sizeLine) :
    wpAny (model prog w) A (collect (.ref l)) Q E s := by
  obtain ⟨o, ho, hc, n, hd⟩ := id hl
  unfold collect
  refine wpAny_bind (wpAny_runValue (codeAny_builtin entry_proto_collect' ?_))
  show wpAny _ _ (do again (.builtin "list.__iadd__" ⟨[← newList [], .ref l], []⟩)) _ _ s
  refine wpAny_bind (wpAny_newList (wpAny_pure ⟨Code.quiet_builtin _ (by decide +kernel), codeAny_builtin entry_list_iadd' ?_⟩))
  show wpAny _ _ (Builtin.List.listExtendWith (.ref s.heap.objs.size) (.ref l) (.ref s.heap.objs.size)) _ _ { s with heap := s.heap.push (seqObj "list" #[] 0) }
  unfold Builtin.List.listExtendWith
  have ho' : (s.heap.push (seqObj "list" #[] 0)).get? l = some o := Heap.get?_push_of_some _ ho
  refine wpAny_bind (wpAny_typeOf (T := "tuple") ⟨o, ho', hc⟩ ?_)
  have ht : (Value.type "tuple" == Value.type "tuple") = true := by rfl
  rw [if_pos (by rw [ht]; simp)]
  refine wpAny_bind (listItems_at ho' hd ?_)
  refine wpAny_bind (listItems_at (xs := #[]) (n := 0) (Heap.get?_push_size _ rfl) rfl ?_)
  rw [if_neg (by simp)]
  refine wpAny_bind (listUpdate_at (xs := #[]) (n := 0) (Heap.get?_push_size _ rfl) rfl ?_ (Nat.zero_le _) (by show (#[] ++ vs.toArray).size ≤ sizeLine + 1; simp only [Array.size_append, List.size_toArray, List.length_nil]; omega))
  refine wpAny_pure ?_
  show wpAny (model prog w) A (do
      let o ← load s.heap.objs.size
      match o.data with
      | .seq xs _ => pure xs.toList
      | _ => unsupported "internal:collect") Q E { s with heap := (s.heap.push (seqObj "list" #[] 0)).update s.heap.objs.size (Obj.mapSeq (· ++ vs.toArray)) }
  refine wpAny_bind (wpAny_load (get?_update_seq (Heap.get?_push_size _ rfl) _) ?_)
  show wpAny _ _ (pure ((#[] : Array Value) ++ vs.toArray).toList) Q E _
  rw [show ((#[] : Array Value) ++ vs.toArray).toList = vs by simp]
  exact wpAny_pure h
def vSortT : V1 := fun c M => match asT c with
  | some ds => if sortB ds then some (.dat (.list (sortD ds)), M) else none
  | none => none
def vSortAT : VN := orN vSortA (v1N vSortT)
section
variable {X : Cx}
theorem c_lenM : CallR X (.builtin "len") (rVN (tpOf X) (v1N vLenM)) := call1 fun pins s σ H x us Q w M c I r st r1 q => by
  unfold vLenM at q
  split at q
  · rename_i kvs e
    obtain ⟨a, es, xs, rfl, hm, hn, hz, rE, rX, D, hl⟩ := dct_read I st r1 e
    have := Vals.ref1 r
    subst this
    refine call_len_dictH hm D (by rw [hl]; rw [sizeLine_eq] at hz; omega) ⟨.int _, H, I.tok _, ⟨_, rfl⟩, ?_⟩
    rw [hl]
    exact post_int st q
  · exact q.elim
theorem c_sortT (hu : X.A.units + 100 < cLine) : CallR X (.builtin "sorted") (rVN (tpOf X) (v1N vSortT)) := call1 fun pins s σ H x us Q w M c I r st r1 q => by
  unfold vSortT at q
  split at q
  · rename_i ds e
    split at q
    · rename_i hs
      obtain ⟨a, vs, rfl, h1, h2, h3⟩ := asT_rep st r1 e
      have := Vals.ref1 r
      subst this
      obtain ⟨its, rv, p, hz⟩ := I.tuple h1
      obtain ⟨e1, e2⟩ := vals_read I st.sub h2 rv
      have hlen := h2.length
      refine sorted_from (F := w.F) hu I st.sub (fun R hR => ?_) (fun p ws hp hr hz' => post_list st hr hz' q p hp)
      refine collect_tupQ (show s.heap.IsTuple a its.toArray from p) ?_ (by rw [← rv.length]; exact hz)
      refine hR _ its ds (fun b o hb => ?_) ?_ rfl rfl e1 (by omega) hs rfl
      · rw [Heap.get?_update_ne _ _ _ _ (Nat.ne_of_lt (Heap.lt_size hb))]
        exact Heap.get?_push_of_some _ hb
      · rw [Heap.size_update, Heap.size_push]; exact Nat.le_succ _
    · exact q.elim
  · exact q.elim
theorem cA_sortT (hc : X.calm = true) (hu : X.A.units + 100 < cLine) : CallR X (.builtin "sorted") (rVN (tpOf X) vSortAT) := CallR.orN (cA_sort hc hu) (c_sortT hu)
end
end QL

set_option Elab.async false
set_option linter.all false
set_option maxRecDepth 100000
set_option maxHeartbeats 4000000
namespace QL
open PySem PySem.Spec PyProof.Rows L2
/-! ### instances of an own class -/
/-- what is told of the class x: its fields' names are no names of the class -/
def ClsF (tp : Tp) (x : Str) (ns : List Str) : Prop := ∃ C, tp.mg x = some (.ref C) ∧ Cls tp.K C ∧ ∀ f ∈ ns, NoAttr tp.K C f
def putC (f : Str) (v : Cell) : List (Str × Cell) → List (Str × Cell)
  | [] => [(f, v)]
  | (g, x) :: r => if g = f then (g, v) :: r else (g, x) :: putC f v r
theorem RepF.put {tp : Tp} {u : Wo} {f : Str} {v : V} {c : Cell} (r : RepC tp u v c) : ∀ {vs : List (Str × V)} {fs : List (Str × Cell)}, RepF tp u vs fs → RepF tp u (putF f v vs) (putC f c fs)
  | _, _, .nil => .cons ⟨rfl, r⟩ .nil
  | _, _, @Paired.cons _ _ _ p q ps qs h t => by
    obtain ⟨g, x⟩ := p
    obtain ⟨g', x'⟩ := q
    obtain ⟨h1, h2⟩ := h
    have h1 : g = g' := h1
    subst h1
    unfold putF putC
    split
    · exact .cons ⟨rfl, r⟩ t
    · exact .cons ⟨rfl, h2⟩ (RepF.put r t)
theorem RepF.look {tp : Tp} {u : Wo} {f : Str} : ∀ {vs : List (Str × V)} {fs : List (Str × Cell)} {c : Cell}, RepF tp u vs fs → fs.lookup f = some c → ∃ v, vs.lookup f = some v ∧ RepC tp u v c
  | _, _, _, .nil, e => by cases e
  | _, _, c, @Paired.cons _ _ _ p q ps qs h t, e => by
    obtain ⟨g, x⟩ := p
    obtain ⟨g', x'⟩ := q
    obtain ⟨h1, h2⟩ := h
    have h1 : g = g' := h1
    subst h1
    by_cases hf : (f == g) = true
    · simp only [List.lookup, hf] at e ⊢
      cases e
      exact ⟨x, rfl, h2⟩
    · have hf : (f == g) = false := by simpa using hf
      simp only [List.lookup, hf] at e ⊢
      exact RepF.look t e
theorem RepF.none {tp : Tp} {u : Wo} {f : Str} : ∀ {vs : List (Str × V)} {fs : List (Str × Cell)}, RepF tp u vs fs → fs.lookup f = none → vs.lookup f = none
  | _, _, .nil, e => rfl
  | _, _, @Paired.cons _ _ _ p q ps qs h t, e => by
    obtain ⟨g, x⟩ := p
    obtain ⟨g', x'⟩ := q
    obtain ⟨h1, h2⟩ := h
    have h1 : g = g' := h1
    subst h1
    by_cases hf : (f == g) = true
    · simp only [List.lookup, hf] at e
      cases e
    · have hf : (f == g) = false := by simpa using hf
      simp only [List.lookup, hf] at e ⊢
      exact RepF.none t e
def asI (x : Str) : Cell → Mem → Option (Nat × List (Str × Cell))
  | .obj l, M => match M[l]? with | some (.ins y fs) => if y = x then some (l, fs) else none | _ => none
  | _, _ => none
theorem asI_rep {tp : Tp} {u : Wo} {M : Mem} {H : Hp} {v : V} {c : Cell} {x : Str} {l : Nat} {fs : List (Str × Cell)} (s : Sto tp u M H) (r : RepC tp u v c) (e : asI x c M = some (l, fs)) :
    ∃ a C dx vs, v = .ref a ∧ M[l]? = some (.ins x fs) ∧ u.α[l]? = some a ∧ tp.mg x = some (.ref C) ∧ H a = some (.ins C dx vs) ∧ RepF tp u vs fs := by
  unfold asI at e
  split at e
  · rename_i l'
    split at e
    · rename_i y fs' em
      split at e
      · rename_i hy
        cases e
        subst hy
        obtain ⟨a, h1, h2⟩ := r
        obtain ⟨_, _, _, C, dx, vs, f4, f5, f6⟩ := s.rep l _ a em (by intro z; cases z) h1
        exact ⟨a, C, dx, vs, h2, em, h1, f4, f5, f6⟩
      · cases e
    · cases e
  · cases e
/-- o.f -/
def eFld (x f : Str) (g : EvF) : EvF := fun ρ M => (g ρ M).bind fun c M => match asI x c M with
  | some (_, fs) => match fs.lookup f with | some d => .ok d M | none => .no
  | none => .no
/-- o.f = v -/
def sFldQ (x f : Str) (v g : EvF) : EvS := fun ρ M => (v ρ M).toS ρ fun d M => (g ρ M).toS ρ fun c M => match asI x c M with
  | some (l, fs) => if fs.length < 1000 then .nx ρ (M.set l (.ins x (putC f d fs))) else .no
  | none => .no
section
variable {X : Cx} {W : WX} {o value e : Expr} {es : List Expr} {f x m : Str} {pos pos' apos p : Pos} {g v : EvF} {ga : EvA} {ns ps : List Str} {k : Nat} {F : FnF}
theorem q_fld (c : ClsF (tpOf X) x ns) (hn : ns.contains f = true) (ho : PE X o (tE (tpOf X) W g)) (hb : attributeBase o f X.env (eval o X.env) = eval o X.env := by rfl) : PE X (.Attribute o f pos) (tE (tpOf X) W (eFld x f g)) :=
  PE.weak (pe_fld ho hb) fun σ H Q h => by
    obtain ⟨u, ρ, M, g0, q⟩ := tR_bind (Rp := RepC (tpOf X)) (k := fun ρ c M => match asI x c M with | some (_, fs) => (match fs.lookup f with | some d => .ok d M | none => .no) | none => .no) h
    refine ⟨u, ρ, M, g0, Post.mono q fun w H1 ⟨u1, ρ1, M1, c1, g1, r1, q1⟩ => ?_⟩
    cases ea : asI x c1 M1 with
    | none => rw [ea] at q1; exact q1.elim
    | some lf =>
      obtain ⟨l, fs⟩ := lf
      rw [ea] at q1
      dsimp only at q1
      cases ef : fs.lookup f with
      | none => rw [ef] at q1; exact q1.elim
      | some d =>
        rw [ef] at q1
        obtain ⟨a, C, dx, vs, rfl, em, eα, hC, hH, hF⟩ := asI_rep g1.sto r1 ea
        obtain ⟨C', hC', hc, hno⟩ := c
        rw [hC] at hC'
        cases hC'
        obtain ⟨z, hz, rz⟩ := hF.look ef
        exact ⟨a, C, dx, vs, z, rfl, hH, hc, hno f (List.contains_iff_mem.mp hn), hz, q1 z H1 u1 (Ext.refl u1) g1.sto rz⟩
theorem qs_fld (c : ClsF (tpOf X) x ns) (hn : ns.contains f = true) (ho : PE X o (tE (tpOf X) W g)) (hv : PE X value (tE (tpOf X) W v)) (hs : swapsWith value (some (.Attribute o f pos')) pos.line X.env = pure false := by rfl) : PS X (.Assign [.Attribute o f pos'] value pos) (tS (tpOf X) W (sFldQ x f v g)) :=
  PS.weak (ps_fld ho hv hs) fun D σ H h => by
    obtain ⟨u, ρ, M, g0, q⟩ := tS_bind (Rp := RepC (tpOf X)) (k := fun ρ d M => (g ρ M).toS ρ fun c M => match asI x c M with | some (l, fs) => if fs.length < 1000 then .nx ρ (M.set l (.ins x (putC f d fs))) else .no | none => .no) h
    refine ⟨u, ρ, M, g0, Post.mono q fun w H1 ⟨u1, ρ1, M1, d, g1, r1, q1⟩ => ?_⟩
    refine ⟨u1, ρ1, M1, g1, ?_⟩
    have q1 : PostS (tpOf X) W u1 ((g ρ1 M1).toS ρ1 fun c M => match asI x c M with | some (l, fs) => if fs.length < 1000 then .nx ρ1 (M.set l (.ins x (putC f d fs))) else .no | none => .no) D := q1
    revert q1
    cases g ρ1 M1 with
    | no => exact fun q => q
    | ex x M' => exact fun q cls dd H' u' e s r => q cls dd σ H' u' e (g1.ext e s) r
    | ok c1 M2 =>
      intro q1 ov H2 u2 e2 s2 r2
      have q1 : PostS (tpOf X) W u1 (match asI x c1 M2 with | some (l, fs) => if fs.length < 1000 then .nx ρ1 (M2.set l (.ins x (putC f d fs))) else .no | none => .no) D := q1
      cases ea : asI x c1 M2 with
      | none => rw [ea] at q1; exact q1.elim
      | some lf =>
        obtain ⟨l, fs⟩ := lf
        rw [ea] at q1
        dsimp only at q1
        split at q1
        · rename_i hz
          obtain ⟨a, C, dx, vs, rfl, em, eα, hC, hH, hF⟩ := asI_rep s2 r2 ea
          obtain ⟨C', hC', hc, hno⟩ := c
          rw [hC] at hC'
          cases hC'
          refine ⟨a, C, dx, vs, rfl, hH, hc, hno f (List.contains_iff_mem.mp hn), by rw [Paired.length hF]; exact hz, ?_⟩
          have st := s2.write (o := .ins C dx (putF f w vs)) (m := .ins x (putC f d fs)) em (by intro z; cases z) eα ⟨C, dx, _, hC, upd_same, hF.put (r1.mono e2)⟩
          exact q1 σ _ u2 e2 ((g1.ext e2 s2).ext (Ext.refl u2) st)
        · exact q1.elim

/-! ### methods, making -/
/-- a method of the class x -/
def Dm (tp : Tp) (base : Heap) (x m : Str) (ps : List Str) (k : Nat) (F : FnF) : Prop := (∀ cs M, cs.length ≠ ps.length → F cs M = .no) ∧
  ∃ C f fd, tp.mg x = some (.ref C) ∧ Cls tp.K C ∧ Meth tp.K C m f ∧ Binds tp.K fd ps [] ∧ FnOk tp.P tp.w tp.K tp.mg base (L2N.CX tp.P tp.w) k f fd ps (spF tp ps.length F)
/-- its __init__ -/
def Dk (tp : Tp) (base : Heap) (x : Str) (ps : List Str) (k : Nat) (F : FnF) : Prop := (∀ cs M, cs.length ≠ ps.length → F cs M = .no) ∧
  ∃ C f fd, tp.mg x = some (.ref C) ∧ Mk tp.K C f ∧ Binds tp.K fd ps [] ∧ FnOk tp.P tp.w tp.K tp.mg base (L2N.CX tp.P tp.w) k f fd ps (spF tp ps.length F)
def eMeth (x m : Str) (F : FnF) (g : EvF) (ga : EvA) : EvF := fun ρ M => (g ρ M).bind fun c M => match asI x c M with
  | some (_, fs) => match fs.lookup m with | some _ => .no | none => (ga ρ M).bind fun cs M => F (c :: cs) M
  | none => .no
def initRes (r : Res Cell) (l : Nat) : Res Cell := r.bind fun c M => if c = .dat .none then .ok (.obj l) M else .no
def eMake (x : Str) (F : FnF) (ga : EvA) : EvF := fun ρ M => (ga ρ M).bind fun cs M => initRes (F (.obj M.length :: cs) (M ++ [.ins x []])) M.length
theorem post_toF {u : Wo} {σ : L2.St} {r : Res Cell} {Q : VK} (h : Post (tpOf X) W u σ (RepC (tpOf X)) r Q) : PostF (tpOf X) u r Q (WE W σ) := by
  cases r with
  | ok c' M' => exact h
  | ex x M' => exact h
  | no => exact h
theorem meth_read {C : Addr} {σ : L2.St} {H : Hp} {Q : VK} (hC : X.mg x = some (.ref C)) (hF : ∀ cs M, cs.length ≠ ps.length → F cs M = .no) (h : tE (tpOf X) W (eMeth x m F g ga) σ H Q) :
    (tE (tpOf X) W g) σ H fun xv H1 => ∃ a dx fs, xv = .ref a ∧ H1 a = some (.ins C dx fs) ∧ fs.lookup m = none ∧ (tAs (tpOf X) W ga) σ H1 fun vs H2 => spF (tpOf X) ps.length F (xv :: vs) H2 Q (WE W σ) := by
  obtain ⟨u, ρ, M, g0, q⟩ := tR_bind (Rp := RepC (tpOf X)) (k := fun ρ c M => match asI x c M with | some (_, fs) => (match fs.lookup m with | some _ => .no | none => (ga ρ M).bind fun cs M => F (c :: cs) M) | none => .no) h
  refine ⟨u, ρ, M, g0, Post.mono q fun w H1 ⟨u1, ρ1, M1, c1, g1, r1, q1⟩ => ?_⟩
  cases ea : asI x c1 M1 with
  | none => rw [ea] at q1; exact q1.elim
  | some lf =>
    obtain ⟨l, fs⟩ := lf
    rw [ea] at q1
    dsimp only at q1
    cases ef : fs.lookup m with
    | some d => rw [ef] at q1; exact q1.elim
    | none =>
      rw [ef] at q1
      have q1 : Post (tpOf X) W u1 σ (RepC (tpOf X)) ((ga ρ1 M1).bind fun cs M => F (c1 :: cs) M) Q := q1
      obtain ⟨a, C', dx, vs, rfl, em, eα, hC', hH, hFf⟩ := asI_rep g1.sto r1 ea
      rw [show (tpOf X).mg x = some (.ref C) from hC] at hC'
      cases hC'
      refine ⟨a, dx, vs, rfl, hH, hFf.none ef, u1, ρ1, M1, g1, ?_⟩
      revert q1
      cases ga ρ1 M1 with
      | no => exact fun q => q
      | ex x M' => exact fun q => q
      | ok cs M2 =>
        intro q1 vs' H2 u2 e2 s2 r2
        have q1 : Post (tpOf X) W u1 σ (RepC (tpOf X)) (F (c1 :: cs) M2) Q := q1
        by_cases hn : (c1 :: cs).length = ps.length
        · exact ⟨u2, M2, c1 :: cs, s2, .cons (r1.mono e2) r2, hn, post_toF (Post.ext e2 q1)⟩
        · rw [hF _ M2 hn] at q1; exact q1.elim
theorem q_meth {pl : Sem Bool} (D : Dm (tpOf X) X.base x m ps k F) (hr : Room k X.A) (tk : L2N.Takes X W) (ho : PE X o (tE (tpOf X) W g)) (ha : PA X (e :: es) (tAs (tpOf X) W ga)) (hst : starEach (e :: es) X.env = (false, eval e X.env) :: starEach es X.env := by rfl) (hpl : (backTo pos (starEach es X.env)).any (·.1) = false := by rfl)
    (ht : eval (.Call (.Attribute o m apos) (e :: es) [] pos) X.env = (do
      let ov ← eval o X.env
      standAt apos.atName
      let (f, first) ← holding [ov] (getMethod ov m pl)
      callWith pos f first (backTo pos (starEach (e :: es) X.env)) (backToKw pos (keywordEach [] X.env))) := by rfl) : PE X (.Call (.Attribute o m apos) (e :: es) [] pos) (tE (tpOf X) W (eMeth x m F g ga)) := by
  obtain ⟨hF, C, f, fd, hC, c, hm, hb, G⟩ := D
  refine ⟨fun pins s σ H Q I h => ?_⟩
  have h := meth_read hC hF h
  refine PySem.W.methodCall_KW (pl := pl) (thn (ho.run pins s σ H _ I h) fun u s1 ⟨xv, H1, I1, rx, a, dx, fs, ex, ea, l, q⟩ => ?_) ht
  subst ex
  obtain rfl : u = Value.ref a := rx
  refine getmeth_ok I1 ea c hm l ?_
  refine PySem.W.callWith_K (first := [.ref a]) (h₀ := X.base) I.ok.mod.kin hm.kp (thn (ha.run pos pins s1 σ H1 _ I1 q) fun us s2 ⟨vs, H2, I2, r, q2⟩ => ⟨I2.kIn, ?_⟩) hst hpl
  exact run_fnS (us := .ref a :: us) (vs := .ref a :: vs) G hr hb (L2N.passAt tk σ) I2 (.cons rfl r) q2
theorem q_meth0 {pl : Sem Bool} (D : Dm (tpOf X) X.base x m ps k F) (hr : Room k X.A) (tk : L2N.Takes X W) (ho : PE X o (tE (tpOf X) W g))
    (ht : eval (.Call (.Attribute o m apos) [] [] pos) X.env = (do
      let ov ← eval o X.env
      standAt apos.atName
      let (f, first) ← holding [ov] (getMethod ov m pl)
      callWith pos f first (backTo pos (starEach [] X.env)) (backToKw pos (keywordEach [] X.env))) := by rfl) : PE X (.Call (.Attribute o m apos) [] [] pos) (tE (tpOf X) W (eMeth x m F g aNil)) := by
  obtain ⟨hF, C, f, fd, hC, c, hm, hb, G⟩ := D
  refine ⟨fun pins s σ H Q I h => ?_⟩
  have h := meth_read hC hF h
  refine PySem.W.methodCall_KW (pl := pl) (thn (ho.run pins s σ H _ I h) fun u s1 ⟨xv, H1, I1, rx, a, dx, fs, ex, ea, l, q⟩ => ?_) ht
  subst ex
  obtain rfl : u = Value.ref a := rx
  refine getmeth_ok I1 ea c hm l ?_
  obtain ⟨u1, ρ1, M1, g1, q⟩ := q
  have q2 := q [] H1 u1 (Ext.refl u1) g1.sto .nil
  exact PySem.W.callWith_K0 (first := [.ref a]) I1.kIn hm.kp (run_fnS (us := [.ref a]) (vs := [.ref a]) G hr hb (L2N.passAt tk σ) I1 (.cons rfl .nil) q2)
/-- a new instance and its dict, then __init__: an exception of it goes on -/
theorem run_makeS {CX : CXT} {C f : Addr} {fd : FuncData} {sp : Sp} {E : XK} {pins : List (Addr × Obj)} {σ : L2.St} {H : Hp} {s : Shared} {Q : VK} {us : List Value} {vs : List V} (Mk0 : Mk X.K C f) (G : FnOk X.prog X.w X.K X.mg X.base CX k f fd ps sp) (hr : Room (k + 1) X.A) (hb : Binds X.K fd ps [])
    (hx : PassesAt CX X σ E) (I : Inv X pins σ H s) (r : Vals vs us) (h : ∀ x dx, H x = none → H dx = none → dx ≠ x → sp (.ref x :: vs) (upd (upd H dx (.own x)) x (.ins C dx [])) (fun v H2 => v = .non ∧ Q (.ref x) H2) E) :
    wpAny (model X.prog X.w) X.A (call (.ref C) us) (EP X pins σ Q) X.xe s := by
  have hq := h (s.heap.objs.size + 1) s.heap.objs.size (I.hok.fresh (Nat.le_succ _)) (I.hok.fresh (Nat.le_refl _)) (Nat.ne_of_lt (Nat.lt_succ_self _))
  have I2 := Inv.made (C := C) I
  have r2 : Vals (V.ref (s.heap.objs.size + 1) :: vs) (Value.ref (s.heap.objs.size + 1) :: us) := .cons rfl r
  have hl : (Value.ref (s.heap.objs.size + 1) :: us ++ []).length = ps.length := by
    have e := r2.length
    rw [G.len _ _ _ _ hq] at e
    rw [List.append_nil]
    exact e.symm
  have b := hb _ (Value.ref (s.heap.objs.size + 1) :: us) I2.kIn hl
  rw [List.append_nil] at b
  refine wpAny_call (make_map (f := f) I.kIn Mk0.makes Mk0.init (beq_iff_eq.mp Mk0.fn) (codeAny_mono (G.run _ X.stack _ _ ⟨Value.ref (s.heap.objs.size + 1) :: us, []⟩ (Value.ref (s.heap.objs.size + 1) :: us) _ _ E (hr.make C us []) (I2.env0.make C us []) b r2 hq) fun rr s' hq' => ?_))
  cases rr with
  | error er => exact hx pins _ _ er s' I2 hq'
  | ok fl =>
    cases fl with
    | ret u =>
      obtain ⟨v, H', I3, rv, ev, q3⟩ := I2.after hq'
      subst ev
      exact ⟨rv, ⟨V.ref (s.heap.objs.size + 1), H', I3, rfl, q3⟩⟩
    | next => exact False.elim hq'
    | brk => exact False.elim hq'
    | cont => exact False.elim hq'
theorem q_make (D : Dk (tpOf X) X.base x ps k F) (hr : Room (k + 1) X.A) (tk : L2N.Takes X W) (ha : PA X (e :: es) (tAs (tpOf X) W ga)) (hg : Gl X x := by rfl) (hdb : (x == ("__debug__" : Str)) = false := by decide) (he : starEach (e :: es) X.env = (false, eval e X.env) :: starEach es X.env := by rfl) (hpl : (backTo pos (starEach es X.env)).any (·.1) = false := by rfl) :
    PE X (.Call (.Name x p) (e :: es) [] pos) (tE (tpOf X) W (eMake x F ga)) := by
  obtain ⟨hF, C, f, fd, hC, mk, hb, G⟩ := D
  refine ⟨fun pins s σ H Q I h => ?_⟩
  obtain ⟨u, ρ, M, g0, q⟩ := tR_bind (Rp := RepCs (tpOf X)) (k := fun ρ cs M => initRes (F (.obj M.length :: cs) (M ++ [.ins x []])) M.length) h
  refine wpAny_Call_Name_kw (ld_glob I hg hC ?_ hdb)
  refine PySem.W.callWith_K (h₀ := X.base) I.ok.mod.kin mk.kp (thn (ha.run pos pins s σ H _ I ⟨u, ρ, M, g0, q⟩) fun us s1 ⟨vs, H1, I1, r, u1, ρ1, M1, cs, g1, rc, q1⟩ => ⟨I1.kIn, ?_⟩) he hpl
  refine run_makeS mk G hr hb (L2N.passAt tk σ) I1 r fun xa dx nx ndx ne => ?_
  -- the instance's dict is a thing that nobody names; then the instance is the next label
  obtain ⟨e0, s0⟩ := g1.sto.fresh (o := .own xa) ndx (fun xs h => by rcases h with h | h <;> cases h) (fun _ _ h => by cases h)
  have nx2 : upd H1 dx (.own xa) xa = none := by rw [upd_ne (Ne.symm ne)]; exact nx
  obtain ⟨e2, s2⟩ := s0.alloc (o := .ins C dx []) (m := .ins x []) nx2 ⟨C, dx, [], hC, upd_same, .nil⟩
  have hα : u1.α.length = M1.length := g1.sto.len
  have hx : (u1.α ++ [xa])[M1.length]? = some xa := by rw [← hα]; exact List.getElem?_concat_length
  have q1 : Post (tpOf X) W u1 σ (RepC (tpOf X)) (initRes (F (.obj M1.length :: cs) (M1 ++ [.ins x []])) M1.length) Q := q1
  by_cases hn : (Cell.obj M1.length :: cs).length = ps.length
  case neg =>
    rw [hF _ _ hn] at q1
    exact q1.elim
  refine ⟨_, _, .obj M1.length :: cs, s2, .cons ⟨xa, hx, rfl⟩ (rc.mono (e0.trans e2)), hn, ?_⟩
  revert q1
  unfold initRes
  cases F (.obj M1.length :: cs) (M1 ++ [.ins x []]) with
  | no => exact fun q => q.elim
  | ex y M' => exact fun q cls dd H' u' e' s' r' => q cls dd H' u' ((e0.trans e2).trans e') s' r'
  | ok c M' =>
    intro q1 v H' u' e' s' r'
    have q1 : Post (tpOf X) W u1 σ (RepC (tpOf X)) (if c = .dat .none then .ok (.obj M1.length) M' else .no) Q := q1
    by_cases hc : c = .dat .none
    · rw [if_pos hc] at q1
      rw [hc] at r'
      obtain rfl := rep_non r'
      exact ⟨rfl, q1 _ H' u' ((e0.trans e2).trans e') s' ⟨xa, e'.at hx, rfl⟩⟩
    · rw [if_neg hc] at q1
      exact q1.elim

/-! ### a def that keeps what it makes -/
def fnResK (N n : Nat) (m : EvS) : FnF := fun cs M =>
  if cs.length = n then
    match m (cs.map some ++ List.replicate (N - n) none) M with
    | .rt c M' => .ok c M'
    | .nx _ M' => .ok (.dat .none) M'
    | .ex x _ M' => .ex x M'
    | _ => .no
  else .no
theorem fnK_len {N n : Nat} {m : EvS} : ∀ cs M, cs.length ≠ n → fnResK N n m cs M = .no := fun cs M h => by unfold fnResK; rw [if_neg h]
end
section
variable {P : Program} {w : World} {K : PySem.W.Frag} {mg : Str → Option Value} {base : Heap}
theorem okQK {x qual : Str} {st : Stmt} {f : Addr} {fd : FuncData} {N ps : List Str} {k : Nat} {m : EvS} (F : Fun K x qual st f fd) (S : FnScope N ps (defScope st))
    (hbody : ∀ (cdv : Value) (A : Around) (outer : List Env) (s : Shared) (H : Hp) (E : XK), Room k (A.deeper (envOfC qual (defScope st) s.heap.objs.size f cdv)) →
      PSs (cxOf (L2N.CX P w) P w K mg base N qual (defScope st) f cdv A outer s H E) (defBody st) (tS ⟨P, w, K, mg⟩ (fun c d _ H => E c d H) m)) :
    FnOk P w K mg base (L2N.CX P w) (k + 1) f fd ps (spF ⟨P, w, K, mg⟩ ps.length (fnResK N.length ps.length m)) := by
  refine okN F S (fun vs H Q E h => ?_) (fun cdv A outer s H vs Q E hr h => ?_)
  · obtain ⟨u, M, cs, _, r, hn, _⟩ := h
    rw [r.length, hn]
  · refine ⟨_, hbody cdv A outer s H E hr, ?_⟩
    obtain ⟨u, M, cs, st0, r, hn, q⟩ := h
    refine ⟨u, _, M, goo_start st0 r hn, ?_⟩
    unfold fnResK at q
    rw [if_pos hn] at q
    revert q
    cases m (cs.map some ++ List.replicate (N.length - ps.length) none) M with
    | nx ρ' M' => exact fun q σ' H' u' e g => q .non H' u' e g.sto RD.non
    | rt c M' => exact fun q v H' u' e st' rv => q v H' u' e st' rv
    | ex x ρ' M' => exact fun q cls dd σ' H' u' e g rx => q cls dd H' u' e g.sto rx
    | bk ρ' M' => exact fun q => q.elim
    | ct ρ' M' => exact fun q => q.elim
    | no => exact fun q => q.elim
/-- what the top has written for a class's def -/
def RawM (K : PySem.W.Frag) (mg : Str → Option Value) (x m qual : Str) (st : Stmt) : Prop := ∃ C f fd, mg x = some (.ref C) ∧ Cls K C ∧ Meth K C m f ∧ Fun K m qual st f fd
def RawI (K : PySem.W.Frag) (mg : Str → Option Value) (x qual : Str) (st : Stmt) : Prop := ∃ C f fd, mg x = some (.ref C) ∧ Mk K C f ∧ Fun K "__init__" qual st f fd
theorem dm_mk {x m qual : Str} {st : Stmt} {N ps : List Str} {k : Nat} {mm : EvS} (R : RawM K mg x m qual st) (S : FnScope N ps (defScope st)) (hb : ∀ {f : Addr} {fd : FuncData}, Fun K m qual st f fd → Binds K fd ps [])
    (hbody : ∀ (f : Addr) (cdv : Value) (A : Around) (outer : List Env) (s : Shared) (H : Hp) (E : XK), Room k (A.deeper (envOfC qual (defScope st) s.heap.objs.size f cdv)) →
      PSs (cxOf (L2N.CX P w) P w K mg base N qual (defScope st) f cdv A outer s H E) (defBody st) (tS ⟨P, w, K, mg⟩ (fun c d _ H => E c d H) mm)) : Dm ⟨P, w, K, mg⟩ base x m ps (k + 1) (fnRes N.length ps.length mm) := by
  obtain ⟨C, f, fd, h1, h2, h3, h4⟩ := R
  exact ⟨fn_len, C, f, fd, h1, h2, h3, hb h4, okQ h4 S fun cdv A outer s H E hr => hbody f cdv A outer s H E hr⟩
theorem dk_mk {x qual : Str} {st : Stmt} {N ps : List Str} {k : Nat} {mm : EvS} (R : RawI K mg x qual st) (S : FnScope N ps (defScope st)) (hb : ∀ {f : Addr} {fd : FuncData}, Fun K "__init__" qual st f fd → Binds K fd ps [])
    (hbody : ∀ (f : Addr) (cdv : Value) (A : Around) (outer : List Env) (s : Shared) (H : Hp) (E : XK), Room k (A.deeper (envOfC qual (defScope st) s.heap.objs.size f cdv)) →
      PSs (cxOf (L2N.CX P w) P w K mg base N qual (defScope st) f cdv A outer s H E) (defBody st) (tS ⟨P, w, K, mg⟩ (fun c d _ H => E c d H) mm)) : Dk ⟨P, w, K, mg⟩ base x ps (k + 1) (fnResK N.length ps.length mm) := by
  obtain ⟨C, f, fd, h1, h2, h3⟩ := R
  exact ⟨fnK_len, C, f, fd, h1, h2, hb h3, okQK h3 S fun cdv A outer s H E hr => hbody f cdv A outer s H E hr⟩
end
end QL

set_option Elab.async false
set_option linter.all false
set_option maxRecDepth 100000
set_option maxHeartbeats 4000000
namespace QL
open PySem PySem.Spec PyProof.Rows L2
/-! ### a call that is handed data alone: it runs in a store of its own -/
def noObj : Cell → Bool
  | .obj _ => false
  | _ => true
def pureR (r : Res Cell) (M : Mem) : Res Cell := match r with
  | .ok c _ => if noObj c then .ok c M else .no
  | .ex x _ => .ex x M
  | .no => .no
def pureF (F : FnF) : FnF := fun cs M => if cs.all noObj then pureR (F cs []) M else F cs M
theorem rep_noObj {tp : Tp} {u u' : Wo} {v : V} {c : Cell} (h : noObj c = true) (e : u'.F = u.F) (r : RepC tp u v c) : RepC tp u' v c := by
  cases c with
  | dat d => show RD tp.K u'.F v d; rw [e]; exact r
  | fdc kvs =>
    obtain ⟨a, o, ar, ep, es, xs, h1, h2, h3, h4, h5, h6, h7⟩ := r
    refine ⟨a, o, ar, ep, es, xs, h1, by rw [e]; exact h2, h3, h4, h5, ?_, h7⟩
    unfold RepE at h6 ⊢
    rw [e]; exact h6
  | ftd kvs =>
    obtain ⟨a, vs, h1, h2, h3, h4, h5⟩ := r
    refine ⟨a, vs, h1, by rw [e]; exact h2, h3, h4, ?_⟩
    unfold RepT at h5 ⊢
    rw [e]; exact h5
  | obj l => cases h
theorem reps_noObj {tp : Tp} {u u' : Wo} (e : u'.F = u.F) : ∀ {vs : List V} {cs : List Cell}, cs.all noObj = true → RepCs tp u vs cs → RepCs tp u' vs cs
  | _, _, _, .nil => .nil
  | _, _, h, .cons r t => by
    rw [List.all_cons, Bool.and_eq_true] at h
    exact .cons (rep_noObj h.1 e r) (reps_noObj e h.2 t)
open Classical in
noncomputable def heldR (u : Wo) (M : Mem) (H : Hp) : Hp := fun b => if ∃ (l : Nat) (m : MO), M[l]? = some m ∧ m ≠ MO.dead ∧ u.α[l]? = some b then H b else u.R b
theorem held_yes {u : Wo} {M : Mem} {H : Hp} {l : Nat} {m : MO} {b : Addr} (h1 : M[l]? = some m) (h2 : m ≠ MO.dead) (h3 : u.α[l]? = some b) : heldR u M H b = H b := by
  unfold heldR
  rw [if_pos ⟨l, m, h1, h2, h3⟩]
theorem held_no {tp : Tp} {u : Wo} {M : Mem} {H : Hp} {b : Addr} {o : HO} (s : Sto tp u M H) (h : u.R b = some o) : heldR u M H b = some o := by
  unfold heldR
  split
  · rename_i hh
    obtain ⟨l, m, h1, h2, h3⟩ := hh
    have := (s.rep l m b h1 h2 h3).2.1
    rw [h] at this; cases this
  · exact h
theorem Sto.held {tp : Tp} {u : Wo} {M : Mem} {H : Hp} (s : Sto tp u M H) : Sto tp ⟨u.F, heldR u M H, []⟩ [] H := by
  refine ⟨s.sub, fun b o h => ?_, fun b o h => ?_, s.fok, rfl, fun l m a h => by simp at h, fun l l' a m m' h => by simp at h⟩
  · have h : heldR u M H b = some o := h
    unfold heldR at h
    split at h
    · exact h
    · exact s.fr b o h
  · have h : heldR u M H b = some o := h
    unfold heldR at h
    split at h
    · rename_i hh
      obtain ⟨l, m, h1, h2, h3⟩ := hh
      exact (s.rep l m b h1 h2 h3).1
    · exact s.dis b o h
theorem Sto.unheld {tp : Tp} {u u1 : Wo} {M M' : Mem} {H H' : Hp} (s : Sto tp u M H) (e : Ext ⟨u.F, heldR u M H, []⟩ u1) (s1 : Sto tp u1 M' H') : Ext u ⟨u1.F, u.R, u.α⟩ ∧ Sto tp ⟨u1.F, u.R, u.α⟩ M H' := by
  have eR : u1.R = heldR u M H := e.2.1
  have ee : Ext u ⟨u1.F, u.R, u.α⟩ := ⟨e.1, rfl, [], (List.append_nil _).symm⟩
  refine ⟨ee, ⟨s1.sub, fun b o h => s1.fr b o ?_, fun b o h => s1.dis b o ?_, s1.fok, s.len, fun l m a h1 h2 h3 => ?_, s.inj⟩⟩
  · rw [eR]; exact held_no s h
  · rw [eR]; exact held_no s h
  · obtain ⟨f1, f2, ⟨o, f3⟩, f4⟩ := s.rep l m a h1 h2 h3
    have hr : ∀ x, H a = some x → u1.R a = some x := fun x q => by rw [eR, held_yes (u := u) (H := H) h1 h2 h3]; exact q
    exact ⟨s1.dis a o (hr o f3), f2, ⟨o, s1.fr a o (hr o f3)⟩, f4.mono ee fun x q => s1.fr a x (hr x q)⟩
theorem spF_pure {tp : Tp} {n : Nat} {F : FnF} {vs : List V} {H : Hp} {Q : VK} {E : XK} (h : spF tp n (pureF F) vs H Q E) : spF tp n F vs H Q E := by
  obtain ⟨u, M, cs, st, r, hn, q⟩ := h
  unfold pureF at q
  split at q
  · rename_i hall
    refine ⟨⟨u.F, heldR u M H, []⟩, [], cs, st.held, reps_noObj (u := u) (u' := ⟨u.F, heldR u M H, []⟩) rfl hall r, hn, ?_⟩
    revert q
    unfold pureR
    cases F cs [] with
    | no => exact fun q => q
    | ex x M' => exact fun q cls dd H' u' e s rx => let ⟨e2, s2⟩ := st.unheld e s; q cls dd H' _ e2 s2 rx
    | ok c M' =>
      intro q v H' u' e s rv
      obtain ⟨e2, s2⟩ := st.unheld e s
      dsimp only at q
      split at q
      · rename_i hc
        exact q v H' _ e2 s2 (rep_noObj (u := u') (u' := ⟨u'.F, u.R, u.α⟩) hc rfl rv)
      · exact q.elim
  · exact ⟨u, M, cs, st, r, hn, q⟩
theorem Df.pure {tp : Tp} {base : Heap} {x : Str} {ps : List Str} {k : Nat} {F : FnF} (D : Df tp base x ps k F) : Df tp base x ps k (pureF F) := by
  obtain ⟨hF, f, fd, h1, h2, h3, h4⟩ := D
  refine ⟨fun cs M hn => ?_, f, fd, h1, h2, h3, h4.imp fun vs H Q E h => spF_pure h⟩
  unfold pureF pureR
  split
  · rw [hF cs [] hn]
  · exact hF cs M hn
end QL

set_option Elab.async false
set_option linter.all false
set_option maxRecDepth 100000
set_option maxHeartbeats 4000000
namespace QL
open PySem PySem.Spec PyProof.Rows L2
/-! ### what the top has written -/
section
variable {K : PySem.W.Frag} {h : Heap} {mg : Str → Option Value}
theorem raw_mk {x qual : Str} {st : Stmt} {f : Addr} {oc : Value} {od an : Option Addr} {sl : Array (Option Value)} {kV dc pm cd ct : Value} (X : K.In h) (G : h.Ns mainGlobals mg)
    (a : PySem.W.nsIn K mainGlobals x = some (some (.ref f))) (l : K.lookup f = some ⟨oc, od, .func (PySem.W.fnOf x qual (defArgs st) (defBody st) (defScope st) .none kV dc pm an cd ct), sl⟩)
    (c : PySem.W.codeIn K cd qual = true) (k : PySem.W.keepIn K (.ref f) = true) : Raw K mg x qual st := ⟨f, _, PySem.W.mg_of X G a, k, fun_mk l c k⟩
theorem clsf_mk {P : Program} {w : World} {x : Str} {ns : List Str} {C : Addr} (X : K.In h) (G : h.Ns mainGlobals mg) (a : PySem.W.nsIn K mainGlobals x = some (some (.ref C)))
    (pg : PySem.W.plainGet K C Str.empty = true) (hd : PySem.W.hasDictIn K C = true) (po : PySem.W.plainOver K C = true) (sa : PySem.W.findIn K (.ref C) "__setattr__" = some (some (.builtin "object.__setattr__")))
    (n : ∀ f ∈ ns, PySem.W.findIn K (.ref C) f = some none) : ClsF ⟨P, w, K, mg⟩ x ns := ⟨C, PySem.W.mg_of X G a, ⟨pg, hd, po, sa⟩, n⟩
theorem rawm_mk {x m qual : Str} {st : Stmt} {C f : Addr} {oc : Value} {od an : Option Addr} {sl : Array (Option Value)} {kV dc pm cd ct : Value} (X : K.In h) (G : h.Ns mainGlobals mg) (a : PySem.W.nsIn K mainGlobals x = some (some (.ref C)))
    (pg : PySem.W.plainGet K C Str.empty = true) (hd : PySem.W.hasDictIn K C = true) (po : PySem.W.plainOver K C = true) (sa : PySem.W.findIn K (.ref C) "__setattr__" = some (some (.builtin "object.__setattr__")))
    (m1 : PySem.W.findIn K (.ref C) m = some (some (.ref f))) (i : PySem.W.isFn K (.ref f) = true)
    (l : K.lookup f = some ⟨oc, od, .func (PySem.W.fnOf m qual (defArgs st) (defBody st) (defScope st) .none kV dc pm an cd ct), sl⟩) (c : PySem.W.codeIn K cd qual = true) (k : PySem.W.keepIn K (.ref f) = true) : RawM K mg x m qual st :=
  ⟨C, f, _, PySem.W.mg_of X G a, ⟨pg, hd, po, sa⟩, ⟨m1, i, k⟩, fun_mk l c k⟩
theorem rawi_mk {x qual : Str} {st : Stmt} {C f : Addr} {oc : Value} {od an : Option Addr} {sl : Array (Option Value)} {kV dc pm cd ct : Value} (X : K.In h) (G : h.Ns mainGlobals mg) (a : PySem.W.nsIn K mainGlobals x = some (some (.ref C)))
    (mk : PySem.W.makesIn K C = true) (m1 : PySem.W.findIn K (.ref C) "__init__" = some (some (.ref f))) (i : PySem.W.isFn K (.ref f) = true) (kc : PySem.W.keepIn K (.ref C) = true)
    (l : K.lookup f = some ⟨oc, od, .func (PySem.W.fnOf "__init__" qual (defArgs st) (defBody st) (defScope st) .none kV dc pm an cd ct), sl⟩) (c : PySem.W.codeIn K cd qual = true) (k : PySem.W.keepIn K (.ref f) = true) : RawI K mg x qual st :=
  ⟨C, f, _, PySem.W.mg_of X G a, ⟨mk, m1, i, kc⟩, fun_mk l c k⟩
theorem con_i {x : Str} {n : Int} {t : Tok} (X : K.In h) (G : h.Ns mainGlobals mg) (a : PySem.W.nsIn K mainGlobals x = some (some (.int n t))) : ∃ t, mg x = some (.int n t) := ⟨t, PySem.W.mg_of X G a⟩
theorem con_s {x z : Str} {t : Tok} (X : K.In h) (G : h.Ns mainGlobals mg) (a : PySem.W.nsIn K mainGlobals x = some (some (.str z t))) : ∃ t, mg x = some (.str z t) := ⟨t, PySem.W.mg_of X G a⟩
theorem bn_mk (X : K.In h) (G : h.Ns mainGlobals mg) (a : ∀ x ∈ (["len", "all", "any", "sorted", "set", "tuple", "list", "int", "str", "bool", "isinstance", "range", "enumerate", "zip"] : List Str), PySem.W.nsIn K mainGlobals x = some none) : Bn mg := by
  have g := fun x hx => PySem.W.mg_none_of X G (a x hx)
  exact ⟨g _ (by simp), g _ (by simp), g _ (by simp), g _ (by simp), g _ (by simp), g _ (by simp), g _ (by simp), g _ (by simp), g _ (by simp), g _ (by simp), g _ (by simp), g _ (by simp), g _ (by simp), g _ (by simp)⟩
end
/-! ### the law itself -/
/-- the law's def: its answer at a list of ints -/
def LawDf (P : Program) (w : World) (K : PySem.W.Frag) (mg : Str → Option Value) (k : Nat) (F : FnF) : Prop :=
  ∃ f fd, mg "law" = some (.ref f) ∧ (∀ (s : Shared) (v : Value), BindsTo s fd ⟨[v], []⟩ [("script", v)]) ∧ ∀ base : Heap, FnOk P w K mg base (L2N.CX P w) k f fd ["script"] (spF ⟨P, w, K, mg⟩ 1 F)
theorem law_mk {P : Program} {w : World} {K : PySem.W.Frag} {mg : Str → Option Value} {st : Stmt} {N : List Str} {k : Nat} {m : EvS} (R : Raw K mg "law" "law" st) (S : FnScope N ["script"] (defScope st))
    (hb : ∀ (kV dc pm : Value) (an : Option Addr) (cd ct : Value) (v : Value), bindArgs (PySem.W.fnOf "law" "law" (defArgs st) (defBody st) (defScope st) .none kV dc pm an cd ct) ⟨[v], []⟩ = (pure [(("script" : Str), v)] : Sem (List (Str × Value))))
    (hbody : ∀ (base : Heap) (f : Addr) (cdv : Value) (A : Around) (outer : List Env) (s : Shared) (H : Hp) (E : XK), Room k (A.deeper (envOfC "law" (defScope st) s.heap.objs.size f cdv)) →
      PSs (cxOf (L2N.CX P w) P w K mg base N "law" (defScope st) f cdv A outer s H E) (defBody st) (tS ⟨P, w, K, mg⟩ (fun c d _ H => E c d H) m)) : LawDf P w K mg (k + 1) (fnRes N.length 1 m) := by
  obtain ⟨f, fd, h1, h2, h3⟩ := R
  refine ⟨f, fd, h1, fun s v => ?_, fun base => okQ (ps := ["script"]) h3 S fun cdv A outer s H E hr => hbody base f cdv A outer s H E hr⟩
  obtain ⟨oc, od, kV, doc, pm, an, cdv, ct, osl, rfl, lk, hcd⟩ := h3.ex
  exact .of_eq (hb kV doc pm an cdv ct v)
/-- only the script -/
theorem sto_law {tp : Tp} {H : Hp} {a : Addr} {ns : List Int} (h : RdK tp.K H a (ns.map V.int)) (hl : ns.length ≤ sizeLine) :
    ∃ u, Sto tp u [] H ∧ RepC tp u (.ref a) (.dat (.list (ns.map .int))) := by
  have rds : ∀ {F : Hp} (ns : List Int), RDs tp.K F (ns.map V.int) (ns.map .int) := fun ns => by
    induction ns with
    | nil => exact .nil
    | cons n t ih => exact .cons (.int n) ih
  rcases h with h | h
  · refine ⟨⟨fun b => if b = a then H a else none, fun _ => none, []⟩, ⟨fun b o e => ?_, fun b o e => ?_, fun b o e => ?_, fun b xs e => ?_, rfl, fun l m x e => ?_, fun l l' x m m' e => ?_⟩, .lst (.inl ?_) (rds ns)⟩
    · have e : (if b = a then H a else none) = some o := e
      split at e
      · rename_i hb; rw [hb]; exact e
      · cases e
    · have e : (none : Option HO) = some o := e
      cases e
    · have e : (none : Option HO) = some o := e
      cases e
    · have key : ∀ u, Rd (fun b => if b = a then H a else none) b u → b = a ∧ Rd H a u := fun u hu => by
        rcases hu with hu | ⟨o, hu⟩
        · have hu : (if b = a then H a else none) = some u := hu
          split at hu
          · rename_i hb; exact ⟨hb, .inl hu⟩
          · cases hu
        · have hu : (if b = a then H a else none) = some (.frz o u) := hu
          split at hu
          · rename_i hb; exact ⟨hb, .inr ⟨o, hu⟩⟩
          · cases hu
      have e : Rd (fun b => if b = a then H a else none) b (.lst xs) ∨ Rd (fun b => if b = a then H a else none) b (.tup xs) := e
      have lx : ∀ u, Rd H a u → u = .lst (ns.map V.int) ∨ ∃ o v, u = .frz o v := fun u hu => by
        rcases h with h | ⟨o, h⟩
        · rcases hu with hu | ⟨o', hu⟩
          · rw [h] at hu; cases hu; exact .inl rfl
          · rw [h] at hu; cases hu
        · rcases hu with hu | ⟨o', hu⟩
          · rw [h] at hu; cases hu; exact .inr ⟨_, _, rfl⟩
          · rw [h] at hu; cases hu; exact .inl rfl
      rcases e with e | e
      · obtain ⟨_, e⟩ := key _ e
        rcases lx _ e with z | ⟨_, _, z⟩
        · injection z with z; rw [z, List.length_map]; exact hl
        · cases z
      · obtain ⟨_, e⟩ := key _ e
        rcases lx _ e with z | ⟨_, _, z⟩
        · cases z
        · cases z
    · simp at e
    · simp at e
    · rcases h with h | ⟨o, h⟩
      · exact .inl ((if_pos rfl).trans h)
      · exact .inr ⟨o, (if_pos rfl).trans h⟩
  · refine ⟨⟨fun _ => none, fun _ => none, []⟩, ⟨fun b o e => ?_, fun b o e => ?_, fun b o e => ?_, fun b xs e => ?_, rfl, fun l m x e => ?_, fun l l' x m m' e => ?_⟩, .lst (.inr h) (rds ns)⟩
    · have e : (none : Option HO) = some o := e
      cases e
    · have e : (none : Option HO) = some o := e
      cases e
    · have e : (none : Option HO) = some o := e
      cases e
    · rcases e with (e | ⟨_, e⟩) | (e | ⟨_, e⟩)
      · have e : (none : Option HO) = some _ := e
        cases e
      · have e : (none : Option HO) = some _ := e
        cases e
      · have e : (none : Option HO) = some _ := e
        cases e
      · have e : (none : Option HO) = some _ := e
        cases e
    · simp at e
    · simp at e
/-- what the plain part says of a law's mirror -/
def LawIs (F : FnF) (n : Nat) : Prop := ∀ ns : List Int, ns.length ≤ n → ∃ M', F [.dat (.list (ns.map .int))] [] = .ok (.dat (.bool true)) M'
theorem walkQ {l : PySem.W.OpenLaw} {n k : Nat} {q : Program} {loose : List Str} {XP : (Str → Option Value) → Heap → Prop} {YP : World → Heap → Prop} {d : DefRec} {K : Params → PySem.W.Frag} {F : FnF}
    (hn : l.most = some n) (hn2 : n ≤ sizeLine) (hdf : d.params.defaults = []) (hr : Room k callerA) (hname : d.name = "law") (hY : ∀ (w : World) (h : Heap), YP w h → (K w.params).In h)
    (D : ∀ (w : World) (mg : Str → Option Value) (h : Heap), (K w.params).In h → h.Ns mainGlobals mg → LawDf l.prog w (K w.params) mg k F) (L : LawIs F n) :
    PySem.W.WalkO q loose XP YP l.row.toRowW d [] (fun f vs => PySem.call f vs) := by
  refine Att.attach_call hn hdf fun w s₀ s₁ mg mb fa o pm cd doc a vs ns G Y ho hd hcd hmg hobj hints hlen hg => ?_
  have KX := hY w _ Y
  obtain ⟨f, fd, h1, hb, hF⟩ := D w mg _ KX G.T.g
  rw [hname, h1] at hmg
  cases hmg
  have lv := hints.length
  have rv := vals_ints hints
  refine law_call (CX := L2N.CX l.prog w) (sp := spF ⟨l.prog, w, K w.params, mg⟩ 1 F) KX G.T.g G.T.b G.T.builtins G.T.nolimit hg hobj hints (Nat.le_trans hlen hn2) hr (fun base _ _ => hF base) hb (fun H hO hS => ?_) fun H e s' hc => ?_
  · have hk : RdK (K w.params) H a (ns.map V.int) := by
      rcases hS with hS | ⟨o2, its, m, hk, hc, hd2, hdt, hz, r⟩
      · exact .inl hS
      · have e := KX a o2 hk
        rw [hobj] at e
        cases e
        exact .inr ⟨vs, 0, hk, by rw [lv]; exact Nat.le_trans hlen hn2, rv⟩
    obtain ⟨u, st, rc⟩ := sto_law (tp := ⟨l.prog, w, K w.params, mg⟩) hk (Nat.le_trans hlen hn2)
    obtain ⟨M', e⟩ := L ns hlen
    refine ⟨u, [], _, st, .cons rc .nil, rfl, ?_⟩
    rw [e]
    intro v H' u' _ _ rv'
    cases rv'
    rfl
  · obtain ⟨_, _, _, _, _, _, _, _, _, _, _, _, z⟩ := hc
    exact z
end QL

set_option Elab.async false
set_option linter.all false
set_option maxRecDepth 100000
set_option maxHeartbeats 4000000
namespace W
open PySem PySem.Spec PyProof.Rows L2 QL
abbrev N__law_deck : List Str := ["cell", "turn"]
def m__law_deck : EvS := sSeq (sIf (eB (e2 vGe (eVar 0) (e2 vPow (eD (.int 10)) (eD (.int 18))))) (sRet (eBi vNewL (aCons (e2 vSub (eVar 0) (e2 vPow (eD (.int 10)) (eD (.int 18)))) (aCons (e2 vMod (eVar 0) (eD (.int 2147483579))) (aCons (eVar 1) (aNil)))))) (sSkip))
  (sRet (eBi vNewL (aCons (eD (.int 0)) (aCons (e2 vMod (eVar 0) (eD (.int 2147483579))) (aCons (eVar 1) (aNil))))))
def F__law_deck : FnF := fnRes N__law_deck.length (["cell", "turn"] : List Str).length m__law_deck
abbrev N__law_pick : List Str := ["deck", "limit", "found", "number"]
def m__law_pick : EvS := sSeq (sIf (eB (e2 vGt (e2 vIxA (eVar 0) (eD (.int 0))) (eD (.int 1)))) (sSeq (sSet 2 (e2 vMod (e2 vIxA (eVar 0) (eD (.int 0))) (eVar 1)))
  (sSeq (sPut vPutA (e2 vFdiv (e2 vIxA (eVar 0) (eD (.int 0))) (eVar 1)) (eVar 0) (eD (.int 0)))
  (sRet (eVar 2)))) (sSkip))
  (sSeq (sPut vPutA (e2 vAdd (e2 vIxA (eVar 0) (eD (.int 2))) (eD (.int 1))) (eVar 0) (eD (.int 2)))
  (sSeq (sSet 3 (e2 vMod (e2 vPow (e2 vAdd (e2 vIxA (eVar 0) (eD (.int 1))) (e2 vMul (eD (.int 15485867)) (e2 vIxA (eVar 0) (eD (.int 2))))) (eD (.int 5))) (eD (.int 2147483647))))
  (sSeq (sSet 2 (e2 vFdiv (e2 vMod (e2 vPow (e2 vAdd (eVar 3) (e2 vMul (eD (.int 7919)) (e2 vIxA (eVar 0) (eD (.int 2))))) (eD (.int 3))) (eD (.int 2147483629))) (eD (.int 32))))
  (sSeq (sIf (eB (e2 vGt (eVar 1) (eD (.int 1000000)))) (sRet (e2 vMod (e2 vAdd (e2 vMul (eVar 2) (eD (.int 2147483563))) (eVar 3)) (eVar 1))) (sSkip))
  (sRet (e2 vMod (eVar 2) (eVar 1)))))))
def F__law_pick : FnF := pureF (fnRes N__law_pick.length (["deck", "limit"] : List Str).length m__law_pick)
abbrev N__law_rooms : List Str := ["house", "way"]
def m__law_rooms : EvS := sRet (e1 vSortSet (e2 vAdd (eLc (iAny (eVar 0)) (.one 1) (bYes) (e2 vIxA (eVar 1) (eD (.int 0))) [1]) (eLc (iAny (eVar 0)) (.one 1) (bYes) (e2 vIxA (eVar 1) (eD (.int 1))) [1])))
def F__law_rooms : FnF := pureF (fnRes N__law_rooms.length (["house"] : List Str).length m__law_rooms)
abbrev N_can_go : List Str := ["stand", "way", "places", "shut"]
def m_can_go : EvS := sSeq (sAsg (eVar 0) (gT ([2, 3].map gN)))
  (sRet (eOr (e2 (vInA true) (e2 vIxA (eVar 1) (eD (.int 1))) (eVar 3)) (e2 vIxA (eVar 1) (eD (.int 2)))))
def F_can_go : FnF := pureF (fnRes N_can_go.length (["stand", "way"] : List Str).length m_can_go)
abbrev N_first_stand : List Str := ["places"]
def m_first_stand : EvS := sRet (eBi vTup (aCons (eVar 0) (aCons (eBi vTup (aNil)) (aNil))))
def F_first_stand : FnF := pureF (fnRes N_first_stand.length (["places"] : List Str).length m_first_stand)
abbrev N_lit : List Str := ["stand"]
def m_lit : EvS := sRet (e1 vSortSet (e2 vIxA (eVar 0) (eD (.int 0))))
def F_lit : FnF := pureF (fnRes N_lit.length (["stand"] : List Str).length m_lit)
abbrev N_rooms : List Str := ["house", "way"]
def m_rooms : EvS := sRet (e1 vSortSet (e2 vAdd (eLc (iAny (eVar 0)) (.one 1) (bYes) (e2 vIxA (eVar 1) (eD (.int 0))) [1]) (eLc (iAny (eVar 0)) (.one 1) (bYes) (e2 vIxA (eVar 1) (eD (.int 1))) [1])))
def F_rooms : FnF := pureF (fnRes N_rooms.length (["house"] : List Str).length m_rooms)
abbrev N__law_house : List Str := ["deck", "most", "names", "found", "one", "other", "turn", "at", "pair"]
def m__law_house : EvS := sSeq (sSet 2 (eSl (eBi vLst (aCons (eD (.str "attic")) (aCons (eD (.str "bay")) (aCons (eD (.str "den")) (aCons (eD (.str "hall")) (aCons (eD (.str "loft")) (aCons (eD (.str "nook")) (aNil)))))))) (oNone) (oSome (e2 vAdd (eD (.int 2)) (eCall F__law_pick (aCons (eVar 0) (aCons (e2 vSub (eVar 1) (eD (.int 1))) (aNil))))))))
  (sSeq (sSet 3 (eD0))
  (sSeq (sFor (iZipQ (eVar 2) (eSl (eVar 2) (oSome (eD (.int 1))) (oNone))) (gT ([4, 5].map gN)) (sIf (eB (e2 vGt (eCall F__law_pick (aCons (eVar 0) (aCons (eD (.int 5)) (aNil)))) (eD (.int 0)))) (sSeq (sPut vPutA (e2 vEq (eCall F__law_pick (aCons (eVar 0) (aCons (eD (.int 3)) (aNil)))) (eD (.int 0))) (eVar 3) (eBi vTup (aCons (eVar 4) (aCons (eVar 5) (aNil)))))
  (sIf (eB (e2 vGt (eCall F__law_pick (aCons (eVar 0) (aCons (eD (.int 3)) (aNil)))) (eD (.int 0)))) (sPut vPutA (e2 vEq (eCall F__law_pick (aCons (eVar 0) (aCons (eD (.int 3)) (aNil)))) (eD (.int 0))) (eVar 3) (eBi vTup (aCons (eVar 5) (aCons (eVar 4) (aNil))))) (sSkip))) (sSkip)))
  (sSeq (sFor (iRng1 (e2 vAdd (eD (.int 1)) (eCall F__law_pick (aCons (eVar 0) (aCons (eD (.int 5)) (aNil)))))) (gN 6) (sSeq (sSet 7 (eCall F__law_pick (aCons (eVar 0) (aCons (eBi (v1N vLen) (aCons (eVar 2) (aNil))) (aNil)))))
  (sSeq (sSet 5 (e2 vIxA (eVar 2) (e2 vMod (e2 vAdd (e2 vAdd (eVar 7) (eD (.int 1))) (eCall F__law_pick (aCons (eVar 0) (aCons (e2 vSub (eBi (v1N vLen) (aCons (eVar 2) (aNil))) (eD (.int 1))) (aNil))))) (eBi (v1N vLen) (aCons (eVar 2) (aNil))))))
  (sPut vPutA (e2 vEq (eCall F__law_pick (aCons (eVar 0) (aCons (eD (.int 3)) (aNil)))) (eD (.int 0))) (eVar 3) (eBi vTup (aCons (e2 vIxA (eVar 2) (eVar 7)) (aCons (eVar 5) (aNil))))))))
  (sRet (eBi (v1N vToT) (aCons (eLc (iAny (eBi (vSortA) (aCons (eVar 3) (aNil)))) (.one 8) (bYes) (e2 vAdd (eVar 8) (eBi vTup (aCons (e2 vIxA (eVar 3) (eVar 8)) (aNil)))) [8]) (aNil)))))))
def F__law_house : FnF := pureF (fnRes N__law_house.length (["deck", "most"] : List Str).length m__law_house)
abbrev N__law_places : List Str := ["deck", "house", "most", "some", "k"]
def m__law_places : EvS := sSeq (sSet 3 (eCall F__law_rooms (aCons (eVar 1) (aNil))))
  (sRet (eBi (v1N vToT) (aCons (eLc (iRng1 (e2 vAdd (eD (.int 1)) (eCall F__law_pick (aCons (eVar 0) (aCons (eVar 2) (aNil)))))) (.one 4) (bYes) (e2 vIxA (eVar 3) (eCall F__law_pick (aCons (eVar 0) (aCons (eBi (v1N vLen) (aCons (eVar 3) (aNil))) (aNil))))) [4]) (aNil))))
def F__law_places : FnF := pureF (fnRes N__law_places.length (["deck", "house", "most"] : List Str).length m__law_places)
abbrev N_steps : List Str := ["house", "stand", "found", "walker", "place", "way"]
def m_steps : EvS := sSeq (sSet 2 (eBi vNewL (aNil)))
  (sSeq (sFor (iEnumQ (e2 vIxA (eVar 1) (eD (.int 0)))) (gT ([3, 4].map gN)) (sAug 2 (eLc (iAny (eVar 0)) (.one 5) (bAnd (eB (e2 vEq (e2 vIxA (eVar 5) (eD (.int 0))) (eVar 4))) (eB (eCall F_can_go (aCons (eVar 1) (aCons (eVar 5) (aNil)))))) (eBi vTup (aCons (eVar 3) (aCons (e2 vIxA (eVar 5) (eD (.int 1))) (aNil)))) [5])))
  (sRet (eBi (vSortA) (aCons (eVar 2) (aNil)))))
def F_steps : FnF := pureF (fnRes N_steps.length (["house", "stand"] : List Str).length m_steps)
abbrev N__law_gone : List Str := ["stand", "step", "walker", "room", "places", "left", "dark", "one"]
def m__law_gone : EvS := sSeq (sAsg (eVar 1) (gT ([2, 3].map gN)))
  (sSeq (sSet 4 (eBi (v1N vToNewL) (aCons (e2 vIxA (eVar 0) (eD (.int 0))) (aNil))))
  (sSeq (sSet 5 (e2 vIxA (eVar 4) (eVar 2)))
  (sSeq (sPut vPutA (eVar 3) (eVar 4) (eVar 2))
  (sSeq (sSet 6 (eBi (vSortA) (aCons (eLc (iAny (e2 vAdd (eBi (v1N vToL) (aCons (e2 vIxA (eVar 0) (eD (.int 1))) (aNil))) (eBi vLst (aCons (eVar 5) (aNil))))) (.one 7) (eB (e2 (vInA true) (eVar 7) (eVar 4))) (eVar 7) [7]) (aNil))))
  (sRet (eBi vTup (aCons (eBi (v1N vToT) (aCons (eVar 4) (aNil))) (aCons (eBi (v1N vToT) (aCons (eVar 6) (aNil))) (aNil)))))))))
def F__law_gone : FnF := pureF (fnRes N__law_gone.length (["stand", "step"] : List Str).length m__law_gone)
abbrev N__law_met : List Str := ["stand", "wish", "place", "room"]
def m__law_met : EvS := sRet (e2 vEq (eLc (iZipQ (e2 vIxA (eVar 0) (eD (.int 0))) (eVar 1)) (.tup [2, 3]) (bAnd (eB (e2 vIsNot (eVar 3) (eD .none))) (eB (e2 vNe (eVar 3) (eVar 2)))) (eD (.int 1)) [2, 3]) (eBi vLst (aNil)))
def F__law_met : FnF := pureF (fnRes N__law_met.length (["stand", "wish"] : List Str).length m__law_met)
abbrev N__law_steps : List Str := ["house", "stand", "found", "walker", "place", "one", "other", "key"]
def m__law_steps : EvS := sSeq (sSet 2 (eBi vNewL (aNil)))
  (sSeq (sFor (iEnumQ (e2 vIxA (eVar 1) (eD (.int 0)))) (gT ([3, 4].map gN)) (sFor (iAny (eVar 0)) (gT ([5, 6, 7].map gN)) (sIf (bAnd (eB (e2 vEq (eVar 5) (eVar 4))) (bOr (eB (eVar 7)) (bOr (eB (e2 (vInA false) (eVar 6) (e2 vIxA (eVar 1) (eD (.int 0))))) (eB (e2 (vInA true) (eVar 6) (e2 vIxA (eVar 1) (eD (.int 1)))))))) (sDrop (eMt "list" mAppend (eVar 2) (aCons (eBi vTup (aCons (eVar 3) (aCons (eVar 6) (aNil)))) (aNil)))) (sSkip))))
  (sRet (eBi (vSortA) (aCons (eVar 2) (aNil)))))
def F__law_steps : FnF := pureF (fnRes N__law_steps.length (["house", "stand"] : List Str).length m__law_steps)
abbrev N_gone : List Str := ["stand", "step", "places", "shut", "walker", "room", "left", "after", "dark", "one"]
def m_gone : EvS := sSeq (sAsg (eVar 0) (gT ([2, 3].map gN)))
  (sSeq (sAsg (eVar 1) (gT ([4, 5].map gN)))
  (sSeq (sSet 6 (e2 vIxA (eVar 2) (eVar 4)))
  (sSeq (sSet 7 (e2 vAdd (e2 vAdd (eSl (eVar 2) (oNone) (oSome (eVar 4))) (eBi vTup (aCons (eVar 5) (aNil)))) (eSl (eVar 2) (oSome (e2 vAdd (eVar 4) (eD (.int 1)))) (oNone))))
  (sSeq (sSet 8 (e2 vAdd (eLc (iAny (eVar 3)) (.one 9) (eB (e2 vNe (eVar 9) (eVar 5))) (eVar 9) [9]) (e2 vMul (eBi vLst (aCons (eVar 6) (aNil))) (eBi (v1N vToI) (aCons (e2 (vInA true) (eVar 6) (eVar 7)) (aNil))))))
  (sRet (eBi vTup (aCons (eVar 7) (aCons (eBi (v1N vToT) (aCons (eBi (vSortA) (aCons (eVar 8) (aNil))) (aNil))) (aNil)))))))))
def F_gone : FnF := pureF (fnRes N_gone.length (["stand", "step"] : List Str).length m_gone)
abbrev N_is_rising : List Str := ["things", "one", "other"]
def m_is_rising : EvS := sRet (eBi (v1N vAll) (aCons (eLc (iZipQ (eVar 0) (eSl (eVar 0) (oSome (eD (.int 1))) (oNone))) (.tup [1, 2]) (bYes) (e2 vLt (eVar 1) (eVar 2)) [1, 2]) (aNil)))
def F_is_rising : FnF := pureF (fnRes N_is_rising.length (["things"] : List Str).length m_is_rising)
abbrev N_meets : List Str := ["stand", "wish", "place", "room"]
def m_meets : EvS := sRet (eBi (v1N vAll) (aCons (eLc (iZipQ (e2 vIxA (eVar 0) (eD (.int 0))) (eVar 1)) (.tup [2, 3]) (bYes) (eOr (e2 vIs (eVar 3) (eD .none)) (e2 vEq (eVar 3) (eVar 2))) [2, 3]) (aNil)))
def F_meets : FnF := pureF (fnRes N_meets.length (["stand", "wish"] : List Str).length m_meets)
abbrev N__law_reached : List Str := ["house", "stand", "found", "row", "later", "here", "step", "there"]
def m__law_reached : EvS := sSeq (sSet 2 (eD1 (eVar 1) (eD (.int 0))))
  (sSeq (sSet 3 (eBi vLst (aCons (eVar 1) (aNil))))
  (sSeq (whileL (eB (e2 vNe (eVar 3) (eBi vLst (aNil)))) (sSeq (sSet 4 (eBi vNewL (aNil)))
  (sSeq (sFor (iAny (eVar 3)) (gN 5) (sFor (iAny (eCall F__law_steps (aCons (eVar 0) (aCons (eVar 5) (aNil))))) (gN 6) (sSeq (sSet 7 (eCall F__law_gone (aCons (eVar 5) (aCons (eVar 6) (aNil)))))
  (sIf (eB (e2 (vInA true) (eVar 7) (eVar 2))) (sSeq (sPut vPutA (e2 vAdd (e2 vIxA (eVar 2) (eVar 5)) (eD (.int 1))) (eVar 2) (eVar 7))
  (sDrop (eMt "list" mAppend (eVar 4) (aCons (eVar 7) (aNil))))) (sSkip)))))
  (sSet 3 (eFrz (eVar 4))))) 20000)
  (sRet (eFrz (eVar 2)))))
def F__law_reached : FnF := pureF (fnRes N__law_reached.length (["house", "stand"] : List Str).length m__law_reached)
abbrev N__law_wish : List Str := ["deck", "house", "size", "some", "k"]
def m__law_wish : EvS := sSeq (sSet 3 (e2 vAdd (eCall F__law_rooms (aCons (eVar 1) (aNil))) (eBi vLst (aCons (eD .none) (aNil)))))
  (sRet (eBi (v1N vToT) (aCons (eLc (iRng1 (eVar 2)) (.one 4) (bYes) (e2 vIxA (eVar 3) (eCall F__law_pick (aCons (eVar 0) (aCons (eBi (v1N vLen) (aCons (eVar 3) (aNil))) (aNil))))) [4]) (aNil))))
def F__law_wish : FnF := pureF (fnRes N__law_wish.length (["deck", "house", "size"] : List Str).length m__law_wish)
abbrev N_are_places : List Str := ["house", "thing", "room"]
def m_are_places : EvS := sSeq (sIf (bOr (bNot (eB (e1 (vIsi PyData.isTuple) (eVar 1)))) (bNot (eB (eChain vLe vLe (eD (.int 1)) (eBi (v1N vLen) (aCons (eVar 1) (aNil))) (eD (.int 3)))))) (sRet (eD (.bool false))) (sSkip))
  (sRet (eBi (v1N vAll) (aCons (eLc (iAny (eVar 1)) (.one 2) (bYes) (eAnd (e1 (vIsi PyData.isStr) (eVar 2)) (e2 (vInA false) (eVar 2) (eCall F_rooms (aCons (eVar 0) (aNil))))) [2]) (aNil))))
def F_are_places : FnF := pureF (fnRes N_are_places.length (["house", "thing"] : List Str).length m_are_places)
abbrev N__law_scene : List Str := ["deck", "size", "house", "some", "places", "dark", "room", "k"]
def m__law_scene : EvS := sSeq (sSet 1 (e2 vAdd (eD (.int 1)) (eCall F__law_pick (aCons (eVar 0) (aCons (eD (.int 3)) (aNil))))))
  (sSeq (sSet 2 (eCall F__law_house (aCons (eVar 0) (aCons (e2 vSub (eD (.int 7)) (eVar 1)) (aNil)))))
  (sSeq (sSet 3 (eCall F__law_rooms (aCons (eVar 2) (aNil))))
  (sSeq (sSet 4 (eBi (v1N vToT) (aCons (eLc (iRng1 (eVar 1)) (.one 7) (bYes) (e2 vIxA (eVar 3) (eCall F__law_pick (aCons (eVar 0) (aCons (eBi (v1N vLen) (aCons (eVar 3) (aNil))) (aNil))))) [7]) (aNil))))
  (sSeq (sSet 5 (eLc (iAny (eVar 3)) (.one 6) (bAnd (eB (e2 (vInA true) (eVar 6) (eVar 4))) (eB (e2 vEq (eCall F__law_pick (aCons (eVar 0) (aCons (eD (.int 2)) (aNil)))) (eD (.int 0))))) (eVar 6) [6]))
  (sRet (eBi vTup (aCons (eVar 2) (aCons (eBi vTup (aCons (eVar 4) (aCons (eBi (v1N vToT) (aCons (eVar 5) (aNil))) (aNil)))) (aNil)))))))))
def F__law_scene : FnF := pureF (fnRes N__law_scene.length (["deck"] : List Str).length m__law_scene)
abbrev N__law_stand : List Str := ["deck", "house", "most", "places", "dark", "room"]
def m__law_stand : EvS := sSeq (sSet 3 (eCall F__law_places (aCons (eVar 0) (aCons (eVar 1) (aCons (eVar 2) (aNil))))))
  (sSeq (sSet 4 (eLc (iAny (eCall F__law_rooms (aCons (eVar 1) (aNil)))) (.one 5) (bAnd (eB (e2 (vInA true) (eVar 5) (eVar 3))) (eB (e2 vEq (eCall F__law_pick (aCons (eVar 0) (aCons (eD (.int 2)) (aNil)))) (eD (.int 0))))) (eVar 5) [5]))
  (sRet (eBi vTup (aCons (eVar 3) (aCons (eBi (v1N vToT) (aCons (eVar 4) (aNil))) (aNil))))))
def F__law_stand : FnF := pureF (fnRes N__law_stand.length (["deck", "house", "most"] : List Str).length m__law_stand)
abbrev N_come_to : List Str := ["house", "stand", "found", "row", "later", "here", "step", "there"]
def m_come_to : EvS := sSeq (sSet 2 (eD1 (eVar 1) (eD .none)))
  (sSeq (sSet 3 (eBi vLst (aCons (eVar 1) (aNil))))
  (sSeq (whileL (eB (e2 vNe (eVar 3) (eBi vLst (aNil)))) (sSeq (sSet 4 (eBi vNewL (aNil)))
  (sSeq (sFor (iAny (eVar 3)) (gN 5) (sFor (iAny (eCall F_steps (aCons (eVar 0) (aCons (eVar 5) (aNil))))) (gN 6) (sSeq (sSet 7 (eCall F_gone (aCons (eVar 5) (aCons (eVar 6) (aNil)))))
  (sIf (eB (e2 (vInA true) (eVar 7) (eVar 2))) (sSeq (sPut vPutA (eBi vTup (aCons (eVar 5) (aCons (eVar 6) (aNil)))) (eVar 2) (eVar 7))
  (sDrop (eMt "list" mAppend (eVar 4) (aCons (eVar 7) (aNil))))) (sSkip)))))
  (sSet 3 (eFrz (eVar 4))))) 20000)
  (sRet (eFrz (eVar 2)))))
def F_come_to : FnF := pureF (fnRes N_come_to.length (["house", "stand"] : List Str).length m_come_to)
abbrev N_is_stand : List Str := ["house", "thing", "places", "shut", "room"]
def m_is_stand : EvS := sSeq (sIf (bOr (bNot (eB (e1 (vIsi PyData.isTuple) (eVar 1)))) (bOr (eB (e2 vNe (eBi (v1N vLen) (aCons (eVar 1) (aNil))) (eD (.int 2)))) (bNot (eB (eCall F_are_places (aCons (eVar 0) (aCons (e2 vIxA (eVar 1) (eD (.int 0))) (aNil)))))))) (sRet (eD (.bool false))) (sSkip))
  (sSeq (sAsg (eVar 1) (gT ([2, 3].map gN)))
  (sSeq (sIf (bOr (bNot (eB (e1 (vIsi PyData.isTuple) (eVar 3)))) (bOr (bNot (eB (eBi (v1N vAll) (aCons (eLc (iAny (eVar 3)) (.one 4) (bYes) (e1 (vIsi PyData.isStr) (eVar 4)) [4]) (aNil))))) (bNot (eB (eCall F_is_rising (aCons (eVar 3) (aNil))))))) (sRet (eD (.bool false))) (sSkip))
  (sRet (eBi (v1N vAll) (aCons (eLc (iAny (eVar 3)) (.one 4) (bYes) (eAnd (e2 (vInA false) (eVar 4) (eCall F_rooms (aCons (eVar 0) (aNil)))) (e2 (vInA true) (eVar 4) (eVar 2))) [4]) (aNil))))))
def F_is_stand : FnF := pureF (fnRes N_is_stand.length (["house", "thing"] : List Str).length m_is_stand)
abbrev N_closed_lot : List Str := ["house", "stand", "wish", "found", "there"]
def m_closed_lot : EvS := sSeq (sSet 3 (eBi (v1N vToT) (aCons (eBi (vSortA) (aCons (eCall F_come_to (aCons (eVar 0) (aCons (eVar 1) (aNil)))) (aNil))) (aNil))))
  (sSeq (sIf (eB (eBi (v1N vAny) (aCons (eLc (iAny (eVar 3)) (.one 4) (bYes) (eCall F_meets (aCons (eVar 4) (aCons (eVar 2) (aNil)))) [4]) (aNil)))) (sRet (eD .none)) (sSkip))
  (sRet (eVar 3)))
def F_closed_lot : FnF := pureF (fnRes N_closed_lot.length (["house", "stand", "wish"] : List Str).length m_closed_lot)
abbrev N_is_closed : List Str := ["house", "stand", "wish", "thing", "known", "here", "one", "step"]
def m_is_closed : EvS := sSeq (sIf (bOr (bNot (eB (e1 (vIsi PyData.isTuple) (eVar 3)))) (bOr (bNot (eB (eBi (v1N vAll) (aCons (eLc (iAny (eVar 3)) (.one 6) (bYes) (eCall F_is_stand (aCons (eVar 0) (aCons (eVar 6) (aNil)))) [6]) (aNil))))) (bNot (eB (eCall F_is_rising (aCons (eVar 3) (aNil))))))) (sRet (eD (.bool false))) (sSkip))
  (sSeq (sSet 4 (eDc (iAny (eVar 3)) (.one 6) (eVar 6) (eD (.bool true)) [6]))
  (sSeq (sIf (eB (e2 (vInA true) (eVar 1) (eVar 4))) (sRet (eD (.bool false))) (sSkip))
  (sSeq (sFor (iAny (eVar 3)) (gN 5) (sSeq (sIf (bOr (eB (e2 vNe (eBi (v1N vLen) (aCons (e2 vIxA (eVar 5) (eD (.int 0))) (aNil))) (eBi (v1N vLen) (aCons (e2 vIxA (eVar 1) (eD (.int 0))) (aNil))))) (eB (eCall F_meets (aCons (eVar 5) (aCons (eVar 2) (aNil)))))) (sRet (eD (.bool false))) (sSkip))
  (sIf (bNot (eB (eBi (v1N vAll) (aCons (eLc (iAny (eCall F_steps (aCons (eVar 0) (aCons (eVar 5) (aNil))))) (.one 7) (bYes) (e2 (vInA false) (eCall F_gone (aCons (eVar 5) (aCons (eVar 7) (aNil)))) (eVar 4)) [7]) (aNil))))) (sRet (eD (.bool false))) (sSkip))))
  (sRet (eD (.bool true))))))
def F_is_closed : FnF := pureF (fnRes N_is_closed.length (["house", "stand", "wish", "thing"] : List Str).length m_is_closed)
abbrev N_shortest : List Str := ["house", "stand", "wish", "known", "there", "walk", "step"]
def m_shortest : EvS := sSeq (sSet 3 (eCall F_come_to (aCons (eVar 0) (aCons (eVar 1) (aNil)))))
  (sSeq (sFor (iAny (eVar 3)) (gN 4) (sIf (eB (eCall F_meets (aCons (eVar 4) (aCons (eVar 2) (aNil))))) (sSeq (sSet 5 (eBi vNewL (aNil)))
  (sSeq (whileL (eB (e2 vIsNot (e2 vIxA (eVar 3) (eVar 4)) (eD .none))) (sSeq (sAsg (e2 vIxA (eVar 3) (eVar 4)) (gT ([4, 6].map gN)))
  (sDrop (eMt "list" mInsert (eVar 5) (aCons (eD (.int 0)) (aCons (eVar 6) (aNil)))))) 20000)
  (sRet (eFrz (eVar 5))))) (sSkip)))
  (sRet (eD .none)))
def F_shortest : FnF := pureF (fnRes N_shortest.length (["house", "stand", "wish"] : List Str).length m_shortest)
abbrev N_alone : List Str := ["house", "stands", "walker", "room", "found", "line", "here", "step", "stand"]
def m_alone : EvS := sSeq (sSet 4 (eDc (iAny (eVar 1)) (.one 8) (eVar 8) (eD (.bool true)) [8]))
  (sSeq (sSet 5 (eBi (v1N vToNewL) (aCons (eVar 1) (aNil))))
  (sSeq (whileL (eB (e2 vNe (eVar 5) (eBi vLst (aNil)))) (sSeq (sSet 6 (eM0 "list" mPop (eVar 5)))
  (sFor (iAny (eCall F_steps (aCons (eVar 0) (aCons (eVar 6) (aNil))))) (gN 7) (sIf (bAnd (eB (e2 vEq (e2 vIxA (eVar 7) (eD (.int 0))) (eVar 2))) (eB (e2 (vInA true) (eCall F_gone (aCons (eVar 6) (aCons (eVar 7) (aNil)))) (eVar 4)))) (sSeq (sPut vPutA (eD (.bool true)) (eVar 4) (eCall F_gone (aCons (eVar 6) (aCons (eVar 7) (aNil)))))
  (sDrop (eMt "list" mAppend (eVar 5) (aCons (eCall F_gone (aCons (eVar 6) (aCons (eVar 7) (aNil)))) (aNil))))) (sSkip)))) 20000)
  (sRet (eLc (iAny (eFrz (eVar 4))) (.one 8) (eB (e2 vEq (e2 vIxA (e2 vIxA (eVar 8) (eD (.int 0))) (eVar 2)) (eVar 3))) (eVar 8) [8]))))
def F_alone : FnF := pureF (fnRes N_alone.length (["house", "stands", "walker", "room"] : List Str).length m_alone)
abbrev N_can_be_met : List Str := ["house", "stand", "wish", "there"]
def m_can_be_met : EvS := sRet (eBi (v1N vAny) (aCons (eLc (iAny (eCall F_come_to (aCons (eVar 0) (aCons (eVar 1) (aNil))))) (.one 3) (bYes) (eCall F_meets (aCons (eVar 3) (aCons (eVar 2) (aNil)))) [3]) (aNil)))
def F_can_be_met : FnF := pureF (fnRes N_can_be_met.length (["house", "stand", "wish"] : List Str).length m_can_be_met)
abbrev N_orders_on : List Str := ["house", "stands", "wish", "left", "found", "walker", "others", "order", "one"]
def m_orders_on (Fr : FnF) : EvS := sSeq (sIf (eB (e2 vEq (eVar 1) (eBi vLst (aNil)))) (sRet (eBi vLst (aNil))) (sSkip))
  (sSeq (sIf (eB (e2 vEq (eVar 3) (eBi vLst (aNil)))) (sRet (eBi vLst (aCons (eBi vTup (aNil)) (aNil)))) (sSkip))
  (sSeq (sSet 4 (eBi vNewL (aNil)))
  (sSeq (sFor (iAny (eVar 3)) (gN 5) (sSeq (sSet 6 (eLc (iAny (eVar 3)) (.one 8) (eB (e2 vNe (eVar 8) (eVar 5))) (eVar 8) [8]))
  (sFor (iAny (eCall Fr (aCons (eVar 0) (aCons (eCall F_alone (aCons (eVar 0) (aCons (eVar 1) (aCons (eVar 5) (aCons (e2 vIxA (eVar 2) (eVar 5)) (aNil)))))) (aCons (eVar 2) (aCons (eVar 6) (aNil))))))) (gN 7) (sDrop (eMt "list" mAppend (eVar 4) (aCons (e2 vAdd (eBi vTup (aCons (eVar 5) (aNil))) (eVar 7)) (aNil)))))))
  (sRet (eFrz (eVar 4))))))
def F_orders_on : Nat → FnF
  | 0 => pureF (fnRes N_orders_on.length (["house", "stands", "wish", "left"] : List Str).length sNo)
  | n + 1 => pureF (fnRes N_orders_on.length (["house", "stands", "wish", "left"] : List Str).length (m_orders_on (F_orders_on n)))
abbrev N_not_first : List Str := ["house", "stand", "wish", "good", "step", "walker"]
def m_not_first : EvS := sSeq (sIf (bOr (eB (eCall F_meets (aCons (eVar 1) (aCons (eVar 2) (aNil))))) (bNot (eB (eCall F_can_be_met (aCons (eVar 0) (aCons (eVar 1) (aCons (eVar 2) (aNil)))))))) (sRet (eBi vLst (aNil))) (sSkip))
  (sSeq (sSet 3 (eLc (iAny (eCall F_steps (aCons (eVar 0) (aCons (eVar 1) (aNil))))) (.one 4) (eB (eCall F_can_be_met (aCons (eVar 0) (aCons (eCall F_gone (aCons (eVar 1) (aCons (eVar 4) (aNil)))) (aCons (eVar 2) (aNil)))))) (e2 vIxA (eVar 4) (eD (.int 0))) [4]))
  (sRet (eLc (iRng1 (eBi (v1N vLen) (aCons (e2 vIxA (eVar 1) (eD (.int 0))) (aNil)))) (.one 5) (eB (e2 (vInA true) (eVar 5) (eVar 3))) (eVar 5) [5])))
def F_not_first : FnF := pureF (fnRes N_not_first.length (["house", "stand", "wish"] : List Str).length m_not_first)
abbrev N_orders : List Str := ["house", "stand", "wish", "walker", "room"]
def m_orders : EvS := sRet (eCall (F_orders_on 6) (aCons (eVar 0) (aCons (eBi vLst (aCons (eVar 1) (aNil))) (aCons (eVar 2) (aCons (eLc (iEnumQ (eVar 2)) (.tup [3, 4]) (eB (e2 vIsNot (eVar 4) (eD .none))) (eVar 3) [3, 4]) (aNil))))))
def F_orders : FnF := pureF (fnRes N_orders.length (["house", "stand", "wish"] : List Str).length m_orders)
abbrev N_is_whole : List Str := ["thing"]
def m_is_whole : EvS := sRet (eAnd (e1 (vIsi PyData.isInt) (eVar 0)) (eNot (e1 (vIsi PyData.isBool) (eVar 0))))
def F_is_whole : FnF := pureF (fnRes N_is_whole.length (["thing"] : List Str).length m_is_whole)
abbrev N_maybe_ahead : List Str := ["house", "stand", "places", "shut", "found", "walker", "room", "one", "other", "key", "before", "dark", "more", "place"]
def m_maybe_ahead : EvS := sSeq (sAsg (eVar 1) (gT ([2, 3].map gN)))
  (sSeq (sSet 4 (eBi vNewL (aNil)))
  (sSeq (sFor (iEnumQ (eVar 2)) (gT ([5, 6].map gN)) (sFor (iAny (eVar 0)) (gT ([7, 8, 9].map gN)) (sIf (eB (e2 vEq (eVar 8) (eVar 6))) (sSeq (sSet 10 (e2 vAdd (e2 vAdd (eSl (eVar 2) (oNone) (oSome (eVar 5))) (eBi vTup (aCons (eVar 7) (aNil)))) (eSl (eVar 2) (oSome (e2 vAdd (eVar 5) (eD (.int 1)))) (oNone))))
  (sSeq (sSet 11 (eLc (iAny (eVar 3)) (.one 13) (eB (e2 vNe (eVar 13) (eVar 7))) (eVar 13) [13]))
  (sFor (iAny (eIf (eB (e2 (vInA true) (eVar 6) (eVar 10))) (eBi vLst (aCons (eBi vLst (aNil)) (aCons (eBi vLst (aCons (eVar 6) (aNil))) (aNil)))) (eBi vLst (aCons (eBi vLst (aNil)) (aNil))))) (gN 12) (sDrop (eMt "list" mAppend (eVar 4) (aCons (eBi vTup (aCons (eBi vTup (aCons (eVar 10) (aCons (eBi (v1N vToT) (aCons (eBi (vSortA) (aCons (e2 vAdd (eVar 11) (eVar 12)) (aNil))) (aNil))) (aNil)))) (aCons (eBi vTup (aCons (eVar 5) (aCons (eVar 6) (aNil)))) (aNil)))) (aNil))))))) (sSkip))))
  (sRet (eFrz (eVar 4)))))
def F_maybe_ahead : FnF := pureF (fnRes N_maybe_ahead.length (["house", "stand"] : List Str).length m_maybe_ahead)
abbrev N_is_step : List Str := ["house", "stand", "thing"]
def m_is_step : EvS := sSeq (sIf (bOr (bNot (eB (e1 (vIsi PyData.isTuple) (eVar 2)))) (bOr (eB (e2 vNe (eBi (v1N vLen) (aCons (eVar 2) (aNil))) (eD (.int 2)))) (bOr (bNot (eB (eCall F_is_whole (aCons (e2 vIxA (eVar 2) (eD (.int 0))) (aNil))))) (bNot (eB (e1 (vIsi PyData.isStr) (e2 vIxA (eVar 2) (eD (.int 1))))))))) (sRet (eD (.bool false))) (sSkip))
  (sRet (e2 (vInA false) (eVar 2) (eCall F_steps (aCons (eVar 0) (aCons (eVar 1) (aNil))))))
def F_is_step : FnF := pureF (fnRes N_is_step.length (["house", "stand", "thing"] : List Str).length m_is_step)
abbrev N_behind : List Str := ["house", "stand", "step"]
def m_behind : EvS := sSeq (sIf (bNot (eB (eCall F_is_step (aCons (eVar 0) (aCons (eVar 1) (aCons (eVar 2) (aNil))))))) (sNo) (sSkip))
  (sRet (eCall F_gone (aCons (eVar 1) (aCons (eVar 2) (aNil)))))
def F_behind : FnF := pureF (fnRes N_behind.length (["house", "stand", "step"] : List Str).length m_behind)
abbrev N_step_ahead : List Str := ["house", "stand", "before", "step"]
def m_step_ahead : EvS := sRet (eBi (vSortA) (aCons (eLc (iAny (eCall F_maybe_ahead (aCons (eVar 0) (aCons (eVar 1) (aNil))))) (.tup [2, 3]) (bAnd (eB (eCall F_is_step (aCons (eVar 0) (aCons (eVar 2) (aCons (eVar 3) (aNil)))))) (eB (e2 vEq (eCall F_gone (aCons (eVar 2) (aCons (eVar 3) (aNil)))) (eVar 1)))) (eBi vTup (aCons (eVar 2) (aCons (eVar 3) (aNil)))) [2, 3]) (aNil)))
def F_step_ahead : FnF := pureF (fnRes N_step_ahead.length (["house", "stand"] : List Str).length m_step_ahead)
abbrev N_stands_ahead : List Str := ["house", "stand", "many", "found", "turn", "row", "here", "before", "step"]
def m_stands_ahead : EvS := sSeq (sSet 3 (eBi vLst (aCons (eVar 1) (aNil))))
  (sSeq (sFor (iRng1 (eVar 2)) (gN 4) (sSeq (sSet 5 (eD0))
  (sSeq (sFor (iAny (eVar 3)) (gN 6) (sFor (iAny (eCall F_step_ahead (aCons (eVar 0) (aCons (eVar 6) (aNil))))) (gT ([7, 8].map gN)) (sPut vPutA (eD (.bool true)) (eVar 5) (eVar 7))))
  (sSet 3 (eBi (vSortA) (aCons (eVar 5) (aNil)))))))
  (sRet (eVar 3)))
def F_stands_ahead : FnF := pureF (fnRes N_stands_ahead.length (["house", "stand", "many"] : List Str).length m_stands_ahead)
abbrev N_with_keys : List Str := ["house", "pairs", "key", "way"]
def m_with_keys : EvS := sRet (eBi (v1N vToT) (aCons (eLc (iAny (eVar 0)) (.one 3) (bYes) (eIf (eB (e2 (vInA false) (eSl (eVar 3) (oNone) (oSome (eD (.int 2)))) (eVar 1))) (e2 vAdd (eSl (eVar 3) (oNone) (oSome (eD (.int 2)))) (eBi vTup (aCons (eVar 2) (aNil)))) (eVar 3)) [3]) (aNil)))
def F_with_keys : FnF := pureF (fnRes N_with_keys.length (["house", "pairs", "key"] : List Str).length m_with_keys)
abbrev N_idle_keys : List Str := ["house", "stand", "every", "found", "way"]
def m_idle_keys : EvS := sSeq (sSet 2 (eBi (vSortA) (aCons (eCall F_come_to (aCons (eVar 0) (aCons (eVar 1) (aNil)))) (aNil))))
  (sSeq (sSet 3 (eBi vNewL (aNil)))
  (sSeq (sFor (iAny (eVar 0)) (gN 4) (sIf (bAnd (eB (e2 vIxA (eVar 4) (eD (.int 2)))) (eB (e2 vEq (eBi (vSortA) (aCons (eCall F_come_to (aCons (eCall F_with_keys (aCons (eVar 0) (aCons (eBi vLst (aCons (eSl (eVar 4) (oNone) (oSome (eD (.int 2)))) (aNil))) (aCons (eD (.bool false)) (aNil))))) (aCons (eVar 1) (aNil)))) (aNil))) (eVar 2)))) (sDrop (eMt "list" mAppend (eVar 3) (aCons (eSl (eVar 4) (oNone) (oSome (eD (.int 2)))) (aNil)))) (sSkip)))
  (sRet (eFrz (eVar 3)))))
def F_idle_keys : FnF := pureF (fnRes N_idle_keys.length (["house", "stand"] : List Str).length m_idle_keys)
abbrev N_parting : List Str := ["one", "other", "stand", "known", "line", "here", "first", "second", "apart", "step", "there"]
def m_parting : EvS := sSeq (sIf (eB (e2 vNe (eCall F_rooms (aCons (eVar 0) (aNil))) (eCall F_rooms (aCons (eVar 1) (aNil))))) (sNo) (sSkip))
  (sSeq (sSet 3 (eD1 (eVar 2) (eBi vLst (aNil))))
  (sSeq (sSet 4 (eBi vNewL (aCons (eVar 2) (aNil))))
  (sSeq (whileL (eB (e2 vNe (eVar 4) (eBi vLst (aNil)))) (sSeq (sSet 5 (eMt "list" mPopAt (eVar 4) (aCons (eD (.int 0)) (aNil))))
  (sSeq (sAsg (eBi vTup (aCons (eCall F_steps (aCons (eVar 0) (aCons (eVar 5) (aNil)))) (aCons (eCall F_steps (aCons (eVar 1) (aCons (eVar 5) (aNil)))) (aNil)))) (gT ([6, 7].map gN)))
  (sSeq (sSet 8 (eBi (vSortA) (aCons (e2 vAdd (eLc (iAny (eVar 6)) (.one 9) (eB (e2 (vInA true) (eVar 9) (eVar 7))) (eVar 9) [9]) (eLc (iAny (eVar 7)) (.one 9) (eB (e2 (vInA true) (eVar 9) (eVar 6))) (eVar 9) [9])) (aNil))))
  (sSeq (sIf (eB (e2 vNe (eVar 8) (eBi vLst (aNil)))) (sRet (e2 vAdd (e2 vIxA (eVar 3) (eVar 5)) (eSl (eVar 8) (oNone) (oSome (eD (.int 1)))))) (sSkip))
  (sFor (iAny (eVar 6)) (gN 9) (sSeq (sSet 10 (eCall F_gone (aCons (eVar 5) (aCons (eVar 9) (aNil)))))
  (sIf (eB (e2 (vInA true) (eVar 10) (eVar 3))) (sSeq (sPut vPutA (e2 vAdd (e2 vIxA (eVar 3) (eVar 5)) (eBi vLst (aCons (eVar 9) (aNil)))) (eVar 3) (eVar 10))
  (sDrop (eMt "list" mAppend (eVar 4) (aCons (eVar 10) (aNil))))) (sSkip)))))))) 20000)
  (sRet (eD .none)))))
def F_parting : FnF := pureF (fnRes N_parting.length (["one", "other", "stand"] : List Str).length m_parting)
abbrev N_walked : List Str := ["house", "stand", "walk", "at", "step"]
def m_walked : EvS := sSeq (sFor (iEnumQ (eVar 2)) (gT ([3, 4].map gN)) (sSeq (sIf (bNot (eB (eCall F_is_step (aCons (eVar 0) (aCons (eVar 1) (aCons (eVar 4) (aNil))))))) (sNo) (sSkip))
  (sSet 1 (eCall F_gone (aCons (eVar 1) (aCons (eVar 4) (aNil)))))))
  (sRet (eVar 1))
def F_walked : FnF := pureF (fnRes N_walked.length (["house", "stand", "walk"] : List Str).length m_walked)
abbrev N_is_name : List Str := ["thing", "sign"]
def m_is_name : EvS := sRet (eAnd (e1 (vIsi PyData.isStr) (eVar 0)) (eAnd (eChain vLe vLe (eD (.int 1)) (eBi (v1N vLen) (aCons (eVar 0) (aNil))) (eD (.int 8))) (eBi (v1N vAll) (aCons (eLc (iAny (eVar 0)) (.one 1) (bYes) (e2 (vInA false) (eVar 1) (eD (.str "abcdefghijklmnopqrstuvwxyz"))) [1]) (aNil)))))
def F_is_name : FnF := pureF (fnRes N_is_name.length (["thing"] : List Str).length m_is_name)
abbrev N_is_way : List Str := ["thing"]
def m_is_way : EvS := sSeq (sIf (bOr (bNot (eB (e1 (vIsi PyData.isTuple) (eVar 0)))) (bOr (eB (e2 vNe (eBi (v1N vLen) (aCons (eVar 0) (aNil))) (eD (.int 3)))) (bNot (eB (e1 (vIsi PyData.isBool) (e2 vIxA (eVar 0) (eD (.int 2)))))))) (sRet (eD (.bool false))) (sSkip))
  (sRet (eAnd (eCall F_is_name (aCons (e2 vIxA (eVar 0) (eD (.int 0))) (aNil))) (eAnd (eCall F_is_name (aCons (e2 vIxA (eVar 0) (eD (.int 1))) (aNil))) (e2 vNe (e2 vIxA (eVar 0) (eD (.int 0))) (e2 vIxA (eVar 0) (eD (.int 1)))))))
def F_is_way : FnF := pureF (fnRes N_is_way.length (["thing"] : List Str).length m_is_way)
abbrev N_is_house : List Str := ["thing", "way"]
def m_is_house : EvS := sSeq (sIf (bOr (bNot (eB (e1 (vIsi PyData.isTuple) (eVar 0)))) (bOr (bNot (eB (eChain vLe vLe (eD (.int 1)) (eBi (v1N vLen) (aCons (eVar 0) (aNil))) (eD (.int 16))))) (bNot (eB (eBi (v1N vAll) (aCons (eLc (iAny (eVar 0)) (.one 1) (bYes) (eCall F_is_way (aCons (eVar 1) (aNil))) [1]) (aNil))))))) (sRet (eD (.bool false))) (sSkip))
  (sRet (eAnd (eCall F_is_rising (aCons (eLc (iAny (eVar 0)) (.one 1) (bYes) (eSl (eVar 1) (oNone) (oSome (eD (.int 2)))) [1]) (aNil))) (e2 vLe (eBi (v1N vLen) (aCons (eCall F_rooms (aCons (eVar 0) (aNil))) (aNil))) (eD (.int 6)))))
def F_is_house : FnF := pureF (fnRes N_is_house.length (["thing"] : List Str).length m_is_house)
abbrev N_lots : List Str := ["some", "many", "found", "at", "one", "lot"]
def m_lots (Fr : FnF) : EvS := sSeq (sIf (eB (e2 vEq (eVar 1) (eD (.int 0)))) (sRet (eBi vLst (aCons (eBi vTup (aNil)) (aNil)))) (sSkip))
  (sSeq (sSet 2 (eBi vNewL (aNil)))
  (sSeq (sFor (iEnumQ (eVar 0)) (gT ([3, 4].map gN)) (sAug 2 (eLc (iAny (eCall Fr (aCons (eSl (eVar 0) (oSome (e2 vAdd (eVar 3) (eD (.int 1)))) (oNone)) (aCons (e2 vSub (eVar 1) (eD (.int 1))) (aNil))))) (.one 5) (bYes) (e2 vAdd (eBi vTup (aCons (eVar 4) (aNil))) (eVar 5)) [5])))
  (sRet (eFrz (eVar 2)))))
def F_lots : Nat → FnF
  | 0 => pureF (fnRes N_lots.length (["some", "many"] : List Str).length sNo)
  | n + 1 => pureF (fnRes N_lots.length (["some", "many"] : List Str).length (m_lots (F_lots n)))
abbrev N_fewest_keys : List Str := ["house", "stand", "wish", "lacking", "many", "lot", "way"]
def m_fewest_keys : EvS := sSeq (sSet 3 (eLc (iAny (eVar 0)) (.one 6) (bNot (eB (e2 vIxA (eVar 6) (eD (.int 2))))) (eSl (eVar 6) (oNone) (oSome (eD (.int 2)))) [6]))
  (sSeq (sIf (eB (e2 vGt (eBi (v1N vLen) (aCons (eVar 3) (aNil))) (eD (.int 6)))) (sNo) (sSkip))
  (sSeq (sFor (iRng1 (e2 vAdd (eBi (v1N vLen) (aCons (eVar 3) (aNil))) (eD (.int 1)))) (gN 4) (sFor (iAny (eCall (F_lots 9) (aCons (eVar 3) (aCons (eVar 4) (aNil))))) (gN 5) (sIf (eB (eCall F_can_be_met (aCons (eCall F_with_keys (aCons (eVar 0) (aCons (eVar 5) (aCons (eD (.bool true)) (aNil))))) (aCons (eVar 1) (aCons (eVar 2) (aNil)))))) (sRet (eVar 5)) (sSkip))))
  (sRet (eD .none))))
def F_fewest_keys : FnF := pureF (fnRes N_fewest_keys.length (["house", "stand", "wish"] : List Str).length m_fewest_keys)
end W

set_option Elab.async false
set_option linter.all false
set_option maxRecDepth 100000
namespace T
open PySem
/-! ### houses, stands, steps as plain data -/
abbrev Room := { s : Str // PyData.strOk s = true }
abbrev Way := Room × Room × Bool
abbrev House := List Way
abbrev Stand := List Room × List Room
abbrev Step := Nat × Room
abbrev Wish := List (Option Room)
section
variable {α β γ : Type}
def eR (r : Room) : PyData := .str r.val
def eN (n : Nat) : PyData := .int (n : Nat)
def eB (b : Bool) : PyData := .bool b
def eP (e : α → PyData) (f : β → PyData) (p : α × β) : PyData := .tuple [e p.1, f p.2]
def eT3 (e : α → PyData) (f : β → PyData) (g : γ → PyData) (p : α × β × γ) : PyData := .tuple [e p.1, f p.2.1, g p.2.2]
def eT (e : α → PyData) (l : List α) : PyData := .tuple (l.map e)
def eL (e : α → PyData) (l : List α) : PyData := .list (l.map e)
def eO (e : α → PyData) : Option α → PyData
  | none => .none
  | some a => e a
end
abbrev eWay : Way → PyData := eT3 eR eR eB
abbrev eH : House → PyData := eT eWay
abbrev eSt : Stand → PyData := eP (eT eR) (eT eR)
abbrev eSp : Step → PyData := eP eN eR
abbrev eW : Wish → PyData := eT (eO eR)
abbrev ePr : Room × Room → PyData := eP eR eR
abbrev eRow : List Nat → PyData := eT eN

/-- told apart by == just as it is apart; can be laid; not too deep -/
class PEq {α : Type} (e : α → PyData) (n : outParam Nat) : Prop where
  eqv : ∀ a b, PyData.eqv (e a) (e b) = true ↔ a = b
  lay : ∀ a, (e a).canLay0 = true
  dep : ∀ a, (e a).depth ≤ n
/-- can be sorted -/
class POr {α : Type} (e : α → PyData) : Prop where
  al : ∀ a b, PySem.W.alike (e a) (e b) = true
section
variable {α β γ : Type} {e : α → PyData} {f : β → PyData} {g : γ → PyData} {n m k : Nat}
instance : PEq eR 0 := ⟨fun a b => by unfold eR; rw [PyData.eqv]; simp [Subtype.ext_iff], fun a => by unfold eR; rw [PyData.canLay0]; exact a.2, fun a => by simp [eR, PyData.depth]⟩
instance : PEq eN 0 := ⟨fun a b => by unfold eN; rw [PyData.eqv]; simp; omega, fun a => by unfold eN; rw [PyData.canLay0], fun a => by simp [eN, PyData.depth]⟩
instance : PEq eB 0 := ⟨fun a b => by unfold eB; rw [PyData.eqv]; simp, fun a => by unfold eB; rw [PyData.canLay0], fun a => by simp [eB, PyData.depth]⟩
instance [PEq e n] [PEq f m] : PEq (eP e f) (max n m + 1) := ⟨fun a b => by
    unfold eP
    rw [PyData.eqv, PyData.eqvAll, PyData.eqvAll, PyData.eqvAll, Bool.and_eq_true, Bool.and_eq_true, PEq.eqv, PEq.eqv, Prod.ext_iff]; simp,
  fun a => by unfold eP; rw [PyData.canLay0, PyData.canLayAll0, PyData.canLayAll0, PyData.canLayAll0, PEq.lay, PEq.lay]; rfl,
  fun a => by
    unfold eP; rw [PyData.depth, PyData.depthAll, PyData.depthAll, PyData.depthAll]
    have h1 := PEq.dep (e := e) a.1
    have h2 := PEq.dep (e := f) a.2
    omega⟩
instance [PEq e n] [PEq f m] [PEq g k] : PEq (eT3 e f g) (max n (max m k) + 1) := ⟨fun a b => by
    unfold eT3
    rw [PyData.eqv, PyData.eqvAll, PyData.eqvAll, PyData.eqvAll, PyData.eqvAll, Bool.and_eq_true, Bool.and_eq_true, Bool.and_eq_true, PEq.eqv, PEq.eqv, PEq.eqv, Prod.ext_iff, Prod.ext_iff]; simp,
  fun a => by unfold eT3; rw [PyData.canLay0, PyData.canLayAll0, PyData.canLayAll0, PyData.canLayAll0, PyData.canLayAll0, PEq.lay, PEq.lay, PEq.lay]; rfl,
  fun a => by
    unfold eT3; rw [PyData.depth, PyData.depthAll, PyData.depthAll, PyData.depthAll, PyData.depthAll]
    have h1 := PEq.dep (e := e) a.1
    have h2 := PEq.dep (e := f) a.2.1
    have h3 := PEq.dep (e := g) a.2.2
    omega⟩
theorem eqvAll_map [PEq e n] : ∀ xs ys : List α, PyData.eqvAll (xs.map e) (ys.map e) = true ↔ xs = ys
  | [], [] => by simp [PyData.eqvAll]
  | [], _ :: _ => by simp [PyData.eqvAll]
  | _ :: _, [] => by simp [PyData.eqvAll]
  | x :: xs, y :: ys => by
    rw [List.map_cons, List.map_cons, PyData.eqvAll, Bool.and_eq_true, PEq.eqv, eqvAll_map xs ys]
    simp
theorem layAll_map [PEq e n] : ∀ xs : List α, PyData.canLayAll0 (xs.map e) = true
  | [] => by simp [PyData.canLayAll0]
  | x :: xs => by rw [List.map_cons, PyData.canLayAll0, PEq.lay, layAll_map xs]; rfl
theorem depAll_map [PEq e n] : ∀ xs : List α, PyData.depthAll (xs.map e) ≤ n
  | [] => by simp [PyData.depthAll]
  | x :: xs => by
    rw [List.map_cons, PyData.depthAll]
    exact Nat.max_le.mpr ⟨PEq.dep x, depAll_map xs⟩
instance [PEq e n] : PEq (eT e) (n + 1) := ⟨fun a b => by unfold eT; rw [PyData.eqv, eqvAll_map], fun a => by unfold eT; rw [PyData.canLay0, layAll_map], fun a => by unfold eT; rw [PyData.depth]; have := depAll_map (e := e) a; omega⟩
instance [PEq e n] : PEq (eL e) (n + 1) := ⟨fun a b => by unfold eL; rw [PyData.eqv, eqvAll_map], fun a => by unfold eL; rw [PyData.canLay0, layAll_map], fun a => by unfold eL; rw [PyData.depth]; have := depAll_map (e := e) a; omega⟩
theorem eO_R : PEq (eO eR) 0 := ⟨fun a b => by
    cases a with
    | none => cases b with
      | none => simp [eO, PyData.eqv]
      | some y => simp [eO, eR, PyData.eqv]
    | some x => cases b with
      | none => simp [eO, eR, PyData.eqv]
      | some y =>
        show PyData.eqv (eR x) (eR y) = true ↔ _
        rw [PEq.eqv]; simp,
  fun a => by
    cases a with
    | none => simp [eO, PyData.canLay0]
    | some x => exact PEq.lay (e := eR) x,
  fun a => by cases a <;> simp [eO, eR, PyData.depth]⟩
instance : PEq (eO eR) 0 := eO_R
instance : POr eR := ⟨fun a b => by unfold eR; rw [PySem.W.alike]⟩
instance : POr eN := ⟨fun a b => by unfold eN; rw [PySem.W.alike]⟩
instance : POr eB := ⟨fun a b => by unfold eB; rw [PySem.W.alike]⟩
instance [POr e] [POr f] : POr (eP e f) := ⟨fun a b => by unfold eP; rw [PySem.W.alike, PySem.W.alikeAll, PySem.W.alikeAll, PySem.W.alikeAll, POr.al, POr.al]; rfl⟩
instance [POr e] [POr f] [POr g] : POr (eT3 e f g) := ⟨fun a b => by unfold eT3; rw [PySem.W.alike, PySem.W.alikeAll, PySem.W.alikeAll, PySem.W.alikeAll, PySem.W.alikeAll, POr.al, POr.al, POr.al]; rfl⟩
theorem alikeAll_map [POr e] : ∀ xs ys : List α, PySem.W.alikeAll (xs.map e) (ys.map e) = true
  | [], [] => by simp [PySem.W.alikeAll]
  | [], _ :: _ => by simp [PySem.W.alikeAll]
  | _ :: _, [] => by simp [PySem.W.alikeAll]
  | x :: xs, y :: ys => by
    rw [List.map_cons, List.map_cons, PySem.W.alikeAll, POr.al, alikeAll_map xs ys]; rfl
instance [POr e] : POr (eT e) := ⟨fun a b => by unfold eT; rw [PySem.W.alike, alikeAll_map]⟩
instance [POr e] : POr (eL e) := ⟨fun a b => by unfold eL; rw [PySem.W.alike, alikeAll_map]⟩
theorem PEq.inj [PEq e n] {a b : α} (h : e a = e b) : a = b := (PEq.eqv (e := e) a b).mp (h ▸ (PEq.eqv (e := e) a a).mpr rfl)
theorem PEq.inj_iff [PEq e n] {a b : α} : e a = e b ↔ a = b := ⟨PEq.inj, fun h => h ▸ rfl⟩
theorem eqv_d [PEq e n] [DecidableEq α] (a b : α) : PyData.eqv (e a) (e b) = decide (a = b) := by
  rw [Bool.eq_iff_iff, PEq.eqv, decide_eq_true_iff]
theorem shaped_d [PEq e n] (h : n ≤ 64) (a : α) : SeqAt.shaped (e a) = true := by
  unfold SeqAt.shaped
  rw [PEq.lay, Bool.true_and, decide_eq_true_iff]
  exact Nat.le_trans (PEq.dep a) h
theorem any_d [PEq e n] [DecidableEq α] (a : α) (l : List α) : (l.map e).any (fun z => PyData.eqv z (e a)) = decide (a ∈ l) := by
  rw [List.any_map, Bool.eq_iff_iff, List.any_eq_true, decide_eq_true_iff]
  constructor
  · rintro ⟨x, h1, h2⟩
    have h2 : PyData.eqv (e x) (e a) = true := h2
    rw [PEq.eqv] at h2
    exact h2 ▸ h1
  · intro h
    exact ⟨a, h, (PEq.eqv (e := e) a a).mpr rfl⟩
end

/-! ### sorting -/
section
variable {α : Type} {e : α → PyData} {n : Nat}
def leE (e : α → PyData) (a b : α) : Bool := PySem.W.dataLe false id (e a) (e b)
def tsort (e : α → PyData) (l : List α) : List α := l.mergeSort (leE e)
theorem leE_eq (a b : α) : leE e a b = !PySem.W.dataLt (e b) (e a) := by
  unfold leE
  rw [PySem.W.dataLe_eq]
  rfl
theorem toks_inj {x y : PyData} (h : PySem.W.alike x y = true) (t : PySem.W.keyToks x = PySem.W.keyToks y) : PyData.eqv x y = true := by
  cases q : PyData.eqv x y with
  | true => rfl
  | false =>
    have h2 := (PySem.W.toks_eqv x y h).2 q [] [.inl 0]
    rw [t, PySem.W.lex_pre, PyProof.Rows.lex_irrefl] at h2
    exact absurd h2 (by simp [PyProof.Rows.lexLt])
theorem leE_total (a b : α) : (leE e a b || leE e b a) = true := by
  rw [leE_eq, leE_eq]
  cases h1 : PySem.W.dataLt (e b) (e a) with
  | false => rfl
  | true =>
    cases h2 : PySem.W.dataLt (e a) (e b) with
    | false => rfl
    | true =>
      have := PyProof.Rows.lex_trans _ _ _ h1 h2
      rw [PyProof.Rows.lex_irrefl] at this
      cases this
theorem leE_trans (a b c : α) (h1 : leE e a b = true) (h2 : leE e b c = true) : leE e a c = true := by
  rw [leE_eq, Bool.not_eq_true'] at h1 h2 ⊢
  cases h : PySem.W.dataLt (e c) (e a) with
  | false => rfl
  | true =>
    cases q : PySem.W.dataLt (e a) (e b) with
    | true =>
      have := PyProof.Rows.lex_trans _ _ _ h q
      rw [show PyProof.Rows.lexLt _ _ _ = PySem.W.dataLt (e c) (e b) from rfl, h2] at this
      cases this
    | false =>
      have t := PyProof.Rows.lex_total _ _ q h1
      have : PySem.W.dataLt (e c) (e b) = true := by
        unfold PySem.W.dataLt at h ⊢
        rw [← t]; exact h
      rw [h2] at this; cases this
theorem leE_anti [PEq e n] [POr e] {a b : α} (h1 : leE e a b = true) (h2 : leE e b a = true) : a = b := by
  rw [leE_eq, Bool.not_eq_true'] at h1 h2
  exact (PEq.eqv (e := e) a b).mp (toks_inj (POr.al a b) (PyProof.Rows.lex_total _ _ h2 h1))
theorem tsort_perm (l : List α) : (tsort e l).Perm l := List.mergeSort_perm l _
theorem tsort_sorted (l : List α) : (tsort e l).Pairwise (fun a b => leE e a b = true) := List.pairwise_mergeSort leE_trans leE_total l
theorem mem_tsort {l : List α} {a : α} : a ∈ tsort e l ↔ a ∈ l := (tsort_perm l).mem_iff
theorem tsort_len (l : List α) : (tsort e l).length = l.length := (tsort_perm l).length_eq
theorem tsort_nodup {l : List α} : (tsort e l).Nodup ↔ l.Nodup := (tsort_perm l).nodup_iff
/-- two rows in order of the same things are one -/
theorem sorted_uniq [PEq e n] [POr e] {l m : List α} (s1 : l.Pairwise (fun a b => leE e a b = true)) (s2 : m.Pairwise (fun a b => leE e a b = true)) (p : l.Perm m) : l = m := List.Perm.eq_of_pairwise (fun a b _ _ h1 h2 => leE_anti h1 h2) s1 s2 p
theorem tsort_eq [PEq e n] [POr e] {l m : List α} (p : l.Perm m) : tsort e l = tsort e m := sorted_uniq (tsort_sorted l) (tsort_sorted m) ((tsort_perm l).trans (p.trans (tsort_perm m).symm))
theorem tsort_self [PEq e n] [POr e] {l : List α} (h : l.Pairwise (fun a b => leE e a b = true)) : tsort e l = l := sorted_uniq (tsort_sorted l) h (tsort_perm l)
theorem sorted_filter {l : List α} (h : l.Pairwise (fun a b => leE e a b = true)) (p : α → Bool) : (l.filter p).Pairwise (fun a b => leE e a b = true) := h.sublist List.filter_sublist
/-- .. nodup rows in order with the same things in them are one -/
theorem sorted_ext [PEq e n] [POr e] {l m : List α} (s1 : l.Pairwise (fun a b => leE e a b = true)) (s2 : m.Pairwise (fun a b => leE e a b = true)) (d1 : l.Nodup) (d2 : m.Nodup) (h : ∀ x, x ∈ l ↔ x ∈ m) : l = m := sorted_uniq s1 s2 ((List.perm_ext_iff_of_nodup d1 d2).mpr h)
end
end T

set_option Elab.async false
set_option linter.all false
namespace G
/-! ### going round by round: what is come to from a place, plain -/
section
variable {α : Type} [DecidableEq α]
/-- what is new in a row of finds, in its order -/
def news : List α → List α → List α
  | _, [] => []
  | f, x :: xs => if x ∈ f then news f xs else x :: news (f ++ [x]) xs
theorem mem_news {x : α} : ∀ {xs f : List α}, x ∈ news f xs ↔ x ∈ xs ∧ x ∉ f
  | [], f => by simp [news]
  | y :: ys, f => by
    unfold news
    split
    · rename_i h
      rw [mem_news (xs := ys)]
      constructor
      · rintro ⟨a, b⟩; exact ⟨List.mem_cons_of_mem _ a, b⟩
      · rintro ⟨a, b⟩
        rcases List.mem_cons.mp a with rfl | a
        · exact absurd h b
        · exact ⟨a, b⟩
    · rename_i h
      rw [List.mem_cons, mem_news (xs := ys), List.mem_append, List.mem_singleton, List.mem_cons]
      constructor
      · rintro (rfl | ⟨a, b⟩)
        · exact ⟨.inl rfl, h⟩
        · exact ⟨.inr a, fun z => b (.inl z)⟩
      · rintro ⟨rfl | a, b⟩
        · exact .inl rfl
        · by_cases e : x = y
          · exact .inl e
          · exact .inr ⟨a, fun z => z.elim b e⟩
theorem nodup_news : ∀ {xs f : List α}, (news f xs).Nodup
  | [], f => by simp [news]
  | y :: ys, f => by
    unfold news
    split
    · exact nodup_news
    · refine List.nodup_cons.mpr ⟨fun h => ?_, nodup_news⟩
      exact (mem_news.mp h).2 (by simp)
theorem news_append : ∀ {xs ys f : List α}, news f (xs ++ ys) = news f xs ++ news (f ++ news f xs) ys
  | [], ys, f => by simp [news]
  | x :: xs, ys, f => by
    rw [List.cons_append, news, news]
    by_cases h : x ∈ f
    · rw [if_pos h, if_pos h]; exact news_append
    · rw [if_neg h, if_neg h, news_append (xs := xs)]
      simp [List.append_assoc]
variable (nx : α → List α) (s : α)
inductive Path : Nat → α → Prop
  | zero : Path 0 s
  | succ {n : Nat} {x y : α} : Path n x → y ∈ nx x → Path (n + 1) y
/-- what is found, and the last row, behind so many rounds -/
def lev : Nat → List α × List α
  | 0 => ([s], [s])
  | n + 1 => ((lev n).1 ++ news (lev n).1 ((lev n).2.flatMap nx), news (lev n).1 ((lev n).2.flatMap nx))
theorem lev_succ (n : Nat) : lev nx s (n + 1) = ((lev nx s n).1 ++ news (lev nx s n).1 ((lev nx s n).2.flatMap nx), news (lev nx s n).1 ((lev nx s n).2.flatMap nx)) := rfl
theorem lev_sub (n : Nat) : ∀ x ∈ (lev nx s n).2, x ∈ (lev nx s n).1 := by
  cases n with
  | zero => exact fun x h => h
  | succ n => exact fun x h => List.mem_append_right _ h
theorem lev_nodup : ∀ n : Nat, (lev nx s n).1.Nodup
  | 0 => by simp [lev]
  | n + 1 => by
    rw [lev_succ]
    refine List.nodup_append.mpr ⟨lev_nodup n, nodup_news, fun a ha b hb e => ?_⟩
    subst e
    exact (mem_news.mp hb).2 ha
theorem lev_mono {n : Nat} {x : α} (h : x ∈ (lev nx s n).1) : ∀ {m : Nat}, n ≤ m → x ∈ (lev nx s m).1
  | 0, e => by obtain rfl : n = 0 := by omega
               exact h
  | m + 1, e => by
    by_cases q : n = m + 1
    · subst q; exact h
    · exact List.mem_append_left _ (lev_mono h (m := m) (by omega))
/-- what is found is what few enough steps lead to; the last row what so many lead to and no fewer -/
theorem lev_both : ∀ n : Nat, (∀ x, x ∈ (lev nx s n).1 ↔ ∃ m, m ≤ n ∧ Path nx s m x) ∧ (∀ x, x ∈ (lev nx s n).2 ↔ Path nx s n x ∧ ∀ m, m < n → ¬ Path nx s m x)
  | 0 => by
    have e : ∀ x, Path nx s 0 x ↔ x = s := fun x => ⟨fun h => by cases h; rfl, fun h => h ▸ .zero⟩
    refine ⟨fun x => ?_, fun x => ?_⟩
    · simp only [lev, List.mem_singleton]
      exact ⟨fun h => ⟨0, Nat.le_refl _, (e x).mpr h⟩, fun ⟨m, hm, h⟩ => (e x).mp ((show m = 0 by omega) ▸ h)⟩
    · simp only [lev, List.mem_singleton]
      exact ⟨fun h => ⟨(e x).mpr h, fun m hm => by omega⟩, fun h => (e x).mp h.1⟩
  | n + 1 => by
    obtain ⟨a, b⟩ := lev_both n
    have c : ∀ x, x ∈ (lev nx s (n + 1)).2 ↔ Path nx s (n + 1) x ∧ ∀ m, m < n + 1 → ¬ Path nx s m x := fun x => by
      rw [lev_succ]
      show x ∈ news _ _ ↔ _
      rw [mem_news, List.mem_flatMap]
      constructor
      · rintro ⟨⟨y, hy, hx⟩, hn⟩
        exact ⟨.succ ((b y).mp hy).1 hx, fun m hm hp => hn ((a x).mpr ⟨m, by omega, hp⟩)⟩
      · rintro ⟨hp, hm⟩
        refine ⟨?_, fun h => ?_⟩
        · cases hp with
          | @succ _ y _ p q =>
            refine ⟨y, (b y).mpr ⟨p, fun m h1 h2 => hm (m + 1) (by omega) (.succ h2 q)⟩, q⟩
        · obtain ⟨m, h1, h2⟩ := (a x).mp h
          exact hm m (by omega) h2
    refine ⟨fun x => ?_, c⟩
    constructor
    · intro h
      rcases List.mem_append.mp h with h | h
      · obtain ⟨m, h1, h2⟩ := (a x).mp h
        exact ⟨m, by omega, h2⟩
      · exact ⟨n + 1, Nat.le_refl _, ((c x).mp h).1⟩
    · rintro ⟨m, h1, h2⟩
      by_cases hin : x ∈ (lev nx s n).1
      · exact List.mem_append_left _ hin
      · have hno : ∀ m, m ≤ n → ¬ Path nx s m x := fun k hk hp => hin ((a x).mpr ⟨k, hk, hp⟩)
        have : m = n + 1 := by
          by_cases q : m ≤ n
          · exact absurd h2 (hno m q)
          · omega
        subst this
        exact List.mem_append_right _ ((c x).mpr ⟨h2, fun k hk => hno k (by omega)⟩)
theorem mem_found {n : Nat} {x : α} : x ∈ (lev nx s n).1 ↔ ∃ m, m ≤ n ∧ Path nx s m x := (lev_both nx s n).1 x
theorem mem_row {n : Nat} {x : α} : x ∈ (lev nx s n).2 ↔ Path nx s n x ∧ ∀ m, m < n → ¬ Path nx s m x := (lev_both nx s n).2 x
def Reach (x : α) : Prop := ∃ n, Path nx s n x
theorem lev_stop {n : Nat} (h : (lev nx s n).2 = []) : ∀ k, lev nx s (n + k) = ((lev nx s n).1, [])
  | 0 => by rw [Nat.add_zero, ← h]
  | k + 1 => by
    rw [← Nat.add_assoc, lev_succ, lev_stop h k]
    simp [news]
theorem lev_all {n : Nat} (h : (lev nx s n).2 = []) {x : α} : x ∈ (lev nx s n).1 ↔ Reach nx s x := by
  constructor
  · intro q
    obtain ⟨m, _, p⟩ := (mem_found nx s).mp q
    exact ⟨m, p⟩
  · rintro ⟨m, p⟩
    have q : x ∈ (lev nx s (n + m)).1 := (mem_found nx s).mpr ⟨m, by omega, p⟩
    rw [lev_stop nx s h m] at q
    exact q
omit [DecidableEq α] in
theorem Path.inv {P : α → Prop} (h0 : P s) (h1 : ∀ x, P x → ∀ y ∈ nx x, P y) : ∀ {n : Nat} {x : α}, Path nx s n x → P x
  | _, _, .zero => h0
  | _, _, .succ p q => h1 _ (Path.inv h0 h1 p) _ q
omit [DecidableEq α] in
theorem Reach.inv {P : α → Prop} (h0 : P s) (h1 : ∀ x, P x → ∀ y ∈ nx x, P y) {x : α} (h : Reach nx s x) : P x := h.elim fun _ p => Path.inv nx s h0 h1 p
/-- no row without repeats is longer than what it is taken from -/
theorem nodup_le : ∀ {l u : List α}, l.Nodup → (∀ x ∈ l, x ∈ u) → l.length ≤ u.length
  | [], u, _, _ => Nat.zero_le _
  | x :: xs, u, h, k => by
    have hx := List.nodup_cons.mp h
    have hu : x ∈ u := k x List.mem_cons_self
    have : xs.length ≤ (u.erase x).length := nodup_le hx.2 fun y hy => by
      rw [List.mem_erase_of_ne]
      · exact k y (List.mem_cons_of_mem _ hy)
      · rintro rfl; exact hx.1 hy
    rw [List.length_erase_of_mem hu] at this
    have := List.length_pos_of_mem hu
    simp only [List.length_cons]
    omega
theorem lev_len : ∀ n : Nat, (∀ k, k ≤ n → (lev nx s k).2 ≠ []) → n + 1 ≤ (lev nx s n).1.length
  | 0, _ => by simp [lev]
  | n + 1, h => by
    have := lev_len n fun k hk => h k (by omega)
    have h2 := h (n + 1) (Nat.le_refl _)
    rw [lev_succ] at h2 ⊢
    simp only [List.length_append] at h2 ⊢
    have := List.length_pos_iff.mpr h2
    omega
/-- the rounds end -/
theorem lev_end {u : List α} (h0 : s ∈ u) (h1 : ∀ x ∈ u, ∀ y ∈ nx x, y ∈ u) : ∃ n, n ≤ u.length ∧ (lev nx s n).2 = [] ∧ ∀ k, k < n → (lev nx s k).2 ≠ [] := by
  have hex : ∃ n, n ≤ u.length ∧ (lev nx s n).2 = [] := by
    refine Classical.byContradiction fun hc => ?_
    have hk : ∀ k, k ≤ u.length → (lev nx s k).2 ≠ [] := fun k hk e => hc ⟨k, hk, e⟩
    have h2 := lev_len nx s u.length hk
    have h3 : (lev nx s u.length).1.length ≤ u.length := nodup_le (lev_nodup nx s _) fun x hx => by
      obtain ⟨m, _, p⟩ := (mem_found nx s).mp hx
      exact Path.inv nx s (P := fun x => x ∈ u) h0 h1 p
    omega
  obtain ⟨n, hn, e⟩ := hex
  induction n using Nat.strongRecOn with
  | _ n ih =>
    by_cases q : ∃ k, k < n ∧ (lev nx s k).2 = []
    · obtain ⟨k, hk, ek⟩ := q
      exact ih k hk (by omega) ek
    · exact ⟨n, hn, e, fun k hk ek => q ⟨k, hk, ek⟩⟩
end

/-! ### the same with something kept beside each thing found -/
section
variable {α β V : Type} [DecidableEq α]
def keys (f : List (α × V)) : List α := f.map (·.1)
def look (mk : List (α × V) → α → β → V) (here : α) (st : List (α × V) × List α) (p : β × α) : List (α × V) × List α := if p.2 ∈ keys st.1 then st else (st.1 ++ [(p.2, mk st.1 here p.1)], st.2 ++ [p.2])
def lookAll (mk : List (α × V) → α → β → V) (nb : α → List (β × α)) (st : List (α × V) × List α) (here : α) : List (α × V) × List α := (nb here).foldl (look mk here) st
def lookRow (mk : List (α × V) → α → β → V) (nb : α → List (β × α)) (f : List (α × V)) (row : List α) : List (α × V) × List α := row.foldl (lookAll mk nb) (f, [])
def bst (mk : List (α × V) → α → β → V) (nb : α → List (β × α)) (s : α) (v : V) : Nat → List (α × V) × List α
  | 0 => ([(s, v)], [s])
  | n + 1 => lookRow mk nb (bst mk nb s v n).1 (bst mk nb s v n).2
def nbx (nb : α → List (β × α)) (x : α) : List α := (nb x).map (·.2)
theorem keys_append (f g : List (α × V)) : keys (f ++ g) = keys f ++ keys g := List.map_append
theorem look_fold (mk : List (α × V) → α → β → V) (here : α) : ∀ (ps : List (β × α)) (st : List (α × V) × List α), keys (ps.foldl (look mk here) st).1 = keys st.1 ++ news (keys st.1) (ps.map (·.2)) ∧ (ps.foldl (look mk here) st).2 = st.2 ++ news (keys st.1) (ps.map (·.2))
  | [], st => by simp [news]
  | p :: ps, st => by
    rw [List.foldl_cons, List.map_cons]
    have ih := look_fold mk here ps (look mk here st p)
    by_cases h : p.2 ∈ keys st.1
    · have e : look mk here st p = st := if_pos h
      rw [e] at ih ⊢
      rw [news, if_pos h]
      exact ih
    · have e : look mk here st p = (st.1 ++ [(p.2, mk st.1 here p.1)], st.2 ++ [p.2]) := if_neg h
      rw [e] at ih ⊢
      rw [news, if_neg h, ih.1, ih.2, keys_append]
      show (keys st.1 ++ [p.2]) ++ news (keys st.1 ++ [p.2]) _ = _ ∧ st.2 ++ [p.2] ++ news (keys st.1 ++ [p.2]) _ = _
      simp
theorem lookAll_fold (mk : List (α × V) → α → β → V) (nb : α → List (β × α)) : ∀ (row : List α) (st : List (α × V) × List α), keys (row.foldl (lookAll mk nb) st).1 = keys st.1 ++ news (keys st.1) (row.flatMap (nbx nb)) ∧ (row.foldl (lookAll mk nb) st).2 = st.2 ++ news (keys st.1) (row.flatMap (nbx nb))
  | [], st => by simp [news]
  | x :: xs, st => by
    rw [List.foldl_cons, List.flatMap_cons, news_append]
    have ih := lookAll_fold mk nb xs (lookAll mk nb st x)
    have e := look_fold mk x (nb x) st
    have e1 : keys (lookAll mk nb st x).1 = keys st.1 ++ news (keys st.1) (nbx nb x) := e.1
    have e2 : (lookAll mk nb st x).2 = st.2 ++ news (keys st.1) (nbx nb x) := e.2
    rw [ih.1, ih.2, e1, e2, List.append_assoc, List.append_assoc]
    exact ⟨rfl, rfl⟩
theorem bst_keys (mk : List (α × V) → α → β → V) (nb : α → List (β × α)) (s : α) (v : V) : ∀ n, (keys (bst mk nb s v n).1, (bst mk nb s v n).2) = lev (nbx nb) s n
  | 0 => rfl
  | n + 1 => by
    have ih := bst_keys mk nb s v n
    have e := lookAll_fold mk nb (bst mk nb s v n).2 ((bst mk nb s v n).1, [])
    rw [lev_succ, ← ih]
    show (keys (lookRow mk nb _ _).1, (lookRow mk nb _ _).2) = _
    rw [show lookRow mk nb (bst mk nb s v n).1 (bst mk nb s v n).2 = (bst mk nb s v n).2.foldl (lookAll mk nb) ((bst mk nb s v n).1, []) from rfl, e.1, e.2]
    rfl
theorem bst_k1 (mk : List (α × V) → α → β → V) (nb : α → List (β × α)) (s : α) (v : V) (n : Nat) : keys (bst mk nb s v n).1 = (lev (nbx nb) s n).1 := congrArg Prod.fst (bst_keys mk nb s v n)
theorem bst_k2 (mk : List (α × V) → α → β → V) (nb : α → List (β × α)) (s : α) (v : V) (n : Nat) : (bst mk nb s v n).2 = (lev (nbx nb) s n).2 := congrArg Prod.snd (bst_keys mk nb s v n)
end
/-! ### going down: the last one of a line first -/
section
variable {α : Type} [DecidableEq α] (nx : α → List α)
def dst (f : List α) : Nat → List α × List α
  | 0 => (f, f)
  | n + 1 => match (dst f n).2.getLast? with
    | none => dst f n
    | some h => ((dst f n).1 ++ news (dst f n).1 (nx h), (dst f n).2.dropLast ++ news (dst f n).1 (nx h))
theorem dst_some {f : List α} {n : Nat} {h : α} (e : (dst nx f n).2.getLast? = some h) : dst nx f (n + 1) = ((dst nx f n).1 ++ news (dst nx f n).1 (nx h), (dst nx f n).2.dropLast ++ news (dst nx f n).1 (nx h)) := by
  rw [dst, e]
theorem last_some {l : List α} (h : l ≠ []) : ∃ x, l.getLast? = some x ∧ l = l.dropLast ++ [x] := ⟨l.getLast h, List.getLast?_eq_some_getLast h, (List.dropLast_concat_getLast h).symm⟩
structure DInv (f : List α) (n : Nat) : Prop where
  nd : (dst nx f n).1.Nodup
  from_ : ∀ x ∈ (dst nx f n).1, ∃ y ∈ f, Reach nx y x
  sub : ∀ x ∈ f, x ∈ (dst nx f n).1
  line : ∀ x ∈ (dst nx f n).2, x ∈ (dst nx f n).1
  clo : ∀ x ∈ (dst nx f n).1, x ∈ (dst nx f n).2 ∨ ∀ y ∈ nx x, y ∈ (dst nx f n).1
theorem dst_inv {f : List α} (hf : f.Nodup) : ∀ n, DInv nx f n
  | 0 => ⟨hf, fun x h => ⟨x, h, 0, .zero⟩, fun x h => h, fun x h => h, fun x h => .inl h⟩
  | n + 1 => by
    have ih := dst_inv hf n
    by_cases h : (dst nx f n).2 = []
    · have e : dst nx f (n + 1) = dst nx f n := by rw [dst, h]; rfl
      exact ⟨e ▸ ih.nd, e ▸ ih.from_, e ▸ ih.sub, e ▸ ih.line, e ▸ ih.clo⟩
    · obtain ⟨z, e1, e2⟩ := last_some h
      have e := dst_some nx e1
      have hz : z ∈ (dst nx f n).1 := ih.line z (by rw [e2]; simp)
      refine ⟨?_, ?_, ?_, ?_, ?_⟩ <;> rw [e]
      · exact List.nodup_append.mpr ⟨ih.nd, nodup_news, fun a ha b hb q => (mem_news.mp hb).2 (q ▸ ha)⟩
      · intro x hx
        rcases List.mem_append.mp hx with hx | hx
        · exact ih.from_ x hx
        · obtain ⟨y, hy, m, p⟩ := ih.from_ z hz
          exact ⟨y, hy, m + 1, .succ p (mem_news.mp hx).1⟩
      · exact fun x hx => List.mem_append_left _ (ih.sub x hx)
      · intro x hx
        rcases List.mem_append.mp hx with hx | hx
        · exact List.mem_append_left _ (ih.line x (List.dropLast_subset _ hx))
        · exact List.mem_append_right _ hx
      · intro x hx
        show x ∈ (dst nx f n).2.dropLast ++ news (dst nx f n).1 (nx z) ∨ ∀ y ∈ nx x, y ∈ (dst nx f n).1 ++ news (dst nx f n).1 (nx z)
        rcases List.mem_append.mp hx with hx | hx
        · rcases ih.clo x hx with q | q
          · rw [e2] at q
            rcases List.mem_append.mp q with q | q
            · exact .inl (List.mem_append_left _ q)
            · obtain rfl := List.mem_singleton.mp q
              refine .inr fun y hy => ?_
              by_cases g : y ∈ (dst nx f n).1
              · exact List.mem_append_left _ g
              · exact List.mem_append_right _ (mem_news.mpr ⟨hy, g⟩)
          · exact .inr fun y hy => List.mem_append_left _ (q y hy)
        · exact .inl (List.mem_append_right _ hx)
theorem dst_len {f : List α} : ∀ n, (∀ k, k < n → (dst nx f k).2 ≠ []) → (dst nx f n).2.length + n = (dst nx f n).1.length
  | 0, _ => by simp [dst]
  | n + 1, h => by
    have ih := dst_len n fun k hk => h k (by omega)
    obtain ⟨z, e1, e2⟩ := last_some (h n (by omega))
    rw [dst_some nx e1]
    have : (dst nx f n).2.length = (dst nx f n).2.dropLast.length + 1 := by
      conv => lhs; rw [e2]
      simp
    simp only [List.length_append]
    omega
theorem dst_end {f u : List α} (hf : f.Nodup) (h0 : ∀ x ∈ f, x ∈ u) (h1 : ∀ x ∈ u, ∀ y ∈ nx x, y ∈ u) : ∃ n, n ≤ u.length ∧ (dst nx f n).2 = [] ∧ ∀ k, k < n → (dst nx f k).2 ≠ [] := by
  have hex : ∃ n, n ≤ u.length ∧ (dst nx f n).2 = [] := by
    refine Classical.byContradiction fun hc => ?_
    have hk : ∀ k, k ≤ u.length → (dst nx f k).2 ≠ [] := fun k hk e => hc ⟨k, hk, e⟩
    have h2 := dst_len nx u.length fun k h => hk k (by omega)
    have h3 : (dst nx f u.length).1.length ≤ u.length := nodup_le (dst_inv nx hf _).nd fun x hx => by
      obtain ⟨y, hy, m, p⟩ := (dst_inv nx hf _).from_ x hx
      exact Path.inv nx y (P := fun x => x ∈ u) (h0 y hy) h1 p
    have h4 := List.length_pos_iff.mpr (hk u.length (Nat.le_refl _))
    omega
  obtain ⟨n, hn, e⟩ := hex
  induction n using Nat.strongRecOn with
  | _ n ih =>
    by_cases q : ∃ k, k < n ∧ (dst nx f k).2 = []
    · obtain ⟨k, hk, ek⟩ := q
      exact ih k hk (by omega) ek
    · exact ⟨n, hn, e, fun k hk ek => q ⟨k, hk, ek⟩⟩
theorem dst_all {f : List α} (hf : f.Nodup) {n : Nat} (h : (dst nx f n).2 = []) {x : α} : x ∈ (dst nx f n).1 ↔ ∃ y ∈ f, Reach nx y x := by
  have I := dst_inv nx hf n
  refine ⟨I.from_ x, fun ⟨y, hy, m, p⟩ => Path.inv nx y (P := fun x => x ∈ (dst nx f n).1) (I.sub y hy) (fun x hx y hy => ?_) p⟩
  rcases I.clo x hx with q | q
  · rw [h] at q; cases q
  · exact q y hy
end
end G

set_option Elab.async false
set_option linter.all false
set_option maxRecDepth 100000
namespace T
open PySem G
instance : Inhabited Room := ⟨⟨⟨#[]⟩, by simp [PyData.strOk]⟩⟩
/-! ### the program's and the law's words, plain -/
def nth {α : Type} [Inhabited α] (l : List α) (i : Nat) : α := l.getD i default
theorem nth_get {α : Type} [Inhabited α] {l : List α} {i : Nat} (h : i < l.length) : l[i]? = some (nth l i) := by
  unfold nth
  rw [List.getD_eq_getElem?_getD, List.getElem?_eq_getElem h]; rfl
theorem nth_of {α : Type} [Inhabited α] {l : List α} {i : Nat} {x : α} (h : l[i]? = some x) : nth l i = x := by
  unfold nth
  rw [List.getD_eq_getElem?_getD, h]; rfl
theorem nth_mem {α : Type} [Inhabited α] {l : List α} {i : Nat} (h : i < l.length) : nth l i ∈ l := List.mem_of_getElem? (nth_get h)
def canGo (s : Stand) (w : Way) : Bool := !decide (w.2.1 ∈ s.2) || w.2.2
def lawCan (s : Stand) (w : Way) : Bool := w.2.2 || (decide (w.2.1 ∈ s.1) || !decide (w.2.1 ∈ s.2))
def stepsBy (c : Stand → Way → Bool) (h : House) (s : Stand) : List Step := s.1.zipIdx.flatMap fun p => (h.filter fun w => decide (w.1 = p.1) && c s w).map fun w => (p.2, w.2.1)
def steps (h : House) (s : Stand) : List Step := tsort eSp (stepsBy canGo h s)
def lawSteps (h : House) (s : Stand) : List Step := tsort eSp (stepsBy lawCan h s)
def after (s : Stand) (p : Step) : List Room := s.1.take p.1 ++ [p.2] ++ s.1.drop (p.1 + 1)
def gone (s : Stand) (p : Step) : Stand := (after s p, tsort eR (s.2.filter (fun r => !decide (r = p.2)) ++ (if nth s.1 p.1 ∈ after s p then [] else [nth s.1 p.1])))
def lawGone (s : Stand) (p : Step) : Stand := (s.1.set p.1 p.2, tsort eR ((s.2 ++ [nth s.1 p.1]).filter fun r => !decide (r ∈ s.1.set p.1 p.2)))
def nb (h : House) (s : Stand) : List (Step × Stand) := (steps h s).map fun p => (p, gone s p)
def nxt (h : House) (s : Stand) : List Stand := (steps h s).map (gone s)
theorem nbx_nb (h : House) (s : Stand) : nbx (nb h) s = nxt h s := by
  unfold nbx nb nxt
  rw [List.map_map]
  rfl
/-- a stand over some rooms, of so many walkers -/
structure Ok (R : List Room) (k : Nat) (s : Stand) : Prop where
  len : s.1.length = k
  pl : ∀ r ∈ s.1, r ∈ R
  sh : ∀ r ∈ s.2, r ∈ R
  nd : s.2.Nodup
  srt : s.2.Pairwise (fun a b => leE eR a b = true)
  dis : ∀ r ∈ s.2, r ∉ s.1
/-- all ways of a house lead from and to some rooms -/
def Ends (R : List Room) (h : House) : Prop := ∀ w ∈ h, w.1 ∈ R ∧ w.2.1 ∈ R
theorem mem_stepsBy {c : Stand → Way → Bool} {h : House} {s : Stand} {p : Step} : p ∈ stepsBy c h s ↔ p.1 < s.1.length ∧ ∃ w ∈ h, w.1 = nth s.1 p.1 ∧ w.2.1 = p.2 ∧ c s w = true := by
  unfold stepsBy
  rw [List.mem_flatMap]
  constructor
  · rintro ⟨⟨r, i⟩, hq, hp⟩
    obtain ⟨w, hw, rfl⟩ := List.mem_map.mp hp
    obtain ⟨w1, w2⟩ := List.mem_filter.mp hw
    rw [Bool.and_eq_true, decide_eq_true_iff] at w2
    have hi := List.mem_zipIdx hq
    have hlt : i < s.1.length := by omega
    refine ⟨hlt, w, w1, ?_, rfl, w2.2⟩
    rw [w2.1]
    have := hi.2.2
    simp only [Nat.zero_add, Nat.sub_zero] at this
    show r = nth s.1 i
    rw [this]
    exact (nth_of (List.getElem?_eq_getElem hlt)).symm
  · rintro ⟨hlt, w, w1, w2, w3, w4⟩
    refine ⟨(nth s.1 p.1, p.1), ?_, ?_⟩
    · rw [List.mem_zipIdx_iff_getElem?]
      exact nth_get hlt
    · refine List.mem_map.mpr ⟨w, List.mem_filter.mpr ⟨w1, ?_⟩, ?_⟩
      · rw [Bool.and_eq_true, decide_eq_true_iff]; exact ⟨w2, w4⟩
      · rw [w3]
theorem mem_steps {h : House} {s : Stand} {p : Step} : p ∈ steps h s ↔ p.1 < s.1.length ∧ ∃ w ∈ h, w.1 = nth s.1 p.1 ∧ w.2.1 = p.2 ∧ canGo s w = true := by
  unfold steps
  rw [mem_tsort, mem_stepsBy]
section
variable {R : List Room} {k : Nat} {s : Stand} {h : House}
theorem can_eq (o : Ok R k s) (w : Way) : lawCan s w = canGo s w := by
  unfold lawCan canGo
  cases w.2.2 with
  | true => simp
  | false =>
    by_cases h2 : w.2.1 ∈ s.2
    · have := o.dis _ h2
      simp [h2, this]
    · simp [h2]
theorem steps_eq (o : Ok R k s) : lawSteps h s = steps h s := by
  unfold lawSteps steps stepsBy
  simp only [can_eq o]
theorem after_set {p : Step} (hp : p.1 < s.1.length) : after s p = s.1.set p.1 p.2 := by
  unfold after
  rw [List.set_eq_take_append_cons_drop, if_pos hp]
  simp
theorem mem_set {l : List Room} {i : Nat} {x r : Room} (hi : i < l.length) : r ∈ l.set i x ↔ r = x ∨ ∃ j, j ≠ i ∧ l[j]? = some r := by
  rw [List.mem_iff_getElem?]
  constructor
  · rintro ⟨j, hj⟩
    by_cases e : j = i
    · subst e
      rw [List.getElem?_set_self hi] at hj
      exact .inl (Option.some.inj hj).symm
    · rw [List.getElem?_set_ne (Ne.symm e)] at hj
      exact .inr ⟨j, e, hj⟩
  · rintro (rfl | ⟨j, e, hj⟩)
    · exact ⟨i, List.getElem?_set_self hi⟩
    · exact ⟨j, by rw [List.getElem?_set_ne (Ne.symm e)]; exact hj⟩
theorem shut_set (o : Ok R k s) {p : Step} (hp : p.1 < s.1.length) {r : Room} (hr : r ∈ s.2) : r ∈ s.1.set p.1 p.2 ↔ r = p.2 := by
  rw [mem_set hp]
  refine ⟨fun h => h.elim id fun ⟨j, _, hj⟩ => absurd (List.mem_of_getElem? hj) (o.dis r hr), .inl⟩
theorem gone_eq (o : Ok R k s) {p : Step} (hp : p.1 < s.1.length) : lawGone s p = gone s p := by
  unfold lawGone gone
  rw [after_set hp, List.filter_append]
  congr 2
  congr 1
  · refine List.filter_congr fun r hr => ?_
    have := shut_set o hp hr
    simp only [this]
  · by_cases q : nth s.1 p.1 ∈ s.1.set p.1 p.2
    · rw [if_pos q, List.filter_cons_of_neg (by simpa using q)]; rfl
    · rw [if_neg q, List.filter_cons_of_pos (by simpa using q)]; rfl
theorem gone_len (o : Ok R k s) {p : Step} (hp : p.1 < s.1.length) : (gone s p).1.length = s.1.length := by
  show (after s p).length = _
  rw [after_set hp, List.length_set]
theorem gone_ok (o : Ok R k s) {p : Step} (hp : p.1 < s.1.length) (hr : p.2 ∈ R) : Ok R k (gone s p) := by
  have hg : nth s.1 p.1 ∈ s.1 := nth_mem hp
  have em : ∀ r, r ∈ (gone s p).2 ↔ (r ∈ s.2 ∧ r ≠ p.2) ∨ (r = nth s.1 p.1 ∧ nth s.1 p.1 ∉ after s p) := fun r => by
    unfold gone
    rw [mem_tsort, List.mem_append, List.mem_filter, Bool.not_eq_true', decide_eq_false_iff_not]
    by_cases q : nth s.1 p.1 ∈ after s p
    · rw [if_pos q]
      simp only [q, not_true, and_false, or_false, List.not_mem_nil, ne_eq]
    · rw [if_neg q]
      simp only [q, not_false_iff, and_true, List.mem_singleton, ne_eq]
  refine ⟨by rw [gone_len o hp, o.len], fun r h => ?_, fun r h => ?_, ?_, tsort_sorted _, fun r h => ?_⟩
  · have h : r ∈ after s p := h
    rw [after_set hp] at h
    rcases List.mem_or_eq_of_mem_set h with h | h
    · exact o.pl r h
    · exact h ▸ hr
  · rcases (em r).mp h with h | h
    · exact o.sh r h.1
    · rw [h.1]; exact o.pl _ hg
  · unfold gone
    rw [tsort_nodup]
    refine List.nodup_append.mpr ⟨o.nd.sublist List.filter_sublist, ?_, fun a ha b hb e => ?_⟩
    · split <;> simp
    · split at hb
      · cases hb
      · obtain rfl := List.mem_singleton.mp hb
        subst e
        exact o.dis _ (List.mem_filter.mp ha).1 hg
  · show r ∉ after s p
    rcases (em r).mp h with h | h
    · rw [after_set hp, shut_set o hp h.1]; exact h.2
    · rw [h.1]; exact h.2
theorem step_ok (hE : Ends R h) (o : Ok R k s) {p : Step} (hp : p ∈ steps h s) : p.1 < s.1.length ∧ p.2 ∈ R ∧ Ok R k (gone s p) := by
  obtain ⟨h1, w, h2, _, h3, _⟩ := mem_steps.mp hp
  have h4 := h3 ▸ (hE w h2).2
  exact ⟨h1, h4, gone_ok o h1 h4⟩
theorem nxt_ok (hE : Ends R h) (o : Ok R k s) : ∀ y ∈ nxt h s, Ok R k y := fun y hy => by
  obtain ⟨p, hp, rfl⟩ := List.mem_map.mp hy
  exact (step_ok hE o hp).2.2
end
/-- rounds enough: a number that is not reckoned with -/
theorem fuel_ex : ∃ n : Nat, n = 20000 := ⟨20000, rfl⟩
noncomputable def FUEL : Nat := Classical.choose fuel_ex
theorem FUEL_eq : FUEL = 20000 := Classical.choose_spec fuel_ex
/-! ### wishes -/
def meets (s : Stand) (w : Wish) : Bool := (s.1.zip w).all fun p => decide (p.2 = none) || decide (p.2 = some p.1)
def mkC {α β : Type} : List (α × Option (α × β)) → α → β → Option (α × β) := fun _ here step => some (here, step)
noncomputable def comeTo (h : House) (s : Stand) : List (Stand × Option (Stand × Step)) := (bst mkC (nb h) s none FUEL).1
/-- all that can be come to, in the order of the search -/
noncomputable def reach (h : House) (s : Stand) : List Stand := (lev (nxt h) s FUEL).1
theorem nbx_fun (h : House) : nbx (nb h) = nxt h := funext (nbx_nb h)
theorem keys_comeTo (h : House) (s : Stand) : keys (comeTo h s) = reach h s := by
  unfold comeTo reach
  rw [bst_k1, nbx_fun]
theorem bst_stop {α β V : Type} [DecidableEq α] (mk : List (α × V) → α → β → V) (nb : α → List (β × α)) (s : α) (v : V) {n : Nat} (h : (bst mk nb s v n).2 = []) : ∀ k, bst mk nb s v (n + k) = ((bst mk nb s v n).1, [])
  | 0 => by rw [Nat.add_zero, ← h]
  | k + 1 => by
    rw [← Nat.add_assoc, bst, bst_stop mk nb s v h k]
    rfl
theorem bst_at {α β V : Type} [DecidableEq α] (mk : List (α × V) → α → β → V) (nb : α → List (β × α)) (s : α) (v : V) {n m : Nat} (h : (bst mk nb s v n).2 = []) (hm : n ≤ m) : (bst mk nb s v m).1 = (bst mk nb s v n).1 := by
  have := bst_stop mk nb s v h (m - n)
  rw [show n + (m - n) = m by omega] at this
  rw [this]
/-! ### how many stands there are -/
def subl : List Room → List (List Room)
  | [] => [[]]
  | x :: xs => subl xs ++ (subl xs).map (x :: ·)
theorem filter_subl (p : Room → Bool) : ∀ l : List Room, l.filter p ∈ subl l
  | [] => by simp [subl]
  | x :: xs => by
    unfold subl
    by_cases h : p x
    · rw [List.filter_cons_of_pos h]
      exact List.mem_append_right _ (List.mem_map.mpr ⟨_, filter_subl p xs, rfl⟩)
    · rw [List.filter_cons_of_neg h]
      exact List.mem_append_left _ (filter_subl p xs)
theorem subl_len : ∀ l : List Room, (subl l).length = 2 ^ l.length
  | [] => rfl
  | x :: xs => by
    unfold subl
    rw [List.length_append, List.length_map, subl_len xs, List.length_cons, Nat.pow_succ]
    omega
def rowsOf (R : List Room) : Nat → List (List Room)
  | 0 => [[]]
  | n + 1 => R.flatMap fun r => (rowsOf R n).map (r :: ·)
theorem mem_rowsOf {R : List Room} : ∀ {n : Nat} {l : List Room}, l.length = n → (∀ r ∈ l, r ∈ R) → l ∈ rowsOf R n
  | 0, l, h, _ => by
    obtain rfl := List.length_eq_zero_iff.mp h
    simp [rowsOf]
  | n + 1, [], h, _ => by cases h
  | n + 1, x :: xs, h, k => by
    unfold rowsOf
    exact List.mem_flatMap.mpr ⟨x, k x List.mem_cons_self, List.mem_map.mpr ⟨xs, mem_rowsOf (by simpa using h) fun r hr => k r (List.mem_cons_of_mem _ hr), rfl⟩⟩
theorem flatMap_len {α β : Type} {f : α → List β} {n : Nat} : ∀ {l : List α}, (∀ x ∈ l, (f x).length = n) → (l.flatMap f).length = l.length * n
  | [], _ => by simp
  | x :: xs, h => by
    rw [List.flatMap_cons, List.length_append, h x List.mem_cons_self, flatMap_len (l := xs) fun y hy => h y (List.mem_cons_of_mem _ hy), List.length_cons, Nat.succ_mul, Nat.add_comm]
theorem rowsOf_len (R : List Room) : ∀ n : Nat, (rowsOf R n).length = R.length ^ n
  | 0 => rfl
  | n + 1 => by
    unfold rowsOf
    rw [flatMap_len (n := R.length ^ n) fun x _ => by rw [List.length_map, rowsOf_len R n], Nat.pow_succ, Nat.mul_comm]
open Classical in
noncomputable def univ (R : List Room) (k : Nat) : List Stand := ((rowsOf R k).flatMap fun p => ((subl R).map (tsort eR)).map fun d => (p, d)).filter fun s => decide (Ok R k s)
theorem univ_len (R : List Room) (k : Nat) : (univ R k).length ≤ R.length ^ k * 2 ^ R.length := by
  unfold univ
  refine Nat.le_trans (List.length_filter_le _ _) ?_
  rw [flatMap_len (n := 2 ^ R.length) fun x _ => by rw [List.length_map, List.length_map, subl_len], rowsOf_len]
  exact Nat.le_refl _
open Classical in
theorem mem_univ {R : List Room} (hR : R.Nodup) {k : Nat} {s : Stand} : s ∈ univ R k ↔ Ok R k s := by
  unfold univ
  rw [List.mem_filter, decide_eq_true_iff]
  refine ⟨fun h => h.2, fun o => ⟨List.mem_flatMap.mpr ⟨s.1, mem_rowsOf o.len o.pl, List.mem_map.mpr ⟨s.2, List.mem_map.mpr ⟨R.filter fun r => decide (r ∈ s.2), filter_subl _ _, ?_⟩, rfl⟩⟩, o⟩⟩
  refine sorted_ext (tsort_sorted _) o.srt (tsort_nodup.mpr (hR.sublist List.filter_sublist)) o.nd fun x => ?_
  rw [mem_tsort, List.mem_filter, decide_eq_true_iff]
  exact ⟨fun h => h.2, fun h => ⟨o.sh x h, h⟩⟩
/-- rooms, walkers and a house that are small enough -/
structure World (R : List Room) (k : Nat) (h : House) : Prop where
  nd : R.Nodup
  ends : Ends R h
  hl : h.length ≤ 1000
  kl : k ≤ 100
  rl : R.length ≤ 100
  ul : (univ R k).length < 19999
section
variable {R : List Room} {k : Nat} {h : House} {s : Stand}
theorem Ok.len1 (w : World R k h) (o : Ok R k s) : s.1.length ≤ 100 := o.len ▸ w.kl
theorem Ok.len2 (w : World R k h) (o : Ok R k s) : s.2.length ≤ 100 := Nat.le_trans (nodup_le o.nd o.sh) w.rl
theorem nb_ok (w : World R k h) (o : Ok R k s) : ∀ q ∈ nb h s, Ok R k q.2 := fun q hq => by
  obtain ⟨p, hp, rfl⟩ := List.mem_map.mp hq
  exact (step_ok w.ends o hp).2.2
theorem row_end (w : World R k h) (o : Ok R k s) : (lev (nxt h) s FUEL).2 = [] := by
  obtain ⟨n, hn, e, _⟩ := lev_end (nxt h) s (u := univ R k) ((mem_univ w.nd).mpr o) (fun x hx y hy => (mem_univ w.nd).mpr (nxt_ok w.ends ((mem_univ w.nd).mp hx) y hy))
  have h1 := lev_stop (nxt h) s e (FUEL - n)
  have h2 := w.ul
  have h3 := FUEL_eq
  rw [show n + (FUEL - n) = FUEL by omega] at h1
  rw [h1]
theorem mem_reach (w : World R k h) (o : Ok R k s) {x : Stand} : x ∈ reach h s ↔ Reach (nxt h) s x := lev_all (nxt h) s (row_end w o)
theorem reach_ok (w : World R k h) (o : Ok R k s) {x : Stand} (hx : x ∈ reach h s) : Ok R k x := Reach.inv (nxt h) s o (fun x ox y hy => nxt_ok w.ends ox y hy) ((mem_reach w o).mp hx)
theorem reach_nodup (h : House) (s : Stand) : (reach h s).Nodup := lev_nodup (nxt h) s FUEL
theorem reach_len (w : World R k h) (o : Ok R k s) : (reach h s).length < 19999 := Nat.lt_of_le_of_lt (nodup_le (reach_nodup h s) fun x hx => (mem_univ w.nd).mpr (reach_ok w o hx)) w.ul
end
end T

set_option Elab.async false
set_option linter.all false
set_option maxRecDepth 100000
set_option maxHeartbeats 4000000
namespace EV
open PySem QL T
/-! ### how a mirror is gone through -/
section
variable {α β : Type}
theorem bind_congr {r r' : Res α} (k : α → Mem → Res β) (h : r = r') : r.bind k = r'.bind k := by rw [h]
theorem sbind_congr {r r' : SRes} (k : Env' → Mem → SRes) (h : r = r') : r.bind k = r'.bind k := by rw [h]
theorem toS_congr {r r' : Res α} (ρ : Env') (k : α → Mem → SRes) (h : r = r') : r.toS ρ k = r'.toS ρ k := by rw [h]
@[simp] theorem bind_ok (a : α) (M : Mem) (k : α → Mem → Res β) : (Res.ok a M).bind k = k a M := rfl
@[simp] theorem toS_ok (a : α) (M : Mem) (ρ : Env') (k : α → Mem → SRes) : (Res.ok a M).toS ρ k = k a M := rfl
@[simp] theorem sbind_nx (ρ : Env') (M : Mem) (k : Env' → Mem → SRes) : (SRes.nx ρ M).bind k = k ρ M := rfl
@[simp] theorem sbind_rt (c : Cell) (M : Mem) (k : Env' → Mem → SRes) : (SRes.rt c M).bind k = .rt c M := rfl
@[simp] theorem sbind_bk (ρ : Env') (M : Mem) (k : Env' → Mem → SRes) : (SRes.bk ρ M).bind k = .bk ρ M := rfl
@[simp] theorem sbind_ct (ρ : Env') (M : Mem) (k : Env' → Mem → SRes) : (SRes.ct ρ M).bind k = .ct ρ M := rfl
@[simp] theorem of_some (a : α) (M : Mem) : Res.of (some (a, M)) = .ok a M := rfl
end
def oCell (c : Cell) (M : Mem) : Res (Option Int) := match c with | .dat (.int i) => .ok (some i) M | _ => .no
/-- what range(..) walks: not to be reckoned out -/
theorem rCell_ex : ∃ r : Cell → Mem → Res Src, r = fun c M => match c with | .dat (.int j) => if 0 ≤ j ∧ j ≤ 1000000 then .ok ⟨rngD 0 j.toNat, []⟩ M else .no | _ => .no := ⟨_, rfl⟩
noncomputable def rCell : Cell → Mem → Res Src := Classical.choose rCell_ex
theorem rCell_eq : rCell = fun c M => match c with | .dat (.int j) => if 0 ≤ j ∧ j ≤ 1000000 then .ok ⟨rngD 0 j.toNat, []⟩ M else .no | _ => .no := Classical.choose_spec rCell_ex
@[simp] theorem oCell_N (i : Nat) (M : Mem) : oCell (.dat (eN i)) M = .ok (some (i : Int)) M := rfl
@[simp] theorem oCell_i (i : Int) (M : Mem) : oCell (.dat (.int i)) M = .ok (some i) M := rfl
@[simp] theorem ite_ok {α : Type} {c : Prop} [Decidable c] (a b : α) (M : Mem) : (if c then Res.ok a M else Res.ok b M) = Res.ok (if c then a else b) M := by split <;> rfl
@[simp] theorem ite_dat {c : Prop} [Decidable c] (a b : PyData) : (if c then Cell.dat a else Cell.dat b) = Cell.dat (if c then a else b) := by split <;> rfl
section
variable (ρ : Env') (M : Mem) (f g h : EvF) (ga : EvA) (b c : EvB) (s t : EvS)
@[simp] theorem x_seq : sSeq s t ρ M = (s ρ M).bind t := rfl
@[simp] theorem x_skip : sSkip ρ M = .nx ρ M := rfl
@[simp] theorem x_brk : sBrk ρ M = .bk ρ M := rfl
@[simp] theorem x_cnt : sCnt ρ M = .ct ρ M := rfl
@[simp] theorem x_ret : sRet f ρ M = (f ρ M).toS ρ fun c M => .rt c M := rfl
@[simp] theorem x_if : sIf b s t ρ M = (b ρ M).toS ρ fun b M => if b then s ρ M else t ρ M := rfl
@[simp] theorem x_drop : sDrop f ρ M = (f ρ M).toS ρ fun _ M => .nx ρ M := rfl
@[simp] theorem x_asg (gg : EvG) : sAsg f gg ρ M = (f ρ M).toS ρ fun c M => gg c ρ M := rfl
@[simp] theorem x_set (i : Nat) : sSet i f ρ M = (f ρ M).toS ρ fun c M => .nx (ρ.set i (some c)) M := rfl
@[simp] theorem x_par (i j : Nat) : sPar i j f g ρ M = (f ρ M).toS ρ fun c M => (g ρ M).toS ρ fun d M => .nx ((ρ.set i (some c)).set j (some d)) M := rfl
@[simp] theorem x_par3 (i j l : Nat) : sPar3 i j l f g h ρ M = (f ρ M).toS ρ fun c M => (g ρ M).toS ρ fun d M => (h ρ M).toS ρ fun e M => .nx (((ρ.set i (some c)).set j (some d)).set l (some e)) M := rfl
@[simp] theorem x_e2 (k : V2) : e2 k f g ρ M = (f ρ M).bind fun c M => (g ρ M).bind fun d M => Res.of (k c d M) := rfl
@[simp] theorem x_e1 (k : V1) : e1 k f ρ M = (f ρ M).bind fun c M => Res.of (k c M) := rfl
@[simp] theorem x_eD (d : PyData) : eD d ρ M = .ok (.dat d) M := rfl
@[simp] theorem x_eB : eB f ρ M = (f ρ M).bind fun c M => match asB c with | some b => .ok b M | none => .no := rfl
@[simp] theorem x_bYes : bYes ρ M = .ok true M := rfl
@[simp] theorem x_bAnd : bAnd b c ρ M = (b ρ M).bind fun b M => if b then c ρ M else .ok false M := rfl
@[simp] theorem x_bOr : bOr b c ρ M = (b ρ M).bind fun b M => if b then .ok true M else c ρ M := rfl
@[simp] theorem x_bNot : bNot b ρ M = (b ρ M).bind fun b M => .ok (!b) M := rfl
@[simp] theorem x_eAnd : eAnd f g ρ M = (eB f ρ M).bind fun b M => if b then g ρ M else .ok (.dat (.bool false)) M := rfl
@[simp] theorem x_eOr : eOr f g ρ M = (eB f ρ M).bind fun b M => if b then .ok (.dat (.bool true)) M else g ρ M := rfl
@[simp] theorem x_eNot : eNot f ρ M = (eB f ρ M).bind fun b M => .ok (.dat (.bool (!b))) M := rfl
@[simp] theorem x_eIf : eIf b f g ρ M = (b ρ M).bind fun b M => if b then f ρ M else g ρ M := rfl
@[simp] theorem x_aNil : aNil ρ M = .ok [] M := rfl
@[simp] theorem x_aCons : aCons f ga ρ M = (f ρ M).bind fun c M => (ga ρ M).bind fun cs M => .ok (c :: cs) M := rfl
@[simp] theorem x_call (F : FnF) : eCall F ga ρ M = (ga ρ M).bind fun cs M => F cs M := rfl
@[simp] theorem x_bi (k : VN) : eBi k ga ρ M = (ga ρ M).bind fun cs M => Res.of (k cs M) := rfl
@[simp] theorem x_frz : eFrz f ρ M = (f ρ M).bind fun c M => Res.of (frzC c M) := rfl
@[simp] theorem x_oNone : oNone ρ M = .ok none M := rfl
@[simp] theorem x_oSome : oSome f ρ M = (f ρ M).bind oCell := by
  unfold oSome
  congr 1
@[simp] theorem x_sl (l u : EvO) : eSl f l u ρ M = (f ρ M).bind fun c M => (l ρ M).bind fun lo M => (u ρ M).bind fun hi M => Res.of (vSl c lo hi M) := rfl
@[simp] theorem x_iAny : iAny f ρ M = (f ρ M).bind fun c M => match anySrc c M with | some s => .ok s M | none => .no := rfl
@[simp] theorem x_iRng1 : iRng1 f ρ M = (f ρ M).bind rCell := by
  rw [rCell_eq]
  unfold iRng1
  congr 1
@[simp] theorem x_iEnum : iEnumQ f ρ M = (f ρ M).bind fun c M => match seqSrc c M with | some s => .ok (Src.mk (enumD s.items) s.locks) M | none => .no := rfl
@[simp] theorem x_d0 : eD0 ρ M = .ok (.obj M.length) (M ++ [.dct []]) := rfl
@[simp] theorem x_d1 : eD1 f g ρ M = (f ρ (M ++ [.dct []])).bind fun c M2 => (g ρ M2).bind fun d M3 => Res.of (putD1 M.length c d M3) := rfl
@[simp] theorem x_t1 : eT1 f g ρ M = (f ρ (M ++ [.tdc []])).bind fun c M2 => (g ρ M2).bind fun d M3 => Res.of (putT1 M.length c d M3) := rfl
@[simp] theorem x_mt (T : String) (k : VM) : eMt T k f ga ρ M = (f ρ M).bind fun c M => if tyB T c M then (ga ρ M).bind fun cs M => Res.of (k c cs M) else .no := rfl
@[simp] theorem x_m0 (T : String) (k : VM) : eM0 T k f ρ M = (f ρ M).bind fun c M => if tyB T c M then Res.of (k c [] M) else .no := rfl
@[simp] theorem x_gN (i : Nat) (c : Cell) : gN i c ρ M = .nx (ρ.set i (some c)) M := rfl
@[simp] theorem v1N_one (k : V1) (c : Cell) : v1N k [c] M = k c M := rfl
@[simp] theorem asB_eB (x : Bool) : asB (.dat (T.eB x)) = some x := rfl
@[simp] theorem asB_bool (x : Bool) : asB (.dat (.bool x)) = some x := rfl

end
def envGet : Env' → Nat → Option Cell
  | [], _ => none
  | c :: _, 0 => c
  | _ :: ρ, i + 1 => envGet ρ i
@[simp] theorem envGet_0 (c : Option Cell) (ρ : Env') : envGet (c :: ρ) 0 = c := rfl
@[simp] theorem envGet_s (c : Option Cell) (ρ : Env') (i : Nat) : envGet (c :: ρ) (i + 1) = envGet ρ i := rfl
theorem envGet_eq : ∀ (ρ : Env') (i : Nat), ρ[i]? = some (envGet ρ i) ∨ (ρ[i]? = none ∧ envGet ρ i = none)
  | [], i => .inr ⟨rfl, rfl⟩
  | c :: _, 0 => .inl rfl
  | _ :: ρ, i + 1 => envGet_eq ρ i
@[simp] theorem x_var (i : Nat) (ρ : Env') (M : Mem) : eVar i ρ M = match envGet ρ i with | some c => .ok c M | none => .no := by
  unfold eVar
  rcases envGet_eq ρ i with h | ⟨h1, h2⟩
  · rw [h]
    cases envGet ρ i <;> rfl
  · rw [h1, h2]
@[simp] theorem x_aug (i : Nat) (f : EvF) (ρ : Env') (M : Mem) : sAug i f ρ M = match envGet ρ i with
  | some c => (f ρ M).toS ρ fun d M => match lstO c M, asL d M with
    | some (l, ds), some es => if ds.length + es.length ≤ LIM then .nx (ρ.set i (some c)) (M.set l (.lst (ds ++ es))) else .no
    | _, _ => .no
  | none => .no := by
  unfold sAug
  rcases envGet_eq ρ i with h | ⟨h1, h2⟩
  · rw [h]
    cases envGet ρ i <;> rfl
  · rw [h1, h2]
@[simp] theorem x_put (k : V3) (f o i : EvF) (ρ : Env') (M : Mem) : sPut k f o i ρ M = (f ρ M).toS ρ fun c M => (o ρ M).toS ρ fun d M => (i ρ M).toS ρ fun j M => match k d j c M with | some M' => .nx ρ M' | none => .no := by
  unfold sPut
  rfl
@[simp] theorem x_izip (f g : EvF) (ρ : Env') (M : Mem) : iZipQ f g ρ M = (f ρ M).bind fun c M => (g ρ M).bind fun d M => match seqSrc c M, seqSrc d M with
  | some s, some t => if (asT c).isSome = (asT d).isSome then .ok (Src.mk (zipD s.items t.items) (s.locks ++ t.locks)) M else .no
  | _, _ => .no := rfl
/-! ### ends -/
def Nx (r : SRes) (P : Env' → Mem → Prop) : Prop := ∃ ρ M, r = .nx ρ M ∧ P ρ M
def Rt (r : SRes) (c : Cell) : Prop := ∃ M, r = .rt c M
theorem Nx.of {ρ : Env'} {M : Mem} {P : Env' → Mem → Prop} (h : P ρ M) : Nx (.nx ρ M) P := ⟨ρ, M, rfl, h⟩
theorem Rt.of {c : Cell} {M : Mem} : Rt (.rt c M) c := ⟨M, rfl⟩
theorem bind_nx {r : SRes} {P Q : Env' → Mem → Prop} {K : Env' → Mem → SRes} (h : Nx r P) (k : ∀ ρ M, P ρ M → Nx (K ρ M) Q) : Nx (r.bind K) Q := by
  obtain ⟨ρ, M, rfl, p⟩ := h
  exact k ρ M p
theorem bind_rt {r : SRes} {P : Env' → Mem → Prop} {K : Env' → Mem → SRes} {c : Cell} (h : Nx r P) (k : ∀ ρ M, P ρ M → Rt (K ρ M) c) : Rt (r.bind K) c := by
  obtain ⟨ρ, M, rfl, p⟩ := h
  exact k ρ M p
theorem Nx.mono {r : SRes} {P Q : Env' → Mem → Prop} (h : Nx r P) (k : ∀ ρ M, P ρ M → Q ρ M) : Nx r Q := by
  obtain ⟨ρ, M, e, p⟩ := h
  exact ⟨ρ, M, e, k ρ M p⟩
theorem Nx.ev {r r' : SRes} {P : Env' → Mem → Prop} (e : r = r') (h : Nx r' P) : Nx r P := e ▸ h
theorem Rt.ev {r r' : SRes} {c : Cell} (e : r = r') (h : Rt r' c) : Rt r c := e ▸ h
/-- a def that is handed data alone -/
theorem pure_fn {N n : Nat} {m : EvS} {cs : List Cell} {c : Cell} {M : Mem} (hc : cs.all noObj = true) (hn : cs.length = n) (hd : noObj c = true) (h : Rt (m (cs.map some ++ List.replicate (N - n) none) []) c) : pureF (fnRes N n m) cs M = .ok c M := by
  obtain ⟨M', e⟩ := h
  unfold pureF
  rw [if_pos hc]
  unfold fnRes
  rw [if_pos hn, e]
  have ec : cutM (topC ([] : Mem).length c) M' = some [] := by
    cases c with
    | obj l => cases hd
    | dat d => simp [topC, cutM]
    | fdc k => simp [topC, cutM]
    | ftd k => simp [topC, cutM]
  simp only [ec]
  unfold pureR
  simp only [hd, if_true]
/-! ### loops -/
theorem holds_nil {its : List PyData} {M : Mem} : (Src.mk its []).holds M = true := rfl
@[simp] theorem holds_nil' {its : List PyData} {M : Mem} : Src.holds { items := its, locks := [] } M = true := rfl
theorem forL_nx {src : Src} {g : EvG} {body : EvS} {γ : Type} {e : γ → PyData} (Inv : List γ → Env' → Mem → Prop) (hl : ∀ pre ρ M, Inv pre ρ M → src.holds M = true) :
    ∀ (xs pre : List γ) (ρ : Env') (M : Mem), Inv pre ρ M → (∀ p x q, pre ++ xs = p ++ x :: q → ∀ ρ M, Inv p ρ M → Nx ((g (.dat (e x)) ρ M).bind body) (Inv (p ++ [x]))) → Nx (forL src g body (xs.map e) ρ M) (Inv (pre ++ xs))
  | [], pre, ρ, M, h, _ => by
    rw [List.map_nil, forL, if_pos (hl _ _ _ h), List.append_nil]
    exact .of h
  | x :: xs, pre, ρ, M, h, k => by
    rw [List.map_cons, forL, if_pos (hl _ _ _ h)]
    obtain ⟨ρ1, M1, e1, h1⟩ := k pre x xs rfl ρ M h
    have ih := forL_nx (src := src) (g := g) (body := body) (e := e) Inv hl xs (pre ++ [x]) ρ1 M1 h1 fun p y q hq => k p y q (by rw [← hq]; simp)
    rw [List.append_assoc] at ih
    cases eg : g (.dat (e x)) ρ M with
    | nx ρ0 M0 =>
      rw [eg] at e1
      have e1 : body ρ0 M0 = .nx ρ1 M1 := e1
      show Nx (match body ρ0 M0 with
        | .nx ρ M => forL src g body (xs.map e) ρ M
        | .ct ρ M => forL src g body (xs.map e) ρ M
        | .bk ρ M => .nx ρ M
        | r => r) _
      rw [e1]
      exact ih
    | _ => rw [eg] at e1; cases e1
/-- a for that goes to its end: what holds behind the first ones holds with one more -/
theorem for_nx {it : EvI} {g : EvG} {body : EvS} {γ : Type} {e : γ → PyData} {ρ : Env'} {M M0 : Mem} {src : Src} (xs : List γ) (Inv : List γ → Env' → Mem → Prop) (hs : it ρ M = .ok src M0) (hx : src.items = xs.map e) (h0 : Inv [] ρ M0)
    (hl : ∀ pre ρ M, Inv pre ρ M → src.holds M = true) (hb : ∀ p x q, xs = p ++ x :: q → ∀ ρ M, Inv p ρ M → Nx ((g (.dat (e x)) ρ M).bind body) (Inv (p ++ [x]))) : Nx (sFor it g body ρ M) (Inv xs) := by
  unfold sFor
  rw [hs]
  show Nx (forL src g body src.items ρ M0) _
  rw [hx]
  exact forL_nx Inv hl xs [] ρ M0 h0 hb
/-- .. that may end by a return at one of them -/
theorem forL_rt {src : Src} {g : EvG} {body : EvS} {γ : Type} {e : γ → PyData} {c : Cell} (Inv : List γ → Env' → Mem → Prop) (hl : ∀ pre ρ M, Inv pre ρ M → src.holds M = true) (x : γ) (q : List γ) :
    ∀ (xs pre : List γ) (ρ : Env') (M : Mem), Inv pre ρ M → (∀ p y r, pre ++ xs = p ++ y :: r → ∀ ρ M, Inv p ρ M → Nx ((g (.dat (e y)) ρ M).bind body) (Inv (p ++ [y]))) → (∀ ρ M, Inv (pre ++ xs) ρ M → Rt ((g (.dat (e x)) ρ M).bind body) c) → Rt (forL src g body ((xs ++ x :: q).map e) ρ M) c
  | [], pre, ρ, M, h, _, hr => by
    obtain ⟨M1, e1⟩ := hr ρ M (by rw [List.append_nil]; exact h)
    rw [List.nil_append, List.map_cons, forL, if_pos (hl _ _ _ h)]
    cases eg : g (.dat (e x)) ρ M with
    | nx ρ0 M0 =>
      rw [eg] at e1
      have e1 : body ρ0 M0 = .rt c M1 := e1
      show Rt (match body ρ0 M0 with
        | .nx ρ M => forL src g body (q.map e) ρ M
        | .ct ρ M => forL src g body (q.map e) ρ M
        | .bk ρ M => .nx ρ M
        | r => r) c
      rw [e1]
      exact .of
    | rt c' M' => rw [eg] at e1; exact ⟨M1, e1⟩
    | bk _ _ => rw [eg] at e1; cases e1
    | ct _ _ => rw [eg] at e1; cases e1
    | ex _ _ _ => rw [eg] at e1; cases e1
    | no => rw [eg] at e1; cases e1
  | y :: xs, pre, ρ, M, h, k, hr => by
    obtain ⟨ρ1, M1, e1, h1⟩ := k pre y xs rfl ρ M h
    have ih := forL_rt (src := src) (g := g) (body := body) (e := e) (c := c) Inv hl x q xs (pre ++ [y]) ρ1 M1 h1 (fun p z r hq => k p z r (by rw [← hq]; simp)) (fun ρ M h => hr ρ M (by simpa using h))
    rw [List.cons_append, List.map_cons, forL, if_pos (hl _ _ _ h)]
    cases eg : g (.dat (e y)) ρ M with
    | nx ρ0 M0 =>
      rw [eg] at e1
      have e1 : body ρ0 M0 = .nx ρ1 M1 := e1
      show Rt (match body ρ0 M0 with
        | .nx ρ M => forL src g body ((xs ++ x :: q).map e) ρ M
        | .ct ρ M => forL src g body ((xs ++ x :: q).map e) ρ M
        | .bk ρ M => .nx ρ M
        | r => r) c
      rw [e1]
      exact ih
    | _ => rw [eg] at e1; cases e1
theorem for_rt {it : EvI} {g : EvG} {body : EvS} {γ : Type} {e : γ → PyData} {c : Cell} {ρ : Env'} {M M0 : Mem} {src : Src} (xs : List γ) (x : γ) (q : List γ) (Inv : List γ → Env' → Mem → Prop) (hs : it ρ M = .ok src M0) (hx : src.items = (xs ++ x :: q).map e) (h0 : Inv [] ρ M0)
    (hl : ∀ pre ρ M, Inv pre ρ M → src.holds M = true) (hb : ∀ p y r, xs = p ++ y :: r → ∀ ρ M, Inv p ρ M → Nx ((g (.dat (e y)) ρ M).bind body) (Inv (p ++ [y]))) (hr : ∀ ρ M, Inv xs ρ M → Rt ((g (.dat (e x)) ρ M).bind body) c) : Rt (sFor it g body ρ M) c := by
  unfold sFor
  rw [hs]
  show Rt (forL src g body src.items ρ M0) _
  rw [hx]
  exact forL_rt Inv hl x q xs [] ρ M0 h0 hb hr
theorem for_dat {it : EvI} {g : EvG} {body : EvS} {γ : Type} {e : γ → PyData} {ρ : Env'} {M : Mem} (xs : List γ) (Inv : List γ → Env' → Mem → Prop) (hs : it ρ M = .ok ⟨xs.map e, []⟩ M) (h0 : Inv [] ρ M)
    (hb : ∀ p x q, xs = p ++ x :: q → ∀ ρ M, Inv p ρ M → Nx ((g (.dat (e x)) ρ M).bind body) (Inv (p ++ [x]))) : Nx (sFor it g body ρ M) (Inv xs) := for_nx xs Inv hs rfl h0 (fun _ _ _ _ => rfl) hb
theorem for_datM {it : EvI} {g : EvG} {body : EvS} {γ : Type} {e : γ → PyData} {ρ : Env'} {M M0 : Mem} (xs : List γ) (Inv : List γ → Env' → Mem → Prop) (hs : it ρ M = .ok ⟨xs.map e, []⟩ M0) (h0 : Inv [] ρ M0)
    (hb : ∀ p x q, xs = p ++ x :: q → ∀ ρ M, Inv p ρ M → Nx ((g (.dat (e x)) ρ M).bind body) (Inv (p ++ [x]))) : Nx (sFor it g body ρ M) (Inv xs) := for_nx xs Inv hs rfl h0 (fun _ _ _ _ => rfl) hb
theorem for_ret {it : EvI} {g : EvG} {body : EvS} {γ : Type} {e : γ → PyData} {c : Cell} {ρ : Env'} {M : Mem} (xs : List γ) (x : γ) (q : List γ) (Inv : List γ → Env' → Mem → Prop) (hs : it ρ M = .ok ⟨(xs ++ x :: q).map e, []⟩ M) (h0 : Inv [] ρ M)
    (hb : ∀ p y r, xs = p ++ y :: r → ∀ ρ M, Inv p ρ M → Nx ((g (.dat (e y)) ρ M).bind body) (Inv (p ++ [y]))) (hr : ∀ ρ M, Inv xs ρ M → Rt ((g (.dat (e x)) ρ M).bind body) c) : Rt (sFor it g body ρ M) c := for_rt xs x q Inv hs rfl h0 (fun _ _ _ _ => rfl) hb hr
theorem rt_bind {r : SRes} {K : Env' → Mem → SRes} {c : Cell} (h : Rt r c) : Rt (r.bind K) c := by
  obtain ⟨M, rfl⟩ := h
  exact .of
/-- a while: n turns -/
theorem while_nx {c : EvB} {body : EvS} (Inv : Nat → Env' → Mem → Prop) (n : Nat) (hc : ∀ k ρ M, k ≤ n → Inv k ρ M → c ρ M = .ok (decide (k < n)) M) (hb : ∀ k ρ M, k < n → Inv k ρ M → Nx (body ρ M) (Inv (k + 1))) :
    ∀ (fuel k : Nat) (ρ : Env') (M : Mem), k ≤ n → n - k < fuel → Inv k ρ M → Nx (whileL c body fuel ρ M) (Inv n)
  | 0, k, ρ, M, _, hf, _ => by omega
  | fuel + 1, k, ρ, M, hk, hf, h => by
    rw [whileL, hc k ρ M hk h]
    by_cases q : k < n
    · obtain ⟨ρ1, M1, e1, h1⟩ := hb k ρ M q h
      have ih := while_nx Inv n hc hb fuel (k + 1) ρ1 M1 (by omega) (by omega) h1
      simp only [toS_ok, decide_eq_true q, if_true, e1]
      exact ih
    · obtain rfl : k = n := by omega
      simp only [toS_ok, decide_eq_false q, Bool.false_eq_true, if_false]
      exact .of h
/-! ### comprehensions -/
theorem lcL_pure {src : Src} {t : Tgt} {test : EvB} {elt : EvF} {ρ : Env'} {M : Mem} {γ : Type} {e : γ → PyData} (p : γ → Bool) (f : γ → PyData) (hl : src.holds M = true) :
    ∀ xs : List γ, (∀ x ∈ xs, ∃ ρ2, t.bind (e x) ρ = some ρ2 ∧ test ρ2 M = .ok (p x) M ∧ (p x = true → elt ρ2 M = .ok (.dat (f x)) M)) → lcL src t test elt ρ (xs.map e) M = .ok ((xs.filter p).map f) M
  | [], _ => by rw [List.map_nil, lcL, if_pos hl]; rfl
  | x :: xs, h => by
    obtain ⟨ρ2, h1, h2, h3⟩ := h x List.mem_cons_self
    have ih := lcL_pure p f hl xs fun y hy => h y (List.mem_cons_of_mem _ hy)
    rw [List.map_cons, lcL, if_pos hl, h1]
    simp only [h2, bind_ok]
    cases hp : p x with
    | true => simp only [if_true, h3 hp, bind_ok, ih, List.filter_cons_of_pos hp, List.map_cons]
    | false => simp only [Bool.false_eq_true, if_false, ih]; rw [List.filter_cons_of_neg (by simp [hp])]
theorem lc_pure {it : EvI} {t : Tgt} {test : EvB} {elt : EvF} {own : List Nat} {ρ : Env'} {M M0 : Mem} {src : Src} {γ : Type} {e : γ → PyData} (xs : List γ) (p : γ → Bool) (f : γ → PyData) (hs : it ρ M = .ok src M0) (hx : src.items = xs.map e) (hl : src.holds M0 = true) (hn : xs.length ≤ LIM)
    (h : ∀ x ∈ xs, ∃ ρ2, t.bind (e x) (wipeE ρ own) = some ρ2 ∧ test ρ2 M0 = .ok (p x) M0 ∧ (p x = true → elt ρ2 M0 = .ok (.dat (f x)) M0)) : eLc it t test elt own ρ M = .ok (.dat (.list ((xs.filter p).map f))) M0 := by
  unfold eLc
  simp only [hs, bind_ok, hx, List.length_map, if_pos hn, lcL_pure p f hl xs h, noEx]
theorem lc_dat {it : EvI} {t : Tgt} {test : EvB} {elt : EvF} {own : List Nat} {ρ : Env'} {M : Mem} {γ : Type} {e : γ → PyData} (xs : List γ) (p : γ → Bool) (f : γ → PyData) (hs : it ρ M = .ok ⟨xs.map e, []⟩ M) (hn : xs.length ≤ LIM)
    (h : ∀ x ∈ xs, ∃ ρ2, t.bind (e x) (wipeE ρ own) = some ρ2 ∧ test ρ2 M = .ok (p x) M ∧ (p x = true → elt ρ2 M = .ok (.dat (f x)) M)) : eLc it t test elt own ρ M = .ok (.dat (.list ((xs.filter p).map f))) M := lc_pure xs p f hs rfl rfl hn h
@[simp] theorem wipeE_nil (ρ : Env') : wipeE ρ [] = ρ := rfl
@[simp] theorem wipeE_cons (ρ : Env') (v : Nat) (vs : List Nat) : wipeE ρ (v :: vs) = (wipeE ρ vs).set v none := rfl
theorem nx_intro {r : SRes} {ρ : Env'} {M : Mem} {P : Env' → Mem → Prop} (e : r = .nx ρ M) (h : P ρ M) : Nx r P := ⟨ρ, M, e, h⟩
end EV

set_option Elab.async false
set_option linter.all false
set_option maxRecDepth 100000
set_option maxHeartbeats 4000000
namespace EV
open PySem QL T
/-! ### values -/
/-- can be a dict's key | is sorted as a tuple, or as no tuple -/
class PKey {α : Type} (e : α → PyData) : Prop where
  ok : ∀ a, kOk (e a) = true
class PSort {α : Type} (e : α → PyData) : Prop where
  ok : (∀ a, neTup (e a) = true) ∨ (∀ a, noTup (e a) = true)
section
variable {α β γ : Type} {e : α → PyData} {f : β → PyData} {g : γ → PyData} {n m k : Nat} {M : Mem}
instance : PSort eR := ⟨.inr fun _ => rfl⟩
instance : PSort eN := ⟨.inr fun _ => rfl⟩
instance : PSort (eP e f) := ⟨.inl fun _ => rfl⟩
instance : PSort (eT3 e f g) := ⟨.inl fun _ => rfl⟩
theorem keyOf_R (r : Room) : keyOf (eR r) = some (.text r.val) := by unfold eR; rw [keyOf]
theorem keyOf_N (i : Nat) : keyOf (eN i) = some (.num i) := by unfold eN; rw [keyOf]
theorem keysOf_map {α : Type} {e : α → PyData} (q : α → NestedKey) (h : ∀ a, keyOf (e a) = some (q a)) : ∀ l : List α, keysOf (l.map e) = some (l.map q)
  | [] => by rw [List.map_nil, keysOf]; rfl
  | x :: xs => by rw [List.map_cons, keysOf, h, keysOf_map q h xs]; rfl
theorem keyOf_T {α : Type} {e : α → PyData} (q : α → NestedKey) (h : ∀ a, keyOf (e a) = some (q a)) (l : List α) : keyOf (eT e l) = some (.tup (l.map q)) := by
  unfold eT; rw [keyOf, keysOf_map q h]
theorem keyOf_P {p : α → NestedKey} {q : β → NestedKey} (h1 : ∀ a, keyOf (e a) = some (p a)) (h2 : ∀ a, keyOf (f a) = some (q a)) (x : α × β) : keyOf (eP e f x) = some (.tup [p x.1, q x.2]) := by
  unfold eP; rw [keyOf, keysOf, keysOf, keysOf, h1, h2]
theorem depths_map {α : Type} (q : α → NestedKey) (h : ∀ a, (q a).depth = 0) : ∀ l : List α, NestedKey.depthAll (l.map q) = 0
  | [] => by rw [List.map_nil, NestedKey.depthAll]
  | x :: xs => by rw [List.map_cons, NestedKey.depthAll, h, depths_map q h xs]; rfl
theorem kOk_of {d : PyData} {ks : List NestedKey} (ht : ∃ l, d = .tuple l) (h : keyOf d = some (.tup ks)) (hd : (NestedKey.tup ks).depth ≤ 8) : kOk d = true := by
  obtain ⟨l, rfl⟩ := ht
  unfold kOk
  simp only [h, decide_eq_true hd]
instance : PKey (eSt : Stand → PyData) := ⟨fun s => by
  refine kOk_of ⟨_, rfl⟩ (keyOf_P (fun l => keyOf_T (fun r : Room => NestedKey.text r.val) keyOf_R l) (fun l => keyOf_T (fun r : Room => NestedKey.text r.val) keyOf_R l) s) ?_
  rw [NestedKey.depth, NestedKey.depthAll, NestedKey.depthAll, NestedKey.depthAll, NestedKey.depth, NestedKey.depth, depths_map _ (fun r => by rw [NestedKey.depth]), depths_map _ (fun r => by rw [NestedKey.depth])]
  decide⟩
instance : PKey (ePr : Room × Room → PyData) := ⟨fun s => by
  refine kOk_of ⟨_, rfl⟩ (keyOf_P keyOf_R keyOf_R s) ?_
  rw [NestedKey.depth, NestedKey.depthAll, NestedKey.depthAll, NestedKey.depthAll, NestedKey.depth, NestedKey.depth]
  decide⟩
@[simp] theorem asT_T (l : List α) : asT (.dat (eT e l)) = some (l.map e) := rfl
@[simp] theorem asT_P (p : α × β) : asT (.dat (eP e f p)) = some [e p.1, f p.2] := rfl
@[simp] theorem asT_3 (p : α × β × γ) : asT (.dat (eT3 e f g p)) = some [e p.1, f p.2.1, g p.2.2] := rfl
@[simp] theorem asT_L (l : List PyData) : asT (.dat (.list l)) = none := rfl
@[simp] theorem asT_obj (l : Nat) : asT (.obj l) = none := rfl
@[simp] theorem asL_L (l : List PyData) : asL (.dat (.list l)) M = some l := rfl
@[simp] theorem asD_d (d : PyData) : asD (.dat d) M = some d := rfl
@[simp] theorem ixP0 (p : α × β) : vIxA (.dat (eP e f p)) (.dat (.int 0)) M = some (.dat (e p.1), M) := rfl
@[simp] theorem ixP1 (p : α × β) : vIxA (.dat (eP e f p)) (.dat (.int 1)) M = some (.dat (f p.2), M) := rfl
@[simp] theorem ix30 (p : α × β × γ) : vIxA (.dat (eT3 e f g p)) (.dat (.int 0)) M = some (.dat (e p.1), M) := rfl
@[simp] theorem ix31 (p : α × β × γ) : vIxA (.dat (eT3 e f g p)) (.dat (.int 1)) M = some (.dat (f p.2.1), M) := rfl
@[simp] theorem ix32 (p : α × β × γ) : vIxA (.dat (eT3 e f g p)) (.dat (.int 2)) M = some (.dat (g p.2.2), M) := rfl
theorem atI_map [Inhabited α] {l : List α} {i : Nat} (h : i < l.length) : L2.atI (l.map e) (i : Int) = some (e (nth l i)) := by
  unfold L2.atI L2.ixN
  rw [if_pos (by omega), List.length_map, if_pos (by omega)]
  simp only [Option.bind_some, Int.toNat_natCast, List.getElem?_map, nth_get h, Option.map_some]
theorem ixT [Inhabited α] {l : List α} {i : Nat} (h : i < l.length) : vIxA (.dat (eT e l)) (.dat (eN i)) M = some (.dat (e (nth l i)), M) := by
  unfold vIxA or2 vIx or2 vIxT eN
  simp only [asT_T, atI_map h]
theorem ixL [Inhabited α] {l : List α} {i : Nat} (h : i < l.length) : vIxA (.dat (.list (l.map e))) (.dat (eN i)) M = some (.dat (e (nth l i)), M) := by
  unfold vIxA or2 vIx or2 vIxT vIxL eN
  simp only [asT_L, asL_L, atI_map h]
theorem ixL0 [Inhabited α] {l : List α} {i : Nat} {M : Mem} (h : i < l.length) : vIxA (.obj 0) (.dat (eN i)) (.lst (l.map e) :: M) = some (.dat (e (nth l i)), .lst (l.map e) :: M) := by
  unfold vIxA or2 vIx or2 vIxT vIxL eN
  simp only [asT, asL, List.getElem?_cons_zero, atI_map h]
theorem putL0 {l : List α} {i : Nat} {M : Mem} (a : α) (h : i < l.length) : vPutA (.obj 0) (.dat (eN i)) (.dat (e a)) (.lst (l.map e) :: M) = some (.lst ((l.set i a).map e) :: M) := by
  unfold vPutA or3 vPutL eN
  have : L2.ixN (l.map e).length (i : Int) = some i := by
    unfold L2.ixN
    rw [if_pos (by omega), List.length_map, if_pos (by omega), Int.toNat_natCast]
  simp only [asL, List.getElem?_cons_zero, this, List.set_cons_zero, List.map_set]
@[simp] theorem asL_obj (l : Nat) : asL (.obj l) M = match M[l]? with | some (.lst ds) => some ds | _ => none := rfl
theorem app0 {l : List PyData} {d : PyData} {M : Mem} (h : l.length < LIM) : mAppend (.obj 0) [.dat d] (.lst l :: M) = some (.dat .none, .lst (l ++ [d]) :: M) := by
  unfold mAppend lstO
  simp only [List.getElem?_cons_zero, if_pos h, List.set_cons_zero]
theorem app1 {l : List PyData} {d : PyData} {m : MO} {M : Mem} (h : l.length < LIM) : mAppend (.obj 1) [.dat d] (m :: .lst l :: M) = some (.dat .none, m :: .lst (l ++ [d]) :: M) := by
  unfold mAppend lstO
  simp only [List.getElem?_cons_succ, List.getElem?_cons_zero, if_pos h, List.set_cons_zero, List.set_cons_succ]
theorem tyB_l0 {l : List PyData} {M : Mem} : tyB "list" (.obj 0) (.lst l :: M) = true := by simp [tyB, asL]
theorem tyB_l1 {l : List PyData} {m : MO} {M : Mem} : tyB "list" (.obj 1) (m :: .lst l :: M) = true := by simp [tyB, asL]
theorem shaped_T [PEq e n] (h : n + 1 ≤ 64) (l : List α) : SeqAt.shaped (.tuple (l.map e)) = true := shaped_d (e := eT e) h l
theorem shaped_L [PEq e n] (h : n + 1 ≤ 64) (l : List α) : SeqAt.shaped (.list (l.map e)) = true := shaped_d (e := eL e) h l
theorem inT [DecidableEq α] [PEq e n] (h : n + 1 ≤ 64 := by decide) {neg : Bool} (a : α) (l : List α) : vInA neg (.dat (e a)) (.dat (eT e l)) M = some (.dat (.bool (if neg then !decide (a ∈ l) else decide (a ∈ l))), M) := by
  unfold vInA or2 vIn eT
  simp only [asD_d, shaped_d (e := e) (show n ≤ 64 by omega), shaped_T h, Bool.and_self, if_true, any_d]
theorem inL [DecidableEq α] [PEq e n] (h : n + 1 ≤ 64 := by decide) {neg : Bool} (a : α) (l : List α) : vInA neg (.dat (e a)) (.dat (.list (l.map e))) M = some (.dat (.bool (if neg then !decide (a ∈ l) else decide (a ∈ l))), M) := by
  unfold vInA or2 vIn
  simp only [asD_d, shaped_d (e := e) (show n ≤ 64 by omega), shaped_L h, Bool.and_self, if_true, any_d]
theorem inO [DecidableEq α] [PEq e n] (h : n + 1 ≤ 64 := by decide) {neg : Bool} (a : α) (l : List α) {i : Nat} (hM : M[i]? = some (.lst (l.map e))) : vInA neg (.dat (e a)) (.obj i) M = some (.dat (.bool (if neg then !decide (a ∈ l) else decide (a ∈ l))), M) := by
  unfold vInA or2 vIn
  simp only [asD_d, asD, hM, shaped_d (e := e) (show n ≤ 64 by omega), shaped_L h, Bool.and_self, if_true, any_d]
theorem inO0 [DecidableEq α] [PEq e n] (h : n + 1 ≤ 64 := by decide) {neg : Bool} (a : α) (l : List α) (M : Mem) : vInA neg (.dat (e a)) (.obj 0) (.lst (l.map e) :: M) = some (.dat (.bool (if neg then !decide (a ∈ l) else decide (a ∈ l))), .lst (l.map e) :: M) := inO h a l rfl
theorem toT_O0 (l : List α) (M : Mem) : vToT (.obj 0) (.lst (l.map e) :: M) = some (.dat (eT e l), .lst (l.map e) :: M) := rfl
theorem eq_d [DecidableEq α] [PEq e n] (h : n ≤ 64 := by decide) (a b : α) : vEq (.dat (e a)) (.dat (e b)) M = some (.dat (.bool (decide (a = b))), M) := by
  unfold vEq vEqD
  simp only [asD_d, shaped_d (e := e) h, Bool.and_self, if_true, eqv_d]
  rfl
theorem ne_d [DecidableEq α] [PEq e n] (h : n ≤ 64 := by decide) (a b : α) : vNe (.dat (e a)) (.dat (e b)) M = some (.dat (.bool (!decide (a = b))), M) := by
  unfold vNe vEqD
  simp only [asD_d, shaped_d (e := e) h, Bool.and_self, if_true, eqv_d]
theorem eq_L [DecidableEq α] [PEq e n] (h : n + 1 ≤ 64 := by decide) (a b : List α) : vEq (.dat (.list (a.map e))) (.dat (.list (b.map e))) M = some (.dat (.bool (decide (a = b))), M) := eq_d (e := eL e) h a b
theorem ne_L [DecidableEq α] [PEq e n] (h : n + 1 ≤ 64 := by decide) (a b : List α) : vNe (.dat (.list (a.map e))) (.dat (.list (b.map e))) M = some (.dat (.bool (!decide (a = b))), M) := ne_d (e := eL e) h a b
/-- .. against [] -/
theorem ne_nil [DecidableEq α] [PEq e n] (h : n + 1 ≤ 64 := by decide) (a : List α) : vNe (.dat (.list (a.map e))) (.dat (.list [])) M = some (.dat (.bool (!decide (a = []))), M) := ne_L (e := e) h a []
theorem eq_nil [DecidableEq α] [PEq e n] (h : n + 1 ≤ 64 := by decide) (a : List α) : vEq (.dat (.list (a.map e))) (.dat (.list [])) M = some (.dat (.bool (decide (a = []))), M) := eq_L (e := e) h a []
theorem ne_nilO [DecidableEq α] [PEq e n] (h : n + 1 ≤ 64 := by decide) (a : List α) {i : Nat} (hM : M[i]? = some (.lst (a.map e))) : vNe (.obj i) (.dat (.list [])) M = some (.dat (.bool (!decide (a = []))), M) := by
  have := ne_nil (M := M) h a (e := e)
  unfold vNe vEqD at this ⊢
  simp only [asD, hM] at this ⊢
  exact this
theorem is_none (o : Option T.Room) : vIs (.dat (eO eR o)) (.dat .none) M = some (.dat (.bool (decide (o = none))), M) := by
  cases o with
  | none => rfl
  | some r => simp [vIs, or2, vIsN, eO, eR]
theorem isNot_none (o : Option T.Room) : vIsNot (.dat (eO eR o)) (.dat .none) M = some (.dat (.bool (!decide (o = none))), M) := by
  cases o with
  | none => rfl
  | some r => simp [vIsNot, or2, vIsN, eO, eR]
theorem eq_oR (o : Option T.Room) (r : T.Room) : vEq (.dat (eO eR o)) (.dat (eR r)) M = some (.dat (.bool (decide (o = some r))), M) := eq_d (e := eO eR) (by decide) o (some r)
theorem ne_oR (o : Option T.Room) (r : T.Room) : vNe (.dat (eO eR o)) (.dat (eR r)) M = some (.dat (.bool (!decide (o = some r))), M) := ne_d (e := eO eR) (by decide) o (some r)
theorem eq_Ro (o : Option T.Room) (r : T.Room) : vEq (.dat (eR r)) (.dat (eO eR o)) M = some (.dat (.bool (decide (some r = o))), M) := eq_d (e := eO eR) (by decide) (some r) o
theorem bools_map (p : α → Bool) : ∀ l : List α, bools (l.map fun x => .bool (p x)) = some (l.map p)
  | [] => rfl
  | x :: xs => by rw [List.map_cons, bools, bools_map p xs]; rfl
theorem all_map (p : α → Bool) (l : List α) : vAll (.dat (.list (l.map fun x => .bool (p x)))) M = some (.dat (.bool (l.all p)), M) := by
  unfold vAll
  simp only [asL_L, bools_map, List.all_map]
  rfl
theorem any_map (p : α → Bool) (l : List α) : vAny (.dat (.list (l.map fun x => .bool (p x)))) M = some (.dat (.bool (l.any p)), M) := by
  unfold vAny
  simp only [asL_L, bools_map, List.any_map]
  rfl
@[simp] theorem gT_P (i j : Nat) (p : α × β) (ρ : Env') : gT [gN i, gN j] (.dat (eP e f p)) ρ M = .nx ((ρ.set i (some (.dat (e p.1)))).set j (some (.dat (f p.2)))) M := rfl
@[simp] theorem gT_3 (i j l : Nat) (p : α × β × γ) (ρ : Env') : gT [gN i, gN j, gN l] (.dat (eT3 e f g p)) ρ M = .nx (((ρ.set i (some (.dat (e p.1)))).set j (some (.dat (f p.2.1)))).set l (some (.dat (g p.2.2)))) M := rfl
theorem tup1 (e : α → PyData) (a : α) : vTup [.dat (e a)] M = some (.dat (eT e [a]), M) := rfl
theorem tup2 (e : α → PyData) (f : β → PyData) (a : α) (b : β) : vTup [.dat (e a), .dat (f b)] M = some (.dat (eP e f (a, b)), M) := rfl
theorem tup0 (e : α → PyData) : vTup [] M = some (.dat (eT e []), M) := rfl
@[simp] theorem lst0 : vLst [] M = some (.dat (.list []), M) := rfl
theorem lst1 (e : α → PyData) (a : α) : vLst [.dat (e a)] M = some (.dat (.list ([a].map e)), M) := rfl
@[simp] theorem newL0 : vNewL [] M = some (.obj M.length, M ++ [.lst []]) := rfl
@[simp] theorem lenT (l : List α) : vLen (.dat (eT e l)) M = some (.dat (eN l.length), M) := by
  unfold vLen eT eN; simp
@[simp] theorem lenL (l : List α) : vLen (.dat (.list (l.map e))) M = some (.dat (eN l.length), M) := by
  unfold vLen eN; simp
@[simp] theorem toT_L (l : List α) : vToT (.dat (.list (l.map e))) M = some (.dat (eT e l), M) := rfl
@[simp] theorem toL_T (l : List α) : vToL (.dat (eT e l)) M = some (.dat (.list (l.map e)), M) := rfl
@[simp] theorem toNewL_T (l : List α) : vToNewL (.dat (eT e l)) M = some (.obj M.length, M ++ [.lst (l.map e)]) := rfl
@[simp] theorem toNewL_L (l : List PyData) : vToNewL (.dat (.list l)) M = some (.obj M.length, M ++ [.lst l]) := rfl
theorem sortB_map [POr e] [PEq e n] [PSort e] (h : n ≤ 32) (l : List α) : sortB (l.map e) = true := by
  unfold sortB
  rw [Bool.and_eq_true, Bool.and_eq_true, Bool.or_eq_true]
  refine ⟨⟨?_, ?_⟩, ?_⟩
  · simp only [List.all_eq_true, List.mem_map]
    rintro _ ⟨a, _, rfl⟩ _ ⟨b, _, rfl⟩
    exact POr.al a b
  · simp only [List.all_eq_true, List.mem_map]
    rcases PSort.ok (e := e) with h | h
    · exact .inl fun _ ⟨a, _, q⟩ => q ▸ h a
    · exact .inr fun _ ⟨a, _, q⟩ => q ▸ h a
  · simp only [List.all_eq_true, List.mem_map]
    rintro _ ⟨a, _, rfl⟩
    exact decide_eq_true (Nat.le_trans (PEq.dep a) h)
theorem sortD_map (l : List α) : sortD (l.map e) = (tsort e l).map e := by
  rw [sortD_eq]
  exact (List.map_mergeSort (r := leE e) (s := PySem.W.dataLe false id) (f := e) (l := l) (fun a _ b _ => rfl)).symm
theorem sort_L [POr e] [PEq e n] [PSort e] (h : n ≤ 32 := by decide) (l : List α) : vSortA [.dat (.list (l.map e))] M = some (.dat (.list ((tsort e l).map e)), M) := by
  unfold vSortA orN v1N vSort
  simp only [asL_L, sortB_map h, if_true, sortD_map]
theorem sort_T [POr e] [PEq e n] [PSort e] (h : n ≤ 32 := by decide) (l : List α) : vSort (.dat (.list (l.map e))) M = some (.dat (.list ((tsort e l).map e)), M) := by
  unfold vSort
  simp only [asL_L, sortB_map h, if_true, sortD_map]
theorem sort_O [POr e] [PEq e n] [PSort e] (h : n ≤ 32 := by decide) (l : List α) {i : Nat} (hM : M[i]? = some (.lst (l.map e))) : vSortA [.obj i] M = some (.dat (.list ((tsort e l).map e)), M) := by
  unfold vSortA orN v1N vSort
  simp only [asL, hM, sortB_map h, if_true, sortD_map]
@[simp] theorem seq_T (l : List α) : seqSrc (.dat (eT e l)) M = some ⟨l.map e, []⟩ := rfl
@[simp] theorem seq_L (l : List PyData) : seqSrc (.dat (.list l)) M = some ⟨l, []⟩ := rfl
@[simp] theorem any_T (l : List α) : anySrc (.dat (eT e l)) M = some ⟨l.map e, []⟩ := rfl
@[simp] theorem any_L (l : List PyData) : anySrc (.dat (.list l)) M = some ⟨l, []⟩ := rfl
@[simp] theorem any_fdc (kvs : List (PyData × PyData)) : anySrc (.fdc kvs) M = some ⟨kvs.map (·.1), []⟩ := rfl
theorem enum_map (l : List α) : enumD (l.map e) = (l.zipIdx.map fun p => (p.2, p.1)).map (eP eN e) := by
  unfold enumD
  rw [List.zipIdx_map, List.map_map, List.map_map]
  rfl
theorem zip_map (l : List α) (r : List β) : zipD (l.map e) (r.map f) = (l.zip r).map (eP e f) := by
  unfold zipD
  rw [List.zip_map, List.map_map]
  rfl
theorem rng_map (j : Nat) : rngD 0 j = (List.range j).map eN := by
  unfold rngD eN
  simp
theorem catT {l r : List α} (h : l.length + r.length ≤ LIM) : vAdd (.dat (eT e l)) (.dat (eT e r)) M = some (.dat (eT e (l ++ r)), M) := by
  unfold vAdd or2 vInt2 vCatT
  simp only [eT, asT, List.length_map, if_pos h, List.map_append]
theorem catL {l r : List α} (h : l.length + r.length ≤ LIM) : vAdd (.dat (.list (l.map e))) (.dat (.list (r.map e))) M = some (.dat (.list ((l ++ r).map e)), M) := by
  unfold vAdd or2 vInt2 vCatT vCatL
  simp only [asT_L, asL_L, List.length_map, if_pos h, List.map_append]
theorem cut_to (l : List α) (i : Nat) : cutD (l.map e) none (some (i : Int)) = (l.take i).map e := by
  unfold cutD
  rw [HT.sIx_nat, HT.sIx_none, List.drop_zero, Nat.sub_zero, List.map_take, List.length_map]
  by_cases h : i ≤ l.length
  · rw [Nat.min_eq_left h]
  · rw [Nat.min_eq_right (by omega), List.take_of_length_le (by simp), List.take_of_length_le (by simp; omega)]
theorem cut_from (l : List α) (i : Nat) : cutD (l.map e) (some (i : Int)) none = (l.drop i).map e := by
  unfold cutD
  rw [HT.sIx_nat, HT.sIx_none, List.map_drop, List.length_map]
  by_cases h : i ≤ l.length
  · rw [Nat.min_eq_left h, List.take_of_length_le (by simp)]
  · rw [Nat.min_eq_right (by omega), List.drop_eq_nil_of_le (by simp), List.drop_eq_nil_of_le (by simp; omega)]; simp
theorem slT_to (l : List α) (i : Nat) : vSl (.dat (eT e l)) none (some (i : Int)) M = some (.dat (eT e (l.take i)), M) := by
  unfold vSl; simp only [asT_T, cut_to]; rfl
theorem slT_from (l : List α) (i : Nat) : vSl (.dat (eT e l)) (some (i : Int)) none M = some (.dat (eT e (l.drop i)), M) := by
  unfold vSl; simp only [asT_T, cut_from]; rfl
theorem slL_to (l : List α) (i : Nat) : vSl (.dat (.list (l.map e))) none (some (i : Int)) M = some (.dat (.list ((l.take i).map e)), M) := by
  unfold vSl; simp only [asT_L, asL_L, cut_to]
theorem slL_from (l : List α) (i : Nat) : vSl (.dat (.list (l.map e))) (some (i : Int)) none M = some (.dat (.list ((l.drop i).map e)), M) := by
  unfold vSl; simp only [asT_L, asL_L, cut_from]
theorem slL_from1 (l : List α) : vSl (.dat (.list (l.map e))) (some ((1 : Int))) none M = some (.dat (.list ((l.drop 1).map e)), M) := slL_from l 1
@[simp] theorem sl3_pair (p : α × β × γ) : vSl (.dat (eT3 e f g p)) none (some 2) M = some (.dat (eP e f (p.1, p.2.1)), M) := rfl
@[simp] theorem lstO_obj (l : Nat) : lstO (.obj l) M = match M[l]? with | some (.lst ds) => some (l, ds) | _ => none := rfl
theorem sort_0 [POr e] [PEq e n] [PSort e] (h : n ≤ 32 := by decide) (l : List α) (M : Mem) : vSortA [.obj 0] (.lst (l.map e) :: M) = some (.dat (.list ((tsort e l).map e)), .lst (l.map e) :: M) := sort_O h l rfl
theorem sort_1 [POr e] [PEq e n] [PSort e] (h : n ≤ 32 := by decide) (l : List α) (m : MO) (M : Mem) : vSortA [.obj 1] (m :: .lst (l.map e) :: M) = some (.dat (.list ((tsort e l).map e)), m :: .lst (l.map e) :: M) := sort_O h l rfl
theorem slT_from1 (l : List α) (i : Nat) : vSl (.dat (eT e l)) (some ((i : Int) + 1)) none M = some (.dat (eT e (l.drop (i + 1))), M) := slT_from l (i + 1)
theorem sum_le {f : α → Nat} {n : Nat} : ∀ {l : List α}, (∀ x ∈ l, f x ≤ n) → (l.map f).sum ≤ l.length * n
  | [], _ => by simp
  | x :: xs, h => by
    have h1 := h x List.mem_cons_self
    have h2 := sum_le (l := xs) fun y hy => h y (List.mem_cons_of_mem _ hy)
    rw [List.map_cons, List.sum_cons, List.length_cons, Nat.succ_mul]
    omega
@[simp] theorem addN1 (i : Nat) : vAdd (.dat (eN i)) (.dat (.int 1)) M = some (.dat (eN (i + 1)), M) := by
  unfold vAdd or2 vInt2 eN
  simp
theorem mul01 {c : Prop} [Decidable c] (e : α → PyData) (a : α) : vMul (.dat (.list [e a])) (.dat (.int (if c then 0 else 1))) M = some (.dat (.list ((if c then [] else [a]).map e)), M) := by
  by_cases h : c <;> simp [h, vMul, or2, vInt2, vRepL, LIM]
@[simp] theorem toI_b (b : Bool) : vToI (.dat (.bool b)) M = some (.dat (.int (if b = true then 1 else 0)), M) := rfl
/-! dicts -/
def eDc (e : α → PyData) (f : β → PyData) (d : List (α × β)) : List (PyData × PyData) := d.map fun p => (e p.1, f p.2)
theorem dc_keys (d : List (α × β)) : (eDc e f d).map (·.1) = (G.keys d).map e := by
  unfold eDc G.keys
  rw [List.map_map, List.map_map]
  rfl
theorem dc_any [DecidableEq α] [PEq e n] (d : List (α × β)) (a : α) : ((eDc e f d).any fun p => decide (p.1 = e a)) = decide (a ∈ G.keys d) := by
  rw [Bool.eq_iff_iff, List.any_eq_true, decide_eq_true_iff]
  unfold eDc G.keys
  constructor
  · rintro ⟨x, h1, h2⟩
    obtain ⟨p, hp, rfl⟩ := List.mem_map.mp h1
    have h3 : p.1 = a := PEq.inj (e := e) (of_decide_eq_true h2)
    exact List.mem_map.mpr ⟨p, hp, h3⟩
  · intro h
    obtain ⟨p, hp, rfl⟩ := List.mem_map.mp h
    exact ⟨_, List.mem_map.mpr ⟨p, hp, rfl⟩, by simp⟩
theorem in_dct [DecidableEq α] [PEq e n] [PKey e] {neg : Bool} (d : List (α × β)) (a : α) {i : Nat} (hM : M[i]? = some (.dct (eDc e f d))) : vInA neg (.dat (e a)) (.obj i) M = some (.dat (.bool (if neg then !decide (a ∈ G.keys d) else decide (a ∈ G.keys d))), M) := by
  unfold vInA or2 vIn vInM
  simp only [asD_d, asD, asM, hM, PKey.ok, if_true, dc_any]
theorem in_fdc [DecidableEq α] [PEq e n] [PKey e] {neg : Bool} (d : List (α × β)) (a : α) : vInA neg (.dat (e a)) (.fdc (eDc e f d)) M = some (.dat (.bool (if neg then !decide (a ∈ G.keys d) else decide (a ∈ G.keys d))), M) := by
  unfold vInA or2 vIn vInM
  simp only [asD_d, asD, asM, PKey.ok, if_true, dc_any]
def tGet [DecidableEq α] (d : List (α × β)) (a : α) : Option β := (d.find? fun p => decide (p.1 = a)).map (·.2)
theorem dc_get [DecidableEq α] [PEq e n] (d : List (α × β)) (a : α) : dGet (eDc e f d) (e a) = (tGet d a).map f := by
  unfold dGet tGet eDc
  rw [List.find?_map]
  have : ((fun p : PyData × PyData => decide (p.1 = e a)) ∘ fun p : α × β => (e p.1, f p.2)) = fun p => decide (p.1 = a) := by
    funext p
    simp only [Function.comp]
    rw [Bool.eq_iff_iff, decide_eq_true_iff, decide_eq_true_iff, PEq.inj_iff (e := e)]
  rw [this]
  cases d.find? fun p => decide (p.1 = a) <;> rfl
theorem ix_fdc [DecidableEq α] [PEq e n] [PKey e] {d : List (α × β)} {a : α} {b : β} (h : tGet d a = some b) : vIxA (.fdc (eDc e f d)) (.dat (e a)) M = some (.dat (f b), M) := by
  unfold vIxA or2 vIx or2 vIxT vIxL vIxM
  simp only [asT, asL, asM, PKey.ok, if_true, dc_get, h, Option.map_some]
theorem ix_dct [DecidableEq α] [PEq e n] [PKey e] {d : List (α × β)} {a : α} {b : β} {i : Nat} (hM : M[i]? = some (.dct (eDc e f d))) (h : tGet d a = some b) : vIxA (.obj i) (.dat (e a)) M = some (.dat (f b), M) := by
  unfold vIxA or2 vIx or2 vIxT vIxL vIxM
  simp only [asT, asL, asM, hM, PKey.ok, if_true, dc_get, h, Option.map_some]
def tPut [DecidableEq α] (d : List (α × β)) (a : α) (b : β) : List (α × β) := if a ∈ G.keys d then d.map fun p => if p.1 = a then (p.1, b) else p else d ++ [(a, b)]
theorem dc_put [DecidableEq α] [PEq e n] (d : List (α × β)) (a : α) (b : β) : dPut (eDc e f d) (e a) (f b) = eDc e f (tPut d a b) := by
  unfold dPut tPut
  rw [dc_any]
  by_cases h : a ∈ G.keys d
  · rw [if_pos h, if_pos (decide_eq_true h)]
    unfold eDc
    rw [List.map_map, List.map_map]
    refine List.map_congr_left fun p _ => ?_
    simp only [Function.comp]
    by_cases q : p.1 = a
    · rw [if_pos q, if_pos (by rw [q])]
    · rw [if_neg q, if_neg (fun z => q (PEq.inj z))]
  · rw [if_neg h, if_neg (by simp [h])]
    unfold eDc
    rw [List.map_append]; rfl
theorem tPut_new [DecidableEq α] {d : List (α × β)} {a : α} {b : β} (h : a ∉ G.keys d) : tPut d a b = d ++ [(a, b)] := if_neg h
theorem dc_len (d : List (α × β)) : (eDc e f d).length = d.length := by unfold eDc; rw [List.length_map]
theorem put_dct [DecidableEq α] [PEq e n] [PKey e] {d : List (α × β)} {a : α} {b : β} {i : Nat} (hM : M[i]? = some (.dct (eDc e f d))) (hl : d.length < LIM) : vPutA (.obj i) (.dat (e a)) (.dat (f b)) M = some (M.set i (.dct (eDc e f (tPut d a b)))) := by
  unfold vPutA or3 vPutL vPutM
  simp only [asL, asMo, hM, PKey.ok, dc_len, decide_eq_true hl, Bool.and_self, if_true, dc_put]
theorem putD1_ok [PKey e] {a : α} {b : β} {i : Nat} (hM : M[i]? = some (.dct [])) : putD1 i (.dat (e a)) (.dat (f b)) M = some (.obj i, M.set i (.dct (eDc e f [(a, b)]))) := by
  unfold putD1
  simp only [hM, PKey.ok, if_true]
  rfl
end
end EV

set_option Elab.async false
set_option linter.all false
set_option maxRecDepth 100000
set_option maxHeartbeats 4000000
namespace EV
open PySem QL T G
/-! ### a search round by round, as the program and the laws write it -/
def mBfs (Fs Fg : FnF) (v0 : PyData) (val : EvF) : EvS := sSeq (sSet 2 (eD1 (eVar 1) (eD v0)))
  (sSeq (sSet 3 (eBi vLst (aCons (eVar 1) (aNil))))
  (sSeq (whileL (QL.eB (QL.e2 vNe (eVar 3) (eBi vLst (aNil)))) (sSeq (sSet 4 (eBi vNewL (aNil)))
  (sSeq (sFor (iAny (eVar 3)) (gN 5) (sFor (iAny (eCall Fs (aCons (eVar 0) (aCons (eVar 5) (aNil))))) (gN 6) (sSeq (sSet 7 (eCall Fg (aCons (eVar 5) (aCons (eVar 6) (aNil)))))
  (sIf (QL.eB (QL.e2 (vInA true) (eVar 7) (eVar 2))) (sSeq (sPut vPutA val (eVar 2) (eVar 7))
  (sDrop (eMt "list" mAppend (eVar 4) (aCons (eVar 7) (aNil))))) (sSkip)))))
  (sSet 3 (eFrz (eVar 4))))) 20000)
  (sRet (eFrz (eVar 2)))))
section
variable {m x y : MO} {Ds M : Mem} {l : Nat}
theorem last_get (h : l = Ds.length + 1) : (m :: (Ds ++ [x]))[l]? = some x := by subst h; simp
theorem last_set (h : l = Ds.length + 1) : (m :: (Ds ++ [x])).set l y = m :: (Ds ++ [y]) := by subst h; simp
theorem tyB_last {ds : List PyData} (h : l = Ds.length + 1) : tyB "list" (.obj l) (m :: (Ds ++ [.lst ds])) = true := by
  unfold tyB
  rw [if_pos rfl, asL]
  simp only [last_get h]
  rfl
theorem app_last {ds : List PyData} {d : PyData} (h : l = Ds.length + 1) (hl : ds.length < LIM) : mAppend (.obj l) [.dat d] (m :: (Ds ++ [.lst ds])) = some (.dat .none, m :: (Ds ++ [.lst (ds ++ [d])])) := by
  unfold mAppend lstO
  simp only [last_get h, if_pos hl, last_set h]
theorem frz_last {ds : List PyData} (h : l = Ds.length + 1) : frzC (.obj l) (m :: (Ds ++ [.lst ds])) = some (.dat (.list ds), m :: (Ds ++ [.dead])) := by
  unfold frzC
  simp only [last_get h, last_set h]
end
section
variable {α β V : Type} [DecidableEq α] {e : α → PyData} {eb : β → PyData} {eV : V → PyData} {n : Nat} [PEq e n] [PKey e]
structure LookOk (P : α → Prop) (st : List (α × V) × List α) : Prop where
  nd : (keys st.1).Nodup
  all : ∀ x ∈ keys st.1, P x
  len : st.2.length ≤ st.1.length
theorem LookOk.look {P : α → Prop} {st : List (α × V) × List α} {mk : List (α × V) → α → β → V} {here : α} {q : β × α} (h : LookOk P st) (hq : P q.2) : LookOk P (look mk here st q) := by
  unfold G.look
  split
  · exact h
  · rename_i hn
    refine ⟨?_, ?_, ?_⟩
    · rw [keys_append]
      exact List.nodup_append.mpr ⟨h.nd, by simp [keys], fun a ha b hb z => hn (by
        have hb : b = q.2 := by simpa [keys] using hb
        rw [← hb, ← z]; exact ha)⟩
    · intro x hx
      rw [keys_append] at hx
      rcases List.mem_append.mp hx with hx | hx
      · exact h.all x hx
      · have : x = q.2 := by simpa [keys] using hx
        exact this ▸ hq
    · have := h.len
      simp only [List.length_append, List.length_singleton]
      omega
theorem LookOk.small {P : α → Prop} {st : List (α × V) × List α} (h : LookOk P st) {u : List α} (hu : ∀ x, P x → x ∈ u) : st.1.length ≤ u.length := by
  have := nodup_le h.nd fun x hx => hu x (h.all x hx)
  unfold keys at this
  rwa [List.length_map] at this
def memB (e : α → PyData) (eV : V → PyData) (Ds : Mem) (st : List (α × V) × List α) : Mem := .dct (eDc e eV st.1) :: (Ds ++ [.lst (st.2.map e)])
variable {hd : Cell} {Fs Fg : FnF} {val : EvF} {v0 : V} {nb : α → List (β × α)} {mk : List (α × V) → α → β → V} {P : α → Prop} {s : α} {u : List α}
theorem f_bfs (hPs : P s) (hP : ∀ x, P x → ∀ q ∈ nb x, P q.2)
    (hFs : ∀ x, P x → ∀ M, Fs [hd, .dat (e x)] M = .ok (.dat (.list ((nb x).map fun q => eb q.1))) M)
    (hFg : ∀ x, P x → ∀ q ∈ nb x, ∀ M, Fg [.dat (e x), .dat (eb q.1)] M = .ok (.dat (e q.2)) M)
    (hval : ∀ x, P x → ∀ q ∈ nb x, ∀ (D : List (α × V)) a3 a4 a7 M, x ∈ keys D → val [some hd, some (.dat (e s)), some (.obj 0), a3, a4, some (.dat (e x)), some (.dat (eb q.1)), a7] (.dct (eDc e eV D) :: M) = .ok (.dat (eV (mk D x q.1))) (.dct (eDc e eV D) :: M))
    (hu : ∀ x, P x ↔ x ∈ u) (hlen : u.length < 19999) (hn : n + 1 ≤ 64) :
    ∃ N, N ≤ u.length ∧ (bst mk nb s v0 N).2 = [] ∧ Rt (mBfs Fs Fg (eV v0) val [some hd, some (.dat (e s)), none, none, none, none, none, none] []) (.fdc (eDc e eV (bst mk nb s v0 N).1)) := by
  obtain ⟨N, hN, hend, hbefore⟩ := lev_end (nbx nb) s (u := u) ((hu s).mp hPs) (fun x hx y hy => by
    obtain ⟨q, hq, rfl⟩ := List.mem_map.mp hy
    exact (hu _).mp (hP x ((hu x).mpr hx) q hq))
  have hk2 : ∀ k, (bst mk nb s v0 k).2 = (lev (nbx nb) s k).2 := bst_k2 mk nb s v0
  have hk1 : ∀ k, keys (bst mk nb s v0 k).1 = (lev (nbx nb) s k).1 := bst_k1 mk nb s v0
  have hreach : ∀ k x, x ∈ (lev (nbx nb) s k).1 → P x := fun k x hx => by
    obtain ⟨m, _, p⟩ := (mem_found (nbx nb) s).mp hx
    exact Path.inv (nbx nb) s (P := P) hPs (fun x hx y hy => by
      obtain ⟨q, hq, rfl⟩ := List.mem_map.mp hy
      exact hP x hx q hq) p
  refine ⟨N, hN, by rw [hk2, hend], ?_⟩
  unfold mBfs
  refine Rt.ev (by simp [putD1_ok (e := e) (f := eV) (i := 0) (M := [.dct []]) (a := s) (b := v0) rfl, lst1 e]; rfl) ?_
  refine bind_rt (while_nx (fun k ρ M => ∃ a4 a5 a6 a7, ρ = [some hd, some (.dat (e s)), some (.obj 0), some (.dat (.list ((bst mk nb s v0 k).2.map e))), a4, a5, a6, a7] ∧ ∃ Ds, M = .dct (eDc e eV (bst mk nb s v0 k).1) :: Ds) N ?_ ?_ 20000 0 _ _ (Nat.zero_le _) (by omega) ⟨_, _, _, _, rfl, [], rfl⟩) ?_
  · rintro k ρ M hk ⟨a4, a5, a6, a7, rfl, Ds, rfl⟩
    have : decide (k < N) = !decide ((bst mk nb s v0 k).2 = []) := by
      rw [hk2]
      by_cases q : k < N
      · simp [q, hbefore k q]
      · obtain rfl : k = N := by omega
        simp [hend]
    rw [this]
    simp [ne_nil (e := e) hn]
  · rintro k ρ M hk ⟨a4, a5, a6, a7, rfl, Ds, rfl⟩
    have hrow : ∀ x ∈ (bst mk nb s v0 k).2, P x ∧ x ∈ keys (bst mk nb s v0 k).1 := fun x hx => by
      rw [hk2] at hx
      have h1 := lev_sub (nbx nb) s k x hx
      exact ⟨hreach k x h1, by rw [hk1]; exact h1⟩
    have hok0 : LookOk P ((bst mk nb s v0 k).1, ([] : List α)) := ⟨by rw [hk1]; exact lev_nodup (nbx nb) s k, fun x hx => hreach k x (by rw [hk1] at hx; exact hx), Nat.zero_le _⟩
    refine Nx.ev (by simp; rfl) ?_
    refine bind_nx (for_dat (e := e) (bst mk nb s v0 k).2 (fun pre ρ M => ∃ a5 a6 a7, ρ = [some hd, some (.dat (e s)), some (.obj 0), some (.dat (.list ((bst mk nb s v0 k).2.map e))), some (.obj (Ds.length + 1)), a5, a6, a7] ∧ M = memB e eV Ds (pre.foldl (lookAll mk nb) ((bst mk nb s v0 k).1, [])) ∧ LookOk P (pre.foldl (lookAll mk nb) ((bst mk nb s v0 k).1, [])) ∧ ∀ x ∈ keys (bst mk nb s v0 k).1, x ∈ keys (pre.foldl (lookAll mk nb) ((bst mk nb s v0 k).1, [])).1) (by simp) ⟨_, _, _, rfl, rfl, hok0, fun x hx => hx⟩ ?_) ?_
    · rintro pre here post hq ρ M ⟨a5, a6, a7, rfl, rfl, hok, hsub⟩
      have hh := hrow here (by rw [hq]; simp)
      rw [List.foldl_append, List.foldl_cons, List.foldl_nil]
      generalize pre.foldl (lookAll mk nb) ((bst mk nb s v0 k).1, []) = st at hok hsub ⊢
      refine Nx.ev (by simp; rfl) ?_
      refine Nx.mono (for_dat (e := fun q : β × α => eb q.1) (nb here) (fun pre ρ M => ∃ a6 a7, ρ = [some hd, some (.dat (e s)), some (.obj 0), some (.dat (.list ((bst mk nb s v0 k).2.map e))), some (.obj (Ds.length + 1)), some (.dat (e here)), a6, a7] ∧ M = memB e eV Ds (pre.foldl (look mk here) st) ∧ LookOk P (pre.foldl (look mk here) st) ∧ ∀ x ∈ keys st.1, x ∈ keys (pre.foldl (look mk here) st).1) (by simp [hFs here hh.1]) ⟨_, _, rfl, rfl, hok, fun x hx => hx⟩ ?_) ?_
      · rintro pre2 q post2 hq2 ρ M ⟨a6, a7, rfl, rfl, hok2, hsub2⟩
        have hqm : q ∈ nb here := by rw [hq2]; simp
        have hPq := hP here hh.1 q hqm
        have hok3 := hok2.look (mk := mk) (here := here) hPq
        rw [List.foldl_append, List.foldl_cons, List.foldl_nil]
        have hin : here ∈ keys (pre2.foldl (look mk here) st).1 := hsub2 here (hsub here hh.2)
        generalize pre2.foldl (look mk here) st = st2 at hok2 hok3 hsub2 hin ⊢
        have hsm := hok2.small (u := u) fun x hx => (hu x).mp hx
        have hl2 := hok2.len
        have hM : (memB e eV Ds st2)[0]? = some (.dct (eDc e eV st2.1)) := rfl
        by_cases hk : q.2 ∈ keys st2.1
        · refine nx_intro (by
            simp [hFg here hh.1 q hqm, in_dct (e := e) (f := eV) st2.1 q.2 hM, hk]
            and_intros <;> rfl) ⟨_, _, rfl, ?_, hok3, ?_⟩
          · unfold look; rw [if_pos hk]
          · unfold look; rw [if_pos hk]; exact hsub2
        · have hv := hval here hh.1 q hqm st2.1 (some (.dat (.list ((bst mk nb s v0 k).2.map e)))) (some (.obj (Ds.length + 1))) (some (.dat (e q.2))) (Ds ++ [.lst (st2.2.map e)]) hin
          have hv : val _ (memB e eV Ds st2) = .ok _ (memB e eV Ds st2) := hv
          have hput := put_dct (e := e) (f := eV) (M := memB e eV Ds st2) (i := 0) (d := st2.1) (a := q.2) (b := mk st2.1 here q.1) hM (by unfold LIM; omega)
          have hM2 : (memB e eV Ds st2).set 0 (.dct (eDc e eV (tPut st2.1 q.2 (mk st2.1 here q.1)))) = .dct (eDc e eV (st2.1 ++ [(q.2, mk st2.1 here q.1)])) :: (Ds ++ [.lst (st2.2.map e)]) := by
            rw [tPut_new hk]; rfl
          rw [hM2] at hput
          refine nx_intro (by
            simp [hFg here hh.1 q hqm, in_dct (e := e) (f := eV) st2.1 q.2 hM, hk, hv, hput, tyB_last, app_last (Ds := Ds) (l := Ds.length + 1) (ds := st2.2.map e) rfl (by rw [List.length_map]; unfold LIM; omega)]
            and_intros <;> rfl) ⟨_, _, rfl, ?_, hok3, ?_⟩
          · unfold look memB; rw [if_neg hk]; simp
          · unfold look; rw [if_neg hk]
            intro x hx
            rw [keys_append]
            exact List.mem_append_left _ (hsub2 x hx)
      · rintro ρ M ⟨a6, a7, rfl, rfl, hok2, hsub2⟩
        exact ⟨_, _, _, rfl, rfl, hok2, fun x hx => hsub2 x (hsub x hx)⟩
    · rintro ρ M ⟨a5, a6, a7, rfl, rfl, hok, hsub⟩
      have er : (bst mk nb s v0 k).2.foldl (lookAll mk nb) ((bst mk nb s v0 k).1, []) = bst mk nb s v0 (k + 1) := rfl
      rw [er]
      unfold memB
      refine nx_intro (by
        simp [frz_last]
        and_intros <;> rfl) ⟨_, _, _, _, rfl, _, rfl⟩
  · rintro ρ M ⟨a4, a5, a6, a7, rfl, Ds, rfl⟩
    simp [frzC]
    exact .of
end
end EV

set_option Elab.async false
set_option linter.all false
set_option maxRecDepth 100000
set_option maxHeartbeats 4000000
namespace W
open PySem PySem.Spec PyProof.Rows L2 QL T EV
section
variable {M : Mem} {h : House} {s : Stand}
theorem f_can_go (w : Way) : F_can_go [.dat (eSt s), .dat (eWay w)] M = .ok (.dat (T.eB (canGo s w))) M := by
  refine pure_fn rfl rfl rfl ?_
  simp [m_can_go, inT (e := eR)]
  by_cases q : w.2.1 ∈ s.2 <;> simp [q, canGo, T.eB, Rt.of]
theorem zip_sub {l : List α} {p : List (Nat × α)} {x : Nat × α} {q : List (Nat × α)} (h : l.zipIdx.map (fun p => (p.2, p.1)) = p ++ x :: q) : p.length < l.length ∧ x.1 < l.length := by
  have e := congrArg List.length h
  simp at e
  refine ⟨by omega, ?_⟩
  have hx : x ∈ l.zipIdx.map (fun p => (p.2, p.1)) := by rw [h]; simp
  obtain ⟨y, hy, rfl⟩ := List.mem_map.mp hx
  have := List.mem_zipIdx hy
  show y.2 < _
  omega
theorem steps_fl (c : Stand → Way → Bool) : ((s.1.zipIdx.map fun p => (p.2, p.1)).flatMap fun p => (h.filter fun w => decide (w.1 = p.2) && c s w).map fun w => (p.1, w.2.1)) = stepsBy c h s := by
  unfold stepsBy
  rw [List.flatMap_map]
theorem f_steps (hh : h.length ≤ 1000) (hs : s.1.length ≤ 100) : F_steps [.dat (eH h), .dat (eSt s)] M = .ok (.dat (.list ((steps h s).map eSp))) M := by
  refine pure_fn rfl rfl rfl ?_
  simp [m_steps]
  refine bind_rt (for_nx (e := eP eN eR) (s.1.zipIdx.map fun p => (p.2, p.1)) (fun pre ρ M => ∃ a b, ρ = [some (.dat (eH h)), some (.dat (eSt s)), some (.obj 0), a, b, none] ∧ M = [.lst ((pre.flatMap fun p => (h.filter fun w => decide (w.1 = p.2) && canGo s w).map fun w => (p.1, w.2.1)).map eSp)]) (by simp; rfl) (enum_map (e := eR) s.1) ⟨_, _, rfl, rfl⟩ ?_ ?_) ?_
  · rintro pre ρ M ⟨a, b, rfl, rfl⟩
    rfl
  · rintro p x q hq ρ M ⟨a, b, rfl, rfl⟩
    have hp := (zip_sub hq).1
    have fl : ∀ y : Nat × T.Room, (h.filter fun w => decide (w.1 = y.2) && canGo s w).length ≤ 1000 := fun y => Nat.le_trans (List.length_filter_le _ _) hh
    refine nx_intro (by
      simp
      rw [lc_dat (e := eWay) h (fun w => decide (w.1 = x.2) && canGo s w) (fun w => eSp (x.1, w.2.1)) (by simp) (by unfold LIM; omega) (fun w _ => ⟨_, rfl, by simp [eq_d (e := eR), f_can_go], fun _ => by simp [tup2 eN eR]⟩)]
      simp
      rw [if_pos (by
        have h1 := sum_le (l := p) (fun y _ => fl y)
        have h2 := fl x
        unfold LIM
        omega)]) ⟨_, _, rfl, by simp [Function.comp_def]⟩
  · rintro ρ M ⟨a, b, rfl, rfl⟩
    rw [steps_fl]
    simp [sort_0 (e := eSp)]
    exact .of
theorem f_gone {p : T.Step} (hs : s.1.length ≤ 100) (hs2 : s.2.length ≤ 100) (hp : p.1 < s.1.length) : F_gone [.dat (eSt s), .dat (eSp p)] M = .ok (.dat (eSt (gone s p))) M := by
  refine pure_fn rfl rfl rfl ?_
  have c1 := catT (e := eR) (M := []) (l := s.1.take p.1) (r := [p.2]) (by simp; unfold LIM; omega)
  have c2 := catT (e := eR) (M := []) (l := s.1.take p.1 ++ [p.2]) (r := s.1.drop (p.1 + 1)) (by simp; unfold LIM; omega)
  have e : after s p = s.1.take p.1 ++ [p.2] ++ s.1.drop (p.1 + 1) := rfl
  rw [← e] at c2
  simp [m_gone, ixT (e := eR) hp, tup1 eR, slT_to, slT_from1, c1, c2]
  rw [lc_dat (e := eR) s.2 (fun r => !decide (r = p.2)) eR (by simp) (by unfold LIM; omega) (fun w _ => ⟨_, rfl, by simp [ne_d (e := eR)], fun _ => by simp⟩)]
  have l1 : (s.2.filter fun r => !decide (r = p.2)).length ≤ 100 := Nat.le_trans (List.length_filter_le _ _) hs2
  have c3 := catL (e := eR) (M := []) (l := s.2.filter fun r => !decide (r = p.2)) (r := if nth s.1 p.1 ∈ after s p then [] else [nth s.1 p.1]) (by split <;> simp only [List.length_nil, List.length_singleton] <;> unfold LIM <;> omega)
  simp [-List.map_append, lst1 eR, inT (e := eR), mul01 eR, c3, sort_L (e := eR), tup2 (eT eR) (eT eR)]
  exact .of
end
end W

set_option Elab.async false
set_option linter.all false
set_option maxRecDepth 100000
set_option maxHeartbeats 4000000
namespace W
open PySem PySem.Spec PyProof.Rows L2 QL T EV
section
variable {M : Mem} {h : House} {s : Stand}
def lawPart (h : House) (s : Stand) (p : Nat × T.Room) : List T.Step := (h.filter fun w => decide (w.1 = p.2) && lawCan s w).map fun w => (p.1, w.2.1)
theorem f_law_steps (hh : h.length ≤ 1000) (hs : s.1.length ≤ 100) : F__law_steps [.dat (eH h), .dat (eSt s)] M = .ok (.dat (.list ((lawSteps h s).map eSp))) M := by
  refine pure_fn rfl rfl rfl ?_
  simp [m__law_steps]
  refine bind_rt (for_dat (e := eP eN eR) (s.1.zipIdx.map fun p => (p.2, p.1)) (fun pre ρ M => ∃ a b c d e, ρ = [some (.dat (eH h)), some (.dat (eSt s)), some (.obj 0), a, b, c, d, e] ∧ M = [.lst ((pre.flatMap (lawPart h s)).map eSp)]) (by simp [enum_map]) ⟨_, _, _, _, _, rfl, rfl⟩ ?_) ?_
  · rintro p x q hq ρ M ⟨a, b, c, d, e, rfl, rfl⟩
    have hp := (zip_sub hq).1
    have fl : ∀ y : Nat × T.Room, (lawPart h s y).length ≤ 1000 := fun y => by
      unfold lawPart
      rw [List.length_map]
      exact Nat.le_trans (List.length_filter_le _ _) hh
    have l1 : (p.flatMap (lawPart h s)).length ≤ 100000 := by
      rw [List.length_flatMap]
      have := sum_le (l := p) (fun y _ => fl y)
      omega
    refine Nx.ev (by simp; rfl) ?_
    refine Nx.mono (for_dat (e := eWay) h (fun pre ρ M => ∃ c d e, ρ = [some (.dat (eH h)), some (.dat (eSt s)), some (.obj 0), some (.dat (eN x.1)), some (.dat (eR x.2)), c, d, e] ∧ M = [.lst ((p.flatMap (lawPart h s) ++ lawPart pre s x).map eSp)]) (by simp) ⟨_, _, _, rfl, by simp [lawPart]⟩ ?_) ?_
    · rintro p' w q' hq' ρ M ⟨c, d, e, rfl, rfl⟩
      have l2 : (lawPart p' s x).length ≤ 1000 := by
        unfold lawPart
        rw [List.length_map]
        refine Nat.le_trans (List.length_filter_le _ _) ?_
        have := congrArg List.length hq'
        simp at this
        omega
      have e2 : lawPart (p' ++ [w]) s x = lawPart p' s x ++ (if w.1 = x.2 ∧ lawCan s w = true then [(x.1, w.2.1)] else []) := by
        unfold lawPart
        rw [List.filter_append, List.map_append]
        by_cases q1 : w.1 = x.2 <;> by_cases q2 : lawCan s w = true <;> simp [q1, q2]
      have l3 : ((p.flatMap (lawPart h s) ++ lawPart p' s x).map eSp).length < LIM := by
        rw [List.length_map, List.length_append]
        unfold LIM; omega
      rw [e2]
      have e3 : (w.1 = x.2 ∧ lawCan s w = true) ↔ (w.1 = x.2 ∧ (w.2.2 = true ∨ w.2.1 ∈ s.1 ∨ ¬ w.2.1 ∈ s.2)) := by
        unfold lawCan
        simp
      by_cases q : w.1 = x.2 ∧ (w.2.2 = true ∨ w.2.1 ∈ s.1 ∨ ¬ w.2.1 ∈ s.2)
      · rw [if_pos (e3.mpr q)]
        refine nx_intro (by
          simp [-List.map_append, eq_d (e := eR), inT (e := eR), tyB_l0, tup2 eN eR, app0 l3]
          rw [if_pos q]) ⟨_, _, _, rfl, by simp⟩
      · rw [if_neg fun z => q (e3.mp z)]
        refine nx_intro (by
          simp [-List.map_append, eq_d (e := eR), inT (e := eR), tyB_l0, tup2 eN eR, app0 l3]
          rw [if_neg q]) ⟨_, _, _, rfl, by simp⟩
    · rintro ρ M ⟨c, d, e, rfl, rfl⟩
      exact ⟨_, _, _, _, _, rfl, by simp⟩
  · rintro ρ M ⟨a, b, c, d, e, rfl, rfl⟩
    have : (s.1.zipIdx.map fun p => (p.2, p.1)).flatMap (lawPart h s) = stepsBy lawCan h s := steps_fl lawCan
    rw [this]
    simp [sort_0 (e := eSp)]
    exact .of
theorem f_law_gone {p : T.Step} (hs : s.1.length ≤ 100) (hs2 : s.2.length ≤ 100) (hp : p.1 < s.1.length) : F__law_gone [.dat (eSt s), .dat (eSp p)] M = .ok (.dat (eSt (lawGone s p))) M := by
  refine pure_fn rfl rfl rfl ?_
  have c1 : vAdd (.dat (.list (s.2.map eR))) (.dat (.list [eR (nth s.1 p.1)])) [.lst ((s.1.set p.1 p.2).map eR)] = some (.dat (.list ((s.2 ++ [nth s.1 p.1]).map eR)), [.lst ((s.1.set p.1 p.2).map eR)]) := catL (e := eR) (l := s.2) (r := [nth s.1 p.1]) (by simp; unfold LIM; omega)
  simp [-List.map_set, m__law_gone, ixL0 (e := eR) hp, putL0 (e := eR) _ hp]
  rw [lc_dat (e := eR) (s.2 ++ [nth s.1 p.1]) (fun r => !decide (r ∈ s.1.set p.1 p.2)) eR (by simp [-List.map_append, -List.map_set, c1, lst1 eR]) (by simp; unfold LIM; omega) (fun w _ => ⟨_, rfl, by simp [-List.map_set, inO0 (e := eR)], fun _ => by simp⟩)]
  simp [-List.map_append, -List.filter_append, -List.map_set, sort_L (e := eR), tup2 (eT eR) (eT eR), toT_O0 (e := eR)]
  exact .of
end
end W

set_option Elab.async false
set_option linter.all false
set_option maxRecDepth 100000
set_option maxHeartbeats 4000000
namespace W
open PySem PySem.Spec PyProof.Rows L2 QL T EV G
section
variable {M : Mem} {h : House} {s : Stand} {R : List T.Room} {k : Nat}
abbrev eVC : Option (Stand × T.Step) → PyData := eO (eP eSt eSp)
theorem f_come_to (w : World R k h) (o : Ok R k s) : F_come_to [.dat (eH h), .dat (eSt s)] M = .ok (.fdc (eDc eSt eVC (comeTo h s))) M := by
  refine pure_fn rfl rfl rfl ?_
  obtain ⟨N, hN, hend, hr⟩ := f_bfs (e := eSt) (eb := eSp) (eV := eVC) (hd := .dat (eH h)) (Fs := F_steps) (Fg := F_gone) (val := eBi vTup (aCons (eVar 5) (aCons (eVar 6) (aNil)))) (v0 := none) (nb := nb h) (mk := mkC) (P := Ok R k) (s := s) (u := univ R k) o
    (fun x ox q hq => nb_ok w ox q hq) (fun x ox M => by
      rw [f_steps w.hl (ox.len1 w)]
      unfold nb
      rw [List.map_map]; rfl)
    (fun x ox q hq M => by
      obtain ⟨p, hp, rfl⟩ := List.mem_map.mp hq
      exact f_gone (ox.len1 w) (ox.len2 w) (step_ok w.ends ox hp).1)
    (fun x ox q hq D a3 a4 a7 M hx => by simp [tup2 eSt eSp]; rfl)
    (fun x => (mem_univ w.nd).symm) w.ul (by decide)
  have := w.ul
  have := FUEL_eq
  have e : comeTo h s = (bst mkC (nb h) s none N).1 := bst_at mkC (nb h) s none hend (by omega)
  rw [e]
  exact hr
def mkN : List (Stand × Nat) → Stand → T.Step → Nat := fun D here _ => (tGet D here).getD 0 + 1
noncomputable def reachedN (h : House) (s : Stand) : List (Stand × Nat) := (bst mkN (nb h) s 0 FUEL).1
theorem keys_reachedN : keys (reachedN h s) = reach h s := by
  unfold reachedN reach
  rw [bst_k1, nbx_fun]
theorem tGet_mem {α β : Type} [DecidableEq α] {d : List (α × β)} {a : α} (h : a ∈ keys d) : ∃ b, tGet d a = some b ∧ (a, b) ∈ d := by
  unfold tGet
  obtain ⟨p, hp, rfl⟩ := List.mem_map.mp h
  cases e : d.find? fun q => decide (q.1 = p.1) with
  | none =>
    have := List.find?_eq_none.mp e p hp
    simp at this
  | some q =>
    have h1 := List.find?_some e
    have h2 := List.mem_of_find?_eq_some e
    exact ⟨q.2, rfl, by rw [← of_decide_eq_true h1]; exact h2⟩
theorem f_law_reached (w : World R k h) (o : Ok R k s) : F__law_reached [.dat (eH h), .dat (eSt s)] M = .ok (.fdc (eDc eSt eN (reachedN h s))) M := by
  refine pure_fn rfl rfl rfl ?_
  obtain ⟨N, hN, hend, hr⟩ := f_bfs (e := eSt) (eb := eSp) (eV := eN) (hd := .dat (eH h)) (Fs := F__law_steps) (Fg := F__law_gone) (val := e2 vAdd (e2 vIxA (eVar 2) (eVar 5)) (eD (.int 1))) (v0 := 0) (nb := nb h) (mk := mkN) (P := Ok R k) (s := s) (u := univ R k) o
    (fun x ox q hq => nb_ok w ox q hq) (fun x ox M => by
      rw [f_law_steps w.hl (ox.len1 w), steps_eq ox]
      unfold nb
      rw [List.map_map]; rfl)
    (fun x ox q hq M => by
      obtain ⟨p, hp, rfl⟩ := List.mem_map.mp hq
      have h1 := (step_ok w.ends ox hp).1
      rw [f_law_gone (ox.len1 w) (ox.len2 w) h1, gone_eq ox h1])
    (fun x ox q hq D a3 a4 a7 M hx => by
      obtain ⟨b, hb, _⟩ := tGet_mem hx
      have := ix_dct (e := eSt) (f := eN) (M := .dct (eDc eSt eN D) :: M) (i := 0) rfl hb
      simp [this, mkN, hb])
    (fun x => (mem_univ w.nd).symm) w.ul (by decide)
  have := w.ul
  have := FUEL_eq
  have e : reachedN h s = (bst mkN (nb h) s 0 N).1 := bst_at mkN (nb h) s 0 hend (by omega)
  rw [e]
  exact hr
theorem none_all {α β : Type} [DecidableEq β] (p : α → Bool) (f : α → β) (l : List α) : decide ((l.filter fun x => !p x).map f = []) = l.all p := by
  rw [Bool.eq_iff_iff, decide_eq_true_iff, List.map_eq_nil_iff, List.filter_eq_nil_iff, List.all_eq_true]
  refine forall_congr' fun x => forall_congr' fun _ => ?_
  cases p x <;> simp
theorem some_any {α β : Type} [DecidableEq β] (p : α → Bool) (f : α → β) (l : List α) : (!decide ((l.filter p).map f = [])) = l.any p := by
  rw [Bool.eq_iff_iff, Bool.not_eq_true', decide_eq_false_iff_not, List.map_eq_nil_iff, List.filter_eq_nil_iff, List.any_eq_true]
  simp
theorem f_meets (wish : Wish) (h1 : s.1.length ≤ 100) : F_meets [.dat (eSt s), .dat (eW wish)] M = .ok (.dat (.bool (meets s wish))) M := by
  refine pure_fn rfl rfl rfl ?_
  simp [m_meets]
  rw [lc_dat (e := eP eR (eO eR)) (s.1.zip wish) (fun _ => true) (fun p => .bool (decide (p.2 = none) || decide (p.2 = some p.1))) (by simp [zip_map]) (by rw [List.length_zip]; unfold LIM; omega) (fun x _ => ⟨_, rfl, by simp, fun _ => by by_cases q : x.2 = none <;> simp [EV.is_none, eq_oR, setMany, q]⟩)]
  simp [all_map]
  exact .of
theorem f_law_met (wish : Wish) (h1 : s.1.length ≤ 100) : F__law_met [.dat (eSt s), .dat (eW wish)] M = .ok (.dat (.bool (meets s wish))) M := by
  refine pure_fn rfl rfl rfl ?_
  simp [m__law_met]
  rw [lc_dat (e := eP eR (eO eR)) (s.1.zip wish) (fun p => !(decide (p.2 = none) || decide (p.2 = some p.1))) (fun p => eN 1) (by simp [zip_map]) (by rw [List.length_zip]; unfold LIM; omega) (fun x _ => ⟨_, rfl, by by_cases q : x.2 = none <;> simp [EV.isNot_none, ne_oR, setMany, q], fun _ => by simp; rfl⟩)]
  have e : ∀ l : List (T.Room × Option T.Room), l.map (fun _ => eN 1) = (l.map fun _ => 1).map eN := fun l => by rw [List.map_map]; rfl
  rw [e]
  simp only [bind_ok, eq_nil (e := eN) (by decide), of_some, toS_ok]
  rw [none_all (fun p : T.Room × Option T.Room => decide (p.2 = none) || decide (p.2 = some p.1))]
  exact .of
noncomputable def canMeet (h : House) (s : Stand) (wish : Wish) : Bool := (reach h s).any fun t => meets t wish
theorem f_can (w : World R k h) (o : Ok R k s) (wish : Wish) : F_can_be_met [.dat (eH h), .dat (eSt s), .dat (eW wish)] M = .ok (.dat (.bool (canMeet h s wish))) M := by
  refine pure_fn rfl rfl rfl ?_
  simp [m_can_be_met]
  have hl := reach_len w o
  rw [lc_dat (e := eSt) (reach h s) (fun _ => true) (fun t => .bool (meets t wish)) (by simp [f_come_to w o, dc_keys, keys_comeTo]) (by unfold LIM; omega) (fun x hx => ⟨_, rfl, by simp, fun _ => by simp [f_meets wish ((reach_ok w o hx).len1 w)]⟩)]
  simp [any_map]
  exact .of
end
end W

set_option Elab.async false
set_option linter.all false
set_option maxRecDepth 100000
set_option maxHeartbeats 4000000
namespace T
open PySem G
/-- what a walker's own steps lead to -/
def ownNext (h : House) (w : Nat) (s : Stand) : List Stand := ((steps h s).filter fun p => decide (p.1 = w)).map (gone s)
noncomputable def ownAll (h : House) (w : Nat) (f : List Stand) : List Stand := (dst (ownNext h w) f FUEL).1
noncomputable def aloneS (h : House) (w : Nat) (r : Option Room) (f : List Stand) : List Stand := (ownAll h w f).filter fun s => decide (some (nth s.1 w) = r)
section
variable {R : List Room} {k : Nat} {h : House} {s : Stand}
theorem own_ok (w : World R k h) (o : Ok R k s) {i : Nat} : ∀ y ∈ ownNext h i s, Ok R k y := fun y hy => by
  obtain ⟨p, hp, rfl⟩ := List.mem_map.mp hy
  exact (step_ok w.ends o (List.mem_filter.mp hp).1).2.2
theorem dst_stop {α : Type} [DecidableEq α] (nx : α → List α) {f : List α} {n : Nat} (h : (dst nx f n).2 = []) : ∀ k, dst nx f (n + k) = dst nx f n
  | 0 => rfl
  | k + 1 => by
    rw [← Nat.add_assoc, dst, dst_stop nx h k, h]
    rfl
theorem own_end (w : World R k h) {i : Nat} {f : List Stand} (hf : f.Nodup) (ho : ∀ x ∈ f, Ok R k x) : ∃ n, n < 19999 ∧ (dst (ownNext h i) f n).2 = [] ∧ (∀ m, m < n → (dst (ownNext h i) f m).2 ≠ []) ∧ ownAll h i f = (dst (ownNext h i) f n).1 := by
  obtain ⟨n, hn, e, b⟩ := dst_end (ownNext h i) (u := univ R k) hf (fun x hx => (mem_univ w.nd).mpr (ho x hx)) (fun x hx y hy => (mem_univ w.nd).mpr (own_ok w ((mem_univ w.nd).mp hx) y hy))
  have h2 := w.ul
  have h1 := dst_stop (ownNext h i) e (FUEL - n)
  have h3 := FUEL_eq
  rw [show n + (FUEL - n) = FUEL by omega] at h1
  exact ⟨n, by omega, e, b, by unfold ownAll; rw [h1]⟩
theorem mem_own (w : World R k h) {i : Nat} {f : List Stand} (hf : f.Nodup) (ho : ∀ x ∈ f, Ok R k x) {x : Stand} : x ∈ ownAll h i f ↔ ∃ y ∈ f, Reach (ownNext h i) y x := by
  obtain ⟨n, _, e, _, h1⟩ := own_end w (i := i) hf ho
  rw [h1]
  exact dst_all (ownNext h i) hf e
theorem own_all_ok (w : World R k h) {i : Nat} {f : List Stand} (hf : f.Nodup) (ho : ∀ x ∈ f, Ok R k x) {x : Stand} (hx : x ∈ ownAll h i f) : Ok R k x := by
  obtain ⟨y, hy, r⟩ := (mem_own w hf ho).mp hx
  exact Reach.inv (ownNext h i) y (ho y hy) (fun x ox y hy => own_ok w ox y hy) r
theorem own_nodup (w : World R k h) {i : Nat} {f : List Stand} (hf : f.Nodup) : (ownAll h i f).Nodup := (dst_inv (ownNext h i) hf FUEL).nd
theorem dst_ok (w : World R k h) {i : Nat} {f : List Stand} (hf : f.Nodup) (ho : ∀ x ∈ f, Ok R k x) (n : Nat) {x : Stand} (hx : x ∈ (dst (ownNext h i) f n).1) : Ok R k x := by
  obtain ⟨y, hy, r⟩ := (dst_inv (ownNext h i) hf n).from_ x hx
  exact Reach.inv (ownNext h i) y (ho y hy) (fun x ox y hy => own_ok w ox y hy) r
end
end T
namespace W
open PySem PySem.Spec PyProof.Rows L2 QL T EV G
section
variable {M : Mem} {h : House} {s : Stand} {R : List T.Room} {k : Nat}
/-- a row of finds gone through: what the step's stand adds -/
def addOne (i : Nat) (here : Stand) (st : List Stand × List Stand) (p : T.Step) : List Stand × List Stand := if p.1 = i ∧ gone here p ∉ st.1 then (st.1 ++ [gone here p], st.2 ++ [gone here p]) else st
theorem addOne_fold (i : Nat) (here : Stand) : ∀ (ps : List T.Step) (st : List Stand × List Stand), ps.foldl (addOne i here) st = (st.1 ++ news st.1 ((ps.filter fun p => decide (p.1 = i)).map (gone here)), st.2 ++ news st.1 ((ps.filter fun p => decide (p.1 = i)).map (gone here)))
  | [], st => by simp [news]
  | p :: ps, st => by
    rw [List.foldl_cons, addOne_fold i here ps]
    unfold addOne
    by_cases q : p.1 = i
    · rw [List.filter_cons_of_pos (by simpa using q), List.map_cons, news]
      by_cases q2 : gone here p ∈ st.1
      · rw [if_neg (fun z => z.2 q2), if_pos q2]
      · rw [if_pos ⟨q, q2⟩, if_neg q2]
        simp
    · rw [if_neg (fun z => q z.1), List.filter_cons_of_neg (by simpa using q)]
structure DOk (R : List T.Room) (k : Nat) (st : List Stand × List Stand) : Prop where
  nd : st.1.Nodup
  all : ∀ x ∈ st.1, Ok R k x
  len : st.2.length ≤ st.1.length
theorem DOk.add {st : List Stand × List Stand} (d : DOk R k st) {i : Nat} {here : Stand} {p : T.Step} (hp : Ok R k (gone here p)) : DOk R k (addOne i here st p) := by
  unfold addOne
  split
  · rename_i q
    refine ⟨List.nodup_append.mpr ⟨d.nd, by simp, fun a ha b hb z => q.2 (by
      have hb := List.mem_singleton.mp hb
      rw [← hb, ← z]; exact ha)⟩, fun x hx => ?_, ?_⟩
    · rcases List.mem_append.mp hx with hx | hx
      · exact d.all x hx
      · exact List.mem_singleton.mp hx ▸ hp
    · have := d.len
      simp only [List.length_append, List.length_singleton]
      omega
  · exact d
theorem DOk.small (w : World R k h) {st : List Stand × List Stand} (d : DOk R k st) : st.1.length < 19999 ∧ st.2.length < 19999 := by
  have h1 := nodup_le d.nd fun x hx => (mem_univ w.nd).mpr (d.all x hx)
  have h2 := w.ul
  have h3 := d.len
  omega
end
end W

set_option Elab.async false
set_option linter.all false
set_option maxRecDepth 100000
set_option maxHeartbeats 4000000
namespace EV
open PySem QL T G
section
variable {α β γ : Type} {e : α → PyData} {f : β → PyData} {M : Mem} [DecidableEq α] [PKey e]
theorem dcL_dat {n : Nat} [PEq e n] {eg : γ → PyData} {src : Src} {t : Tgt} {fk fv : EvF} {ρ : Env'} (kf : γ → α) (vf : γ → β) (hl : ∀ M, src.holds M = true) :
    ∀ (xs : List γ) (d : List (α × β)), d.length + xs.length < LIM → (∀ x ∈ xs, ∃ ρ2, t.bind (eg x) ρ = some ρ2 ∧ ∀ d : List (α × β), fk ρ2 (M ++ [.dct (EV.eDc e f d)]) = .ok (.dat (e (kf x))) (M ++ [.dct (EV.eDc e f d)]) ∧ fv ρ2 (M ++ [.dct (EV.eDc e f d)]) = .ok (.dat (f (vf x))) (M ++ [.dct (EV.eDc e f d)])) →
      dcL src t fk fv M.length ρ (xs.map eg) (M ++ [.dct (EV.eDc e f d)]) = .ok () (M ++ [.dct (EV.eDc e f (xs.foldl (fun d x => tPut d (kf x) (vf x)) d))])
  | [], d, _, _ => by rw [List.map_nil, dcL, if_pos (hl _)]; rfl
  | x :: xs, d, hn, h => by
    obtain ⟨ρ2, h1, h2⟩ := h x List.mem_cons_self
    have hd : (tPut d (kf x) (vf x)).length ≤ d.length + 1 := by
      unfold tPut
      split <;> simp
    simp only [List.length_cons] at hn
    have ih := dcL_dat kf vf hl xs (tPut d (kf x) (vf x)) (by omega) fun y hy => h y (List.mem_cons_of_mem _ hy)
    rw [List.map_cons, dcL, if_pos (hl _), h1]
    have hp : putD M.length (.dat (e (kf x))) (.dat (f (vf x))) (M ++ [.dct (EV.eDc e f d)]) = some (M ++ [.dct (EV.eDc e f (tPut d (kf x) (vf x)))]) := by
      unfold putD
      rw [List.getElem?_append_right (Nat.le_refl _), Nat.sub_self, List.getElem?_cons_zero]
      simp only [PKey.ok, dc_len, decide_eq_true (show d.length < LIM by omega), Bool.and_self, if_true, dc_put]
      rw [List.set_append_right _ _ (Nat.le_refl _), Nat.sub_self, List.set_cons_zero]
    simp only [(h2 d).1, (h2 d).2, bind_ok, hp]
    exact ih
theorem dc_dat {n : Nat} [PEq e n] {eg : γ → PyData} {it : EvI} {t : Tgt} {fk fv : EvF} {own : List Nat} {ρ : Env'} (xs : List γ) (kf : γ → α) (vf : γ → β) (hs : it ρ M = .ok ⟨xs.map eg, []⟩ M) (hn : xs.length < LIM)
    (h : ∀ x ∈ xs, ∃ ρ2, t.bind (eg x) (wipeE ρ own) = some ρ2 ∧ ∀ d : List (α × β), fk ρ2 (M ++ [.dct (EV.eDc e f d)]) = .ok (.dat (e (kf x))) (M ++ [.dct (EV.eDc e f d)]) ∧ fv ρ2 (M ++ [.dct (EV.eDc e f d)]) = .ok (.dat (f (vf x))) (M ++ [.dct (EV.eDc e f d)])) :
    QL.eDc it t fk fv own ρ M = .ok (.obj M.length) (M ++ [.dct (EV.eDc e f (xs.foldl (fun d x => tPut d (kf x) (vf x)) []))]) := by
  unfold QL.eDc
  have := dcL_dat (e := e) (f := f) (eg := eg) (src := ⟨xs.map eg, []⟩) (t := t) (fk := fk) (fv := fv) (M := M) (ρ := wipeE ρ own) kf vf (fun _ => rfl) xs [] (by simpa using hn) h
  simp only [hs, bind_ok, show (MO.dct [] : MO) = .dct (EV.eDc e f []) from rfl, this, noEx]
theorem foldl_tPut (vf : α → β) : ∀ (xs : List α) (d : List (α × β)), (keys d ++ xs).Nodup → xs.foldl (fun d x => tPut d x (vf x)) d = d ++ xs.map fun x => (x, vf x)
  | [], d, _ => by simp
  | x :: xs, d, h => by
    have hx : x ∉ keys d := fun z => by
      have := (List.nodup_append.mp h).2.2 x z x List.mem_cons_self
      exact this rfl
    rw [List.foldl_cons, tPut_new hx, foldl_tPut vf xs _ (by rw [keys_append]; simpa [keys] using h)]
    simp
end
section
variable {α : Type} {e : α → PyData} {M : Mem}
theorem pop1 {l : List α} {a : α} {m : MO} (h : l.getLast? = some a) : mPop (.obj 1) [] (m :: .lst (l.map e) :: M) = some (.dat (e a), m :: .lst (l.dropLast.map e) :: M) := by
  unfold mPop lstO
  simp only [List.getElem?_cons_succ, List.getElem?_cons_zero, List.length_map, List.getElem?_map]
  rw [List.getLast?_eq_getElem?] at h
  rw [h]
  simp only [Option.map_some, List.set_cons_succ, List.set_cons_zero, List.map_dropLast]
theorem ne_nil1 [DecidableEq α] {n : Nat} [PEq e n] (h : n + 1 ≤ 64 := by decide) (a : List α) (m : MO) : vNe (.obj 1) (.dat (.list [])) (m :: .lst (a.map e) :: M) = some (.dat (.bool (!decide (a = []))), m :: .lst (a.map e) :: M) := ne_nilO h a rfl
end
end EV
namespace W
open PySem PySem.Spec PyProof.Rows L2 QL T EV G
section
variable {M : Mem} {h : House} {s : Stand} {R : List T.Room} {k : Nat}
def tru (l : List Stand) : List (Stand × Bool) := l.map fun x => (x, true)
theorem keys_tru (l : List Stand) : keys (tru l) = l := by unfold keys tru; rw [List.map_map]; exact List.map_id _
theorem tru_put {l : List Stand} {x : Stand} (h : x ∉ l) : tPut (tru l) x true = tru (l ++ [x]) := by
  rw [tPut_new (by rw [keys_tru]; exact h)]
  unfold tru
  simp
theorem f_alone (w : World R k h) {f : List Stand} (hf : f.Nodup) (ho : ∀ x ∈ f, Ok R k x) {i : Nat} (hi : i < k) (r : Option T.Room) : F_alone [.dat (eH h), .dat (.list (f.map eSt)), .dat (eN i), .dat (eO eR r)] M = .ok (.dat (.list ((aloneS h i r f).map eSt))) M := by
  refine pure_fn rfl rfl rfl ?_
  have hfl : f.length < 19999 := Nat.lt_of_le_of_lt (nodup_le hf fun x hx => (mem_univ w.nd).mpr (ho x hx)) w.ul
  obtain ⟨N, hN, hend, hbefore, hall⟩ := own_end w (i := i) hf ho
  have hdc := fun (ρ : Env') (hρ : iAny (eVar 1) ρ [] = .ok ⟨f.map eSt, []⟩ []) (h8 : ρ.length = 9) => dc_dat (e := eSt) (f := T.eB) (eg := eSt) (M := []) (it := iAny (eVar 1)) (t := .one 8) (fk := eVar 8) (fv := eD (.bool true)) (own := [8]) (ρ := ρ) f id (fun _ => true) hρ (by unfold LIM; omega)
    (fun x hx => ⟨_, rfl, fun d => ⟨by
      match ρ, h8 with
      | [a0, a1, a2, a3, a4, a5, a6, a7, a8], _ => simp, rfl⟩⟩)
  have htr : f.foldl (fun d x => tPut d (id x) true) [] = tru f := by
    have := foldl_tPut (fun _ : Stand => true) f [] (by simpa [keys] using hf)
    simpa [tru] using this
  rw [htr] at hdc
  refine Rt.ev (by simp [m_alone, hdc]; rfl) ?_
  refine bind_rt (while_nx (fun n ρ M => ∃ a6 a7, ρ = [some (.dat (eH h)), some (.dat (.list (f.map eSt))), some (.dat (eN i)), some (.dat (eO eR r)), some (.obj 0), some (.obj 1), a6, a7, none] ∧ M = [.dct (EV.eDc eSt T.eB (tru (dst (ownNext h i) f n).1)), .lst ((dst (ownNext h i) f n).2.map eSt)]) N ?_ ?_ 20000 0 _ _ (Nat.zero_le _) (by omega) ⟨_, _, rfl, rfl⟩) ?_
  · rintro n ρ M hn ⟨a6, a7, rfl, rfl⟩
    have : decide (n < N) = !decide ((dst (ownNext h i) f n).2 = []) := by
      by_cases q : n < N
      · simp [q, hbefore n q]
      · obtain rfl : n = N := by omega
        simp [hend]
    rw [this]
    simp [ne_nil1 (e := eSt)]
  · rintro n ρ M hn ⟨a6, a7, rfl, rfl⟩
    obtain ⟨z, e1, e2⟩ := last_some (hbefore n hn)
    have I := dst_inv (ownNext h i) hf n
    have hz : z ∈ (dst (ownNext h i) f n).1 := I.line z (by rw [e2]; simp)
    have oz := dst_ok w hf ho n hz
    have hlen := dst_len (ownNext h i) (f := f) n fun m hm => hbefore m (by omega)
    have ez : dst (ownNext h i) f (n + 1) = (steps h z).foldl (addOne i z) ((dst (ownNext h i) f n).1, (dst (ownNext h i) f n).2.dropLast) := by
      rw [dst_some _ e1, addOne_fold]
      rfl
    have d0 : DOk R k ((dst (ownNext h i) f n).1, (dst (ownNext h i) f n).2.dropLast) := ⟨I.nd, fun x hx => dst_ok w hf ho n hx, by
      simp only [List.length_dropLast]; omega⟩
    rw [ez]
    refine Nx.ev (by simp [-List.map_dropLast, tyB_l1, pop1 e1]; rfl) ?_
    refine Nx.mono (for_dat (e := eSp) (steps h z) (fun pre ρ M => ∃ a7, ρ = [some (.dat (eH h)), some (.dat (.list (f.map eSt))), some (.dat (eN i)), some (.dat (eO eR r)), some (.obj 0), some (.obj 1), some (.dat (eSt z)), a7, none] ∧ M = [.dct (EV.eDc eSt T.eB (tru (pre.foldl (addOne i z) ((dst (ownNext h i) f n).1, (dst (ownNext h i) f n).2.dropLast)).1)), .lst ((pre.foldl (addOne i z) ((dst (ownNext h i) f n).1, (dst (ownNext h i) f n).2.dropLast)).2.map eSt)] ∧ DOk R k (pre.foldl (addOne i z) ((dst (ownNext h i) f n).1, (dst (ownNext h i) f n).2.dropLast))) (by simp [f_steps w.hl (oz.len1 w)]) ⟨_, rfl, rfl, d0⟩ ?_) ?_
    · rintro pre p post hq ρ M ⟨a7, rfl, rfl, d⟩
      have hp : p ∈ steps h z := by rw [hq]; simp
      obtain ⟨hp1, hp2, hp3⟩ := step_ok w.ends oz hp
      have hg : ∀ M, F_gone [.dat (eSt z), .dat (eSp p)] M = .ok (.dat (eSt (gone z p))) M := fun M => f_gone (oz.len1 w) (oz.len2 w) hp1
      rw [List.foldl_append, List.foldl_cons, List.foldl_nil]
      generalize pre.foldl (addOne i z) _ = st at d ⊢
      have d' := d.add (i := i) hp3
      have sm := d.small w
      have hin := in_dct (e := eSt) (f := T.eB) (neg := true) (M := [.dct (EV.eDc eSt T.eB (tru st.1)), .lst (st.2.map eSt)]) (tru st.1) (gone z p) (i := 0) rfl
      rw [keys_tru] at hin
      by_cases q : p.1 = i ∧ gone z p ∉ st.1
      · have hput : vPutA (.obj 0) (.dat (eSt (gone z p))) (.dat (.bool true)) [.dct (EV.eDc eSt T.eB (tru st.1)), .lst (st.2.map eSt)] = _ := put_dct (e := eSt) (f := T.eB) (M := [.dct (EV.eDc eSt T.eB (tru st.1)), .lst (st.2.map eSt)]) (i := 0) (d := tru st.1) (a := gone z p) (b := true) rfl (by unfold tru; rw [List.length_map]; unfold LIM; omega)
        rw [tru_put q.2] at hput
        refine nx_intro (by
          simp [eq_d (e := eN), hg, hin, q.1, q.2, hput, tyB_l1, app1 (l := st.2.map eSt) (show (st.2.map eSt).length < LIM by rw [List.length_map]; unfold LIM; omega)]
          and_intros <;> rfl) ⟨_, rfl, ?_, d'⟩
        unfold addOne
        rw [if_pos q]
        simp
      · refine nx_intro (by
          simp [eq_d (e := eN), hg, hin]
          rw [if_neg q]) ⟨_, rfl, ?_, d'⟩
        unfold addOne
        rw [if_neg q]
    · rintro ρ M ⟨a7, rfl, rfl, d⟩
      exact ⟨_, _, rfl, rfl⟩
  · rintro ρ M ⟨a6, a7, rfl, rfl⟩
    rw [← hall]
    have hnd := own_nodup w (i := i) hf
    have hle : (ownAll h i f).length < 19999 := Nat.lt_of_le_of_lt (nodup_le hnd fun x hx => (mem_univ w.nd).mpr (own_all_ok w hf ho hx)) w.ul
    have e1 : iAny (eFrz (eVar 4)) [some (.dat (eH h)), some (.dat (.list (f.map eSt))), some (.dat (eN i)), some (.dat (eO eR r)), some (.obj 0), some (.obj 1), a6, a7, none] [.dct (EV.eDc eSt T.eB (tru (ownAll h i f))), .lst ((dst (ownNext h i) f N).2.map eSt)] = .ok ⟨(ownAll h i f).map eSt, []⟩ [.dead, .lst ((dst (ownNext h i) f N).2.map eSt)] := by
      simp [frzC, dc_keys, keys_tru]
    simp
    rw [lc_pure (e := eSt) (ownAll h i f) (fun s => decide (some (nth s.1 i) = r)) eSt e1 rfl rfl (by unfold LIM; omega) (fun x hx => by
      have ox := own_all_ok w hf ho hx
      exact ⟨_, rfl, by simp [ixT (e := eR) (show i < x.1.length by rw [ox.len]; exact hi), eq_Ro], fun _ => by simp⟩)]
    exact .of
end
end W

set_option Elab.async false
set_option linter.all false
set_option maxRecDepth 100000
set_option maxHeartbeats 400000
namespace T
open PySem G
/-! ### who goes in which order -/
def perms : Nat → List Nat → List (List Nat)
  | 0, _ => []
  | n + 1, l => if l = [] then [[]] else l.flatMap fun w => (perms n (l.filter fun x => !decide (x = w))).map (w :: ·)
noncomputable def ordersOn (h : House) (wish : Wish) : Nat → List Stand → List Nat → List (List Nat)
  | 0, _, _ => []
  | n + 1, f, l => if f = [] then [] else if l = [] then [[]] else l.flatMap fun w => (ordersOn h wish n (aloneS h w (nth wish w) f) (l.filter fun x => !decide (x = w))).map (w :: ·)
noncomputable def goes (h : House) (wish : Wish) (f : List Stand) (row : List Nat) : List Stand := row.foldl (fun f w => aloneS h w (nth wish w) f) f
theorem dst_nil {α : Type} [DecidableEq α] (nx : α → List α) : ∀ n : Nat, dst nx [] n = ([], [])
  | 0 => rfl
  | n + 1 => by rw [dst, dst_nil nx n]; rfl
theorem ownAll_nil (h : House) (i : Nat) : ownAll h i [] = [] := by
  unfold ownAll
  rw [dst_nil]
theorem alone_nil (h : House) (i : Nat) (r : Option Room) : aloneS h i r [] = [] := by
  unfold aloneS
  rw [ownAll_nil]; rfl
theorem goes_cons (h : House) (wish : Wish) (f : List Stand) (i : Nat) (row : List Nat) : goes h wish f (i :: row) = goes h wish (aloneS h i (nth wish i) f) row := List.foldl_cons ..
theorem goes_nil (h : House) (wish : Wish) : ∀ row, goes h wish [] row = []
  | [] => rfl
  | w :: row => by
    rw [goes_cons, alone_nil, goes_nil h wish row]
theorem filter_flatMap' {α β : Type} (p : β → Bool) (g : α → List β) : ∀ l : List α, (l.flatMap g).filter p = l.flatMap fun x => (g x).filter p
  | [] => rfl
  | x :: xs => by rw [List.flatMap_cons, List.filter_append, filter_flatMap' p g xs, List.flatMap_cons]
theorem orders_eq (h : House) (wish : Wish) : ∀ (n : Nat) (f : List Stand) (l : List Nat), ordersOn h wish n f l = (perms n l).filter fun row => !decide (goes h wish f row = [])
  | 0, _, _ => rfl
  | n + 1, f, l => by
    unfold ordersOn perms
    by_cases hf : f = []
    · rw [if_pos hf]
      subst hf
      symm
      rw [List.filter_eq_nil_iff]
      intro row _
      rw [goes_nil]
      simp
    · rw [if_neg hf]
      by_cases hl : l = []
      · rw [if_pos hl, if_pos hl]
        show [[]] = List.filter _ [[]]
        rw [List.filter_cons_of_pos (by simp [goes, hf])]
        rfl
      · rw [if_neg hl, if_neg hl, filter_flatMap']
        refine congrArg (fun g => l.flatMap g) (funext fun w => ?_)
        rw [orders_eq h wish n, List.filter_map]
        refine congrArg _ (List.filter_congr fun row _ => ?_)
        simp only [Function.comp, goes_cons]
theorem flatMap_le {α β : Type} {g : α → List β} {n : Nat} : ∀ {l : List α}, (∀ x ∈ l, (g x).length ≤ n) → (l.flatMap g).length ≤ l.length * n
  | [], _ => by simp
  | x :: xs, h => by
    have h1 := h x List.mem_cons_self
    have h2 := flatMap_le (l := xs) fun y hy => h y (List.mem_cons_of_mem _ hy)
    rw [List.flatMap_cons, List.length_append, List.length_cons, Nat.succ_mul]
    omega
theorem perms_len : ∀ (n : Nat) (l : List Nat), l.length ≤ 3 → (perms n l).length ≤ 3 ^ n
  | 0, _, _ => by simp [perms]
  | n + 1, l, h => by
    unfold perms
    split
    · exact Nat.one_le_pow _ _ (by decide)
    · refine Nat.le_trans (flatMap_le (n := 3 ^ n) fun w _ => ?_) ?_
      · rw [List.length_map]
        exact perms_len n _ (Nat.le_trans (List.length_filter_le _ _) h)
      · rw [Nat.pow_succ, Nat.mul_comm]
        exact Nat.mul_le_mul_left _ h
theorem orders_len (h : House) (wish : Wish) (n : Nat) (f : List Stand) (l : List Nat) (hl : l.length ≤ 3) : (ordersOn h wish n f l).length ≤ 3 ^ n := by
  rw [orders_eq]
  exact Nat.le_trans (List.length_filter_le _ _) (perms_len n l hl)
theorem perms_mem : ∀ (n : Nat) (l : List Nat) (row : List Nat), row ∈ perms n l → ∀ x ∈ row, x ∈ l
  | 0, _, _, h => by simp [perms] at h
  | n + 1, l, row, h => by
    unfold perms at h
    split at h
    · have := List.mem_singleton.mp h
      subst this
      exact fun x hx => nomatch hx
    · obtain ⟨w, hw, h⟩ := List.mem_flatMap.mp h
      obtain ⟨r, hr, rfl⟩ := List.mem_map.mp h
      intro x hx
      rcases List.mem_cons.mp hx with rfl | hx
      · exact hw
      · exact (List.mem_filter.mp (perms_mem n _ r hr x hx)).1
theorem perms_rlen : ∀ (n : Nat) (l : List Nat) (row : List Nat), row ∈ perms n l → row.length ≤ n
  | 0, _, _, h => by simp [perms] at h
  | n + 1, l, row, h => by
    unfold perms at h
    split at h
    · have := List.mem_singleton.mp h
      subst this
      exact Nat.zero_le _
    · obtain ⟨w, hw, h⟩ := List.mem_flatMap.mp h
      obtain ⟨r, hr, rfl⟩ := List.mem_map.mp h
      have := perms_rlen n _ r hr
      simp only [List.length_cons]
      omega
/-- the walkers with a room wished -/
def wishers (wish : Wish) : List Nat := (List.range wish.length).filter fun i => !decide (nth wish i = none)
noncomputable def ordersOf (h : House) (s : Stand) (wish : Wish) : List (List Nat) := ordersOn h wish 6 [s] (wishers wish)
section
variable {R : List Room} {k : Nat} {h : House} {s : Stand}
theorem alone_ok (w : World R k h) {f : List Stand} (hf : f.Nodup) (ho : ∀ x ∈ f, Ok R k x) (i : Nat) (r : Option Room) : (aloneS h i r f).Nodup ∧ ∀ x ∈ aloneS h i r f, Ok R k x := ⟨(own_nodup w hf).sublist List.filter_sublist, fun x hx => own_all_ok w hf ho (List.mem_filter.mp hx).1⟩
theorem goes_ok (w : World R k h) (wish : Wish) : ∀ (row : List Nat) {f : List Stand}, f.Nodup → (∀ x ∈ f, Ok R k x) → (goes h wish f row).Nodup ∧ ∀ x ∈ goes h wish f row, Ok R k x
  | [], f, hf, ho => ⟨hf, ho⟩
  | i :: row, f, hf, ho => by
    have := alone_ok w hf ho i (nth wish i)
    rw [goes_cons]
    exact goes_ok w wish row this.1 this.2
end
end T

set_option Elab.async false
set_option linter.all false
set_option maxRecDepth 100000
set_option maxHeartbeats 4000000
namespace EV
open PySem QL T G
section
variable {α : Type} {e : α → PyData} {M : Mem}
@[simp] theorem frz_l (l : Nat) : frzC (.obj l) M = match M[l]? with
    | some (.lst ds) => some (.dat (.list ds), M.set l .dead)
    | some (.dct kvs) => some (.fdc kvs, M.set l .dead)
    | some (.tdc kvs) => some (.ftd kvs, M.set l .dead)
    | _ => none := rfl
@[simp] theorem frz_d (d : PyData) : frzC (.dat d) M = some (.dat d, M) := rfl
end
end EV
namespace W
open PySem PySem.Spec PyProof.Rows L2 QL T EV G
section
variable {M : Mem} {h : House} {s : Stand} {R : List T.Room} {k : Nat}
/-- walkers that wish a room, each once -/
structure Left (k : Nat) (wish : Wish) (l : List Nat) : Prop where
  len : l.length ≤ 3
  lt : ∀ i ∈ l, i < k
theorem Left.out {wish : Wish} {l : List Nat} (o : Left k wish l) (w : Nat) : Left k wish (l.filter fun x => !decide (x = w)) := ⟨Nat.le_trans (List.length_filter_le _ _) o.len, fun i hi => o.lt i (List.mem_filter.mp hi).1⟩
theorem f_orders_on (w : World R k h) {wish : Wish} (hw : wish.length = k) : ∀ (n : Nat) {M : Mem} {f : List Stand} {l : List Nat}, f.Nodup → (∀ x ∈ f, Ok R k x) → Left k wish l → l.length < n → n ≤ 6 →
    F_orders_on n [.dat (eH h), .dat (.list (f.map eSt)), .dat (eW wish), .dat (.list (l.map eN))] M = .ok (.dat (.list ((ordersOn h wish n f l).map eRow))) M
  | 0, _, _, _, _, _, _, h, _ => by omega
  | n + 1, M, f, l, hf, ho, hl, hn, h6 => by
    refine pure_fn rfl rfl rfl ?_
    unfold ordersOn m_orders_on
    by_cases q1 : f = []
    · subst q1
      rw [if_pos rfl]
      refine Rt.ev (by simp [eq_nil (e := eSt) (by decide) [] (M := [])]; rfl) .of
    · rw [if_neg q1]
      by_cases q2 : l = []
      · subst q2
        rw [if_pos rfl]
        refine Rt.ev (by simp [eq_nil (e := eSt), eq_nil (e := eN) (by decide) [] (M := []), q1, tup0 eN, lst1 eRow]; rfl) .of
      · rw [if_neg q2]
        have hstep : ∀ w0 ∈ l, (l.filter fun x => !decide (x = w0)).length < n := fun w0 hw0 => by
          have : (l.filter fun x => !decide (x = w0)).length < l.length := List.length_filter_lt_length_iff_exists.mpr ⟨w0, hw0, by simp⟩
          omega
        have b3 : 3 ^ n ≤ 3 ^ 5 := Nat.pow_le_pow_right (by decide) (by omega)
        refine Rt.ev (by simp [eq_nil (e := eSt), eq_nil (e := eN), q1, q2]; rfl) ?_
        refine bind_rt (for_dat (e := eN) l (fun pre ρ M => ∃ a5 a6 a7, ρ = [some (.dat (eH h)), some (.dat (.list (f.map eSt))), some (.dat (eW wish)), some (.dat (.list (l.map eN))), some (.obj 0), a5, a6, a7, none] ∧ M = [.lst ((pre.flatMap fun w => (ordersOn h wish n (aloneS h w (nth wish w) f) (l.filter fun x => !decide (x = w))).map (w :: ·)).map eRow)]) (by simp) ⟨_, _, _, rfl, rfl⟩ ?_) ?_
        · rintro pre w0 post hq ρ M ⟨a5, a6, a7, rfl, rfl⟩
          have hw0 : w0 ∈ l := by rw [hq]; simp
          have hk0 := hl.lt w0 hw0
          have al := alone_ok w hf ho w0 (nth wish w0)
          have hrec := fun M => f_orders_on w hw n (M := M) al.1 al.2 (hl.out w0) (hstep w0 hw0) (by omega)
          have len1 : (pre.flatMap fun w => (ordersOn h wish n (aloneS h w (nth wish w) f) (l.filter fun x => !decide (x = w))).map (w :: ·)).length ≤ 3 * 3 ^ n := by
            refine Nat.le_trans (flatMap_le (n := 3 ^ n) fun x _ => ?_) (Nat.mul_le_mul_right _ ?_)
            · rw [List.length_map]; exact orders_len _ _ _ _ _ (hl.out x).len
            · have := congrArg List.length hq
              have := hl.len
              simp only [List.length_append, List.length_cons] at *
              omega
          have len2 := orders_len h wish n (aloneS h w0 (nth wish w0) f) _ (hl.out w0).len
          rw [List.flatMap_append, List.flatMap_cons, List.flatMap_nil, List.append_nil]
          generalize (pre.flatMap fun w => (ordersOn h wish n (aloneS h w (nth wish w) f) (l.filter fun x => !decide (x = w))).map (w :: ·)) = acc at len1 ⊢
          refine Nx.ev (by
            simp
            rewrite [lc_dat (e := eN) l (fun x => !decide (x = w0)) eN (by simp) (by have := hl.len; unfold LIM; omega) (fun x _ => ⟨_, rfl, by simp [ne_d (e := eN)], fun _ => by simp⟩)]
            simp
            rfl) ?_
          have hix : vIxA (.dat (eW wish)) (.dat (eN w0)) [.lst (acc.map eRow)] = some (.dat (eO eR (nth wish w0)), [.lst (acc.map eRow)]) := ixT (e := eO eR) (by omega)
          refine Nx.mono (for_dat (e := eRow) (ordersOn h wish n (aloneS h w0 (nth wish w0) f) (l.filter fun x => !decide (x = w0))) (fun pre ρ M => ∃ a7, ρ = [some (.dat (eH h)), some (.dat (.list (f.map eSt))), some (.dat (eW wish)), some (.dat (.list (l.map eN))), some (.obj 0), some (.dat (eN w0)), some (.dat (.list ((l.filter fun x => !decide (x = w0)).map eN))), a7, none] ∧ M = [.lst ((acc ++ pre.map (w0 :: ·)).map eRow)]) (by
            simp [hix, f_alone w hf ho hk0, hrec]) ⟨_, rfl, by simp⟩ ?_) ?_
          · rintro p row q hq2 ρ M ⟨a7, rfl, rfl⟩
            have hrow : row ∈ ordersOn h wish n (aloneS h w0 (nth wish w0) f) (l.filter fun x => !decide (x = w0)) := by rw [hq2]; simp
            rw [orders_eq] at hrow
            have rl := perms_rlen _ _ _ (List.mem_filter.mp hrow).1
            have pl : p.length ≤ 3 ^ n := by
              have := congrArg List.length hq2
              simp only [List.length_append, List.length_cons] at this
              omega
            have c1 := fun M => catT (e := eN) (M := M) (l := [w0]) (r := row) (by simp only [List.length_singleton]; unfold LIM; omega)
            have la : ((acc ++ p.map (w0 :: ·)).map eRow).length < LIM := by
              simp only [List.length_map, List.length_append]
              unfold LIM; omega
            refine nx_intro (by
              simp [-List.map_append, -List.map_map, tyB_l0, tup1 eN, c1, app0 la]
              and_intros <;> rfl) ⟨_, rfl, by simp⟩
          · rintro ρ M ⟨a7, rfl, rfl⟩
            exact ⟨_, _, _, rfl, rfl⟩
        · rintro ρ M ⟨a5, a6, a7, rfl, rfl⟩
          simp [-List.map_append, -List.map_map]
          exact .of
end
end W

set_option Elab.async false
set_option linter.all false
set_option maxRecDepth 100000
set_option maxHeartbeats 4000000
namespace EV
open PySem QL T
theorem rCell_N (n : Nat) (h : n ≤ 1000000) (M : Mem) : rCell (.dat (eN n)) M = .ok ⟨(List.range n).map eN, []⟩ M := by
  rw [← rng_map, rCell_eq]
  unfold eN
  simp only
  rw [if_pos (by omega)]
  rfl
theorem lc_all {it : EvI} {t : Tgt} {elt : EvF} {own : List Nat} {ρ : Env'} {M : Mem} {γ : Type} {e : γ → PyData} (xs : List γ) (f : γ → PyData) (hs : it ρ M = .ok ⟨xs.map e, []⟩ M) (hn : xs.length ≤ LIM)
    (h : ∀ x ∈ xs, ∃ ρ2, t.bind (e x) (wipeE ρ own) = some ρ2 ∧ elt ρ2 M = .ok (.dat (f x)) M) : eLc it t bYes elt own ρ M = .ok (.dat (.list (xs.map f))) M := by
  rw [lc_dat xs (fun _ => true) f hs hn fun x hx => by
    obtain ⟨ρ2, h1, h2⟩ := h x hx
    exact ⟨ρ2, h1, rfl, fun _ => h2⟩]
  rw [List.filter_eq_self.mpr fun _ _ => rfl]
end EV
namespace W
open PySem PySem.Spec PyProof.Rows L2 QL T EV G
section
variable {M : Mem} {h : House} {s : Stand} {R : List T.Room} {k : Nat}
theorem swap_range {α : Type} [Inhabited α] (l : List α) : l.zipIdx.map (fun p => (p.2, p.1)) = (List.range l.length).map fun i => (i, nth l i) := by
  refine List.ext_getElem? fun i => ?_
  rw [List.getElem?_map, List.getElem?_map, List.getElem?_zipIdx]
  by_cases hi : i < l.length
  · rw [nth_get hi, List.getElem?_range hi]
    simp
  · rw [List.getElem?_eq_none (by omega), List.getElem?_eq_none (by simp; omega)]
    rfl
theorem wishers_enum (wish : Wish) : ((wish.zipIdx.map fun p => (p.2, p.1)).filter fun p => !decide (p.2 = none)).map (·.1) = wishers wish := by
  rw [swap_range, List.filter_map, List.map_map]
  unfold wishers
  exact List.map_id _
theorem left_wishers (wish : Wish) (hk : wish.length ≤ 3) : Left wish.length wish (wishers wish) := ⟨by
    unfold wishers
    refine Nat.le_trans (List.length_filter_le _ _) ?_
    rw [List.length_range]; exact hk, fun i hi => List.mem_range.mp (List.mem_filter.mp hi).1⟩
theorem f_orders (w : World R k h) (o : Ok R k s) {wish : Wish} (hw : wish.length = k) (hk : k ≤ 3) : F_orders [.dat (eH h), .dat (eSt s), .dat (eW wish)] M = .ok (.dat (.list ((ordersOf h s wish).map eRow))) M := by
  refine pure_fn rfl rfl rfl ?_
  unfold m_orders ordersOf
  have hl := left_wishers wish (by omega)
  rw [hw] at hl
  have e := fun M => f_orders_on w hw 6 (M := M) (f := [s]) (l := wishers wish) (by simp) (fun x hx => by
    rw [List.mem_singleton.mp hx]; exact o) hl (by have := hl.len; omega) (by omega)
  simp only [List.map_cons, List.map_nil] at e
  refine Rt.ev (by
    simp [lst1 eSt]
    rewrite [lc_dat (e := eP eN (eO eR)) (wish.zipIdx.map fun p => (p.2, p.1)) (fun p => !decide (p.2 = none)) (fun p => eN p.1) (by simp [enum_map]) (by simp; unfold LIM; omega) (fun x _ => ⟨_, rfl, by simp [setMany, EV.isNot_none], fun _ => by simp [setMany]⟩)]
    rewrite [show ∀ l : List (Nat × Option T.Room), l.map (fun p => eN p.1) = (l.map (·.1)).map eN from fun l => by rw [List.map_map]; rfl, wishers_enum]
    simp [e]
    rfl) .of
noncomputable def notFirst (h : House) (s : Stand) (wish : Wish) : List Nat :=
  if meets s wish = true ∨ canMeet h s wish = false then [] else (List.range s.1.length).filter fun i => !decide (i ∈ ((steps h s).filter fun p => canMeet h (gone s p) wish).map (·.1))
theorem steps_len (hE : Ends R h) (o : Ok R k s) : (steps h s).length ≤ k * h.length := by
  unfold steps
  rw [tsort_len]
  unfold stepsBy
  have : (s.1.zipIdx.flatMap fun p => (h.filter fun w => decide (w.1 = p.1) && canGo s w).map fun w => (p.2, w.2.1)).length ≤ s.1.zipIdx.length * h.length := flatMap_le fun p _ => by
    rw [List.length_map]; exact List.length_filter_le _ _
  rw [List.length_zipIdx, o.len] at this
  exact this
theorem steps_small (w : World R k h) (o : Ok R k s) : (steps h s).length ≤ 100000 := by
  have h1 := steps_len w.ends o
  have h2 := Nat.mul_le_mul w.kl w.hl
  omega
theorem map_fst_eN (l : List T.Step) : l.map (fun p => eN p.1) = (l.map (·.1)).map eN := by rw [List.map_map]; rfl
theorem f_not_first (w : World R k h) (o : Ok R k s) (wish : Wish) : F_not_first [.dat (eH h), .dat (eSt s), .dat (eW wish)] M = .ok (.dat (.list ((notFirst h s wish).map eN))) M := by
  refine pure_fn rfl rfl rfl ?_
  unfold m_not_first notFirst
  by_cases q : meets s wish = true ∨ canMeet h s wish = false
  · rw [if_pos q]
    refine Rt.ev (by
      simp [f_meets wish (o.len1 w), f_can w o, q]
      rfl) .of
  · rw [if_neg q]
    have hs := steps_small w o
    have q2 : ¬ meets s wish = true ∧ canMeet h s wish = true := by simpa using q
    refine Rt.ev (by
      simp [f_meets wish (o.len1 w), f_can w o, q2.1, q2.2]
      rewrite [lc_dat (e := eSp) (steps h s) (fun p => canMeet h (gone s p) wish) (fun p => eN p.1) (by simp [f_steps w.hl (o.len1 w)]) (by unfold LIM; omega) (fun p hp => by
        obtain ⟨h1, h2, h3⟩ := step_ok w.ends o hp
        exact ⟨_, rfl, by simp [f_gone (o.len1 w) (o.len2 w) h1, f_can w h3], fun _ => by simp⟩)]
      rewrite [map_fst_eN]
      simp [-List.map_map]
      rewrite [lc_dat (e := eN) (List.range s.1.length) (fun i => !decide (i ∈ ((steps h s).filter fun p => canMeet h (gone s p) wish).map (·.1))) eN (by
        have := o.len1 w
        simp [rCell_N s.1.length (by omega)]) (by have := o.len1 w; simp; unfold LIM; omega) (fun i _ => ⟨_, rfl, by simp [-List.map_map, inL (e := eN)], fun _ => by simp⟩)]
      simp
      rfl) .of
end
end W

set_option Elab.async false
set_option linter.all false
set_option maxRecDepth 100000
set_option maxHeartbeats 4000000
namespace EV
open PySem QL T G
def Ret (r : SRes) (Q : Cell → Mem → Prop) : Prop := ∃ c M, r = .rt c M ∧ Q c M
theorem Ret.of {c : Cell} {M : Mem} {Q : Cell → Mem → Prop} (h : Q c M) : Ret (.rt c M) Q := ⟨c, M, rfl, h⟩
theorem Ret.ev {r r' : SRes} {Q : Cell → Mem → Prop} (e : r = r') (h : Ret r' Q) : Ret r Q := e ▸ h
theorem bind_ret {r : SRes} {P : Env' → Mem → Prop} {K : Env' → Mem → SRes} {Q : Cell → Mem → Prop} (h : Nx r P) (k : ∀ ρ M, P ρ M → Ret (K ρ M) Q) : Ret (r.bind K) Q := by
  obtain ⟨ρ, M, rfl, p⟩ := h
  exact k ρ M p
theorem ret_seq {s t : EvS} {ρ ρ1 : Env'} {M M1 : Mem} {Q : Cell → Mem → Prop} (h : s ρ M = .nx ρ1 M1) (k : Ret (t ρ1 M1) Q) : Ret (sSeq s t ρ M) Q := by
  rw [x_seq, h]; exact k
theorem nx_seq {s t : EvS} {ρ ρ1 : Env'} {M M1 : Mem} {Q : Env' → Mem → Prop} (h : s ρ M = .nx ρ1 M1) (k : Nx (t ρ1 M1) Q) : Nx (sSeq s t ρ M) Q := by
  rw [x_seq, h]; exact k
theorem rt_seq {s t : EvS} {ρ ρ1 : Env'} {M M1 : Mem} {c : Cell} (h : s ρ M = .nx ρ1 M1) (k : Rt (t ρ1 M1) c) : Rt (sSeq s t ρ M) c := by
  rw [x_seq, h]; exact k
theorem Ret.rt {r : SRes} {c : Cell} (h : Ret r fun c' _ => c' = c) : Rt r c := by
  obtain ⟨c', M, rfl, rfl⟩ := h
  exact .of
/-- comprehensions that change the store while they go -/
theorem lcL_mem {src : Src} {t : Tgt} {test : EvB} {elt : EvF} {ρ : Env'} {γ δ : Type} {e : γ → PyData} {f : δ → PyData} (Inv : List γ → List δ → Mem → Prop) (hl : ∀ M, src.holds M = true) :
    ∀ (xs pre : List γ) (acc : List δ) (M : Mem), Inv pre acc M → (∀ p x q, pre ++ xs = p ++ x :: q → ∀ acc M, Inv p acc M → ∃ ρ2 b M1, t.bind (e x) ρ = some ρ2 ∧ test ρ2 M = .ok b M1 ∧ (b = true → ∃ y M2, elt ρ2 M1 = .ok (.dat (f y)) M2 ∧ Inv (p ++ [x]) (acc ++ [y]) M2) ∧ (b = false → Inv (p ++ [x]) acc M1)) →
      ∃ ys M', lcL src t test elt ρ (xs.map e) M = .ok (ys.map f) M' ∧ Inv (pre ++ xs) (acc ++ ys) M'
  | [], pre, acc, M, h, _ => ⟨[], M, by rw [List.map_nil, lcL, if_pos (hl _)]; rfl, by simpa using h⟩
  | x :: xs, pre, acc, M, h, k => by
    obtain ⟨ρ2, b, M1, h1, h2, h3, h4⟩ := k pre x xs rfl acc M h
    cases b with
    | true =>
      obtain ⟨y, M2, h5, h6⟩ := h3 rfl
      obtain ⟨ys, M', h7, h8⟩ := lcL_mem (src := src) (t := t) (test := test) (elt := elt) (ρ := ρ) (e := e) (f := f) Inv hl xs (pre ++ [x]) (acc ++ [y]) M2 h6 fun p z q hq => k p z q (by rw [← hq]; simp)
      refine ⟨y :: ys, M', ?_, by simpa using h8⟩
      rw [List.map_cons, lcL, if_pos (hl _), h1]
      simp only [h2, bind_ok, if_true, h5, h7, List.map_cons]
    | false =>
      obtain ⟨ys, M', h7, h8⟩ := lcL_mem (src := src) (t := t) (test := test) (elt := elt) (ρ := ρ) (e := e) (f := f) Inv hl xs (pre ++ [x]) acc M1 (h4 rfl) fun p z q hq => k p z q (by rw [← hq]; simp)
      refine ⟨ys, M', ?_, by simpa using h8⟩
      rw [List.map_cons, lcL, if_pos (hl _), h1]
      simp only [h2, bind_ok, Bool.false_eq_true, if_false, h7]
theorem lc_mem {it : EvI} {t : Tgt} {test : EvB} {elt : EvF} {own : List Nat} {ρ : Env'} {M M0 : Mem} {γ δ : Type} {e : γ → PyData} {f : δ → PyData} (xs : List γ) (Inv : List γ → List δ → Mem → Prop) (hs : it ρ M = .ok ⟨xs.map e, []⟩ M0) (hn : xs.length ≤ LIM) (h0 : Inv [] [] M0)
    (h : ∀ p x q, xs = p ++ x :: q → ∀ acc M, Inv p acc M → ∃ ρ2 b M1, t.bind (e x) (wipeE ρ own) = some ρ2 ∧ test ρ2 M = .ok b M1 ∧ (b = true → ∃ y M2, elt ρ2 M1 = .ok (.dat (f y)) M2 ∧ Inv (p ++ [x]) (acc ++ [y]) M2) ∧ (b = false → Inv (p ++ [x]) acc M1)) :
    ∃ ys M', eLc it t test elt own ρ M = .ok (.dat (.list (ys.map f))) M' ∧ Inv xs ys M' := by
  obtain ⟨ys, M', h1, h2⟩ := lcL_mem (src := ⟨xs.map e, []⟩) (t := t) (test := test) (elt := elt) (ρ := wipeE ρ own) (e := e) (f := f) Inv (fun _ => rfl) xs [] [] M0 h0 h
  refine ⟨ys, M', ?_, by simpa using h2⟩
  unfold eLc
  simp only [hs, bind_ok, List.length_map, if_pos hn, h1, noEx]
end EV
namespace W
open PySem PySem.Spec PyProof.Rows L2 QL T EV G
/-! ### the deck -/
/-- nothing in a store points behind it -/
def Clo (B : Mem) : Prop := ∀ m ∈ B, cloM B.length m = true
theorem cloM_mono {n k : Nat} (h : n ≤ k) {m : MO} (c : cloM n m = true) : cloM k m = true := by
  cases m with
  | ins x fs =>
    unfold cloM at c ⊢
    simp only [List.all_eq_true] at c ⊢
    intro p hp
    have := c p hp
    revert this
    cases p.2 with
    | obj l => intro h1; exact decide_eq_true (Nat.lt_of_lt_of_le (of_decide_eq_true h1) h)
    | dat _ => exact fun _ => rfl
    | fdc _ => exact fun _ => rfl
    | ftd _ => exact fun _ => rfl
  | _ => rfl
def plainM : MO → Bool
  | .ins _ _ => false
  | _ => true
theorem clo_plain {n : Nat} {m : MO} (h : plainM m = true) : cloM n m = true := by
  cases m <;> first | rfl | cases h
theorem Clo.app {B loc : Mem} (h : Clo B) (hp : loc.all plainM = true) : Clo (B ++ loc) := fun m hm => by
  rcases List.mem_append.mp hm with hm | hm
  · exact cloM_mono (by simp) (h m hm)
  · exact clo_plain (List.all_eq_true.mp hp m hm)
theorem Clo.set {B : Mem} (h : Clo B) {l : Nat} {m : MO} (hp : plainM m = true) : Clo (B.set l m) := fun x hx => by
  rw [List.length_set]
  rcases List.mem_or_eq_of_mem_set hx with hx | hx
  · exact h x hx
  · exact hx ▸ clo_plain hp
theorem Clo.cut {B loc : Mem} (h : Clo B) : cutM B.length (B ++ loc) = some B := by
  unfold cutM
  rw [List.take_left, if_pos (List.all_eq_true.mpr h)]
theorem Clo.nil : Clo [] := fun _ h => nomatch h
def dk (a b c : Int) : MO := .lst [.int a, .int b, .int c]
structure DeckAt (B : Mem) (l : Nat) (b : Int) : Prop where
  clo : Clo B
  lt : l < B.length
  b0 : 0 ≤ b
  b1 : b < 2147483579
theorem DeckAt.app {B : Mem} {l : Nat} {b : Int} (d : DeckAt B l b) {loc : Mem} (hp : loc.all plainM = true) : DeckAt (B ++ loc) l b := ⟨d.clo.app hp, by rw [List.length_append]; have := d.lt; omega, d.b0, d.b1⟩
/-- the store B with the deck in it as it is -/
def DK (B : Mem) (l : Nat) (b a c : Int) : Mem := B.set l (dk a b c)
section
variable {B : Mem} {l : Nat} {b a c n i j : Int}
theorem DK_app (d : DeckAt B l b) (loc : Mem) : DK B l b a c ++ loc = DK (B ++ loc) l b a c := by
  unfold DK
  rw [List.set_append_left _ _ d.lt]
theorem DK_len : (DK B l b a c).length = B.length := by unfold DK; rw [List.length_set]
theorem DK_get (d : DeckAt B l b) : (DK B l b a c)[l]? = some (.lst [.int a, .int b, .int c]) := by
  unfold DK
  rw [List.getElem?_set_self d.lt]
  rfl
theorem DK_set {a' c' : Int} : (DK B l b a c).set l (.lst [.int a', .int b, .int c']) = DK B l b a' c' := by
  unfold DK
  rw [List.set_set]
  rfl
theorem DK_clo (d : DeckAt B l b) : Clo (DK B l b a c) := d.clo.set rfl
theorem DK_cut (d : DeckAt B l b) (loc : Mem) : cutM (DK B l b a c).length (DK B l b a c ++ loc) = some (DK B l b a c) := (DK_clo d).cut
theorem DK_cut0 (d : DeckAt B l b) : cutM (DK B l b a c).length (DK B l b a c) = some (DK B l b a c) := by
  have := DK_cut (a := a) (c := c) d []
  rwa [List.append_nil] at this
section
variable {M : Mem}
theorem ix0 (h : M[l]? = some (.lst [.int a, .int b, .int c])) : vIxA (.obj l) (.dat (.int 0)) M = some (.dat (.int a), M) := by
  simp [vIxA, or2, vIx, vIxT, asT, vIxL, asL, h, L2.atI, L2.ixN]
theorem ix1 (h : M[l]? = some (.lst [.int a, .int b, .int c])) : vIxA (.obj l) (.dat (.int 1)) M = some (.dat (.int b), M) := by
  simp [vIxA, or2, vIx, vIxT, asT, vIxL, asL, h, L2.atI, L2.ixN]
theorem ix2 (h : M[l]? = some (.lst [.int a, .int b, .int c])) : vIxA (.obj l) (.dat (.int 2)) M = some (.dat (.int c), M) := by
  simp [vIxA, or2, vIx, vIxT, asT, vIxL, asL, h, L2.atI, L2.ixN]
theorem put0 (h : M[l]? = some (.lst [.int a, .int b, .int c])) : vPutA (.obj l) (.dat (.int 0)) (.dat (.int i)) M = some (M.set l (.lst [.int i, .int b, .int c])) := by
  simp [vPutA, or3, vPutL, asL, h, L2.ixN]
theorem put2 (h : M[l]? = some (.lst [.int a, .int b, .int c])) : vPutA (.obj l) (.dat (.int 2)) (.dat (.int i)) M = some (M.set l (.lst [.int a, .int b, .int i])) := by
  simp [vPutA, or3, vPutL, asL, h, L2.ixN]
theorem gt_i : vGt (.dat (.int i)) (.dat (.int j)) M = some (.dat (.bool (decide (j < i))), M) := by
  have e : (PySem.W.alike (.int i) (.int j) && decide (PyData.int i ≠ .none) && decide ((PyData.int i).depth ≤ 64)) = true := by simp [PySem.W.alike, PyData.depth]
  unfold vGt vOrd
  simp only [asD, e, if_true, PySem.W.dataLt_int]
theorem ge_i : vGe (.dat (.int i)) (.dat (.int j)) M = some (.dat (.bool (!decide (i < j))), M) := by
  have e : (PySem.W.alike (.int i) (.int j) && decide (PyData.int i ≠ .none) && decide ((PyData.int i).depth ≤ 64)) = true := by simp [PySem.W.alike, PyData.depth]
  unfold vGe vOrd
  simp only [asD, e, if_true, PySem.W.dataLt_int]
theorem add_i : vAdd (.dat (.int i)) (.dat (.int j)) M = some (.dat (.int (i + j)), M) := by
  simp [vAdd, or2, vInt2]
theorem sub_i : vSub (.dat (.int i)) (.dat (.int j)) M = some (.dat (.int (i - j)), M) := by
  simp [vSub, vInt2]
theorem mul_i (h : CMul i j) : vMul (.dat (.int i)) (.dat (.int j)) M = some (.dat (.int (i * j)), M) := by
  simp [vMul, or2, vInt2, h]
theorem mod_i (h : 0 < j) : vMod (.dat (.int i)) (.dat (.int j)) M = some (.dat (.int (i % j)), M) := by
  simp [vMod, vInt2, h]
theorem fdiv_i (h : 0 < j ∧ j < 1073741824) : vFdiv (.dat (.int i)) (.dat (.int j)) M = some (.dat (.int (i / j)), M) := by
  simp [vFdiv, vInt2, CDiv, h]
theorem pow_i (h : CPow i j) : vPow (.dat (.int i)) (.dat (.int j)) M = some (.dat (.int (i ^ j.toNat)), M) := by
  simp [vPow, vInt2, h]
end
theorem not_pure {F : FnF} {cs : List Cell} {M : Mem} (h : cs.all noObj = false) : pureF F cs M = F cs M := by
  unfold pureF
  rw [if_neg (by rw [h]; exact Bool.false_ne_true)]
theorem deck_ok {M : Mem} (hM : Clo M) (x t : Int) : ∃ a, F__law_deck [.dat (.int x), .dat (.int t)] M = .ok (.obj M.length) (M ++ [dk a (x % 2147483579) t]) := by
  have hc : ∀ a, cutM (topC M.length (.obj M.length)) (M ++ [.lst [.int a, .int (x % 2147483579), .int t]]) = some (M ++ [.lst [.int a, .int (x % 2147483579), .int t]]) := fun a => by
    have h1 : Clo (M ++ [.lst [.int a, .int (x % 2147483579), .int t]]) := hM.app rfl
    have h2 := h1.cut (loc := [])
    rw [List.append_nil] at h2
    have e : topC M.length (.obj M.length) = (M ++ [MO.lst [.int a, .int (x % 2147483579), .int t]]).length := by simp [topC]
    rw [e]
    exact h2
  unfold dk
  by_cases h : x < 10 ^ 18
  · refine ⟨0, ?_⟩
    have h' : x < 1000000000000000000 := h
    simp [F__law_deck, fnRes, m__law_deck, pow_i (M := M) (i := 10) (j := 18) (by unfold CPow; decide), ge_i, h, h', mod_i, vNewL, dats, LIM, hc]
  · refine ⟨x - 10 ^ 18, ?_⟩
    have h' : ¬ x < 1000000000000000000 := h
    simp [F__law_deck, fnRes, m__law_deck, pow_i (M := M) (i := 10) (j := 18) (by unfold CPow; decide), ge_i, h, h', mod_i, sub_i, vNewL, dats, LIM, hc]
theorem pick_ok (d : DeckAt B l b) (hc : 0 ≤ c ∧ c ≤ 1000) (hn : 1 ≤ n ∧ n ≤ 1000) :
    ∃ (r : Nat) (a' c' : Int), F__law_pick [.obj l, .dat (.int n)] (DK B l b a c) = .ok (.dat (eN r)) (DK B l b a' c') ∧ (r : Int) < n ∧ c ≤ c' ∧ c' ≤ c + 1 := by
  have h := DK_get (a := a) (c := c) d
  have hb : 0 ≤ b ∧ b < 2147483579 := ⟨d.b0, d.b1⟩
  have hcut : ∀ (r a' c' : Int), cutM (topC (DK B l b a c).length (.dat (.int r))) (DK B l b a' c') = some (DK B l b a' c') := fun r a' c' => by
    have := DK_cut0 (a := a') (c := c') d
    rw [DK_len] at this ⊢
    exact this
  by_cases ha : 1 < a
  · refine ⟨(a % n).toNat, a / n, c, ?_, ?_, Int.le_refl _, by omega⟩
    · have e : ((a % n).toNat : Int) = a % n := Int.toNat_of_nonneg (Int.emod_nonneg _ (by omega))
      unfold eN
      rw [e]
      simp [F__law_pick, pureF, noObj, fnRes, m__law_pick, ix0 h, gt_i, ha, mod_i (show 0 < n by omega), fdiv_i (show 0 < n ∧ n < 1073741824 by omega), put0 h, DK_set, hcut]
    · rw [Int.toNat_of_nonneg (Int.emod_nonneg _ (by omega))]
      exact Int.emod_lt_of_pos _ (by omega)
  · have h2 := DK_get (a := a) (c := c + 1) d
    have p1 : CPow (b + 15485867 * (c + 1)) 5 := by
      unfold CPow
      omega
    have m1 : CMul 15485867 (c + 1) := by unfold CMul; omega
    have m2 : CMul 7919 (c + 1) := by unfold CMul; omega
    have y0 := Int.emod_nonneg ((b + 15485867 * (c + 1)) ^ 5) (b := 2147483647) (by omega)
    have y1 := Int.emod_lt_of_pos ((b + 15485867 * (c + 1)) ^ 5) (b := 2147483647) (by omega)
    have p2 : CPow ((b + 15485867 * (c + 1)) ^ 5 % 2147483647 + 7919 * (c + 1)) 3 := by
      unfold CPow
      omega
    have hn2 : ¬ 1000000 < n := by omega
    refine ⟨(((((b + 15485867 * (c + 1)) ^ 5 % 2147483647 + 7919 * (c + 1)) ^ 3 % 2147483629) / 32) % n).toNat, a, c + 1, ?_, ?_, by omega, Int.le_refl _⟩
    · have e := Int.toNat_of_nonneg (Int.emod_nonneg ((((b + 15485867 * (c + 1)) ^ 5 % 2147483647 + 7919 * (c + 1)) ^ 3 % 2147483629) / 32) (show n ≠ 0 by omega))
      unfold eN
      rw [e]
      simp [F__law_pick, pureF, noObj, fnRes, m__law_pick, ix0 h, ix2 h, ix1 h2, ix2 h2, gt_i, ha, hn2, add_i, mul_i m1, mul_i m2, pow_i p1, pow_i p2, mod_i (show 0 < n by omega), mod_i, fdiv_i, put2 h, DK_set, hcut]
    · rw [Int.toNat_of_nonneg (Int.emod_nonneg _ (by omega))]
      exact Int.emod_lt_of_pos _ (by omega)
end
end W

set_option Elab.async false
set_option linter.all false
set_option maxRecDepth 100000
set_option maxHeartbeats 4000000
namespace T
open PySem G
def rm (s : Str) (h : PyData.strOk s = true) : Room := ⟨s, h⟩
def names6 : List Room := [rm "attic" (by decide +kernel), rm "bay" (by decide +kernel), rm "den" (by decide +kernel), rm "hall" (by decide +kernel), rm "loft" (by decide +kernel), rm "nook" (by decide +kernel)]
theorem names6_nodup : names6.Nodup := by decide +kernel
/-- a house as it is drawn: ways between some names, rising, no pair twice -/
structure HouseOk (ns : List Room) (h : House) : Prop where
  ne : h ≠ []
  nd : (h.map fun w => (w.1, w.2.1)).Nodup
  srt : (h.map fun w => (w.1, w.2.1)).Pairwise (fun a b => leE ePr a b = true)
  ends : ∀ w ∈ h, w.1 ∈ ns ∧ w.2.1 ∈ ns ∧ w.1 ≠ w.2.1
theorem HouseOk.len {ns : List Room} {h : House} (o : HouseOk ns h) : h.length ≤ ns.length * ns.length := by
  have h1 := nodup_le (u := ns.flatMap fun x => ns.map fun y => (x, y)) o.nd fun p hp => by
    obtain ⟨w, hw, rfl⟩ := List.mem_map.mp hp
    exact List.mem_flatMap.mpr ⟨w.1, (o.ends w hw).1, List.mem_map.mpr ⟨w.2.1, (o.ends w hw).2.1, rfl⟩⟩
  rwa [List.length_map, flatMap_len (n := ns.length) fun x _ => by rw [List.length_map]] at h1
structure HInv (ns : List Room) (D : List ((Room × Room) × Bool)) : Prop where
  nd : (keys D).Nodup
  ends : ∀ p ∈ keys D, p.1 ∈ ns ∧ p.2 ∈ ns ∧ p.1 ≠ p.2
theorem HInv.len {ns : List Room} {D : List ((Room × Room) × Bool)} (o : HInv ns D) : D.length ≤ ns.length * ns.length := by
  have h1 := nodup_le (u := ns.flatMap fun x => ns.map fun y => (x, y)) o.nd fun p hp => List.mem_flatMap.mpr ⟨p.1, (o.ends p hp).1, List.mem_map.mpr ⟨p.2, (o.ends p hp).2.1, rfl⟩⟩
  unfold keys at h1
  rwa [List.length_map, flatMap_len (n := ns.length) fun x _ => by rw [List.length_map]] at h1
end T
namespace EV
open PySem QL T G
theorem keys_put {α β : Type} [DecidableEq α] (d : List (α × β)) (a : α) (b : β) : keys (tPut d a b) = if a ∈ keys d then keys d else keys d ++ [a] := by
  unfold tPut
  split
  · unfold keys
    rw [List.map_map]
    refine List.map_congr_left fun p _ => ?_
    simp only [Function.comp]
    split <;> rfl
  · rw [keys_append]; rfl
theorem HInv.put {ns : List T.Room} {D : List ((T.Room × T.Room) × Bool)} (o : HInv ns D) {p : T.Room × T.Room} {b : Bool} (h : p.1 ∈ ns ∧ p.2 ∈ ns ∧ p.1 ≠ p.2) : HInv ns (tPut D p b) := by
  refine ⟨?_, fun q hq => ?_⟩
  · rw [keys_put]
    split
    · exact o.nd
    · rename_i hn
      exact List.nodup_append.mpr ⟨o.nd, by simp, fun x hx y hy z => hn (by
        have := List.mem_singleton.mp hy
        rw [← this, ← z]; exact hx)⟩
  · rw [keys_put] at hq
    split at hq
    · exact o.ends q hq
    · rcases List.mem_append.mp hq with hq | hq
      · exact o.ends q hq
      · rw [List.mem_singleton.mp hq]; exact h
theorem tPut_ne {α β : Type} [DecidableEq α] (d : List (α × β)) (a : α) (b : β) : tPut d a b ≠ [] := by
  unfold tPut
  split
  · rename_i h
    intro e
    rw [List.map_eq_nil_iff] at e
    subst e
    simp [keys] at h
  · simp
section
variable {α β γ : Type} {e : α → PyData} {f : β → PyData} {g : γ → PyData} {M : Mem}
@[simp] theorem add1N (i : Nat) : vAdd (.dat (.int 1)) (.dat (eN i)) M = some (.dat (eN (i + 1)), M) := by
  unfold vAdd or2 vInt2 eN
  simp [Int.add_comm]
@[simp] theorem add2N (i : Nat) : vAdd (.dat (.int 2)) (.dat (eN i)) M = some (.dat (eN (i + 2)), M) := by
  unfold vAdd or2 vInt2 eN
  simp [Int.add_comm]
@[simp] theorem addNN (i j : Nat) : vAdd (.dat (eN i)) (.dat (eN j)) M = some (.dat (eN (i + j)), M) := by
  unfold vAdd or2 vInt2 eN
  simp
theorem modNN (i j : Nat) (h : 0 < j) : vMod (.dat (eN i)) (.dat (eN j)) M = some (.dat (eN (i % j)), M) := by
  unfold vMod vInt2 eN
  simp [h]
theorem subN1 (i : Nat) (h : 1 ≤ i) : vSub (.dat (eN i)) (.dat (.int 1)) M = some (.dat (eN (i - 1)), M) := by
  unfold vSub vInt2 eN
  simp
  omega
theorem sub7N (i : Nat) (h : i ≤ 7) : vSub (.dat (.int 7)) (.dat (eN i)) M = some (.dat (eN (7 - i)), M) := by
  unfold vSub vInt2 eN
  simp
  omega
@[simp] theorem gtN0 (i : Nat) : vGt (.dat (eN i)) (.dat (.int 0)) M = some (.dat (.bool (decide (0 < i))), M) := by
  unfold eN
  rw [W.gt_i]
  simp
@[simp] theorem eqN0 (i : Nat) : vEq (.dat (eN i)) (.dat (.int 0)) M = some (.dat (.bool (decide (i = 0))), M) := eq_d (e := eN) (by decide) i 0
theorem sort_dct {n : Nat} [POr e] [PEq e n] [PSort e] (h : n ≤ 32 := by decide) (d : List (α × β)) {i : Nat} (hM : M[i]? = some (.dct (EV.eDc e f d))) : vSortA [.obj i] M = some (.dat (.list ((tsort e (keys d)).map e)), M) := by
  unfold vSortA orN v1N vSort vSortM
  simp only [asL, asM, hM, dc_keys, sortB_map h, if_true, sortD_map]
theorem way3 (p : α × β) (v : γ) : vAdd (.dat (eP e f p)) (.dat (.tuple [g v])) M = some (.dat (eT3 e f g (p.1, p.2, v)), M) := by
  unfold vAdd or2 vInt2 vCatT eP
  simp [asT, LIM]
  rfl
end
end EV
namespace W
open PySem PySem.Spec PyProof.Rows L2 QL T EV G
section
variable {B : Mem} {l : Nat} {b a c n : Int} {loc : Mem}
theorem pick_loc (d : DeckAt B l b) (hp : loc.all plainM = true) (hc : 0 ≤ c ∧ c ≤ 1000) (hn : 1 ≤ n ∧ n ≤ 1000) :
    ∃ (r : Nat) (a' c' : Int), F__law_pick [.obj l, .dat (.int n)] (DK B l b a c ++ loc) = .ok (.dat (eN r)) (DK B l b a' c' ++ loc) ∧ (r : Int) < n ∧ c ≤ c' ∧ c' ≤ c + 1 := by
  obtain ⟨r, a', c', h, q⟩ := pick_ok (a := a) (c := c) (n := n) (d.app hp) hc hn
  exact ⟨r, a', c', by rw [DK_app d, DK_app d]; exact h, q⟩
theorem pick_n (d : DeckAt B l b) (hp : loc.all plainM = true) (hc : 0 ≤ c ∧ c ≤ 1000) {n : Nat} (hn : 1 ≤ n ∧ n ≤ 1000) :
    ∃ (r : Nat) (a' c' : Int), F__law_pick [.obj l, .dat (eN n)] (DK B l b a c ++ loc) = .ok (.dat (eN r)) (DK B l b a' c' ++ loc) ∧ r < n ∧ c ≤ c' ∧ c' ≤ c + 1 := by
  obtain ⟨r, a', c', h, q1, q2, q3⟩ := pick_loc (a := a) (c := c) (n := n) d hp hc (by omega)
  exact ⟨r, a', c', h, by omega, q2, q3⟩
theorem DKl_get (x : MO) : (DK B l b a c ++ [x])[B.length]? = some x := by
  rw [List.getElem?_append_right (by rw [DK_len]; exact Nat.le_refl _), DK_len, Nat.sub_self]; rfl
theorem DKl_set (x y : MO) : (DK B l b a c ++ [x]).set B.length y = DK B l b a c ++ [y] := by
  rw [List.set_append_right _ _ (by rw [DK_len]; exact Nat.le_refl _), DK_len, Nat.sub_self]; rfl
theorem deck_fn (d : DeckAt B l b) {N n : Nat} {m : EvS} {cs : List Cell} (hc : cs.all noObj = false) (hn : cs.length = n) {Q : PyData → Int → Int → Prop} (h : Ret (m (cs.map some ++ List.replicate (N - n) none) (DK B l b a c)) fun cl M' => ∃ v a' c' loc, cl = .dat v ∧ M' = DK B l b a' c' ++ loc ∧ Q v a' c') :
    ∃ v a' c', pureF (fnRes N n m) cs (DK B l b a c) = .ok (.dat v) (DK B l b a' c') ∧ Q v a' c' := by
  obtain ⟨cl, M', e, v, a', c', loc, rfl, rfl, q⟩ := h
  refine ⟨v, a', c', ?_, q⟩
  rw [not_pure hc]
  unfold fnRes
  rw [if_pos hn, e]
  have e1 : topC (DK B l b a c).length (.dat v) = (DK B l b a' c').length := by rw [DK_len]; exact DK_len.symm
  simp only [e1, DK_cut d]
theorem zip_next {ns : List T.Room} (hn : ns.Nodup) {p : T.Room × T.Room} (h : p ∈ ns.zip (ns.drop 1)) : p.1 ∈ ns ∧ p.2 ∈ ns ∧ p.1 ≠ p.2 := by
  obtain ⟨i, hi⟩ := List.mem_iff_getElem?.mp h
  rw [List.getElem?_zip_eq_some, List.getElem?_drop] at hi
  refine ⟨List.mem_of_getElem? hi.1, List.mem_of_getElem? hi.2, fun e => ?_⟩
  have h1 := (List.getElem?_eq_some_iff.mp hi.1)
  have h2 := (List.getElem?_eq_some_iff.mp hi.2)
  obtain ⟨l1, e1⟩ := h1
  obtain ⟨l2, e2⟩ := h2
  have := (List.getElem_inj hn (i := i) (j := 1 + i) (h₀ := l1) (h₁ := l2)).mp (by rw [e1, e2, e])
  omega
theorem slice6 (r0 : Nat) (M : Mem) : vSl (.dat (.list [.str "attic", .str "bay", .str "den", .str "hall", .str "loft", .str "nook"])) none (some ((r0 : Int) + 2)) M = some (.dat (.list ((names6.take (r0 + 2)).map eR)), M) := by
  have h := slL_to (e := eR) (M := M) names6 (r0 + 2)
  rw [show names6.map eR = [.str "attic", .str "bay", .str "den", .str "hall", .str "loft", .str "nook"] from rfl] at h
  rw [← h]
  rfl
theorem house_body (d : DeckAt B l b) {most : Nat} (hm : 2 ≤ most ∧ most ≤ 6) (hc : 0 ≤ c ∧ c ≤ 900) {r0 : Nat} {a0 c0 : Int} (p0 : F__law_pick [.obj l, .dat (eN (most - 1))] (DK B l b a c) = .ok (.dat (eN r0)) (DK B l b a0 c0)) (q0 : r0 < most - 1) (q1 : c ≤ c0) (q2 : c0 ≤ c + 1) {ns : List T.Room} (ens : ns = names6.take (r0 + 2)) (hnl : ns.length = r0 + 2) (hnd : ns.Nodup) :
    Ret (m__law_house [some (.obj l), some (.dat (eN most)), none, none, none, none, none, none, none] (DK B l b a c)) (fun cl M' => ∃ v a' c' loc, cl = .dat v ∧ M' = DK B l b a' c' ++ loc ∧ ∃ D, HInv ns D ∧ D ≠ [] ∧ c ≤ c' ∧ c' ≤ c + 60 ∧ v = eH ((tsort ePr (keys D)).map fun p => (p.1, p.2, (tGet D p).getD false))) := by
  have hsl := fun M => ens ▸ slice6 r0 M
  have hxs : (ns.zip (ns.drop 1)).length ≤ 5 := by rw [List.length_zip, List.length_drop]; omega
  have key : ∀ {D : List ((T.Room × T.Room) × Bool)}, HInv ns D → D.length ≤ 36 := fun o => by
    have h1 := o.len
    have h2 : ns.length * ns.length ≤ 6 * 6 := Nat.mul_le_mul (by omega) (by omega)
    omega
  have putD : ∀ (D : List ((T.Room × T.Room) × Bool)) (p : T.Room × T.Room) (v : Bool) (a c : Int), HInv ns D → vPutA (.obj B.length) (.dat (ePr p)) (.dat (.bool v)) (DK B l b a c ++ [.dct (EV.eDc ePr T.eB D)]) = some (DK B l b a c ++ [.dct (EV.eDc ePr T.eB (tPut D p v))]) := fun D p v a c o => by
    have h1 := put_dct (e := ePr) (f := T.eB) (M := DK B l b a c ++ [.dct (EV.eDc ePr T.eB D)]) (i := B.length) (d := D) (a := p) (b := v) (DKl_get _) (by have := key o; unfold LIM; omega)
    rw [DKl_set] at h1
    exact h1
  unfold m__law_house
  refine Ret.ev (by
    simp [subN1 most (by omega), p0, DK_len, vLst, dats, show (6 : Nat) ≤ LIM by unfold LIM; omega]
    rewrite [hsl]
    simp [DK_len]
    rfl) ?_
  refine bind_ret (for_dat (e := ePr) (ns.zip (ns.drop 1)) (fun pre ρ M => ∃ x4 x5, ρ = [some (.obj l), some (.dat (eN most)), some (.dat (.list (ns.map eR))), some (.obj B.length), x4, x5, none, none, none] ∧ ∃ D a' c', M = DK B l b a' c' ++ [.dct (EV.eDc ePr T.eB D)] ∧ HInv ns D ∧ c ≤ c' ∧ c' ≤ c + 1 + 4 * pre.length) (by simp [-List.drop_one, -List.map_drop, slL_from1 (e := eR) ns, zip_map]) ⟨_, _, rfl, [], a0, c0, rfl, ⟨by simp [keys], by simp [keys]⟩, q1, by simp; omega⟩ ?_) ?_
  · rintro pre p post hq ρ M ⟨x4, x5, rfl, D, a1, c1, rfl, hI, k1, k2⟩
    have hp := zip_next hnd (show p ∈ ns.zip (ns.drop 1) by rw [hq]; simp)
    have hpl : pre.length ≤ 5 := by
      have := congrArg List.length hq
      simp only [List.length_append, List.length_cons] at this
      omega
    obtain ⟨r1, a2, c2, e1, l1, m1, m2⟩ := pick_loc (a := a1) (c := c1) (n := 5) d (loc := [.dct (EV.eDc ePr T.eB D)]) rfl (by omega) (by omega)
    by_cases t1 : 0 < r1
    · obtain ⟨r2, a3, c3, e2, l2, m3, m4⟩ := pick_loc (a := a2) (c := c2) (n := 3) d (loc := [.dct (EV.eDc ePr T.eB D)]) rfl (by omega) (by omega)
      have hI2 := HInv.put hI (p := p) (b := decide (r2 = 0)) hp
      obtain ⟨r3, a4, c4, e3, l3, m5, m6⟩ := pick_loc (a := a3) (c := c3) (n := 3) d (loc := [.dct (EV.eDc ePr T.eB (tPut D p (decide (r2 = 0))))]) rfl (by omega) (by omega)
      by_cases t2 : 0 < r3
      · obtain ⟨r4, a5, c5, e4, l4, m7, m8⟩ := pick_loc (a := a4) (c := c4) (n := 3) d (loc := [.dct (EV.eDc ePr T.eB (tPut D p (decide (r2 = 0))))]) rfl (by omega) (by omega)
        have hI3 := HInv.put hI2 (p := (p.2, p.1)) (b := decide (r4 = 0)) ⟨hp.2.1, hp.1, fun z => hp.2.2 z.symm⟩
        refine nx_intro (by
          simp [e1, t1, e2, tup2 eR eR, putD _ _ _ _ _ hI, e3, t2, e4, putD _ _ _ _ _ hI2]
          and_intros <;> rfl) ⟨_, _, rfl, _, a5, c5, rfl, hI3, by omega, by simp; omega⟩
      · refine nx_intro (by
          simp [e1, t1, e2, tup2 eR eR, putD _ _ _ _ _ hI, e3, t2]
          and_intros <;> rfl) ⟨_, _, rfl, _, a4, c4, rfl, hI2, by omega, by simp; omega⟩
    · refine nx_intro (by
        simp [e1, t1]
        and_intros <;> rfl) ⟨_, _, rfl, D, a2, c2, rfl, hI, by omega, by simp; omega⟩
  · rintro ρ M ⟨x4, x5, rfl, D, a1, c1, rfl, hI, k1, k2⟩
    obtain ⟨r1, a2, c2, e1, l1, m1, m2⟩ := pick_loc (a := a1) (c := c1) (n := 5) d (loc := [.dct (EV.eDc ePr T.eB D)]) rfl (by omega) (by omega)
    simp only [x_seq]
    have hin : iRng1 (e2 vAdd (eD (.int 1)) (eCall F__law_pick (aCons (eVar 0) (aCons (eD (.int 5)) aNil)))) [some (.obj l), some (.dat (eN most)), some (.dat (.list (ns.map eR))), some (.obj B.length), x4, x5, none, none, none] (DK B l b a1 c1 ++ [.dct (EV.eDc ePr T.eB D)]) = .ok ⟨(List.range (r1 + 1)).map eN, []⟩ (DK B l b a2 c2 ++ [.dct (EV.eDc ePr T.eB D)]) := by
      simp [e1, rCell_N (r1 + 1) (by omega)]
    refine bind_ret (for_datM (e := eN) (List.range (r1 + 1)) (fun pre ρ M => ∃ x4 x5 x6 x7, ρ = [some (.obj l), some (.dat (eN most)), some (.dat (.list (ns.map eR))), some (.obj B.length), x4, x5, x6, x7, none] ∧ ∃ D a' c', M = DK B l b a' c' ++ [.dct (EV.eDc ePr T.eB D)] ∧ HInv ns D ∧ c ≤ c' ∧ c' ≤ c + 22 + 3 * pre.length ∧ (pre ≠ [] → D ≠ [])) hin ⟨_, _, _, _, rfl, D, a2, c2, rfl, hI, by omega, by simp; omega, fun z => absurd rfl z⟩ ?_) ?_
    · rintro pre turn post hq ρ M ⟨x4, x5, x6, x7, rfl, D, a1, c1, rfl, hI, k1, k2, k3⟩
      have hpl : pre.length ≤ 5 := by
        have := congrArg List.length hq
        simp only [List.length_append, List.length_cons, List.length_range] at this
        omega
      obtain ⟨r2, a2, c2, e1, l1, m1, m2⟩ := pick_n (a := a1) (c := c1) (n := ns.length) d (loc := [.dct (EV.eDc ePr T.eB D)]) rfl (by omega) (by omega)
      obtain ⟨r3, a3, c3, e2, l2, m3, m4⟩ := pick_n (a := a2) (c := c2) (n := ns.length - 1) d (loc := [.dct (EV.eDc ePr T.eB D)]) rfl (by omega) (by omega)
      obtain ⟨r4, a4, c4, e3, l3, m5, m6⟩ := pick_loc (a := a3) (c := c3) (n := 3) d (loc := [.dct (EV.eDc ePr T.eB D)]) rfl (by omega) (by omega)
      have hmod : (r2 + 1 + r3) % ns.length < ns.length := Nat.mod_lt _ (by omega)
      have hdif : (r2 + 1 + r3) % ns.length ≠ r2 := by
        rcases Nat.lt_or_ge (r2 + 1 + r3) ns.length with g | g
        · rw [Nat.mod_eq_of_lt g]; omega
        · rw [Nat.mod_eq_sub_mod g, Nat.mod_eq_of_lt (by omega)]; omega
      have hp : nth ns r2 ∈ ns ∧ nth ns ((r2 + 1 + r3) % ns.length) ∈ ns ∧ nth ns r2 ≠ nth ns ((r2 + 1 + r3) % ns.length) := by
        refine ⟨nth_mem l1, nth_mem hmod, fun z => hdif ?_⟩
        have g1 := nth_get l1
        have g2 := nth_get hmod
        rw [z] at g1
        obtain ⟨_, y1⟩ := List.getElem?_eq_some_iff.mp g1
        obtain ⟨_, y2⟩ := List.getElem?_eq_some_iff.mp g2
        exact ((List.getElem_inj hnd).mp (y2.trans y1.symm))
      have hI2 := HInv.put hI (p := (nth ns r2, nth ns ((r2 + 1 + r3) % ns.length))) (b := decide (r4 = 0)) hp
      refine nx_intro (by
        simp [e1, subN1 ns.length (by omega), e2, modNN _ _ (show 0 < ns.length by omega), ixL (e := eR) hmod, ixL (e := eR) l1, e3, tup2 eR eR, putD _ _ _ _ _ hI]
        and_intros <;> rfl) ⟨_, _, _, _, rfl, _, a4, c4, rfl, hI2, by omega, by simp; omega, fun _ => tPut_ne _ _ _⟩
    · rintro ρ M ⟨x4, x5, x6, x7, rfl, D, a1, c1, rfl, hI, k1, k2, k3⟩
      have hne : D ≠ [] := k3 (by simp)
      rw [List.length_range] at k2
      have h36 := key hI
      have kl : (tsort ePr (keys D)).length ≤ 36 := by
        rw [tsort_len]; unfold keys; rw [List.length_map]; exact h36
      simp only [x_ret]
      have hin2 : iAny (eBi vSortA (aCons (eVar 3) aNil)) [some (.obj l), some (.dat (eN most)), some (.dat (.list (ns.map eR))), some (.obj B.length), x4, x5, x6, x7, none] (DK B l b a1 c1 ++ [.dct (EV.eDc ePr T.eB D)]) = .ok ⟨(tsort ePr (keys D)).map ePr, []⟩ (DK B l b a1 c1 ++ [.dct (EV.eDc ePr T.eB D)]) := by
        simp [sort_dct (e := ePr) (f := T.eB) (h := by decide) D (DKl_get (l := l) (b := b) (a := a1) (c := c1) _)]
      refine Ret.ev (by
        simp
        rewrite [lc_all (e := ePr) (tsort ePr (keys D)) (fun p => eWay (p.1, p.2, (tGet D p).getD false)) hin2 (by unfold LIM; omega) (fun p hp => ⟨_, rfl, by
          obtain ⟨v, hv, _⟩ := W.tGet_mem (mem_tsort.mp hp)
          have := ix_dct (e := ePr) (f := T.eB) (M := DK B l b a1 c1 ++ [.dct (EV.eDc ePr T.eB D)]) (i := B.length) (DKl_get _) hv
          simp [this, hv, vTup, dats, way3, show (1 : Nat) ≤ LIM by unfold LIM; omega]⟩)]
        rewrite [show ∀ l : List (T.Room × T.Room), l.map (fun p => eWay (p.1, p.2, (tGet D p).getD false)) = (l.map fun p => (p.1, p.2, (tGet D p).getD false)).map eWay from fun l => by rw [List.map_map]; rfl]
        simp [-List.map_map]
        rfl) (Ret.of ⟨_, a1, c1, _, rfl, rfl, D, hI, hne, by omega, by omega, rfl⟩)
theorem f_law_house (d : DeckAt B l b) {most : Nat} (hm : 2 ≤ most ∧ most ≤ 6) (hc : 0 ≤ c ∧ c ≤ 900) :
    ∃ (h : House) (ns : List T.Room) (a' c' : Int), F__law_house [.obj l, .dat (eN most)] (DK B l b a c) = .ok (.dat (eH h)) (DK B l b a' c') ∧ HouseOk ns h ∧ ns.length ≤ most ∧ ns.Nodup ∧ (∀ r ∈ ns, r ∈ names6) ∧ c ≤ c' ∧ c' ≤ c + 60 := by
  obtain ⟨r0, a0, c0, p0, q0, q1, q2⟩ := pick_n (a := a) (c := c) (loc := []) d rfl (by omega) (n := most - 1) (by omega)
  rw [List.append_nil, List.append_nil] at p0
  have hns : ∃ ns, ns = names6.take (r0 + 2) := ⟨_, rfl⟩
  obtain ⟨ns, ens⟩ := hns
  have hnl : ns.length = r0 + 2 := by rw [ens, List.length_take]; show min (r0 + 2) 6 = _; omega
  have hnd : ns.Nodup := ens ▸ names6_nodup.sublist (List.take_sublist _ _)
  have hsub : ∀ r ∈ ns, r ∈ names6 := fun r hr => List.mem_of_mem_take (ens ▸ hr)
  have H := house_body (a := a) d hm hc p0 q0 q1 q2 ens hnl hnd
  obtain ⟨v, a', c', hr, D, hI, hne, h1, h2, rfl⟩ := deck_fn d (N := N__law_house.length) (n := 2) (cs := [.obj l, .dat (eN most)]) rfl rfl H
  refine ⟨(tsort ePr (keys D)).map fun p : T.Room × T.Room => (p.1, p.2, (tGet D p).getD false), ns, a', c', hr, ⟨?_, ?_, ?_, ?_⟩, by omega, hnd, hsub, h1, h2⟩
  · intro e
    rw [List.map_eq_nil_iff] at e
    have := tsort_len (e := ePr) (keys D)
    rw [e] at this
    exact hne (List.length_eq_zero_iff.mp (by unfold keys at this; rw [List.length_map] at this; exact this.symm))
  · rw [List.map_map]
    rw [show ((fun w : Way => (w.1, w.2.1)) ∘ fun p : T.Room × T.Room => (p.1, p.2, (tGet D p).getD false)) = id from rfl, List.map_id]
    exact tsort_nodup.mpr hI.nd
  · rw [List.map_map]
    rw [show ((fun w : Way => (w.1, w.2.1)) ∘ fun p : T.Room × T.Room => (p.1, p.2, (tGet D p).getD false)) = id from rfl, List.map_id]
    exact tsort_sorted _
  · intro w hw
    obtain ⟨p, hp, rfl⟩ := List.mem_map.mp hw
    exact hI.ends p (mem_tsort.mp hp)
end
end W

set_option Elab.async false
set_option linter.all false
set_option maxRecDepth 100000
set_option maxHeartbeats 4000000
namespace T
open PySem G QL
def dd {α : Type} [DecidableEq α] : List α → List α
  | [] => []
  | x :: xs => if x ∈ xs then dd xs else x :: dd xs
theorem mem_dd {α : Type} [DecidableEq α] {x : α} : ∀ {xs : List α}, x ∈ dd xs ↔ x ∈ xs
  | [] => Iff.rfl
  | y :: ys => by
    unfold dd
    split
    · rename_i h
      rw [mem_dd, List.mem_cons]
      exact ⟨.inr, fun q => q.elim (fun e => e ▸ h) id⟩
    · rw [List.mem_cons, List.mem_cons, mem_dd]
theorem nodup_dd {α : Type} [DecidableEq α] : ∀ xs : List α, (dd xs).Nodup
  | [] => List.Pairwise.nil
  | y :: ys => by
    unfold dd
    split
    · exact nodup_dd ys
    · rename_i h
      exact List.nodup_cons.mpr ⟨fun q => h (mem_dd.mp q), nodup_dd ys⟩
theorem dedup_map : ∀ xs : List Room, QL.dedup (xs.map Subtype.val) = (dd xs).map Subtype.val
  | [] => rfl
  | x :: xs => by
    rw [List.map_cons, QL.dedup, dd, dedup_map xs]
    have : x.val ∈ xs.map Subtype.val ↔ x ∈ xs := ⟨fun h => by
      obtain ⟨y, hy, e⟩ := List.mem_map.mp h
      exact Subtype.ext e ▸ hy, fun h => List.mem_map.mpr ⟨x, h, rfl⟩⟩
    by_cases q : x ∈ xs
    · rw [if_pos (this.mpr q), if_pos q]
    · rw [if_neg (fun z => q (this.mp z)), if_neg q, List.map_cons]
def roomSet (l : List Room) : List Room := tsort eR (dd l)
def roomsOf (h : House) : List Room := roomSet (h.map (·.1) ++ h.map (·.2.1))
theorem mem_roomSet {l : List Room} {r : Room} : r ∈ roomSet l ↔ r ∈ l := by unfold roomSet; rw [mem_tsort, mem_dd]
theorem roomSet_nodup (l : List Room) : (roomSet l).Nodup := tsort_nodup.mpr (nodup_dd l)
theorem roomSet_sorted (l : List Room) : (roomSet l).Pairwise (fun a b => leE eR a b = true) := tsort_sorted _
theorem mem_roomsOf {h : House} {r : Room} : r ∈ roomsOf h ↔ ∃ w ∈ h, w.1 = r ∨ w.2.1 = r := by
  unfold roomsOf
  rw [mem_roomSet, List.mem_append, List.mem_map, List.mem_map]
  constructor
  · rintro (⟨w, hw, e⟩ | ⟨w, hw, e⟩)
    · exact ⟨w, hw, .inl e⟩
    · exact ⟨w, hw, .inr e⟩
  · rintro ⟨w, hw, e | e⟩
    · exact .inl ⟨w, hw, e⟩
    · exact .inr ⟨w, hw, e⟩
theorem ends_rooms (h : House) : Ends (roomsOf h) h := fun w hw => ⟨mem_roomsOf.mpr ⟨w, hw, .inl rfl⟩, mem_roomsOf.mpr ⟨w, hw, .inr rfl⟩⟩
theorem rooms_len {ns : List Room} {h : House} (o : HouseOk ns h) : (roomsOf h).length ≤ ns.length := nodup_le (roomSet_nodup _) fun r hr => by
  obtain ⟨w, hw, e | e⟩ := mem_roomsOf.mp hr
  · exact e ▸ (o.ends w hw).1
  · exact e ▸ (o.ends w hw).2.1
theorem rooms_ne {ns : List Room} {h : House} (o : HouseOk ns h) : roomsOf h ≠ [] := fun e => by
  cases h with
  | nil => exact o.ne rfl
  | cons w h =>
    have : w.1 ∈ roomsOf (w :: h) := mem_roomsOf.mpr ⟨w, List.mem_cons_self, .inl rfl⟩
    rw [e] at this
    cases this
end T
namespace EV
open PySem QL T G
theorem strs_map (l : List T.Room) : strsOf (l.map eR) = some (l.map Subtype.val) := by
  induction l with
  | nil => rfl
  | cons x xs ih =>
    show strsOf (.str x.val :: xs.map eR) = _
    unfold strsOf
    rw [ih]
    rfl
theorem sortSet_strs (xs : List T.Room) : sortD ((QL.dedup (xs.map Subtype.val)).map .str) = (roomSet xs).map eR := by
  rw [dedup_map, List.map_map]
  exact sortD_map (e := eR) (dd xs)
theorem sortSet_L {M : Mem} {l : List T.Room} (h : l.length < 4000) : vSortSet (.dat (.list (l.map eR))) M = some (.dat (.list ((roomSet l).map eR)), M) := by
  unfold vSortSet
  simp only [asD_d, strs_map, List.length_map, if_pos h, sortSet_strs]
theorem sortSet_T {M : Mem} {l : List T.Room} (h : l.length < 4000) : vSortSet (.dat (eT eR l)) M = some (.dat (.list ((roomSet l).map eR)), M) := by
  unfold vSortSet eT
  simp only [asD_d, strs_map, List.length_map, if_pos h, sortSet_strs]
end EV
namespace W
open PySem PySem.Spec PyProof.Rows L2 QL T EV G
section
variable {M : Mem} {h : House}
theorem rooms_body (hh : h.length ≤ 1000) : Rt (m_rooms [some (.dat (eH h)), none] []) (.dat (.list ((roomsOf h).map eR))) := by
  unfold m_rooms
  refine Rt.ev (by
    simp
    rewrite [lc_all (e := eWay) h (fun w => eR w.1) (by simp) (by unfold LIM; omega) (fun w _ => ⟨_, rfl, by simp⟩)]
    simp only [bind_ok]
    rewrite [lc_all (e := eWay) h (fun w => eR w.2.1) (by simp) (by unfold LIM; omega) (fun w _ => ⟨_, rfl, by simp⟩)]
    rewrite [show h.map (fun w => eR w.1) = (h.map (·.1)).map eR by rw [List.map_map]; rfl, show h.map (fun w => eR w.2.1) = (h.map (·.2.1)).map eR by rw [List.map_map]; rfl]
    simp only [bind_ok, catL (e := eR) (l := h.map (·.1)) (r := h.map (·.2.1)) (by simp; unfold LIM; omega), of_some, sortSet_L (l := h.map (·.1) ++ h.map (·.2.1)) (by simp; omega), toS_ok]
    rfl) .of
theorem f_rooms (hh : h.length ≤ 1000) : F_rooms [.dat (eH h)] M = .ok (.dat (.list ((roomsOf h).map eR))) M := pure_fn rfl rfl rfl (rooms_body hh)
theorem f_law_rooms (hh : h.length ≤ 1000) : F__law_rooms [.dat (eH h)] M = .ok (.dat (.list ((roomsOf h).map eR))) M := pure_fn rfl rfl rfl (rooms_body hh)
end
section
variable {B : Mem} {l : Nat} {b a c : Int}
/-- some draws out of a list, one behind the other -/
theorem draws {α : Type} [Inhabited α] {e : α → PyData} (d : DeckAt B l b) {xs : List α} (hx : 1 ≤ xs.length ∧ xs.length ≤ 1000) {ρ : Env'} {k i : Nat} (hk : k ≤ 1000) (hc : 0 ≤ c ∧ c + k ≤ 1000) {it : EvI} (hit : it ρ (DK B l b a c) = .ok ⟨(List.range k).map eN, []⟩ (DK B l b a c)) {own : List Nat} {elt : EvF}
    (helt : ∀ (j : Nat) (a c : Int) (r : Nat) (a' c' : Int), F__law_pick [.obj l, .dat (eN xs.length)] (DK B l b a c) = .ok (.dat (eN r)) (DK B l b a' c') → r < xs.length → ∃ ρ2, (Tgt.one i).bind (eN j) (wipeE ρ own) = some ρ2 ∧ elt ρ2 (DK B l b a c) = .ok (.dat (e (nth xs r))) (DK B l b a' c')) :
    ∃ (ys : List α) (a' c' : Int), eLc it (.one i) bYes elt own ρ (DK B l b a c) = .ok (.dat (.list (ys.map e))) (DK B l b a' c') ∧ ys.length = k ∧ (∀ y ∈ ys, y ∈ xs) ∧ c ≤ c' ∧ c' ≤ c + k := by
  obtain ⟨ys, M', h1, a', c', rfl, h2, h3, h4, h5⟩ := lc_mem (e := eN) (f := e) (List.range k) (fun pre acc M => ∃ a' c', M = DK B l b a' c' ∧ acc.length = pre.length ∧ (∀ y ∈ acc, y ∈ xs) ∧ c ≤ c' ∧ c' ≤ c + pre.length) hit (by simp; unfold LIM; omega) ⟨a, c, rfl, rfl, (fun _ h => nomatch h), by omega, by simp⟩ (t := .one i) (test := bYes) (elt := elt) (own := own) (by
    rintro p j q hq acc M ⟨a1, c1, rfl, g1, g2, g3, g4⟩
    have hpl := congrArg List.length hq
    simp only [List.length_append, List.length_cons, List.length_range] at hpl
    obtain ⟨r, a2, c2, e1, l1, m1, m2⟩ := pick_n (a := a1) (c := c1) (n := xs.length) (loc := []) d rfl (by omega) hx
    rw [List.append_nil, List.append_nil] at e1
    obtain ⟨ρ2, f1, f2⟩ := helt j a1 c1 r a2 c2 e1 l1
    refine ⟨ρ2, true, _, f1, rfl, fun _ => ⟨nth xs r, _, f2, a2, c2, rfl, by simp [g1], fun y hy => ?_, by omega, by simp; omega⟩, fun z => by cases z⟩
    rcases List.mem_append.mp hy with hy | hy
    · exact g2 y hy
    · rw [List.mem_singleton.mp hy]; exact nth_mem l1)
  rw [List.length_range] at h2 h5
  exact ⟨ys, a', c', h1, h2, h3, h4, h5⟩
/-- what a drawn scene is -/
structure Scene (k most : Nat) (h : House) (s : Stand) : Prop where
  ex : ∃ ns : List T.Room, HouseOk ns h ∧ ns.length ≤ most ∧ ns.Nodup ∧ ∀ r ∈ ns, r ∈ names6
  ok : Ok (roomsOf h) k s
theorem Scene.rl {k most : Nat} {h : House} {s : Stand} (o : Scene k most h s) : (roomsOf h).length ≤ most := by
  obtain ⟨ns, h1, h2, _⟩ := o.ex
  exact Nat.le_trans (rooms_len h1) h2
theorem Scene.hl {k most : Nat} {h : House} {s : Stand} (o : Scene k most h s) (hm : most ≤ 6) : h.length ≤ 36 := by
  obtain ⟨ns, h1, h2, _⟩ := o.ex
  have h3 := h1.len
  have h4 : ns.length * ns.length ≤ 6 * 6 := Nat.mul_le_mul (by omega) (by omega)
  omega
theorem world_of {R : List T.Room} {k : Nat} {h : House} (nd : R.Nodup) (hE : Ends R h) (hl : h.length ≤ 1000) (hk : k = 1 ∧ R.length ≤ 6 ∨ k = 2 ∧ R.length ≤ 5 ∨ k = 3 ∧ R.length ≤ 4) : T.World R k h := by
  refine ⟨nd, hE, hl, by omega, by omega, Nat.lt_of_le_of_lt (univ_len R k) ?_⟩
  have le : ∀ (m j : Nat), R.length ≤ m → R.length ^ j * 2 ^ R.length ≤ m ^ j * 2 ^ m := fun m j h => Nat.mul_le_mul (Nat.pow_le_pow_left h j) (Nat.pow_le_pow_right (by decide) h)
  rcases hk with ⟨rfl, h⟩ | ⟨rfl, h⟩ | ⟨rfl, h⟩
  · exact Nat.lt_of_le_of_lt (le 6 1 h) (by decide)
  · exact Nat.lt_of_le_of_lt (le 5 2 h) (by decide)
  · exact Nat.lt_of_le_of_lt (le 4 3 h) (by decide)
end
end W

set_option Elab.async false
set_option linter.all false
set_option maxRecDepth 100000
set_option maxHeartbeats 4000000
namespace W
open PySem PySem.Spec PyProof.Rows L2 QL T EV G
section
variable {B : Mem} {l : Nat} {b a c : Int}
/-- rooms where nobody is, drawn -/
theorem darks (d : DeckAt B l b) {R places : List T.Room} (hR : R.length ≤ 100) {ρ : Env'} {i : Nat} (hc : 0 ≤ c ∧ c + R.length ≤ 1000) {it : EvI} (hit : it ρ (DK B l b a c) = .ok ⟨R.map eR, []⟩ (DK B l b a c)) {own : List Nat} {test : EvB} {elt : EvF}
    (ht : ∀ (x : T.Room) (a c : Int) (r : Nat) (a' c' : Int), F__law_pick [.obj l, .dat (.int 2)] (DK B l b a c) = .ok (.dat (eN r)) (DK B l b a' c') → ∃ ρ2, (Tgt.one i).bind (eR x) (wipeE ρ own) = some ρ2 ∧ test ρ2 (DK B l b a c) = (if x ∈ places then .ok false (DK B l b a c) else .ok (decide (r = 0)) (DK B l b a' c')) ∧ ∀ M, elt ρ2 M = .ok (.dat (eR x)) M) :
    ∃ (ys : List T.Room) (a' c' : Int), eLc it (.one i) test elt own ρ (DK B l b a c) = .ok (.dat (.list (ys.map eR))) (DK B l b a' c') ∧ ys.Sublist R ∧ (∀ y ∈ ys, y ∉ places) ∧ c ≤ c' ∧ c' ≤ c + R.length := by
  obtain ⟨ys, M', h1, a', c', rfl, h2, h3, h4, h5⟩ := lc_mem (e := eR) (f := eR) R (fun pre acc M => ∃ a' c', M = DK B l b a' c' ∧ acc.Sublist pre ∧ (∀ y ∈ acc, y ∉ places) ∧ c ≤ c' ∧ c' ≤ c + pre.length) hit (by unfold LIM; omega) ⟨a, c, rfl, List.Sublist.refl _, (fun _ h => nomatch h), by omega, by simp⟩ (t := .one i) (test := test) (elt := elt) (own := own) (by
    rintro p x q hq acc M ⟨a1, c1, rfl, g1, g2, g3, g4⟩
    have hpl := congrArg List.length hq
    simp only [List.length_append, List.length_cons] at hpl
    obtain ⟨r, a2, c2, e1, l1, m1, m2⟩ := pick_loc (a := a1) (c := c1) (n := 2) (loc := []) d rfl (by omega) (by omega)
    rw [List.append_nil, List.append_nil] at e1
    obtain ⟨ρ2, f1, f2, f3⟩ := ht x a1 c1 r a2 c2 e1
    by_cases q1 : x ∈ places
    · rw [if_pos q1] at f2
      exact ⟨ρ2, false, _, f1, f2, (fun z => by cases z), fun _ => ⟨a1, c1, rfl, g1.trans (List.sublist_append_left _ _), g2, g3, by simp; omega⟩⟩
    · rw [if_neg q1] at f2
      refine ⟨ρ2, _, _, f1, f2, fun _ => ⟨x, _, f3 _, a2, c2, rfl, g1.append (List.Sublist.refl _), fun y hy => ?_, by omega, by simp; omega⟩, fun _ => ⟨a2, c2, rfl, g1.trans (List.sublist_append_left _ _), g2, by omega, by simp; omega⟩⟩
      rcases List.mem_append.mp hy with hy | hy
      · exact g2 y hy
      · rw [List.mem_singleton.mp hy]; exact q1)
  exact ⟨ys, a', c', h1, h2, h3, h4, h5⟩
theorem roomsOf_nodup (h : House) : (roomsOf h).Nodup := roomSet_nodup _
theorem roomsOf_sorted (h : House) : (roomsOf h).Pairwise (fun a b => leE eR a b = true) := roomSet_sorted _
theorem f_scene (d : DeckAt B l b) (hc : 0 ≤ c ∧ c ≤ 800) :
    ∃ (k : Nat) (h : House) (s : Stand) (a' c' : Int), F__law_scene [.obj l] (DK B l b a c) = .ok (.dat (eP eH eSt (h, s))) (DK B l b a' c') ∧ (1 ≤ k ∧ k ≤ 3) ∧ Scene k (7 - k) h s ∧ c ≤ c' ∧ c' ≤ c + 100 := by
  obtain ⟨r0, a0, c0, p0, l0, q1, q2⟩ := pick_loc (a := a) (c := c) (n := 3) (loc := []) d rfl (by omega) (by omega)
  rw [List.append_nil, List.append_nil] at p0
  obtain ⟨h, ns, a1, c1, p1, o1, o2, o3, o4, q3, q4⟩ := f_law_house (a := a0) (c := c0) d (most := 6 - r0) (by omega) (by omega)
  have hrl := rooms_len o1
  have hhl : h.length ≤ 36 := by
    have h3 := o1.len
    have h4 : ns.length * ns.length ≤ 6 * 6 := Nat.mul_le_mul (by omega) (by omega)
    omega
  have hne := List.length_pos_iff.mpr (rooms_ne o1)
  suffices H : Ret (m__law_scene [some (.obj l), none, none, none, none, none, none, none] (DK B l b a c)) (fun cl M' => ∃ v a' c' loc, cl = .dat v ∧ M' = DK B l b a' c' ++ loc ∧ ∃ s, v = eP eH eSt (h, s) ∧ Scene (r0 + 1) (7 - (r0 + 1)) h s ∧ c ≤ c' ∧ c' ≤ c + 100) by
    obtain ⟨v, a', c', hr, s, rfl, g1, g2, g3⟩ := deck_fn d (N := N__law_scene.length) (n := 1) (cs := [.obj l]) rfl rfl H
    exact ⟨r0 + 1, h, s, a', c', hr, by omega, g1, g2, g3⟩
  obtain ⟨ps, a2, c2, hps, y1, y2, y3, y4⟩ := draws (a := a1) (c := c1) (e := eR) (xs := roomsOf h) (i := 7) (own := [7]) (k := r0 + 1) d (by omega) (by omega) (by omega) (it := iRng1 (eVar 1)) (elt := e2 vIxA (eVar 3) (eCall F__law_pick (aCons (eVar 0) (aCons (eBi (v1N vLen) (aCons (eVar 3) aNil)) aNil)))) (ρ := [some (.obj l), some (.dat (eN (r0 + 1))), some (.dat (eH h)), some (.dat (.list ((roomsOf h).map eR))), none, none, none, none]) (by
      simp [rCell_N (r0 + 1) (by omega)]) (fun j a c r a' c' he hr => ⟨_, rfl, by simp [he, ixL (e := eR) hr]⟩)
  obtain ⟨ds, a3, c3, e3, z1, z2, z3, z4⟩ := darks (a := a2) (c := c2) (R := roomsOf h) (places := ps) d (i := 6) (own := [6]) (by omega) (by omega) (it := iAny (eVar 3)) (test := bAnd (QL.eB (e2 (vInA true) (eVar 6) (eVar 4))) (QL.eB (e2 vEq (eCall F__law_pick (aCons (eVar 0) (aCons (eD (.int 2)) (aNil)))) (eD (.int 0))))) (elt := eVar 6) (ρ := [some (.obj l), some (.dat (eN (r0 + 1))), some (.dat (eH h)), some (.dat (.list ((roomsOf h).map eR))), some (.dat (eT eR ps)), none, none, none]) (by simp) (fun x a c r a' c' he => ⟨_, rfl, by by_cases q : x ∈ ps <;> simp [inT (e := eR), q, he], fun M => by simp⟩)
  have hs : Scene (r0 + 1) (7 - (r0 + 1)) h (ps, ds) := ⟨⟨ns, o1, by omega, o3, o4⟩, ⟨y1, y2, fun r hr => z1.subset hr, (roomsOf_nodup h).sublist z1, (roomsOf_sorted h).sublist z1, z2⟩⟩
  unfold m__law_scene
  refine ret_seq (ρ1 := [some (.obj l), some (.dat (eN (r0 + 1))), none, none, none, none, none, none]) (M1 := DK B l b a0 c0) (by simp [p0]) ?_
  refine ret_seq (ρ1 := [some (.obj l), some (.dat (eN (r0 + 1))), some (.dat (eH h)), none, none, none, none, none]) (M1 := DK B l b a1 c1) (by simp [sub7N (r0 + 1) (by omega), p1]) ?_
  refine ret_seq (ρ1 := [some (.obj l), some (.dat (eN (r0 + 1))), some (.dat (eH h)), some (.dat (.list ((roomsOf h).map eR))), none, none, none, none]) (M1 := DK B l b a1 c1) (by simp [f_law_rooms (show h.length ≤ 1000 by omega)]) ?_
  refine ret_seq (ρ1 := [some (.obj l), some (.dat (eN (r0 + 1))), some (.dat (eH h)), some (.dat (.list ((roomsOf h).map eR))), some (.dat (eT eR ps)), none, none, none]) (M1 := DK B l b a2 c2) (by simp [hps]) ?_
  refine ret_seq (ρ1 := [some (.obj l), some (.dat (eN (r0 + 1))), some (.dat (eH h)), some (.dat (.list ((roomsOf h).map eR))), some (.dat (eT eR ps)), some (.dat (.list (ds.map eR))), none, none]) (M1 := DK B l b a3 c3) (by simp [e3]) ?_
  refine Ret.ev (r' := .rt (.dat (eP eH eSt (h, (ps, ds)))) (DK B l b a3 c3)) (by simp [tup2 (eT eR) (eT eR), tup2 eH eSt]) (Ret.of ⟨_, a3, c3, [], rfl, (List.append_nil _).symm, (ps, ds), rfl, hs, by omega, by omega⟩)
theorem f_wish (d : DeckAt B l b) (hc : 0 ≤ c ∧ c ≤ 900) {h : House} (hh : h.length ≤ 1000) (hr : (roomsOf h).length ≤ 100) {k : Nat} (hk : k ≤ 10) :
    ∃ (w : Wish) (a' c' : Int), F__law_wish [.obj l, .dat (eH h), .dat (eN k)] (DK B l b a c) = .ok (.dat (eW w)) (DK B l b a' c') ∧ w.length = k ∧ (∀ o ∈ w, ∀ r, o = some r → r ∈ roomsOf h) ∧ c ≤ c' ∧ c' ≤ c + 10 := by
  have hcat : ∀ M, vAdd (.dat (.list ((roomsOf h).map eR))) (.dat (.list [.none])) M = some (.dat (.list (((roomsOf h).map some ++ [none]).map (eO eR))), M) := fun M => by
    have := catL (e := eO eR) (M := M) (l := (roomsOf h).map some) (r := [none]) (by simp; unfold LIM; omega)
    rw [List.map_map] at this
    exact this
  obtain ⟨w, a2, c2, hws, y1, y2, y3, y4⟩ := draws (a := a) (c := c) (e := eO eR) (xs := (roomsOf h).map some ++ [none]) (i := 4) (own := [4]) (k := k) d (by simp; omega) (by omega) (by omega) (it := iRng1 (eVar 2)) (elt := e2 vIxA (eVar 3) (eCall F__law_pick (aCons (eVar 0) (aCons (eBi (v1N vLen) (aCons (eVar 3) aNil)) aNil)))) (ρ := [some (.obj l), some (.dat (eH h)), some (.dat (eN k)), some (.dat (.list (((roomsOf h).map some ++ [none]).map (eO eR)))), none]) (by
      simp [rCell_N k (by omega)]) (fun j a c r a' c' he hr => ⟨_, rfl, by
        have el : ((roomsOf h).map some ++ [none]).length = (roomsOf h).length + 1 := by simp
        rw [el] at he
        simp [-List.map_append, -List.map_map, lenL (e := eO eR) ((roomsOf h).map some ++ [none]), he, ixL (e := eO eR) hr]⟩)
  suffices H : Ret (m__law_wish [some (.obj l), some (.dat (eH h)), some (.dat (eN k)), none, none] (DK B l b a c)) (fun cl M' => ∃ v a' c' loc, cl = .dat v ∧ M' = DK B l b a' c' ++ loc ∧ ∃ w : Wish, v = eW w ∧ w.length = k ∧ (∀ o ∈ w, ∀ r, o = some r → r ∈ roomsOf h) ∧ c ≤ c' ∧ c' ≤ c + 10) by
    obtain ⟨v, a', c', hr, w, rfl, g1, g2, g3, g4⟩ := deck_fn d (N := N__law_wish.length) (n := 3) (cs := [.obj l, .dat (eH h), .dat (eN k)]) rfl rfl H
    exact ⟨w, a', c', hr, g1, g2, g3, g4⟩
  unfold m__law_wish
  refine ret_seq (ρ1 := [some (.obj l), some (.dat (eH h)), some (.dat (eN k)), some (.dat (.list (((roomsOf h).map some ++ [none]).map (eO eR)))), none]) (M1 := DK B l b a c) (by simp [-List.map_append, -List.map_map, f_law_rooms hh, vLst, dats, show (1 : Nat) ≤ LIM by unfold LIM; omega, hcat]) ?_
  refine Ret.ev (r' := .rt (.dat (eW w)) (DK B l b a2 c2)) (by
    simp only [x_ret, x_bi, x_aCons, hws]
    simp) (Ret.of ⟨_, a2, c2, [], rfl, (List.append_nil _).symm, w, rfl, y1, fun o ho r hr => ?_, by omega, by omega⟩)
  have := y2 o ho
  subst hr
  simpa using this
end
end W

set_option Elab.async false
set_option linter.all false
set_option maxRecDepth 100000
set_option maxHeartbeats 4000000
namespace G
/-! ### shortest ways back -/
section
variable {α β : Type} [DecidableEq α]
/-- an entry of the search: the start's, or a find's with the one before it, a round earlier -/
def Entry (nb : α → List (β × α)) (s : α) (n : Nat) (e : α × Option (α × β)) : Prop :=
  (e.1 = s ∧ e.2 = none) ∨ ∃ y p m, e.2 = some (y, p) ∧ (p, e.1) ∈ nb y ∧ m + 1 ≤ n ∧ y ∈ (lev (nbx nb) s m).2 ∧ e.1 ∈ (lev (nbx nb) s (m + 1)).2
theorem look_mem {V : Type} (mk : List (α × V) → α → β → V) (here : α) {e : α × V} : ∀ (ps : List (β × α)) (st : List (α × V) × List α), e ∈ (ps.foldl (look mk here) st).1 → e ∈ st.1 ∨ ∃ q ∈ ps, ∃ f, e = (q.2, mk f here q.1) ∧ q.2 ∉ keys st.1
  | [], st, h => .inl h
  | p :: ps, st, h => by
    rw [List.foldl_cons] at h
    rcases look_mem mk here ps _ h with h | ⟨q, hq, f, e1, e2⟩
    · unfold look at h
      split at h
      · exact .inl h
      · rename_i hn
        rcases List.mem_append.mp h with h | h
        · exact .inl h
        · exact .inr ⟨p, List.mem_cons_self, _, List.mem_singleton.mp h, hn⟩
    · refine .inr ⟨q, List.mem_cons_of_mem _ hq, f, e1, fun z => e2 ?_⟩
      unfold look
      split
      · exact z
      · rw [keys_append]; exact List.mem_append_left _ z
theorem lookAll_mem {V : Type} (mk : List (α × V) → α → β → V) (nb : α → List (β × α)) {e : α × V} : ∀ (row : List α) (st : List (α × V) × List α), e ∈ (row.foldl (lookAll mk nb) st).1 → e ∈ st.1 ∨ ∃ y ∈ row, ∃ q ∈ nb y, ∃ f, e = (q.2, mk f y q.1) ∧ q.2 ∉ keys st.1
  | [], st, h => .inl h
  | x :: xs, st, h => by
    rw [List.foldl_cons] at h
    rcases lookAll_mem mk nb xs _ h with h | ⟨y, hy, q, hq, f, e1, e2⟩
    · rcases look_mem mk x (nb x) st h with h | ⟨q, hq, f, e1, e2⟩
      · exact .inl h
      · exact .inr ⟨x, List.mem_cons_self, q, hq, f, e1, e2⟩
    · refine .inr ⟨y, List.mem_cons_of_mem _ hy, q, hq, f, e1, fun z => e2 ?_⟩
      rw [show lookAll mk nb st x = (nb x).foldl (look mk x) st from rfl, (look_fold mk x (nb x) st).1]
      exact List.mem_append_left _ z
def mkP {α β : Type} : List (α × Option (α × β)) → α → β → Option (α × β) := fun _ here step => some (here, step)
theorem bst_entry (nb : α → List (β × α)) (s : α) : ∀ (n : Nat) (e : α × Option (α × β)), e ∈ (bst mkP nb s none n).1 → Entry nb s n e
  | 0, e, h => .inl (by
    have := List.mem_singleton.mp h
    subst this
    exact ⟨rfl, rfl⟩)
  | n + 1, e, h => by
    rcases lookAll_mem mkP nb _ _ (show e ∈ ((bst mkP nb s none n).2.foldl (lookAll mkP nb) ((bst mkP nb s none n).1, [])).1 from h) with h | ⟨y, hy, q, hq, f, e1, e2⟩
    · rcases bst_entry nb s n e h with h | ⟨y, p, m, h1, h2, h3, h4⟩
      · exact .inl h
      · exact .inr ⟨y, p, m, h1, h2, by omega, h4⟩
    · rw [bst_k2] at hy
      rw [bst_k1] at e2
      refine .inr ⟨y, q.1, n, by rw [e1]; rfl, by rw [e1]; exact hq, Nat.le_refl _, hy, ?_⟩
      rw [e1, lev_succ]
      exact mem_news.mpr ⟨List.mem_flatMap.mpr ⟨y, hy, List.mem_map.mpr ⟨q, hq, rfl⟩⟩, e2⟩
/-- how far a find is, told once -/
theorem lev_once (nx : α → List α) (s : α) {m n : Nat} {x : α} (h : x ∈ (lev nx s m).2) (g : x ∈ (lev nx s n).2) : m = n := by
  have h1 := (mem_row nx s).mp h
  have g1 := (mem_row nx s).mp g
  rcases Nat.lt_trichotomy m n with q | q | q
  · exact absurd h1.1 (g1.2 m q)
  · exact q
  · exact absurd g1.1 (h1.2 n q)
/-- the first find of a kind is a nearest one -/
theorem find_near (nx : α → List α) (s : α) (p : α → Bool) : ∀ (n : Nat) (x : α), (lev nx s n).1.find? p = some x → ∃ m, m ≤ n ∧ x ∈ (lev nx s m).2 ∧ ∀ k, k < m → ∀ y ∈ (lev nx s k).2, p y = false
  | 0, x, h => by
    refine ⟨0, Nat.le_refl _, ?_, fun k hk => by omega⟩
    exact List.mem_of_find?_eq_some h
  | n + 1, x, h => by
    rw [lev_succ] at h
    rw [List.find?_append] at h
    cases e : (lev nx s n).1.find? p with
    | some y =>
      rw [e] at h
      obtain rfl := Option.some.inj h
      obtain ⟨m, h1, h2, h3⟩ := find_near nx s p n y e
      exact ⟨m, by omega, h2, h3⟩
    | none =>
      rw [e] at h
      have hx := List.mem_of_find?_eq_some (show List.find? p _ = some x from h)
      refine ⟨n + 1, Nat.le_refl _, hx, fun k hk y hy => ?_⟩
      have hy1 : y ∈ (lev nx s n).1 := lev_mono nx s (lev_sub nx s k y hy) (by omega)
      have := List.find?_eq_none.mp e y hy1
      simpa using this
end
end G
namespace T
open PySem G
/-- led back so many times -/
def back (D : List (Stand × Option (Stand × Step))) : Nat → Stand → Stand × List Step
  | 0, x => (x, [])
  | j + 1, x => match EV.tGet D (back D j x).1 with
    | some (some (y, p)) => (y, p :: (back D j x).2)
    | _ => back D j x
/-- gone by a walk -/
def goWalk (h : House) : Stand → List Step → Option Stand
  | s, [] => some s
  | s, p :: w => if p ∈ steps h s then goWalk h (gone s p) w else none
open Classical in
noncomputable def lvl (h : House) (s x : Stand) : Nat := if q : ∃ m, x ∈ (lev (nxt h) s m).2 then Classical.choose q else 0
section
variable {R : List Room} {k : Nat} {h : House} {s : Stand}
theorem lvl_of {m : Nat} {x : Stand} (hx : x ∈ (lev (nxt h) s m).2) : lvl h s x = m := by
  have q : ∃ m, x ∈ (lev (nxt h) s m).2 := ⟨m, hx⟩
  unfold lvl
  rw [dif_pos q]
  exact lev_once (nxt h) s (Classical.choose_spec q) hx
theorem comeTo_entry {x : Stand} (hx : x ∈ reach h s) : ∃ v, EV.tGet (comeTo h s) x = some v ∧ Entry (nb h) s FUEL (x, v) := by
  rw [← keys_comeTo] at hx
  obtain ⟨v, h1, h2⟩ := W.tGet_mem hx
  exact ⟨v, h1, bst_entry (nb h) s FUEL _ h2⟩
theorem lev_reach (w : World R k h) (o : Ok R k s) {m : Nat} {x : Stand} (hx : x ∈ (lev (nxt h) s m).2) : x ∈ reach h s := (mem_reach w o).mpr ⟨m, ((mem_row (nxt h) s).mp hx).1⟩
theorem parent (w : World R k h) (o : Ok R k s) {m : Nat} {x : Stand} (hx : x ∈ (lev (nxt h) s (m + 1)).2) : ∃ y p, EV.tGet (comeTo h s) x = some (some (y, p)) ∧ p ∈ steps h y ∧ gone y p = x ∧ y ∈ (lev (nxt h) s m).2 := by
  obtain ⟨v, h1, h2⟩ := comeTo_entry (lev_reach w o hx)
  rcases h2 with ⟨h2, _⟩ | ⟨y, p, m', h2, h3, h4, h5, h6⟩
  · have h2 : x = s := h2
    have h0 : x ∈ (lev (nxt h) s 0).2 := by rw [h2]; exact List.mem_singleton.mpr rfl
    have := lev_once (nxt h) s hx h0
    omega
  · rw [nbx_fun] at h5 h6
    have h2 : v = some (y, p) := h2
    have e := lev_once (nxt h) s hx h6
    obtain rfl : m = m' := by omega
    obtain ⟨p', hp, e2⟩ := List.mem_map.mp h3
    obtain ⟨rfl, e3⟩ := Prod.mk.inj e2
    exact ⟨y, p', by rw [h1, h2], hp, e3, h5⟩
theorem start_none (w : World R k h) (o : Ok R k s) : EV.tGet (comeTo h s) s = some none := by
  have h0 : s ∈ (lev (nxt h) s 0).2 := List.mem_singleton.mpr rfl
  obtain ⟨v, h1, h2⟩ := comeTo_entry (lev_reach w o h0)
  rcases h2 with ⟨_, h2⟩ | ⟨y, p, m', h2, h3, h4, h5, h6⟩
  · have h2 : v = none := h2
    rw [h1, h2]
  · rw [nbx_fun] at h6
    have := lev_once (nxt h) s h0 h6
    omega
theorem goWalk_cons (p : Step) (l : List Step) {z : Stand} (hp : p ∈ steps h z) : goWalk h z (p :: l) = goWalk h (gone z p) l := by
  rw [goWalk, if_pos hp]
theorem back_at (w : World R k h) (o : Ok R k s) {m : Nat} {x : Stand} (hx : x ∈ (lev (nxt h) s m).2) : ∀ j, j ≤ m → (back (comeTo h s) j x).1 ∈ (lev (nxt h) s (m - j)).2 ∧ (back (comeTo h s) j x).2.length = j ∧ goWalk h (back (comeTo h s) j x).1 (back (comeTo h s) j x).2 = some x
  | 0, _ => ⟨hx, rfl, rfl⟩
  | j + 1, hj => by
    obtain ⟨h1, h2, h3⟩ := back_at w o hx j (by omega)
    rw [show m - j = (m - (j + 1)) + 1 by omega] at h1
    obtain ⟨y, p, e1, e2, e3, e4⟩ := parent w o h1
    have eb : back (comeTo h s) (j + 1) x = (y, p :: (back (comeTo h s) j x).2) := by rw [back, e1]
    rw [eb]
    refine ⟨e4, by simp [h2], ?_⟩
    show goWalk h y (p :: _) = some x
    rw [goWalk_cons _ _ e2, e3]
    exact h3
theorem back_all (w : World R k h) (o : Ok R k s) {m : Nat} {x : Stand} (hx : x ∈ (lev (nxt h) s m).2) : (back (comeTo h s) m x).1 = s ∧ (back (comeTo h s) m x).2.length = m ∧ goWalk h s (back (comeTo h s) m x).2 = some x := by
  obtain ⟨h1, h2, h3⟩ := back_at w o hx m (Nat.le_refl _)
  rw [Nat.sub_self] at h1
  have e : (back (comeTo h s) m x).1 = s := List.mem_singleton.mp h1
  rw [e] at h3
  exact ⟨e, h2, h3⟩
theorem lvl_small (w : World R k h) (o : Ok R k s) {m : Nat} {x : Stand} (hx : x ∈ (lev (nxt h) s m).2) : m < 19998 := by
  have h1 := lev_len (nxt h) s m fun j hj e => by
    have := lev_stop (nxt h) s e (m - j)
    rw [show j + (m - j) = m by omega] at this
    rw [this] at hx
    cases hx
  have h2 : (lev (nxt h) s m).1.length ≤ (univ R k).length := nodup_le (lev_nodup _ _ _) fun y hy => (mem_univ w.nd).mpr (by
    obtain ⟨j, _, p⟩ := (mem_found (nxt h) s).mp hy
    exact Path.inv (nxt h) s o (fun z oz y hy => nxt_ok w.ends oz y hy) p)
  have := w.ul
  omega
noncomputable def shortestS (h : House) (s : Stand) (wish : Wish) : Option (List Step) := ((reach h s).find? fun x => meets x wish).map fun x => (back (comeTo h s) (lvl h s x) x).2
theorem mem_lev (w : World R k h) (o : Ok R k s) {x : Stand} (hx : x ∈ reach h s) : ∃ m, x ∈ (lev (nxt h) s m).2 ∧ lvl h s x = m := by
  obtain ⟨n, p⟩ := (mem_reach w o).mp hx
  have : ∃ m, m ≤ n ∧ Path (nxt h) s m x ∧ ∀ j, j < m → ¬ Path (nxt h) s j x := by
    induction n using Nat.strongRecOn with
    | _ n ih =>
      by_cases q : ∃ j, j < n ∧ Path (nxt h) s j x
      · obtain ⟨j, hj, pj⟩ := q
        obtain ⟨m, h1, h2, h3⟩ := ih j hj pj
        exact ⟨m, by omega, h2, h3⟩
      · exact ⟨n, Nat.le_refl _, p, fun j hj pj => q ⟨j, hj, pj⟩⟩
  obtain ⟨m, _, h2, h3⟩ := this
  have hm := (mem_row (nxt h) s).mpr ⟨h2, h3⟩
  exact ⟨m, hm, lvl_of hm⟩
/-- none just where no stand that can be come to meets the wish -/
theorem shortest_none {wish : Wish} : shortestS h s wish = none ↔ ∀ x ∈ reach h s, meets x wish = false := by
  unfold shortestS
  rw [Option.map_eq_none_iff, List.find?_eq_none]
  simp
/-- .. else a walk to one, and none is shorter -/
theorem shortest_some (w : World R k h) (o : Ok R k s) {wish : Wish} {l : List Step} (e : shortestS h s wish = some l) : (∃ x, goWalk h s l = some x ∧ meets x wish = true ∧ x ∈ (lev (nxt h) s l.length).2) ∧ ∀ n y, Path (nxt h) s n y → meets y wish = true → l.length ≤ n := by
  unfold shortestS at e
  cases f : (reach h s).find? fun x => meets x wish with
  | none => rw [f] at e; cases e
  | some x =>
    rw [f] at e
    have e2 : (back (comeTo h s) (lvl h s x) x).2 = l := Option.some.inj e
    subst e2
    obtain ⟨m, h1, h2, h3⟩ := find_near (nxt h) s _ FUEL x f
    rw [lvl_of h2]
    obtain ⟨b1, b2, b3⟩ := back_all w o h2
    have hm : meets x wish = true := List.find?_some (p := fun x => meets x wish) f
    refine ⟨⟨x, b3, hm, by rw [b2]; exact h2⟩, fun n y p my => ?_⟩
    rw [b2]
    rcases Nat.lt_or_ge n m with q | q
    · obtain ⟨j, hj, ej⟩ := mem_lev w o ((mem_reach w o).mpr ⟨n, p⟩)
      have hjn : j ≤ n := by
        rcases Nat.lt_or_ge n j with z | z
        · exact absurd p (((mem_row (nxt h) s).mp hj).2 n z)
        · exact z
      have := h3 j (by omega) y hj
      rw [my] at this; cases this
    · exact q
end
end T
namespace W
open PySem PySem.Spec PyProof.Rows L2 QL T EV G
theorem isNot_P {α β : Type} {e : α → PyData} {f : β → PyData} (p : α × β) {M : Mem} : vIsNot (.dat (eP e f p)) (.dat .none) M = some (.dat (.bool true), M) := by
  simp [vIsNot, or2, vIsN, eP]
theorem isNot_n {M : Mem} : vIsNot (.dat .none) (.dat .none) M = some (.dat (.bool false), M) := rfl
theorem ins0 {l : List PyData} {d : PyData} {M : Mem} (h : l.length < LIM) : mInsert (.obj 0) [.dat (.int 0), .dat d] (.lst l :: M) = some (.dat .none, .lst (d :: l) :: M) := by
  unfold mInsert lstO
  simp [h]
section
variable {M : Mem} {h : House} {s : Stand} {R : List T.Room} {k : Nat}
abbrev eWalk : List T.Step → PyData := eL eSp
theorem f_shortest (w : T.World R k h) (o : Ok R k s) (wish : Wish) : F_shortest [.dat (eH h), .dat (eSt s), .dat (eW wish)] M = .ok (.dat (eO eWalk (shortestS h s wish))) M := by
  have hno : noObj (.dat (eO eWalk (shortestS h s wish))) = true := rfl
  refine pure_fn rfl rfl hno ?_
  refine rt_seq (ρ1 := [some (.dat (eH h)), some (.dat (eSt s)), some (.dat (eW wish)), some (.fdc (EV.eDc eSt eVC (comeTo h s))), none, none, none]) (M1 := []) (by simp [f_come_to w o]) ?_
  have hit : ∀ a4, iAny (eVar 3) [some (.dat (eH h)), some (.dat (eSt s)), some (.dat (eW wish)), some (.fdc (EV.eDc eSt eVC (comeTo h s))), a4, none, none] [] = .ok ⟨(reach h s).map eSt, []⟩ [] := fun a4 => by
    simp [dc_keys, keys_comeTo]
  unfold shortestS
  cases f : (reach h s).find? fun x => meets x wish with
  | none =>
    rw [List.find?_eq_none] at f
    rw [x_seq]
    refine bind_rt (for_dat (e := eSt) (reach h s) (fun pre ρ M => ∃ a4, ρ = [some (.dat (eH h)), some (.dat (eSt s)), some (.dat (eW wish)), some (.fdc (EV.eDc eSt eVC (comeTo h s))), a4, none, none] ∧ M = []) (hit _) ⟨_, rfl, rfl⟩ ?_) ?_
    · rintro pre x post hq ρ M ⟨a4, rfl, rfl⟩
      have hx : x ∈ reach h s := by rw [hq]; simp
      have := f x hx
      refine nx_intro (by
        simp [f_meets wish ((reach_ok w o hx).len1 w), this]
        rfl) ⟨_, rfl, rfl⟩
    · rintro ρ M ⟨a4, rfl, rfl⟩
      exact .of
  | some x =>
    obtain ⟨hm, as, bs, hq, hn⟩ := List.find?_eq_some_iff_append.mp f
    have hx : x ∈ reach h s := by rw [hq]; simp
    obtain ⟨m, h1, h2⟩ := mem_lev w o hx
    have hms := lvl_small w o h1
    rw [x_seq]
    refine rt_bind (for_ret (e := eSt) as x bs (fun pre ρ M => ∃ a4, ρ = [some (.dat (eH h)), some (.dat (eSt s)), some (.dat (eW wish)), some (.fdc (EV.eDc eSt eVC (comeTo h s))), a4, none, none] ∧ M = []) (by rw [← hq]; exact hit _) ⟨_, rfl, rfl⟩ ?_ ?_)
    · rintro pre y post hq2 ρ M ⟨a4, rfl, rfl⟩
      have hya : y ∈ as := by rw [hq2]; simp
      have hy : y ∈ reach h s := by rw [hq]; exact List.mem_append_left _ hya
      have := hn y hya
      rw [Bool.not_eq_true'] at this
      refine nx_intro (by
        simp [f_meets wish ((reach_ok w o hy).len1 w), this]
        rfl) ⟨_, rfl, rfl⟩
    · rintro ρ M ⟨a4, rfl, rfl⟩
      refine Rt.ev (by
        simp [f_meets wish ((reach_ok w o hx).len1 w), hm]
        rfl) ?_
      refine bind_rt (while_nx (fun j ρ M => ∃ a6, ρ = [some (.dat (eH h)), some (.dat (eSt s)), some (.dat (eW wish)), some (.fdc (EV.eDc eSt eVC (comeTo h s))), some (.dat (eSt (back (comeTo h s) j x).1)), some (.obj 0), a6] ∧ M = [.lst ((back (comeTo h s) j x).2.map eSp)]) m ?_ ?_ 20000 0 _ _ (Nat.zero_le _) (by omega) ⟨_, rfl, rfl⟩) ?_
      · rintro j ρ M hj ⟨a6, rfl, rfl⟩
        obtain ⟨g1, g2, g3⟩ := back_at w o h1 j hj
        by_cases q : j < m
        · rw [show m - j = (m - (j + 1)) + 1 by omega] at g1
          obtain ⟨y, p, e1, e2, e3, e4⟩ := parent w o g1
          have hv : vIxA (.fdc (EV.eDc eSt eVC (comeTo h s))) (.dat (eSt (back (comeTo h s) j x).1)) [.lst ((back (comeTo h s) j x).2.map eSp)] = some (.dat (eP eSt eSp (y, p)), [.lst ((back (comeTo h s) j x).2.map eSp)]) := ix_fdc (e := eSt) (f := eVC) e1
          simp [hv, isNot_P, q]
        · obtain rfl : j = m := by omega
          rw [Nat.sub_self] at g1
          have es : (back (comeTo h s) j x).1 = s := List.mem_singleton.mp g1
          have hv : vIxA (.fdc (EV.eDc eSt eVC (comeTo h s))) (.dat (eSt s)) [.lst ((back (comeTo h s) j x).2.map eSp)] = some (.dat .none, [.lst ((back (comeTo h s) j x).2.map eSp)]) := ix_fdc (e := eSt) (f := eVC) (start_none w o)
          simp [es, hv, isNot_n]
      · rintro j ρ M hj ⟨a6, rfl, rfl⟩
        obtain ⟨g1, g2, g3⟩ := back_at w o h1 j (by omega)
        rw [show m - j = (m - (j + 1)) + 1 by omega] at g1
        obtain ⟨y, p, e1, e2, e3, e4⟩ := parent w o g1
        have eb : back (comeTo h s) (j + 1) x = (y, p :: (back (comeTo h s) j x).2) := by rw [back, e1]
        have hv : vIxA (.fdc (EV.eDc eSt eVC (comeTo h s))) (.dat (eSt (back (comeTo h s) j x).1)) [.lst ((back (comeTo h s) j x).2.map eSp)] = some (.dat (eP eSt eSp (y, p)), [.lst ((back (comeTo h s) j x).2.map eSp)]) := ix_fdc (e := eSt) (f := eVC) e1
        rw [eb]
        refine nx_intro (by
          simp [hv, tyB_l0, ins0 (l := (back (comeTo h s) j x).2.map eSp) (by rw [List.length_map, g2]; unfold LIM; omega)]
          and_intros <;> rfl) ⟨_, rfl, by simp⟩
      · rintro ρ M ⟨a6, rfl, rfl⟩
        rw [Option.map_some, h2]
        refine Rt.ev (by simp; and_intros <;> rfl) .of
end
end W

set_option Elab.async false
set_option linter.all false
set_option maxRecDepth 100000
set_option maxHeartbeats 4000000
namespace T
open PySem G
/-! ### what can have been ahead -/
abbrev Pre := Stand × Step
abbrev ePre : Pre → PyData := eP eSt eSp
def preShut (s : Stand) (w : Way) : List Room := s.2.filter fun r => !decide (r = w.1)
def preMore (s : Stand) (i : Nat) (w : Way) : List (List Room) := if nth s.1 i ∈ after s (i, w.1) then [[]] else [[], [nth s.1 i]]
def preOne (s : Stand) (i : Nat) (w : Way) : List Pre := (preMore s i w).map fun more => ((after s (i, w.1), tsort eR (preShut s w ++ more)), (i, nth s.1 i))
def preAt (h : House) (s : Stand) (i : Nat) : List Pre := (h.filter fun w => decide (w.2.1 = nth s.1 i)).flatMap (preOne s i)
def maybeAhead (h : House) (s : Stand) : List Pre := (List.range s.1.length).flatMap (preAt h s)
def isAhead (h : House) (s : Stand) (q : Pre) : Bool := decide (q.2 ∈ steps h q.1) && decide (gone q.1 q.2 = s)
def stepAhead (h : House) (s : Stand) : List Pre := tsort ePre ((maybeAhead h s).filter (isAhead h s))
section
variable {R : List Room} {k : Nat} {h : House} {s : Stand}
theorem preOne_len (s : Stand) (i : Nat) (w : Way) : (preOne s i w).length ≤ 2 := by
  unfold preOne preMore
  rw [List.length_map]
  split <;> simp
theorem flat_le {α β : Type} {g : α → List β} {n : Nat} : ∀ {l : List α}, (∀ x ∈ l, (g x).length ≤ n) → (l.flatMap g).length ≤ l.length * n
  | [], _ => by simp
  | x :: xs, h => by
    have h1 := h x List.mem_cons_self
    have h2 := flat_le (l := xs) fun y hy => h y (List.mem_cons_of_mem _ hy)
    rw [List.flatMap_cons, List.length_append, List.length_cons, Nat.succ_mul]
    omega
theorem preAt_len (hh : h.length ≤ 1000) (s : Stand) (i : Nat) : (preAt h s i).length ≤ 2000 := by
  have h1 : (preAt h s i).length ≤ _ := flat_le (n := 2) fun w _ => preOne_len s i w
  have h2 := List.length_filter_le (fun w : Way => decide (w.2.1 = nth s.1 i)) h
  omega
theorem pre_ok (w : World R k h) (o : Ok R k s) {q : Pre} (hq : q ∈ maybeAhead h s) : q.2.1 < s.1.length ∧ Ok R k q.1 := by
  unfold maybeAhead at hq
  obtain ⟨i, hi, hq⟩ := List.mem_flatMap.mp hq
  rw [List.mem_range] at hi
  obtain ⟨x, hx, hq⟩ := List.mem_flatMap.mp hq
  obtain ⟨hx1, hx2⟩ := List.mem_filter.mp hx
  obtain ⟨more, hm, rfl⟩ := List.mem_map.mp hq
  have ea : after s (i, x.1) = s.1.set i x.1 := after_set hi
  refine ⟨hi, ?_⟩
  have hmm : more = [] ∨ (more = [nth s.1 i] ∧ nth s.1 i ∉ after s (i, x.1)) := by
    unfold preMore at hm
    split at hm
    · exact .inl (List.mem_singleton.mp hm)
    · rename_i hn
      rcases List.mem_cons.mp hm with hm | hm
      · exact .inl hm
      · exact .inr ⟨List.mem_singleton.mp hm, hn⟩
  have hg : nth s.1 i ∈ s.1 := nth_mem hi
  have hin : ∀ r, r ∈ preShut s x ++ more → (r ∈ s.2 ∧ r ≠ x.1) ∨ (r = nth s.1 i ∧ nth s.1 i ∉ after s (i, x.1)) := fun r hr => by
    rcases List.mem_append.mp hr with hr | hr
    · unfold preShut at hr
      obtain ⟨h1, h2⟩ := List.mem_filter.mp hr
      exact .inl ⟨h1, by simpa using h2⟩
    · rcases hmm with rfl | ⟨rfl, hn⟩
      · cases hr
      · exact .inr ⟨List.mem_singleton.mp hr, hn⟩
  refine ⟨?_, fun r hr => ?_, fun r hr => ?_, ?_, tsort_sorted _, fun r hr => ?_⟩
  · show (after s (i, x.1)).length = k
    rw [ea, List.length_set, o.len]
  · have hr : r ∈ after s (i, x.1) := hr
    rw [ea] at hr
    rcases List.mem_or_eq_of_mem_set hr with hr | hr
    · exact o.pl r hr
    · exact hr ▸ (w.ends x hx1).1
  · rcases hin r (mem_tsort.mp hr) with h1 | h1
    · exact o.sh r h1.1
    · rw [h1.1]; exact o.pl _ hg
  · show (tsort eR _).Nodup
    rw [tsort_nodup]
    refine List.nodup_append.mpr ⟨o.nd.sublist List.filter_sublist, ?_, fun a ha b hb e => ?_⟩
    · rcases hmm with rfl | ⟨rfl, _⟩ <;> simp
    · subst e
      rcases hmm with rfl | ⟨rfl, _⟩
      · cases hb
      · obtain rfl := List.mem_singleton.mp hb
        exact o.dis _ (List.mem_filter.mp ha).1 hg
  · show r ∉ after s (i, x.1)
    rcases hin r (mem_tsort.mp hr) with h1 | h1
    · rw [ea, shut_set (p := (i, x.1)) o hi h1.1]; exact h1.2
    · rw [h1.1]; exact h1.2
end
end T

set_option Elab.async false
set_option linter.all false
set_option maxRecDepth 100000
set_option maxHeartbeats 4000000
namespace W
open PySem PySem.Spec PyProof.Rows L2 QL T EV G
section
variable {M : Mem} {h : House} {s : Stand} {R : List T.Room} {k : Nat}
theorem enum_range (l : List T.Room) : l.zipIdx.map (fun p => (p.2, p.1)) = (List.range l.length).map fun i => (i, nth l i) := swap_range l
theorem preAt_snoc (pre : List Way) (w : Way) (s : Stand) (i : Nat) : preAt (pre ++ [w]) s i = preAt pre s i ++ (if w.2.1 = nth s.1 i then preOne s i w else []) := by
  unfold preAt
  rw [List.filter_append, List.flatMap_append]
  by_cases q : w.2.1 = nth s.1 i <;> simp [q]
theorem f_maybe_ahead (w : T.World R k h) (o : Ok R k s) : F_maybe_ahead [.dat (eH h), .dat (eSt s)] M = .ok (.dat (.list ((maybeAhead h s).map ePre))) M := by
  have hs := o.len1 w
  have hs2 := o.len2 w
  have hh := w.hl
  refine pure_fn rfl rfl rfl ?_
  refine rt_seq (ρ1 := [some (.dat (eH h)), some (.dat (eSt s)), some (.dat (eT eR s.1)), some (.dat (eT eR s.2)), none, none, none, none, none, none, none, none, none, none]) (M1 := []) (by simp) ?_
  refine rt_seq (ρ1 := [some (.dat (eH h)), some (.dat (eSt s)), some (.dat (eT eR s.1)), some (.dat (eT eR s.2)), some (.obj 0), none, none, none, none, none, none, none, none, none]) (M1 := [.lst []]) (by simp) ?_
  rw [x_seq]
  refine bind_rt (for_dat (e := eP eN eR) ((List.range s.1.length).map fun i => (i, nth s.1 i)) (fun pre ρ M => ∃ a b c d e f g x y, ρ = [some (.dat (eH h)), some (.dat (eSt s)), some (.dat (eT eR s.1)), some (.dat (eT eR s.2)), some (.obj 0), a, b, c, d, e, f, g, x, y] ∧ M = [.lst ((pre.flatMap fun p => preAt h s p.1).map ePre)]) (by simp [enum_map, enum_range]) ⟨_, _, _, _, _, _, _, _, _, rfl, rfl⟩ ?_) ?_
  · rintro p x q hq ρ M ⟨a, b, c, d, e, f, g, x', y, rfl, rfl⟩
    have hxm : x ∈ (List.range s.1.length).map fun i => (i, nth s.1 i) := by rw [hq]; simp
    obtain ⟨i, hi, rfl⟩ := List.mem_map.mp hxm
    rw [List.mem_range] at hi
    have hpl : p.length ≤ 100 := by
      have := congrArg List.length hq
      simp at this
      omega
    have l1 : (p.flatMap fun p => preAt h s p.1).length ≤ 200000 := by
      have := flat_le (l := p) (g := fun p => preAt h s p.1) (n := 2000) fun y _ => preAt_len hh s y.1
      omega
    refine Nx.ev (by simp; rfl) ?_
    refine Nx.mono (for_dat (e := eWay) h (fun pre ρ M => ∃ c d e f g x y, ρ = [some (.dat (eH h)), some (.dat (eSt s)), some (.dat (eT eR s.1)), some (.dat (eT eR s.2)), some (.obj 0), some (.dat (eN i)), some (.dat (eR (nth s.1 i))), c, d, e, f, g, x, y] ∧ M = [.lst ((p.flatMap (fun p => preAt h s p.1) ++ preAt pre s i).map ePre)]) (by simp) ⟨_, _, _, _, _, _, _, rfl, by simp [preAt]⟩ ?_) ?_
    · rintro p' w' q' hq' ρ M ⟨c, d, e, f, g, x', y, rfl, rfl⟩
      have l2 : (preAt p' s i).length ≤ 2000 := preAt_len (by
        have := congrArg List.length hq'
        simp at this
        omega) s i
      rw [preAt_snoc, ← List.append_assoc]
      generalize hacc : p.flatMap (fun p => preAt h s p.1) ++ preAt p' s i = acc
      have lacc : acc.length ≤ 202000 := by
          rw [← hacc, List.length_append]; omega
      by_cases q1 : w'.2.1 = nth s.1 i
      · rw [if_pos q1]
        refine Nx.ev (by simp [-x_seq, eq_d (e := eR), q1]; rfl) ?_
        have c1 := catT (e := eR) (M := [.lst (acc.map ePre)]) (l := s.1.take i) (r := [w'.1]) (by simp; unfold LIM; omega)
        have c2 := catT (e := eR) (M := [.lst (acc.map ePre)]) (l := s.1.take i ++ [w'.1]) (r := s.1.drop (i + 1)) (by simp; unfold LIM; omega)
        have e1 : after s (i, w'.1) = s.1.take i ++ [w'.1] ++ s.1.drop (i + 1) := rfl
        rw [← e1] at c2
        refine nx_seq (ρ1 := [some (.dat (eH h)), some (.dat (eSt s)), some (.dat (eT eR s.1)), some (.dat (eT eR s.2)), some (.obj 0), some (.dat (eN i)), some (.dat (eR (nth s.1 i))), some (.dat (eR w'.1)), some (.dat (eR (nth s.1 i))), some (.dat (T.eB w'.2.2)), some (.dat (eT eR (after s (i, w'.1)))), g, x', y]) (M1 := [.lst (acc.map ePre)]) (by
          simp [tup1 eR, slT_to, slT_from1, c1, c2]) ?_
        refine nx_seq (ρ1 := [some (.dat (eH h)), some (.dat (eSt s)), some (.dat (eT eR s.1)), some (.dat (eT eR s.2)), some (.obj 0), some (.dat (eN i)), some (.dat (eR (nth s.1 i))), some (.dat (eR w'.1)), some (.dat (eR (nth s.1 i))), some (.dat (T.eB w'.2.2)), some (.dat (eT eR (after s (i, w'.1)))), some (.dat (.list ((preShut s w').map eR))), x', y]) (M1 := [.lst (acc.map ePre)]) (by
          rw [x_set, lc_dat (e := eR) s.2 (fun r => !decide (r = w'.1)) eR (by simp) (by unfold LIM; omega) (fun r _ => ⟨_, rfl, by simp [ne_d (e := eR)], fun _ => by simp⟩)]
          simp [preShut]) ?_
        have lsh : (preShut s w').length ≤ 100 := Nat.le_trans (List.length_filter_le _ _) hs2
        refine Nx.mono (for_dat (e := eL eR) (preMore s i w') (fun pre ρ M => ∃ x y, ρ = [some (.dat (eH h)), some (.dat (eSt s)), some (.dat (eT eR s.1)), some (.dat (eT eR s.2)), some (.obj 0), some (.dat (eN i)), some (.dat (eR (nth s.1 i))), some (.dat (eR w'.1)), some (.dat (eR (nth s.1 i))), some (.dat (T.eB w'.2.2)), some (.dat (eT eR (after s (i, w'.1)))), some (.dat (.list ((preShut s w').map eR))), x, y] ∧ M = [.lst ((acc ++ pre.map fun more => ((after s (i, w'.1), tsort eR (preShut s w' ++ more)), (i, nth s.1 i))).map ePre)]) ?_ ⟨_, _, rfl, by simp⟩ ?_) ?_
        · unfold preMore
          by_cases q2 : nth s.1 i ∈ after s (i, w'.1)
          · rw [if_pos q2]
            simp [inT (e := eR), q2]
            rfl
          · rw [if_neg q2]
            simp [inT (e := eR), q2]
            rfl
        · rintro p2 m2 r2 hq2 ρ M ⟨x2, y2, rfl, rfl⟩
          have hm2 : m2.length ≤ 1 := by
            have : m2 ∈ preMore s i w' := by rw [hq2]; simp
            unfold preMore at this
            split at this
            · rw [List.mem_singleton.mp this]; simp
            · rcases List.mem_cons.mp this with e | e
              · rw [e]; simp
              · rw [List.mem_singleton.mp e]; simp
          have hp2 : p2.length ≤ 2 := by
            have h1 := congrArg List.length hq2
            have h2 : (preMore s i w').length ≤ 2 := by unfold preMore; split <;> simp
            simp at h1
            omega
          generalize hacc2 : acc ++ p2.map (fun more => ((after s (i, w'.1), tsort eR (preShut s w' ++ more)), (i, nth s.1 i))) = acc2
          have lacc2 : (acc2.map ePre).length < LIM := by
            rw [List.length_map, ← hacc2, List.length_append, List.length_map]; unfold LIM; omega
          have c3 := catL (e := eR) (M := [.lst (acc2.map ePre)]) (l := preShut s w') (r := m2) (by unfold LIM; omega)
          refine nx_intro (by
            simp [-List.map_append, tyB_l0, tup2 (eT eR) (eT eR), tup2 eN eR, tup2 eSt eSp, eL, c3, sort_L (e := eR), app0 lacc2]
            and_intros <;> rfl) ⟨_, _, rfl, by simp [← hacc2]⟩
        · rintro ρ M ⟨x2, y2, rfl, rfl⟩
          refine ⟨_, _, _, _, _, _, _, rfl, ?_⟩
          simp [preOne]
      · rw [if_neg q1]
        refine nx_intro (by simp [eq_d (e := eR), q1]; and_intros <;> rfl) ⟨_, _, _, _, _, _, _, rfl, by simp⟩
    · rintro ρ M ⟨c, d, e, f, g, x', y, rfl, rfl⟩
      exact ⟨_, _, _, _, _, _, _, _, _, rfl, by simp⟩
  · rintro ρ M ⟨a, b, c, d, e, f, g, x', y, rfl, rfl⟩
    have : ((List.range s.1.length).map fun i => (i, nth s.1 i)).flatMap (fun p => preAt h s p.1) = maybeAhead h s := by
      rw [List.flatMap_map]; rfl
    rw [this]
    exact Rt.ev (by simp; and_intros <;> rfl) .of
theorem whole_N (n : Nat) : F_is_whole [.dat (eN n)] M = .ok (.dat (.bool true)) M := by
  refine pure_fn rfl rfl rfl ?_
  refine Rt.ev (by simp [m_is_whole]; rfl) .of
theorem f_is_step (w : T.World R k h) (o : Ok R k s) (p : T.Step) : F_is_step [.dat (eH h), .dat (eSt s), .dat (eSp p)] M = .ok (.dat (.bool (decide (p ∈ steps h s)))) M := by
  refine pure_fn rfl rfl rfl ?_
  have hl : vLen (.dat (eSp p)) [] = some (.dat (.int 2), []) := rfl
  have ht : (vIsi PyData.isTuple) (.dat (eSp p)) [] = some (.dat (.bool true), []) := rfl
  have hne : vNe (.dat (.int 2)) (.dat (.int 2)) [] = some (.dat (.bool false), []) := rfl
  have hstr : (vIsi PyData.isStr) (.dat (eR p.2)) [] = some (.dat (.bool true), []) := rfl
  refine Rt.ev (by
    simp [m_is_step, hl, ht, hne, hstr, whole_N, f_steps w.hl (o.len1 w), inL (e := eSp)]
    rfl) .of
theorem f_step_ahead (w : T.World R k h) (o : Ok R k s) : F_step_ahead [.dat (eH h), .dat (eSt s)] M = .ok (.dat (.list ((stepAhead h s).map ePre))) M := by
  refine pure_fn rfl rfl rfl ?_
  have hl : (maybeAhead h s).length ≤ 200000 := by
    unfold maybeAhead
    have := flat_le (l := List.range s.1.length) (g := preAt h s) (n := 2000) fun i _ => preAt_len w.hl s i
    have := o.len1 w
    rw [List.length_range] at *
    omega
  unfold m_step_ahead stepAhead
  refine Rt.ev (by
    simp
    rewrite [lc_dat (e := ePre) (maybeAhead h s) (isAhead h s) ePre (by simp [f_maybe_ahead w o]) (by unfold LIM; omega) (fun q hq => by
      obtain ⟨h1, h2⟩ := pre_ok w o hq
      refine ⟨_, rfl, ?_, fun _ => by simp [setMany, tup2 eSt eSp]⟩
      by_cases q1 : q.2 ∈ steps h q.1
      · have h3 := (step_ok w.ends h2 q1).1
        simp [setMany, f_is_step w h2, q1, f_gone (h2.len1 w) (h2.len2 w) h3, eq_d (e := eSt), isAhead]
      · simp [setMany, f_is_step w h2, q1, isAhead])]
    simp [sort_L (e := ePre)]
    rfl) .of
end
end W

set_option Elab.async false
set_option linter.all false
set_option maxRecDepth 100000
set_option maxHeartbeats 4000000
namespace EV
open PySem QL T G
section
variable {α β γ : Type} {e : α → PyData} {f : β → PyData} {M : Mem}
theorem way3b (p : α × β) (v : Bool) : vAdd (.dat (eP e f p)) (.dat (.tuple [.bool v])) M = some (.dat (eT3 e f T.eB (p.1, p.2, v)), M) := way3 (g := T.eB) p v
theorem sl5 (ns : List Int) : vSl (.dat (.list (ns.map PyData.int))) none (some 5) M = some (.dat (.list ((ns.take 5).map PyData.int)), M) := slL_to (e := PyData.int) ns 5
theorem cells (ns : List Int) (h : ns.length ≤ 100) : vAdd (.dat (.list [.int 0])) (.dat (.list (ns.map PyData.int))) M = some (.dat (.list ((0 :: ns).map PyData.int)), M) := catL (e := PyData.int) (l := [0]) (r := ns) (by simp only [List.length_singleton]; unfold LIM; omega)
end
end EV
namespace W
open PySem PySem.Spec PyProof.Rows L2 QL T EV G
theorem DK_self (M : Mem) (b a c : Int) : DK (M ++ [dk a b c]) M.length b a c = M ++ [dk a b c] := by
  unfold DK
  rw [List.set_append_right _ _ (Nat.le_refl _), Nat.sub_self]
  rfl
theorem deckAt_new {M : Mem} (hM : Clo M) (a x c : Int) : DeckAt (M ++ [dk a (x % 2147483579) c]) M.length (x % 2147483579) := ⟨hM.app rfl, by simp, Int.emod_nonneg _ (by decide), Int.emod_lt_of_pos _ (by decide)⟩
theorem law_start {N : Nat} {m : EvS} {ns : List Int} (h : Ret (m ([some (.dat (.list (ns.map .int)))] ++ List.replicate (N - 1) none) []) fun c _ => c = .dat (.bool true)) : ∃ M', fnRes N 1 m [.dat (.list (ns.map .int))] [] = .ok (.dat (.bool true)) M' := by
  obtain ⟨c, M', e, rfl⟩ := h
  refine ⟨[], ?_⟩
  unfold fnRes
  rw [if_pos (show [Cell.dat (PyData.list (ns.map PyData.int))].length = 1 from rfl)]
  simp only [List.map_cons, List.map_nil]
  rw [e]
  simp [topC, cutM]
end W

set_option Elab.async false
set_option linter.all false
set_option maxRecDepth 100000
set_option maxHeartbeats 4000000
namespace T
open PySem G
/-! ### walkers in another order -/
def turn {α : Type} [Inhabited α] (row : List Nat) (l : List α) : List α := row.map (nth l)
def sigma (row : List Nat) (s : Stand) : Stand := (turn row s.1, s.2)
def tau (row : List Nat) (p : Step) : Step := (row.idxOf p.1, p.2)
theorem flatMap_congr2 {α β : Type} {f g : α → List β} : ∀ {l : List α}, (∀ x ∈ l, f x = g x) → l.flatMap f = l.flatMap g
  | [], _ => rfl
  | x :: xs, h => by rw [List.flatMap_cons, List.flatMap_cons, h x List.mem_cons_self, flatMap_congr2 fun y hy => h y (List.mem_cons_of_mem _ hy)]
theorem nth_set_ne {α : Type} [Inhabited α] {l : List α} {i j : Nat} {x : α} (h : i ≠ j) : nth (l.set i x) j = nth l j := by
  unfold nth
  rw [List.getD_eq_getElem?_getD, List.getD_eq_getElem?_getD, List.getElem?_set_ne h]
/-- an order of the walkers -/
structure Row (k : Nat) (row : List Nat) : Prop where
  p : row.Perm (List.range k)
section
variable {k : Nat} {row : List Nat}
theorem Row.len (r : Row k row) : row.length = k := by rw [r.p.length_eq, List.length_range]
theorem Row.mem (r : Row k row) {i : Nat} : i ∈ row ↔ i < k := by rw [r.p.mem_iff, List.mem_range]
theorem Row.nd (r : Row k row) : row.Nodup := r.p.nodup_iff.mpr List.nodup_range
theorem Row.idx_lt (r : Row k row) {i : Nat} (h : i < k) : row.idxOf i < k := by
  have := List.idxOf_lt_length_of_mem (r.mem.mpr h)
  rw [r.len] at this; exact this
theorem nth_eq {α : Type} [Inhabited α] {l : List α} {i : Nat} (h : i < l.length) : nth l i = l[i] := by
  unfold nth
  rw [List.getD_eq_getElem?_getD, List.getElem?_eq_getElem h]; rfl
theorem Row.at_idx (r : Row k row) {i : Nat} (h : i < k) : nth row (row.idxOf i) = i := by
  have hl := List.idxOf_lt_length_of_mem (r.mem.mpr h)
  rw [nth_eq hl]
  exact List.getElem_idxOf hl
theorem Row.idx_at (r : Row k row) {j : Nat} (h : j < k) : row.idxOf (nth row j) = j := by
  have hl : j < row.length := by rw [r.len]; exact h
  rw [nth_eq hl]
  exact r.nd.idxOf_getElem j hl
theorem Row.lt (r : Row k row) {j : Nat} (h : j < k) : nth row j < k := r.mem.mp (nth_mem (by rw [r.len]; exact h))
theorem Row.eqv (r : Row k row) {i j : Nat} (hi : i < k) (hj : j < k) : row.idxOf i = j ↔ nth row j = i := ⟨fun h => h ▸ r.at_idx hi, fun h => h ▸ r.idx_at hj⟩
theorem map_nth {α : Type} [Inhabited α] (l : List α) : (List.range l.length).map (nth l) = l := by
  refine List.ext_getElem? fun i => ?_
  rw [List.getElem?_map]
  by_cases hi : i < l.length
  · rw [List.getElem?_range hi, nth_get hi]; rfl
  · rw [List.getElem?_eq_none (by simp; omega), List.getElem?_eq_none (by omega)]; rfl
theorem turn_len {α : Type} [Inhabited α] (r : Row k row) (l : List α) : (turn row l).length = k := by
  unfold turn; rw [List.length_map, r.len]
theorem nth_turn {α : Type} [Inhabited α] (r : Row k row) (l : List α) {j : Nat} (h : j < k) : nth (turn row l) j = nth l (nth row j) := by
  have hl : j < row.length := by rw [r.len]; exact h
  refine nth_of ?_
  unfold turn
  rw [List.getElem?_map, nth_get hl]; rfl
theorem mem_turn {α : Type} [Inhabited α] (r : Row k row) {l : List α} (hl : l.length = k) {x : α} : x ∈ turn row l ↔ x ∈ l := by
  have e : (turn row l).Perm l := by
    unfold turn
    have h1 := r.p.map (nth l)
    rw [← hl, map_nth] at h1
    exact h1
  exact e.mem_iff
/-- rows over the walkers, told in another order -/
theorem perm_turn {β : Type} (r : Row k row) (F : Nat → Nat → List β) : ((List.range k).flatMap fun i => F i (row.idxOf i)).Perm ((List.range k).flatMap fun j => F (nth row j) j) := by
  have h1 : ((List.range k).flatMap fun i => F i (row.idxOf i)).Perm (row.flatMap fun i => F i (row.idxOf i)) := r.p.symm.flatMap_right _
  have hg : ∀ G : Nat → List β, row.flatMap G = (List.range k).flatMap fun j => G (nth row j) := fun G => by
    conv => lhs; rw [← map_nth row, r.len]
    rw [List.flatMap_map]
  have h2 : (row.flatMap fun i => F i (row.idxOf i)) = (List.range k).flatMap fun j => F (nth row j) j := by
    rw [hg]
    exact flatMap_congr2 fun j hj => by rw [r.idx_at (List.mem_range.mp hj)]
  exact h2 ▸ h1
def part (h : House) (d : List Room) (a : Room) : List Room := (h.filter fun w => decide (w.1 = a) && (!decide (w.2.1 ∈ d) || w.2.2)).map (·.2.1)
theorem stepsBy_range (h : House) (s : Stand) : stepsBy canGo h s = (List.range s.1.length).flatMap fun i => (part h s.2 (nth s.1 i)).map fun x => (i, x) := by
  unfold stepsBy part
  have e : s.1.zipIdx = (List.range s.1.length).map fun i => (nth s.1 i, i) := by
    have := W.swap_range s.1
    have h2 := congrArg (List.map fun p : Nat × Room => (p.2, p.1)) this
    rw [List.map_map, List.map_map] at h2
    have e1 : ((fun p : Nat × Room => (p.2, p.1)) ∘ fun p : Room × Nat => (p.2, p.1)) = id := rfl
    rw [e1, List.map_id] at h2
    exact h2
  rw [e, List.flatMap_map]
  refine flatMap_congr2 fun i _ => ?_
  rw [List.map_map]
  rfl
variable {h : House} {s : Stand} {R : List Room}
theorem steps_turn (r : Row k row) (hs : s.1.length = k) : steps h (sigma row s) = tsort eSp ((steps h s).map (tau row)) := by
  unfold steps
  have p1 : ((tsort eSp (stepsBy canGo h s)).map (tau row)).Perm ((stepsBy canGo h s).map (tau row)) := (tsort_perm _).map _
  rw [tsort_eq (e := eSp) p1]
  refine tsort_eq (e := eSp) ?_
  rw [stepsBy_range, stepsBy_range, List.map_flatMap, hs]
  have e1 : (sigma row s).1.length = k := turn_len r _
  rw [e1]
  have := perm_turn r fun i j => (part h s.2 (nth s.1 i)).map fun x => ((j, x) : Step)
  refine (List.Perm.symm ?_)
  refine List.Perm.trans (List.Perm.of_eq ?_) (this.trans (List.Perm.of_eq ?_))
  · refine flatMap_congr2 fun i _ => ?_
    rw [List.map_map]; rfl
  · refine flatMap_congr2 fun j hj => ?_
    show _ = (part h s.2 (nth (turn row s.1) j)).map _
    rw [nth_turn r _ (List.mem_range.mp hj)]
theorem mem_steps_turn (r : Row k row) (hs : s.1.length = k) {q : Step} : q ∈ steps h (sigma row s) ↔ ∃ p ∈ steps h s, tau row p = q := by
  rw [steps_turn r hs, mem_tsort, List.mem_map]
theorem turn_set {α : Type} [Inhabited α] (r : Row k row) {l : List α} (hl : l.length = k) {i : Nat} (hi : i < k) (x : α) : turn row (l.set i x) = (turn row l).set (row.idxOf i) x := by
  refine List.ext_getElem? fun j => ?_
  by_cases hj : j < k
  · rw [nth_get (by rw [turn_len r]; exact hj), nth_turn r _ hj]
    by_cases e : row.idxOf i = j
    · have e2 := (r.eqv hi hj).mp e
      rw [e, List.getElem?_set_self (by rw [turn_len r]; exact hj), e2]
      rw [nth_of (List.getElem?_set_self (by omega))]
    · rw [List.getElem?_set_ne e, nth_get (by rw [turn_len r]; exact hj), nth_turn r _ hj]
      have e2 : i ≠ nth row j := fun z => e ((r.eqv hi hj).mpr z.symm)
      rw [nth_set_ne e2]
  · rw [List.getElem?_eq_none (by rw [turn_len r]; omega), List.getElem?_eq_none (by rw [List.length_set, turn_len r]; omega)]
theorem gone_turn (r : Row k row) (hs : s.1.length = k) {p : Step} (hp : p.1 < k) : gone (sigma row s) (tau row p) = sigma row (gone s p) := by
  have hb := r.idx_lt hp
  have e1 : after (sigma row s) (tau row p) = turn row (after s p) := by
    rw [after_set (by show row.idxOf p.1 < (turn row s.1).length; rw [turn_len r]; exact hb), after_set (by rw [hs]; exact hp), turn_set r hs hp]
    rfl
  have e2 : nth (sigma row s).1 (tau row p).1 = nth s.1 p.1 := by
    show nth (turn row s.1) (row.idxOf p.1) = _
    rw [nth_turn r _ hb, r.at_idx hp]
  have e3 : (after s p).length = k := by rw [after_set (by rw [hs]; exact hp), List.length_set, hs]
  unfold gone
  rw [e1, e2]
  show (turn row (after s p), tsort eR ((s.2.filter fun x => !decide (x = p.2)) ++ (if nth s.1 p.1 ∈ turn row (after s p) then [] else [nth s.1 p.1]))) = (turn row (after s p), tsort eR ((s.2.filter fun x => !decide (x = p.2)) ++ (if nth s.1 p.1 ∈ after s p then [] else [nth s.1 p.1])))
  simp only [mem_turn r e3]
theorem ok_turn (r : Row k row) (o : Ok R k s) : Ok R k (sigma row s) := ⟨turn_len r _, fun x hx => o.pl x ((mem_turn r o.len).mp hx), o.sh, o.nd, o.srt, fun x hx hy => o.dis x hx ((mem_turn r o.len).mp hy)⟩
theorem meets_iff {w : Wish} (hs : s.1.length = k) (hw : w.length = k) : meets s w = true ↔ ∀ i, i < k → nth w i = none ∨ nth w i = some (nth s.1 i) := by
  unfold meets
  rw [List.all_eq_true]
  constructor
  · intro h i hi
    have := h (nth s.1 i, nth w i) (by
      refine List.mem_of_getElem? (i := i) ?_
      rw [List.getElem?_zip_eq_some]
      exact ⟨nth_get (by omega), nth_get (by omega)⟩)
    simpa using this
  · rintro h ⟨a, b⟩ hm
    obtain ⟨i, hi⟩ := List.getElem?_of_mem hm
    rw [List.getElem?_zip_eq_some] at hi
    have h1 := nth_of hi.1
    have h2 := nth_of hi.2
    have hl : i < k := by
      have := (List.getElem?_eq_some_iff.mp hi.1).1
      omega
    have := h i hl
    rw [h1, h2] at this
    simpa using this
theorem meets_turn (r : Row k row) (hs : s.1.length = k) {w : Wish} (hw : w.length = k) : meets (sigma row s) (turn row w) = meets s w := by
  rw [Bool.eq_iff_iff, meets_iff (s := sigma row s) (turn_len r _) (turn_len r _), meets_iff hs hw]
  constructor
  · intro h i hi
    have := h _ (r.idx_lt hi)
    rw [nth_turn r _ (r.idx_lt hi), show (sigma row s).1 = turn row s.1 from rfl, nth_turn r _ (r.idx_lt hi), r.at_idx hi] at this
    exact this
  · intro h j hj
    rw [nth_turn r _ hj, show (sigma row s).1 = turn row s.1 from rfl, nth_turn r _ hj]
    exact h _ (r.lt hj)
theorem nxt_turn (w : World R k h) (r : Row k row) (o : Ok R k s) {y : Stand} : y ∈ nxt h (sigma row s) ↔ ∃ x ∈ nxt h s, sigma row x = y := by
  unfold nxt
  rw [List.mem_map]
  constructor
  · rintro ⟨q, hq, rfl⟩
    obtain ⟨p, hp, rfl⟩ := (mem_steps_turn r o.len).mp hq
    refine ⟨gone s p, List.mem_map.mpr ⟨p, hp, rfl⟩, ?_⟩
    rw [gone_turn r o.len (by have := (step_ok w.ends o hp).1; rw [o.len] at this; exact this)]
  · rintro ⟨x, hx, rfl⟩
    obtain ⟨p, hp, rfl⟩ := List.mem_map.mp hx
    refine ⟨tau row p, (mem_steps_turn r o.len).mpr ⟨p, hp, rfl⟩, ?_⟩
    rw [gone_turn r o.len (by have := (step_ok w.ends o hp).1; rw [o.len] at this; exact this)]
end
end T

set_option Elab.async false
set_option linter.all false
set_option maxRecDepth 100000
set_option maxHeartbeats 4000000
namespace T
open PySem G
/-! ### two wings apart -/
def comb (a b : Stand) : Stand := (a.1 ++ b.1, tsort eR (a.2 ++ b.2))
def shift (k : Nat) (p : Step) : Step := (p.1 + k, p.2)
structure Wings (R1 R2 : List Room) (h1 h2 : House) : Prop where
  e1 : Ends R1 h1
  e2 : Ends R2 h2
  dis : ∀ r ∈ R1, r ∉ R2
theorem nth_app1 {α : Type} [Inhabited α] {l m : List α} {i : Nat} (h : i < l.length) : nth (l ++ m) i = nth l i := by
  unfold nth
  rw [List.getD_eq_getElem?_getD, List.getD_eq_getElem?_getD, List.getElem?_append_left h]
theorem nth_app2 {α : Type} [Inhabited α] {l m : List α} {i : Nat} : nth (l ++ m) (i + l.length) = nth m i := by
  unfold nth
  rw [List.getD_eq_getElem?_getD, List.getD_eq_getElem?_getD, List.getElem?_append_right (by omega)]
  rw [Nat.add_sub_cancel]
section
variable {R1 R2 : List Room} {k1 k2 : Nat} {h1 h2 : House} {a b x y : Stand}
theorem wings_ends (W : Wings R1 R2 h1 h2) : Ends (R1 ++ R2) (h1 ++ h2) := fun w hw => by
  rcases List.mem_append.mp hw with hw | hw
  · exact ⟨List.mem_append_left _ (W.e1 w hw).1, List.mem_append_left _ (W.e1 w hw).2⟩
  · exact ⟨List.mem_append_right _ (W.e2 w hw).1, List.mem_append_right _ (W.e2 w hw).2⟩
theorem comb_ok (W : Wings R1 R2 h1 h2) (oa : Ok R1 k1 a) (ob : Ok R2 k2 b) : Ok (R1 ++ R2) (k1 + k2) (comb a b) := by
  have d := W.dis
  refine ⟨by show (a.1 ++ b.1).length = _; rw [List.length_append, oa.len, ob.len], fun r hr => ?_, fun r hr => ?_, ?_, tsort_sorted _, fun r hr hp => ?_⟩
  · rcases List.mem_append.mp hr with h | h
    · exact List.mem_append_left _ (oa.pl r h)
    · exact List.mem_append_right _ (ob.pl r h)
  · rcases List.mem_append.mp (mem_tsort.mp hr) with h | h
    · exact List.mem_append_left _ (oa.sh r h)
    · exact List.mem_append_right _ (ob.sh r h)
  · show (tsort eR (a.2 ++ b.2)).Nodup
    rw [tsort_nodup]
    exact List.nodup_append.mpr ⟨oa.nd, ob.nd, fun u hu v hv e => d u (oa.sh u hu) (e ▸ ob.sh v hv)⟩
  · rcases List.mem_append.mp (mem_tsort.mp hr) with h | h
    · rcases List.mem_append.mp hp with g | g
      · exact oa.dis r h g
      · exact d r (oa.sh r h) (ob.pl r g)
    · rcases List.mem_append.mp hp with g | g
      · exact d r (oa.pl r g) (ob.sh r h)
      · exact ob.dis r h g
theorem can_comb1 (W : Wings R1 R2 h1 h2) (ob : Ok R2 k2 b) {w : Way} (hw : w.2.1 ∈ R1) : canGo (comb a b) w = canGo a w := by
  unfold canGo comb
  have : w.2.1 ∈ tsort eR (a.2 ++ b.2) ↔ w.2.1 ∈ a.2 := by
    rw [mem_tsort, List.mem_append]
    exact ⟨fun h => h.elim id fun g => absurd (ob.sh _ g) (W.dis _ hw), .inl⟩
  simp only [this]
theorem can_comb2 (W : Wings R1 R2 h1 h2) (oa : Ok R1 k1 a) {w : Way} (hw : w.2.1 ∈ R2) : canGo (comb a b) w = canGo b w := by
  unfold canGo comb
  have : w.2.1 ∈ tsort eR (a.2 ++ b.2) ↔ w.2.1 ∈ b.2 := by
    rw [mem_tsort, List.mem_append]
    exact ⟨fun h => h.elim (fun g => absurd hw (W.dis _ (oa.sh _ g))) id, .inr⟩
  simp only [this]
theorem steps_comb (W : Wings R1 R2 h1 h2) (oa : Ok R1 k1 a) (ob : Ok R2 k2 b) {p : Step} : p ∈ steps (h1 ++ h2) (comb a b) ↔ p ∈ steps h1 a ∨ ∃ q ∈ steps h2 b, shift k1 q = p := by
  have el : (comb a b).1.length = k1 + k2 := (comb_ok W oa ob).len
  rw [mem_steps, el]
  constructor
  · rintro ⟨hp, w, hw, e1, e2, e3⟩
    by_cases q : p.1 < k1
    · have en : nth (comb a b).1 p.1 = nth a.1 p.1 := nth_app1 (by rw [oa.len]; exact q)
      rw [en] at e1
      have hin : nth a.1 p.1 ∈ R1 := oa.pl _ (nth_mem (by rw [oa.len]; exact q))
      rcases List.mem_append.mp hw with hw | hw
      · rw [can_comb1 W ob (W.e1 w hw).2] at e3
        exact .inl (mem_steps.mpr ⟨by rw [oa.len]; exact q, w, hw, e1, e2, e3⟩)
      · exact absurd (e1 ▸ (W.e2 w hw).1) (W.dis _ hin)
    · have ep : p.1 = (p.1 - k1) + a.1.length := by rw [oa.len]; omega
      have en : nth (comb a b).1 p.1 = nth b.1 (p.1 - k1) := by
        conv => lhs; rw [ep]
        exact nth_app2
      rw [en] at e1
      have hlt : p.1 - k1 < b.1.length := by rw [ob.len]; omega
      have hin : nth b.1 (p.1 - k1) ∈ R2 := ob.pl _ (nth_mem hlt)
      rcases List.mem_append.mp hw with hw | hw
      · exact absurd hin (W.dis _ (e1 ▸ (W.e1 w hw).1))
      · rw [can_comb2 W oa (W.e2 w hw).2] at e3
        refine .inr ⟨(p.1 - k1, p.2), mem_steps.mpr ⟨hlt, w, hw, e1, e2, e3⟩, ?_⟩
        unfold shift
        exact Prod.ext (by show p.1 - k1 + k1 = p.1; omega) rfl
  · rintro (h | ⟨q, h, rfl⟩)
    · obtain ⟨hp, w, hw, e1, e2, e3⟩ := mem_steps.mp h
      have hk := hp
      rw [oa.len] at hk
      refine ⟨by omega, w, List.mem_append_left _ hw, ?_, e2, by rw [can_comb1 W ob (W.e1 w hw).2]; exact e3⟩
      rw [show nth (comb a b).1 p.1 = nth a.1 p.1 from nth_app1 hp]
      exact e1
    · obtain ⟨hp, w, hw, e1, e2, e3⟩ := mem_steps.mp h
      have hk := hp
      rw [ob.len] at hk
      refine ⟨by show q.1 + k1 < _; omega, w, List.mem_append_right _ hw, ?_, e2, by rw [can_comb2 W oa (W.e2 w hw).2]; exact e3⟩
      have : nth (comb a b).1 (shift k1 q).1 = nth b.1 q.1 := by
        show nth (a.1 ++ b.1) (q.1 + k1) = _
        rw [← oa.len]
        exact nth_app2
      rw [this]
      exact e1
theorem gone_comb1 (W : Wings R1 R2 h1 h2) (oa : Ok R1 k1 a) (ob : Ok R2 k2 b) {p : Step} (hp : p.1 < k1) (hr : p.2 ∈ R1) : gone (comb a b) p = comb (gone a p) b := by
  have hpa : p.1 < a.1.length := by rw [oa.len]; exact hp
  have hpc : p.1 < (comb a b).1.length := by rw [(comb_ok W oa ob).len]; omega
  have e1 : after (comb a b) p = after a p ++ b.1 := by
    rw [after_set hpc, after_set hpa]
    show (a.1 ++ b.1).set p.1 p.2 = _
    rw [List.set_append_left _ _ hpa]
  have e2 : nth (comb a b).1 p.1 = nth a.1 p.1 := nth_app1 hpa
  have hin : nth a.1 p.1 ∈ R1 := oa.pl _ (nth_mem hpa)
  have e3 : nth a.1 p.1 ∈ after a p ++ b.1 ↔ nth a.1 p.1 ∈ after a p := by
    rw [List.mem_append]
    exact ⟨fun h => h.elim id fun g => absurd (ob.pl _ g) (W.dis _ hin), .inl⟩
  refine Prod.ext e1 ?_
  show tsort eR (((tsort eR (a.2 ++ b.2)).filter fun r => !decide (r = p.2)) ++ (if nth (comb a b).1 p.1 ∈ after (comb a b) p then [] else [nth (comb a b).1 p.1])) = tsort eR (tsort eR ((a.2.filter fun r => !decide (r = p.2)) ++ (if nth a.1 p.1 ∈ after a p then [] else [nth a.1 p.1])) ++ b.2)
  rw [e1, e2]
  simp only [e3]
  have e4 : b.2.filter (fun r => !decide (r = p.2)) = b.2 := List.filter_eq_self.mpr fun r h => by
    have : r ≠ p.2 := fun e => W.dis _ hr (e ▸ ob.sh r h)
    simp [this]
  refine tsort_eq (e := eR) ?_
  have p1 : ((tsort eR (a.2 ++ b.2)).filter fun r => !decide (r = p.2)).Perm ((a.2.filter fun r => !decide (r = p.2)) ++ b.2) := by
    have := (tsort_perm (e := eR) (a.2 ++ b.2)).filter fun r => !decide (r = p.2)
    rw [List.filter_append, e4] at this
    exact this
  refine (p1.append_right _).trans ?_
  refine List.Perm.trans ?_ ((tsort_perm (e := eR) _).symm.append_right _)
  rw [List.append_assoc, List.append_assoc]
  exact List.perm_append_comm.append_left _
theorem gone_comb2 (W : Wings R1 R2 h1 h2) (oa : Ok R1 k1 a) (ob : Ok R2 k2 b) {p : Step} (hp : p.1 < k2) (hr : p.2 ∈ R2) : gone (comb a b) (shift k1 p) = comb a (gone b p) := by
  have hpb : p.1 < b.1.length := by rw [ob.len]; exact hp
  have hpc : (shift k1 p).1 < (comb a b).1.length := by
    rw [(comb_ok W oa ob).len]
    show p.1 + k1 < _
    omega
  have e1 : after (comb a b) (shift k1 p) = a.1 ++ after b p := by
    rw [after_set hpc, after_set hpb]
    show (a.1 ++ b.1).set (p.1 + k1) p.2 = _
    rw [List.set_append_right _ _ (by rw [oa.len]; omega), oa.len, Nat.add_sub_cancel]
  have e2 : nth (comb a b).1 (shift k1 p).1 = nth b.1 p.1 := by
    show nth (a.1 ++ b.1) (p.1 + k1) = _
    rw [← oa.len]
    exact nth_app2
  have hin : nth b.1 p.1 ∈ R2 := ob.pl _ (nth_mem hpb)
  have e3 : nth b.1 p.1 ∈ a.1 ++ after b p ↔ nth b.1 p.1 ∈ after b p := by
    rw [List.mem_append]
    exact ⟨fun h => h.elim (fun g => absurd hin (W.dis _ (oa.pl _ g))) id, .inr⟩
  refine Prod.ext e1 ?_
  show tsort eR (((tsort eR (a.2 ++ b.2)).filter fun r => !decide (r = p.2)) ++ (if nth (comb a b).1 (shift k1 p).1 ∈ after (comb a b) (shift k1 p) then [] else [nth (comb a b).1 (shift k1 p).1])) = tsort eR (a.2 ++ tsort eR ((b.2.filter fun r => !decide (r = p.2)) ++ (if nth b.1 p.1 ∈ after b p then [] else [nth b.1 p.1])))
  rw [e1, e2]
  simp only [e3]
  have e4 : a.2.filter (fun r => !decide (r = p.2)) = a.2 := List.filter_eq_self.mpr fun r h => by
    have : r ≠ p.2 := fun e => W.dis _ (oa.sh r h) (e ▸ hr)
    simp [this]
  refine tsort_eq (e := eR) ?_
  have p1 : ((tsort eR (a.2 ++ b.2)).filter fun r => !decide (r = p.2)).Perm (a.2 ++ (b.2.filter fun r => !decide (r = p.2))) := by
    have := (tsort_perm (e := eR) (a.2 ++ b.2)).filter fun r => !decide (r = p.2)
    rw [List.filter_append, e4] at this
    exact this
  refine (p1.append_right _).trans ?_
  rw [List.append_assoc]
  exact (tsort_perm (e := eR) _).symm.append_left _
theorem step1_ok (W : Wings R1 R2 h1 h2) (oa : Ok R1 k1 a) {p : Step} (hp : p ∈ steps h1 a) : p.1 < k1 ∧ p.2 ∈ R1 ∧ Ok R1 k1 (gone a p) := by
  obtain ⟨g1, g2, g3⟩ := step_ok W.e1 oa hp
  rw [oa.len] at g1
  exact ⟨g1, g2, g3⟩
theorem step2_ok (W : Wings R1 R2 h1 h2) (ob : Ok R2 k2 b) {p : Step} (hp : p ∈ steps h2 b) : p.1 < k2 ∧ p.2 ∈ R2 ∧ Ok R2 k2 (gone b p) := by
  obtain ⟨g1, g2, g3⟩ := step_ok W.e2 ob hp
  rw [ob.len] at g1
  exact ⟨g1, g2, g3⟩
theorem nxt_comb (W : Wings R1 R2 h1 h2) (oa : Ok R1 k1 a) (ob : Ok R2 k2 b) {z : Stand} : z ∈ nxt (h1 ++ h2) (comb a b) ↔ (∃ x ∈ nxt h1 a, z = comb x b) ∨ ∃ y ∈ nxt h2 b, z = comb a y := by
  unfold nxt
  rw [List.mem_map]
  constructor
  · rintro ⟨p, hp, rfl⟩
    rcases (steps_comb W oa ob).mp hp with h | ⟨q, h, rfl⟩
    · obtain ⟨g1, g2, _⟩ := step1_ok W oa h
      exact .inl ⟨_, List.mem_map.mpr ⟨p, h, rfl⟩, gone_comb1 W oa ob g1 g2⟩
    · obtain ⟨g1, g2, _⟩ := step2_ok W ob h
      exact .inr ⟨_, List.mem_map.mpr ⟨q, h, rfl⟩, gone_comb2 W oa ob g1 g2⟩
  · rintro (⟨x, hx, rfl⟩ | ⟨y, hy, rfl⟩)
    · obtain ⟨p, hp, rfl⟩ := List.mem_map.mp hx
      obtain ⟨g1, g2, _⟩ := step1_ok W oa hp
      exact ⟨p, (steps_comb W oa ob).mpr (.inl hp), gone_comb1 W oa ob g1 g2⟩
    · obtain ⟨p, hp, rfl⟩ := List.mem_map.mp hy
      obtain ⟨g1, g2, _⟩ := step2_ok W ob hp
      exact ⟨shift k1 p, (steps_comb W oa ob).mpr (.inr ⟨p, hp, rfl⟩), gone_comb2 W oa ob g1 g2⟩
theorem p1_ok (W : Wings R1 R2 h1 h2) (oa : Ok R1 k1 a) {n : Nat} (p : Path (nxt h1) a n x) : Ok R1 k1 x := Path.inv (nxt h1) a oa (fun z oz y hy => nxt_ok W.e1 oz y hy) p
theorem p2_ok (W : Wings R1 R2 h1 h2) (ob : Ok R2 k2 b) {n : Nat} (p : Path (nxt h2) b n y) : Ok R2 k2 y := Path.inv (nxt h2) b ob (fun z oz y hy => nxt_ok W.e2 oz y hy) p
theorem path_comb (W : Wings R1 R2 h1 h2) (oa : Ok R1 k1 a) (ob : Ok R2 k2 b) {n : Nat} {z : Stand} : Path (nxt (h1 ++ h2)) (comb a b) n z ↔ ∃ i j x y, i + j = n ∧ z = comb x y ∧ Path (nxt h1) a i x ∧ Path (nxt h2) b j y := by
  constructor
  · intro p
    induction p with
    | zero => exact ⟨0, 0, a, b, rfl, rfl, .zero, .zero⟩
    | @succ n u v p q ih =>
      obtain ⟨i, j, x, y, e, rfl, px, py⟩ := ih
      rcases (nxt_comb W (p1_ok W oa px) (p2_ok W ob py)).mp q with ⟨x', hx, rfl⟩ | ⟨y', hy, rfl⟩
      · exact ⟨i + 1, j, x', y, by omega, rfl, .succ px hx, py⟩
      · exact ⟨i, j + 1, x, y', by omega, rfl, px, .succ py hy⟩
  · rintro ⟨i, j, x, y, rfl, rfl, px, py⟩
    have h1' : Path (nxt (h1 ++ h2)) (comb a b) i (comb x b) := by
      clear py
      induction px with
      | zero => exact .zero
      | @succ n u v p q ih => exact .succ ih ((nxt_comb W (p1_ok W oa p) ob).mpr (.inl ⟨v, q, rfl⟩))
    have ox := p1_ok W oa px
    clear px
    induction py with
    | zero => exact h1'
    | @succ n u v p q ih => exact .succ ih ((nxt_comb W ox (p2_ok W ob p)).mpr (.inr ⟨v, q, rfl⟩))
theorem comb_inj (W : Wings R1 R2 h1 h2) {a' b' : Stand} (oa : Ok R1 k1 a) (ob : Ok R2 k2 b) (oa' : Ok R1 k1 a') (ob' : Ok R2 k2 b') (e : comb a b = comb a' b') : a = a' ∧ b = b' := by
  have e1 : a.1 ++ b.1 = a'.1 ++ b'.1 := (Prod.mk.inj e).1
  have e2 : tsort eR (a.2 ++ b.2) = tsort eR (a'.2 ++ b'.2) := (Prod.mk.inj e).2
  obtain ⟨f1, f2⟩ := List.append_inj e1 (by rw [oa.len, oa'.len])
  have hm : ∀ r, r ∈ a.2 ++ b.2 ↔ r ∈ a'.2 ++ b'.2 := fun r => by rw [← mem_tsort (e := eR), e2, mem_tsort]
  have g1 : a.2 = a'.2 := sorted_ext (e := eR) oa.srt oa'.srt oa.nd oa'.nd fun r => by
    have := hm r
    rw [List.mem_append, List.mem_append] at this
    constructor
    · intro h
      exact (this.mp (.inl h)).elim id fun g => absurd (ob'.sh r g) (W.dis r (oa.sh r h))
    · intro h
      exact (this.mpr (.inl h)).elim id fun g => absurd (ob.sh r g) (W.dis r (oa'.sh r h))
  have g2 : b.2 = b'.2 := sorted_ext (e := eR) ob.srt ob'.srt ob.nd ob'.nd fun r => by
    have := hm r
    rw [List.mem_append, List.mem_append] at this
    constructor
    · intro h
      exact (this.mp (.inr h)).elim (fun g => absurd (ob.sh r h) (W.dis r (oa'.sh r g))) id
    · intro h
      exact (this.mpr (.inr h)).elim (fun g => absurd (ob'.sh r h) (W.dis r (oa.sh r g))) id
  exact ⟨Prod.ext f1 g1, Prod.ext f2 g2⟩
theorem meets_comb {w1 w2 : Wish} (hx : x.1.length = w1.length) : meets (comb x y) (w1 ++ w2) = (meets x w1 && meets y w2) := by
  unfold meets comb
  dsimp only
  rw [List.zip_append hx, List.all_append]
end
end T

set_option Elab.async false
set_option linter.all false
set_option maxRecDepth 100000
set_option maxHeartbeats 4000000
namespace T
open PySem G
section
variable {R1 R2 : List Room} {k1 k2 : Nat} {h1 h2 : House} {a b x y : Stand}
/-- the three worlds -/
structure Three (R1 R2 : List Room) (k1 k2 : Nat) (h1 h2 : House) : Prop where
  W : Wings R1 R2 h1 h2
  w1 : World R1 k1 h1
  w2 : World R2 k2 h2
  w : World (R1 ++ R2) (k1 + k2) (h1 ++ h2)
theorem reach_comb (T3 : Three R1 R2 k1 k2 h1 h2) (oa : Ok R1 k1 a) (ob : Ok R2 k2 b) {z : Stand} : z ∈ reach (h1 ++ h2) (comb a b) ↔ ∃ x y, z = comb x y ∧ x ∈ reach h1 a ∧ y ∈ reach h2 b := by
  rw [mem_reach T3.w (comb_ok T3.W oa ob)]
  constructor
  · rintro ⟨n, p⟩
    obtain ⟨i, j, x, y, _, e, px, py⟩ := (path_comb T3.W oa ob).mp p
    exact ⟨x, y, e, (mem_reach T3.w1 oa).mpr ⟨i, px⟩, (mem_reach T3.w2 ob).mpr ⟨j, py⟩⟩
  · rintro ⟨x, y, e, hx, hy⟩
    obtain ⟨i, px⟩ := (mem_reach T3.w1 oa).mp hx
    obtain ⟨j, py⟩ := (mem_reach T3.w2 ob).mp hy
    exact ⟨i + j, (path_comb T3.W oa ob).mpr ⟨i, j, x, y, rfl, e, px, py⟩⟩
theorem reach_len2 (T3 : Three R1 R2 k1 k2 h1 h2) (oa : Ok R1 k1 a) (ob : Ok R2 k2 b) : (reach (h1 ++ h2) (comb a b)).length = (reach h1 a).length * (reach h2 b).length := by
  have hp : (reach (h1 ++ h2) (comb a b)).Perm ((reach h1 a).flatMap fun x => (reach h2 b).map (comb x)) := by
    refine (List.perm_ext_iff_of_nodup (reach_nodup _ _) ?_).mpr fun z => ?_
    · unfold List.Nodup
      rw [List.pairwise_flatMap]
      refine ⟨fun x hx => ?_, ?_⟩
      · have ox := reach_ok T3.w1 oa hx
        refine List.pairwise_map.mpr (List.Pairwise.imp_of_mem ?_ (reach_nodup h2 b))
        intro u v hu hv hne e
        exact hne (comb_inj T3.W ox (reach_ok T3.w2 ob hu) ox (reach_ok T3.w2 ob hv) e).2
      · refine List.Pairwise.imp_of_mem ?_ (reach_nodup h1 a)
        intro u v hu hv hne z hz z' hz' e
        obtain ⟨y, hy, rfl⟩ := List.mem_map.mp hz
        obtain ⟨y', hy', rfl⟩ := List.mem_map.mp hz'
        exact hne (comb_inj T3.W (reach_ok T3.w1 oa hu) (reach_ok T3.w2 ob hy) (reach_ok T3.w1 oa hv) (reach_ok T3.w2 ob hy') e).1
    · rw [reach_comb T3 oa ob, List.mem_flatMap]
      constructor
      · rintro ⟨x, y, rfl, hx, hy⟩
        exact ⟨x, hx, List.mem_map.mpr ⟨y, hy, rfl⟩⟩
      · rintro ⟨x, hx, hz⟩
        obtain ⟨y, hy, rfl⟩ := List.mem_map.mp hz
        exact ⟨x, y, rfl, hx, hy⟩
  rw [hp.length_eq, flatMap_len (n := (reach h2 b).length) fun x _ => by rw [List.length_map]]
theorem sh_meets (w : World R1 k1 h1) (oa : Ok R1 k1 a) {wish : Wish} : shortestS h1 a wish ≠ none ↔ ∃ n x, Path (nxt h1) a n x ∧ meets x wish = true := by
  rw [Ne, shortest_none]
  constructor
  · intro h
    refine Classical.byContradiction fun g => h fun x hx => ?_
    obtain ⟨n, p⟩ := (mem_reach w oa).mp hx
    cases c : meets x wish with
    | false => rfl
    | true => exact absurd ⟨n, x, p, c⟩ g
  · rintro ⟨n, x, p, hm⟩ h
    have := h x ((mem_reach w oa).mpr ⟨n, p⟩)
    rw [hm] at this; cases this
theorem sh_none (T3 : Three R1 R2 k1 k2 h1 h2) (oa : Ok R1 k1 a) (ob : Ok R2 k2 b) {w1 w2 : Wish} (hw : w1.length = k1) : shortestS (h1 ++ h2) (comb a b) (w1 ++ w2) = none ↔ shortestS h1 a w1 = none ∨ shortestS h2 b w2 = none := by
  have key : shortestS (h1 ++ h2) (comb a b) (w1 ++ w2) ≠ none ↔ shortestS h1 a w1 ≠ none ∧ shortestS h2 b w2 ≠ none := by
    rw [sh_meets T3.w (comb_ok T3.W oa ob), sh_meets T3.w1 oa, sh_meets T3.w2 ob]
    constructor
    · rintro ⟨n, z, p, hm⟩
      obtain ⟨i, j, x, y, _, rfl, px, py⟩ := (path_comb T3.W oa ob).mp p
      rw [meets_comb (by rw [(p1_ok T3.W oa px).len, hw]), Bool.and_eq_true] at hm
      exact ⟨⟨i, x, px, hm.1⟩, ⟨j, y, py, hm.2⟩⟩
    · rintro ⟨⟨i, x, px, mx⟩, ⟨j, y, py, my⟩⟩
      exact ⟨i + j, comb x y, (path_comb T3.W oa ob).mpr ⟨i, j, x, y, rfl, rfl, px, py⟩, by rw [meets_comb (by rw [(p1_ok T3.W oa px).len, hw]), mx, my]; rfl⟩
  by_cases c1 : shortestS h1 a w1 = none
  · refine ⟨fun _ => .inl c1, fun _ => Classical.byContradiction fun g => (key.mp g).1 c1⟩
  · by_cases c2 : shortestS h2 b w2 = none
    · exact ⟨fun _ => .inr c2, fun _ => Classical.byContradiction fun g => (key.mp g).2 c2⟩
    · exact ⟨fun g => absurd g (key.mpr ⟨c1, c2⟩), fun g => g.elim (fun z => absurd z c1) fun z => absurd z c2⟩
theorem sh_sum (T3 : Three R1 R2 k1 k2 h1 h2) (oa : Ok R1 k1 a) (ob : Ok R2 k2 b) {w1 w2 : Wish} (hw : w1.length = k1) {l l1 l2 : List Step} (e : shortestS (h1 ++ h2) (comb a b) (w1 ++ w2) = some l) (e1 : shortestS h1 a w1 = some l1) (e2 : shortestS h2 b w2 = some l2) : l.length = l1.length + l2.length := by
  obtain ⟨⟨z, _, hm, hz⟩, hmin⟩ := shortest_some T3.w (comb_ok T3.W oa ob) e
  obtain ⟨⟨x, _, mx, hx⟩, min1⟩ := shortest_some T3.w1 oa e1
  obtain ⟨⟨y, _, my, hy⟩, min2⟩ := shortest_some T3.w2 ob e2
  have px := ((mem_row (nxt h1) a).mp hx).1
  have py := ((mem_row (nxt h2) b).mp hy).1
  have g1 := hmin _ _ ((path_comb T3.W oa ob).mpr ⟨_, _, x, y, rfl, rfl, px, py⟩) (by rw [meets_comb (by rw [(p1_ok T3.W oa px).len, hw]), mx, my]; rfl)
  obtain ⟨i, j, x', y', eij, rfl, px', py'⟩ := (path_comb T3.W oa ob).mp ((mem_row _ _).mp hz).1
  rw [meets_comb (by rw [(p1_ok T3.W oa px').len, hw]), Bool.and_eq_true] at hm
  have g2 := min1 _ _ px' hm.1
  have g3 := min2 _ _ py' hm.2
  omega
def mine (k : Nat) (l : List Step) : List Step := l.filter fun p => decide (p.1 < k)
def theirs (k : Nat) (l : List Step) : List Step := (l.filter fun p => !decide (p.1 < k)).map fun p => (p.1 - k, p.2)
theorem walk_split (W : Wings R1 R2 h1 h2) : ∀ (l : List Step) {a b z : Stand}, Ok R1 k1 a → Ok R2 k2 b → goWalk (h1 ++ h2) (comb a b) l = some z → ∃ x y, z = comb x y ∧ Ok R1 k1 x ∧ Ok R2 k2 y ∧ goWalk h1 a (mine k1 l) = some x ∧ goWalk h2 b (theirs k1 l) = some y
  | [], a, b, z, oa, ob, e => ⟨a, b, (Option.some.inj e).symm, oa, ob, rfl, rfl⟩
  | p :: l, a, b, z, oa, ob, e => by
    unfold goWalk at e
    split at e
    · rename_i hp
      rcases (steps_comb W oa ob).mp hp with h | ⟨q, h, rfl⟩
      · obtain ⟨g1, g2, g3⟩ := step1_ok W oa h
        rw [gone_comb1 W oa ob g1 g2] at e
        obtain ⟨x, y, e1, ox, oy, e2, e3⟩ := walk_split W l g3 ob e
        refine ⟨x, y, e1, ox, oy, ?_, ?_⟩
        · unfold mine
          rw [List.filter_cons_of_pos (by simpa using g1), goWalk, if_pos h]
          exact e2
        · unfold theirs
          rw [List.filter_cons_of_neg (by simpa using g1)]
          exact e3
      · obtain ⟨g1, g2, g3⟩ := step2_ok W ob h
        rw [gone_comb2 W oa ob g1 g2] at e
        obtain ⟨x, y, e1, ox, oy, e2, e3⟩ := walk_split W l oa g3 e
        have hn : ¬ (shift k1 q).1 < k1 := by show ¬ q.1 + k1 < k1; omega
        refine ⟨x, y, e1, ox, oy, ?_, ?_⟩
        · unfold mine
          rw [List.filter_cons_of_neg (by simpa using hn)]
          exact e2
        · unfold theirs
          rw [List.filter_cons_of_pos (by simpa using hn), List.map_cons]
          have eq : ((shift k1 q).1 - k1, (shift k1 q).2) = q := Prod.ext (by show q.1 + k1 - k1 = q.1; omega) rfl
          rw [eq, goWalk, if_pos h]
          exact e3
    · cases e
/-! idle keys -/
def unkey (h : House) (w : Way) : House := h.map fun v => if (v.1, v.2.1) = (w.1, w.2.1) then (v.1, v.2.1, false) else v
noncomputable def isIdle (h : House) (s : Stand) (w : Way) : Bool := w.2.2 && decide (tsort eSt (reach (unkey h w) s) = tsort eSt (reach h s))
noncomputable def idle (h : House) (s : Stand) : List (Room × Room) := (h.filter (isIdle h s)).map fun w => (w.1, w.2.1)
theorem unkey_ends {R : List Room} {h : House} (e : Ends R h) (w : Way) : Ends R (unkey h w) := fun v hv => by
  obtain ⟨u, hu, rfl⟩ := List.mem_map.mp hv
  split
  · exact e u hu
  · exact e u hu
theorem unkey_world {R : List Room} {k : Nat} {h : House} (o : World R k h) (w : Way) : World R k (unkey h w) := ⟨o.nd, unkey_ends o.ends w, by unfold unkey; rw [List.length_map]; exact o.hl, o.kl, o.rl, o.ul⟩
theorem unkey1 (W : Wings R1 R2 h1 h2) {w : Way} (hw : w ∈ h1) : unkey (h1 ++ h2) w = unkey h1 w ++ h2 := by
  unfold unkey
  rw [List.map_append]
  congr 1
  refine (List.map_congr_left fun v hv => ?_).trans (List.map_id h2)
  have hne : (v.1, v.2.1) ≠ (w.1, w.2.1) := fun e => by
    have h3 := (W.e2 v hv).1
    rw [(Prod.mk.inj e).1] at h3
    exact W.dis _ (W.e1 w hw).1 h3
  rw [if_neg hne]
  rfl
theorem unkey2 (W : Wings R1 R2 h1 h2) {w : Way} (hw : w ∈ h2) : unkey (h1 ++ h2) w = h1 ++ unkey h2 w := by
  unfold unkey
  rw [List.map_append]
  congr 1
  refine (List.map_congr_left fun v hv => ?_).trans (List.map_id h1)
  have hne : (v.1, v.2.1) ≠ (w.1, w.2.1) := fun e => by
    have h3 := (W.e1 v hv).1
    rw [(Prod.mk.inj e).1] at h3
    exact W.dis _ h3 (W.e2 w hw).1
  rw [if_neg hne]
  rfl
theorem start_reach (w : World R1 k1 h1) (oa : Ok R1 k1 a) : a ∈ reach h1 a := (mem_reach w oa).mpr ⟨0, .zero⟩
theorem same_set {h h' : House} {s : Stand} : tsort eSt (reach h s) = tsort eSt (reach h' s) ↔ ∀ x, x ∈ reach h s ↔ x ∈ reach h' s := by
  constructor
  · intro e x
    rw [← mem_tsort (e := eSt), e, mem_tsort]
  · intro e
    exact tsort_eq (e := eSt) ((List.perm_ext_iff_of_nodup (reach_nodup _ _) (reach_nodup _ _)).mpr e)
theorem three1 (T3 : Three R1 R2 k1 k2 h1 h2) (w : Way) : Three R1 R2 k1 k2 (unkey h1 w) h2 := ⟨⟨unkey_ends T3.W.e1 w, T3.W.e2, T3.W.dis⟩, unkey_world T3.w1 w, T3.w2, ⟨T3.w.nd, fun v hv => by
    rcases List.mem_append.mp hv with hv | hv
    · have := unkey_ends T3.W.e1 w v hv
      exact ⟨List.mem_append_left _ this.1, List.mem_append_left _ this.2⟩
    · have := T3.W.e2 v hv
      exact ⟨List.mem_append_right _ this.1, List.mem_append_right _ this.2⟩, by
    have := T3.w.hl
    unfold unkey
    rw [List.length_append, List.length_map] at *
    exact this, T3.w.kl, T3.w.rl, T3.w.ul⟩⟩
theorem three2 (T3 : Three R1 R2 k1 k2 h1 h2) (w : Way) : Three R1 R2 k1 k2 h1 (unkey h2 w) := ⟨⟨T3.W.e1, unkey_ends T3.W.e2 w, T3.W.dis⟩, T3.w1, unkey_world T3.w2 w, ⟨T3.w.nd, fun v hv => by
    rcases List.mem_append.mp hv with hv | hv
    · have := T3.W.e1 v hv
      exact ⟨List.mem_append_left _ this.1, List.mem_append_left _ this.2⟩
    · have := unkey_ends T3.W.e2 w v hv
      exact ⟨List.mem_append_right _ this.1, List.mem_append_right _ this.2⟩, by
    have := T3.w.hl
    unfold unkey
    rw [List.length_append, List.length_map] at *
    exact this, T3.w.kl, T3.w.rl, T3.w.ul⟩⟩
theorem idle1 (T3 : Three R1 R2 k1 k2 h1 h2) (oa : Ok R1 k1 a) (ob : Ok R2 k2 b) {w : Way} (hw : w ∈ h1) : isIdle (h1 ++ h2) (comb a b) w = isIdle h1 a w := by
  unfold isIdle
  rw [Bool.eq_iff_iff, Bool.and_eq_true, Bool.and_eq_true, decide_eq_true_iff, decide_eq_true_iff]
  rw [unkey1 T3.W hw, same_set, same_set]
  refine and_congr_right fun _ => ?_
  have T4 := three1 T3 w
  have sb := start_reach T3.w2 ob
  constructor
  · intro g x
    constructor
    · intro hx
      have := (g (comb x b)).mp ((reach_comb T4 oa ob).mpr ⟨x, b, rfl, hx, sb⟩)
      obtain ⟨x', y', e, hx', hy'⟩ := (reach_comb T3 oa ob).mp this
      have := (comb_inj T3.W (reach_ok T4.w1 oa hx) ob (reach_ok T3.w1 oa hx') (reach_ok T3.w2 ob hy') e).1
      rw [this]; exact hx'
    · intro hx
      have := (g (comb x b)).mpr ((reach_comb T3 oa ob).mpr ⟨x, b, rfl, hx, sb⟩)
      obtain ⟨x', y', e, hx', hy'⟩ := (reach_comb T4 oa ob).mp this
      have := (comb_inj T3.W (reach_ok T3.w1 oa hx) ob (reach_ok T4.w1 oa hx') (reach_ok T4.w2 ob hy') e).1
      rw [this]; exact hx'
  · intro g z
    rw [reach_comb T4 oa ob, reach_comb T3 oa ob]
    simp only [g]
theorem idle2 (T3 : Three R1 R2 k1 k2 h1 h2) (oa : Ok R1 k1 a) (ob : Ok R2 k2 b) {w : Way} (hw : w ∈ h2) : isIdle (h1 ++ h2) (comb a b) w = isIdle h2 b w := by
  unfold isIdle
  rw [Bool.eq_iff_iff, Bool.and_eq_true, Bool.and_eq_true, decide_eq_true_iff, decide_eq_true_iff]
  rw [unkey2 T3.W hw, same_set, same_set]
  refine and_congr_right fun _ => ?_
  have T4 := three2 T3 w
  have sa := start_reach T3.w1 oa
  constructor
  · intro g y
    constructor
    · intro hy
      have := (g (comb a y)).mp ((reach_comb T4 oa ob).mpr ⟨a, y, rfl, sa, hy⟩)
      obtain ⟨x', y', e, hx', hy'⟩ := (reach_comb T3 oa ob).mp this
      have := (comb_inj T3.W oa (reach_ok T4.w2 ob hy) (reach_ok T3.w1 oa hx') (reach_ok T3.w2 ob hy') e).2
      rw [this]; exact hy'
    · intro hy
      have := (g (comb a y)).mpr ((reach_comb T3 oa ob).mpr ⟨a, y, rfl, sa, hy⟩)
      obtain ⟨x', y', e, hx', hy'⟩ := (reach_comb T4 oa ob).mp this
      have := (comb_inj T3.W oa (reach_ok T3.w2 ob hy) (reach_ok T4.w1 oa hx') (reach_ok T4.w2 ob hy') e).2
      rw [this]; exact hy'
  · intro g z
    rw [reach_comb T4 oa ob, reach_comb T3 oa ob]
    simp only [g]
theorem idle_comb (T3 : Three R1 R2 k1 k2 h1 h2) (oa : Ok R1 k1 a) (ob : Ok R2 k2 b) : idle (h1 ++ h2) (comb a b) = idle h1 a ++ idle h2 b := by
  unfold idle
  rw [List.filter_append, List.map_append]
  congr 1
  · refine congrArg _ (List.filter_congr fun w hw => ?_)
    exact idle1 T3 oa ob hw
  · refine congrArg _ (List.filter_congr fun w hw => ?_)
    exact idle2 T3 oa ob hw
end
end T

set_option Elab.async false
set_option linter.all false
set_option maxRecDepth 100000
set_option maxHeartbeats 4000000
namespace W
open PySem PySem.Spec PyProof.Rows L2 QL T EV G
section
variable {B : Mem} {l : Nat} {b a c : Int}
theorem draws2 {α : Type} [Inhabited α] {e : α → PyData} (d : DeckAt B l b) {xs : List α} (hx : 1 ≤ xs.length ∧ xs.length ≤ 1000) {ρ : Env'} {k i : Nat} (hk : k ≤ 1000) (hc : 0 ≤ c ∧ c + k ≤ 1000) {it : EvI} {M0 : Mem} (hit : it ρ M0 = .ok ⟨(List.range k).map eN, []⟩ (DK B l b a c)) {own : List Nat} {elt : EvF}
    (helt : ∀ (j : Nat) (a c : Int) (r : Nat) (a' c' : Int), F__law_pick [.obj l, .dat (eN xs.length)] (DK B l b a c) = .ok (.dat (eN r)) (DK B l b a' c') → r < xs.length → ∃ ρ2, (Tgt.one i).bind (eN j) (wipeE ρ own) = some ρ2 ∧ elt ρ2 (DK B l b a c) = .ok (.dat (e (nth xs r))) (DK B l b a' c')) :
    ∃ (ys : List α) (a' c' : Int), eLc it (.one i) bYes elt own ρ M0 = .ok (.dat (.list (ys.map e))) (DK B l b a' c') ∧ ys.length = k ∧ (∀ y ∈ ys, y ∈ xs) ∧ c ≤ c' ∧ c' ≤ c + k := by
  obtain ⟨ys, M', h1, a', c', rfl, h2, h3, h4, h5⟩ := lc_mem (e := eN) (f := e) (List.range k) (fun pre acc M => ∃ a' c', M = DK B l b a' c' ∧ acc.length = pre.length ∧ (∀ y ∈ acc, y ∈ xs) ∧ c ≤ c' ∧ c' ≤ c + pre.length) hit (by simp; unfold LIM; omega) ⟨a, c, rfl, rfl, (fun _ h => nomatch h), by omega, by simp⟩ (t := .one i) (test := bYes) (elt := elt) (own := own) (by
    rintro p j q hq acc M ⟨a1, c1, rfl, g1, g2, g3, g4⟩
    have hpl := congrArg List.length hq
    simp only [List.length_append, List.length_cons, List.length_range] at hpl
    obtain ⟨r, a2, c2, e1, l1, m1, m2⟩ := pick_n (a := a1) (c := c1) (n := xs.length) (loc := []) d rfl (by omega) hx
    rw [List.append_nil, List.append_nil] at e1
    obtain ⟨ρ2, f1, f2⟩ := helt j a1 c1 r a2 c2 e1 l1
    refine ⟨ρ2, true, _, f1, rfl, fun _ => ⟨nth xs r, _, f2, a2, c2, rfl, by simp [g1], fun y hy => ?_, by omega, by simp; omega⟩, fun z => by cases z⟩
    rcases List.mem_append.mp hy with hy | hy
    · exact g2 y hy
    · rw [List.mem_singleton.mp hy]; exact nth_mem l1)
  rw [List.length_range] at h2 h5
  exact ⟨ys, a', c', h1, h2, h3, h4, h5⟩
theorem add1N (r : Nat) {M : Mem} : vAdd (.dat (.int 1)) (.dat (eN r)) M = some (.dat (eN (r + 1)), M) := by
  unfold eN
  rw [add_i, show (1 : Int) + (r : Int) = ((r + 1 : Nat) : Int) by omega]
theorem f_places (d : DeckAt B l b) (hc : 0 ≤ c ∧ c ≤ 900) {h : House} (hh : h.length ≤ 1000) (hr : 1 ≤ (roomsOf h).length ∧ (roomsOf h).length ≤ 100) {most : Nat} (hm : 1 ≤ most ∧ most ≤ 5) :
    ∃ (ps : List T.Room) (a' c' : Int), F__law_places [.obj l, .dat (eH h), .dat (eN most)] (DK B l b a c) = .ok (.dat (eT eR ps)) (DK B l b a' c') ∧ (1 ≤ ps.length ∧ ps.length ≤ most) ∧ (∀ r ∈ ps, r ∈ roomsOf h) ∧ c ≤ c' ∧ c' ≤ c + 10 := by
  obtain ⟨r0, a0, c0, p0, l0, q1, q2⟩ := pick_n (a := a) (c := c) (n := most) (loc := []) d rfl (by omega) (by omega)
  rw [List.append_nil, List.append_nil] at p0
  obtain ⟨ps, a2, c2, hps, y1, y2, y3, y4⟩ := draws2 (a := a0) (c := c0) (e := eR) (xs := roomsOf h) (i := 4) (own := [4]) (k := r0 + 1) d (by omega) (by omega) (by omega) (it := iRng1 (e2 vAdd (eD (.int 1)) (eCall F__law_pick (aCons (eVar 0) (aCons (eVar 2) (aNil)))))) (M0 := DK B l b a c) (elt := e2 vIxA (eVar 3) (eCall F__law_pick (aCons (eVar 0) (aCons (eBi (v1N vLen) (aCons (eVar 3) aNil)) aNil)))) (ρ := [some (.obj l), some (.dat (eH h)), some (.dat (eN most)), some (.dat (.list ((roomsOf h).map eR))), none]) (by
      simp [p0, add1N, rCell_N (r0 + 1) (by omega)]) (fun j a c r a' c' he hr => ⟨_, rfl, by simp [he, ixL (e := eR) hr]⟩)
  suffices H : Ret (m__law_places [some (.obj l), some (.dat (eH h)), some (.dat (eN most)), none, none] (DK B l b a c)) (fun cl M' => ∃ v a' c' loc, cl = .dat v ∧ M' = DK B l b a' c' ++ loc ∧ ∃ ps, v = eT eR ps ∧ (1 ≤ ps.length ∧ ps.length ≤ most) ∧ (∀ r ∈ ps, r ∈ roomsOf h) ∧ c ≤ c' ∧ c' ≤ c + 10) by
    obtain ⟨v, a', c', hr, s, rfl, g1, g2, g3⟩ := deck_fn d (N := N__law_places.length) (n := 3) (cs := [.obj l, .dat (eH h), .dat (eN most)]) rfl rfl H
    exact ⟨s, a', c', hr, g1, g2, g3⟩
  unfold m__law_places
  refine ret_seq (ρ1 := [some (.obj l), some (.dat (eH h)), some (.dat (eN most)), some (.dat (.list ((roomsOf h).map eR))), none]) (M1 := DK B l b a c) (by simp [f_law_rooms hh]) ?_
  refine Ret.ev (r' := .rt (.dat (eT eR ps)) (DK B l b a2 c2)) (by simp [hps]) (Ret.of ⟨_, a2, c2, [], rfl, (List.append_nil _).symm, ps, rfl, by omega, y2, by omega, by omega⟩)
theorem f_stand (d : DeckAt B l b) (hc : 0 ≤ c ∧ c ≤ 700) {h : House} (hh : h.length ≤ 1000) (hr : 1 ≤ (roomsOf h).length ∧ (roomsOf h).length ≤ 10) {most : Nat} (hm : 1 ≤ most ∧ most ≤ 5) :
    ∃ (k : Nat) (s : Stand) (a' c' : Int), F__law_stand [.obj l, .dat (eH h), .dat (eN most)] (DK B l b a c) = .ok (.dat (eSt s)) (DK B l b a' c') ∧ (1 ≤ k ∧ k ≤ most) ∧ Ok (roomsOf h) k s ∧ c ≤ c' ∧ c' ≤ c + 20 := by
  obtain ⟨ps, a1, c1, e1, y1, y2, y3, y4⟩ := f_places (a := a) (c := c) d (by omega) hh (by omega) hm
  obtain ⟨ds, a3, c3, e3, z1, z2, z3, z4⟩ := darks (a := a1) (c := c1) (R := roomsOf h) (places := ps) d (i := 5) (own := [5]) (by omega) (by omega) (it := iAny (eCall F__law_rooms (aCons (eVar 1) (aNil)))) (test := bAnd (QL.eB (e2 (vInA true) (eVar 5) (eVar 3))) (QL.eB (e2 vEq (eCall F__law_pick (aCons (eVar 0) (aCons (eD (.int 2)) (aNil)))) (eD (.int 0))))) (elt := eVar 5) (ρ := [some (.obj l), some (.dat (eH h)), some (.dat (eN most)), some (.dat (eT eR ps)), none, none]) (by simp [f_law_rooms hh]) (fun x a c r a' c' he => ⟨_, rfl, by by_cases q : x ∈ ps <;> simp [inT (e := eR), q, he], fun M => by simp⟩)
  have hs : Ok (roomsOf h) ps.length (ps, ds) := ⟨rfl, y2, fun r hr => z1.subset hr, (roomsOf_nodup h).sublist z1, (roomsOf_sorted h).sublist z1, z2⟩
  suffices H : Ret (m__law_stand [some (.obj l), some (.dat (eH h)), some (.dat (eN most)), none, none, none] (DK B l b a c)) (fun cl M' => ∃ v a' c' loc, cl = .dat v ∧ M' = DK B l b a' c' ++ loc ∧ ∃ s : Stand, v = eSt s ∧ Ok (roomsOf h) ps.length s ∧ c ≤ c' ∧ c' ≤ c + 20) by
    obtain ⟨v, a', c', hr, s, rfl, g1, g2, g3⟩ := deck_fn d (N := N__law_stand.length) (n := 3) (cs := [.obj l, .dat (eH h), .dat (eN most)]) rfl rfl H
    exact ⟨_, s, a', c', hr, y1, g1, g2, g3⟩
  unfold m__law_stand
  refine ret_seq (ρ1 := [some (.obj l), some (.dat (eH h)), some (.dat (eN most)), some (.dat (eT eR ps)), none, none]) (M1 := DK B l b a1 c1) (by simp [e1]) ?_
  refine ret_seq (ρ1 := [some (.obj l), some (.dat (eH h)), some (.dat (eN most)), some (.dat (eT eR ps)), some (.dat (.list (ds.map eR))), none]) (M1 := DK B l b a3 c3) (by simp [e3]) ?_
  refine Ret.ev (r' := .rt (.dat (eSt (ps, ds))) (DK B l b a3 c3)) (by simp [tup2 (eT eR) (eT eR)]) (Ret.of ⟨_, a3, c3, [], rfl, (List.append_nil _).symm, (ps, ds), rfl, hs, by omega, by omega⟩)
end
section
variable {M : Mem} {h : House} {s : Stand} {R : List T.Room} {k : Nat}
theorem f_unkey (hl : h.length ≤ 1000) (w : Way) : F_with_keys [.dat (eH h), .dat (.list [ePr (w.1, w.2.1)]), .dat (.bool false)] M = .ok (.dat (eH (unkey h w))) M := by
  refine pure_fn rfl rfl rfl ?_
  have hin : ∀ p M, vInA false (.dat (ePr p)) (.dat (.list [ePr (w.1, w.2.1)])) M = some (.dat (.bool (decide (p = (w.1, w.2.1)))), M) := fun p M => by
    have := inL (e := ePr) (M := M) (by decide) (neg := false) p [(w.1, w.2.1)]
    simpa using this
  refine Rt.ev (by
    simp [m_with_keys]
    rewrite [lc_all (e := eWay) h (fun v => eWay (if (v.1, v.2.1) = (w.1, w.2.1) then (v.1, v.2.1, false) else v)) (by simp) (by unfold LIM; omega) (fun v hv => ⟨_, rfl, by
      by_cases q : (v.1, v.2.1) = (w.1, w.2.1)
      · simp [hin, q, vTup, dats, show (1 : Nat) ≤ LIM by unfold LIM; omega, way3b]
        rw [(Prod.mk.inj q).1, (Prod.mk.inj q).2]
      · simp [hin, q]⟩)]
    rewrite [show h.map (fun v => eWay (if (v.1, v.2.1) = (w.1, w.2.1) then (v.1, v.2.1, false) else v)) = (unkey h w).map eWay by unfold unkey; rw [List.map_map]; rfl]
    simp
    and_intros <;> rfl) .of
def nthS (l : List T.Step) (i : Nat) : T.Step := l.getD i (0, default)
theorem f_walked (w : T.World R k h) : ∀ {s x : Stand} {l : List T.Step} {M : Mem}, Ok R k s → l.length ≤ 100000 → goWalk h s l = some x → F_walked [.dat (eH h), .dat (eSt s), .dat (.list (l.map eSp))] M = .ok (.dat (eSt x)) M := by
  intro s x l M o hl e
  refine pure_fn rfl rfl rfl ?_
  unfold m_walked
  rw [x_seq]
  have hsw : l.zipIdx.map (fun p => (p.2, p.1)) = (List.range l.length).map fun i => (i, nthS l i) := by
    refine List.ext_getElem? fun i => ?_
    rw [List.getElem?_map, List.getElem?_map, List.getElem?_zipIdx]
    by_cases hi : i < l.length
    · rw [List.getElem?_range hi, List.getElem?_eq_getElem hi]
      simp [nthS, List.getD_eq_getElem?_getD, List.getElem?_eq_getElem hi]
    · rw [List.getElem?_eq_none (by omega), List.getElem?_eq_none (by simp; omega)]
      rfl
  refine bind_rt (for_dat (e := eP eN eSp) ((List.range l.length).map fun i => (i, nthS l i)) (fun pre ρ M => ∃ z a b, ρ = [some (.dat (eH h)), some (.dat (eSt z)), some (.dat (.list (l.map eSp))), a, b] ∧ M = [] ∧ Ok R k z ∧ goWalk h z (l.drop pre.length) = some x) (by
    have := enum_map (e := eSp) l
    simp [this, hsw]) ⟨_, _, _, rfl, rfl, o, e⟩ ?_) ?_
  · rintro p y q hq ρ M ⟨z, a, b, rfl, rfl, oz, ez⟩
    have hpl := congrArg List.length hq
    simp only [List.length_append, List.length_cons, List.length_map, List.length_range] at hpl
    have hlt : p.length < l.length := by omega
    have hy : y = (p.length, nthS l p.length) := by
      have h1 : ((List.range l.length).map fun i => (i, nthS l i))[p.length]? = some y := by rw [hq]; simp
      rw [List.getElem?_map, List.getElem?_range hlt] at h1
      exact (Option.some.inj h1).symm
    have hd : l.drop p.length = nthS l p.length :: l.drop (p.length + 1) := by
      rw [List.drop_eq_getElem_cons hlt]
      simp [nthS, List.getD_eq_getElem?_getD, List.getElem?_eq_getElem hlt]
    rw [hd] at ez
    subst hy
    generalize nthS l p.length = st at ez
    unfold goWalk at ez
    split at ez
    · rename_i hst
      obtain ⟨g1, _, g3⟩ := step_ok w.ends oz hst
      refine nx_intro (ρ := [some (.dat (eH h)), some (.dat (eSt (gone z st))), some (.dat (.list (l.map eSp))), some (.dat (eN p.length)), some (.dat (eSp st))]) (M := []) (by
        simp [f_is_step w oz, hst, f_gone (oz.len1 w) (oz.len2 w) g1]) ⟨_, _, _, rfl, rfl, g3, by rw [List.length_append, List.length_singleton]; exact ez⟩
    · cases ez
  · rintro ρ M ⟨z, a, b, rfl, rfl, oz, ez⟩
    rw [List.length_map, List.length_range, List.drop_length] at ez
    rw [Option.some.inj ez]
    exact Rt.ev (by simp; and_intros <;> rfl) .of
theorem f_closed (w : T.World R k h) (o : Ok R k s) {wish : Wish} (hno : ∀ x ∈ reach h s, meets x wish = false) : F_closed_lot [.dat (eH h), .dat (eSt s), .dat (eW wish)] M = .ok (.dat (eT eSt (tsort eSt (reach h s)))) M := by
  refine pure_fn rfl rfl rfl ?_
  unfold m_closed_lot
  have hrl := reach_len w o
  have hd : ∀ M, vSortA [.fdc (EV.eDc eSt eVC (comeTo h s))] M = some (.dat (.list ((tsort eSt (reach h s)).map eSt)), M) := fun M => by
    unfold vSortA orN v1N vSort vSortM
    simp [asL, asM, dc_keys, keys_comeTo, sortB_map (e := eSt) (by decide), sortD_map]
  refine rt_seq (ρ1 := [some (.dat (eH h)), some (.dat (eSt s)), some (.dat (eW wish)), some (.dat (eT eSt (tsort eSt (reach h s)))), none]) (M1 := []) (by simp [f_come_to w o, hd]) ?_
  refine rt_seq (ρ1 := [some (.dat (eH h)), some (.dat (eSt s)), some (.dat (eW wish)), some (.dat (eT eSt (tsort eSt (reach h s)))), none]) (M1 := []) (by
    have hsl := tsort_len (e := eSt) (reach h s)
    simp
    rw [lc_all (e := eSt) (tsort eSt (reach h s)) (fun x => .bool (meets x wish)) (by simp) (by unfold LIM; omega) (fun x hx => ⟨_, rfl, by
      have hx2 := mem_tsort.mp hx
      simp [f_meets wish ((reach_ok w o hx2).len1 w)]⟩)]
    have hany : (tsort eSt (reach h s)).any (fun x => meets x wish) = false := by
      rw [List.any_eq_false]
      intro x hx
      rw [hno x (mem_tsort.mp hx)]
      exact Bool.false_ne_true
    simp [any_map, hany]) ?_
  exact Rt.ev (by simp; and_intros <;> rfl) .of
theorem sort_come {s : Stand} {M : Mem} : vSortA [.fdc (EV.eDc eSt eVC (comeTo h s))] M = some (.dat (.list ((tsort eSt (reach h s)).map eSt)), M) := by
  unfold vSortA orN v1N vSort vSortM
  simp [asL, asM, dc_keys, keys_comeTo, sortB_map (e := eSt) (by decide), sortD_map]
theorem f_idle (w : T.World R k h) (o : Ok R k s) : F_idle_keys [.dat (eH h), .dat (eSt s)] M = .ok (.dat (.list ((idle h s).map ePr))) M := by
  refine pure_fn rfl rfl rfl ?_
  have hh := w.hl
  unfold m_idle_keys
  refine rt_seq (ρ1 := [some (.dat (eH h)), some (.dat (eSt s)), some (.dat (.list ((tsort eSt (reach h s)).map eSt))), none, none]) (M1 := []) (by simp [f_come_to w o, sort_come]) ?_
  refine rt_seq (ρ1 := [some (.dat (eH h)), some (.dat (eSt s)), some (.dat (.list ((tsort eSt (reach h s)).map eSt))), some (.obj 0), none]) (M1 := [.lst []]) (by simp) ?_
  rw [x_seq]
  refine bind_rt (for_dat (e := eWay) h (fun pre ρ M => ∃ a, ρ = [some (.dat (eH h)), some (.dat (eSt s)), some (.dat (.list ((tsort eSt (reach h s)).map eSt))), some (.obj 0), a] ∧ M = [.lst (((pre.filter (isIdle h s)).map fun v => (v.1, v.2.1)).map ePr)]) (by simp) ⟨_, rfl, by simp⟩ ?_) ?_
  · rintro p v q hq ρ M ⟨a, rfl, rfl⟩
    have hpl := congrArg List.length hq
    simp only [List.length_append, List.length_cons] at hpl
    have la : (((p.filter (isIdle h s)).map fun v => (v.1, v.2.1)).map ePr).length < LIM := by
      rw [List.length_map, List.length_map]
      have := List.length_filter_le (isIdle h s) p
      unfold LIM; omega
    rw [x_gN, sbind_nx]
    have wu := unkey_world w v
    have e1 : vLst [.dat (ePr (v.1, v.2.1))] [.lst (((p.filter (isIdle h s)).map fun v => (v.1, v.2.1)).map ePr)] = some (.dat (.list [ePr (v.1, v.2.1)]), [.lst (((p.filter (isIdle h s)).map fun v => (v.1, v.2.1)).map ePr)]) := rfl
    by_cases c1 : v.2.2 = true
    · by_cases c2 : tsort eSt (reach (unkey h v) s) = tsort eSt (reach h s)
      · have ei : isIdle h s v = true := by unfold isIdle; rw [c1, decide_eq_true c2]; rfl
        rw [List.filter_append, List.filter_cons_of_pos ei, List.filter_nil]
        refine nx_intro (by
          simp [-List.map_append, -List.map_map, c1, e1, f_unkey hh v, f_come_to wu o, sort_come, eq_L (e := eSt), c2, tyB_l0, app0 la]
          and_intros <;> rfl) ⟨_, rfl, by simp⟩
      · have ei : ¬ isIdle h s v = true := by unfold isIdle; rw [decide_eq_false c2, Bool.and_false]; exact Bool.false_ne_true
        rw [List.filter_append, List.filter_cons_of_neg ei, List.filter_nil, List.append_nil]
        refine nx_intro (by
          simp [-List.map_append, -List.map_map, c1, e1, f_unkey hh v, f_come_to wu o, sort_come, eq_L (e := eSt), c2]
          and_intros <;> rfl) ⟨_, rfl, by simp⟩
    · have ei : ¬ isIdle h s v = true := by unfold isIdle; rw [Bool.eq_false_iff.mpr c1, Bool.false_and]; exact Bool.false_ne_true
      rw [List.filter_append, List.filter_cons_of_neg ei, List.filter_nil, List.append_nil]
      refine nx_intro (by
        simp [-List.map_append, -List.map_map, c1]
        and_intros <;> rfl) ⟨_, rfl, by simp⟩
  · rintro ρ M ⟨a, rfl, rfl⟩
    rw [show ((h.filter (isIdle h s)).map fun v => (v.1, v.2.1)) = idle h s from rfl]
    exact Rt.ev (by simp; and_intros <;> rfl) .of
noncomputable def closedOf (h : House) (s : Stand) (wish : Wish) : Option (List Stand) := if canMeet h s wish = true then none else some (tsort eSt (reach h s))
theorem f_closed2 (w : T.World R k h) (o : Ok R k s) (wish : Wish) : F_closed_lot [.dat (eH h), .dat (eSt s), .dat (eW wish)] M = .ok (.dat (eO (eT eSt) (closedOf h s wish))) M := by
  unfold closedOf
  by_cases hc : canMeet h s wish = true
  · rw [if_pos hc]
    refine pure_fn rfl rfl rfl ?_
    unfold m_closed_lot
    have hrl := reach_len w o
    refine rt_seq (ρ1 := [some (.dat (eH h)), some (.dat (eSt s)), some (.dat (eW wish)), some (.dat (eT eSt (tsort eSt (reach h s)))), none]) (M1 := []) (by simp [f_come_to w o, sort_come]) ?_
    rw [x_seq]
    refine rt_bind (Rt.ev (by
      have hsl := tsort_len (e := eSt) (reach h s)
      simp
      rw [lc_all (e := eSt) (tsort eSt (reach h s)) (fun x => .bool (meets x wish)) (by simp) (by unfold LIM; omega) (fun x hx => ⟨_, rfl, by
        have hx2 := mem_tsort.mp hx
        simp [f_meets wish ((reach_ok w o hx2).len1 w)]⟩)]
      have hany : (tsort eSt (reach h s)).any (fun x => meets x wish) = true := by
        unfold canMeet at hc
        obtain ⟨x, hx, mx⟩ := List.any_eq_true.mp hc
        exact List.any_eq_true.mpr ⟨x, mem_tsort.mpr hx, mx⟩
      simp [any_map, hany]
      and_intros <;> rfl) .of)
  · rw [if_neg hc]
    refine f_closed w o fun x hx => ?_
    unfold canMeet at hc
    cases e : meets x wish with
    | false => rfl
    | true => exact absurd (List.any_eq_true.mpr ⟨x, hx, e⟩) hc
end
end W

set_option Elab.async false
set_option linter.all false
set_option maxRecDepth 100000
set_option maxHeartbeats 4000000
namespace G
/-! ### how far, reckoned on the way -/
section
variable {α β V : Type} [DecidableEq α]
theorem look_ext (mk : List (α × V) → α → β → V) (here : α) (p : β × α) (st : List (α × V) × List α) : ∃ g, (look mk here st p).1 = st.1 ++ g := by
  unfold look
  split
  · exact ⟨[], (List.append_nil _).symm⟩
  · exact ⟨_, rfl⟩
theorem look_fold_ext (mk : List (α × V) → α → β → V) (here : α) : ∀ (ps : List (β × α)) (st : List (α × V) × List α), ∃ g, (ps.foldl (look mk here) st).1 = st.1 ++ g
  | [], st => ⟨[], (List.append_nil _).symm⟩
  | p :: ps, st => by
    obtain ⟨g1, e1⟩ := look_ext mk here p st
    obtain ⟨g2, e2⟩ := look_fold_ext mk here ps (look mk here st p)
    exact ⟨g1 ++ g2, by rw [List.foldl_cons, e2, e1, List.append_assoc]⟩
theorem look_mem2 (mk : List (α × V) → α → β → V) (here : α) {e : α × V} : ∀ (ps : List (β × α)) (st : List (α × V) × List α), e ∈ (ps.foldl (look mk here) st).1 → e ∈ st.1 ∨ ∃ q ∈ ps, ∃ g, e = (q.2, mk (st.1 ++ g) here q.1) ∧ q.2 ∉ keys st.1
  | [], st, h => .inl h
  | p :: ps, st, h => by
    rw [List.foldl_cons] at h
    obtain ⟨g0, e0⟩ := look_ext mk here p st
    rcases look_mem2 mk here ps _ h with h | ⟨q, hq, g, e1, e2⟩
    · unfold look at h
      split at h
      · exact .inl h
      · rename_i hn
        rcases List.mem_append.mp h with h | h
        · exact .inl h
        · exact .inr ⟨p, List.mem_cons_self, [], by rw [List.append_nil]; exact List.mem_singleton.mp h, hn⟩
    · refine .inr ⟨q, List.mem_cons_of_mem _ hq, g0 ++ g, by rw [← List.append_assoc, ← e0]; exact e1, fun z => e2 ?_⟩
      rw [e0, keys_append]
      exact List.mem_append_left _ z
theorem lookAll_mem2 (mk : List (α × V) → α → β → V) (nb : α → List (β × α)) {e : α × V} : ∀ (row : List α) (st : List (α × V) × List α), e ∈ (row.foldl (lookAll mk nb) st).1 → e ∈ st.1 ∨ ∃ y ∈ row, ∃ q ∈ nb y, ∃ g, e = (q.2, mk (st.1 ++ g) y q.1) ∧ q.2 ∉ keys st.1
  | [], st, h => .inl h
  | x :: xs, st, h => by
    rw [List.foldl_cons] at h
    obtain ⟨g0, e0⟩ := look_fold_ext mk x (nb x) st
    have e0 : (lookAll mk nb st x).1 = st.1 ++ g0 := e0
    rcases lookAll_mem2 mk nb xs _ h with h | ⟨y, hy, q, hq, g, e1, e2⟩
    · rcases look_mem2 mk x (nb x) st h with h | ⟨q, hq, g, e1, e2⟩
      · exact .inl h
      · exact .inr ⟨x, List.mem_cons_self, q, hq, g, e1, e2⟩
    · refine .inr ⟨y, List.mem_cons_of_mem _ hy, q, hq, g0 ++ g, by rw [← List.append_assoc, ← e0]; exact e1, fun z => e2 ?_⟩
      rw [e0, keys_append]
      exact List.mem_append_left _ z
def mkNum : List (α × Nat) → α → β → Nat := fun D here _ => (EV.tGet D here).getD 0 + 1
theorem tGet_app {D g : List (α × V)} {x : α} (h : x ∈ keys D) : EV.tGet (D ++ g) x = EV.tGet D x := by
  obtain ⟨b, h1, _⟩ := W.tGet_mem h
  unfold EV.tGet at h1 ⊢
  rw [List.find?_append]
  cases e : D.find? fun p => decide (p.1 = x) with
  | none => rw [e] at h1; cases h1
  | some q => rfl
theorem bst_num (nb : α → List (β × α)) (s : α) : ∀ (n : Nat) (e : α × Nat), e ∈ (bst mkNum nb s 0 n).1 → e.1 ∈ (lev (nbx nb) s e.2).2
  | 0, e, h => by
    have := List.mem_singleton.mp h
    subst this
    exact List.mem_singleton.mpr rfl
  | n + 1, e, h => by
    rcases lookAll_mem2 mkNum nb _ _ (show e ∈ ((bst mkNum nb s 0 n).2.foldl (lookAll mkNum nb) ((bst mkNum nb s 0 n).1, [])).1 from h) with h | ⟨y, hy, q, hq, g, e1, e2⟩
    · exact bst_num nb s n e h
    · rw [bst_k2] at hy
      have hy1 : y ∈ keys (bst mkNum nb s 0 n).1 := by rw [bst_k1]; exact lev_sub (nbx nb) s n y hy
      obtain ⟨v, h1, h2⟩ := W.tGet_mem hy1
      have h3 := bst_num nb s n _ h2
      have hv : v = n := lev_once (nbx nb) s h3 hy
      subst hv
      rw [bst_k1] at e2
      have ev : mkNum ((bst mkNum nb s 0 v).1 ++ g) y q.1 = v + 1 := by
        show (EV.tGet ((bst mkNum nb s 0 v).1 ++ g) y).getD 0 + 1 = v + 1
        rw [tGet_app hy1, h1]; rfl
      rw [e1, ev, lev_succ]
      exact mem_news.mpr ⟨List.mem_flatMap.mpr ⟨y, hy, List.mem_map.mpr ⟨q, hq, rfl⟩⟩, e2⟩
theorem Path.trans9 {nx : α → List α} {x y z : α} {n m : Nat} (p : Path nx x n y) (q : Path nx y m z) : Path nx x (n + m) z := by
  induction q with
  | zero => exact p
  | succ q h ih => exact .succ ih h
theorem near_path {nx : α → List α} {s x : α} {n : Nat} (p : Path nx s n x) : ∃ m, m ≤ n ∧ x ∈ (lev nx s m).2 := by
  induction n using Nat.strongRecOn with
  | _ n ih =>
    by_cases q : ∃ j, j < n ∧ Path nx s j x
    · obtain ⟨j, hj, pj⟩ := q
      obtain ⟨m, h1, h2⟩ := ih j hj pj
      exact ⟨m, by omega, h2⟩
    · exact ⟨n, Nat.le_refl _, (mem_row nx s).mpr ⟨p, fun j hj pj => q ⟨j, hj, pj⟩⟩⟩
end
end G
namespace T
open PySem G
/-! ### rooms by ways alone -/
def wnb (h : House) (r : Room) : List (Way × Room) := (h.filter fun w => decide (w.1 = r)).map fun w => (w, w.2.1)
def wnx (h : House) (r : Room) : List Room := (h.filter fun w => decide (w.1 = r)).map fun w => w.2.1
theorem nbx_wnb (h : House) : nbx (wnb h) = wnx h := by
  funext r
  unfold nbx wnb wnx
  rw [List.map_map]; rfl
theorem mem_wnx {h : House} {r y : Room} : y ∈ wnx h r ↔ ∃ w ∈ h, w.1 = r ∧ w.2.1 = y := by
  unfold wnx
  rw [List.mem_map]
  constructor
  · rintro ⟨w, h1, h2⟩
    obtain ⟨h3, h4⟩ := List.mem_filter.mp h1
    exact ⟨w, h3, of_decide_eq_true h4, h2⟩
  · rintro ⟨w, h1, h2, h3⟩
    exact ⟨w, List.mem_filter.mpr ⟨h1, decide_eq_true h2⟩, h3⟩
noncomputable def waysD (h : House) (p : Room) : List (Room × Nat) := (bst mkNum (wnb h) p 0 FUEL).1
noncomputable def wayN (h : House) (p x : Room) : Option Nat := EV.tGet (waysD h p) x
section
variable {R : List Room} {h : House} {p x : Room}
theorem keys_ways : keys (waysD h p) = (lev (wnx h) p FUEL).1 := by
  unfold waysD
  rw [bst_k1, nbx_wnb]
theorem wnx_in (hE : Ends R h) {r y : Room} (hy : y ∈ wnx h r) : y ∈ R := by
  obtain ⟨w, h1, _, rfl⟩ := mem_wnx.mp hy
  exact (hE w h1).2
theorem ways_end (hE : Ends R h) (hR : R.length ≤ 100) (hp : p ∈ R) : (lev (wnx h) p FUEL).2 = [] := by
  obtain ⟨n, hn, e, _⟩ := lev_end (wnx h) p (u := R) hp (fun x hx y hy => wnx_in hE hy)
  have h1 := lev_stop (wnx h) p e (FUEL - n)
  have h3 := FUEL_eq
  rw [show n + (FUEL - n) = FUEL by omega] at h1
  rw [h1]
theorem wayN_some {m : Nat} (e : wayN h p x = some m) : x ∈ (lev (wnx h) p m).2 := by
  unfold wayN at e
  have hx : x ∈ keys (waysD h p) := by
    unfold EV.tGet at e
    cases q : (waysD h p).find? fun p => decide (p.1 = x) with
    | none => rw [q] at e; cases e
    | some z =>
      have h1 := List.find?_some q
      exact List.mem_map.mpr ⟨z, List.mem_of_find?_eq_some q, of_decide_eq_true h1⟩
  obtain ⟨b, h1, h2⟩ := W.tGet_mem hx
  rw [e] at h1
  cases h1
  have := bst_num (wnb h) p FUEL _ h2
  rw [nbx_wnb] at this
  exact this
theorem wayN_of (hE : Ends R h) (hR : R.length ≤ 100) (hp : p ∈ R) {n : Nat} (pa : Path (wnx h) p n x) : ∃ m, m ≤ n ∧ wayN h p x = some m := by
  have hx : x ∈ keys (waysD h p) := by
    rw [keys_ways]
    exact (lev_all (wnx h) p (ways_end hE hR hp)).mpr ⟨n, pa⟩
  obtain ⟨m, h1, _⟩ := W.tGet_mem hx
  refine ⟨m, ?_, h1⟩
  have h2 := wayN_some (show wayN h p x = some m from h1)
  rcases Nat.lt_or_ge n m with q | q
  · exact absurd pa (((mem_row (wnx h) p).mp h2).2 n q)
  · exact q
theorem wayN_path {m : Nat} (e : wayN h p x = some m) : Path (wnx h) p m x := ((mem_row (wnx h) p).mp (wayN_some e)).1
end
/-! ### stands, seen walker by walker -/
section
variable {R : List Room} {k : Nat} {h : House} {s t : Stand}
theorem gone1 {p : Step} (hp : p.1 < s.1.length) : (gone s p).1 = s.1.set p.1 p.2 := after_set hp
theorem nth_set {l : List Room} {i j : Nat} {x : Room} (hi : i < l.length) : nth (l.set i x) j = if j = i then x else nth l j := by
  unfold nth
  rw [List.getD_eq_getElem?_getD, List.getD_eq_getElem?_getD]
  by_cases q : j = i
  · subst q
    rw [if_pos rfl, List.getElem?_set_self hi]; rfl
  · rw [if_neg q, List.getElem?_set_ne (Ne.symm q)]
theorem step_way {p : Step} (hp : p ∈ steps h s) : p.1 < s.1.length ∧ p.2 ∈ wnx h (nth s.1 p.1) := by
  obtain ⟨h1, w, h2, h3, h4, _⟩ := mem_steps.mp hp
  exact ⟨h1, mem_wnx.mpr ⟨w, h2, h3, h4⟩⟩
theorem sum_upd {f g : Nat → Nat} {j : Nat} (hj : g j = f j + 1) (ho : ∀ i, i ≠ j → g i = f i) : ∀ k, ((List.range k).map g).sum = ((List.range k).map f).sum + (if j < k then 1 else 0)
  | 0 => rfl
  | k + 1 => by
    rw [List.range_succ, List.map_append, List.map_append, List.sum_append, List.sum_append, sum_upd hj ho k]
    simp only [List.map_cons, List.map_nil, List.sum_cons, List.sum_nil, Nat.add_zero]
    by_cases q : j = k
    · subst q
      rw [hj, if_neg (Nat.lt_irrefl _), if_pos (Nat.lt_succ_self _)]
      omega
    · rw [ho k (Ne.symm q)]
      by_cases q2 : j < k
      · rw [if_pos q2, if_pos (by omega)]; omega
      · rw [if_neg q2, if_neg (by omega)]; omega
/-- a walk is a walk of each -/
theorem proj {n : Nat} (p : Path (nxt h) s n t) : t.1.length = s.1.length ∧ ∃ f : Nat → Nat, ((List.range s.1.length).map f).sum = n ∧ ∀ i, i < s.1.length → Path (wnx h) (nth s.1 i) (f i) (nth t.1 i) := by
  induction p with
  | zero =>
    refine ⟨rfl, fun _ => 0, ?_, fun i _ => .zero⟩
    generalize s.1.length = k
    induction k with
    | zero => rfl
    | succ k ih => rw [List.range_succ, List.map_append, List.sum_append, ih]; rfl
  | @succ n x y p hy ih =>
    obtain ⟨q, hq, rfl⟩ := List.mem_map.mp hy
    obtain ⟨hl, f, hf, hw⟩ := ih
    obtain ⟨h1, h2⟩ := step_way hq
    refine ⟨by rw [gone1 h1, List.length_set, hl], fun i => if i = q.1 then f i + 1 else f i, ?_, fun i hi => ?_⟩
    · rw [sum_upd (f := f) (j := q.1) (by simp) (fun i hi => by simp [hi]), hf, if_pos (by omega)]
    · rw [gone1 h1, nth_set h1]
      by_cases e : i = q.1
      · subst e
        rw [if_pos rfl]
        simp only [if_true]
        exact .succ (hw _ hi) h2
      · rw [if_neg e]
        simp only [e, if_false]
        exact hw i hi
def easyH (h : House) : House := h.map fun w => (w.1, w.2.1, true)
theorem wnx_easy (h : House) : wnx (easyH h) = wnx h := by
  funext r
  unfold wnx easyH
  rw [List.filter_map, List.map_map]
  rfl
theorem step_easy {p : Step} : p ∈ steps (easyH h) s ↔ p.1 < s.1.length ∧ p.2 ∈ wnx h (nth s.1 p.1) := by
  constructor
  · intro hp
    have := step_way hp
    rw [wnx_easy] at this
    exact this
  · rintro ⟨h1, h2⟩
    obtain ⟨w, h3, h4, h5⟩ := mem_wnx.mp h2
    refine mem_steps.mpr ⟨h1, (w.1, w.2.1, true), List.mem_map.mpr ⟨w, h3, rfl⟩, h4, h5, ?_⟩
    unfold canGo
    simp
/-- one goes where ways lead, all keys there -/
theorem move {i m : Nat} {x : Room} (hi : i < s.1.length) (p : Path (wnx h) (nth s.1 i) m x) : ∃ t, Path (nxt (easyH h)) s m t ∧ t.1.length = s.1.length ∧ ∀ j, nth t.1 j = if j = i then x else nth s.1 j := by
  induction p with
  | zero =>
    refine ⟨s, .zero, rfl, fun j => ?_⟩
    by_cases q : j = i
    · rw [if_pos q, q]
    · rw [if_neg q]
  | @succ n y z p hz ih =>
    obtain ⟨t, p1, p2, p3⟩ := ih
    have hi2 : i < t.1.length := by omega
    have hs : (i, z) ∈ steps (easyH h) t := step_easy.mpr ⟨hi2, by show z ∈ wnx h (nth t.1 i); rw [p3 i, if_pos rfl]; exact hz⟩
    refine ⟨gone t (i, z), .succ p1 (List.mem_map.mpr ⟨_, hs, rfl⟩), by rw [gone1 hi2, List.length_set, p2], fun j => ?_⟩
    rw [gone1 hi2, nth_set hi2, p3 j]
    by_cases q : j = i
    · rw [if_pos q, if_pos q]
    · rw [if_neg q, if_neg q, if_neg q]
theorem move_all {m : Nat → Nat} {g : Nat → Room} (hp : ∀ i, i < s.1.length → Path (wnx h) (nth s.1 i) (m i) (g i)) : ∀ j, j ≤ s.1.length → ∃ t, Path (nxt (easyH h)) s ((List.range j).map m).sum t ∧ t.1.length = s.1.length ∧ ∀ i, nth t.1 i = if i < j then g i else nth s.1 i
  | 0, _ => ⟨s, .zero, rfl, fun i => by rw [if_neg (Nat.not_lt_zero _)]⟩
  | j + 1, hj => by
    obtain ⟨t, p1, p2, p3⟩ := move_all hp j (by omega)
    have hjt : j < t.1.length := by omega
    have pj := hp j (by omega)
    rw [← (show nth t.1 j = nth s.1 j by rw [p3 j, if_neg (Nat.lt_irrefl _)])] at pj
    obtain ⟨t2, q1, q2, q3⟩ := move (s := t) hjt pj
    refine ⟨t2, ?_, by rw [q2, p2], fun i => ?_⟩
    · rw [List.range_succ, List.map_append, List.sum_append]
      exact Path.trans9 p1 (by simpa using q1)
    · rw [q3 i, p3 i]
      by_cases e : i = j
      · rw [if_pos e, if_pos (by omega), e]
      · rw [if_neg e]
        by_cases e2 : i < j
        · rw [if_pos e2, if_pos (by omega)]
        · rw [if_neg e2, if_neg (by omega)]
/-! ### with all keys -/
noncomputable def cost (h : House) (q : Room × Option Room) : Option Nat := match q.2 with
  | none => some 0
  | some x => wayN h q.1 x
noncomputable def lawSum (h : House) : List (Room × Option Room) → Option Nat
  | [] => some 0
  | q :: l => match cost h q, lawSum h l with
    | some a, some b => some (a + b)
    | _, _ => none
theorem lawSum_map (h : House) (f : Nat → Room × Option Room) : ∀ (l : List Nat), ((∃ i ∈ l, cost h (f i) = none) ∧ lawSum h (l.map f) = none) ∨ ∃ m : Nat → Nat, (∀ i ∈ l, cost h (f i) = some (m i)) ∧ lawSum h (l.map f) = some (l.map m).sum
  | [] => .inr ⟨fun _ => 0, (fun _ h => nomatch h), rfl⟩
  | x :: xs => by
    rcases lawSum_map h f xs with ⟨⟨i, h1, h2⟩, h3⟩ | ⟨m, h1, h2⟩
    · refine .inl ⟨⟨i, List.mem_cons_of_mem _ h1, h2⟩, ?_⟩
      rw [List.map_cons, lawSum, h3]
      cases cost h (f x) <;> rfl
    · cases e : cost h (f x) with
      | none => exact .inl ⟨⟨x, List.mem_cons_self, e⟩, by rw [List.map_cons, lawSum, e]⟩
      | some a =>
        have em : ∀ i ∈ x :: xs, cost h (f i) = some ((cost h (f i)).getD 0) := fun i hi => by
          rcases List.mem_cons.mp hi with rfl | hi
          · rw [e]; rfl
          · rw [h1 i hi]; rfl
        refine .inr ⟨fun i => (cost h (f i)).getD 0, em, ?_⟩
        rw [List.map_cons, lawSum, e, h2, List.map_cons, List.sum_cons, e]
        show some (a + (xs.map m).sum) = some (a + _)
        congr 3
        exact List.map_congr_left fun i hi => by rw [h1 i hi]; rfl
theorem zip_nth {P : List Room} {w : Wish} (hl : w.length = P.length) : P.zip w = (List.range P.length).map fun i => (nth P i, nth w i) := by
  refine List.ext_getElem (by simp [hl]) fun i h1 h2 => ?_
  simp only [List.getElem_zip, List.getElem_map, List.getElem_range]
  have hi : i < P.length := by simp at h1; omega
  rw [nth_of (List.getElem?_eq_getElem hi), nth_of (List.getElem?_eq_getElem (show i < w.length by omega))]
theorem easy_world (w : World R k h) : World R k (easyH h) := ⟨w.nd, fun v hv => by
    obtain ⟨u, hu, rfl⟩ := List.mem_map.mp hv
    exact w.ends u hu, by unfold easyH; rw [List.length_map]; exact w.hl, w.kl, w.rl, w.ul⟩
theorem sum_le9 {f g : Nat → Nat} : ∀ {l : List Nat}, (∀ i ∈ l, f i ≤ g i) → (l.map f).sum ≤ (l.map g).sum
  | [], _ => Nat.le_refl _
  | x :: xs, h => by
    have h1 := h x List.mem_cons_self
    have h2 := sum_le9 (l := xs) fun i hi => h i (List.mem_cons_of_mem _ hi)
    rw [List.map_cons, List.map_cons, List.sum_cons, List.sum_cons]
    omega
theorem easy_sum (w : World R k h) (o : Ok R k s) {wish : Wish} (hw : wish.length = k) : (shortestS (easyH h) s wish).map List.length = lawSum h (s.1.zip wish) := by
  have we := easy_world w
  have hl : wish.length = s.1.length := by rw [hw, o.len]
  have hR : ∀ i, i < s.1.length → nth s.1 i ∈ R := fun i hi => o.pl _ (nth_mem hi)
  rw [zip_nth hl]
  have key : ∀ {n : Nat} {x : Stand}, Path (nxt (easyH h)) s n x → meets x wish = true → ∀ (m : Nat → Nat), (∀ i ∈ List.range s.1.length, cost h (nth s.1 i, nth wish i) = some (m i) ∨ cost h (nth s.1 i, nth wish i) = none) →
      (∀ i ∈ List.range s.1.length, cost h (nth s.1 i, nth wish i) = some (m i)) ∧ ((List.range s.1.length).map m).sum ≤ n := fun {n x} p mx m hc => by
    obtain ⟨hxl, f, hf, hp⟩ := proj p
    have hm := (meets_iff (k := s.1.length) hxl hl).mp mx
    have each : ∀ i ∈ List.range s.1.length, cost h (nth s.1 i, nth wish i) = some (m i) ∧ m i ≤ f i := fun i hi => by
      have hi' := List.mem_range.mp hi
      have pi := hp i hi'
      rw [wnx_easy] at pi
      rcases hm i hi' with e | e
      · have e0 : cost h (nth s.1 i, nth wish i) = some 0 := by unfold cost; rw [e]
        rcases hc i hi with c | c
        · rw [e0] at c
          rw [e0]
          exact ⟨c, by rw [← Option.some.inj c]; exact Nat.zero_le _⟩
        · rw [e0] at c; cases c
      · have e0 : cost h (nth s.1 i, nth wish i) = wayN h (nth s.1 i) (nth x.1 i) := by unfold cost; rw [e]
        obtain ⟨a, ha, ea⟩ := wayN_of w.ends w.rl (hR i hi') pi
        rcases hc i hi with c | c
        · rw [e0, ea] at c
          rw [e0, ea]
          exact ⟨c, by cases c; exact ha⟩
        · rw [e0, ea] at c; cases c
    exact ⟨fun i hi => (each i hi).1, by rw [← hf]; exact sum_le9 fun i hi => (each i hi).2⟩
  rcases lawSum_map h (fun i => (nth s.1 i, nth wish i)) (List.range s.1.length) with ⟨⟨i, h1, h2⟩, h3⟩ | ⟨m, h1, h2⟩
  · rw [h3]
    cases e : shortestS (easyH h) s wish with
    | none => rfl
    | some l =>
      obtain ⟨⟨x, _, mx, hx⟩, _⟩ := shortest_some we o e
      have p := ((mem_row (nxt (easyH h)) s).mp hx).1
      have := (key p mx (fun i => (cost h (nth s.1 i, nth wish i)).getD 0) (fun i hi => by
        cases q : cost h (nth s.1 i, nth wish i) with
        | none => exact .inr rfl
        | some a => exact .inl rfl)).1 i h1
      rw [h2] at this; cases this
  · rw [h2]
    obtain ⟨t, p1, p2, p3⟩ := move_all (h := h) (s := s) (m := m) (g := fun i => (nth wish i).getD (nth s.1 i)) (fun i hi => by
      have c := h1 i (List.mem_range.mpr hi)
      unfold cost at c
      dsimp only at c
      cases q : nth wish i with
      | none =>
        rw [q] at c
        have : m i = 0 := (Option.some.inj c).symm
        rw [this]
        exact .zero
      | some r =>
        rw [q] at c
        exact wayN_path c) s.1.length (Nat.le_refl _)
    have mt : meets t wish = true := (meets_iff (k := s.1.length) p2 hl).mpr fun i hi => by
      have := p3 i
      rw [if_pos hi] at this
      cases q : nth wish i with
      | none => exact .inl rfl
      | some r =>
        rw [q] at this
        exact .inr (by rw [this]; rfl)
    have hne := (sh_meets we o (wish := wish)).mpr ⟨_, t, p1, mt⟩
    cases e : shortestS (easyH h) s wish with
    | none => exact absurd e hne
    | some l =>
      obtain ⟨⟨x, _, mx, hx⟩, hmin⟩ := shortest_some we o e
      have p := ((mem_row (nxt (easyH h)) s).mp hx).1
      have le1 := hmin _ t p1 mt
      have le2 := (key p mx m fun i hi => .inl (h1 i hi)).2
      show some l.length = some _
      congr 1
      omega
end
end T

set_option Elab.async false
set_option linter.all false
set_option maxRecDepth 100000
set_option maxHeartbeats 4000000
namespace T
open PySem G
/-! ### one alone, nothing shut -/
section
variable {R : List Room} {h : House} {p x : Room} {s t : Stand}
theorem mem_shut {q : Step} {r : Room} : r ∈ (gone s q).2 ↔ (r ∈ s.2 ∧ r ≠ q.2) ∨ (r = nth s.1 q.1 ∧ nth s.1 q.1 ∉ after s q) := by
  unfold gone
  rw [mem_tsort, List.mem_append, List.mem_filter, Bool.not_eq_true', decide_eq_false_iff_not]
  by_cases c : nth s.1 q.1 ∈ after s q
  · rw [if_pos c]
    simp only [c, not_true, and_false, or_false, List.not_mem_nil, ne_eq]
  · rw [if_neg c]
    simp only [c, not_false_iff, and_true, List.mem_singleton, ne_eq]
theorem first_ok (hp : p ∈ R) : Ok R 1 ([p], []) := ⟨rfl, fun r hr => by rw [List.mem_singleton.mp hr]; exact hp, fun r hr => (nomatch hr), List.nodup_nil, List.Pairwise.nil, fun r hr => (nomatch hr)⟩
/-- the first time in each room nothing bars -/
theorem climb : ∀ (j : Nat) (x : Room), x ∈ (lev (wnx h) p j).2 → ∃ t, Path (nxt h) ([p], []) j t ∧ t.1 = [x] ∧ ∀ r ∈ t.2, ∃ i, i < j ∧ r ∈ (lev (wnx h) p i).2
  | 0, x, hx => by
    have e : x = p := List.mem_singleton.mp hx
    exact ⟨([p], []), .zero, by rw [e], fun r hr => (nomatch hr)⟩
  | j + 1, x, hx => by
    have hx0 := hx
    rw [lev_succ] at hx0
    obtain ⟨h1, h2⟩ := mem_news.mp hx0
    obtain ⟨y, hy, hxy⟩ := List.mem_flatMap.mp h1
    obtain ⟨t, p1, p2, p3⟩ := climb j y hy
    obtain ⟨w, w1, w2, w3⟩ := mem_wnx.mp hxy
    have hnot : x ∉ t.2 := fun hin => by
      obtain ⟨i, hi, hl⟩ := p3 x hin
      have := lev_once (wnx h) p hl hx
      omega
    have hlen : 0 < t.1.length := by rw [p2]; exact Nat.zero_lt_one
    have hn : nth t.1 0 = y := by rw [p2]; rfl
    have hs : (0, x) ∈ steps h t := mem_steps.mpr ⟨hlen, w, w1, by rw [hn]; exact w2, w3, by
      unfold canGo
      rw [w3]
      simp [hnot]⟩
    refine ⟨gone t (0, x), .succ p1 (List.mem_map.mpr ⟨_, hs, rfl⟩), by rw [gone1 hlen, p2]; rfl, fun r hr => ?_⟩
    rcases mem_shut.mp hr with ⟨a, _⟩ | ⟨a, _⟩
    · obtain ⟨i, hi, hl⟩ := p3 r a
      exact ⟨i, by omega, hl⟩
    · have : r = y := a.trans hn
      exact ⟨j, Nat.lt_succ_self _, this ▸ hy⟩
theorem meets1 {x r : Room} {d : List Room} : meets ([x], d) [some r] = decide (r = x) := by
  unfold meets
  simp
theorem len1 {l : List Room} (h : l.length = 1) : ∃ x, l = [x] := by
  match l, h with
  | [x], _ => exact ⟨x, rfl⟩
theorem one_way (w : World R 1 h) (hp : p ∈ R) (r : Room) : (shortestS h ([p], []) [some r]).map List.length = wayN h p r := by
  have o := first_ok (R := R) hp
  have low : ∀ {n : Nat} {x : Stand}, Path (nxt h) ([p], []) n x → meets x [some r] = true → ∃ m, m ≤ n ∧ wayN h p r = some m := fun {n x} pa mx => by
    obtain ⟨hl, f, hf, hw⟩ := proj pa
    obtain ⟨y, hy⟩ := len1 (show x.1.length = 1 from hl)
    have hx : x = ([y], x.2) := by rw [← hy]
    rw [hx, meets1] at mx
    have e : r = y := of_decide_eq_true mx
    have := hw 0 Nat.zero_lt_one
    rw [hy] at this
    have hf' : f 0 = n := by
      have : ((List.range 1).map f).sum = n := hf
      simpa using this
    rw [hf'] at this
    have this : Path (wnx h) p n y := this
    rw [← e] at this
    exact wayN_of w.ends w.rl hp this
  cases e : shortestS h ([p], []) [some r] with
  | none =>
    cases q : wayN h p r with
    | none => rfl
    | some m =>
      obtain ⟨t, p1, p2, _⟩ := climb m r (wayN_some q)
      have mt : meets t [some r] = true := by
        have : t = ([r], t.2) := by rw [← p2]
        rw [this, meets1]
        simp
      exact absurd e ((sh_meets w o (wish := [some r])).mpr ⟨m, t, p1, mt⟩)
  | some l =>
    obtain ⟨⟨x, _, mx, hx⟩, hmin⟩ := shortest_some w o e
    have pa := ((mem_row (nxt h) ([p], [])).mp hx).1
    obtain ⟨m, hm, em⟩ := low pa mx
    rw [em]
    obtain ⟨t, p1, p2, _⟩ := climb m r (wayN_some em)
    have mt : meets t [some r] = true := by
      have : t = ([r], t.2) := by rw [← p2]
      rw [this, meets1]
      simp
    have := hmin m t p1 mt
    show some l.length = some m
    congr 1
    omega
/-- no way to a room has its key -/
def noKey (h : House) (p : Room) : Prop := ∀ w ∈ h, w.2.1 = p → w.2.2 = false
theorem shut_out (nk : noKey h p) {q : Step} (hs : p ∈ s.2) (hq : q ∈ steps h s) : q.2 ≠ p ∧ p ∈ (gone s q).2 := by
  obtain ⟨h1, w, h2, h3, h4, h5⟩ := mem_steps.mp hq
  have hne : q.2 ≠ p := fun e => by
    have := nk w h2 (h4.trans e)
    unfold canGo at h5
    rw [this, h4, e] at h5
    simp [hs] at h5
  exact ⟨hne, mem_shut.mpr (.inl ⟨hs, Ne.symm hne⟩)⟩
theorem left_shut (w : World R 1 h) (hp : p ∈ R) (nk : noKey h p) {n : Nat} {y : Stand} (pa : Path (nxt h) ([p], []) n y) : y.1 = [p] ∨ p ∈ y.2 := by
  have o := first_ok (R := R) hp
  have := Path.inv (nxt h) ([p], []) (P := fun y => Ok R 1 y ∧ (y.1 = [p] ∨ p ∈ y.2)) ⟨o, .inl rfl⟩ (fun z ⟨oz, hz⟩ y hy => by
    obtain ⟨q, hq, rfl⟩ := List.mem_map.mp hy
    refine ⟨(step_ok w.ends oz hq).2.2, ?_⟩
    have h1 := (step_ok w.ends oz hq).1
    rcases hz with hz | hz
    · have hn : q.1 = 0 := by have := oz.len; omega
      have hn2 : nth z.1 q.1 = p := by rw [hn, hz]; rfl
      have ha : (gone z q).1 = [q.2] := by rw [gone1 h1, hz, hn]; rfl
      by_cases c : q.2 = p
      · exact .inl (by rw [ha, c])
      · refine .inr (mem_shut.mpr (.inr ⟨hn2.symm, ?_⟩))
        rw [hn2, show after z q = (gone z q).1 from rfl, ha]
        exact fun z => c (List.mem_singleton.mp z).symm
    · exact .inr (shut_out nk hz hq).2) pa
  exact this.2
theorem no_back (w : World R 1 h) (hp : p ∈ R) (nk : noKey h p) {n : Nat} {y : Stand} (pa : Path (nxt h) ([p], []) n y) (hy : y.1 ≠ [p]) : shortestS h y [some p] = none := by
  have o := first_ok (R := R) hp
  have oy : Ok R 1 y := Path.inv (nxt h) ([p], []) o (fun z oz y hy => nxt_ok w.ends oz y hy) pa
  have hs : p ∈ y.2 := (left_shut w hp nk pa).resolve_left hy
  rw [shortest_none]
  intro x hx
  obtain ⟨m, pm⟩ := (mem_reach w oy).mp hx
  have inv := Path.inv (nxt h) y (P := fun z => Ok R 1 z ∧ p ∈ z.2) ⟨oy, hs⟩ (fun z ⟨oz, hz⟩ v hv => by
    obtain ⟨q, hq, rfl⟩ := List.mem_map.mp hv
    exact ⟨(step_ok w.ends oz hq).2.2, (shut_out nk hz hq).2⟩) pm
  obtain ⟨z, hz⟩ := len1 (show x.1.length = 1 from inv.1.len)
  have hx : x = ([z], x.2) := by rw [← hz]
  rw [hx, meets1]
  refine decide_eq_false fun e => inv.1.dis p inv.2 ?_
  rw [hz, e]
  exact List.mem_singleton.mpr rfl
end
end T

set_option Elab.async false
set_option linter.all false
set_option maxRecDepth 100000
set_option maxHeartbeats 4000000
namespace W
open PySem PySem.Spec PyProof.Rows L2 QL
abbrev N__law_ways : List Str := ["house", "place", "found", "row", "later", "here", "one", "other", "key"]
def m__law_ways : EvS := sSeq (sSet 2 (eT1 (eVar 1) (eD (.int 0))))
  (sSeq (sSet 3 (eBi vLst (aCons (eVar 1) (aNil))))
  (sSeq (whileL (eB (e2 vNe (eVar 3) (eBi vLst (aNil)))) (sSeq (sSet 4 (eBi vNewL (aNil)))
  (sSeq (sFor (iAny (eVar 3)) (gN 5) (sFor (iAny (eVar 0)) (gT ([6, 7, 8].map gN)) (sIf (bAnd (eB (e2 vEq (eVar 6) (eVar 5))) (eB (e2 (vInA true) (eVar 7) (eVar 2)))) (sSeq (sPut vPutA (e2 vAdd (e2 vIxA (eVar 2) (eVar 5)) (eD (.int 1))) (eVar 2) (eVar 7))
  (sDrop (eMt "list" mAppend (eVar 4) (aCons (eVar 7) (aNil))))) (sSkip))))
  (sSet 3 (eFrz (eVar 4))))) 20000)
  (sRet (eFrz (eVar 2)))))
def F__law_ways : FnF := pureF (fnRes N__law_ways.length (["house", "place"] : List Str).length m__law_ways)
abbrev N__law_sum : List Str := ["house", "places", "wish", "total", "place", "room", "known"]
def m__law_sum : EvS := sSeq (sSet 3 (eD (.int 0)))
  (sSeq (sFor (iZipQ (eVar 1) (eVar 2)) (gT ([4, 5].map gN)) (sSeq (sSet 6 (eCall F__law_ways (aCons (eVar 0) (aCons (eVar 4) (aNil)))))
  (sSeq (sIf (bAnd (eB (e2 vIsNot (eVar 5) (eD .none))) (eB (e2 (vInA true) (eVar 5) (eVar 6)))) (sRet (eD .none)) (sSkip))
  (sSet 3 (e2 vAdd (eVar 3) (eIf (eB (e2 vIsNot (eVar 5) (eD .none))) (e2 vIxA (eVar 6) (eVar 5)) (eD (.int 0))))))))
  (sRet (eVar 3)))
def F__law_sum : FnF := pureF (fnRes N__law_sum.length (["house", "places", "wish"] : List Str).length m__law_sum)
abbrev N_law : List Str := ["script", "cell", "deck", "house", "stand", "easy", "k", "wish", "walk", "some", "place", "begin", "known", "room", "after", "back", "keyed", "way", "one", "other", "key"]
def m_law : EvS := sSeq (sFor (iAny (e2 vAdd (eBi vLst (aCons (eD (.int 0)) (aNil))) (eSl (eVar 0) (oNone) (oSome (eD (.int 8)))))) (gN 1) (sSeq (sSet 2 (eCall F__law_deck (aCons (eVar 1) (aCons (eD (.int 9)) (aNil)))))
  (sSeq (sAsg (eCall F__law_scene (aCons (eVar 2) (aNil))) (gT ([3, 4].map gN)))
  (sSeq (sSet 5 (eBi (v1N vToT) (aCons (eLc (iAny (eVar 3)) (.one 17) (bYes) (e2 vAdd (eSl (eVar 17) (oNone) (oSome (eD (.int 2)))) (eBi vTup (aCons (eD (.bool true)) (aNil)))) [17]) (aNil))))
  (sSeq (sFor (iRng1 (eD (.int 2))) (gN 6) (sSeq (sSet 7 (eCall F__law_wish (aCons (eVar 2) (aCons (eVar 3) (aCons (eBi (v1N vLen) (aCons (e2 vIxA (eVar 4) (eD (.int 0))) (aNil))) (aNil))))))
  (sSeq (sSet 8 (eCall F_shortest (aCons (eVar 5) (aCons (eVar 4) (aCons (eVar 7) (aNil))))))
  (sIf (eB (e2 vNe (eIf (eB (e2 vIs (eVar 8) (eD .none))) (eD .none) (eBi (v1N vLen) (aCons (eVar 8) (aNil)))) (eCall F__law_sum (aCons (eVar 3) (aCons (e2 vIxA (eVar 4) (eD (.int 0))) (aCons (eVar 7) (aNil))))))) (sRet (eD (.bool false))) (sSkip)))))
  (sSeq (sSet 9 (eCall F__law_rooms (aCons (eVar 3) (aNil))))
  (sSeq (sSet 10 (e2 vIxA (eVar 9) (eCall F__law_pick (aCons (eVar 2) (aCons (eBi (v1N vLen) (aCons (eVar 9) (aNil))) (aNil))))))
  (sSeq (sPar 11 12 (eCall F_first_stand (aCons (eBi vTup (aCons (eVar 10) (aNil))) (aNil))) (eCall F__law_ways (aCons (eVar 3) (aCons (eVar 10) (aNil)))))
  (sFor (iAny (eVar 9)) (gN 13) (sSeq (sSet 8 (eCall F_shortest (aCons (eVar 3) (aCons (eVar 11) (aCons (eBi vTup (aCons (eVar 13) (aNil))) (aNil))))))
  (sSeq (sIf (eB (e2 vNe (eIf (eB (e2 vIs (eVar 8) (eD .none))) (eD .none) (eBi (v1N vLen) (aCons (eVar 8) (aNil)))) (eMt "dict" mGet (eVar 12) (aCons (eVar 13) (aCons (eD .none) (aNil)))))) (sRet (eD (.bool false))) (sSkip))
  (sSeq (sIf (eB (e2 vNe (e2 vIs (eVar 8) (eD .none)) (e2 vIsNot (eCall F_closed_lot (aCons (eVar 3) (aCons (eVar 11) (aCons (eBi vTup (aCons (eVar 13) (aNil))) (aNil))))) (eD .none)))) (sRet (eD (.bool false))) (sSkip))
  (sIf (bAnd (eB (e2 vIsNot (eVar 8) (eD .none))) (eB (e2 vGt (eBi (v1N vLen) (aCons (eVar 8) (aNil))) (eD (.int 0))))) (sSeq (sSet 14 (eCall F_walked (aCons (eVar 3) (aCons (eVar 11) (aCons (eVar 8) (aNil))))))
  (sSeq (sSet 15 (eCall F_shortest (aCons (eVar 3) (aCons (eVar 14) (aCons (eBi vTup (aCons (eVar 10) (aNil))) (aNil))))))
  (sSeq (sSet 16 (eLc (iAny (eVar 3)) (.tup [18, 19, 20]) (bAnd (eB (e2 vEq (eVar 19) (eVar 10))) (eB (eVar 20))) (eVar 18) [18, 19, 20]))
  (sIf (bAnd (eB (e2 vIsNot (eVar 15) (eD .none))) (eB (e2 vEq (eVar 16) (eBi vLst (aNil))))) (sRet (eD (.bool false))) (sSkip))))) (sSkip))))))))))))))
  (sRet (eD (.bool true)))
def F_law : FnF := fnRes N_law.length (["script"] : List Str).length m_law
end W

set_option Elab.async false
set_option linter.all false
set_option maxRecDepth 100000
set_option maxHeartbeats 4000000
namespace EV
open PySem QL T G
/-! dicts of rooms -/
section
variable {β : Type} {f : β → PyData} {M : Mem}
def eTd (f : β → PyData) (d : List (T.Room × β)) : List (Str × PyData) := d.map fun p => (p.1.val, f p.2)
theorem td_any (d : List (T.Room × β)) (r : T.Room) : ((eTd f d).any fun p => decide (p.1 = r.val)) = decide (r ∈ keys d) := by
  rw [Bool.eq_iff_iff, List.any_eq_true, decide_eq_true_iff]
  unfold eTd keys
  constructor
  · rintro ⟨x, h1, h2⟩
    obtain ⟨p, hp, rfl⟩ := List.mem_map.mp h1
    exact List.mem_map.mpr ⟨p, hp, Subtype.ext (of_decide_eq_true h2)⟩
  · intro h
    obtain ⟨p, hp, rfl⟩ := List.mem_map.mp h
    exact ⟨_, List.mem_map.mpr ⟨p, hp, rfl⟩, by simp⟩
theorem td_get (d : List (T.Room × β)) (r : T.Room) : tdGet (eTd f d) r.val = (tGet d r).map f := by
  unfold tdGet tGet eTd
  rw [List.find?_map]
  have : ((fun p : Str × PyData => decide (p.1 = r.val)) ∘ fun p : T.Room × β => (p.1.val, f p.2)) = fun p => decide (p.1 = r) := by
    funext p
    simp only [Function.comp]
    rw [Bool.eq_iff_iff, decide_eq_true_iff, decide_eq_true_iff]
    exact ⟨fun h => Subtype.ext h, fun h => h ▸ rfl⟩
  rw [this]
  cases d.find? fun p => decide (p.1 = r) <;> rfl
theorem td_put {d : List (T.Room × β)} {r : T.Room} {b : β} (h : r ∉ keys d) : tdPut (eTd f d) r.val (f b) = eTd f (d ++ [(r, b)]) := by
  unfold tdPut
  rw [td_any, if_neg (by simp [h])]
  unfold eTd
  rw [List.map_append]; rfl
theorem td_len (d : List (T.Room × β)) : (eTd f d).length = d.length := by unfold eTd; rw [List.length_map]
theorem in_tdc {neg : Bool} (d : List (T.Room × β)) (r : T.Room) {i : Nat} (hM : M[i]? = some (.tdc (eTd f d))) : vInA neg (.dat (eR r)) (.obj i) M = some (.dat (.bool (if neg then !decide (r ∈ keys d) else decide (r ∈ keys d))), M) := by
  unfold vInA or2 vIn vInM vInT
  simp only [asD_d, asD, asM, asTd, strO, eR, hM, td_any, or2]
theorem in_ftd {neg : Bool} (d : List (T.Room × β)) (r : T.Room) : vInA neg (.dat (eR r)) (.ftd (eTd f d)) M = some (.dat (.bool (if neg then !decide (r ∈ keys d) else decide (r ∈ keys d))), M) := by
  unfold vInA or2 vIn vInM vInT
  simp only [asD_d, asD, asM, asTd, strO, eR, td_any, or2]
theorem ix_tdc {d : List (T.Room × β)} {r : T.Room} {b : β} {i : Nat} (hM : M[i]? = some (.tdc (eTd f d))) (h : tGet d r = some b) : vIxA (.obj i) (.dat (eR r)) M = some (.dat (f b), M) := by
  unfold vIxA or2 vIx or2 vIxT vIxL vIxM vIxD
  simp only [asT, asL, asM, asTd, strO, eR, hM, td_get, h, Option.map_some, or2]
theorem ix_ftd {d : List (T.Room × β)} {r : T.Room} {b : β} (h : tGet d r = some b) : vIxA (.ftd (eTd f d)) (.dat (eR r)) M = some (.dat (f b), M) := by
  unfold vIxA or2 vIx or2 vIxT vIxL vIxM vIxD
  simp only [asT, asL, asM, asTd, strO, eR, td_get, h, Option.map_some, or2]
theorem put_tdc {d : List (T.Room × β)} {r : T.Room} {b : β} {i : Nat} (hM : M[i]? = some (.tdc (eTd f d))) (hl : d.length < LIM) (h : r ∉ keys d) : vPutA (.obj i) (.dat (eR r)) (.dat (f b)) M = some (M.set i (.tdc (eTd f (d ++ [(r, b)])))) := by
  unfold vPutA or3 vPutL vPutM vPutT
  simp only [asL, asMo, asTo, strO, eR, hM, td_len, if_pos hl, td_put h, or3]
theorem get_ftd {d : List (T.Room × β)} {r : T.Room} : mGet (.ftd (eTd f d)) [.dat (eR r), .dat .none] M = some (.dat (eO f (tGet d r)), M) := by
  unfold mGet
  simp only [asM, asTd, strO, eR, td_get]
  cases tGet d r <;> rfl
theorem tyB_ftd (kvs : List (Str × PyData)) : tyB "dict" (.ftd kvs) M = true := rfl
theorem putT1_ok {r : T.Room} {b : β} {i : Nat} (hM : M[i]? = some (.tdc [])) : putT1 i (.dat (eR r)) (.dat (f b)) M = some (.obj i, M.set i (.tdc (eTd f [(r, b)]))) := by
  unfold putT1
  simp only [hM, strO, eR]
  rfl
theorem frz_tdc {kvs : List (Str × PyData)} {i : Nat} (hM : M[i]? = some (.tdc kvs)) : frzC (.obj i) M = some (.ftd kvs, M.set i .dead) := by
  unfold frzC
  simp only [hM]
end
end EV
namespace W
open PySem PySem.Spec PyProof.Rows L2 QL T EV G
section
variable {M : Mem} {h : House} {R : List T.Room} {p : T.Room}
theorem wnb_snoc (pre : House) (w : Way) (r : T.Room) : wnb (pre ++ [w]) r = wnb pre r ++ (if w.1 = r then [(w, w.2.1)] else []) := by
  unfold wnb
  rw [List.filter_append, List.map_append]
  congr 1
  by_cases q : w.1 = r
  · rw [if_pos q, List.filter_cons_of_pos (by simpa using q)]; rfl
  · rw [if_neg q, List.filter_cons_of_neg (by simpa using q)]; rfl
def memW (Ds : Mem) (st : List (T.Room × Nat) × List T.Room) : Mem := .tdc (eTd eN st.1) :: (Ds ++ [.lst (st.2.map eR)])
theorem f_law_ways (hE : Ends R h) (hR : R.length ≤ 100) (hp : p ∈ R) : F__law_ways [.dat (eH h), .dat (eR p)] M = .ok (.ftd (eTd eN (waysD h p))) M := by
  have hk2 : ∀ k, (bst mkNum (wnb h) p 0 k).2 = (lev (wnx h) p k).2 := fun k => by rw [bst_k2, nbx_wnb]
  have hk1 : ∀ k, keys (bst mkNum (wnb h) p 0 k).1 = (lev (wnx h) p k).1 := fun k => by rw [bst_k1, nbx_wnb]
  obtain ⟨N, hN, hend, hbefore⟩ := lev_end (wnx h) p (u := R) hp (fun x hx y hy => wnx_in hE hy)
  have hreach : ∀ k x, x ∈ (lev (wnx h) p k).1 → x ∈ R := fun k x hx => by
    obtain ⟨m, _, q⟩ := (mem_found (wnx h) p).mp hx
    exact Path.inv (wnx h) p (P := fun x => x ∈ R) hp (fun x hx y hy => wnx_in hE hy) q
  have hF := FUEL_eq
  have eD : waysD h p = (bst mkNum (wnb h) p 0 N).1 := bst_at mkNum (wnb h) p 0 (by rw [hk2, hend]) (by omega)
  rw [eD]
  refine pure_fn rfl rfl rfl ?_
  unfold m__law_ways
  have hp1 := putT1_ok (f := eN) (M := [.tdc []]) (r := p) (b := 0) (i := 0) rfl
  have e0 : (eN 0 : PyData) = .int 0 := rfl
  rw [e0] at hp1
  refine rt_seq (ρ1 := [some (.dat (eH h)), some (.dat (eR p)), some (.obj 0), none, none, none, none, none, none]) (M1 := [.tdc (eTd eN [(p, 0)])]) (by simp [hp1]) ?_
  refine rt_seq (ρ1 := [some (.dat (eH h)), some (.dat (eR p)), some (.obj 0), some (.dat (.list ((bst mkNum (wnb h) p 0 0).2.map eR))), none, none, none, none, none]) (M1 := [.tdc (eTd eN (bst mkNum (wnb h) p 0 0).1)]) (by simp [lst1 eR, bst]) ?_
  rw [x_seq]
  refine bind_rt (while_nx (fun k ρ M => ∃ a4 a5 a6 a7 a8, ρ = [some (.dat (eH h)), some (.dat (eR p)), some (.obj 0), some (.dat (.list ((bst mkNum (wnb h) p 0 k).2.map eR))), a4, a5, a6, a7, a8] ∧ ∃ Ds, M = .tdc (eTd eN (bst mkNum (wnb h) p 0 k).1) :: Ds) N ?_ ?_ 20000 0 _ _ (Nat.zero_le _) (by omega) ⟨_, _, _, _, _, rfl, [], rfl⟩) ?_
  · rintro k ρ M hk ⟨a4, a5, a6, a7, a8, rfl, Ds, rfl⟩
    have : decide (k < N) = !decide ((bst mkNum (wnb h) p 0 k).2 = []) := by
      rw [hk2]
      by_cases q : k < N
      · simp [q, hbefore k q]
      · obtain rfl : k = N := by omega
        simp [hend]
    rw [this]
    simp [ne_nil (e := eR)]
  · rintro k ρ M hk ⟨a4, a5, a6, a7, a8, rfl, Ds, rfl⟩
    have hrow : ∀ x ∈ (bst mkNum (wnb h) p 0 k).2, x ∈ R ∧ x ∈ keys (bst mkNum (wnb h) p 0 k).1 := fun x hx => by
      rw [hk2] at hx
      have h1 := lev_sub (wnx h) p k x hx
      exact ⟨hreach k x h1, by rw [hk1]; exact h1⟩
    have hok0 : LookOk (fun x => x ∈ R) ((bst mkNum (wnb h) p 0 k).1, ([] : List T.Room)) := ⟨by rw [hk1]; exact lev_nodup (wnx h) p k, fun x hx => hreach k x (by rw [hk1] at hx; exact hx), Nat.zero_le _⟩
    refine nx_seq (ρ1 := [some (.dat (eH h)), some (.dat (eR p)), some (.obj 0), some (.dat (.list ((bst mkNum (wnb h) p 0 k).2.map eR))), some (.obj (Ds.length + 1)), a5, a6, a7, a8]) (M1 := memW Ds ((bst mkNum (wnb h) p 0 k).1, [])) (by simp [memW]) ?_
    rw [x_seq]
    refine bind_nx (for_dat (e := eR) (bst mkNum (wnb h) p 0 k).2 (fun pre ρ M => ∃ a5 a6 a7 a8, ρ = [some (.dat (eH h)), some (.dat (eR p)), some (.obj 0), some (.dat (.list ((bst mkNum (wnb h) p 0 k).2.map eR))), some (.obj (Ds.length + 1)), a5, a6, a7, a8] ∧ M = memW Ds (pre.foldl (lookAll mkNum (wnb h)) ((bst mkNum (wnb h) p 0 k).1, [])) ∧ LookOk (fun x => x ∈ R) (pre.foldl (lookAll mkNum (wnb h)) ((bst mkNum (wnb h) p 0 k).1, [])) ∧ ∀ x ∈ keys (bst mkNum (wnb h) p 0 k).1, x ∈ keys (pre.foldl (lookAll mkNum (wnb h)) ((bst mkNum (wnb h) p 0 k).1, [])).1) (by simp) ⟨_, _, _, _, rfl, rfl, hok0, fun x hx => hx⟩ ?_) ?_
    · rintro pre here post hq ρ M ⟨a5, a6, a7, a8, rfl, rfl, hok, hsub⟩
      have hh := hrow here (by rw [hq]; simp)
      rw [List.foldl_append, List.foldl_cons, List.foldl_nil]
      generalize pre.foldl (lookAll mkNum (wnb h)) ((bst mkNum (wnb h) p 0 k).1, []) = st at hok hsub ⊢
      rw [x_gN, sbind_nx]
      refine Nx.mono (for_dat (e := eWay) h (fun pre ρ M => ∃ a6 a7 a8, ρ = [some (.dat (eH h)), some (.dat (eR p)), some (.obj 0), some (.dat (.list ((bst mkNum (wnb h) p 0 k).2.map eR))), some (.obj (Ds.length + 1)), some (.dat (eR here)), a6, a7, a8] ∧ M = memW Ds ((wnb pre here).foldl (look mkNum here) st) ∧ LookOk (fun x => x ∈ R) ((wnb pre here).foldl (look mkNum here) st) ∧ ∀ x ∈ keys st.1, x ∈ keys ((wnb pre here).foldl (look mkNum here) st).1) (by simp) ⟨_, _, _, rfl, rfl, hok, fun x hx => hx⟩ ?_) ?_
      · rintro pre2 w post2 hq2 ρ M ⟨a6, a7, a8, rfl, rfl, hok2, hsub2⟩
        have hw : w ∈ h := by rw [hq2]; simp
        rw [wnb_snoc, List.foldl_append]
        have hin : here ∈ keys ((wnb pre2 here).foldl (look mkNum here) st).1 := hsub2 here (hsub here hh.2)
        generalize (wnb pre2 here).foldl (look mkNum here) st = st2 at hok2 hsub2 hin ⊢
        have hsm := hok2.small (u := R) fun x hx => hx
        have hl2 := hok2.len
        have hM : (memW Ds st2)[0]? = some (.tdc (eTd eN st2.1)) := rfl
        by_cases q : w.1 = here
        · rw [if_pos q, List.foldl_cons, List.foldl_nil]
          have hok3 := hok2.look (mk := mkNum) (here := here) (q := (w, w.2.1)) (hE w hw).2
          by_cases hk : w.2.1 ∈ keys st2.1
          · refine nx_intro (by
              simp [eq_d (e := eR), in_tdc st2.1 w.2.1 hM, hk]
              and_intros <;> rfl) ⟨_, _, _, rfl, ?_, hok3, ?_⟩
            · unfold look; rw [if_pos hk]
            · unfold look; rw [if_pos hk]; exact hsub2
          · obtain ⟨b, hb, _⟩ := W.tGet_mem hin
            have hv := ix_tdc (f := eN) hM hb
            have hm : mkNum st2.1 here w = b + 1 := by unfold mkNum; rw [hb]; rfl
            have hput := put_tdc (f := eN) (M := memW Ds st2) (i := 0) (d := st2.1) (r := w.2.1) (b := b + 1) hM (by unfold LIM; omega) hk
            have hM2 : (memW Ds st2).set 0 (.tdc (eTd eN (st2.1 ++ [(w.2.1, b + 1)]))) = .tdc (eTd eN (st2.1 ++ [(w.2.1, b + 1)])) :: (Ds ++ [.lst (st2.2.map eR)]) := rfl
            rw [hM2] at hput
            refine nx_intro (by
              simp [eq_d (e := eR), q, in_tdc st2.1 w.2.1 hM, hk, hv, hput, tyB_last, app_last (Ds := Ds) (l := Ds.length + 1) (ds := st2.2.map eR) rfl (by rw [List.length_map]; unfold LIM; omega)]
              and_intros <;> rfl) ⟨_, _, _, rfl, ?_, hok3, ?_⟩
            · unfold look memW; rw [if_neg hk, hm]; simp
            · unfold look; rw [if_neg hk]
              intro x hx
              rw [keys_append]
              exact List.mem_append_left _ (hsub2 x hx)
        · rw [if_neg q, List.foldl_nil]
          exact nx_intro (by
            simp [eq_d (e := eR), q]
            and_intros <;> rfl) ⟨_, _, _, rfl, rfl, hok2, hsub2⟩
      · rintro ρ M ⟨a6, a7, a8, rfl, rfl, hok2, hsub2⟩
        exact ⟨_, _, _, _, rfl, rfl, hok2, fun x hx => hsub2 x (hsub x hx)⟩
    · rintro ρ M ⟨a5, a6, a7, a8, rfl, rfl, hok, hsub⟩
      have er : (bst mkNum (wnb h) p 0 k).2.foldl (lookAll mkNum (wnb h)) ((bst mkNum (wnb h) p 0 k).1, []) = bst mkNum (wnb h) p 0 (k + 1) := rfl
      rw [er]
      unfold memW
      refine nx_intro (by
        simp [frz_last]
        and_intros <;> rfl) ⟨_, _, _, _, _, rfl, _, rfl⟩
  · rintro ρ M ⟨a4, a5, a6, a7, a8, rfl, Ds, rfl⟩
    simp [frzC]
    exact .of
end
end W

set_option Elab.async false
set_option linter.all false
set_option maxRecDepth 100000
set_option maxHeartbeats 4000000
namespace T
open PySem G
theorem lawSum_none {h : House} : ∀ {l : List (Room × Option Room)} {q : Room × Option Room}, q ∈ l → cost h q = none → lawSum h l = none
  | x :: xs, q, hq, e => by
    rcases List.mem_cons.mp hq with rfl | hq
    · rw [lawSum, e]
    · rw [lawSum, lawSum_none hq e]
      cases cost h x <;> rfl
def total (h : House) (c : Room × Option Room → Nat) (l : List (Room × Option Room)) : Nat := (l.map c).sum
theorem total_snoc {h : House} {c : Room × Option Room → Nat} (l : List (Room × Option Room)) (q : Room × Option Room) : total h c (l ++ [q]) = total h c l + c q := by simp [total]
theorem lawSum_some {h : House} {c : Room × Option Room → Nat} : ∀ {l : List (Room × Option Room)}, (∀ q ∈ l, cost h q = some (c q)) → lawSum h l = some (total h c l)
  | [], _ => rfl
  | x :: xs, e => by
    rw [lawSum, e x List.mem_cons_self, lawSum_some fun q hq => e q (List.mem_cons_of_mem _ hq)]
    simp [total]
theorem walk_small {R : List Room} {k : Nat} {h : House} {s : Stand} (w : World R k h) (o : Ok R k s) {wish : Wish} {l : List Step} (e : shortestS h s wish = some l) : l.length < 19998 := by
  obtain ⟨⟨x, _, _, hx⟩, _⟩ := shortest_some w o e
  exact lvl_small w o hx
theorem tGet_mem9 {β : Type} {d : List (Room × β)} {r : Room} : r ∈ keys d ↔ EV.tGet d r ≠ none := by
  constructor
  · intro h
    obtain ⟨b, e, _⟩ := W.tGet_mem h
    rw [e]; exact fun z => by cases z
  · intro h
    unfold EV.tGet at h
    cases q : d.find? fun p => decide (p.1 = r) with
    | none => rw [q] at h; exact absurd rfl h
    | some z =>
      have h1 := List.find?_some q
      exact List.mem_map.mpr ⟨z, List.mem_of_find?_eq_some q, of_decide_eq_true h1⟩
end T
namespace EV
open PySem QL T G
theorem sl8 (ns : List Int) {M : Mem} : vSl (.dat (.list (ns.map PyData.int))) none (some 8) M = some (.dat (.list ((ns.take 8).map PyData.int)), M) := slL_to (e := PyData.int) ns 8
theorem ne_oN (v : Option Nat) {M : Mem} : vNe (.dat (eO eN v)) (.dat (eO eN v)) M = some (.dat (.bool false), M) := by
  cases v with
  | none => rfl
  | some n =>
    have := ne_d (e := eN) (M := M) (by decide) n n
    rw [decide_eq_true rfl] at this
    exact this
theorem is_oW (v : Option (List T.Step)) {M : Mem} : vIs (.dat (eO W.eWalk v)) (.dat .none) M = some (.dat (.bool (decide (v = none))), M) := by
  cases v with
  | none => rfl
  | some l => rfl
theorem isNot_oW (v : Option (List T.Step)) {M : Mem} : vIsNot (.dat (eO W.eWalk v)) (.dat .none) M = some (.dat (.bool (!decide (v = none))), M) := by
  cases v with
  | none => rfl
  | some l => rfl
theorem isNot_oS (v : Option (List T.Stand)) {M : Mem} : vIsNot (.dat (eO (eT eSt) v)) (.dat .none) M = some (.dat (.bool (!decide (v = none))), M) := by
  cases v with
  | none => rfl
  | some l => rfl
theorem lenW (l : List T.Step) {M : Mem} : vLen (.dat (W.eWalk l)) M = some (.dat (eN l.length), M) := lenL l
/-- None if walk is None else len(walk) -/
theorem x_lenO {i : Nat} {ρ : Env'} {M : Mem} (v : Option (List T.Step)) (h : envGet ρ i = some (.dat (eO W.eWalk v))) : eIf (QL.eB (QL.e2 vIs (eVar i) (eD .none))) (eD .none) (eBi (v1N vLen) (aCons (eVar i) aNil)) ρ M = .ok (.dat (eO eN (v.map List.length))) M := by
  cases v with
  | none => simp [h, is_oW]; rfl
  | some l =>
    have e := is_oW (some l) (M := M)
    have e : vIs (.dat (eO W.eWalk (some l))) (.dat .none) M = some (.dat (.bool false), M) := e
    simp [h, e]
    show Res.of (vLen (.dat (W.eWalk l)) M) = _
    rw [lenW]; rfl
end EV
namespace W
open PySem PySem.Spec PyProof.Rows L2 QL T EV G
section
variable {M : Mem} {h : House} {R : List T.Room} {k : Nat}
theorem f_law_sum (hE : Ends R h) (hR : R.length ≤ 100) {P : List T.Room} (hP : ∀ r ∈ P, r ∈ R) (wish : Wish) : F__law_sum [.dat (eH h), .dat (eT eR P), .dat (eW wish)] M = .ok (.dat (eO eN (lawSum h (P.zip wish)))) M := by
  have hno : noObj (.dat (eO eN (lawSum h (P.zip wish)))) = true := rfl
  refine pure_fn rfl rfl hno ?_
  unfold m__law_sum
  refine rt_seq (ρ1 := [some (.dat (eH h)), some (.dat (eT eR P)), some (.dat (eW wish)), some (.dat (eN 0)), none, none, none]) (M1 := []) (by simp; rfl) ?_
  have hit : iZipQ (eVar 1) (eVar 2) [some (.dat (eH h)), some (.dat (eT eR P)), some (.dat (eW wish)), some (.dat (eN 0)), none, none, none] [] = .ok ⟨(P.zip wish).map (eP eR (eO eR)), []⟩ [] := by
    simp [zip_map]
  have hin : ∀ q ∈ P.zip wish, q.1 ∈ R := fun q hq => hP _ (List.of_mem_zip hq).1
  have hway : ∀ q ∈ P.zip wish, ∀ M, F__law_ways [.dat (eH h), .dat (eR q.1)] M = .ok (.ftd (eTd eN (waysD h q.1))) M := fun q hq M => f_law_ways hE hR (hin q hq)
  have good : ∀ (q : T.Room × Option T.Room) (c : Nat), q ∈ P.zip wish → cost h q = some c → ∀ (n : Nat) (a4 a5 a6 : Option Cell) (M : Mem), (gT ([4, 5].map gN) (.dat (eP eR (eO eR) q)) [some (.dat (eH h)), some (.dat (eT eR P)), some (.dat (eW wish)), some (.dat (eN n)), a4, a5, a6] M).bind
      (sSeq (sSet 6 (eCall F__law_ways (aCons (eVar 0) (aCons (eVar 4) (aNil)))))
  (sSeq (sIf (bAnd (QL.eB (QL.e2 vIsNot (eVar 5) (eD .none))) (QL.eB (QL.e2 (vInA true) (eVar 5) (eVar 6)))) (sRet (eD .none)) (sSkip))
  (sSet 3 (QL.e2 vAdd (eVar 3) (eIf (QL.eB (QL.e2 vIsNot (eVar 5) (eD .none))) (QL.e2 vIxA (eVar 6) (eVar 5)) (eD (.int 0))))))) =
      .nx [some (.dat (eH h)), some (.dat (eT eR P)), some (.dat (eW wish)), some (.dat (eN (n + c))), some (.dat (eR q.1)), some (.dat (eO eR q.2)), some (.ftd (eTd eN (waysD h q.1)))] M := by
    rintro ⟨p, o⟩ c hq hc n a4 a5 a6 M
    have hw := hway _ hq
    cases o with
    | none =>
      have c0 : c = 0 := by unfold cost at hc; exact (Option.some.inj hc).symm
      have hn := isNot_none (M := M) none
      have h0 : vAdd (.dat (eN n)) (.dat (.int 0)) M = some (.dat (eN (n + 0)), M) := addNN n 0
      rw [c0]
      simp [hw, hn, h0]
    | some r =>
      have hc : tGet (waysD h p) r = some c := hc
      have hk : r ∈ keys (waysD h p) := tGet_mem9.mpr (by rw [hc]; exact fun z => by cases z)
      have hn : vIsNot (.dat (eO eR (some r))) (.dat .none) M = some (.dat (.bool true), M) := isNot_none (M := M) (some r)
      have h1 : vInA true (.dat (eO eR (some r))) (.ftd (eTd eN (waysD h p))) M = some (.dat (.bool false), M) := by
        have := in_ftd (f := eN) (M := M) (neg := true) (waysD h p) r
        rw [decide_eq_true hk] at this
        exact this
      have h2 : vIxA (.ftd (eTd eN (waysD h p))) (.dat (eO eR (some r))) M = some (.dat (eN c), M) := ix_ftd (f := eN) hc
      simp [hw, hn, h1, h2]
  rw [x_seq]
  cases f : (P.zip wish).find? fun q => decide (cost h q = none) with
  | none =>
    rw [List.find?_eq_none] at f
    have hc : ∀ q ∈ P.zip wish, cost h q = some ((cost h q).getD 0) := fun q hq => by
      have := f q hq
      simp only [decide_eq_true_iff] at this
      cases e : cost h q with
      | none => exact absurd e this
      | some a => rfl
    rw [lawSum_some hc]
    refine bind_rt (for_dat (e := eP eR (eO eR)) (P.zip wish) (fun pre ρ M => ∃ a4 a5 a6, ρ = [some (.dat (eH h)), some (.dat (eT eR P)), some (.dat (eW wish)), some (.dat (eN (total h (fun q => (cost h q).getD 0) pre))), a4, a5, a6] ∧ M = []) hit ⟨_, _, _, rfl, rfl⟩ ?_) ?_
    · rintro pre q post hq ρ M ⟨a4, a5, a6, rfl, rfl⟩
      have hqm : q ∈ P.zip wish := by rw [hq]; simp
      exact nx_intro (good q _ hqm (hc q hqm) _ _ _ _ _) ⟨some (.dat (eR q.1)), some (.dat (eO eR q.2)), some (.ftd (eTd eN (waysD h q.1))), by rw [total_snoc], rfl⟩
    · rintro ρ M ⟨a4, a5, a6, rfl, rfl⟩
      exact Rt.ev (by simp; and_intros <;> rfl) .of
  | some q =>
    obtain ⟨hm, as, bs, hq, hn⟩ := List.find?_eq_some_iff_append.mp f
    have hqm : q ∈ P.zip wish := by rw [hq]; simp
    have hm : cost h q = none := of_decide_eq_true hm
    rw [lawSum_none hqm hm]
    have hc : ∀ q ∈ as, cost h q = some ((cost h q).getD 0) := fun q hq => by
      have := hn q hq
      cases e : cost h q with
      | none => rw [e] at this; cases this
      | some a => rfl
    refine rt_bind (for_ret (e := eP eR (eO eR)) as q bs (fun pre ρ M => ∃ a3 a4 a5 a6, ρ = [some (.dat (eH h)), some (.dat (eT eR P)), some (.dat (eW wish)), some (.dat (eN a3)), a4, a5, a6] ∧ M = []) (by rw [← hq]; exact hit) ⟨_, _, _, _, rfl, rfl⟩ ?_ ?_)
    · rintro pre y post hy ρ M ⟨a3, a4, a5, a6, rfl, rfl⟩
      have hya : y ∈ as := by rw [hy]; simp
      exact nx_intro (good y _ (by rw [hq]; exact List.mem_append_left _ hya) (hc y hya) _ _ _ _ _) ⟨_, _, _, _, rfl, rfl⟩
    · rintro ρ M ⟨a3, a4, a5, a6, rfl, rfl⟩
      obtain ⟨p, o⟩ := q
      have hw := hway _ hqm
      cases o with
      | none => unfold cost at hm; cases hm
      | some r =>
        have hm : tGet (waysD h p) r = none := hm
        have hk : r ∉ keys (waysD h p) := fun z => tGet_mem9.mp z hm
        have hnn : vIsNot (.dat (eO eR (some r))) (.dat .none) [] = some (.dat (.bool true), []) := isNot_none (M := []) (some r)
        have h1 : vInA true (.dat (eO eR (some r))) (.ftd (eTd eN (waysD h p))) [] = some (.dat (.bool true), []) := by
          have := in_ftd (f := eN) (M := []) (neg := true) (waysD h p) r
          rw [decide_eq_false hk] at this
          exact this
        exact Rt.ev (by simp [hw, hnn, h1]; and_intros <;> rfl) .of
end
end W

set_option Elab.async false
set_option linter.all false
set_option maxRecDepth 100000
set_option maxHeartbeats 8000000
namespace W
open PySem PySem.Spec PyProof.Rows L2 QL T EV G
theorem f_first (p : T.Room) {M : Mem} : F_first_stand [.dat (eT eR [p])] M = .ok (.dat (eSt ([p], []))) M := by
  refine pure_fn rfl rfl rfl ?_
  have h := tup0 eR (M := [])
  have h2 := tup2 (eT eR) (eT eR) [p] [] (M := [])
  refine Rt.ev (by
    simp [m_first_stand, h, h2]
    and_intros <;> rfl) .of
def keyedTo (h : House) (p : T.Room) : List T.Room := (h.filter fun w => decide (w.2.1 = p) && w.2.2).map fun w => w.1
theorem noKey_of {h : House} {p : T.Room} (e : keyedTo h p = []) : noKey h p := fun w hw hp => by
  cases q : w.2.2 with
  | false => rfl
  | true =>
    have : w.1 ∈ keyedTo h p := List.mem_map.mpr ⟨w, List.mem_filter.mpr ⟨hw, by simp [hp, q]⟩, rfl⟩
    rw [e] at this; cases this
theorem law_is : LawIs F_law 63 := by
  intro ns hns
  refine law_start (N := N_law.length) (m := m_law) ?_
  have ht : (ns.take 8).length ≤ 100 := by rw [List.length_take]; omega
  have hin : ∀ ρ', iAny (QL.e2 vAdd (eBi vLst (aCons (eD (.int 0)) (aNil))) (eSl (eVar 0) (oNone) (oSome (eD (.int 8))))) (some (.dat (.list (ns.map .int))) :: ρ') [] = .ok ⟨(0 :: ns.take 8).map PyData.int, []⟩ [] := fun ρ' => by
    simp [-List.map_cons, -List.map_take, vLst, dats, show (1 : Nat) ≤ LIM by unfold LIM; omega, sl8, cells _ ht]
  refine bind_ret (for_dat (e := PyData.int) (0 :: ns.take 8) (fun pre ρ M => Clo M ∧ ∃ x1 x2 x3 x4 x5 x6 x7 x8 x9 x10 x11 x12 x13 x14 x15 x16, ρ = [some (.dat (.list (ns.map .int))), x1, x2, x3, x4, x5, x6, x7, x8, x9, x10, x11, x12, x13, x14, x15, x16, none, none, none, none]) (hin _) ⟨Clo.nil, _, _, _, _, _, _, _, _, _, _, _, _, _, _, _, _, rfl⟩ ?_) ?_
  · rintro pre x post hq ρ M ⟨hM, x1, x2, x3, x4, x5, x6, x7, x8, x9, x10, x11, x12, x13, x14, x15, x16, rfl⟩
    obtain ⟨a0, e0⟩ := deck_ok hM x 9
    have d := deckAt_new hM a0 x 9
    obtain ⟨k, h, s, a1, c1, e1, hk, sc, g1, g2⟩ := f_scene (a := a0) (c := 9) d (by omega)
    rw [DK_self] at e1
    have hl := sc.hl (by omega)
    have hrl := sc.rl
    have hkR : k = 1 ∧ (roomsOf h).length ≤ 6 ∨ k = 2 ∧ (roomsOf h).length ≤ 5 ∨ k = 3 ∧ (roomsOf h).length ≤ 4 := by omega
    have w : T.World (roomsOf h) k h := world_of (roomsOf_nodup h) (ends_rooms h) (by omega) hkR
    have w1 : T.World (roomsOf h) 1 h := world_of (roomsOf_nodup h) (ends_rooms h) (by omega) (.inl ⟨rfl, by omega⟩)
    have we := easy_world w
    have o := sc.ok
    have hpos : 1 ≤ (roomsOf h).length := by
      obtain ⟨ns, o1, _, _, _⟩ := sc.ex
      exact List.length_pos_iff.mpr (rooms_ne o1)
    have es : eN s.1.length = eN k := by rw [o.len]
    generalize hB : M ++ [dk a0 (x % 2147483579) 9] = B at d e1
    rw [x_gN, sbind_nx]
    refine nx_seq (ρ1 := [some (.dat (.list (ns.map .int))), some (.dat (.int x)), some (.obj M.length), x3, x4, x5, x6, x7, x8, x9, x10, x11, x12, x13, x14, x15, x16, none, none, none, none]) (M1 := B) (by simp [e0, hB]) ?_
    refine nx_seq (ρ1 := [some (.dat (.list (ns.map .int))), some (.dat (.int x)), some (.obj M.length), some (.dat (eH h)), some (.dat (eSt s)), x5, x6, x7, x8, x9, x10, x11, x12, x13, x14, x15, x16, none, none, none, none]) (M1 := DK B M.length (x % 2147483579) a1 c1) (by simp [e1]) ?_
    refine nx_seq (ρ1 := [some (.dat (.list (ns.map .int))), some (.dat (.int x)), some (.obj M.length), some (.dat (eH h)), some (.dat (eSt s)), some (.dat (eH (easyH h))), x6, x7, x8, x9, x10, x11, x12, x13, x14, x15, x16, none, none, none, none]) (M1 := DK B M.length (x % 2147483579) a1 c1) (by
      rw [x_set, x_bi, x_aCons, lc_all (e := eWay) h (fun w => eWay (w.1, w.2.1, true)) (by simp) (by unfold LIM; omega) (fun w' hw' => ⟨_, rfl, by
        simp [vTup, dats, show (1 : Nat) ≤ LIM by unfold LIM; omega, way3b]⟩)]
      rw [show h.map (fun w => eWay (w.1, w.2.1, true)) = (easyH h).map eWay by unfold easyH; rw [List.map_map]; rfl]
      simp) ?_
    rw [x_seq]
    refine bind_nx (for_dat (e := eN) (List.range 2) (fun pre ρ M2 => ∃ x6 x7 x8 a' c', ρ = [some (.dat (.list (ns.map .int))), some (.dat (.int x)), some (.obj M.length), some (.dat (eH h)), some (.dat (eSt s)), some (.dat (eH (easyH h))), x6, x7, x8, x9, x10, x11, x12, x13, x14, x15, x16, none, none, none, none] ∧ M2 = DK B M.length (x % 2147483579) a' c' ∧ c1 ≤ c' ∧ c' ≤ c1 + 10 * pre.length) (by
      have := rCell_N 2 (by omega) (DK B M.length (x % 2147483579) a1 c1)
      simp only [x_iRng1, x_eD, bind_ok]
      exact this) ⟨_, _, _, a1, c1, rfl, rfl, by omega, by simp⟩ ?_) ?_
    · rintro p kk q hq2 ρ M2 ⟨x6, x7, x8, a2, c2, rfl, rfl, g3, g4⟩
      have hpl := congrArg List.length hq2
      simp only [List.length_append, List.length_cons, List.length_range] at hpl
      obtain ⟨wish, a3, c3, e3, hw, hwR, g5, g6⟩ := f_wish (a := a2) (c := c2) d (by omega) (h := h) w.hl (by omega) (k := k) (by omega)
      have esum := easy_sum w o hw
      rw [x_gN, sbind_nx]
      refine nx_seq (ρ1 := [some (.dat (.list (ns.map .int))), some (.dat (.int x)), some (.obj M.length), some (.dat (eH h)), some (.dat (eSt s)), some (.dat (eH (easyH h))), some (.dat (eN kk)), some (.dat (eW wish)), x8, x9, x10, x11, x12, x13, x14, x15, x16, none, none, none, none]) (M1 := DK B M.length (x % 2147483579) a3 c3) (by simp [es, e3]) ?_
      refine nx_seq (ρ1 := [some (.dat (.list (ns.map .int))), some (.dat (.int x)), some (.obj M.length), some (.dat (eH h)), some (.dat (eSt s)), some (.dat (eH (easyH h))), some (.dat (eN kk)), some (.dat (eW wish)), some (.dat (eO eWalk (shortestS (easyH h) s wish))), x9, x10, x11, x12, x13, x14, x15, x16, none, none, none, none]) (M1 := DK B M.length (x % 2147483579) a3 c3) (by simp [f_shortest we o]) ?_
      refine nx_intro (ρ := [some (.dat (.list (ns.map .int))), some (.dat (.int x)), some (.obj M.length), some (.dat (eH h)), some (.dat (eSt s)), some (.dat (eH (easyH h))), some (.dat (eN kk)), some (.dat (eW wish)), some (.dat (eO eWalk (shortestS (easyH h) s wish))), x9, x10, x11, x12, x13, x14, x15, x16, none, none, none, none]) (M := DK B M.length (x % 2147483579) a3 c3) (by
        have q := x_lenO (i := 8) (ρ := [some (.dat (.list (ns.map .int))), some (.dat (.int x)), some (.obj M.length), some (.dat (eH h)), some (.dat (eSt s)), some (.dat (eH (easyH h))), some (.dat (eN kk)), some (.dat (eW wish)), some (.dat (eO eWalk (shortestS (easyH h) s wish))), x9, x10, x11, x12, x13, x14, x15, x16, none, none, none, none]) (M := DK B M.length (x % 2147483579) a3 c3) (shortestS (easyH h) s wish) rfl
        rw [x_if, x_eB, x_e2, q, esum]
        simp [f_law_sum (ends_rooms h) w.rl o.pl, ne_oN]) ⟨_, _, _, a3, c3, rfl, rfl, by omega, by simp; omega⟩
    rintro ρ M2 ⟨x6, x7, x8, a2, c2, rfl, rfl, g3, g4⟩
    have hc2 : c2 ≤ 200 := by simp at g4; omega
    obtain ⟨r, a3, c3, e3, hr, g5, g6⟩ := pick_n (a := a2) (c := c2) (loc := []) d rfl (by omega) (n := (roomsOf h).length) (by omega)
    rw [List.append_nil, List.append_nil] at e3
    have hp : nth (roomsOf h) r ∈ roomsOf h := nth_mem hr
    refine nx_seq (ρ1 := [some (.dat (.list (ns.map .int))), some (.dat (.int x)), some (.obj M.length), some (.dat (eH h)), some (.dat (eSt s)), some (.dat (eH (easyH h))), x6, x7, x8, some (.dat (.list ((roomsOf h).map eR))), x10, x11, x12, x13, x14, x15, x16, none, none, none, none]) (M1 := DK B M.length (x % 2147483579) a2 c2) (by simp [f_law_rooms w.hl]) ?_
    refine nx_seq (ρ1 := [some (.dat (.list (ns.map .int))), some (.dat (.int x)), some (.obj M.length), some (.dat (eH h)), some (.dat (eSt s)), some (.dat (eH (easyH h))), x6, x7, x8, some (.dat (.list ((roomsOf h).map eR))), some (.dat (eR (nth (roomsOf h) r))), x11, x12, x13, x14, x15, x16, none, none, none, none]) (M1 := DK B M.length (x % 2147483579) a3 c3) (by simp [e3, ixL (e := eR) hr]) ?_
    generalize nth (roomsOf h) r = p at hp ⊢
    have o1 := first_ok hp
    refine nx_seq (ρ1 := [some (.dat (.list (ns.map .int))), some (.dat (.int x)), some (.obj M.length), some (.dat (eH h)), some (.dat (eSt s)), some (.dat (eH (easyH h))), x6, x7, x8, some (.dat (.list ((roomsOf h).map eR))), some (.dat (eR p)), some (.dat (eSt ([p], []))), some (.ftd (eTd eN (waysD h p))), x13, x14, x15, x16, none, none, none, none]) (M1 := DK B M.length (x % 2147483579) a3 c3) (by simp [tup1 eR, f_first, f_law_ways (ends_rooms h) w.rl hp]) ?_
    have hclo : Clo (DK B M.length (x % 2147483579) a3 c3) := DK_clo d
    generalize DK B M.length (x % 2147483579) a3 c3 = M3 at hclo ⊢
    refine Nx.mono (for_dat (e := eR) (roomsOf h) (fun pre ρ M2 => ∃ x8 x13 x14 x15 x16, ρ = [some (.dat (.list (ns.map .int))), some (.dat (.int x)), some (.obj M.length), some (.dat (eH h)), some (.dat (eSt s)), some (.dat (eH (easyH h))), x6, x7, x8, some (.dat (.list ((roomsOf h).map eR))), some (.dat (eR p)), some (.dat (eSt ([p], []))), some (.ftd (eTd eN (waysD h p))), x13, x14, x15, x16, none, none, none, none] ∧ M2 = M3) (by simp) ⟨_, _, _, _, _, rfl, rfl⟩ ?_) ?_
    · rintro p1 room q1 hq3 ρ M2 ⟨x8, x13, x14, x15, x16, rfl, rfl⟩
      have hway := one_way w1 hp room
      have hes : ∀ M, vTup [.dat (eR room)] M = some (.dat (eW [some room]), M) := fun M => rfl
      have hesp : ∀ M, vTup [.dat (eR p)] M = some (.dat (eW [some p]), M) := fun M => rfl
      rw [x_gN, sbind_nx]
      refine nx_seq (ρ1 := [some (.dat (.list (ns.map .int))), some (.dat (.int x)), some (.obj M.length), some (.dat (eH h)), some (.dat (eSt s)), some (.dat (eH (easyH h))), x6, x7, some (.dat (eO eWalk (shortestS h ([p], []) [some room]))), some (.dat (.list ((roomsOf h).map eR))), some (.dat (eR p)), some (.dat (eSt ([p], []))), some (.ftd (eTd eN (waysD h p))), some (.dat (eR room)), x14, x15, x16, none, none, none, none]) (M1 := M2) (by simp [hes, f_shortest w1 o1]) ?_
      refine nx_seq (ρ1 := [some (.dat (.list (ns.map .int))), some (.dat (.int x)), some (.obj M.length), some (.dat (eH h)), some (.dat (eSt s)), some (.dat (eH (easyH h))), x6, x7, some (.dat (eO eWalk (shortestS h ([p], []) [some room]))), some (.dat (.list ((roomsOf h).map eR))), some (.dat (eR p)), some (.dat (eSt ([p], []))), some (.ftd (eTd eN (waysD h p))), some (.dat (eR room)), x14, x15, x16, none, none, none, none]) (M1 := M2) (by
        have q := x_lenO (i := 8) (ρ := [some (.dat (.list (ns.map .int))), some (.dat (.int x)), some (.obj M.length), some (.dat (eH h)), some (.dat (eSt s)), some (.dat (eH (easyH h))), x6, x7, some (.dat (eO eWalk (shortestS h ([p], []) [some room]))), some (.dat (.list ((roomsOf h).map eR))), some (.dat (eR p)), some (.dat (eSt ([p], []))), some (.ftd (eTd eN (waysD h p))), some (.dat (eR room)), x14, x15, x16, none, none, none, none]) (M := M2) (shortestS h ([p], []) [some room]) rfl
        rw [x_if, x_eB, x_e2, q, hway]
        have e2 : tGet (waysD h p) room = wayN h p room := rfl
        simp [tyB_ftd, get_ftd, ne_oN, e2]) ?_
      have hcl : decide (shortestS h ([p], []) [some room] = none) = !decide (closedOf h ([p], []) [some room] = none) := by
        unfold closedOf
        by_cases c : canMeet h ([p], []) [some room] = true
        · rw [if_pos c]
          have : shortestS h ([p], []) [some room] ≠ none := fun z => by
            rw [shortest_none] at z
            unfold canMeet at c
            obtain ⟨y, hy, my⟩ := List.any_eq_true.mp c
            rw [z y hy] at my; cases my
          simp [this]
        · rw [if_neg c]
          have : shortestS h ([p], []) [some room] = none := by
            rw [shortest_none]
            intro y hy
            cases my : meets y [some room] with
            | false => rfl
            | true => exact absurd (List.any_eq_true.mpr ⟨y, hy, my⟩) c
          simp [this]
      refine nx_seq (ρ1 := [some (.dat (.list (ns.map .int))), some (.dat (.int x)), some (.obj M.length), some (.dat (eH h)), some (.dat (eSt s)), some (.dat (eH (easyH h))), x6, x7, some (.dat (eO eWalk (shortestS h ([p], []) [some room]))), some (.dat (.list ((roomsOf h).map eR))), some (.dat (eR p)), some (.dat (eSt ([p], []))), some (.ftd (eTd eN (waysD h p))), some (.dat (eR room)), x14, x15, x16, none, none, none, none]) (M1 := M2) (by
        have q := ne_d (e := T.eB) (M := M2) (by decide) (decide (shortestS h ([p], []) [some room] = none)) (!decide (closedOf h ([p], []) [some room] = none))
        rw [hcl] at q
        have i1 := is_oW (M := M2) (shortestS h ([p], []) [some room])
        rw [hcl] at i1
        have q : vNe (.dat (.bool (!decide (closedOf h ([p], []) [some room] = none)))) (.dat (.bool (!decide (closedOf h ([p], []) [some room] = none)))) M2 = some (.dat (.bool false), M2) := by
          rw [decide_eq_true rfl] at q
          exact q
        rw [x_if, x_eB, x_e2]
        simp only [x_e2, x_var, x_eD, envGet_s, envGet_0, bind_ok, i1, of_some, x_call, x_aCons, x_aNil, x_bi, hes, f_closed2 w1 o1, isNot_oS, q]
        rfl) ?_
      cases e : shortestS h ([p], []) [some room] with
      | none =>
        have i1 : vIsNot (.dat (eO eWalk none)) (.dat .none) M2 = some (.dat (.bool false), M2) := isNot_oW none
        exact nx_intro (by
          simp [i1]
          and_intros <;> rfl) ⟨_, _, _, _, _, rfl, rfl⟩
      | some l =>
        have i1 : vIsNot (.dat (eO eWalk (some l))) (.dat .none) M2 = some (.dat (.bool true), M2) := isNot_oW (some l)
        have i2 : vLen (.dat (eO eWalk (some l))) M2 = some (.dat (eN l.length), M2) := lenW l
        by_cases hl0 : 0 < l.length
        · obtain ⟨⟨y, gy, my, hy⟩, hmin⟩ := shortest_some w1 o1 e
          have pa := ((mem_row (nxt h) ([p], [])).mp hy).1
          have oy : Ok (roomsOf h) 1 y := Path.inv (nxt h) ([p], []) o1 (fun z oz v hv => nxt_ok w1.ends oz v hv) pa
          have hsm := walk_small w1 o1 e
          have hwk : F_walked [.dat (eH h), .dat (eSt ([p], [])), .dat (eO eWalk (some l))] M2 = .ok (.dat (eSt y)) M2 := f_walked w1 o1 (by omega) gy
          have hback : keyedTo h p = [] → shortestS h y [some p] = none := fun hk => no_back w1 hp (noKey_of hk) pa fun hyp => by
            have h1 : y = ([p], y.2) := by rw [← hyp]
            rw [h1, meets1] at my
            have h2 : room = p := of_decide_eq_true my
            have h3 := hmin 0 ([p], []) .zero (by rw [meets1, h2]; simp)
            omega
          have g1 : (some (.dat (eO eWalk (some l))) : Option Cell) = some (.dat (eO eWalk (some l))) := rfl
          rw [x_if]
          have hcond : bAnd (QL.eB (QL.e2 vIsNot (eVar 8) (eD .none))) (QL.eB (QL.e2 vGt (eBi (v1N vLen) (aCons (eVar 8) (aNil))) (eD (.int 0)))) [some (.dat (.list (ns.map .int))), some (.dat (.int x)), some (.obj M.length), some (.dat (eH h)), some (.dat (eSt s)), some (.dat (eH (easyH h))), x6, x7, some (.dat (eO eWalk (some l))), some (.dat (.list ((roomsOf h).map eR))), some (.dat (eR p)), some (.dat (eSt ([p], []))), some (.ftd (eTd eN (waysD h p))), some (.dat (eR room)), x14, x15, x16, none, none, none, none] M2 = .ok true M2 := by
            simp [i1, i2, hl0]
          rw [hcond, toS_ok, if_pos rfl]
          refine nx_seq (ρ1 := [some (.dat (.list (ns.map .int))), some (.dat (.int x)), some (.obj M.length), some (.dat (eH h)), some (.dat (eSt s)), some (.dat (eH (easyH h))), x6, x7, some (.dat (eO eWalk (some l))), some (.dat (.list ((roomsOf h).map eR))), some (.dat (eR p)), some (.dat (eSt ([p], []))), some (.ftd (eTd eN (waysD h p))), some (.dat (eR room)), some (.dat (eSt y)), x15, x16, none, none, none, none]) (M1 := M2) (by simp [hwk]) ?_
          refine nx_seq (ρ1 := [some (.dat (.list (ns.map .int))), some (.dat (.int x)), some (.obj M.length), some (.dat (eH h)), some (.dat (eSt s)), some (.dat (eH (easyH h))), x6, x7, some (.dat (eO eWalk (some l))), some (.dat (.list ((roomsOf h).map eR))), some (.dat (eR p)), some (.dat (eSt ([p], []))), some (.ftd (eTd eN (waysD h p))), some (.dat (eR room)), some (.dat (eSt y)), some (.dat (eO eWalk (shortestS h y [some p]))), x16, none, none, none, none]) (M1 := M2) (by simp [hesp, f_shortest w1 oy]) ?_
          refine nx_seq (ρ1 := [some (.dat (.list (ns.map .int))), some (.dat (.int x)), some (.obj M.length), some (.dat (eH h)), some (.dat (eSt s)), some (.dat (eH (easyH h))), x6, x7, some (.dat (eO eWalk (some l))), some (.dat (.list ((roomsOf h).map eR))), some (.dat (eR p)), some (.dat (eSt ([p], []))), some (.ftd (eTd eN (waysD h p))), some (.dat (eR room)), some (.dat (eSt y)), some (.dat (eO eWalk (shortestS h y [some p]))), some (.dat (.list ((keyedTo h p).map eR))), none, none, none, none]) (M1 := M2) (by
            rw [x_set, lc_dat (e := eWay) h (fun w => decide (w.2.1 = p) && w.2.2) (fun w => eR w.1) (by simp) (by unfold LIM; omega) (fun w' hw' => ⟨_, rfl, by by_cases q : w'.2.1 = p <;> simp [setMany, eq_d (e := eR), q], fun _ => by simp [setMany]⟩)]
            rw [show ((h.filter fun w => decide (w.2.1 = p) && w.2.2).map fun w => eR w.1) = (keyedTo h p).map eR by unfold keyedTo; rw [List.map_map]; rfl]
            simp) ?_
          by_cases hk : keyedTo h p = []
          · rw [hback hk]
            have j1 : vIsNot (.dat (eO eWalk none)) (.dat .none) M2 = some (.dat (.bool false), M2) := isNot_oW none
            exact nx_intro (by
              simp [j1]
              and_intros <;> rfl) ⟨_, _, _, _, _, rfl, rfl⟩
          · have j1 := isNot_oW (M := M2) (shortestS h y [some p])
            have j2 := eq_nil (e := eR) (M := M2) (by decide) (keyedTo h p)
            rw [decide_eq_false hk] at j2
            cases hd : decide (shortestS h y [some p] = none) with
            | true =>
              rw [hd] at j1
              exact nx_intro (by
                simp [j1]
                and_intros <;> rfl) ⟨_, _, _, _, _, rfl, rfl⟩
            | false =>
              rw [hd] at j1
              exact nx_intro (by
                simp [j1, j2]
                and_intros <;> rfl) ⟨_, _, _, _, _, rfl, rfl⟩
        · exact nx_intro (by
            simp [i1, i2, hl0]
            and_intros <;> rfl) ⟨_, _, _, _, _, rfl, rfl⟩
    · rintro ρ M2 ⟨x8, x13, x14, x15, x16, rfl, rfl⟩
      exact ⟨hclo, _, _, _, _, _, _, _, _, _, _, _, _, _, _, _, _, rfl⟩
  · rintro ρ M ⟨hM, x1, x2, x3, x4, x5, x6, x7, x8, x9, x10, x11, x12, x13, x14, x15, x16, rfl⟩
    exact Ret.ev (by simp; and_intros <;> rfl) (Ret.of rfl)
end W

set_option Elab.async false
set_option linter.all false
set_option maxRecDepth 100000
set_option maxHeartbeats 4000000
namespace W
open PySem PySem.Spec PyProof.Rows L2 QL
def top (i : Nat) : Stmt := PySem.Challenge.pw_lastlight_k09_whole_where_nothing_bars.main.body.getD i (.Pass ⟨0, 0, 0, 0⟩)
section
variable {P : Program} {w : World} {K : PySem.W.Frag} {mg : Str → Option Value} {base : Heap}
abbrev s__law_deck : Stmt := top 18
theorem sc__law_deck : FnScope N__law_deck ["cell", "turn"] (defScope s__law_deck) := ⟨rfl, rfl, rfl, by decide +kernel, rfl, by decide +kernel, by decide +kernel⟩
theorem df__law_deck (R : Raw K mg "_law_deck" "_law_deck" s__law_deck) (B : Bn mg)    : Df ⟨P, w, K, mg⟩ base "_law_deck" ["cell", "turn"] 1 F__law_deck :=
  (df_mk (N := N__law_deck) (ps := ["cell", "turn"]) (m := m__law_deck) R sc__law_deck (fun Fu => Fu.binds fun _ _ _ _ _ _ us hl => match us, hl with | [_, _], _ => rfl) fun f cdv A outer s H E hr => by
  have hu := room_u hr
  exact (qs_cons (qs_if (qt_cmp (o_ge hu) (qv 0) (q_op o_pow q_int q_int)) (qs_one (qs_ret (q_newL (qa_cons (q_op o_sub (qv 0) (q_op o_pow q_int q_int)) (qa_cons (q_op o_mod (qv 0) q_int) (qa_cons (qv 1) qa_nil)))))) qs_nil)
    (qs_one (qs_ret (q_newL (qa_cons q_int (qa_cons (q_op o_mod (qv 0) q_int) (qa_cons (qv 1) qa_nil))))))))
abbrev s__law_pick : Stmt := top 19
theorem sc__law_pick : FnScope N__law_pick ["deck", "limit"] (defScope s__law_pick) := ⟨rfl, rfl, rfl, by decide +kernel, rfl, by decide +kernel, by decide +kernel⟩
theorem df__law_pick (R : Raw K mg "_law_pick" "_law_pick" s__law_pick) (B : Bn mg)    : Df ⟨P, w, K, mg⟩ base "_law_pick" ["deck", "limit"] 1 F__law_pick :=
  Df.pure (df_mk (N := N__law_pick) (ps := ["deck", "limit"]) (m := m__law_pick) R sc__law_pick (fun Fu => Fu.binds fun _ _ _ _ _ _ us hl => match us, hl with | [_, _], _ => rfl) fun f cdv A outer s H E hr => by
  have hu := room_u hr
  exact (qs_cons (qs_if (qt_cmp (o_gt hu) (q_ix (iA hu) (qv 0) q_int) q_int) (qs_cons (qs_set 2 sc__law_pick.nd (q_op o_mod (q_ix (iA hu) (qv 0) q_int) (qv 1)))
    (qs_cons (qs_put (setA hu) (q_op o_fdiv (q_ix (iA hu) (qv 0) q_int) (qv 1)) (qv 0) q_int)
    (qs_one (qs_ret (qv 2))))) qs_nil)
    (qs_cons (qs_put (setA hu) (q_op o_add (q_ix (iA hu) (qv 0) q_int) q_int) (qv 0) q_int)
    (qs_cons (qs_set 3 sc__law_pick.nd (q_op o_mod (q_op o_pow (q_op o_add (q_ix (iA hu) (qv 0) q_int) (q_op o_mul q_int (q_ix (iA hu) (qv 0) q_int))) q_int) q_int))
    (qs_cons (qs_set 2 sc__law_pick.nd (q_op o_fdiv (q_op o_mod (q_op o_pow (q_op o_add (qv 3) (q_op o_mul q_int (q_ix (iA hu) (qv 0) q_int))) q_int) q_int) q_int))
    (qs_cons (qs_if (qt_cmp (o_gt hu) (qv 1) q_int) (qs_one (qs_ret (q_op o_mod (q_op o_add (q_op o_mul (qv 2) q_int) (qv 3)) (qv 1)))) qs_nil)
    (qs_one (qs_ret (q_op o_mod (qv 2) (qv 1))))))))))
abbrev s__law_rooms : Stmt := top 21
theorem sc__law_rooms : FnScope N__law_rooms ["house"] (defScope s__law_rooms) := ⟨rfl, rfl, rfl, by decide +kernel, rfl, by decide +kernel, by decide +kernel⟩
theorem df__law_rooms (R : Raw K mg "_law_rooms" "_law_rooms" s__law_rooms) (B : Bn mg)    : Df ⟨P, w, K, mg⟩ base "_law_rooms" ["house"] 1 F__law_rooms :=
  Df.pure (df_mk (N := N__law_rooms) (ps := ["house"]) (m := m__law_rooms) R sc__law_rooms (fun Fu => Fu.binds fun _ _ _ _ _ _ us hl => match us, hl with | [_], _ => rfl) fun f cdv A outer s H E hr => by
  have hu := room_u hr
  exact (qs_one (qs_ret (q_sortSet rfl hu (q_op o_add (qe_lc (own := [("way", 1)]) (t := (.one 1)) rfl sc__law_rooms.nd (qi_any (qv 0)) (blkOk_by (own := [("way", 1)]) (N := N__law_rooms) (sc := defScope s__law_rooms) (by decide +kernel)) (by decide) (fun _ _ _ _ _ => (tg1 1 sc__law_rooms.nd)) (fun _ _ _ _ _ => qts_nil) (fun _ _ _ _ _ => (q_ix (iA hu) (qv 1) q_int))) (qe_lc (own := [("way", 1)]) (t := (.one 1)) rfl sc__law_rooms.nd (qi_any (qv 0)) (blkOk_by (own := [("way", 1)]) (N := N__law_rooms) (sc := defScope s__law_rooms) (by decide +kernel)) (by decide) (fun _ _ _ _ _ => (tg1 1 sc__law_rooms.nd)) (fun _ _ _ _ _ => qts_nil) (fun _ _ _ _ _ => (q_ix (iA hu) (qv 1) q_int)))) B.sorted B.set))))
abbrev s__law_ways : Stmt := top 30
theorem sc__law_ways : FnScope N__law_ways ["house", "place"] (defScope s__law_ways) := ⟨rfl, rfl, rfl, by decide +kernel, rfl, by decide +kernel, by decide +kernel⟩
theorem df__law_ways (R : Raw K mg "_law_ways" "_law_ways" s__law_ways) (B : Bn mg)    : Df ⟨P, w, K, mg⟩ base "_law_ways" ["house", "place"] 1 F__law_ways :=
  Df.pure (df_mk (N := N__law_ways) (ps := ["house", "place"]) (m := m__law_ways) R sc__law_ways (fun Fu => Fu.binds fun _ _ _ _ _ _ us hl => match us, hl with | [_, _], _ => rfl) fun f cdv A outer s H E hr => by
  have hu := room_u hr
  exact (qs_cons (qs_set 2 sc__law_ways.nd (q_dictT1 (qv 1) q_int))
    (qs_cons (qs_set 3 sc__law_ways.nd (q_lst (qa_cons (qv 1) qa_nil)))
    (qs_cons (qs_while _ (passes_of rfl) (qt_cmp (o_ne hu) (qv 3) (q_lst qa_nil)) (qs_cons (qs_set 4 sc__law_ways.nd (q_newL qa_nil))
    (qs_cons (qs_for (passes_of rfl) rfl (qi_any (qv 3)) (qg_name 5 sc__law_ways.nd) (gN_nx 5) (qs_one (qs_for (passes_of rfl) rfl (qi_any (qv 0)) (qg_tup rfl (qgs_cons (qg_name 6 sc__law_ways.nd) (qgs_cons (qg_name 7 sc__law_ways.nd) (qgs_cons (qg_name 8 sc__law_ways.nd) qgs_nil)))) (gT_nx [6, 7, 8]) (qs_one (qs_if (qw_and (qt_cmp (o_eq hu) (qv 6) (qv 5)) (qw_and1 (qt_cmp (oA_notIn hu) (qv 7) (qv 2)))).pt (qs_cons (qs_put (setA hu) (q_op o_add (q_ix (iA hu) (qv 2) (qv 5)) q_int) (qv 2) (qv 7))
    (qs_one (qs_expr (q_bm PySem.F.plainAttrs_list PySem.F.slot_list_append PySem.F.type_list_append m_append (qv 4) (qa_cons (qv 7) qa_nil))))) qs_nil)))))
    (qs_one (qs_set 3 sc__law_ways.nd (q_frz (qv 4)))))))
    (qs_one (qs_ret (q_frz (qv 2))))))))
abbrev s_can_go : Stmt := top 7
theorem sc_can_go : FnScope N_can_go ["stand", "way"] (defScope s_can_go) := ⟨rfl, rfl, rfl, by decide +kernel, rfl, by decide +kernel, by decide +kernel⟩
theorem df_can_go (R : Raw K mg "can_go" "can_go" s_can_go) (B : Bn mg)    : Df ⟨P, w, K, mg⟩ base "can_go" ["stand", "way"] 1 F_can_go :=
  Df.pure (df_mk (N := N_can_go) (ps := ["stand", "way"]) (m := m_can_go) R sc_can_go (fun Fu => Fu.binds fun _ _ _ _ _ _ us hl => match us, hl with | [_, _], _ => rfl) fun f cdv A outer s H E hr => by
  have hu := room_u hr
  exact (qs_cons (qs_asg (qv 0) (qg_tup rfl (qgs_cons (qg_name 2 sc_can_go.nd) (qgs_cons (qg_name 3 sc_can_go.nd) qgs_nil))) (gT_nx [2, 3]))
    (qs_one (qs_ret (q_or (q_cmp (oA_notIn hu) (q_ix (iA hu) (qv 1) q_int) (qv 3)) (q_one (q_ix (iA hu) (qv 1) q_int)))))))
abbrev s_first_stand : Stmt := top 2
theorem sc_first_stand : FnScope N_first_stand ["places"] (defScope s_first_stand) := ⟨rfl, rfl, rfl, by decide +kernel, rfl, by decide +kernel, by decide +kernel⟩
theorem df_first_stand (R : Raw K mg "first_stand" "first_stand" s_first_stand) (B : Bn mg)    : Df ⟨P, w, K, mg⟩ base "first_stand" ["places"] 1 F_first_stand :=
  Df.pure (df_mk (N := N_first_stand) (ps := ["places"]) (m := m_first_stand) R sc_first_stand (fun Fu => Fu.binds fun _ _ _ _ _ _ us hl => match us, hl with | [_], _ => rfl) fun f cdv A outer s H E hr => by
  have hu := room_u hr
  exact (qs_one (qs_ret (q_tup (qa_cons (qv 0) (qa_cons (q_tup qa_nil) qa_nil))))))
abbrev s_gone : Stmt := top 9
theorem sc_gone : FnScope N_gone ["stand", "step"] (defScope s_gone) := ⟨rfl, rfl, rfl, by decide +kernel, rfl, by decide +kernel, by decide +kernel⟩
theorem df_gone (R : Raw K mg "gone" "gone" s_gone) (B : Bn mg)    : Df ⟨P, w, K, mg⟩ base "gone" ["stand", "step"] 1 F_gone :=
  Df.pure (df_mk (N := N_gone) (ps := ["stand", "step"]) (m := m_gone) R sc_gone (fun Fu => Fu.binds fun _ _ _ _ _ _ us hl => match us, hl with | [_, _], _ => rfl) fun f cdv A outer s H E hr => by
  have hu := room_u hr
  exact (qs_cons (qs_asg (qv 0) (qg_tup rfl (qgs_cons (qg_name 2 sc_gone.nd) (qgs_cons (qg_name 3 sc_gone.nd) qgs_nil))) (gT_nx [2, 3]))
    (qs_cons (qs_asg (qv 1) (qg_tup rfl (qgs_cons (qg_name 4 sc_gone.nd) (qgs_cons (qg_name 5 sc_gone.nd) qgs_nil))) (gT_nx [4, 5]))
    (qs_cons (qs_set 6 sc_gone.nd (q_ix (iA hu) (qv 2) (qv 4)))
    (qs_cons (qs_set 7 sc_gone.nd (q_op o_add (q_op o_add (q_slice (qv 2) qo_none (qo_some (qv 4))) (q_tup (qa_cons (qv 5) qa_nil))) (q_slice (qv 2) (qo_some (q_op o_add (qv 4) q_int)) qo_none)))
    (qs_cons (qs_set 8 sc_gone.nd (q_op o_add (qe_lc (own := [("one", 9)]) (t := (.one 9)) rfl sc_gone.nd (qi_any (qv 3)) (blkOk_by (own := [("one", 9)]) (N := N_gone) (sc := defScope s_gone) (by decide +kernel)) (by decide) (fun _ _ _ _ _ => (tg1 9 sc_gone.nd)) (fun _ _ _ _ _ => (qts_one (qt_cmp (o_ne hu) (qv 9) (qv 5)))) (fun _ _ _ _ _ => (qv 9))) (q_op o_mul (q_lst (qa_cons (qv 6) qa_nil)) (q_ty c_toI B.int (qa_cons (q_cmp (oA_notIn hu) (qv 6) (qv 7)) qa_nil)))))
    (qs_one (qs_ret (q_tup (qa_cons (qv 7) (qa_cons (q_ty c_toT B.tuple (qa_cons (q_bi (cA_sort rfl hu) B.sorted (qa_cons (qv 8) qa_nil)) qa_nil)) qa_nil)))))))))))
abbrev s_is_whole : Stmt := top 1
theorem sc_is_whole : FnScope N_is_whole ["thing"] (defScope s_is_whole) := ⟨rfl, rfl, rfl, by decide +kernel, rfl, by decide +kernel, by decide +kernel⟩
theorem df_is_whole (R : Raw K mg "is_whole" "is_whole" s_is_whole) (B : Bn mg)    : Df ⟨P, w, K, mg⟩ base "is_whole" ["thing"] 1 F_is_whole :=
  Df.pure (df_mk (N := N_is_whole) (ps := ["thing"]) (m := m_is_whole) R sc_is_whole (fun Fu => Fu.binds fun _ _ _ _ _ _ us hl => match us, hl with | [_], _ => rfl) fun f cdv A outer s H E hr => by
  have hu := room_u hr
  exact (qs_one (qs_ret (q_and (q_isi_int (qv 0) B.isinstance B.int) (q_one (q_not (q_isi_bool (qv 0) B.isinstance B.bool)))))))
abbrev s_meets : Stmt := top 14
theorem sc_meets : FnScope N_meets ["stand", "wish"] (defScope s_meets) := ⟨rfl, rfl, rfl, by decide +kernel, rfl, by decide +kernel, by decide +kernel⟩
theorem df_meets (R : Raw K mg "meets" "meets" s_meets) (B : Bn mg)    : Df ⟨P, w, K, mg⟩ base "meets" ["stand", "wish"] 1 F_meets :=
  Df.pure (df_mk (N := N_meets) (ps := ["stand", "wish"]) (m := m_meets) R sc_meets (fun Fu => Fu.binds fun _ _ _ _ _ _ us hl => match us, hl with | [_, _], _ => rfl) fun f cdv A outer s H E hr => by
  have hu := room_u hr
  exact (qs_one (qs_ret (q_bi (c_all rfl) B.all (qa_cons (qe_lc (own := [("place", 2), ("room", 3)]) (t := (.tup [2, 3])) rfl sc_meets.nd (qi_zip (q_ix (iA hu) (qv 0) q_int) (qv 1) B.zip) (blkOk_by (own := [("place", 2), ("room", 3)]) (N := N_meets) (sc := defScope s_meets) (by decide +kernel)) (by decide) (fun _ _ _ _ _ => (pg_tup rfl (pgs_cons (tg1 2 sc_meets.nd) (pgs_cons (tg1 3 sc_meets.nd) pgs_nil rfl) rfl) rfl rfl)) (fun _ _ _ _ _ => qts_nil) (fun _ _ _ _ _ => (q_or (q_cmp o_is (qv 3) q_non) (q_one (q_cmp (o_eq hu) (qv 3) (qv 2)))))) qa_nil)))))
abbrev s__law_house : Stmt := top 20
theorem sc__law_house : FnScope N__law_house ["deck", "most"] (defScope s__law_house) := ⟨rfl, rfl, rfl, by decide +kernel, rfl, by decide +kernel, by decide +kernel⟩
theorem df__law_house (R : Raw K mg "_law_house" "_law_house" s__law_house) (B : Bn mg)   (D__law_pick : Df ⟨P, w, K, mg⟩ base "_law_pick" ["deck", "limit"] 1 F__law_pick) : Df ⟨P, w, K, mg⟩ base "_law_house" ["deck", "most"] 2 F__law_house :=
  Df.pure (df_mk (N := N__law_house) (ps := ["deck", "most"]) (m := m__law_house) R sc__law_house (fun Fu => Fu.binds fun _ _ _ _ _ _ us hl => match us, hl with | [_, _], _ => rfl) fun f cdv A outer s H E hr => by
  have hu := room_u hr
  exact (qs_cons (qs_set 2 sc__law_house.nd (q_slice (q_lst (qa_cons q_str (qa_cons q_str (qa_cons q_str (qa_cons q_str (qa_cons q_str (qa_cons q_str qa_nil))))))) qo_none (qo_some (q_op o_add q_int (q_fn D__law_pick (hr.mono (by decide)) (L2N.takes_of rfl rfl rfl rfl) (qa_cons (qv 0) (qa_cons (q_op o_sub (qv 1) q_int) qa_nil)))))))
    (qs_cons (qs_set 3 sc__law_house.nd q_dict0)
    (qs_cons (qs_for (passes_of rfl) rfl (qi_zip (qv 2) (q_slice (qv 2) (qo_some q_int) qo_none) B.zip) (qg_tup rfl (qgs_cons (qg_name 4 sc__law_house.nd) (qgs_cons (qg_name 5 sc__law_house.nd) qgs_nil))) (gT_nx [4, 5]) (qs_one (qs_if (qt_cmp (o_gt hu) (q_fn D__law_pick (hr.mono (by decide)) (L2N.takes_of rfl rfl rfl rfl) (qa_cons (qv 0) (qa_cons q_int qa_nil))) q_int) (qs_cons (qs_put (setA hu) (q_cmp (o_eq hu) (q_fn D__law_pick (hr.mono (by decide)) (L2N.takes_of rfl rfl rfl rfl) (qa_cons (qv 0) (qa_cons q_int qa_nil))) q_int) (qv 3) (q_tup (qa_cons (qv 4) (qa_cons (qv 5) qa_nil))))
    (qs_one (qs_if (qt_cmp (o_gt hu) (q_fn D__law_pick (hr.mono (by decide)) (L2N.takes_of rfl rfl rfl rfl) (qa_cons (qv 0) (qa_cons q_int qa_nil))) q_int) (qs_one (qs_put (setA hu) (q_cmp (o_eq hu) (q_fn D__law_pick (hr.mono (by decide)) (L2N.takes_of rfl rfl rfl rfl) (qa_cons (qv 0) (qa_cons q_int qa_nil))) q_int) (qv 3) (q_tup (qa_cons (qv 5) (qa_cons (qv 4) qa_nil))))) qs_nil))) qs_nil)))
    (qs_cons (qs_for (passes_of rfl) rfl (qi_range1 (q_op o_add q_int (q_fn D__law_pick (hr.mono (by decide)) (L2N.takes_of rfl rfl rfl rfl) (qa_cons (qv 0) (qa_cons q_int qa_nil)))) B.range) (qg_name 6 sc__law_house.nd) (gN_nx 6) (qs_cons (qs_set 7 sc__law_house.nd (q_fn D__law_pick (hr.mono (by decide)) (L2N.takes_of rfl rfl rfl rfl) (qa_cons (qv 0) (qa_cons (q_bi c_len B.len (qa_cons (qv 2) qa_nil)) qa_nil))))
    (qs_cons (qs_set 5 sc__law_house.nd (q_ix (iA hu) (qv 2) (q_op o_mod (q_op o_add (q_op o_add (qv 7) q_int) (q_fn D__law_pick (hr.mono (by decide)) (L2N.takes_of rfl rfl rfl rfl) (qa_cons (qv 0) (qa_cons (q_op o_sub (q_bi c_len B.len (qa_cons (qv 2) qa_nil)) q_int) qa_nil)))) (q_bi c_len B.len (qa_cons (qv 2) qa_nil)))))
    (qs_one (qs_put (setA hu) (q_cmp (o_eq hu) (q_fn D__law_pick (hr.mono (by decide)) (L2N.takes_of rfl rfl rfl rfl) (qa_cons (qv 0) (qa_cons q_int qa_nil))) q_int) (qv 3) (q_tup (qa_cons (q_ix (iA hu) (qv 2) (qv 7)) (qa_cons (qv 5) qa_nil))))))))
    (qs_one (qs_ret (q_ty c_toT B.tuple (qa_cons (qe_lc (own := [("pair", 8)]) (t := (.one 8)) rfl sc__law_house.nd (qi_any (q_bi (cA_sort rfl hu) B.sorted (qa_cons (qv 3) qa_nil))) (blkOk_by (own := [("pair", 8)]) (N := N__law_house) (sc := defScope s__law_house) (by decide +kernel)) (by decide) (fun _ _ _ _ _ => (tg1 8 sc__law_house.nd)) (fun _ _ _ _ _ => qts_nil) (fun _ _ _ _ _ => (q_op o_add (qv 8) (q_tup (qa_cons (q_ix (iA hu) (qv 3) (qv 8)) qa_nil))))) qa_nil)))))))))
abbrev s__law_sum : Stmt := top 31
theorem sc__law_sum : FnScope N__law_sum ["house", "places", "wish"] (defScope s__law_sum) := ⟨rfl, rfl, rfl, by decide +kernel, rfl, by decide +kernel, by decide +kernel⟩
theorem df__law_sum (R : Raw K mg "_law_sum" "_law_sum" s__law_sum) (B : Bn mg)   (D__law_ways : Df ⟨P, w, K, mg⟩ base "_law_ways" ["house", "place"] 1 F__law_ways) : Df ⟨P, w, K, mg⟩ base "_law_sum" ["house", "places", "wish"] 2 F__law_sum :=
  Df.pure (df_mk (N := N__law_sum) (ps := ["house", "places", "wish"]) (m := m__law_sum) R sc__law_sum (fun Fu => Fu.binds fun _ _ _ _ _ _ us hl => match us, hl with | [_, _, _], _ => rfl) fun f cdv A outer s H E hr => by
  have hu := room_u hr
  exact (qs_cons (qs_set 3 sc__law_sum.nd q_int)
    (qs_cons (qs_for (passes_of rfl) rfl (qi_zip (qv 1) (qv 2) B.zip) (qg_tup rfl (qgs_cons (qg_name 4 sc__law_sum.nd) (qgs_cons (qg_name 5 sc__law_sum.nd) qgs_nil))) (gT_nx [4, 5]) (qs_cons (qs_set 6 sc__law_sum.nd (q_fn D__law_ways (hr.mono (by decide)) (L2N.takes_of rfl rfl rfl rfl) (qa_cons (qv 0) (qa_cons (qv 4) qa_nil))))
    (qs_cons (qs_if (qw_and (qt_cmp o_isNot (qv 5) q_non) (qw_and1 (qt_cmp (oA_notIn hu) (qv 5) (qv 6)))).pt (qs_one (qs_ret q_non)) qs_nil)
    (qs_one (qs_set 3 sc__law_sum.nd (q_op o_add (qv 3) (q_ifExp (qt_cmp o_isNot (qv 5) q_non) (q_ix (iA hu) (qv 6) (qv 5)) q_int)))))))
    (qs_one (qs_ret (qv 3))))))
abbrev s__law_wish : Stmt := top 28
theorem sc__law_wish : FnScope N__law_wish ["deck", "house", "size"] (defScope s__law_wish) := ⟨rfl, rfl, rfl, by decide +kernel, rfl, by decide +kernel, by decide +kernel⟩
theorem df__law_wish (R : Raw K mg "_law_wish" "_law_wish" s__law_wish) (B : Bn mg)   (D__law_pick : Df ⟨P, w, K, mg⟩ base "_law_pick" ["deck", "limit"] 1 F__law_pick) (D__law_rooms : Df ⟨P, w, K, mg⟩ base "_law_rooms" ["house"] 1 F__law_rooms) : Df ⟨P, w, K, mg⟩ base "_law_wish" ["deck", "house", "size"] 2 F__law_wish :=
  Df.pure (df_mk (N := N__law_wish) (ps := ["deck", "house", "size"]) (m := m__law_wish) R sc__law_wish (fun Fu => Fu.binds fun _ _ _ _ _ _ us hl => match us, hl with | [_, _, _], _ => rfl) fun f cdv A outer s H E hr => by
  have hu := room_u hr
  exact (qs_cons (qs_set 3 sc__law_wish.nd (q_op o_add (q_fn D__law_rooms (hr.mono (by decide)) (L2N.takes_of rfl rfl rfl rfl) (qa_cons (qv 1) qa_nil)) (q_lst (qa_cons q_non qa_nil))))
    (qs_one (qs_ret (q_ty c_toT B.tuple (qa_cons (qe_lc (own := [("k", 4)]) (t := (.one 4)) rfl sc__law_wish.nd (qi_range1 (qv 2) B.range) (blkOk_by (own := [("k", 4)]) (N := N__law_wish) (sc := defScope s__law_wish) (by decide +kernel)) (by decide) (fun _ _ _ _ _ => (tg1 4 sc__law_wish.nd)) (fun _ _ _ _ _ => qts_nil) (fun _ _ _ _ _ => (q_ix (iA hu) (qv 3) (q_fn D__law_pick (hr.mono (by decide)) tk0 (qa_cons (qv 0) (qa_cons (q_bi c_len B.len (qa_cons (qv 3) qa_nil)) qa_nil)))))) qa_nil))))))
abbrev s_steps : Stmt := top 8
theorem sc_steps : FnScope N_steps ["house", "stand"] (defScope s_steps) := ⟨rfl, rfl, rfl, by decide +kernel, rfl, by decide +kernel, by decide +kernel⟩
theorem df_steps (R : Raw K mg "steps" "steps" s_steps) (B : Bn mg)   (D_can_go : Df ⟨P, w, K, mg⟩ base "can_go" ["stand", "way"] 1 F_can_go) : Df ⟨P, w, K, mg⟩ base "steps" ["house", "stand"] 2 F_steps :=
  Df.pure (df_mk (N := N_steps) (ps := ["house", "stand"]) (m := m_steps) R sc_steps (fun Fu => Fu.binds fun _ _ _ _ _ _ us hl => match us, hl with | [_, _], _ => rfl) fun f cdv A outer s H E hr => by
  have hu := room_u hr
  exact (qs_cons (qs_set 2 sc_steps.nd (q_newL qa_nil))
    (qs_cons (qs_for (passes_of rfl) rfl (qi_enum (q_ix (iA hu) (qv 1) q_int) B.enumerate) (qg_tup rfl (qgs_cons (qg_name 3 sc_steps.nd) (qgs_cons (qg_name 4 sc_steps.nd) qgs_nil))) (gT_nx [3, 4]) (qs_one (qs_aug 2 sc_steps.nd (qe_lc (own := [("way", 5)]) (t := (.one 5)) rfl sc_steps.nd (qi_any (qv 0)) (blkOk_by (own := [("way", 5)]) (N := N_steps) (sc := defScope s_steps) (by decide +kernel)) (by decide) (fun _ _ _ _ _ => (tg1 5 sc_steps.nd)) (fun _ _ _ _ _ => (qts_one (qw_and (qt_cmp (o_eq hu) (q_ix (iA hu) (qv 5) q_int) (qv 4)) (qw_and1 (qt_val (q_fn D_can_go (hr.mono (by decide)) tk0 (qa_cons (qv 1) (qa_cons (qv 5) qa_nil)))))).pt)) (fun _ _ _ _ _ => (q_tup (qa_cons (qv 3) (qa_cons (q_ix (iA hu) (qv 5) q_int) qa_nil))))))))
    (qs_one (qs_ret (q_bi (cA_sort rfl hu) B.sorted (qa_cons (qv 2) qa_nil)))))))
abbrev s__law_scene : Stmt := top 29
theorem sc__law_scene : FnScope N__law_scene ["deck"] (defScope s__law_scene) := ⟨rfl, rfl, rfl, by decide +kernel, rfl, by decide +kernel, by decide +kernel⟩
theorem df__law_scene (R : Raw K mg "_law_scene" "_law_scene" s__law_scene) (B : Bn mg)   (D__law_house : Df ⟨P, w, K, mg⟩ base "_law_house" ["deck", "most"] 2 F__law_house) (D__law_pick : Df ⟨P, w, K, mg⟩ base "_law_pick" ["deck", "limit"] 1 F__law_pick) (D__law_rooms : Df ⟨P, w, K, mg⟩ base "_law_rooms" ["house"] 1 F__law_rooms) : Df ⟨P, w, K, mg⟩ base "_law_scene" ["deck"] 3 F__law_scene :=
  Df.pure (df_mk (N := N__law_scene) (ps := ["deck"]) (m := m__law_scene) R sc__law_scene (fun Fu => Fu.binds fun _ _ _ _ _ _ us hl => match us, hl with | [_], _ => rfl) fun f cdv A outer s H E hr => by
  have hu := room_u hr
  exact (qs_cons (qs_set 1 sc__law_scene.nd (q_op o_add q_int (q_fn D__law_pick (hr.mono (by decide)) (L2N.takes_of rfl rfl rfl rfl) (qa_cons (qv 0) (qa_cons q_int qa_nil)))))
    (qs_cons (qs_set 2 sc__law_scene.nd (q_fn D__law_house (hr.mono (by decide)) (L2N.takes_of rfl rfl rfl rfl) (qa_cons (qv 0) (qa_cons (q_op o_sub q_int (qv 1)) qa_nil))))
    (qs_cons (qs_set 3 sc__law_scene.nd (q_fn D__law_rooms (hr.mono (by decide)) (L2N.takes_of rfl rfl rfl rfl) (qa_cons (qv 2) qa_nil)))
    (qs_cons (qs_set 4 sc__law_scene.nd (q_ty c_toT B.tuple (qa_cons (qe_lc (own := [("k", 7)]) (t := (.one 7)) rfl sc__law_scene.nd (qi_range1 (qv 1) B.range) (blkOk_by (own := [("k", 7)]) (N := N__law_scene) (sc := defScope s__law_scene) (by decide +kernel)) (by decide) (fun _ _ _ _ _ => (tg1 7 sc__law_scene.nd)) (fun _ _ _ _ _ => qts_nil) (fun _ _ _ _ _ => (q_ix (iA hu) (qv 3) (q_fn D__law_pick (hr.mono (by decide)) tk0 (qa_cons (qv 0) (qa_cons (q_bi c_len B.len (qa_cons (qv 3) qa_nil)) qa_nil)))))) qa_nil)))
    (qs_cons (qs_setLc 5 (own := [("room", 6)]) (t := (.one 6)) rfl sc__law_scene.nd (qi_any (qv 3)) (blkOk_by (own := [("room", 6)]) (N := N__law_scene) (sc := defScope s__law_scene) (by decide +kernel)) (by decide) (fun _ _ _ _ _ => (tg1 6 sc__law_scene.nd)) (fun _ _ _ _ _ => (qts_one (qw_and (qt_cmp (oA_notIn hu) (qv 6) (qv 4)) (qw_and1 (qt_cmp (o_eq hu) (q_fn D__law_pick (hr.mono (by decide)) tk0 (qa_cons (qv 0) (qa_cons q_int qa_nil))) q_int))).pt)) (fun _ _ _ _ _ => (qv 6)))
    (qs_one (qs_ret (q_tup (qa_cons (qv 2) (qa_cons (q_tup (qa_cons (qv 4) (qa_cons (q_ty c_toT B.tuple (qa_cons (qv 5) qa_nil)) qa_nil))) qa_nil)))))))))))
abbrev s_come_to : Stmt := top 12
theorem sc_come_to : FnScope N_come_to ["house", "stand"] (defScope s_come_to) := ⟨rfl, rfl, rfl, by decide +kernel, rfl, by decide +kernel, by decide +kernel⟩
theorem df_come_to (R : Raw K mg "come_to" "come_to" s_come_to) (B : Bn mg)   (D_gone : Df ⟨P, w, K, mg⟩ base "gone" ["stand", "step"] 1 F_gone) (D_steps : Df ⟨P, w, K, mg⟩ base "steps" ["house", "stand"] 2 F_steps) : Df ⟨P, w, K, mg⟩ base "come_to" ["house", "stand"] 3 F_come_to :=
  Df.pure (df_mk (N := N_come_to) (ps := ["house", "stand"]) (m := m_come_to) R sc_come_to (fun Fu => Fu.binds fun _ _ _ _ _ _ us hl => match us, hl with | [_, _], _ => rfl) fun f cdv A outer s H E hr => by
  have hu := room_u hr
  exact (qs_cons (qs_set 2 sc_come_to.nd (q_dict1 hu (qv 1) q_non))
    (qs_cons (qs_set 3 sc_come_to.nd (q_lst (qa_cons (qv 1) qa_nil)))
    (qs_cons (qs_while _ (passes_of rfl) (qt_cmp (o_ne hu) (qv 3) (q_lst qa_nil)) (qs_cons (qs_set 4 sc_come_to.nd (q_newL qa_nil))
    (qs_cons (qs_for (passes_of rfl) rfl (qi_any (qv 3)) (qg_name 5 sc_come_to.nd) (gN_nx 5) (qs_one (qs_for (passes_of rfl) rfl (qi_any (q_fn D_steps (hr.mono (by decide)) (L2N.takes_of rfl rfl rfl rfl) (qa_cons (qv 0) (qa_cons (qv 5) qa_nil)))) (qg_name 6 sc_come_to.nd) (gN_nx 6) (qs_cons (qs_set 7 sc_come_to.nd (q_fn D_gone (hr.mono (by decide)) (L2N.takes_of rfl rfl rfl rfl) (qa_cons (qv 5) (qa_cons (qv 6) qa_nil))))
    (qs_one (qs_if (qt_cmp (oA_notIn hu) (qv 7) (qv 2)) (qs_cons (qs_put (setA hu) (q_tup (qa_cons (qv 5) (qa_cons (qv 6) qa_nil))) (qv 2) (qv 7))
    (qs_one (qs_expr (q_bm PySem.F.plainAttrs_list PySem.F.slot_list_append PySem.F.type_list_append m_append (qv 4) (qa_cons (qv 7) qa_nil))))) qs_nil))))))
    (qs_one (qs_set 3 sc_come_to.nd (q_frz (qv 4)))))))
    (qs_one (qs_ret (q_frz (qv 2))))))))
abbrev s_is_step : Stmt := top 10
theorem sc_is_step : FnScope N_is_step ["house", "stand", "thing"] (defScope s_is_step) := ⟨rfl, rfl, rfl, by decide +kernel, rfl, by decide +kernel, by decide +kernel⟩
theorem df_is_step (R : Raw K mg "is_step" "is_step" s_is_step) (B : Bn mg)   (D_is_whole : Df ⟨P, w, K, mg⟩ base "is_whole" ["thing"] 1 F_is_whole) (D_steps : Df ⟨P, w, K, mg⟩ base "steps" ["house", "stand"] 2 F_steps) : Df ⟨P, w, K, mg⟩ base "is_step" ["house", "stand", "thing"] 3 F_is_step :=
  Df.pure (df_mk (N := N_is_step) (ps := ["house", "stand", "thing"]) (m := m_is_step) R sc_is_step (fun Fu => Fu.binds fun _ _ _ _ _ _ us hl => match us, hl with | [_, _, _], _ => rfl) fun f cdv A outer s H E hr => by
  have hu := room_u hr
  exact (qs_cons (qs_if (qw_or (qt_not (qt_val (q_isi_tuple (qv 2) B.isinstance B.tuple))) (qw_or (qt_cmp (o_ne hu) (q_bi c_len B.len (qa_cons (qv 2) qa_nil)) q_int) (qw_or (qt_not (qt_val (q_fn D_is_whole (hr.mono (by decide)) (L2N.takes_of rfl rfl rfl rfl) (qa_cons (q_ix (iA hu) (qv 2) q_int) qa_nil)))) (qw_or1 (qt_not (qt_val (q_isi_str (q_ix (iA hu) (qv 2) q_int) B.isinstance B.str))))))).pt (qs_one (qs_ret q_bl)) qs_nil)
    (qs_one (qs_ret (q_cmp (oA_in hu) (qv 2) (q_fn D_steps (hr.mono (by decide)) (L2N.takes_of rfl rfl rfl rfl) (qa_cons (qv 0) (qa_cons (qv 1) qa_nil))))))))
abbrev s_closed_lot : Stmt := top 16
theorem sc_closed_lot : FnScope N_closed_lot ["house", "stand", "wish"] (defScope s_closed_lot) := ⟨rfl, rfl, rfl, by decide +kernel, rfl, by decide +kernel, by decide +kernel⟩
theorem df_closed_lot (R : Raw K mg "closed_lot" "closed_lot" s_closed_lot) (B : Bn mg)   (D_come_to : Df ⟨P, w, K, mg⟩ base "come_to" ["house", "stand"] 3 F_come_to) (D_meets : Df ⟨P, w, K, mg⟩ base "meets" ["stand", "wish"] 1 F_meets) : Df ⟨P, w, K, mg⟩ base "closed_lot" ["house", "stand", "wish"] 4 F_closed_lot :=
  Df.pure (df_mk (N := N_closed_lot) (ps := ["house", "stand", "wish"]) (m := m_closed_lot) R sc_closed_lot (fun Fu => Fu.binds fun _ _ _ _ _ _ us hl => match us, hl with | [_, _, _], _ => rfl) fun f cdv A outer s H E hr => by
  have hu := room_u hr
  exact (qs_cons (qs_set 3 sc_closed_lot.nd (q_ty c_toT B.tuple (qa_cons (q_bi (cA_sort rfl hu) B.sorted (qa_cons (q_fn D_come_to (hr.mono (by decide)) (L2N.takes_of rfl rfl rfl rfl) (qa_cons (qv 0) (qa_cons (qv 1) qa_nil))) qa_nil)) qa_nil)))
    (qs_cons (qs_if (qt_val (q_bi (c_any rfl) B.any (qa_cons (qe_lc (own := [("there", 4)]) (t := (.one 4)) rfl sc_closed_lot.nd (qi_any (qv 3)) (blkOk_by (own := [("there", 4)]) (N := N_closed_lot) (sc := defScope s_closed_lot) (by decide +kernel)) (by decide) (fun _ _ _ _ _ => (tg1 4 sc_closed_lot.nd)) (fun _ _ _ _ _ => qts_nil) (fun _ _ _ _ _ => (q_fn D_meets (hr.mono (by decide)) tk0 (qa_cons (qv 4) (qa_cons (qv 2) qa_nil))))) qa_nil))) (qs_one (qs_ret q_non)) qs_nil)
    (qs_one (qs_ret (qv 3))))))
abbrev s_shortest : Stmt := top 15
theorem sc_shortest : FnScope N_shortest ["house", "stand", "wish"] (defScope s_shortest) := ⟨rfl, rfl, rfl, by decide +kernel, rfl, by decide +kernel, by decide +kernel⟩
theorem df_shortest (R : Raw K mg "shortest" "shortest" s_shortest) (B : Bn mg)   (D_come_to : Df ⟨P, w, K, mg⟩ base "come_to" ["house", "stand"] 3 F_come_to) (D_meets : Df ⟨P, w, K, mg⟩ base "meets" ["stand", "wish"] 1 F_meets) : Df ⟨P, w, K, mg⟩ base "shortest" ["house", "stand", "wish"] 4 F_shortest :=
  Df.pure (df_mk (N := N_shortest) (ps := ["house", "stand", "wish"]) (m := m_shortest) R sc_shortest (fun Fu => Fu.binds fun _ _ _ _ _ _ us hl => match us, hl with | [_, _, _], _ => rfl) fun f cdv A outer s H E hr => by
  have hu := room_u hr
  exact (qs_cons (qs_set 3 sc_shortest.nd (q_fn D_come_to (hr.mono (by decide)) (L2N.takes_of rfl rfl rfl rfl) (qa_cons (qv 0) (qa_cons (qv 1) qa_nil))))
    (qs_cons (qs_for (passes_of rfl) rfl (qi_any (qv 3)) (qg_name 4 sc_shortest.nd) (gN_nx 4) (qs_one (qs_if (qt_val (q_fn D_meets (hr.mono (by decide)) (L2N.takes_of rfl rfl rfl rfl) (qa_cons (qv 4) (qa_cons (qv 2) qa_nil)))) (qs_cons (qs_set 5 sc_shortest.nd (q_newL qa_nil))
    (qs_cons (qs_while _ (passes_of rfl) (qt_cmp o_isNot (q_ix (iA hu) (qv 3) (qv 4)) q_non) (qs_cons (qs_asg (q_ix (iA hu) (qv 3) (qv 4)) (qg_tup rfl (qgs_cons (qg_name 4 sc_shortest.nd) (qgs_cons (qg_name 6 sc_shortest.nd) qgs_nil))) (gT_nx [4, 6]))
    (qs_one (qs_expr (q_bm PySem.F.plainAttrs_list PySem.F.slot_list_insert PySem.F.type_list_insert m_insert (qv 5) (qa_cons q_int (qa_cons (qv 6) qa_nil)))))))
    (qs_one (qs_ret (q_frz (qv 5)))))) qs_nil)))
    (qs_one (qs_ret q_non)))))
abbrev s_walked : Stmt := top 11
theorem sc_walked : FnScope N_walked ["house", "stand", "walk"] (defScope s_walked) := ⟨rfl, rfl, rfl, by decide +kernel, rfl, by decide +kernel, by decide +kernel⟩
theorem df_walked (R : Raw K mg "walked" "walked" s_walked) (B : Bn mg)   (D_gone : Df ⟨P, w, K, mg⟩ base "gone" ["stand", "step"] 1 F_gone) (D_is_step : Df ⟨P, w, K, mg⟩ base "is_step" ["house", "stand", "thing"] 3 F_is_step) : Df ⟨P, w, K, mg⟩ base "walked" ["house", "stand", "walk"] 4 F_walked :=
  Df.pure (df_mk (N := N_walked) (ps := ["house", "stand", "walk"]) (m := m_walked) R sc_walked (fun Fu => Fu.binds fun _ _ _ _ _ _ us hl => match us, hl with | [_, _, _], _ => rfl) fun f cdv A outer s H E hr => by
  have hu := room_u hr
  exact (qs_cons (qs_for (passes_of rfl) rfl (qi_enum (qv 2) B.enumerate) (qg_tup rfl (qgs_cons (qg_name 3 sc_walked.nd) (qgs_cons (qg_name 4 sc_walked.nd) qgs_nil))) (gT_nx [3, 4]) (qs_cons (qs_if (qt_not (qt_val (q_fn D_is_step (hr.mono (by decide)) (L2N.takes_of rfl rfl rfl rfl) (qa_cons (qv 0) (qa_cons (qv 1) (qa_cons (qv 4) qa_nil)))))) (qs_one qs_no) qs_nil)
    (qs_one (qs_set 1 sc_walked.nd (q_fn D_gone (hr.mono (by decide)) (L2N.takes_of rfl rfl rfl rfl) (qa_cons (qv 1) (qa_cons (qv 4) qa_nil)))))))
    (qs_one (qs_ret (qv 1)))))
abbrev s_law : Stmt := top 32
theorem sc_law : FnScope N_law ["script"] (defScope s_law) := ⟨rfl, rfl, rfl, by decide +kernel, rfl, by decide +kernel, by decide +kernel⟩
theorem df_law (R : Raw K mg "law" "law" s_law) (B : Bn mg)   (D__law_deck : ∀ base, Df ⟨P, w, K, mg⟩ base "_law_deck" ["cell", "turn"] 1 F__law_deck) (D__law_pick : ∀ base, Df ⟨P, w, K, mg⟩ base "_law_pick" ["deck", "limit"] 1 F__law_pick) (D__law_rooms : ∀ base, Df ⟨P, w, K, mg⟩ base "_law_rooms" ["house"] 1 F__law_rooms) (D__law_scene : ∀ base, Df ⟨P, w, K, mg⟩ base "_law_scene" ["deck"] 3 F__law_scene) (D__law_sum : ∀ base, Df ⟨P, w, K, mg⟩ base "_law_sum" ["house", "places", "wish"] 2 F__law_sum) (D__law_ways : ∀ base, Df ⟨P, w, K, mg⟩ base "_law_ways" ["house", "place"] 1 F__law_ways) (D__law_wish : ∀ base, Df ⟨P, w, K, mg⟩ base "_law_wish" ["deck", "house", "size"] 2 F__law_wish) (D_closed_lot : ∀ base, Df ⟨P, w, K, mg⟩ base "closed_lot" ["house", "stand", "wish"] 4 F_closed_lot) (D_first_stand : ∀ base, Df ⟨P, w, K, mg⟩ base "first_stand" ["places"] 1 F_first_stand) (D_shortest : ∀ base, Df ⟨P, w, K, mg⟩ base "shortest" ["house", "stand", "wish"] 4 F_shortest) (D_walked : ∀ base, Df ⟨P, w, K, mg⟩ base "walked" ["house", "stand", "walk"] 4 F_walked) : LawDf P w K mg 5 F_law :=
  law_mk (N := N_law) (m := m_law) R sc_law (fun _ _ _ _ _ _ _ => rfl) fun base f cdv A outer s H E hr => by
  have D__law_deck := D__law_deck base; have D__law_pick := D__law_pick base; have D__law_rooms := D__law_rooms base; have D__law_scene := D__law_scene base; have D__law_sum := D__law_sum base; have D__law_ways := D__law_ways base; have D__law_wish := D__law_wish base; have D_closed_lot := D_closed_lot base; have D_first_stand := D_first_stand base; have D_shortest := D_shortest base; have D_walked := D_walked base;
  have hu := room_u hr
  exact (qs_cons (qs_for (passes_of rfl) rfl (qi_any (q_op o_add (q_lst (qa_cons q_int qa_nil)) (q_slice (qv 0) qo_none (qo_some q_int)))) (qg_name 1 sc_law.nd) (gN_nx 1) (qs_cons (qs_set 2 sc_law.nd (q_fn D__law_deck (hr.mono (by decide)) (L2N.takes_of rfl rfl rfl rfl) (qa_cons (qv 1) (qa_cons q_int qa_nil))))
    (qs_cons (qs_asg (q_fn D__law_scene (hr.mono (by decide)) (L2N.takes_of rfl rfl rfl rfl) (qa_cons (qv 2) qa_nil)) (qg_tup rfl (qgs_cons (qg_name 3 sc_law.nd) (qgs_cons (qg_name 4 sc_law.nd) qgs_nil))) (gT_nx [3, 4]))
    (qs_cons (qs_set 5 sc_law.nd (q_ty c_toT B.tuple (qa_cons (qe_lc (own := [("way", 17)]) (t := (.one 17)) rfl sc_law.nd (qi_any (qv 3)) (blkOk_by (own := [("way", 17)]) (N := N_law) (sc := defScope s_law) (by decide +kernel)) (by decide) (fun _ _ _ _ _ => (tg1 17 sc_law.nd)) (fun _ _ _ _ _ => qts_nil) (fun _ _ _ _ _ => (q_op o_add (q_slice (qv 17) qo_none (qo_some q_int)) (q_tup (qa_cons q_bl qa_nil))))) qa_nil)))
    (qs_cons (qs_for (passes_of rfl) rfl (qi_range1 q_int B.range) (qg_name 6 sc_law.nd) (gN_nx 6) (qs_cons (qs_set 7 sc_law.nd (q_fn D__law_wish (hr.mono (by decide)) (L2N.takes_of rfl rfl rfl rfl) (qa_cons (qv 2) (qa_cons (qv 3) (qa_cons (q_bi c_len B.len (qa_cons (q_ix (iA hu) (qv 4) q_int) qa_nil)) qa_nil)))))
    (qs_cons (qs_set 8 sc_law.nd (q_fn D_shortest (hr.mono (by decide)) (L2N.takes_of rfl rfl rfl rfl) (qa_cons (qv 5) (qa_cons (qv 4) (qa_cons (qv 7) qa_nil)))))
    (qs_one (qs_if (qt_cmp (o_ne hu) (q_ifExp (qt_cmp o_is (qv 8) q_non) q_non (q_bi c_len B.len (qa_cons (qv 8) qa_nil))) (q_fn D__law_sum (hr.mono (by decide)) (L2N.takes_of rfl rfl rfl rfl) (qa_cons (qv 3) (qa_cons (q_ix (iA hu) (qv 4) q_int) (qa_cons (qv 7) qa_nil))))) (qs_one (qs_ret q_bl)) qs_nil)))))
    (qs_cons (qs_set 9 sc_law.nd (q_fn D__law_rooms (hr.mono (by decide)) (L2N.takes_of rfl rfl rfl rfl) (qa_cons (qv 3) qa_nil)))
    (qs_cons (qs_set 10 sc_law.nd (q_ix (iA hu) (qv 9) (q_fn D__law_pick (hr.mono (by decide)) (L2N.takes_of rfl rfl rfl rfl) (qa_cons (qv 2) (qa_cons (q_bi c_len B.len (qa_cons (qv 9) qa_nil)) qa_nil)))))
    (qs_cons (qs_par 11 12 rfl sc_law.nd (q_fn D_first_stand (hr.mono (by decide)) (L2N.takes_of rfl rfl rfl rfl) (qa_cons (q_tup (qa_cons (qv 10) qa_nil)) qa_nil)) (q_fn D__law_ways (hr.mono (by decide)) (L2N.takes_of rfl rfl rfl rfl) (qa_cons (qv 3) (qa_cons (qv 10) qa_nil))))
    (qs_one (qs_for (passes_of rfl) rfl (qi_any (qv 9)) (qg_name 13 sc_law.nd) (gN_nx 13) (qs_cons (qs_set 8 sc_law.nd (q_fn D_shortest (hr.mono (by decide)) (L2N.takes_of rfl rfl rfl rfl) (qa_cons (qv 3) (qa_cons (qv 11) (qa_cons (q_tup (qa_cons (qv 13) qa_nil)) qa_nil)))))
    (qs_cons (qs_if (qt_cmp (o_ne hu) (q_ifExp (qt_cmp o_is (qv 8) q_non) q_non (q_bi c_len B.len (qa_cons (qv 8) qa_nil))) (q_bm PySem.F.plainAttrs_dict PySem.F.slot_dict_get PySem.F.type_dict_get (m_get hu) (qv 12) (qa_cons (qv 13) (qa_cons q_non qa_nil)))) (qs_one (qs_ret q_bl)) qs_nil)
    (qs_cons (qs_if (qt_cmp (o_ne hu) (q_cmp o_is (qv 8) q_non) (q_cmp o_isNot (q_fn D_closed_lot (hr.mono (by decide)) (L2N.takes_of rfl rfl rfl rfl) (qa_cons (qv 3) (qa_cons (qv 11) (qa_cons (q_tup (qa_cons (qv 13) qa_nil)) qa_nil)))) q_non)) (qs_one (qs_ret q_bl)) qs_nil)
    (qs_one (qs_if (qw_and (qt_cmp o_isNot (qv 8) q_non) (qw_and1 (qt_cmp (o_gt hu) (q_bi c_len B.len (qa_cons (qv 8) qa_nil)) q_int))).pt (qs_cons (qs_set 14 sc_law.nd (q_fn D_walked (hr.mono (by decide)) (L2N.takes_of rfl rfl rfl rfl) (qa_cons (qv 3) (qa_cons (qv 11) (qa_cons (qv 8) qa_nil)))))
    (qs_cons (qs_set 15 sc_law.nd (q_fn D_shortest (hr.mono (by decide)) (L2N.takes_of rfl rfl rfl rfl) (qa_cons (qv 3) (qa_cons (qv 14) (qa_cons (q_tup (qa_cons (qv 10) qa_nil)) qa_nil)))))
    (qs_cons (qs_setLc 16 (own := [("one", 18), ("other", 19), ("key", 20)]) (t := (.tup [18, 19, 20])) rfl sc_law.nd (qi_any (qv 3)) (blkOk_by (own := [("one", 18), ("other", 19), ("key", 20)]) (N := N_law) (sc := defScope s_law) (by decide +kernel)) (by decide) (fun _ _ _ _ _ => (pg_tup rfl (pgs_cons (tg1 18 sc_law.nd) (pgs_cons (tg1 19 sc_law.nd) (pgs_cons (tg1 20 sc_law.nd) pgs_nil rfl) rfl) rfl) rfl rfl)) (fun _ _ _ _ _ => (qts_one (qw_and (qt_cmp (o_eq hu) (qv 19) (qv 10)) (qw_and1 (qt_val (qv 20)))).pt)) (fun _ _ _ _ _ => (qv 18)))
    (qs_one (qs_if (qw_and (qt_cmp o_isNot (qv 15) q_non) (qw_and1 (qt_cmp (o_eq hu) (qv 16) (q_lst qa_nil)))).pt (qs_one (qs_ret q_bl)) qs_nil))))) qs_nil)))))))))))))))
    (qs_one (qs_ret q_bl)))
end
end W

set_option Elab.async false
set_option linter.all false
open PySem PySem.W PyProof.Rows in
set_option maxRecDepth 100000 in
set_option maxHeartbeats 0 in
theorem PySem.Challenge.cw_lastlight_k09_whole_where_nothing_bars_holds : PySem.Challenge.rw_lastlight_k09_whole_where_nothing_bars.Holds := by
  w_on; o_law; k_head; (case hw => w_witness2)
  k_fill
  refine QL.walkQ (l := PySem.Challenge.rw_lastlight_k09_whole_where_nothing_bars) (n := 63) (k := 5) (F := W.F_law) rfl (by decide) rfl ⟨rfl, by decide, by decide⟩ rfl (fun w h Y => PySem.W.kIn_of Y) ?D W.law_is
  case D =>
    intro w mg h KX G
    have B : QL.Bn mg := by
      refine' QL.bn_mk KX G ?z_1
      case z_1 =>
        intro x hx
        simp only [List.mem_cons, List.not_mem_nil, or_false] at hx
        rcases hx with rfl | rfl | rfl | rfl | rfl | rfl | rfl | rfl | rfl | rfl | rfl | rfl | rfl | rfl <;> k_is
    have R__law_deck : QL.Raw (L2.KOf KX) mg "_law_deck" "_law_deck" W.s__law_deck := by
      unfold L2.KOf
      refine' QL.raw_mk KX G ?a_2 ?l_2 ?c_2 ?k_2
      (case a_2 => k_is)
      (case l_2 => k_is)
      (case c_2 => k_is)
      (case k_2 => k_is)
    have D__law_deck := fun base : Heap => W.df__law_deck (P := PySem.Challenge.rw_lastlight_k09_whole_where_nothing_bars.prog) (w := w) (base := base) R__law_deck B
    have R__law_pick : QL.Raw (L2.KOf KX) mg "_law_pick" "_law_pick" W.s__law_pick := by
      unfold L2.KOf
      refine' QL.raw_mk KX G ?a_4 ?l_4 ?c_4 ?k_4
      (case a_4 => k_is)
      (case l_4 => k_is)
      (case c_4 => k_is)
      (case k_4 => k_is)
    have D__law_pick := fun base : Heap => W.df__law_pick (P := PySem.Challenge.rw_lastlight_k09_whole_where_nothing_bars.prog) (w := w) (base := base) R__law_pick B
    have R__law_rooms : QL.Raw (L2.KOf KX) mg "_law_rooms" "_law_rooms" W.s__law_rooms := by
      unfold L2.KOf
      refine' QL.raw_mk KX G ?a_6 ?l_6 ?c_6 ?k_6
      (case a_6 => k_is)
      (case l_6 => k_is)
      (case c_6 => k_is)
      (case k_6 => k_is)
    have D__law_rooms := fun base : Heap => W.df__law_rooms (P := PySem.Challenge.rw_lastlight_k09_whole_where_nothing_bars.prog) (w := w) (base := base) R__law_rooms B
    have R__law_ways : QL.Raw (L2.KOf KX) mg "_law_ways" "_law_ways" W.s__law_ways := by
      unfold L2.KOf
      refine' QL.raw_mk KX G ?a_8 ?l_8 ?c_8 ?k_8
      (case a_8 => k_is)
      (case l_8 => k_is)
      (case c_8 => k_is)
      (case k_8 => k_is)
    have D__law_ways := fun base : Heap => W.df__law_ways (P := PySem.Challenge.rw_lastlight_k09_whole_where_nothing_bars.prog) (w := w) (base := base) R__law_ways B
    have R_can_go : QL.Raw (L2.KOf KX) mg "can_go" "can_go" W.s_can_go := by
      unfold L2.KOf
      refine' QL.raw_mk KX G ?a_10 ?l_10 ?c_10 ?k_10
      (case a_10 => k_is)
      (case l_10 => k_is)
      (case c_10 => k_is)
      (case k_10 => k_is)
    have D_can_go := fun base : Heap => W.df_can_go (P := PySem.Challenge.rw_lastlight_k09_whole_where_nothing_bars.prog) (w := w) (base := base) R_can_go B
    have R_first_stand : QL.Raw (L2.KOf KX) mg "first_stand" "first_stand" W.s_first_stand := by
      unfold L2.KOf
      refine' QL.raw_mk KX G ?a_12 ?l_12 ?c_12 ?k_12
      (case a_12 => k_is)
      (case l_12 => k_is)
      (case c_12 => k_is)
      (case k_12 => k_is)
    have D_first_stand := fun base : Heap => W.df_first_stand (P := PySem.Challenge.rw_lastlight_k09_whole_where_nothing_bars.prog) (w := w) (base := base) R_first_stand B
    have R_gone : QL.Raw (L2.KOf KX) mg "gone" "gone" W.s_gone := by
      unfold L2.KOf
      refine' QL.raw_mk KX G ?a_14 ?l_14 ?c_14 ?k_14
      (case a_14 => k_is)
      (case l_14 => k_is)
      (case c_14 => k_is)
      (case k_14 => k_is)
    have D_gone := fun base : Heap => W.df_gone (P := PySem.Challenge.rw_lastlight_k09_whole_where_nothing_bars.prog) (w := w) (base := base) R_gone B
    have R_is_whole : QL.Raw (L2.KOf KX) mg "is_whole" "is_whole" W.s_is_whole := by
      unfold L2.KOf
      refine' QL.raw_mk KX G ?a_16 ?l_16 ?c_16 ?k_16
      (case a_16 => k_is)
      (case l_16 => k_is)
      (case c_16 => k_is)
      (case k_16 => k_is)
    have D_is_whole := fun base : Heap => W.df_is_whole (P := PySem.Challenge.rw_lastlight_k09_whole_where_nothing_bars.prog) (w := w) (base := base) R_is_whole B
    have R_meets : QL.Raw (L2.KOf KX) mg "meets" "meets" W.s_meets := by
      unfold L2.KOf
      refine' QL.raw_mk KX G ?a_18 ?l_18 ?c_18 ?k_18
      (case a_18 => k_is)
      (case l_18 => k_is)
      (case c_18 => k_is)
      (case k_18 => k_is)
    have D_meets := fun base : Heap => W.df_meets (P := PySem.Challenge.rw_lastlight_k09_whole_where_nothing_bars.prog) (w := w) (base := base) R_meets B
    have R__law_house : QL.Raw (L2.KOf KX) mg "_law_house" "_law_house" W.s__law_house := by
      unfold L2.KOf
      refine' QL.raw_mk KX G ?a_20 ?l_20 ?c_20 ?k_20
      (case a_20 => k_is)
      (case l_20 => k_is)
      (case c_20 => k_is)
      (case k_20 => k_is)
    have D__law_house := fun base : Heap => W.df__law_house (P := PySem.Challenge.rw_lastlight_k09_whole_where_nothing_bars.prog) (w := w) (base := base) R__law_house B (D__law_pick base)
    have R__law_sum : QL.Raw (L2.KOf KX) mg "_law_sum" "_law_sum" W.s__law_sum := by
      unfold L2.KOf
      refine' QL.raw_mk KX G ?a_22 ?l_22 ?c_22 ?k_22
      (case a_22 => k_is)
      (case l_22 => k_is)
      (case c_22 => k_is)
      (case k_22 => k_is)
    have D__law_sum := fun base : Heap => W.df__law_sum (P := PySem.Challenge.rw_lastlight_k09_whole_where_nothing_bars.prog) (w := w) (base := base) R__law_sum B (D__law_ways base)
    have R__law_wish : QL.Raw (L2.KOf KX) mg "_law_wish" "_law_wish" W.s__law_wish := by
      unfold L2.KOf
      refine' QL.raw_mk KX G ?a_24 ?l_24 ?c_24 ?k_24
      (case a_24 => k_is)
      (case l_24 => k_is)
      (case c_24 => k_is)
      (case k_24 => k_is)
    have D__law_wish := fun base : Heap => W.df__law_wish (P := PySem.Challenge.rw_lastlight_k09_whole_where_nothing_bars.prog) (w := w) (base := base) R__law_wish B (D__law_pick base) (D__law_rooms base)
    have R_steps : QL.Raw (L2.KOf KX) mg "steps" "steps" W.s_steps := by
      unfold L2.KOf
      refine' QL.raw_mk KX G ?a_26 ?l_26 ?c_26 ?k_26
      (case a_26 => k_is)
      (case l_26 => k_is)
      (case c_26 => k_is)
      (case k_26 => k_is)
    have D_steps := fun base : Heap => W.df_steps (P := PySem.Challenge.rw_lastlight_k09_whole_where_nothing_bars.prog) (w := w) (base := base) R_steps B (D_can_go base)
    have R__law_scene : QL.Raw (L2.KOf KX) mg "_law_scene" "_law_scene" W.s__law_scene := by
      unfold L2.KOf
      refine' QL.raw_mk KX G ?a_28 ?l_28 ?c_28 ?k_28
      (case a_28 => k_is)
      (case l_28 => k_is)
      (case c_28 => k_is)
      (case k_28 => k_is)
    have D__law_scene := fun base : Heap => W.df__law_scene (P := PySem.Challenge.rw_lastlight_k09_whole_where_nothing_bars.prog) (w := w) (base := base) R__law_scene B (D__law_house base) (D__law_pick base) (D__law_rooms base)
    have R_come_to : QL.Raw (L2.KOf KX) mg "come_to" "come_to" W.s_come_to := by
      unfold L2.KOf
      refine' QL.raw_mk KX G ?a_30 ?l_30 ?c_30 ?k_30
      (case a_30 => k_is)
      (case l_30 => k_is)
      (case c_30 => k_is)
      (case k_30 => k_is)
    have D_come_to := fun base : Heap => W.df_come_to (P := PySem.Challenge.rw_lastlight_k09_whole_where_nothing_bars.prog) (w := w) (base := base) R_come_to B (D_gone base) (D_steps base)
    have R_is_step : QL.Raw (L2.KOf KX) mg "is_step" "is_step" W.s_is_step := by
      unfold L2.KOf
      refine' QL.raw_mk KX G ?a_32 ?l_32 ?c_32 ?k_32
      (case a_32 => k_is)
      (case l_32 => k_is)
      (case c_32 => k_is)
      (case k_32 => k_is)
    have D_is_step := fun base : Heap => W.df_is_step (P := PySem.Challenge.rw_lastlight_k09_whole_where_nothing_bars.prog) (w := w) (base := base) R_is_step B (D_is_whole base) (D_steps base)
    have R_closed_lot : QL.Raw (L2.KOf KX) mg "closed_lot" "closed_lot" W.s_closed_lot := by
      unfold L2.KOf
      refine' QL.raw_mk KX G ?a_34 ?l_34 ?c_34 ?k_34
      (case a_34 => k_is)
      (case l_34 => k_is)
      (case c_34 => k_is)
      (case k_34 => k_is)
    have D_closed_lot := fun base : Heap => W.df_closed_lot (P := PySem.Challenge.rw_lastlight_k09_whole_where_nothing_bars.prog) (w := w) (base := base) R_closed_lot B (D_come_to base) (D_meets base)
    have R_shortest : QL.Raw (L2.KOf KX) mg "shortest" "shortest" W.s_shortest := by
      unfold L2.KOf
      refine' QL.raw_mk KX G ?a_36 ?l_36 ?c_36 ?k_36
      (case a_36 => k_is)
      (case l_36 => k_is)
      (case c_36 => k_is)
      (case k_36 => k_is)
    have D_shortest := fun base : Heap => W.df_shortest (P := PySem.Challenge.rw_lastlight_k09_whole_where_nothing_bars.prog) (w := w) (base := base) R_shortest B (D_come_to base) (D_meets base)
    have R_walked : QL.Raw (L2.KOf KX) mg "walked" "walked" W.s_walked := by
      unfold L2.KOf
      refine' QL.raw_mk KX G ?a_38 ?l_38 ?c_38 ?k_38
      (case a_38 => k_is)
      (case l_38 => k_is)
      (case c_38 => k_is)
      (case k_38 => k_is)
    have D_walked := fun base : Heap => W.df_walked (P := PySem.Challenge.rw_lastlight_k09_whole_where_nothing_bars.prog) (w := w) (base := base) R_walked B (D_gone base) (D_is_step base)
    have R_law : QL.Raw (L2.KOf KX) mg "law" "law" W.s_law := by
      unfold L2.KOf
      refine' QL.raw_mk KX G ?a_40 ?l_40 ?c_40 ?k_40
      (case a_40 => k_is)
      (case l_40 => k_is)
      (case c_40 => k_is)
      (case k_40 => k_is)
    exact W.df_law R_law B D__law_deck D__law_pick D__law_rooms D__law_scene D__law_sum D__law_ways D__law_wish D_closed_lot D_first_stand D_shortest D_walked
#print axioms PySem.Challenge.cw_lastlight_k09_whole_where_nothing_bars_holds

