import PyProof.Rows.All
import Wide.All
import OpenK.AllK
import Wide.FinOn
import HandS.ForMost
import HandS.Conv
import HandS.TupLen
import KE.KDictKeyed
import KE.KDictCopyH
import KE.KeyNested
import KE.SortData
import HandS.DictComp
import KE.KEqDict
import KE.DataFind
import KE.DataCmp
import HandS.Deep
import HandS.IsInst
import PyProof.ReprRoads
import HandS.FStr
import HandS.FStrTup
import HandS.ExcInit
import HandS.ExcField
import HandS.Nested
import KE.KExcSuper
import HandS.Words
import HandS.Ends
import HandS.Flow
import HandS.TupSets
import HandS.Comp
import HandS.TryOnly
import HandS.ExcOwn
import PySem.Challenge.RW_graphtwins_k40_deeds_of_a_replica
import HandS.WordsExc
import HandS.ForDict
set_option Elab.async false
set_option linter.all false
set_option maxRecDepth 100000
set_option maxHeartbeats 4000000

namespace K40
open PySem PySem.Spec PyProof.Rows L2

/-! ### dicts whose keys are nested tuples -/
abbrev NE := List (NestedKey × Addr × V)
abbrev NVs := List (NestedKey × Addr × Value)
def NR : NE → NVs → Prop := Paired fun (p : NestedKey × Addr × V) (q : NestedKey × Addr × Value) => p.1 = q.1 ∧ p.2.1 = q.2.1 ∧ RelV p.2.2 q.2.2
def lookN (xs : NE) (k : NestedKey) : Option V := (xs.find? fun x => decide (x.1 = k)).map (·.2.2)
def repN (k : NestedKey) (v : V) (x : NestedKey × Addr × V) : NestedKey × Addr × V := if x.1 = k then (x.1, x.2.1, v) else x
def putN (xs : NE) (k : NestedKey) (b : Addr) (v : V) : NE := if (lookN xs k).isSome = true then xs.map (repN k v) else xs ++ [(k, b, v)]
def rawN (P : Program) (w : World) (a : Addr) (ys : NVs) (h : Heap) : Prop :=
  ∃ o es ep, h.get? a = some o ∧ o.ExactDict ∧ o.data = .dict es ep ∧ es.toList = ys.map (entryOfKey (nestedKind P w)) ∧ (ys.map (·.1)).Nodup
def NO (P : Program) (w : World) (a : Addr) (xs : NE) : HO :=
  .ext fun h => xs.length ≤ sizeLine ∧ (a == sysModules) = false ∧ ∃ ys, NR xs ys ∧ rawN P w a ys h
/-- b is the key k -/
def KeyN (K : PySem.W.Frag) (H : Hp) (b : Addr) (k : NestedKey) : Prop := Dp K H (.ref b) k.data ∧ k.depth ≤ 8
def NKs (K : PySem.W.Frag) (H : Hp) (xs : NE) : Prop := ∀ x ∈ xs, KeyN K H x.2.1 x.1

theorem lookN_nil {k : NestedKey} : lookN [] k = none := rfl
theorem lookN_pos {x : NestedKey × Addr × V} {r : NE} {k : NestedKey} (e : x.1 = k) : lookN (x :: r) k = some x.2.2 := by simp [lookN, List.find?_cons, e]
theorem lookN_neg {x : NestedKey × Addr × V} {r : NE} {k : NestedKey} (e : ¬ x.1 = k) : lookN (x :: r) k = lookN r k := by simp [lookN, List.find?_cons, e]
theorem NR.look {xs : NE} {ys : NVs} (r : NR xs ys) (k : NestedKey) : RelO (lookN xs k) ((atKey ys k).map (·.2)) := by
  unfold NR at r
  induction r with
  | nil => exact True.intro
  | @cons p q ps qs h t ih =>
    obtain ⟨h1, _, h3⟩ := h
    by_cases e : p.1 = k
    · have e' : q.1 = k := h1.symm.trans e
      rw [lookN_pos e]
      have hq : atKey (q :: qs) k = some q.2 := by simp [atKey, List.find?_cons, e']
      rw [hq]
      exact h3
    · have e' : ¬ q.1 = k := fun z => e (h1.trans z)
      rw [lookN_neg e]
      have hq : atKey (q :: qs) k = atKey qs k := by simp [atKey, List.find?_cons, e']
      rw [hq]
      exact ih
theorem NR.length {xs : NE} {ys : NVs} (r : NR xs ys) : xs.length = ys.length := Paired.length r
theorem NR.get {xs : NE} {ys : NVs} (r : NR xs ys) {i : Nat} {x : NestedKey × Addr × V} (e : xs[i]? = some x) : ∃ y, ys[i]? = some y ∧ x.1 = y.1 ∧ x.2.1 = y.2.1 ∧ RelV x.2.2 y.2.2 := paired_get r e
theorem NR.memR {xs : NE} {ys : NVs} (r : NR xs ys) {y : NestedKey × Addr × Value} (hy : y ∈ ys) : ∃ x ∈ xs, x.1 = y.1 ∧ x.2.1 = y.2.1 := by
  unfold NR at r
  induction r with
  | nil => cases hy
  | @cons p q ps qs h t ih =>
    rcases List.mem_cons.mp hy with e | e
    · exact ⟨p, List.mem_cons_self, by rw [e]; exact h.1, by rw [e]; exact h.2.1⟩
    · obtain ⟨x, hx, e1⟩ := ih e
      exact ⟨x, List.mem_cons_of_mem _ hx, e1⟩
theorem NR.rep {xs : NE} {ys : NVs} (r : NR xs ys) (k : NestedKey) {v : V} {u : Value} (rv : RelV v u) : NR (xs.map (repN k v)) (ys.map (putAt k u)) := by
  unfold NR at r ⊢
  induction r with
  | nil => exact .nil
  | @cons p q ps qs h t ih =>
    rw [List.map_cons, List.map_cons]
    refine .cons ?_ ih
    obtain ⟨h1, h2, h3⟩ := h
    unfold repN putAt
    by_cases e : p.1 = k
    · rw [if_pos e, if_pos (h1.symm.trans e)]
      exact ⟨h1, h2, rv⟩
    · rw [if_neg e, if_neg (fun z => e (h1.trans z))]
      exact ⟨h1, h2, h3⟩
theorem NR.put {xs : NE} {ys : NVs} (r : NR xs ys) (k : NestedKey) (b : Addr) {v : V} {u : Value} (rv : RelV v u) : NR (putN xs k b v) (storedH ys k b u) := by
  have e : (lookN xs k).isSome = (atKey ys k).isSome := by
    have z := (r.look k).isSome_eq
    rwa [Option.isSome_map] at z
  unfold putN storedH
  rw [e]
  by_cases q : (atKey ys k).isSome = true
  · rw [if_pos q, if_pos q]
    exact r.rep k rv
  · rw [if_neg q, if_neg q]
    exact Paired.snoc r ⟨rfl, rfl, rv⟩
theorem length_putN (xs : NE) (k : NestedKey) (b : Addr) (v : V) : (putN xs k b v).length ≤ xs.length + 1 := by
  unfold putN
  split
  · rw [List.length_map]; omega
  · rw [List.length_append, List.length_cons, List.length_nil]; omega
theorem NKs.put {K : PySem.W.Frag} {H : Hp} {xs : NE} {k : NestedKey} {b : Addr} {v : V} (h : NKs K H xs) (hb : KeyN K H b k) : NKs K H (putN xs k b v) := by
  unfold putN
  split
  · intro x hx
    obtain ⟨y, hy, rfl⟩ := List.mem_map.mp hx
    have z := h y hy
    unfold repN
    split
    · exact z
    · exact z
  · intro x hx
    rcases List.mem_append.mp hx with e | e
    · exact h x e
    · have e' : x = (k, b, v) := by simpa using e
      rw [e']
      exact hb

/-! ### what reads as a key is one -/
mutual
theorem nk_reads {h : Heap} : ∀ (k : NestedKey) (v : Value) (as : List Addr), Reads h v k.data as → NestedIs h k v
  | .none, v, as, r => by
    rw [NestedKey.data] at r
    cases r
    exact .none
  | .num i, v, as, r => by
    rw [NestedKey.data] at r
    cases r
    exact .int _ _
  | .text x, v, as, r => by
    rw [NestedKey.data] at r
    cases r
    exact .text _ _
  | .tup ks, v, as, r => by
    rw [NestedKey.data] at r
    cases r with
    | tuple h1 h2 h3 h4 => exact .tup h1 h2 h3 (nks_reads ks _ _ h4)
theorem nks_reads {h : Heap} : ∀ (ks : List NestedKey) (vs : List Value) (as : List Addr), ReadsAll h vs (NestedKey.datas ks) as → NestedAll h ks vs
  | [], vs, as, r => by
    rw [NestedKey.datas] at r
    cases r
    exact .nil
  | k :: ks, vs, as, r => by
    rw [NestedKey.datas] at r
    cases r with
    | cons h1 h2 => exact .cons (nk_reads k _ _ h1) (nks_reads ks _ _ h2)
end

section
variable {X : Cx} {pins : List (Addr × Obj)} {σ : L2.St} {H : Hp} {s : Shared} {a b : Addr} {xs : NE} {k : NestedKey}
theorem key_is (I : Inv X pins σ H s) (hk : KeyN X.K H b k) : (nestedKind X.prog X.w).is s.heap k b := by
  obtain ⟨as, r⟩ := Dp.reads I k.data (.ref b) (.ref b) hk.1 rfl
  exact ⟨nk_reads k _ _ r, hk.2⟩
theorem no_rd (I : Inv X pins σ H s) (e : Rd H a (NO X.prog X.w a xs)) : xs.length ≤ sizeLine ∧ (a == sysModules) = false ∧ ∃ ys, NR xs ys ∧ rawN X.prog X.w a ys s.heap := by
  have z : ObjOk X.prog X.w H s.heap a (NO X.prog X.w a xs) := e.ok I.hok
  exact z.1
theorem no_of (I : Inv X pins σ H s) (e : Rd H a (NO X.prog X.w a xs)) (hk : NKs X.K H xs) : xs.length ≤ sizeLine ∧ (a == sysModules) = false ∧ ∃ ys, NR xs ys ∧ s.heap.DictOfH (nestedKind X.prog X.w) a ys := by
  obtain ⟨z, hd, ys, r, o, es, ep, h1, h2, h3, h4, h5⟩ := no_rd I e
  refine ⟨z, hd, ys, r, o, es, ep, h1, h2, h3, h4, fun y hy => ?_, h5⟩
  obtain ⟨x, hx, e1, e2⟩ := r.memR hy
  rw [← e1, ← e2]
  exact key_is I (hk x hx)
theorem no_new {P : Program} {w : World} {H : Hp} {h : Heap} {a : Addr} {xs : NE} {ys : NVs} (z : xs.length ≤ sizeLine) (hd : (a == sysModules) = false) (r : NR xs ys) (x : rawN P w a ys h) : ObjOk P w H h a (NO P w a xs) := by
  obtain ⟨o, es, ep, h1, h2⟩ := x
  refine ⟨⟨z, hd, ys, r, o, es, ep, h1, h2⟩, ⟨o, h1⟩, fun g1 g2 q st => ?_⟩
  obtain ⟨z, hd, ys, r, o, es, ep, h1, h2⟩ := q
  exact ⟨z, hd, ys, r, o, es, ep, st _ h1, h2⟩
theorem raw_of {P : Program} {w : World} {h : Heap} {ys : NVs} (x : h.DictOfH (nestedKind P w) a ys) : rawN P w a ys h := by
  obtain ⟨o, es, ep, h1, h2, h3, h4, _, h5⟩ := x
  exact ⟨o, es, ep, h1, h2, h3, h4, h5⟩
theorem no_empty {P : Program} {w : World} {H : Hp} (h : Heap) (hb : sysModules < h.objs.size) : ObjOk P w H (h.push { cls := .type "dict", data := .dict #[] }) h.objs.size (NO P w h.objs.size []) :=
  no_new (Nat.zero_le _) (beq_eq_false_iff_ne.mpr (Ne.symm (Nat.ne_of_lt hb))) .nil (raw_of (Heap.DictOfH.new h))
theorem nroom {P : Program} {w : World} {A : Around} (hu : A.units + 64 < cLine) : (nestedKind P w).room A.in1 := by
  show A.units + 1 + 8 < cLine
  omega
theorem nroom0 {P : Program} {w : World} {A : Around} (hu : A.units + 64 < cLine) : (nestedKind P w).room A := by
  show A.units + 8 < cLine
  omega
end

/-- what the dict at a holds at the key y -/
def NGet (K : PySem.W.Frag) (P : Program) (w : World) (H : Hp) (a : Addr) (y : V) (o : Option V) : Prop :=
  ∃ xs k b, Rd H a (NO P w a xs) ∧ NKs K H xs ∧ y = .ref b ∧ KeyN K H b k ∧ o = lookN xs k
/-- behind a[y] = v -/
def NPut (K : PySem.W.Frag) (P : Program) (w : World) (H : Hp) (a : Addr) (y v : V) (H' : Hp) : Prop :=
  ∃ xs k b, H a = some (NO P w a xs) ∧ NKs K H xs ∧ y = .ref b ∧ KeyN K H b k ∧ xs.length < sizeLine ∧ H' = upd H a (NO P w a (putN xs k b v))
theorem no_mut {P : Program} {w : World} {a : Addr} {xs : NE} : Mut (some (NO P w a xs)) := True.intro

section
variable {X : Cx} {pins : List (Addr × Obj)} {σ : L2.St} {H : Hp} {s : Shared} {a : Addr} {y v : V} {u r : Value} {o : Option V} {A : Around} {E : Value → Shared → Prop}
theorem n_getItem {Q : Value → Shared → Prop} (hu : A.units + 64 < cLine) (I : Inv X pins σ H s) (g : NGet X.K X.prog X.w H a y (some v)) (ry : RelV y u) (h : ∀ w' s', Inv X pins σ H s' → RelV v w' → Q w' s') :
    wpAny (model X.prog X.w) A (getItem (.ref a) u) Q E s := by
  obtain ⟨xs, k, b, e, hk, rfl, hb, l⟩ := g
  cases (show u = Value.ref b from ry)
  obtain ⟨z, hd, ys, rel, dd⟩ := no_of I e hk
  obtain ⟨w', hw, rw'⟩ := RelO.some_of (v := v) (o := (atKey ys k).map (·.2)) (by rw [l]; exact rel.look k)
  obtain ⟨p, hp, hp2⟩ := Option.map_eq_some_iff.mp hw
  refine wpAny_getItem_heap (nroom hu) (key_is I hb) dd hp ?_
  rw [hp2]
  exact h w' _ (I.tok _) rw'
theorem n_get1 {Q : Value → Shared → Prop} (hu : A.units + 64 < cLine) (I : Inv X pins σ H s) (g : NGet X.K X.prog X.w H a y o) (ry : RelV y u) (h : ∀ w' s', Inv X pins σ H s' → RelV (o.getD .non) w' → Q w' s') :
    wpAny (model X.prog X.w) A (call (.builtin "dict.get") [.ref a, u]) Q E s := by
  obtain ⟨xs, k, b, e, hk, rfl, hb, l⟩ := g
  cases (show u = Value.ref b from ry)
  obtain ⟨z, hd, ys, rel, dd⟩ := no_of I e hk
  refine call_meetsIn PySem.F.slot_dict_get dd.typeIs PySem.F.entry_dict_get (PySem.F.args_dict_get_2 _ _) (meetsH_dict_get (nestedKind X.prog X.w) a b hd) ⟨nroom hu, k, ys, key_is I hb, dd, h _ _ (I.tok _) ?_⟩
  rw [l]
  exact (rel.look k).getD rfl
theorem n_notIn {Q : Value → Shared → Prop} (hu : A.units + 64 < cLine) (I : Inv X pins σ H s) (g : NGet X.K X.prog X.w H a y o) (ry : RelV y u) (h : ∀ s', Inv X pins σ H s' → Q (.bool (!o.isSome)) s') :
    wpAny (model X.prog X.w) A (compareOp .NotIn u (.ref a)) Q E s := by
  obtain ⟨xs, k, b, e, hk, rfl, hb, l⟩ := g
  cases (show u = Value.ref b from ry)
  obtain ⟨z, hd, ys, rel, dd⟩ := no_of I e hk
  refine wpAny_notIn_heap (nroom hu) (key_is I hb) hd dd ?_
  have q := (rel.look k).isSome_eq
  rw [Option.isSome_map] at q
  rw [← q, ← l]
  exact h _ (I.tok _)
theorem n_upd {t' : Nat} {h' : Heap} {xs xs' : NE} {ys' : NVs} (I : Inv X pins σ H s) (e : H a = some (NO X.prog X.w a xs)) (hz : xs'.length ≤ sizeLine) (hd : (a == sysModules) = false) (r : NR xs' ys') (dd : h'.DictOfH (nestedKind X.prog X.w) a ys') (hs : Heap.SameBut a s.heap h') :
    Inv X pins σ (upd H a (NO X.prog X.w a xs')) { s with heap := h', toks := t' } := by
  have he : ∃ q, h'.get? a = some q := let ⟨q, _, _, hq, _⟩ := dd; ⟨q, hq⟩
  exact d_write (H := H) (a := a) I (by rw [e]; exact no_mut) hs he (no_new hz hd r (raw_of dd))
theorem n_setItem {H' : Hp} {Q : Unit → Shared → Prop} (hu : A.units + 64 < cLine) (I : Inv X pins σ H s) (g : NPut X.K X.prog X.w H a y v H') (ry : RelV y u) (rv : RelV v r) (h : ∀ s', Inv X pins σ H' s' → Q () s') :
    wpAny (model X.prog X.w) A (setItem (.ref a) u r) Q E s := by
  obtain ⟨xs, k, b, e, hk, rfl, hb, l, rfl⟩ := g
  cases (show u = Value.ref b from ry)
  obtain ⟨z, hd, ys, rel, dd⟩ := no_of I (.inl e) hk
  have hz : ys.length ≤ sizeLine := by rw [← rel.length]; exact z
  have hl : (putN xs k b v).length ≤ sizeLine := by have := length_putN xs k b v; omega
  exact wpAny_setItem_heap (hsz := hz) (nroom hu) (key_is I hb) dd fun h' dd' hs => h _ (n_upd I e hl hd (rel.put k b rv) dd' hs)
theorem n_dictSet {H' : Hp} {Q : Unit → Shared → Prop} (hu : A.units + 64 < cLine) (I : Inv X pins σ H s) (g : NPut X.K X.prog X.w H a y v H') (ry : RelV y u) (rv : RelV v r) (h : ∀ s', Inv X pins σ H' s' → Q () s') :
    wpAny (model X.prog X.w) A (dictSet a u r) Q E s := by
  obtain ⟨xs, k, b, e, hk, rfl, hb, l, rfl⟩ := g
  cases (show u = Value.ref b from ry)
  obtain ⟨z, hd, ys, rel, dd⟩ := no_of I (.inl e) hk
  have hz : ys.length ≤ sizeLine := by rw [← rel.length]; exact z
  have hl : (putN xs k b v).length ≤ sizeLine := by have := length_putN xs k b v; omega
  exact wpAny_dictSet_heap (hsz := hz) (nroom0 hu) (key_is I hb) dd fun h' dd' hs => h _ (n_upd I e hl hd (rel.put k b rv) dd' hs)
/-- d.setdefault(y, v) -/
theorem n_setd {Q : Value → Shared → Prop} {xs : NE} {k : NestedKey} {b : Addr} (hu : A.units + 64 < cLine) (I : Inv X pins σ H s) (e : H a = some (NO X.prog X.w a xs)) (hk : NKs X.K H xs) (hb : KeyN X.K H b k) (l : xs.length < sizeLine) (rv : RelV v r)
    (h1 : ∀ x w' s', lookN xs k = some x → Inv X pins σ H s' → RelV x w' → Q w' s') (h2 : ∀ s', lookN xs k = none → Inv X pins σ (upd H a (NO X.prog X.w a (putN xs k b v))) s' → Q r s') :
    wpAny (model X.prog X.w) A (call (.builtin "dict.setdefault") [.ref a, .ref b, r]) Q E s := by
  obtain ⟨z, hd, ys, rel, dd⟩ := no_of I (.inl e) hk
  have hz : ys.length ≤ sizeLine := by rw [← rel.length]; exact z
  have hl : (putN xs k b v).length ≤ sizeLine := by have := length_putN xs k b v; omega
  have rl := rel.look k
  refine call_setdefault_heap (hsz := hz) (nroom hu) (key_is I hb) hd dd (fun p hp => ?_) fun hn h' dd' hs => ?_
  · rw [hp] at rl
    cases hx : lookN xs k with
    | none => rw [hx] at rl; exact rl.elim
    | some x =>
      rw [hx] at rl
      exact h1 x _ _ hx (I.tok _) rl
  · rw [hn] at rl
    cases hx : lookN xs k with
    | none => exact h2 _ hx (n_upd I e hl hd (rel.put k b rv) dd' hs)
    | some x => rw [hx] at rl; exact rl.elim
theorem n_typeIs {xs : NE} (I : Inv X pins σ H s) (e : Rd H a (NO X.prog X.w a xs)) : s.TypeIs (.ref a) "dict" ∧ (∀ b, Value.ref a = .ref b → ∃ ob, s.heap.get? b = some ob ∧ ob.dict = none) := by
  obtain ⟨_, _, ys, _, ob, _, _, h1, h2, _⟩ := no_rd I e
  exact ⟨⟨ob, h1, h2.1⟩, fun b q => by cases q; exact ⟨ob, h1, h2.2.1⟩⟩
end
end K40

namespace K40
open PySem PySem.Spec PyProof.Rows L2

/-! ### rules for nested dicts -/
def tNGet (K : PySem.W.Frag) (P : Program) (w : World) (td ty : TE) : TE := fun σ H Q => td σ H fun x H1 => ty σ H1 fun y H2 => ∃ a v, x = .ref a ∧ NGet K P w H2 a y (some v) ∧ Q v H2
def tNGet1 (K : PySem.W.Frag) (P : Program) (w : World) (td ty : TE) : TE := fun σ H Q => td σ H fun x H1 => ∃ a xs, x = .ref a ∧ Rd H1 a (NO P w a xs) ∧ ty σ H1 fun y H2 => ∃ o, NGet K P w H2 a y o ∧ Q (o.getD .non) H2
def tNNotIn (K : PySem.W.Frag) (P : Program) (w : World) (ty td : TE) : TE := fun σ H Q => ty σ H fun y H1 => td σ H1 fun x H2 => ∃ a o, x = .ref a ∧ NGet K P w H2 a y o ∧ Q (.bl (!o.isSome)) H2
def sNPut (K : PySem.W.Frag) (P : Program) (w : World) (td ty tv : TE) : TS := fun D σ H => tv σ H fun v H1 => td σ H1 fun x H2 => ty σ H2 fun y H3 => ∃ a H4, x = .ref a ∧ NPut K P w H3 a y v H4 ∧ D.nx σ H4
def tNNew (P : Program) (w : World) : TE := fun _ H Q => ∀ p, H p = none → Q (.ref p) (upd H p (NO P w p []))
/-- d.setdefault(y, v) -/
def tNSetd (K : PySem.W.Frag) (P : Program) (w : World) (td ty tv : TE) : TE := fun σ H Q => td σ H fun x H1 => ∃ a xs0, x = .ref a ∧ Rd H1 a (NO P w a xs0) ∧ ty σ H1 fun y H2 => tv σ H2 fun z H3 =>
  ∃ xs k b, H3 a = some (NO P w a xs) ∧ NKs K H3 xs ∧ y = .ref b ∧ KeyN K H3 b k ∧ xs.length < sizeLine ∧ (∀ v, lookN xs k = some v → Q v H3) ∧ (lookN xs k = none → Q z (upd H3 a (NO P w a (putN xs k b z))))
section
variable {X : Cx} {o i e f value : Expr} {pos pos' apos cpos : Pos} {td ty tv : TE} {kk : Nat}
theorem pe_nget (hr : Room kk X.A) (ho : PE X o td) (hi : PE X i ty) (hs : NoSl i := by exact (fun _ _ => rfl)) : PE X (.Subscript o i pos) (tNGet X.K X.prog X.w td ty) := by
  refine ⟨fun pins s σ H Q I h => ?_⟩
  refine subD_of PySem.F.slot_dict_getitem.lookup hs (thn (ho.run pins s σ H _ I h) fun u s1 ⟨x, H1, I1, rx, q1⟩ => thn (hi.run pins s1 σ H1 _ I1 q1) fun iv s2 ⟨y, H2, I2, ry, a, v, ex, g, q2⟩ => ?_)
  subst ex
  obtain rfl : u = Value.ref a := rx
  have ti : s2.TypeIs (.ref a) "dict" := by
    obtain ⟨xs, _, _, e, _⟩ := g
    exact (n_typeIs I2 e).1
  exact ⟨ti, n_getItem hr.units I2 g ry fun w' s3 I3 rw' => ⟨v, H2, I3, rw', q2⟩⟩
theorem pe_nget1 (hr : Room kk X.A) (ho : PE X o td) (he : PE X e ty) (m : M1 X o "get" apos e cpos := by exact ⟨by rfl, by rfl, by rfl, by rfl⟩) : PE X (.Call (.Attribute o "get" apos) [e] [] cpos) (tNGet1 X.K X.prog X.w td ty) := by
  refine ⟨fun pins s σ H Q I h => ?_⟩
  refine wpAny_Call_method m.base m.few m.line PySem.F.plainAttrs_dict PySem.F.slot_dict_get PySem.F.type_dict_get (thn (ho.run pins s σ H _ I h) fun u s1 ⟨x, H1, I1, rx, a, xs, ex, d, q1⟩ => ?_)
  subst ex
  obtain rfl : u = Value.ref a := rx
  obtain ⟨t1, t2⟩ := n_typeIs I1 d
  refine ⟨t1, t2, ?_⟩
  rw [m.trees]
  refine Calls.callWith_builtin rfl (Calls.evalArgs_plain (Calls.spliced_cons (thn (he.run pins s1 σ H1 _ I1 q1) fun iv s2 ⟨y, H2, I2, ry, ov, g, q2⟩ => Calls.spliced_nil ?_)))
  exact n_get1 hr.units I2 g ry fun w' s3 I3 rw' => ⟨_, H2, I3, rw', q2⟩
theorem pc_nnotin (hr : Room kk X.A) (hi : PE X i ty) (ho : PE X o td) : PC X .NotIn i o (tNNotIn X.K X.prog X.w ty td) := by
  refine ⟨fun pins s σ H Q I h => ?_⟩
  refine thn (hi.run pins s σ H _ I h) fun iv s1 ⟨y, H1, I1, ry, q1⟩ => thn (ho.run pins s1 σ H1 _ I1 q1) fun u s2 ⟨x, H2, I2, rx, a, ov, ex, g, q2⟩ => ?_
  subst ex
  obtain rfl : u = Value.ref a := rx
  exact n_notIn hr.units I2 g ry fun s3 I3 => ⟨.bl (!ov.isSome), H2, I3, rfl, q2⟩
theorem ps_nput (hr : Room kk X.A) (ho : PE X o td) (hi : PE X i ty) (hv : PE X value tv) (hs : swapsWith value (some (.Subscript o i pos')) pos.line X.env = pure false := by rfl) :
    PS X (.Assign [.Subscript o i pos'] value pos) (sNPut X.K X.prog X.w td ty tv) := by
  refine ⟨fun pins s σ H D I h => ?_⟩
  refine wpAny_Assign_Subscript (thn (hv.run pins s σ H _ I h) fun r s1 ⟨v, H1, I1, rv, q1⟩ => thn (ho.run pins s1 σ H1 _ I1 q1) fun u s2 ⟨x, H2, I2, rx, q2⟩ => thn (hi.run pins s2 σ H2 _ I2 q2) fun iv s3 ⟨y, H3, I3, ry, a, H4, ex, g, q3⟩ => ?_) hs
  subst ex
  obtain rfl : u = Value.ref a := rx
  exact n_setItem hr.units I3 g ry rv fun s4 I4 => ⟨σ, H4, I4, q3⟩
theorem pe_nnew : PE X (.Dict [] [] pos) (tNNew X.prog X.w) := ⟨fun pins s σ H Q I h =>
  wpAny_Dict_empty ⟨.ref s.heap.objs.size, _, I.laid (a := s.heap.objs.size) (o := NO X.prog X.w s.heap.objs.size []) (t' := s.toks) (fun _ _ q => Heap.get?_push_of_some _ q) (Nat.le_refl _) (no_empty s.heap I.big), rfl, h _ (I.hok.fresh (Nat.le_refl _))⟩⟩
theorem pe_nsetd (hr : Room kk X.A) (ho : PE X o td) (he : PE X e ty) (hf : PE X f tv) (m : M2 X o "setdefault" apos e f cpos := by exact ⟨by rfl, by rfl, by rfl, by rfl⟩) : PE X (.Call (.Attribute o "setdefault" apos) [e, f] [] cpos) (tNSetd X.K X.prog X.w td ty tv) := by
  refine ⟨fun pins s σ H Q I h => ?_⟩
  refine wpAny_Call_method m.base m.few m.line PySem.F.plainAttrs_dict PySem.F.slot_dict_setdefault PySem.F.type_dict_setdefault (thn (ho.run pins s σ H _ I h) fun u s1 ⟨x, H1, I1, rx, a, xs0, ex, d, q1⟩ => ?_)
  subst ex
  obtain rfl : u = Value.ref a := rx
  obtain ⟨t1, t2⟩ := n_typeIs I1 d
  refine ⟨t1, t2, ?_⟩
  rw [m.trees]
  refine Calls.callWith_builtin rfl (Calls.evalArgs_plain (Calls.spliced_cons (thn (he.run pins s1 σ H1 _ I1 q1) fun iv s2 ⟨y, H2, I2, ry, q2⟩ =>
    Calls.spliced_cons (thn (hf.run pins s2 σ H2 _ I2 q2) fun fv s3 ⟨z, H3, I3, rz, xs, k, b, ea, hk, ey, hb, hl, q3, q4⟩ => Calls.spliced_nil ?_))))
  subst ey
  obtain rfl : iv = Value.ref b := ry
  exact n_setd hr.units I3 ea hk hb hl rz (fun x w' s4 l I4 rw' => ⟨_, H3, I4, rw', q3 x l⟩) fun s4 l I4 => ⟨z, _, I4, rz, q4 l⟩
/-- len(d) -/
def rLenN (P : Program) (w : World) : List V → Hp → VK → Prop := fun vs H Q => ∃ (p : Addr) (xs : NE), vs = [.ref p] ∧ Rd H p (NO P w p xs) ∧ Q (.int ((xs.length : Nat) : Int)) H
theorem call_lenN {K : PySem.W.Frag} : CallR X (.builtin "len") (fun vs H Q => ∃ (p : Addr) (xs : NE), vs = [.ref p] ∧ Rd H p (NO X.prog X.w p xs) ∧ NKs X.K H xs ∧ Q (.int ((xs.length : Nat) : Int)) H) := by
  intro pins s σ H vs us Q I r h
  obtain ⟨p, xs, rfl, hp, hk, q⟩ := h
  obtain ⟨u, rfl, rx⟩ := vals1 r
  obtain rfl : u = .ref p := rx
  obtain ⟨z, hd, ys, rel, dd⟩ := no_of I hp hk
  have hl : xs.length = ys.length := rel.length
  refine call_len_dictH hd dd (by rw [← hl]; rw [sizeLine_eq] at z; omega) ?_
  rw [← hl]
  exact ⟨.int ((xs.length : Nat) : Int), H, I.tok _, ⟨_, rfl⟩, q⟩
/-- what is walked of a nested dict: its own keys, in a row -/
theorem raw_keys {pins : List (Addr × Obj)} {σ : L2.St} {H : Hp} {s : Shared} {a : Addr} {xs : NE} (I : Inv X pins σ H s) (e : Rd H a (NO X.prog X.w a xs)) :
    (a == sysModules) = false ∧ ∃ es ep, s.heap.DictRaw a es ep ∧ es.size = xs.length ∧ ∀ (i : Nat) (x : NestedKey × Addr × V), xs[i]? = some x → ∃ en, es[i]? = some en ∧ en.key = .ref x.2.1 ∧ RelV x.2.2 en.val := by
  obtain ⟨z, hd, ys, rel, o, es, ep, h1, h2, h3, h4, h5⟩ := no_rd I e
  refine ⟨hd, es, ep, ⟨o, h1, h2, h3⟩, ?_, fun i x hx => ?_⟩
  · rw [rel.length]; exact size_of_entries h4
  · obtain ⟨y, hy, e1, e2, e3⟩ := rel.get hx
    have q := entry_at h4 i
    rw [hy] at q
    refine ⟨_, q, ?_, e3⟩
    show Value.ref y.2.1 = _
    rw [e2]
theorem refs_items {a : Addr} {es : Array DictEntry} {xs : NE} (hs : es.size = xs.length) (hx : ∀ (i : Nat) (x : NestedKey × Addr × V), xs[i]? = some x → ∃ en, es[i]? = some en ∧ en.key = .ref x.2.1 ∧ RelV x.2.2 en.val) {acc : Array Value}
    (it : ItemsOf (fun i v => ∃ hi : i < es.size, v = es[i].key) acc es.size) : acc.toList = xs.map fun x => Value.ref x.2.1 := by
  refine List.ext_getElem? fun i => ?_
  obtain ⟨i1, i2⟩ := it
  by_cases hi : i < xs.length
  · have hacc : i < acc.size := by omega
    have e1 : acc[i]? = some acc[i] := Array.getElem?_eq_getElem hacc
    obtain ⟨hj, e2⟩ := i2 i _ e1
    obtain ⟨en, h1, h2, _⟩ := hx i xs[i] (List.getElem?_eq_getElem hi)
    have e3 : es[i] = en := by
      have q : es[i]? = some es[i] := Array.getElem?_eq_getElem hj
      rw [q] at h1
      exact Option.some.inj h1
    rw [Array.getElem?_toList, e1, e2, e3, h2, List.getElem?_map, List.getElem?_eq_getElem hi]
    rfl
  · rw [List.getElem?_eq_none (by rw [Array.length_toList]; omega), List.getElem?_eq_none (by rw [List.length_map]; omega)]
theorem vals_refsN : ∀ xs : NE, Vals (xs.map fun x => V.ref x.2.1) (xs.map fun x => Value.ref x.2.1)
  | [] => .nil
  | x :: xs => .cons rfl (vals_refsN xs)
/-- list(d) -/
theorem call_listN (hc : X.calm = true) : CallR X (.type "list") (fun vs H Q => ∃ (a : Addr) (xs : NE), vs = [.ref a] ∧ Rd H a (NO X.prog X.w a xs) ∧ ∀ p, H p = none → Q (.ref p) (upd H p (.lst (xs.map fun x => V.ref x.2.1)))) := by
  intro pins s σ H vs us Q I r q
  obtain ⟨a, xs, rfl, e, q⟩ := q
  obtain ⟨u, rfl, rx⟩ := vals1 r
  obtain rfl : u = .ref a := rx
  obtain ⟨hd, es, ep, hm, hs, hx⟩ := raw_keys I e
  have hz := (no_rd I e).1
  refine PySem.W.kdl_call (KdlSrc.rawDict hd) (I.ok.hd hc) hm (by omega) fun h' tk acc c hk hD it => ?_
  have ea := refs_items (a := a) hs hx it
  refine ⟨.ref s.heap.objs.size, _, I.laid (t' := tk) hk (Nat.le_refl _) (o := .lst (xs.map fun x => V.ref x.2.1)) ⟨by rw [List.length_map]; exact hz, acc.toList, c, by rw [ea]; exact vals_refsN xs, by rw [Array.toArray_toList]; exact hD⟩, rfl, q _ (I.hok.fresh (Nat.le_refl _))⟩
end
end K40

namespace K40
open PySem PySem.Spec PyProof.Rows L2

mutual
theorem nk_nil {h : Heap} : ∀ (k : NestedKey) (v : Value) (as : List Addr), Reads h v k.data as → as = []
  | .none, v, as, r => by
    rw [NestedKey.data] at r
    cases r
    rfl
  | .num i, v, as, r => by
    rw [NestedKey.data] at r
    cases r
    rfl
  | .text x, v, as, r => by
    rw [NestedKey.data] at r
    cases r
    rfl
  | .tup ks, v, as, r => by
    rw [NestedKey.data] at r
    cases r with
    | tuple h1 h2 h3 h4 => exact nks_nil ks _ _ h4
theorem nks_nil {h : Heap} : ∀ (ks : List NestedKey) (vs : List Value) (as : List Addr), ReadsAll h vs (NestedKey.datas ks) as → as = []
  | [], vs, as, r => by
    rw [NestedKey.datas] at r
    cases r
    rfl
  | k :: ks, vs, as, r => by
    rw [NestedKey.datas] at r
    cases r with
    | cons h1 h2 =>
      rw [nk_nil k _ _ h1, nks_nil ks _ _ h2]
      rfl
end
/-- the key's data -/
def eK (x : NestedKey × Addr × V) : PyData := x.1.data
/-- the entries in the keys' order -/
def srtN (xs : NE) : NE := xs.mergeSort (PySem.W.dataLe false eK)
theorem each_self {R : Value → (NestedKey × Addr × V) → Prop} {f : (NestedKey × Addr × V) → Value} : ∀ {xs : NE}, (∀ x ∈ xs, R (f x) x) → PySem.W.EachIs R (xs.map f) xs
  | [], _ => .nil
  | x :: xs, h => .cons (h x List.mem_cons_self) (each_self fun y hy => h y (List.mem_cons_of_mem _ hy))
theorem each_eq {f : (NestedKey × Addr × V) → Value} : ∀ {vs : List Value} {xs : NE}, PySem.W.EachIs (fun v x => v = f x) vs xs → vs = xs.map f
  | _, _, .nil => rfl
  | _, _, .cons h t => by rw [h, each_eq t]; rfl
theorem kdata_depth : ∀ k : NestedKey, k.data.depth = k.depth := by
  intro k
  exact go k
where
  go : ∀ k : NestedKey, k.data.depth = k.depth
  | .none => by simp [NestedKey.data, PyData.depth, NestedKey.depth]
  | .num i => by simp [NestedKey.data, PyData.depth, NestedKey.depth]
  | .text x => by simp [NestedKey.data, PyData.depth, NestedKey.depth]
  | .tup ks => by
    rw [NestedKey.data, PyData.depth, NestedKey.depth, goA ks]
  goA : ∀ ks : List NestedKey, PyData.depthAll (NestedKey.datas ks) = NestedKey.depthAll ks
  | [] => by simp [NestedKey.datas, PyData.depthAll, NestedKey.depthAll]
  | k :: ks => by
    rw [NestedKey.datas, PyData.depthAll, NestedKey.depthAll, go k, goA ks]
section
variable {X : Cx}
/-- sorted(d) -/
def rSortN (K : PySem.W.Frag) (P : Program) (w : World) : List V → Hp → VK → Prop := fun vs H Q => ∃ (a : Addr) (xs : NE), vs = [.ref a] ∧ Rd H a (NO P w a xs) ∧ NKs K H xs ∧ PySem.W.AllAlike (xs.map eK) ∧ PySem.W.Sortable (xs.map eK) ∧
  ∀ p, H p = none → Q (.ref p) (upd H p (.lst ((srtN xs).map fun x => V.ref x.2.1)))
theorem call_sortedN {kk : Nat} (hr : Room kk X.A) (hc : X.calm = true) : CallR X (.builtin "sorted") (rSortN X.K X.prog X.w) := by
  intro pins s σ H vs us Q I r q
  obtain ⟨a, xs, rfl, e, hk, hal, hst, q⟩ := q
  obtain ⟨u, rfl, rx⟩ := vals1 r
  obtain rfl : u = .ref a := rx
  obtain ⟨hd, es, ep, hm, hs, hx⟩ := raw_keys I e
  have hz := (no_rd I e).1
  refine Calls.call_function_entry PyProof.Rows.kind_sorted PyProof.Rows.plain_sorted PyProof.Rows.entry_sorted (PyProof.Rows.args_sorted1 _) ?_
  unfold Builtin.«sorted»
  refine wpAny_bind (m := checkCount "sorted" 1 1 _) (wpAny_pure ?_)
  refine wpAny_bind (PySem.W.kdu_collect (A := X.A.in1) (KdlSrc.rawDict hd) (I.ok.hd hc) hm (by omega) fun h' tk acc hkp it => ?_)
  have ea := refs_items (a := a) hs hx it
  have I1 : Inv X pins σ H { s with heap := h', toks := tk } := I.kept hkp
  have hlen : acc.toList.length = xs.length := by rw [ea, List.length_map]
  refine wpAny_bind (wpAny_newList ?_ (by rw [hlen]; exact hz))
  have hoL : (h'.push (seqObj "list" acc.toList.toArray 0)).get? h'.objs.size = some (seqObj "list" acc.toList.toArray 0) := Heap.get?_push_size _ rfl
  show wpAny _ _ _ _ _ { s with heap := h'.push (seqObj "list" acc.toList.toArray 0), toks := tk }
  have er : PySem.W.EachIs (fun v x => ∃ as, Reads (h'.push (seqObj "list" acc.toList.toArray 0)) v (eK x) as ∧ h'.objs.size ∉ as) acc.toList xs := by
    rw [ea]
    refine each_self fun x hx => ?_
    obtain ⟨as, rd⟩ := Dp.reads I1 _ _ (.ref x.2.1) (hk x hx).1 rfl
    have e0 := nk_nil _ _ _ rd
    refine ⟨as, PyProof.Rows.Reads.keeps (fun b o z => Heap.get?_push_of_some _ z) rd, ?_⟩
    rw [e0]
    exact List.not_mem_nil
  have er2 : PySem.W.EachIs (fun v x => v = Value.ref x.2.1) acc.toList xs := by
    rw [ea]
    exact each_self (f := fun x => Value.ref x.2.1) fun x _ => rfl
  have hu := hr.units
  refine wpAny_bind (wpAny_holding (PySem.W.list_sort_data (A := X.A.in1) (s := { s with heap := h'.push (seqObj "list" acc.toList.toArray 0), toks := tk }) hoL er2 er hal hst hz (fun x hx => ?_) fun out ho eo => ?_))
  · show X.A.units + 1 + 1 + (eK x).depth < cLine
    have z : (eK x).depth = x.1.depth := kdata_depth x.1
    have z2 := (hk x hx).2
    omega
  · have eo' := each_eq (f := fun x => Value.ref x.2.1) eo
    obtain ⟨c, hL⟩ := PyProof.Rows.sortedHeap_at (vs := acc.toList) (out := out.toArray) hoL
    refine wpAny_pure ⟨_, rfl, .ref h'.objs.size, upd H h'.objs.size (.lst ((srtN xs).map fun x => V.ref x.2.1)), I1.laid (t' := tk) (fun b u z => ?_) (Nat.le_refl _) ?_, rfl, q _ (I1.hok.fresh (Nat.le_refl _))⟩
    · have hb : b < h'.objs.size := Heap.lt_size z
      rw [PyProof.Rows.sortedHeap_old (Nat.ne_of_lt hb) (by rw [Heap.size_push]; exact Nat.lt_succ_of_lt hb)]
      exact Heap.get?_push_of_some _ z
    · refine ⟨?_, out, c, ?_, hL⟩
      · rw [List.length_map]
        unfold srtN
        rw [List.length_mergeSort]
        exact hz
      · rw [eo']
        exact vals_refsN _
end
end K40

namespace K40
open PySem PySem.Spec PyProof.Rows L2

/-! ### the keys of a locked nested dict, walked -/
def ItkN (P : Program) (w : World) (d : Addr) (o : Obj) (xs : NE) : It :=
  ⟨fun i H => H d = some (.frz o (NO P w d xs)) ∧ i < xs.length, fun i H x H' => H' = H ∧ ∃ y, xs[i]? = some y ∧ x = .ref y.2.1, fun i H => H d = some (.frz o (NO P w d xs)) ∧ xs.length ≤ i⟩
section
variable {X : Cx} {pins : List (Addr × Obj)} {σ : L2.St} {H : Hp} {s : Shared} {d : Addr} {o : Obj}
theorem frzN {xs : NE} (I : Inv X pins σ H s) (h : H d = some (.frz o (NO X.prog X.w d xs))) :
    (d == sysModules) = false ∧ s.heap.get? d = some o ∧ o.ExactDict ∧ ∃ (es : Array DictEntry) (ep : Nat), o.data = .dict es ep ∧ es.size = xs.length ∧ ∀ (i : Nat) (x : NestedKey × Addr × V), xs[i]? = some x → ∃ en, es[i]? = some en ∧ en.key = .ref x.2.1 := by
  obtain ⟨hd, es, ep, ⟨ob, h1, h2, h3⟩, hs, hx⟩ := raw_keys I (.inr ⟨o, h⟩)
  obtain ⟨e1, _⟩ := I.hok d _ h
  rw [e1] at h1
  cases h1
  exact ⟨hd, e1, h2, es, ep, h3, hs, fun i x hi => by
    obtain ⟨en, a, b, _⟩ := hx i x hi
    exact ⟨en, a, b⟩⟩
end
theorem turn_keysN {P : Program} {w : World} {K : PySem.W.Frag} {tg : Expr} {d : Addr} {o : Obj} {es : Array DictEntry} {ep : Nat} {xs : NE} (it : Addr) (hod : o.data = .dict es ep) :
    Turn P w K tg (ItkN P w d o xs) [it] it (fun i h => h.IsKeyIter it d i xs.length ep) where
  mem := by simp
  obj := fun i h st b hb => by
    have e : b = it := by simpa using hb
    obtain ⟨oi, q, c, dd⟩ := st
    rw [e]
    exact ⟨oi, q, fun v z => by rw [dd] at z; cases z⟩
  keep := fun i h h' st k => st.at fun oi e => k it (by simp) oi e
  item := by
    intro X hP hw hK hc i pins s σ H E I hf st hg
    subst hP hw hK
    obtain ⟨hd, hi⟩ := hg
    obtain ⟨f0, f1, f2, f3, f4, f5⟩ := hf it (by simp)
    obtain ⟨hs, hgd, hx, es', ep', hdt, hsz, ent⟩ := frzN I hd
    obtain ⟨rfl, rfl⟩ := dict_ep hod hdt
    have hxi : xs[i]? = some xs[i] := List.getElem?_eq_getElem hi
    obtain ⟨en, hen, hkey⟩ := ent i _ hxi
    refine next_key_item st hgd hdt hsz hen fun h' st' sb => ?_
    have I1 : Inv X pins σ H { s with heap := h' } := I.turned (t' := s.toks) (fun b ob hb e => (sb.2 b hb).trans e) f0 f1 f3 f4 f5
    obtain ⟨oi, e, c, dd⟩ := id st'
    exact ⟨en.key, rfl, go_of (s := { s with heap := h' }) e c dd (by decide) ⟨.ref xs[i].2.1, H, I1, hkey, ⟨rfl, _, hxi, rfl⟩, st', fun b hb => (hf b hb).1⟩⟩
  done := by
    intro X hP hw hK hc i pins s σ H E I hf st hg
    subst hP hw hK
    obtain ⟨hd, hi⟩ := hg
    obtain ⟨f0, f1, f2, f3, f4, f5⟩ := hf it (by simp)
    obtain ⟨hs, hgd, hx, es', ep', hdt, hsz, ent⟩ := frzN I hd
    obtain ⟨rfl, rfl⟩ := dict_ep hod hdt
    exact next_key_end (I.ok.hd hc) st hgd hdt hsz hi fun h' eb => ⟨rfl, I.turned (t' := s.toks) (fun b ob hb e => eb b ob hb e) f0 f1 f3 f4 f5⟩
  self := fun A i s Q E st h => by
    refine wpAny_pyIter_slot st.typeIs PySem.F.slot_dict_keyiterator_iter (wpAny_call_entry PySem.F.slot_dict_keyiterator_iter st.typeIs PySem.F.entry_dict_keyiterator_iter ?_ (PySem.F.args_dict_keyiterator_iter_1 _))
    show wpAny _ _ (ret (.ref it)) _ _ s
    exact wpAny_pure ⟨_, rfl, "dict_keyiterator", _, st.typeIs, PySem.F.slot_dict_keyiterator_next.lookup, h⟩
def iKeysN (P : Program) (w : World) (td : TE) : TI := fun σ H R => td σ H fun x H1 => ∃ d o xs, x = .ref d ∧ H1 d = some (.frz o (NO P w d xs)) ∧ R (ItkN P w d o xs) H1
/-- the values of a dict that was just made: it is locked from then on -/
def iValsL (td : TE) : TI := fun σ H R => td σ H fun x H1 => ∃ d kvs, x = .ref d ∧ H1 d = some (.dK kvs) ∧ ∀ od, R (Itd d od kvs) (upd H1 d (.frz od (.dK kvs)))
section
variable {X : Cx} {tg e : Expr} {td : TE} {apos cpos : Pos}
theorem pi_keysN (he : PE X e td) : PI X tg e (iKeysN X.prog X.w td) := by
  refine ⟨fun pins s σ H R I h => ?_⟩
  refine thn (he.run pins s σ H _ I h) fun u s1 ⟨x, H1, I1, rx, d, o, xs, ex, hd, q⟩ => ?_
  subst ex
  obtain rfl : u = Value.ref d := rx
  obtain ⟨hs, hgd, hx, es, ep, hdt, hsz, ent⟩ := frzN I1 hd
  refine iter_keys hs hgd hx hdt (pi_one (tk := s1.toks) I1 _ (turn_keysN _ hdt) ⟨_, Heap.get?_push_size _ rfl, rfl, ?_⟩ q)
  rw [hsz] <;> rfl
theorem pi_valuesL (he : PE X e td) (hbase : attributeBase e "values" X.env (eval e X.env) = eval e X.env := by rfl) (hline : (apos.endLine == cpos.line) = true := by rfl) : PI X tg (.Call (.Attribute e "values" apos) [] [] cpos) (iValsL td) := by
  refine ⟨fun pins s σ H R I h => ?_⟩
  refine wpAny_Call_method (T := "dict") (id := "dict.values") hbase rfl hline PySem.F.plainAttrs_dict PySem.F.slot_dict_values PySem.F.type_dict_values (thn (he.run pins s σ H _ I h) fun u s1 ⟨x, H1, I1, rx, d, kvs, ex, hd, q⟩ => ?_)
  subst ex
  obtain rfl : u = Value.ref d := rx
  obtain ⟨o, J⟩ := I1.lock hd True.intro
  have q := q o
  have hdf : upd H1 d (.frz o (.dK kvs)) d = some (.frz o (.dK kvs)) := upd_same
  obtain ⟨hs, hgd, hx, es, ep, vs, hdt, hsz, kv, hm⟩ := J.frzK hdf
  have hl : kvs.length = vs.length := Paired.length kv
  refine ⟨hm.dictOf.typeIs, hm.dictOf.mapOf.noDict, ?_⟩
  have I2 : Inv X pins σ (upd H1 d (.frz o (.dK kvs))) { s1 with heap := s1.heap.push { cls := .type "dict_values", data := .fields #[.ref d] } } := J.kept (t' := s1.toks) fun b ob q => Heap.get?_push_of_some _ q
  have fin : wpAny (model X.prog X.w) X.A (pyIter (.ref s1.heap.objs.size)) (PIE X pins σ tg R) X.xe { s1 with heap := s1.heap.push { cls := .type "dict_values", data := .fields #[.ref d] } } := by
    refine wpAny_pyIter_values (d := d) (knd := mixKind X.prog X.w) ⟨_, Heap.get?_push_size _ rfl, rfl, rfl⟩ (hm.push _) (pi_one (tk := s1.toks) I2 _ (turn_vals _ hdt) ⟨_, Heap.get?_push_size _ rfl, rfl, ?_⟩ q)
    rw [hl] <;> rfl
  show wpAny _ _ (callWith cpos (.builtin "dict.values") [.ref d] [] []) _ X.xe s1
  exact method_meetsIn PySem.F.slot_dict_values PySem.F.entry_dict_values rfl (PySem.evalArgs_none ⟨rfl, hm.dictOf.typeIs, PySem.F.args_dict_values_1 _, _, meets_dict_values (mixKind X.prog X.w) d hs, ⟨vs, hm.dictOf⟩, fin⟩)
end
end K40

namespace K40
open PySem PySem.Spec PyProof.Rows L2

/-! ### {k: v for target in iter}, the keys nested tuples -/
def tDcN (K : PySem.W.Frag) (P : Program) (w : World) (wi : TI) (g : TG) (tk tv : TE) (vs : List Nat) : TE := fun σ H Q => wi σ H fun J H1 => ∀ D, H1 D = none → ∃ W : Nat → Nat → Hp → Prop, (∃ m, W 0 m (upd H1 D (NO P w D []))) ∧ ∀ i m H, W i m H →
  (J.stop i H ∧ Q (.ref D) H) ∨ (J.go i H ∧ ∃ Nx : Hp → Prop, (∀ H', Nx H' → ∃ m', m' < m ∧ W (i + 1) m' H') ∧ ∀ x H', J.yld i H x H' → g x (wipe σ vs) H' fun σ2 H2 => wipe σ2 vs = wipe σ vs ∧
    tk σ2 H2 fun y H4 => tv σ2 H4 fun z H5 => ∃ H6, NPut K P w H5 D y z H6 ∧ Nx H6)
section
variable {X : Cx}
theorem pe_dcN {kk : Nat} {kx vx tg iter : Expr} {scope : Scope} {own : List (Str × Nat)} {pos : Pos} {wi : TI} {g : TG} {tk tv : TE} (hr : Room kk X.A) (hc : X.calm = true) (hN : X.N.Nodup) (hi : PI X tg iter wi) (ok : BlkOk X.N X.env.scope scope own)
    (hg : ∀ (s : Shared) (H : Hp) (C : Addr) (cl : List (Str × Addr)) (fp : List Addr), PG (X.blk s H scope (compEnvC scope cl C X.env) fp) tg g)
    (hk : ∀ (s : Shared) (H : Hp) (C : Addr) (cl : List (Str × Addr)) (fp : List Addr), PE (X.blk s H scope (compEnvC scope cl C X.env) fp) kx tk)
    (he : ∀ (s : Shared) (H : Hp) (C : Addr) (cl : List (Str × Addr)) (fp : List Addr), PE (X.blk s H scope (compEnvC scope cl C X.env) fp) vx tv) (hs : ∀ x, foldedSetIterable iter X.env x = pure x := by intro _; rfl) :
    PE X (.DictComp kx vx [⟨tg, iter, [], 0⟩] scope pos) (tDcN X.K X.prog X.w wi g tk tv (own.map (·.2))) := by
  refine ⟨fun pins s σ H Q I h => ?_⟩
  rw [arm_eval_DictComp]
  have cells : ∀ y ∈ scope.names, y.2 = .free → ∃ c, X.env.cells.lookup y.1 = some c := fun y hy e => by
    rcases ok.free y hy e with k | k
    · exact I.ok.has _ (.inl k)
    · exact I.ok.has _ (.inr k)
  refine wpAny_comprehension_free rfl hs (closure_ok cells) ok.kind (fun y hy e => by rw [ok.uniq y hy, e]) (thn (hi.run pins s σ H _ I h) fun xv s1 hx => thn hx fun itv s2 h2 => ?_)
  obtain ⟨it, fp, tn, J, H2, rfl, I2, T, st2, f2, q⟩ := h2
  refine wpAny_newObj_type (newEnv_comp ?_)
  -- the dict's place
  obtain ⟨D, hD⟩ : ∃ D, D = s2.heap.objs.size := ⟨_, rfl⟩
  have hDn : H2 D = none := I2.hok.fresh (by rw [hD]; exact Nat.le_refl _)
  obtain ⟨W, ⟨m0, w0⟩, turn⟩ := q D hDn
  obtain ⟨s3, hs3⟩ : ∃ s3 : Shared, s3 = { s2 with heap := s2.heap.push { cls := .type "dict", data := .dict #[] } } := ⟨_, rfl⟩
  obtain ⟨H3, hH3⟩ : ∃ H3, H3 = upd H2 D (NO X.prog X.w D []) := ⟨_, rfl⟩
  rw [← hH3] at w0
  have heap3 : s3.heap = s2.heap.push { cls := .type "dict", data := .dict #[] } := by rw [hs3]
  have I3 : Inv X pins σ H3 s3 := by
    rw [hs3, hH3, hD]
    exact I2.laid (t' := s2.toks) (fun b o e => Heap.get?_push_of_some _ e) (Nat.le_refl _) (no_empty s2.heap I2.big)
  have old : ∀ b ∈ fp, b < s2.heap.objs.size := fun b hb => by
    obtain ⟨o, e, _⟩ := T.obj _ _ st2 b hb
    exact Heap.lt_size e
  have f3 : ∀ b ∈ fp, FpOk X pins H3 b ∧ b < s3.heap.objs.size := fun b hb => by
    have lt := old b hb
    refine ⟨⟨?_, (f2 b hb).2⟩, by rw [heap3, Heap.size_push]; exact Nat.lt_succ_of_lt lt⟩
    rw [hH3, upd_ne (by rw [hD]; exact Nat.ne_of_lt lt)]
    exact (f2 b hb).1
  have st3 : tn 0 s3.heap := T.keep _ _ _ st2 fun b _ o e => by rw [heap3]; exact Heap.get?_push_of_some _ e
  have I4 := block_start I3 ok hN f3
  obtain ⟨cl, hcl⟩ : ∃ cl, cl = cellsFrom (s3.heap.objs.size + 1) scope.names (cloFrom X.env.cells scope.names []) := ⟨_, rfl⟩
  obtain ⟨ce, hce⟩ : ∃ ce, ce = compEnvC scope cl s3.heap.objs.size X.env := ⟨_, rfl⟩
  have pg := hg s3 H3 s3.heap.objs.size cl fp
  have pk := hk s3 H3 s3.heap.objs.size cl fp
  have pe := he s3 H3 s3.heap.objs.size cl fp
  rw [← hcl] at I4
  rw [← hce] at I4 pg pk pe
  have hloc : ce.locals = s3.heap.objs.size := by rw [hce]; rfl
  obtain ⟨s4, hs4⟩ : ∃ s4 : Shared, s4 = { s3 with heap := pushCells (s3.heap.push { cls := .type "dict", data := .dict #[] }) scope.names } := ⟨_, rfl⟩
  rw [← hs4] at I4
  have goal4 : codeAny (model X.prog X.w) X.A (.compStart (.DictComp kx vx [⟨tg, iter, [], 0⟩] scope pos) 0 (.ref it) (.ref D) ce) (compPost (model X.prog X.w) X.A X.xe none (EP X pins σ Q) (.ref D) s3.heap.objs.size) s4 := by
    have st4 : tn 0 s4.heap := T.keep _ _ _ st3 fun b _ o e => by rw [hs4]; exact pushCells_keeps _ _ _ _ (Heap.get?_push_of_some _ e)
    have ownFp : ∀ {σ' : L2.St} {H' : Hp} {s' : Shared}, Inv (X.blk s3 H3 scope ce fp) [] σ' H' s' → (∀ b ∈ fp, H' b = none) → ∀ b ∈ fp, FpOk (X.blk s3 H3 scope ce fp) [] H' b := fun {σ' H' s'} I' hn b hb =>
      ⟨hn b hb, (I'.ok.exf b hb).1, I'.ok.exfs b hb, .inl hb, fun x c e => (I'.ok.exf b hb).2 x c e, fun p hp => absurd (show p ∈ ([] : List (Addr × Obj)) ++ [] from hp) (by simp)⟩
    have loop : codeAny (model X.prog X.w) X.A (.compLoop (.DictComp kx vx [⟨tg, iter, [], 0⟩] scope pos) 0 (.ref it) (.ref D) ce) (compPost (model X.prog X.w) X.A X.xe none (EP X pins σ Q) (.ref D) s3.heap.objs.size) s4 := by
      refine compLoop_anyD (fun n s' => ∃ i H', Inv (X.blk s3 H3 scope ce fp) [] (wipe σ (own.map (·.2))) H' s' ∧ tn i s'.heap ∧ (∀ b ∈ fp, H' b = none) ∧ W i n H') ?_ m0 ⟨0, H3, I4, st4, fun b hb => (f3 b hb).1.1, w0⟩
      rintro n s5 ⟨i, H5, I5, st5, n5, w5⟩
      rcases turn i n H5 w5 with ⟨stop, fin⟩ | ⟨go, Nx, hNx, step⟩
      · refine thnF (T.done (X.blk s3 H3 scope ce fp) rfl rfl rfl hc i [] s5 _ H5 (fun _ _ => False) I5 (ownFp I5 n5) st5 stop) fun r s6 ⟨er, I6⟩ => ?_
        subst er
        have I7 : Inv X pins σ H5 s6 := I3.call' (ch := fp) I6.os I6.base I6.hok I6.bare fun b hb => ⟨(f3 b hb).1.2.2.2.1, (f3 b hb).1.2.1, (f3 b hb).1.2.2.2.2.1, (f3 b hb).1.2.2.2.2.2⟩
        have free : H5 s3.heap.objs.size = none := by
          have z : H5 ce.locals = none := I6.free
          rwa [hloc] at z
        obtain ⟨m, hn, _⟩ := I6.loc
        have hn : s6.heap.Ns ce.locals m := hn
        rw [hloc] at hn
        refine ⟨m, hn, fun h'' sb => ?_⟩
        obtain ⟨g0, g1, g2, g3, g4, g5⟩ := I3.fpOk (Nat.le_refl _) free
        exact ⟨.ref D, H5, I7.turned (t' := s6.toks) (fun b o hb e => (sb.2 b hb).trans e) g0 g1 g3 g4 g5, rfl, fin⟩
      · refine thnF (T.item (X.blk s3 H3 scope ce fp) rfl rfl rfl hc i [] s5 _ H5 (fun _ _ => False) I5 (ownFp I5 n5) st5 go) fun r s6 ⟨u, er, h6⟩ => ?_
        subst er
        refine thnF h6 fun _ s7 ⟨x, H7, I7, r7, y7, st7, n7⟩ => ?_
        have I7p := I7.pinned (ownFp I7 n7) (T.obj _ _ st7)
        refine thnF (pg.run _ s7 _ H7 x u _ I7p r7 (step x H7 y7)) fun _ s8 ⟨σ8, H8, I8, hw8, q8⟩ => ?_
        refine wpAny_tests_nil ?_
        rw [if_pos rfl]
        have back : ∀ {s' : Shared} {H' : Hp}, Inv (X.blk s3 H3 scope ce fp) ([] ++ pinsAt fp s7.heap) σ8 H' s' → Nx H' → ∃ m, m < n ∧ ∃ i H', Inv (X.blk s3 H3 scope ce fp) [] (wipe σ (own.map (·.2))) H' s' ∧ tn i s'.heap ∧ (∀ b ∈ fp, H' b = none) ∧ W i m H' := fun {s' H'} I' nx => by
          obtain ⟨m', hm, w'⟩ := hNx H' nx
          have pinned : ∀ b ∈ fp, ∀ o, s7.heap.get? b = some o → s'.heap.get? b = some o ∧ H' b = none := fun b hb o e =>
            let z := I'.pin (b, o) (List.mem_append_right _ (List.mem_append_right _ (mem_pinsAt hb e)))
            ⟨z.1, z.2.1⟩
          refine ⟨m', hm, i + 1, H', (I'.unpinned (pins := [])).weak (by rw [← hw8, wipe_length]) (fun j v e => ?_), T.keep _ _ _ st7 fun b hb o e => (pinned b hb o e).1, fun b hb => ?_, w'⟩
          · rw [← hw8] at e
            exact (wipe_some e).1
          · obtain ⟨o, e, _⟩ := T.obj _ _ st7 b hb
            exact (pinned b hb o e).2
        refine thnF (pk.run _ s8 σ8 H8 _ I8 q8) fun z s10 ⟨yk, H10, I10, r10, q10⟩ => ?_
        refine thnF (pe.run _ s10 σ8 H10 _ I10 q10) fun z2 s11 ⟨yv, H11, I11, r11, H12, put, nx⟩ => ?_
        exact n_dictSet (X := X.blk s3 H3 scope ce fp) hr.units I11 put r10 r11 fun s12 I12 => back I12 nx
    exact codeAny_compStart_dict loop (T.self X.A 0 _ _ _ st4 loop)
  rw [hs4, hce, hcl, hs3, hD] at goal4
  rw [← hD] at goal4 ⊢
  exact goal4
end
end K40

namespace K40
open PySem PySem.Spec PyProof.Rows L2

section
variable {prog : Program} {w : World} {A : Around} {E : Value → Shared → Prop} {s : Shared}
theorem row_drop {n x i : Nat} {rest : List Nat} (hr : x :: rest = List.range' i (n - i)) : x = i ∧ i < n ∧ rest = List.range' (i + 1) (n - (i + 1)) := by
  have hlt : i < n := by
    rcases Nat.lt_or_ge i n with h | h
    · exact h
    · rw [Nat.sub_eq_zero_of_le h] at hr; simp at hr
  have e : n - i = (n - (i + 1)) + 1 := by omega
  rw [e, List.range'_succ] at hr
  injection hr with h1 h2
  exact ⟨h1, hlt, h2⟩
/-- two dicts of the same keys in the same order, whose values are equal place by place -/
theorem n_samePairs {nm : String} {a b : Addr} {xs ys : NVs} {Q : Bool → Shared → Prop} (hu : A.units + 8 < cLine) (ha : (a == sysModules) = false) (hb : (b == sysModules) = false)
    (da : s.heap.DictOfH (nestedKind prog w) a xs) (db : s.heap.DictOfH (nestedKind prog w) b ys) (hl : xs.length = ys.length)
    (hv : ∀ (i : Nat) (x y : NestedKey × Addr × Value), xs[i]? = some x → ys[i]? = some y → x.1 = y.1 ∧ SeqAt.EqAt A s x.2.2 y.2.2 true) (h : Q true s) :
    wpAny (model prog w) A (Builtin.Dict.samePairs nm a b) Q E s := by
  obtain ⟨oa, es, ep, hoa, _, hda, hea, hka, hna⟩ := da
  obtain ⟨ob, es', ep', hob, _, hdb, heb, hkb, hnb⟩ := db
  have hsa := size_of_entries hea
  have hsb := size_of_entries heb
  unfold Builtin.Dict.samePairs Builtin.Dict.showsAll
  rw [if_neg (show ¬ (a == sysModules) = true by rw [ha]; exact Bool.false_ne_true), if_neg (show ¬ (b == sysModules) = true by rw [hb]; exact Bool.false_ne_true)]
  refine wpAny_bind (wpAny_pure (wpAny_bind (wpAny_pure ?_)))
  refine wpAny_bind (wpAny_dictEntries hoa hda ?_)
  dsimp only
  refine wpAny_bind (wpAny_dictEntries hob hdb ?_)
  rw [if_neg (by rw [hsa, hsb, hl]; simp)]
  refine wpAny_bind (wpAny_dictEpoch hoa hda ?_)
  refine wpAny_bind ?_
  rw [Std.Legacy.Range.forIn_eq_forIn_range']
  simp only [Std.Legacy.Range.size, Nat.sub_zero, Nat.add_sub_cancel, Nat.div_one]
  refine wpAny_forIn_list _ (fun rest q s' => s' = s ∧ q = (none, ()) ∧ ∃ i, rest = List.range' i (es.size - i)) _ ?_ ?_ _ _ ⟨rfl, rfl, 0, by simp⟩
  · rintro x rest q s' ⟨rfl, rfl, i, hr⟩
    obtain ⟨rfl, hlt, hrest⟩ := row_drop hr
    have hx : x < xs.length := by omega
    have hy : x < ys.length := by omega
    have gx : xs[x]? = some xs[x] := List.getElem?_eq_getElem hx
    have gy : ys[x]? = some ys[x] := List.getElem?_eq_getElem hy
    obtain ⟨ek, ev⟩ := hv x _ _ gx gy
    refine wpAny_bind (wpAny_dictEntries hoa hda ?_)
    rw [entry_at hea x, gx]
    show wpAny _ _ (holding [_, _] _ >>= _) _ _ _
    refine wpAny_bind (wpAny_holding ?_)
    refine wpAny_bind (wpAny_dictFind_heap (knd := nestedKind prog w) (k := xs[x].1) (xs := ys) hu (hka _ (List.getElem_mem hx)) hob hdb heb hkb hnb (fun no => ?_) fun j p hj => ?_)
    · exact absurd (show ys[x]? = some (xs[x].1, ys[x].2) by rw [gy, ek]) (no x _)
    · have ej : j = x := idxH_unique hnb hj (show ys[x]? = some (xs[x].1, ys[x].2) by rw [gy, ek])
      subst ej
      refine wpAny_bind (wpAny_dictEntries hob hdb ?_)
      rw [entry_at heb j, gy]
      show wpAny _ _ (holding [_] (eqBool xs[j].2.2 ys[j].2.2)) _ _ _
      refine wpAny_holding (ev _ _ _ _ ?_)
      show wpAny _ _ (if (!true) = true then _ else _) _ _ _
      rw [if_neg (by decide)]
      refine wpAny_bind (wpAny_dictEpoch hoa hda ?_)
      rw [if_neg (by simp)]
      exact wpAny_pure ⟨rfl, rfl, j + 1, hrest⟩
  · rintro q s' ⟨rfl, rfl, i, hr⟩
    exact wpAny_pure h
theorem n_eqDict {a b : Addr} {xs ys : NVs} {Q : Value → Shared → Prop} (hu : A.units + 64 < cLine) (ha : (a == sysModules) = false) (hb : (b == sysModules) = false)
    (da : s.heap.DictOfH (nestedKind prog w) a xs) (db : s.heap.DictOfH (nestedKind prog w) b ys) (hl : xs.length = ys.length)
    (hv : ∀ (i : Nat) (x y : NestedKey × Addr × Value), xs[i]? = some x → ys[i]? = some y → x.1 = y.1 ∧ SeqAt.EqAt A.in1 s x.2.2 y.2.2 true) (h : Q (.bool true) s) :
    wpAny (model prog w) A (compareOp .Eq (.ref a) (.ref b)) Q E s := by
  refine wpAny_richCompare_same_room (op := .Eq) da.typeIs db.typeIs PySem.F.slot_dict_eq (wpAny_call_entry PySem.F.slot_dict_eq da.typeIs PySem.F.entry_dict_eq ?_ (PySem.F.args_dict_eq_2 _ _)) (by omega)
  show wpAny _ _ (Builtin.Dict.dictSlotArgs "__eq__" ⟨[.ref a, .ref b], []⟩ >>= _) _ _ s
  refine wpAny_bind ?_
  unfold Builtin.Dict.dictSlotArgs
  refine wpAny_bind (wpAny_notOrdered_dict da.typeIs ?_)
  show wpAny _ _ (pure (Value.ref a, Value.ref b)) _ _ s
  refine wpAny_pure ?_
  refine wpAny_bind (wpAny_isInstance (T := "dict") db.typeIs PySem.F.sub_dict_dict ?_)
  simp only [Bool.not_true, Bool.false_eq_true, if_false]
  refine wpAny_bind (wpAny_pure (wpAny_bind (wpAny_pure ?_)))
  refine wpAny_bind (n_samePairs (by show A.units + 1 + 8 < cLine; omega) ha hb da db hl hv ?_)
  exact wpAny_pure ⟨_, rfl, fun x => (by cases x), by simpa using h⟩
end
section
variable {X : Cx}
/-- d == e: the same keys in the same order, and equal data at each -/
def rEqDN (K : PySem.W.Frag) (P : Program) (w : World) : R2 := fun x y H Q => ∃ (a b : Addr) (xs ys : NE), x = .ref a ∧ y = .ref b ∧ Rd H a (NO P w a xs) ∧ Rd H b (NO P w b ys) ∧ NKs K H xs ∧ NKs K H ys ∧ xs.length = ys.length ∧
  (∀ (i : Nat) (p q : NestedKey × Addr × V), xs[i]? = some p → ys[i]? = some q → p.1 = q.1 ∧ ∃ d, Dp K H p.2.2 d ∧ Dp K H q.2.2 d ∧ d.canLay0 = true ∧ d.depth ≤ 20) ∧ Q (.bl true) H
theorem NR.getR {xs : NE} {ys : NVs} (r : NR xs ys) {i : Nat} {y : NestedKey × Addr × Value} (e : ys[i]? = some y) : ∃ x, xs[i]? = some x ∧ x.1 = y.1 ∧ RelV x.2.2 y.2.2 := by
  have hl := r.length
  have hi : i < xs.length := by
    obtain ⟨h, _⟩ := List.getElem?_eq_some_iff.mp e
    omega
  obtain ⟨y', h1, h2, _, h4⟩ := r.get (List.getElem?_eq_getElem hi)
  rw [e] at h1
  cases h1
  exact ⟨_, List.getElem?_eq_getElem hi, h2, h4⟩
theorem op_eqDN {kk : Nat} (hr : Room kk X.A) : OpR X (compareOp .Eq) (rEqDN X.K X.prog X.w) := by
  intro pins s σ H x y v u Q I rx ry h
  obtain ⟨a, b, xs, ys, rfl, rfl, ea, eb, ka, kb, hl, hv, q⟩ := h
  obtain rfl : v = Value.ref a := rx
  obtain rfl : u = Value.ref b := ry
  obtain ⟨_, ya, va, ra, da⟩ := no_of I ea ka
  obtain ⟨_, yb, vb, rb, db⟩ := no_of I eb kb
  have hu := hr.units
  refine n_eqDict hu ya yb da db (by rw [← ra.length, ← rb.length]; exact hl) (fun i x y hx hy => ?_) ⟨.bl true, H, I, rfl, q⟩
  obtain ⟨p, p1, p2, p3⟩ := ra.getR hx
  obtain ⟨r, r1, r2, r3⟩ := rb.getR hy
  obtain ⟨ek, d, d1, d2, d3, d4⟩ := hv i p r p1 r1
  refine ⟨by rw [← p2, ← r2]; exact ek, ?_⟩
  obtain ⟨as, q1⟩ := Dp.reads I d _ _ d1 p3
  obtain ⟨bs, q2⟩ := Dp.reads I d _ _ d2 r3
  have z := SeqAt.eqAt_reads d d X.A.in1 s _ _ as bs q1 q2 d3 d3 (by rw [Nat.min_self]; show X.A.units + 1 + d.depth < cLine; omega)
  rw [SeqAt.eqv_refl] at z
  · exact z
  · exact d3
end
end K40

namespace K40
open PySem PySem.Spec PyProof.Rows L2

section
variable {X : Cx}
/-- repr(x) of data, where nothing is being shown around -/
def rRepr (K : PySem.W.Frag) : List V → Hp → VK → Prop := fun xs H Q => ∃ x d, xs = [x] ∧ Dp K H x d ∧ ((∃ b, d = .bool b) ∨ ∃ a, x = .ref a) ∧ d.showable = true ∧ d.hasDict = false ∧ d.shown.length ≤ sizeLine ∧ d.depth ≤ 20 ∧ Q (.str d.shown) H
theorem call_reprD {kk : Nat} (hr : Room kk X.A) (hg : X.A.guards = some []) : CallR X (.builtin "repr") (rRepr X.K) := by
  intro pins s σ H xs us Q I r h
  obtain ⟨x, d, rfl, hd, hc, hs, hn, hz, hdp, q⟩ := h
  obtain ⟨u, rfl, rx⟩ := vals1 r
  rcases hc with ⟨b, rfl⟩ | ⟨a, rfl⟩
  · cases hd
    cases rx
    exact PySem.P.repr_of_bool (by
      have e : PyData.shown (.bool b) = (if b then "True" else "False" : String) := by cases b <;> rfl
      rw [e] at q
      exact ⟨.str (if b then "True" else "False" : String), H, I.tok _, ⟨_, by cases b <;> rfl⟩, q⟩)
  · obtain rfl : u = .ref a := rx
    obtain ⟨as, rd⟩ := Dp.reads I d _ _ hd rfl
    have hu := hr.units
    exact repr_of_reads' rd hs (fun e => by rw [hn] at e; cases e) hg (by omega) (fun _ _ e => e) (fun h' u tk hk => ⟨.str d.shown, H, I.kept hk, ⟨u, rfl⟩, q⟩) hz
/-- l.remove(x): the first equal one is gone -/
theorem DpAll.len {K : PySem.W.Frag} {H : Hp} : ∀ {vs : List V} {ds : List PyData}, DpAll K H vs ds → vs.length = ds.length
  | _, _, .nil => rfl
  | _, _, .cons _ t => by rw [List.length_cons, List.length_cons, DpAll.len t]
def rRem (K : PySem.W.Frag) : V → List V → Hp → VK → Prop := fun x xs H Q => ∃ (l : Addr) (vs : List V) (y : V) (d : PyData) (ds : List PyData) (j : Nat), x = .ref l ∧ xs = [y] ∧ H l = some (.lst vs) ∧ DpAll K H vs ds ∧ Dp K H y d ∧ PyData.plainAll ds = true ∧ d.plain = true ∧
  d.depth ≤ 20 ∧ PySem.SeqAt.dataPlace ds d = some j ∧ Q .non (upd H l (.lst (vs.eraseIdx j)))
theorem mt_remD {kk : Nat} (hr : Room kk X.A) : MtR X "list.remove" (rRem X.K) := by
  intro pins s σ H x xs v us Q I rx rxs h
  obtain ⟨l, vs, y, d, ds, j, rfl, rfl, hl, ha, hy, pa, pd, hdp, hj, q⟩ := h
  obtain ⟨u, rfl, ry⟩ := vals1 rxs
  obtain rfl : v = .ref l := rx
  obtain ⟨z, its, n, rv, e0⟩ := (show ObjOk X.prog X.w H s.heap l (.lst vs) from I.hok l _ hl)
  obtain ⟨as, r1⟩ := Dp.readsAll I ds vs its ha rv
  obtain ⟨bs, r2⟩ := Dp.reads I d y u hy ry
  have hu := hr.units
  have hlen := rv.length
  have hm : min (PyData.depthAll ds) d.depth ≤ d.depth := Nat.min_le_right _ _
  refine PySem.SeqAt.remove_list_data (vs := its.toArray) (xs := ds) ⟨_, e0, rfl, n, rfl⟩ (by simpa using r1) r2 pa pd (by omega) hj (by rw [List.size_toArray, ← hlen]; exact z) ?_
  refine ⟨.non, _, I.lset (its' := its.eraseIdx j) hl e0 ?_ (rv.eraseIdx j) (Nat.le_trans (List.length_eraseIdx_le _ _) z), rfl, q⟩
  show its.toArray.eraseIdxIfInBounds j = (its.eraseIdx j).toArray
  rw [List.eraseIdxIfInBounds_toArray]
/-- x > y of alike data -/
def rGtD (K : PySem.W.Frag) : R2 := fun x y H Q => ∃ d e, Dp K H x d ∧ Dp K H y e ∧ PySem.W.alike d e = true ∧ d ≠ .none ∧ d.depth ≤ 20 ∧ Q (.bl (PySem.W.dataLt e d)) H
theorem op_gtD {kk : Nat} (hr : Room kk X.A) : OpR X (compareOp .Gt) (rGtD X.K) := by
  intro pins s σ H x y v u Q I rx ry h
  obtain ⟨d, e, hd, he, ha, hn, hdp, q⟩ := h
  obtain ⟨as, r1⟩ := Dp.reads I d x v hd rx
  obtain ⟨bs, r2⟩ := Dp.reads I e y u he ry
  have hu := hr.units
  have hm : min d.depth e.depth ≤ d.depth := Nat.min_le_left _ _
  exact PySem.W.gt_data r1 r2 ha hn (by omega) ⟨.bl _, H, I, rfl, q⟩
/-- isinstance(x, tuple) of data -/
def isTupD : PyData → Bool
  | .tuple _ => true
  | _ => false
def rIsTup (K : PySem.W.Frag) : List V → Hp → VK → Prop := fun xs H Q => ∃ x d, xs = [x, .ty "tuple"] ∧ Dp K H x d ∧ d.plain = true ∧ (∀ l, d ≠ .list l) ∧ Q (.bl (isTupD d)) H
theorem call_isTup : CallR X (.builtin "isinstance") (rIsTup X.K) := by
  intro pins s σ H xs us Q I r h
  obtain ⟨x, d, rfl, hd, hp, hl, q⟩ := h
  have key : ∃ t b, TyX X.K H x t ∧ PySem.W.kitOne X.K t (.type "tuple") = some b ∧ b = isTupD d := by
    cases hd with
    | non => exact ⟨_, false, .base .non, kit_ty (by decide +kernel), rfl⟩
    | bl b => exact ⟨_, false, .base (.bl b), kit_ty (by decide +kernel), rfl⟩
    | int i => exact ⟨_, false, .base (.int i), kit_ty (by decide +kernel), rfl⟩
    | str z => exact ⟨_, false, .base (.str z), kit_ty (by decide +kernel), rfl⟩
    | lst h1 h2 => exact absurd rfl (hl _)
    | tup h1 h2 =>
      rcases h1 with (h1 | ⟨o, h1⟩) | ⟨o, its, n, h1, h2, _⟩
      · exact ⟨_, true, .base (.tup h1), kit_ty (by decide +kernel), rfl⟩
      · exact ⟨_, true, .fTuple h1, kit_ty (by decide +kernel), rfl⟩
      · exact ⟨_, true, .kTuple h1 h2, kit_ty (by decide +kernel), rfl⟩
  obtain ⟨t, b, h1, h2, rfl⟩ := key
  exact call_isi pins s σ H _ us Q I r ⟨x, .ty "tuple", t, .type "tuple", _, rfl, .ty _, h1, h2, q⟩
end
end K40

namespace K40
open PySem PySem.Spec PyProof.Rows L2

section
variable {X : Cx}
/-- {t}, t a pair of small ints: some short text -/
def tFmtP (K : PySem.W.Frag) (te : TE) : TE := fun σ H Q => te σ H fun x H1 => ∃ (a : Addr) (i j : Int), x = .ref a ∧ SqT K H1 a [.int i, .int j] ∧ i.natAbs.log2 < 20 ∧ j.natAbs.log2 < 20 ∧ ∀ m : Str, m.length ≤ 100 → Q (.str m) H1
theorem pe_fmtP {e : Expr} {te : TE} {pos : Pos} {k : Nat} (hr : Room k X.A) (he : PE X e te) : PE X (.FormattedValue e (-1) none pos) (tFmtP X.K te) := by
  refine ⟨fun pins s σ H Q I h => ?_⟩
  refine wpAny_FormattedValue_plain (thn (he.run pins s σ H _ I h) fun v s1 hv => ?_)
  obtain ⟨x, H1, I1, r1, a, i, j, rfl, ht, hi, hj, q⟩ := hv
  obtain rfl : v = .ref a := r1
  obtain ⟨its, rv, ⟨o, ho, hcl, n, hd⟩, _⟩ := I1.tuple ht
  obtain ⟨u1, u2, rfl, ⟨t1, rfl⟩, ⟨t2, rfl⟩⟩ := vals2 rv
  have l1 := int_text_length_le (a := i) (k := 20) (by decide) hi
  have l2 := int_text_length_le (a := j) (k := 20) (by decide) hj
  have htx := fmt_text [Str.ofString (toString i), Str.ofString (toString j)]
  have e1 : (Str.ofString (toString i)).length ≤ 21 := by rw [PySem.ofString_length]; exact l1
  have e2 : (Str.ofString (toString j)).length ≤ 21 := by rw [PySem.ofString_length]; exact l2
  have hp : piled [Str.ofString (toString i), Str.ofString (toString j)] ≤ 50 := by
    rw [piled_cons, piled_cons]
    have z : piled [] = 0 := rfl
    omega
  have hu := hr.units
  refine fmt_tuple (ts := [Str.ofString (toString i), Str.ofString (toString j)]) (by omega) ho hcl hd (.cons (ReprIs.int t1 (by omega)) (.cons (ReprIs.int t2 (by omega)) .nil)) (by rw [sizeLine_eq]; omega) fun m u tk hm => ⟨.str m, H1, I1.tok _, ⟨u, rfl⟩, q m (by omega)⟩
end
end K40

namespace K40
open PySem PySem.Spec PyProof.Rows L2 NdefX
open PySem.W (Frag clsIn alongIn findIn subIn mroIn nsIn kxs_mw KxsAt)

/-! ### super().__init__(e) in an own exception over ValueError -/
/-- the built-in __init__, bound, is called -/
theorem mw_call {prog : Program} {w : World} {A : Around} {E : Value → Shared → Prop} {h : Heap} {g : Array GenState} {d : Drawn} {t : Nat} {os : OsState} {nm q : Str} {C N : Addr} {bs bm : List Value} {hdct : Bool} {sn : List Str} {sub : List Value} {ab : Bool} {col : Option Bool} {dd : Option Addr} {k0 k1 k2 k3 k5 : Option Value}
    {u e t0 : Addr} {rest : List Value} {Q : Value → Shared → Prop}
    (hC : h.get? C = some (excClassObj nm q C N bs bm hdct sn sub ab col dd k0 k1 k2 k3 k5 "ValueError.__new__")) (he : h.get? e = some (HandSPX.excO C t0)) (hu : h.get? u = some (kxs_mw "ValueError.__init__" e)) (hrest : rest.length ≤ sizeLine)
    (hq : ∀ h' t1, (∀ b o, b ≠ e → h.get? b = some o → h'.get? b = some o) → h'.get? e = some (HandSPX.excO C t1) → Q .none ⟨h', g, d, t, os⟩) :
    wpAny (model prog w) A (call (.ref u) rest) Q E ⟨h, g, d, t, os⟩ := by
  refine wpAny_call (codeAny_of_tree ?_)
  show wpAny _ A.in1 (callAny (.ref u) ⟨rest, []⟩) _ _ _
  simp only [callAny]
  refine wpAny_bind (wpAny_load hu ?_)
  simp only [kxs_mw, show (Value.type "method-wrapper" == Value.type "method" || Value.type "method-wrapper" == Value.type "builtin_function_or_method" || Value.type "method-wrapper" == Value.type "method-wrapper") = true by decide, if_true]
  refine PySem.W.KFB.if_so (by decide) ?_
  refine wpAny_bind (PySem.W.check_bound_init F.excBase_ValueError.toExcCallFacts hC he rfl ?_)
  refine wpAny_bind (wpAny_pure (wpAny_pure ?_))
  refine ⟨plainId_quiet F.excBase_ValueError.init.plain _, codeAny_builtin F.excBase_ValueError.initEntry ?_⟩
  refine PySem.W.exc_init_tree (cls := .ref C) (t0 := t0) (dv := none) (c2 := .none) (c3 := .none) (b4 := .bool false) he hrest fun h' k1 k2 k3 => ?_
  exact hq h' h.objs.size k1 k2

/-- what the written part says of such a class and its __init__ -/
structure SupC (P : Program) (K : Frag) (mg : Str → Option Value) (C fI cc cda : Addr) (fd : FuncData) (ar : Arg) : Prop where
  o : OexC K C
  fn : ∃ (oc : Value) (od : Option Addr) (osl : Array (Option Value)), K.lookup fI = some ⟨oc, od, .func fd, osl⟩
  arg : (fd.params.posonlyargs ++ fd.params.args).head? = some ar
  code : ∃ (ccl : Value) (cdd : Option Addr) (vs : Array Value) (ccs : Array (Option Value)) (file : Str) (tf : Tok), K.lookup cda = some ⟨ccl, cdd, .fields vs, ccs⟩ ∧ vs[2]? = some (.str file tf) ∧ ((P.main.file : Str) == file) = true
  cell : ∃ (cl : Value) (cld : Option Addr) (csl : Array (Option Value)), K.lookup cc = some ⟨cl, cld, .cell (some (.ref C)), csl⟩
  sub : mroIn K C (.ref C) = some true
  subB : subIn K (.ref C) (.type "ValueError") = some true
  mgS : mg "super" = none
  htop : (P.main.scope.names.lookup ("super" : Str)).isSome = false
  any : nsIn K cStatics "thirdparty.any" = some none
  along : ∃ cd, clsIn K C = some cd ∧ alongIn K "__init__" ((cd.mro.dropWhile (· != .ref C)).drop 1) = some (some (.builtin "ValueError.__init__"))

section
variable {CX : CXT} {P : Program} {w : World} {K : Frag} {mg : Str → Option Value} {base : Heap} {N : List Str} {F : NF} {f : Addr} {A : Around} {outer : List Env} {s0 : Shared} {H0 : Hp} {E : XK}
theorem super_stmt {C cc : Addr} {fd : FuncData} {ar : Arg} {body : List Stmt} {p0 p1 p2 p3 p4 : Pos} {e : Expr} {te : TE} {i : Nat} {D : Ends} {s : Shared} {σ : L2.St} {H : Hp} {a : Addr}
    (T : SupC P K mg C f cc F.c fd ar) (hcl : F.cl = [(("__class__" : Str), cc)]) (hks : F.scope.names.lookup ("super" : Str) = some .globalImplicit) (hkc : F.scope.names.lookup ("__class__" : Str) = some .free) (hka : F.scope.names.lookup ar.arg = some .local)
    (hN : N[i]? = some ar.arg) (hσ : σ[i]? = some (some (.ref a)))
    (I : Inv (ncx CX P w K mg base N F f A outer s0 H0 E) [] σ H s) (ha : H a = some (exo a C none))
    (hp : PE (ncx CX P w K mg base N F f A outer s0 H0 E) e te) (hv : te σ H fun x H1 => H1 a = some (exo a C none) ∧ D.nx σ H1)
    {pl : Sem Bool} (hst : starEach [e] (envF F f s0.heap.objs.size) = [(false, eval e (envF F f s0.heap.objs.size))] := by rfl)
    (heq : eval (.Call (.Attribute (.Call (.Name "super" p0) [] [] p1) "__init__" p2) [e] [] p3) (envF F f s0.heap.objs.size) = (do
      let ov ← attributeBase (.Call (.Name "super" p0) [] [] p1) "__init__" (envF F f s0.heap.objs.size) (eval (.Call (.Name "super" p0) [] [] p1) (envF F f s0.heap.objs.size))
      standAt p2.atName
      let (f', first) ← holding [ov] (getMethod ov "__init__" pl)
      callWith p3 f' first (backTo p3 (starEach [e] (envF F f s0.heap.objs.size))) []) := by rfl) :
    _root_.PySem.wpAt (model P w) (A.deeper (envF F f s0.heap.objs.size)) (.func body (envF F f s0.heap.objs.size)) (exec (.Expr (.Call (.Attribute (.Call (.Name "super" p0) [] [] p1) "__init__" p2) [e] [] p3) p4) (envF F f s0.heap.objs.size))
      (SP (ncx CX P w K mg base N F f A outer s0 H0 E) [] D) (ncx CX P w K mg base N F f A outer s0 H0 E).xe s := by
  have hsc : F.scope.kind = .function := I.ok.kind
  obtain ⟨oc, od, osl, hfn⟩ := T.fn
  obtain ⟨ccl, cdd, vs, ccs, file, tf, hcode, hvs, hfile⟩ := T.code
  obtain ⟨cl, cld, csl, hcell⟩ := T.cell
  have KI := I.kIn
  refine ks_wpAt_Expr_any (ks_wpAt_MethodCall (pl := pl) (ks_wpAt_super_base (f := f) (cc := F.c) hks hkc (by decide) rfl (KI _ _ hfn) rfl T.arg rfl (KI _ _ hcode) rfl hvs hfile T.htop ?_) heq) I.quiet
  have hks' : (envF F f s0.heap.objs.size).kindOf "super" = some .globalImplicit := hks
  obtain ⟨mb, hb1, hb2⟩ := I.mod.blt
  refine PySem.W.ks_loadName_global hsc hks' (Calls.loadGlobal_builtin (I.mod.glob.keeps I.bk) T.mgS (hb1.keeps I.bk) ((hb2 "super" (by decide)).trans (by decide +kernel : bootBuiltins "super" = some (.type "super"))) ⟨rfl, ?_⟩)
  have hcl' : F.cl.lookup ("__class__" : Str) = some cc := by rw [hcl]; rfl
  refine wpAny_loadName_free hsc hkc hcl' ⟨_, KI _ _ hcell, rfl⟩ ?_
  obtain ⟨m, hn, hl⟩ := id I.loc
  obtain ⟨u, ru, lk⟩ := hl i ar.arg (.ref a) hN hσ (.inl hka)
  obtain rfl : u = .ref a := ru
  have hma : m ar.arg = some (.ref a) := by
    rcases lk with ⟨_, e⟩ | ⟨k, _⟩
    · exact e
    · rcases k with k | k
      · exact absurd (hka.symm.trans k) (by decide)
      · exact absurd (hka.symm.trans k) (by decide)
  refine wpAny_loadName_local hsc hka hn hma ?_
  obtain ⟨nm, q, N', bs, bm, sn, sub, ab, col, dd, k0, k1, k2, k3, k5, hC, hbm⟩ := T.o.cls
  have hD := KI _ _ hC
  refine ks_wpAny_isType_cls hD rfl ⟨rfl, ?_⟩
  obtain ⟨t0, ho⟩ := exo_at I.hok ha
  obtain ⟨hp0, g, d, tk, os⟩ := s
  refine ks_wpAny_call_super hD rfl ho rfl (fun c z => by cases z) (PySem.W.looks_mroIn KI T.sub) (fun h1 hso kp1 => ?_)
  have I1 : Inv (ncx CX P w K mg base N F f A outer s0 H0 E) [] σ H ⟨h1, g, d, tk, os⟩ := I.kept (t' := tk) kp1
  obtain ⟨cd, hcd, hal⟩ := T.along
  have K1 := I1.kIn
  obtain ⟨t1, ho1⟩ := exo_at I1.hok ha
  have hne : a ≠ C := by
    intro z
    rw [z] at ho1
    have q := K1 _ _ hC
    rw [ho1] at q
    cases q
  have hI : PySem.W.Looks (model P w) h1 (isInstance (.ref a) (.type "ValueError")) true := by
    have J : PySem.W.InstAt h1 a _ C none := ⟨ho1, rfl, rfl, trivial⟩
    exact J.type.andThen (PySem.W.looks_subIn K1 T.subB)
  refine PySem.W.kxs_getMethod PySem.W.kxs_ValueError hso (PySem.W.looks_opaque K1 T.any) (l₀ := cd.mro) (fun A Q E s k q => wpAny_bind ((PySem.W.looks_clsIn K1 hcd) A _ E s k (wpAny_pure q))) rfl K1 hal hI hne (by decide) ?_
  have kp2 : ∀ b o, h1.get? b = some o → (h1.push (kxs_mw "ValueError.__init__" a)).get? b = some o := fun b o e => Heap.get?_push_of_some _ e
  have I2 : Inv (ncx CX P w K mg base N F f A outer s0 H0 E) [] σ H ⟨h1.push (kxs_mw "ValueError.__init__" a), g, d, tk + 1, os⟩ := I1.kept (t' := tk + 1) kp2
  have hu2 : (h1.push (kxs_mw "ValueError.__init__" a)).get? h1.objs.size = some (kxs_mw "ValueError.__init__" a) := Heap.get?_push_size _ rfl
  have I3 : Inv (ncx CX P w K mg base N F f A outer s0 H0 E) [(h1.objs.size, kxs_mw "ValueError.__init__" a)] σ H ⟨h1.push (kxs_mw "ValueError.__init__" a), g, d, tk + 1, os⟩ := I2.pins_of fun p hp => by
    obtain rfl : p = (h1.objs.size, kxs_mw "ValueError.__init__" a) := by simpa using hp
    refine ⟨hu2, I1.hok.fresh (Nat.le_refl _), Nat.ne_of_gt I1.lt, I1.nofs (Nat.le_refl _), fun v z => by cases z⟩
  show wpAny _ _ (callWith p3 (.ref h1.objs.size) [] (backTo p3 (starEach [e] (envF F f s0.heap.objs.size))) []) _ _ _
  have run := hp.run [(h1.objs.size, kxs_mw "ValueError.__init__" a)] _ σ H _ I3 hv
  rw [hst]
  refine PySem.W.kxs_callWith (i := "ValueError.__init__") (x := a) rfl (Calls.evalArgs_plain (Calls.spliced_cons (thn run fun v s4 ⟨y, H4, I4, ry, hea, qn⟩ => Calls.spliced_nil ?_)))
  obtain ⟨hu4, _⟩ := I4.pin (h1.objs.size, kxs_mw "ValueError.__init__" a) (by simp)
  refine ⟨hu4, ?_⟩
  obtain ⟨t4, ho4⟩ := exo_at I4.hok hea
  obtain ⟨h4, g4, d4, tk4, os4⟩ := s4
  refine mw_call (I4.kIn _ _ hC) ho4 hu4 (by show 1 ≤ sizeLine; decide) fun h5 t5 k5 hx5 => ?_
  have J := I4.write (t' := tk4) (x := a) (e := a) (o := exo a C none) (by rw [hea]; exact True.intro) (.inl rfl) k5 ⟨_, hx5⟩ (exo_ok hx5)
  have eu : upd H4 a (exo a C none) = H4 := by
    funext b
    by_cases hb : b = a
    · rw [hb, upd_same, hea]
    · rw [upd_ne hb]
  rw [eu] at J
  exact ⟨σ, H4, J.unpinned, qn⟩
end
theorem super_eval {p0 p1 p2 p3 : Pos} {e : Expr} (env : Env) (hs : starEach [e] env = [(false, eval e env)]) (hl : (p2.endLine == p3.line) = true) :
    eval (.Call (.Attribute (.Call (.Name "super" p0) [] [] p1) "__init__" p2) [e] [] p3) env = (do
      let ov ← attributeBase (.Call (.Name "super" p0) [] [] p1) "__init__" env (eval (.Call (.Name "super" p0) [] [] p1) env)
      standAt p2.atName
      let (f', first) ← holding [ov] (getMethod ov "__init__" (do return (← importBound (.Call (.Name "super" p0) [] [] p1) env).getD true))
      callWith p3 f' first (backTo p3 (starEach [e] env)) []) := by
  show (do
    let ov ← attributeBase (.Call (.Name "super" p0) [] [] p1) "__init__" env (eval (.Call (.Name "super" p0) [] [] p1) env)
    standAt p2.atName
    methodCall (.Call (.Name "super" p0) [] [] p1) "__init__" p2 p3 env ov 1 (backTo p3 (starEach [e] env)) (backToKw p3 (keywordEach [] env))) = _
  have hk : backToKw p3 (keywordEach [] env) = [] := rfl
  have hf : methodCallForm 1 (backTo p3 (starEach [e] env)) [] = true := by rw [hs]; rfl
  rw [hk]
  unfold methodCall methodCallPos calleeOf
  simp only [hf, hl, Bool.not_true, Bool.false_or, if_true, pure_bind, bind_pure_comp]
end K40

namespace K40
open PySem PySem.Spec PyProof.Rows L2 NdefX
open PySem.W (Frag)

/-- a name: a pair of small ints at an address -/
def PairAt (K : Frag) (H : Hp) (v : V) (i j : Int) : Prop := ∃ b, v = .ref b ∧ SqT K H b [.int i, .int j]
/-- C.__init__(self, name): the field, in a new dict -/
def spNs (K : Frag) (C : Addr) : Sp := fun vs H Q _ => ∃ (a : Addr) (nv : V) (i j : Int), vs = [.ref a, nv] ∧ H a = some (exo a C none) ∧ PairAt K H nv i j ∧ i.natAbs.log2 < 20 ∧ j.natAbs.log2 < 20 ∧
  ∀ dx, H dx = none → dx ≠ a → Q .non (upd (upd H dx (exd dx [("name", nv)])) a (exo a C (some dx)))
/-- the text of such an __init__ -/
def nsBody (x1 x2 : Str) (p0 p1 p2 p3 p4 p5 p6 p7 p8 p9 p10 p11 p12 : Pos) (w0 : Str) (j0 : Nat) : List Stmt :=
  [.Expr (.Call (.Attribute (.Call (.Name "super" p0) [] [] p1) "__init__" p2) [.JoinedStr [.Constant (.str w0) j0 p5, .FormattedValue (.Name "name" p6) (-1) none p7] p8] [] p3) p4,
   .Assign [.Attribute (.Name "self" p9) "name" p10] (.Name "name" p11) p12]
section
variable {P : Program} {w : World} {K : Frag} {mg : Str → Option Value} {base : Heap} {CX : CXT} {C cc cda fI : Addr} {qual : Str} {params : Arguments} {body : List Stmt} {scope : Scope} {dV kV doc pm ct oc : Value} {an od : Option Addr} {osl : Array (Option Value)} {ar : Arg}
theorem ok_ns {p0 p1 p2 p3 p4 p5 p6 p7 p8 p9 p10 p11 p12 : Pos} {w0 : Str} {j0 : Nat} (hbd : body = nsBody "self" "name" p0 p1 p2 p3 p4 p5 p6 p7 p8 p9 p10 p11 p12 w0 j0) (hw0 : w0.length ≤ 100) (hline : (p2.endLine == p3.line) = true)
    (lk : K.lookup fI = some ⟨oc, od, .func (PySem.W.fnX "__init__" qual params body scope [(("__class__" : Str), cc)] dV kV doc pm an (.ref cda) ct), osl⟩)
    (hcd : PySem.W.codeIn K (.ref cda) qual = true) (T : SupC P K mg C fI cc cda (PySem.W.fnX "__init__" qual params body scope [(("__class__" : Str), cc)] dV kV doc pm an (.ref cda) ct) ar) (har : ar.arg = "self")
    (S : NScope ["self", "name", "__class__"] ["self", "name"] ["__class__"] scope) (hks : scope.names.lookup ("super" : Str) = some .globalImplicit) (hno : PySem.W.findIn K (.ref C) "name" = some none) :
    FnOk P w K mg base CX 2 fI (PySem.W.fnX "__init__" qual params body scope [(("__class__" : Str), cc)] dV kV doc pm an (.ref cda) ct) ["self", "name"] (spNs K C) := by
  refine ⟨fun vs H Q E h => ?_, fun A outer s H args us vs Q E hr e0 hb r hsp => ?_⟩
  · obtain ⟨a, nv, i, j, rfl, _⟩ := h
    rfl
  · obtain ⟨a, nv, i, j, rfl, ha, hpa, hi, hj, k⟩ := hsp
    have KX : K.In s.heap := e0.mod.kin.keeps fun b o e => (e0.bs b o e).1
    have lim : s.heap.NoLimit := e0.mod.nolimit.keeps fun b o e => (e0.bs b o e).1
    obtain ⟨cl, cld, csl, hcell⟩ := T.cell
    have hcH : H cc = none := (e0.bs _ _ (e0.mod.kin _ _ hcell)).2
    have hcl0 : ∀ {y : Str} {c : Addr}, List.lookup y [(("__class__" : Str), cc)] = some c → y = "__class__" ∧ c = cc := fun {y c} e => by
      by_cases hy : y = "__class__"
      · rw [hy] at e
        have e' : some cc = some c := e
        exact ⟨hy, (Option.some.inj e').symm⟩
      · have q : (y == ("__class__" : Str)) = false := by simpa using hy
        simp [List.lookup, q] at e
    -- the function as a made one
    refine ks_codeAny_call_defAt (body := body) (binds := (["self", "name"] : List Str).zip us) hr.depth (KX _ _ lk) rfl lim (PySem.W.codeRec_of KX hcd) rfl hb S.nocell (fun y hy => S.par y.1 (List.of_mem_zip hy).1) (fun h1 hns kp => ?_) S.co S.gen S.kind
    have CA : CellsAt [(("__class__" : Str), cc)] ["__class__"] [some (.ref C)] s.heap H := by
      refine ⟨rfl, fun y c e => ?_, fun x y c e1 e2 => ?_, fun i y e => ?_⟩
      · obtain ⟨_, rfl⟩ := hcl0 e
        exact ⟨hcH, _, _, KX _ _ hcell, rfl⟩
      · rw [(hcl0 e1).1, (hcl0 e2).1]
      · match i, e with
        | 0, e =>
          have e' : "__class__" = y := Option.some.inj e
          subst e'
          refine ⟨cc, rfl, fun v ev => ?_⟩
          have ev' : V.ref C = v := Option.some.inj (Option.some.inj ev)
          subst ev'
          exact ⟨.ref C, rfl, _, KX _ _ hcell, rfl⟩
        | i + 1, e => simp at e
    have I : Inv (ncx CX P w K mg base ["self", "name", "__class__"] ⟨"__init__", qual, params, body, scope, [(("__class__" : Str), cc)], cda⟩ fI A outer s H E) [] (startF ["self", "name", "__class__"] [.ref a, nv] [some (.ref C)]) H { s with heap := h1, toks := s.toks + ((["self", "name"] : List Str).zip us).length } :=
      inv_startN (F := ⟨"__init__", qual, params, body, scope, [(("__class__" : Str), cc)], cda⟩) S hr.hd e0 rfl r CA hns kp
    have hr1 : Room 1 (ncx CX P w K mg base ["self", "name", "__class__"] ⟨"__init__", qual, params, body, scope, [(("__class__" : Str), cc)], cda⟩ fI A outer s H E).A := hr.deeper _
    have LA : ∀ x : Str, x = "self" ∨ x = "name" → scope.names.lookup x = some .local := fun x hx => S.par x (by rcases hx with rfl | rfl <;> simp)
    have hn : ∀ (i : Nat) (x : Str) (pos : Pos) (hN : (["self", "name", "__class__"] : List Str)[i]? = some x) (hx : x = "self" ∨ x = "name") (h1 : (x == ("__debug__" : Str)) = false) (h2 : (x == ("__classdict__" : Str)) = false),
        PE (ncx CX P w K mg base ["self", "name", "__class__"] ⟨"__init__", qual, params, body, scope, [(("__class__" : Str), cc)], cda⟩ fI A outer s H E) (.Name x pos) (tVar i) := fun i x pos hN hx h1 h2 => pe_var hN (.inl (LA x hx)) h1 h2
    have tl : PSs (ncx CX P w K mg base ["self", "name", "__class__"] ⟨"__init__", qual, params, body, scope, [(("__class__" : Str), cc)], cda⟩ fI A outer s H E) [.Assign [.Attribute (.Name "self" p9) "name" p10] (.Name "name" p11) p12] (tOst K "name" (tVar 0) (tVar 1)) :=
      pss_one (ps_ost (hn 0 "self" p9 rfl (.inl rfl) (by decide) (by decide)) (hn 1 "name" p11 rfl (.inr rfl) (by decide) (by decide)))
    have fin : ∀ {σ' : L2.St} {H' : Hp} {v : V} {u : Value} {s' : Shared}, Inv (ncx CX P w K mg base ["self", "name", "__class__"] ⟨"__init__", qual, params, body, scope, [(("__class__" : Str), cc)], cda⟩ fI A outer s H E) [] σ' H' s' → L2.RelV v u → Q v H' → CE outer P w H s Q u s' :=
      fun {σ' H' v u s'} J rv q => ⟨v, H', J.os, J.bare, J.base, J.hok, rv, q⟩
    rw [hbd]
    show _root_.PySem.wpAt _ _ _ (execs (nsBody "self" "name" p0 p1 p2 p3 p4 p5 p6 p7 p8 p9 p10 p11 p12 w0 j0) _) _ _ _
    refine ks_wpAt_execs_cons (_root_.PySem.wpAt_mono (super_stmt (F := ⟨"__init__", qual, params, body, scope, [(("__class__" : Str), cc)], cda⟩) (i := 0) (a := a) (te := fun σ H Q => tJs [tC (.str w0), tFmtP K (tVar 1)] Str.empty σ H fun out H1 => Q (.str out) H1)
      (D := { nx := tOst K "name" (tVar 0) (tVar 1) { nx := fun _ H' => Q .non H', rt := Q }, rt := fun _ _ => False }) T rfl hks (S.frk _ (by simp)) (by rw [har]; exact LA _ (.inl rfl)) (by rw [har]; rfl) rfl I ha
      (pe_joined (.cons pe_str (.cons (pe_fmtP hr1 (hn 1 "name" p6 rfl (.inr rfl) (by decide) (by decide))) .nil))) ?_ rfl (super_eval _ rfl hline)) (fun f s' hf => ?_) fun _ _ z => z)
    · obtain ⟨b, rfl, hsq⟩ := hpa
      refine ⟨w0, rfl, ?_, .ref b, rfl, b, i, j, rfl, hsq, hi, hj, fun m hm => ⟨m, rfl, ?_, ha, .ref b, rfl, .ref a, rfl, a, C, rfl, T.o, hno, .inl ⟨ha, k⟩⟩⟩
      · rw [strLen_append, sizeLine_eq]
        have z : Str.empty.length = 0 := rfl
        omega
      · rw [strLen_append, strLen_append, sizeLine_eq]
        have z : Str.empty.length = 0 := rfl
        omega
    · cases f with
      | next =>
        obtain ⟨σ', H', J, q⟩ := hf
        refine wpAt_of_wpAny (wpAny_mono (tl.run [] s' σ' H' _ J q) (fun fl s2 h2 => ?_) fun _ _ z => z)
        cases fl with
        | next =>
          obtain ⟨σ2, H2, J2, q2⟩ := h2
          exact fin (v := V.non) (u := Value.none) J2 rfl q2
        | ret u =>
          obtain ⟨v2, σ2, H2, J2, r2, q2⟩ := h2
          exact fin J2 r2 q2
        | brk => obtain ⟨_, _, _, q2⟩ := h2; exact False.elim q2
        | cont => obtain ⟨_, _, _, q2⟩ := h2; exact False.elim q2
      | ret u => obtain ⟨_, _, _, _, _, q⟩ := hf; exact False.elim q
      | brk => obtain ⟨_, _, _, q⟩ := hf; exact False.elim q
      | cont => obtain ⟨_, _, _, q⟩ := hf; exact False.elim q
end
end K40

namespace K40
open PySem PySem.Spec PyProof.Rows L2

/-! ### defs that are called where no guard is under way -/
structure FnG (P : Program) (w : World) (K : PySem.W.Frag) (mg : Str → Option Value) (base : Heap) (CX : CXT) (k : Nat) (f : Addr) (fd : FuncData) (ps : List Str) (sp : Sp) : Prop where
  len : ∀ vs H Q E, sp vs H Q E → vs.length = ps.length
  run : ∀ (A : Around) (outer : List Env) (s : Shared) (H : Hp) (args : Args) (us : List Value) (vs : List V) (Q : VK) (E : XK), Room k A → A.guards = some [] → Env0 P w K mg base A outer s H → BindsTo s fd args (ps.zip us) → Vals vs us → sp vs H Q E →
    codeAny (model P w) A (.call (.ref f) args) (CR CX outer P w H s Q E) s
section
variable {P : Program} {w : World} {K : PySem.W.Frag} {mg : Str → Option Value} {base : Heap} {CX : CXT} {k : Nat} {f : Addr}
/-- a def by its body, the guards told -/
theorem fnG_of {x qual : Str} {st : Stmt} {fd : FuncData} {N ps : List Str} {sp : Sp} (F : Fun K x qual st f fd) (S : FnScope N ps (defScope st)) (len : ∀ vs H Q E, sp vs H Q E → vs.length = ps.length)
    (hbody : ∀ (cdv : Value) (A : Around) (outer : List Env) (s : Shared) (H : Hp) (vs : List V) (Q : VK) (E : XK), Room k (A.deeper (envOfC qual (defScope st) s.heap.objs.size f cdv)) → (A.deeper (envOfC qual (defScope st) s.heap.objs.size f cdv)).guards = some [] → sp vs H Q E →
      ∃ t, PSs (cxOf CX P w K mg base N qual (defScope st) f cdv A outer s H E) (defBody st) t ∧ t { nx := fun _ H' => Q .non H', rt := Q } (start N vs) H) : FnG P w K mg base CX (k + 1) f fd ps sp := by
  obtain ⟨oc, od, kV, doc, pm, an, cdv, ct, osl, rfl, lk, hcd⟩ := F.ex
  refine ⟨len, fun A outer s H args us vs Q E hr hg e0 hb r hsp => ?_⟩
  have hlen := len _ _ _ _ hsp
  have kin : K.In s.heap := e0.mod.kin.keeps fun b o e => (e0.bs b o e).1
  have nol : s.heap.NoLimit := e0.mod.nolimit.keeps fun b o e => (e0.bs b o e).1
  refine codeAny_call_function hr.depth (kin _ _ lk) rfl S.co S.gen rfl (PySem.W.codeRec_of kin hcd) (hb _ _ _ _ (wpAny_newFunctionEnv_cells S.kind (fun y hy => ?_) fun env he s1 ic => ?_))
  · rcases S.par y.1 (List.of_mem_zip hy).1 with q | q
    · exact .inl q
    · exact .inr ⟨q, PySem.W.cellsFrom_some _ _ _ (.inl q)⟩
  · subst he
    obtain ⟨t, ht, hq⟩ := hbody cdv A outer s H vs Q E (hr.deeper _) hg hsp
    refine ⟨nol.keeps ic.toInCall.keep, codeAny_func ?_⟩
    refine wpAny_mono (ht.run [] s1 (start N vs) H _ (inv_start S hr.hd e0 hlen r ic) hq) (fun fl s' hs => ?_) fun _ _ hs => hs
    cases fl with
    | next =>
      obtain ⟨_, H', J, q⟩ := hs
      exact ⟨.non, H', J.os, J.bare, J.base, J.hok, rfl, q⟩
    | ret u =>
      obtain ⟨v, _, H', J, rv, q⟩ := hs
      exact ⟨v, H', J.os, J.bare, J.base, J.hok, rv, q⟩
    | brk => obtain ⟨_, _, _, q⟩ := hs; exact q.elim
    | cont => obtain ⟨_, _, _, q⟩ := hs; exact q.elim
end
section
variable {X : Cx} {CX : CXT} {k : Nat} {f : Addr} {fd : FuncData} {ps : List Str} {sp : Sp} {E : XK} {x : Str} {p pos : Pos} {e : Expr} {es : List Expr} {t : TA}
theorem pe_callG (F : FnG X.prog X.w X.K X.mg X.base CX k f fd ps sp) (hr : Room k X.A) (hgd : X.A.guards = some []) (hg : Gl X x) (hm : X.mg x = some (.ref f)) (hk : PySem.W.keepIn X.K (.ref f) = true) (hb : Binds X.K fd ps []) (hx : Passes CX X E)
    (ha : PA X (e :: es) t) (hdb : (x == ("__debug__" : Str)) = false := by decide) (he : starEach (e :: es) X.env = (false, eval e X.env) :: starEach es X.env := by rfl) (hpl : (backTo pos (starEach es X.env)).any (·.1) = false := by rfl) :
    PE X (.Call (.Name x p) (e :: es) [] pos) (tCall sp [] E t) := by
  refine ⟨fun pins s σ H Q I h => wpAny_Call_Name_kw (ld_glob I hg hm (PySem.W.callWith_K (h₀ := X.base) I.ok.mod.kin hk (thn (ha.run pos pins s σ H _ I h) fun us s1 ⟨vs, H1, I1, r, q⟩ => ⟨I1.kIn, ?_⟩) he hpl) hdb)⟩
  have q : sp (vs ++ []) H1 Q E := q
  rw [List.append_nil] at q
  show wpAny _ _ (call (.ref f) us) _ _ _
  have hl : (us ++ []).length = ps.length := by
    rw [List.append_nil, ← r.length]
    exact F.len _ _ _ _ q
  have hb' := hb s1 us I1.kIn hl
  rw [List.append_nil] at hb'
  refine wpAny_call (codeAny_mono (F.run X.A X.stack s1 H1 ⟨us, []⟩ us vs Q E hr hgd I1.env0 hb' r q) fun rs s' hq => ?_)
  match rs, hq with
  | .error er, hq => exact hx pins σ H1 s1 er s' I1 hq
  | .ok (.ret u), hq => exact I1.after hq
  | .ok .next, hq => exact hq.elim
  | .ok .brk, hq => exact hq.elim
  | .ok .cont, hq => exact hq.elim
end
end K40

namespace K40
open PySem

/-! ### the mirror: names, values, cells, what is reached -/
abbrev Nm := Int × Int
inductive Vl where
  | non | int (i : Int) | txt (s : Str) | ref (n : Nm)
  deriving DecidableEq
abbrev Ky := Nm × Str
abbrev Cl := Nm × Vl
abbrev Cs := List (Ky × Cl)
structure Chg where
  st : Nm
  nm : Nm
  fd : Str
  vl : Vl
def nmD (n : Nm) : PyData := .tuple [.int n.1, .int n.2]
def vlD : Vl → PyData
  | .non => .none
  | .int i => .int i
  | .txt s => .str s
  | .ref n => .tuple [.str "ref", nmD n]
def clD (x : Cl) : PyData := .tuple [nmD x.1, vlD x.2]
def kyD (k : Ky) : PyData := .tuple [nmD k.1, .str k.2]
def chD (g : Chg) : PyData := .tuple [nmD g.st, nmD g.nm, .str g.fd, vlD g.vl]
def nmK (n : Nm) : NestedKey := .tup [.num n.1, .num n.2]
def kyK (k : Ky) : NestedKey := .tup [nmK k.1, .text k.2]
theorem nmK_data (n : Nm) : (nmK n).data = nmD n := rfl
theorem kyK_data (k : Ky) : (kyK k).data = kyD k := rfl
theorem nmK_inj {a b : Nm} (h : nmK a = nmK b) : a = b := by
  injection h with h
  injection h with h1 h2
  injection h2 with h2 _
  injection h1 with h1
  injection h2 with h2
  exact Prod.ext h1 h2
theorem kyK_inj {a b : Ky} (h : kyK a = kyK b) : a = b := by
  injection h with h
  injection h with h1 h2
  injection h2 with h2 _
  injection h2 with h2
  exact Prod.ext (nmK_inj h1) h2

def lookC (c : Cs) (k : Ky) : Option Cl := (c.find? fun x => decide (x.1 = k)).map (·.2)
def repC (k : Ky) (v : Cl) (x : Ky × Cl) : Ky × Cl := if x.1 = k then (x.1, v) else x
def putC (c : Cs) (k : Ky) (v : Cl) : Cs := if (lookC c k).isSome = true then c.map (repC k v) else c ++ [(k, v)]
def later (a b : Nm) : Bool := PySem.W.dataLt (nmD a) (nmD b)
def takeC (c : Cs) (g : Chg) : Cs := match lookC c (g.nm, g.fd) with
  | some old => if later old.1 g.st = true then putC c (g.nm, g.fd) (g.st, g.vl) else c
  | none => putC c (g.nm, g.fd) (g.st, g.vl)
def cellsOf (m : List Chg) : Cs := m.foldl takeC []
def tgt : Vl → Option Nm
  | .ref n => some n
  | _ => none

theorem lookC_nil {k : Ky} : lookC [] k = none := rfl
theorem lookC_pos {x : Ky × Cl} {r : Cs} {k : Ky} (e : x.1 = k) : lookC (x :: r) k = some x.2 := by simp [lookC, List.find?_cons, e]
theorem lookC_neg {x : Ky × Cl} {r : Cs} {k : Ky} (e : ¬ x.1 = k) : lookC (x :: r) k = lookC r k := by simp [lookC, List.find?_cons, e]
theorem lookC_mem {k : Ky} {v : Cl} : ∀ {c : Cs}, lookC c k = some v → (k, v) ∈ c
  | [], h => by cases h
  | x :: r, h => by
    by_cases e : x.1 = k
    · rw [lookC_pos e] at h
      cases h
      rw [← e]
      exact List.mem_cons_self
    · rw [lookC_neg e] at h
      exact List.mem_cons_of_mem _ (lookC_mem h)
theorem lookC_none {k : Ky} : ∀ {c : Cs}, lookC c k = none → k ∉ c.map (·.1)
  | [], _ => by simp
  | x :: r, h => by
    by_cases e : x.1 = k
    · rw [lookC_pos e] at h
      cases h
    · rw [lookC_neg e] at h
      have := lookC_none h
      simp only [List.map_cons, List.mem_cons, not_or]
      exact ⟨fun z => e z.symm, this⟩
theorem lookC_own {e : Ky × Cl} : ∀ {c : Cs}, (c.map (·.1)).Nodup → e ∈ c → lookC c e.1 = some e.2
  | x :: r, nd, h => by
    rw [List.map_cons, List.nodup_cons] at nd
    rcases List.mem_cons.mp h with q | q
    · subst q
      exact lookC_pos rfl
    · have : x.1 ≠ e.1 := fun z => nd.1 (z ▸ List.mem_map_of_mem q)
      rw [lookC_neg this]
      exact lookC_own nd.2 q
theorem putC_keys (c : Cs) (k : Ky) (v : Cl) : (putC c k v).map (·.1) = if (lookC c k).isSome = true then c.map (·.1) else c.map (·.1) ++ [k] := by
  unfold putC
  split
  · rw [List.map_map]
    refine List.map_congr_left fun x _ => ?_
    show (repC k v x).1 = x.1
    unfold repC
    split <;> rfl
  · simp
theorem putC_nodup {c : Cs} {k : Ky} {v : Cl} (h : (c.map (·.1)).Nodup) : ((putC c k v).map (·.1)).Nodup := by
  rw [putC_keys]
  split
  · exact h
  · rename_i z
    have hn : lookC c k = none := by simpa using z
    have := lookC_none hn
    rw [List.nodup_append]
    exact ⟨h, by simp, fun a ha b hb => by
      rw [List.mem_singleton] at hb
      subst hb
      exact fun z => this (z ▸ ha)⟩
theorem putC_len (c : Cs) (k : Ky) (v : Cl) : (putC c k v).length ≤ c.length + 1 := by
  have := congrArg List.length (putC_keys c k v)
  rw [List.length_map] at this
  rw [this]
  split <;> simp
theorem putC_mem {c : Cs} {k : Ky} {v : Cl} {e : Ky × Cl} (h : e ∈ putC c k v) : e = (k, v) ∨ e ∈ c := by
  unfold putC at h
  split at h
  · obtain ⟨x, hx, rfl⟩ := List.mem_map.mp h
    unfold repC
    split
    · rename_i z
      exact .inl (by rw [z])
    · exact .inr hx
  · rcases List.mem_append.mp h with q | q
    · exact .inr q
    · rw [List.mem_singleton] at q
      exact .inl q
theorem takeC_eq (c : Cs) (g : Chg) : takeC c g = putC c (g.nm, g.fd) (g.st, g.vl) ∨ takeC c g = c := by
  unfold takeC
  split
  · split
    · exact .inl rfl
    · exact .inr rfl
  · exact .inl rfl
theorem takeC_nodup {c : Cs} {g : Chg} (h : (c.map (·.1)).Nodup) : ((takeC c g).map (·.1)).Nodup := by
  rcases takeC_eq c g with e | e <;> rw [e]
  · exact putC_nodup h
  · exact h
theorem takeC_len (c : Cs) (g : Chg) : (takeC c g).length ≤ c.length + 1 := by
  rcases takeC_eq c g with e | e <;> rw [e]
  · exact putC_len _ _ _
  · omega
theorem takeC_mem {c : Cs} {g : Chg} {e : Ky × Cl} (h : e ∈ takeC c g) : e = ((g.nm, g.fd), (g.st, g.vl)) ∨ e ∈ c := by
  rcases takeC_eq c g with q | q <;> rw [q] at h
  · exact putC_mem h
  · exact .inr h
theorem cellsOf_snoc (m : List Chg) (g : Chg) : cellsOf (m ++ [g]) = takeC (cellsOf m) g := by
  unfold cellsOf
  rw [List.foldl_append]
  rfl
theorem cells_nodup_aux : ∀ (m : List Chg) (c : Cs), (c.map (·.1)).Nodup → ((m.foldl takeC c).map (·.1)).Nodup
  | [], _, h => h
  | g :: r, c, h => cells_nodup_aux r (takeC c g) (takeC_nodup h)
theorem cells_nodup (m : List Chg) : ((cellsOf m).map (·.1)).Nodup := cells_nodup_aux m [] (by simp)
theorem cells_len_aux : ∀ (m : List Chg) (c : Cs), (m.foldl takeC c).length ≤ c.length + m.length
  | [], _ => by simp
  | g :: r, c => by
    have h1 := cells_len_aux r (takeC c g)
    have h2 := takeC_len c g
    simp only [List.foldl_cons, List.length_cons]
    omega
theorem cells_len (m : List Chg) : (cellsOf m).length ≤ m.length := by
  have := cells_len_aux m []
  simpa [cellsOf] using this
theorem cells_mem_aux : ∀ (m : List Chg) (c : Cs) (e : Ky × Cl), e ∈ m.foldl takeC c → e ∈ c ∨ ∃ g ∈ m, e = ((g.nm, g.fd), (g.st, g.vl))
  | [], _, _, h => .inl h
  | g :: r, c, e, h => by
    rcases cells_mem_aux r (takeC c g) e h with q | ⟨g', hg, q⟩
    · rcases takeC_mem q with q | q
      · exact .inr ⟨g, List.mem_cons_self, q⟩
      · exact .inl q
    · exact .inr ⟨g', List.mem_cons_of_mem _ hg, q⟩
theorem cells_mem {m : List Chg} {e : Ky × Cl} (h : e ∈ cellsOf m) : ∃ g ∈ m, e = ((g.nm, g.fd), (g.st, g.vl)) := by
  rcases cells_mem_aux m [] e h with q | q
  · cases q
  · exact q

/-! ### sorted keys, fields, what is reached -/
def srtC (c : Cs) : Cs := c.mergeSort (PySem.W.dataLe false fun e => kyD e.1)
theorem srtC_perm (c : Cs) : (srtC c).Perm c := List.mergeSort_perm _ _
theorem srtC_mem {c : Cs} {e : Ky × Cl} : e ∈ srtC c ↔ e ∈ c := (srtC_perm c).mem_iff
theorem srtC_len (c : Cs) : (srtC c).length = c.length := (srtC_perm c).length_eq
theorem srtC_nodup {c : Cs} (h : (c.map (·.1)).Nodup) : ((srtC c).map (·.1)).Nodup := ((srtC_perm c).map _).nodup_iff.mpr h
def fldOf (n : Nm) (e : Ky × Cl) : Option (Str × Vl) := if e.1.1 = n ∧ e.2.2 ≠ .non then some (e.1.2, e.2.2) else none
def fldsL (s : Cs) (n : Nm) : List (Str × Vl) := s.filterMap (fldOf n)
def flds (c : Cs) (n : Nm) : List (Str × Vl) := fldsL (srtC c) n
theorem fldsL_snoc (s : Cs) (e : Ky × Cl) (n : Nm) : fldsL (s ++ [e]) n = fldsL s n ++ (fldOf n e).toList := by
  unfold fldsL
  rw [List.filterMap_append]
  congr 1
theorem fldsL_mem {s : Cs} {n : Nm} {f : Str × Vl} (h : f ∈ fldsL s n) : ∃ e ∈ s, e.1 = (n, f.1) ∧ e.2.2 = f.2 ∧ f.2 ≠ .non := by
  obtain ⟨e, he, q⟩ := List.mem_filterMap.mp h
  unfold fldOf at q
  split at q
  · rename_i z
    cases q
    exact ⟨e, he, Prod.ext z.1 rfl, rfl, z.2⟩
  · cases q
theorem flds_mem {c : Cs} {n : Nm} {f : Str × Vl} (h : f ∈ flds c n) : ∃ e ∈ c, e.1 = (n, f.1) ∧ e.2.2 = f.2 ∧ f.2 ≠ .non := by
  obtain ⟨e, he, q⟩ := fldsL_mem h
  exact ⟨e, srtC_mem.mp he, q⟩
theorem fldsL_len (s : Cs) (n : Nm) : (fldsL s n).length ≤ s.length := List.length_filterMap_le _ _
theorem fldsL_names (s : Cs) (n : Nm) : ((fldsL s n).map fun f => ((n, f.1) : Ky)).Sublist (s.map (·.1)) := by
  induction s with
  | nil => exact List.Sublist.slnil
  | cons e r ih =>
    unfold fldsL
    rw [List.filterMap_cons]
    cases h : fldOf n e with
    | none => exact ih.cons _
    | some f =>
      unfold fldOf at h
      split at h
      · rename_i z
        cases h
        have : ((n, e.1.2) : Ky) = e.1 := Prod.ext z.1.symm rfl
        show (((n, e.1.2) : Ky) :: _).Sublist (e.1 :: _)
        rw [this]
        exact ih.cons_cons _
      · cases h
theorem fldsL_nodup {s : Cs} {n : Nm} (h : (s.map (·.1)).Nodup) : ((fldsL s n).map (·.1)).Nodup := by
  have h1 := (fldsL_names s n).nodup h
  have : ((fldsL s n).map fun f => ((n, f.1) : Ky)) = ((fldsL s n).map (·.1)).map fun x => ((n, x) : Ky) := by
    rw [List.map_map]
    rfl
  rw [this] at h1
  exact List.Pairwise.of_map (R := (· ≠ ·)) (fun x => ((n, x) : Ky)) (fun a b q z => q (by rw [z])) h1

def addN (l : List Nm) (n : Nm) : List Nm := if n ∈ l then l else l ++ [n]
def addV (l : List Nm) (v : Vl) : List Nm := match tgt v with
  | some t => addN l t
  | none => l
def stepR (c : Cs) (l : List Nm) (n : Nm) : List Nm := (flds c n).foldl (fun l f => addV l f.2) l
def rl (c : Cs) : Nat → Nat → List Nm → List Nm
  | 0, _, l => l
  | k + 1, p, l => match l[p]? with
    | some n => rl c k (p + 1) (stepR c l n)
    | none => l
def uni (c : Cs) (roots : List Nm) : List Nm := roots ++ c.filterMap fun e => tgt e.2.2
def reach (c : Cs) (roots : List Nm) : List Nm := rl c (uni c roots).length 0 (roots.foldl addN [])

theorem addN_pre (l : List Nm) (n : Nm) : l <+: addN l n := by
  unfold addN
  split
  · exact List.prefix_rfl
  · exact List.prefix_append _ _
theorem addN_in (l : List Nm) (n : Nm) : n ∈ addN l n := by
  unfold addN
  split
  · assumption
  · simp
theorem addN_mem {l : List Nm} {n x : Nm} (h : x ∈ addN l n) : x ∈ l ∨ x = n := by
  unfold addN at h
  split at h
  · exact .inl h
  · simpa using h
theorem addN_nodup {l : List Nm} {n : Nm} (h : l.Nodup) : (addN l n).Nodup := by
  unfold addN
  split
  · exact h
  · rename_i z
    rw [List.nodup_append]
    exact ⟨h, by simp, fun a ha b hb => by
      rw [List.mem_singleton] at hb
      subst hb
      exact fun q => z (q ▸ ha)⟩
theorem addV_pre (l : List Nm) (v : Vl) : l <+: addV l v := by
  unfold addV
  split
  · exact addN_pre _ _
  · exact List.prefix_rfl
theorem addV_nodup {l : List Nm} {v : Vl} (h : l.Nodup) : (addV l v).Nodup := by
  unfold addV
  split
  · exact addN_nodup h
  · exact h
theorem addV_mem {l : List Nm} {v : Vl} {x : Nm} (h : x ∈ addV l v) : x ∈ l ∨ tgt v = some x := by
  unfold addV at h
  split at h
  · rename_i t e
    rcases addN_mem h with q | q
    · exact .inl q
    · exact .inr (by rw [e, q])
  · exact .inl h
theorem addV_in {l : List Nm} {v : Vl} {t : Nm} (h : tgt v = some t) : t ∈ addV l v := by
  unfold addV
  rw [h]
  exact addN_in _ _
theorem foldV_pre : ∀ (fs : List (Str × Vl)) (l : List Nm), l <+: fs.foldl (fun l f => addV l f.2) l
  | [], _ => List.prefix_rfl
  | f :: r, l => (addV_pre l f.2).trans (foldV_pre r _)
theorem foldV_nodup : ∀ (fs : List (Str × Vl)) (l : List Nm), l.Nodup → (fs.foldl (fun l f => addV l f.2) l).Nodup
  | [], _, h => h
  | f :: r, l, h => foldV_nodup r _ (addV_nodup h)
theorem foldV_mem : ∀ (fs : List (Str × Vl)) (l : List Nm) (x : Nm), x ∈ fs.foldl (fun l f => addV l f.2) l → x ∈ l ∨ ∃ f ∈ fs, tgt f.2 = some x
  | [], _, _, h => .inl h
  | f :: r, l, x, h => by
    rcases foldV_mem r _ x h with q | ⟨g, hg, q⟩
    · rcases addV_mem q with q | q
      · exact .inl q
      · exact .inr ⟨f, List.mem_cons_self, q⟩
    · exact .inr ⟨g, List.mem_cons_of_mem _ hg, q⟩
theorem foldV_in : ∀ (fs : List (Str × Vl)) (l : List Nm) (f : Str × Vl) (t : Nm), f ∈ fs → tgt f.2 = some t → t ∈ fs.foldl (fun l f => addV l f.2) l
  | g :: r, l, f, t, h, e => by
    rcases List.mem_cons.mp h with q | q
    · subst q
      exact (foldV_pre r _).subset (addV_in e)
    · exact foldV_in r _ f t q e
theorem foldN_mem : ∀ (ns l : List Nm) (x : Nm), x ∈ ns.foldl addN l ↔ x ∈ l ∨ x ∈ ns
  | [], l, x => by simp
  | n :: r, l, x => by
    rw [List.foldl_cons, foldN_mem r]
    constructor
    · rintro (h | h)
      · rcases addN_mem h with q | q
        · exact .inl q
        · exact .inr (by rw [q]; exact List.mem_cons_self)
      · exact .inr (List.mem_cons_of_mem _ h)
    · rintro (h | h)
      · exact .inl ((addN_pre l n).subset h)
      · rcases List.mem_cons.mp h with q | q
        · exact .inl (q ▸ addN_in l n)
        · exact .inr q
theorem foldN_nodup : ∀ (ns l : List Nm), l.Nodup → (ns.foldl addN l).Nodup
  | [], _, h => h
  | n :: r, l, h => foldN_nodup r _ (addN_nodup h)

/-- what holds as the loop over what is found goes on -/
structure RInv (c : Cs) (roots : List Nm) (k p : Nat) (l : List Nm) : Prop where
  nd : l.Nodup
  sub : ∀ x ∈ l, x ∈ uni c roots
  rts : ∀ x ∈ roots, x ∈ l
  cl : ∀ (q : Nat) (n : Nm), q < p → l[q]? = some n → ∀ f ∈ flds c n, ∀ t, tgt f.2 = some t → t ∈ l
  is : rl c k p l = reach c roots
  big : (uni c roots).length ≤ k + p
theorem nodup_sub_len : ∀ {l u : List Nm}, l.Nodup → (∀ x ∈ l, x ∈ u) → l.length ≤ u.length
  | [], _, _, _ => Nat.zero_le _
  | a :: r, u, nd, h => by
    rw [List.nodup_cons] at nd
    have ha := h a List.mem_cons_self
    have h1 : r.length ≤ (u.erase a).length := nodup_sub_len nd.2 fun x hx => by
      have : x ≠ a := fun z => nd.1 (z ▸ hx)
      exact (List.mem_erase_of_ne this).mpr (h x (List.mem_cons_of_mem _ hx))
    rw [List.length_erase_of_mem ha] at h1
    have : 0 < u.length := List.length_pos_of_mem ha
    rw [List.length_cons]
    omega
theorem RInv.len {c : Cs} {roots : List Nm} {k p : Nat} {l : List Nm} (R : RInv c roots k p l) : l.length ≤ (uni c roots).length := nodup_sub_len R.nd R.sub
theorem uni_len (c : Cs) (roots : List Nm) : (uni c roots).length ≤ roots.length + c.length := by
  unfold uni
  rw [List.length_append]
  have := List.length_filterMap_le (fun e : Ky × Cl => tgt e.2.2) c
  omega
theorem RInv.start (c : Cs) (roots : List Nm) : RInv c roots (uni c roots).length 0 (roots.foldl addN []) where
  nd := foldN_nodup _ _ (by simp)
  sub := fun x hx => by
    rcases (foldN_mem _ _ _).mp hx with q | q
    · cases q
    · exact List.mem_append_left _ q
  rts := fun x hx => (foldN_mem _ _ _).mpr (.inr hx)
  cl := fun q n h => absurd h (Nat.not_lt_zero _)
  is := rfl
  big := Nat.le_refl _
theorem RInv.step {c : Cs} {roots : List Nm} {k p : Nat} {l : List Nm} {n : Nm} (R : RInv c roots k p l) (h : l[p]? = some n) : ∃ k', k = k' + 1 ∧ RInv c roots k' (p + 1) (stepR c l n) := by
  have hp : p < l.length := (List.getElem?_eq_some_iff.mp h).1
  have h1 := R.len
  have h2 := R.big
  obtain ⟨k', rfl⟩ : ∃ k', k = k' + 1 := ⟨k - 1, by omega⟩
  have pre := foldV_pre (flds c n) l
  refine ⟨k', rfl, foldV_nodup _ _ R.nd, fun x hx => ?_, fun x hx => pre.subset (R.rts x hx), fun q m hq hm f hf t ht => ?_, ?_, by omega⟩
  · rcases foldV_mem _ _ _ hx with q | ⟨f, hf, q⟩
    · exact R.sub x q
    · obtain ⟨e, he, _, e2, _⟩ := flds_mem hf
      exact List.mem_append_right _ (List.mem_filterMap.mpr ⟨e, he, by rw [e2]; exact q⟩)
  · have hql : q < l.length := by omega
    have e : l[q]? = some m := by
      rw [← hm]
      obtain ⟨t, ht⟩ := pre
      show l[q]? = (List.foldl (fun l f => addV l f.2) l (flds c n))[q]?
      rw [← ht, List.getElem?_append_left hql]
    by_cases c1 : q = p
    · subst c1
      rw [h] at e
      cases e
      exact foldV_in _ _ f t hf ht
    · exact pre.subset (R.cl q m (by omega) e f hf t ht)
  · have := R.is
    rw [rl, h] at this
    exact this
structure ROk (c : Cs) (roots L : List Nm) : Prop where
  nd : L.Nodup
  len : L.length ≤ roots.length + c.length
  rts : ∀ x ∈ roots, x ∈ L
  cl : ∀ n ∈ L, ∀ f ∈ flds c n, ∀ t, tgt f.2 = some t → t ∈ L
theorem RInv.done {c : Cs} {roots : List Nm} {k p : Nat} {l : List Nm} (R : RInv c roots k p l) (h : l[p]? = none) : l = reach c roots ∧ ROk c roots l := by
  refine ⟨?_, R.nd, Nat.le_trans R.len (uni_len c roots), R.rts, fun n hn f hf t ht => ?_⟩
  · rw [← R.is]
    cases k with
    | zero => rfl
    | succ k => rw [rl, h]
  · obtain ⟨q, hq, e⟩ := List.mem_iff_getElem.mp hn
    have hp : l.length ≤ p := List.getElem?_eq_none_iff.mp h
    exact R.cl q n (by omega) (by rw [List.getElem?_eq_getElem hq, e]) f hf t ht
theorem RInv.fin {c : Cs} {roots : List Nm} : ∀ {k p : Nat} {l : List Nm}, RInv c roots k p l → ROk c roots (reach c roots)
  | k, p, l, R => by
    cases h : l[p]? with
    | none =>
      obtain ⟨e, o⟩ := R.done h
      exact e ▸ o
    | some n =>
      obtain ⟨k', rfl, R'⟩ := R.step h
      exact R'.fin
  termination_by k => k
theorem reach_ok (c : Cs) (roots : List Nm) : ROk c roots (reach c roots) := (RInv.start c roots).fin

/-! ### the graph -/
def ix (L : List Nm) (n : Nm) : Nat := L.idxOf n
def numV (L : List Nm) : Vl → PyData
  | .ref n => .tuple [.str "ref", .int (ix L n : Nat)]
  | v => vlD v
def thing (c : Cs) (L : List Nm) (n : Nm) : PyData := .list ((flds c n).map fun f => .tuple [.str f.1, numV L f.2])
def graphD (c : Cs) (roots : List Nm) : PyData := .tuple [.list (roots.map fun n => .int (ix (reach c roots) n : Nat)), .list ((reach c roots).map (thing c (reach c roots)))]
end K40

namespace K40
open PySem PySem.Spec PyProof.Rows L2
open PySem.W (Frag)

/-! ### what changes: nothing but what stands at M -/
def Ch (M : List Addr) (H H' : Hp) : Prop := ∀ b o, b ∉ M → H b = some o → H' b = some o
theorem Ch.refl (M : List Addr) (H : Hp) : Ch M H H := fun _ _ _ e => e
theorem Ch.trans {M : List Addr} {H H1 H2 : Hp} (a : Ch M H H1) (b : Ch M H1 H2) : Ch M H H2 := fun x o hx e => b x o hx (a x o hx e)
theorem Ch.mono {M N : List Addr} {H H1 : Hp} (a : Ch M H H1) (h : ∀ x ∈ M, x ∈ N) : Ch N H H1 := fun x o hx e => a x o (fun z => hx (h x z)) e
theorem Ch.any {M : List Addr} {H H1 : Hp} (a : Ch [] H H1) : Ch M H H1 := a.mono fun _ z => nomatch z
theorem Ch.new {M : List Addr} {H : Hp} {p : Addr} {o : HO} (h : H p = none) : Ch M H (upd H p o) := fun b u _ e => by
  rw [upd_ne (fun z => by rw [z, h] at e; cases e)]
  exact e
theorem Ch.upd {M : List Addr} {H : Hp} {p : Addr} {o : HO} (h : p ∈ M) : Ch M H (upd H p o) := fun b u hb e => by
  have z : b ≠ p := fun z => hb (z ▸ h)
  rw [upd_ne z]
  exact e
theorem Ch.then_new {M : List Addr} {H H1 : Hp} {p : Addr} {o : HO} (a : Ch M H H1) (h : H1 p = none) : Ch M H (L2.upd H1 p o) := a.trans (Ch.new h)
theorem Ch.then_upd {M : List Addr} {H H1 : Hp} {p : Addr} {o : HO} (a : Ch M H H1) (h : p ∈ M) : Ch M H (L2.upd H1 p o) := a.trans (Ch.upd h)
/-- a thing that is new in H stays out of what H told -/
theorem Ch.free {H H1 : Hp} {p : Addr} (a : Ch [] H H1) (h : H1 p = none) : H p = none := by
  cases e : H p with
  | none => rfl
  | some o =>
    have := a p o (by simp) e
    rw [h] at this
    cases this
theorem Ch.freeM {M : List Addr} {H H1 : Hp} {p : Addr} (a : Ch M H H1) (hp : p ∉ M) (h : H1 p = none) : H p = none := by
  cases e : H p with
  | none => rfl
  | some o =>
    have := a p o hp e
    rw [h] at this
    cases this
/-- a new thing may be changed later -/
theorem Ch.drop {M : List Addr} {H H1 : Hp} {p : Addr} (a : Ch (p :: M) H H1) (h : H p = none) : Ch M H H1 := fun b o hb e => a b o (fun z => by
  rcases List.mem_cons.mp z with q | q
  · rw [q, h] at e
    cases e
  · exact hb q) e
theorem Ch.new_upd {M : List Addr} {H H1 : Hp} {p : Addr} {o : HO} (a : Ch M H H1) (h : H p = none) : Ch M H (L2.upd H1 p o) := Ch.drop ((a.mono fun _ z => List.mem_cons_of_mem _ z).then_upd List.mem_cons_self) h

/-- no tuple stands there -/
def NoTup (H : Hp) (b : Addr) : Prop := ∀ xs, ¬ Rd H b (.tup xs)
theorem NoTup.none {H : Hp} {b : Addr} (h : H b = none) : NoTup H b := fun xs r => by
  rcases r with r | ⟨o, r⟩ <;> rw [h] at r <;> cases r
theorem NoTup.some {H : Hp} {b : Addr} {u : HO} (h : H b = some u) (h1 : ∀ xs, u ≠ .tup xs) (h2 : ∀ o xs, u ≠ .frz o (.tup xs)) : NoTup H b := fun xs r => by
  rcases r with r | ⟨o, r⟩ <;> rw [h] at r <;> cases r
  · exact h1 xs rfl
  · exact h2 o xs rfl
theorem NoTup.lst {H : Hp} {b : Addr} {xs : List V} (h : H b = Option.some (.lst xs)) : NoTup H b := .some h (fun _ z => by cases z) (fun _ _ z => by cases z)
theorem NoTup.dK {H : Hp} {b : Addr} {xs : List (Key × V)} (h : H b = Option.some (.dK xs)) : NoTup H b := .some h (fun _ z => by cases z) (fun _ _ z => by cases z)
theorem NoTup.ins {H : Hp} {b C dx : Addr} {fs : List (Str × V)} (h : H b = Option.some (.ins C dx fs)) : NoTup H b := .some h (fun _ z => by cases z) (fun _ _ z => by cases z)
theorem NoTup.no {P : Program} {w : World} {H : Hp} {b : Addr} {xs : NE} (h : H b = Option.some (NO P w b xs)) : NoTup H b := .some h (fun _ z => by cases z) (fun _ _ z => by cases z)
theorem NoTup.frzN {P : Program} {w : World} {H : Hp} {b : Addr} {o : Obj} {xs : NE} (h : H b = Option.some (.frz o (NO P w b xs))) : NoTup H b := .some h (fun _ z => by cases z) (fun _ _ z => by cases z)

/-- the tuples stay -/
def TK (K : Frag) (H H' : Hp) : Prop := ∀ b xs, SqT K H b xs → SqT K H' b xs
theorem TK.refl {K : Frag} (H : Hp) : TK K H H := fun _ _ e => e
theorem TK.trans {K : Frag} {H H1 H2 : Hp} (a : TK K H H1) (b : TK K H1 H2) : TK K H H2 := fun x xs e => b x xs (a x xs e)
theorem Ch.tk {K : Frag} {M : List Addr} {H H' : Hp} (a : Ch M H H') (h : ∀ b ∈ M, NoTup H b) : TK K H H' := fun b xs e => by
  rcases e with r | r
  · have hb : b ∉ M := fun z => h b z xs r
    rcases r with r | ⟨o, r⟩
    · exact .inl (.inl (a b _ hb r))
    · exact .inl (.inr ⟨o, a b _ hb r⟩)
  · exact .inr r
theorem Ch.tk0 {K : Frag} {H H' : Hp} (a : Ch [] H H') : TK K H H' := a.tk fun _ z => nomatch z
theorem TK.upd {K : Frag} {H : Hp} {p : Addr} {o : HO} (h : NoTup H p) : TK K H (L2.upd H p o) := Ch.tk (M := [p]) (Ch.upd (by simp)) fun b hb => by
  rw [List.mem_singleton] at hb
  rw [hb]
  exact h
theorem TK.new {K : Frag} {H : Hp} {p : Addr} {o : HO} (h : H p = none) : TK K H (L2.upd H p o) := TK.upd (.none h)
theorem Ch.sqL {K : Frag} {M : List Addr} {H H' : Hp} (a : Ch M H H') {b : Addr} {xs : List V} (hb : b ∉ M) (h : SqL K H b xs) : SqL K H' b xs := by
  rcases h with (r | ⟨o, r⟩) | r
  · exact .inl (.inl (a b _ hb r))
  · exact .inl (.inr ⟨o, a b _ hb r⟩)
  · exact .inr r
theorem Ch.rd {M : List Addr} {H H' : Hp} (a : Ch M H H') {b : Addr} {u : HO} (hb : b ∉ M) (h : Rd H b u) : Rd H' b u := by
  rcases h with r | ⟨o, r⟩
  · exact .inl (a b _ hb r)
  · exact .inr ⟨o, a b _ hb r⟩

/-! ### names, values, cells, changes in the heap -/
def NmAt (K : Frag) (H : Hp) (v : V) (n : Nm) : Prop := ∃ b, v = .ref b ∧ SqT K H b [.int n.1, .int n.2]
def VlAt (K : Frag) (H : Hp) (v : V) : Vl → Prop
  | .non => v = .non
  | .int i => v = .int i
  | .txt s => v = .str s
  | .ref n => ∃ b x, v = .ref b ∧ SqT K H b [.str "ref", x] ∧ NmAt K H x n
def ClAt (K : Frag) (H : Hp) (v : V) (x : Cl) : Prop := ∃ b s w, v = .ref b ∧ SqT K H b [s, w] ∧ NmAt K H s x.1 ∧ VlAt K H w x.2
def KyAt (K : Frag) (H : Hp) (b : Addr) (k : Ky) : Prop := ∃ n, SqT K H b [n, .str k.2] ∧ NmAt K H n k.1
def ChAt (K : Frag) (H : Hp) (v : V) (g : Chg) : Prop := ∃ b s n w, v = .ref b ∧ SqT K H b [s, n, .str g.fd, w] ∧ NmAt K H s g.st ∧ NmAt K H n g.nm ∧ VlAt K H w g.vl
section
variable {K : Frag} {H H' : Hp}
theorem NmAt.tk (t : TK K H H') {v : V} {n : Nm} (h : NmAt K H v n) : NmAt K H' v n := by
  obtain ⟨b, e, h⟩ := h
  exact ⟨b, e, t _ _ h⟩
theorem VlAt.tk (t : TK K H H') {v : V} : ∀ {x : Vl}, VlAt K H v x → VlAt K H' v x
  | .non, h => h
  | .int _, h => h
  | .txt _, h => h
  | .ref _, h => by
    obtain ⟨b, x, e, h, q⟩ := h
    exact ⟨b, x, e, t _ _ h, q.tk t⟩
theorem ClAt.tk (t : TK K H H') {v : V} {x : Cl} (h : ClAt K H v x) : ClAt K H' v x := by
  obtain ⟨b, s, w, e, h, q, r⟩ := h
  exact ⟨b, s, w, e, t _ _ h, q.tk t, r.tk t⟩
theorem KyAt.tk (t : TK K H H') {b : Addr} {k : Ky} (h : KyAt K H b k) : KyAt K H' b k := by
  obtain ⟨n, h, q⟩ := h
  exact ⟨n, t _ _ h, q.tk t⟩
theorem ChAt.tk (t : TK K H H') {v : V} {g : Chg} (h : ChAt K H v g) : ChAt K H' v g := by
  obtain ⟨b, s, n, w, e, h, q, r, z⟩ := h
  exact ⟨b, s, n, w, e, t _ _ h, q.tk t, r.tk t, z.tk t⟩
theorem NmAt.dp {v : V} {n : Nm} (h : NmAt K H v n) : Dp K H v (nmD n) := by
  obtain ⟨b, rfl, h⟩ := h
  exact .tup h (.cons (.int _) (.cons (.int _) .nil))
theorem VlAt.dp {v : V} : ∀ {x : Vl}, VlAt K H v x → Dp K H v (vlD x)
  | .non, h => by cases h; exact .non
  | .int _, h => by cases h; exact .int _
  | .txt _, h => by cases h; exact .str _
  | .ref n, h => by
    obtain ⟨b, x, rfl, h, q⟩ := h
    exact .tup h (.cons (.str _) (.cons q.dp .nil))
theorem ClAt.dp {v : V} {x : Cl} (h : ClAt K H v x) : Dp K H v (clD x) := by
  obtain ⟨b, s, w, rfl, h, q, r⟩ := h
  exact .tup h (.cons q.dp (.cons r.dp .nil))
theorem KyAt.dp {b : Addr} {k : Ky} (h : KyAt K H b k) : Dp K H (.ref b) (kyD k) := by
  obtain ⟨n, h, q⟩ := h
  exact .tup h (.cons q.dp (.cons (.str _) .nil))
theorem ChAt.dp {v : V} {g : Chg} (h : ChAt K H v g) : Dp K H v (chD g) := by
  obtain ⟨b, s, n, w, rfl, h, q, r, z⟩ := h
  exact .tup h (.cons q.dp (.cons r.dp (.cons (.str _) (.cons z.dp .nil))))
theorem nmK_depth (n : Nm) : (nmK n).depth ≤ 8 := show 1 ≤ 8 by decide
theorem kyK_depth (k : Ky) : (kyK k).depth ≤ 8 := show 2 ≤ 8 by decide
theorem NmAt.key {b : Addr} {n : Nm} (h : NmAt K H (.ref b) n) : KeyN K H b (nmK n) := ⟨h.dp, nmK_depth n⟩
theorem KyAt.key {b : Addr} {k : Ky} (h : KyAt K H b k) : KeyN K H b (kyK k) := ⟨h.dp, kyK_depth k⟩
theorem nm_of_dp {v : V} {n : Nm} (h : Dp K H v (nmD n)) : NmAt K H v n := by
  cases h with
  | tup h1 h2 =>
    cases h2 with
    | cons a r =>
      cases a
      cases r with
      | cons a r =>
        cases a
        cases r
        exact ⟨_, rfl, h1⟩
theorem ky_of_dp {b : Addr} {k : Ky} (h : Dp K H (.ref b) (kyD k)) : KyAt K H b k := by
  cases h with
  | tup h1 h2 =>
    cases h2 with
    | cons a r =>
      cases r with
      | cons c r =>
        cases c
        cases r
        exact ⟨_, h1, nm_of_dp a⟩
theorem nm_of_key {b : Addr} {n : Nm} (h : KeyN K H b (nmK n)) : NmAt K H (.ref b) n := nm_of_dp h.1
theorem ky_of_key {b : Addr} {k : Ky} (h : KeyN K H b (kyK k)) : KyAt K H b k := ky_of_dp h.1

/-! ### lists -/
theorem Paired.imp' {α β : Type} {R S : α → β → Prop} (h : ∀ a b, R a b → S a b) : ∀ {xs : List α} {ys : List β}, Paired R xs ys → Paired S xs ys
  | _, _, .nil => .nil
  | _, _, .cons a r => .cons (h _ _ a) (Paired.imp' h r)
theorem Paired.get' {α β : Type} {R : α → β → Prop} : ∀ {xs : List α} {ys : List β} {i : Nat} {x : α}, Paired R xs ys → xs[i]? = some x → ∃ y, ys[i]? = some y ∧ R x y
  | _, _, 0, _, .cons a r, e => ⟨_, rfl, by cases e; exact a⟩
  | _, _, i + 1, _, .cons a r, e => Paired.get' (i := i) r e
theorem Paired.getR' {α β : Type} {R : α → β → Prop} : ∀ {xs : List α} {ys : List β} {i : Nat} {y : β}, Paired R xs ys → ys[i]? = some y → ∃ x, xs[i]? = some x ∧ R x y
  | _, _, 0, _, .cons a r, e => ⟨_, rfl, by cases e; exact a⟩
  | _, _, i + 1, _, .cons a r, e => Paired.getR' (i := i) r e
theorem Paired.snoc' {α β : Type} {R : α → β → Prop} : ∀ {xs : List α} {ys : List β} {x : α} {y : β}, Paired R xs ys → R x y → Paired R (xs ++ [x]) (ys ++ [y])
  | _, _, _, _, .nil, h => .cons h .nil
  | _, _, _, _, .cons a r, h => .cons a (Paired.snoc' r h)
theorem Paired.len' {α β : Type} {R : α → β → Prop} : ∀ {xs : List α} {ys : List β}, Paired R xs ys → xs.length = ys.length
  | _, _, .nil => rfl
  | _, _, .cons a r => by rw [List.length_cons, List.length_cons, Paired.len' r]
theorem Paired.memL' {α β : Type} {R : α → β → Prop} : ∀ {xs : List α} {ys : List β} {x : α}, Paired R xs ys → x ∈ xs → ∃ y ∈ ys, R x y
  | _, _, _, .cons a r, h => by
    rcases List.mem_cons.mp h with q | q
    · exact ⟨_, List.mem_cons_self, q ▸ a⟩
    · obtain ⟨y, hy, z⟩ := Paired.memL' r q
      exact ⟨y, List.mem_cons_of_mem _ hy, z⟩
theorem Paired.mapL' {α β γ : Type} {R : γ → β → Prop} {f : α → γ} : ∀ {xs : List α} {ys : List β}, Paired (fun x y => R (f x) y) xs ys → Paired R (xs.map f) ys
  | _, _, .nil => .nil
  | _, _, .cons a r => .cons a (Paired.mapL' r)
theorem Paired.zip' {α β : Type} {R : α → β → Prop} : ∀ {xs : List α} {ys : List β}, Paired R xs ys → ∃ zs : List (α × β), xs = zs.map (·.1) ∧ ys = zs.map (·.2) ∧ ∀ z ∈ zs, R z.1 z.2
  | _, _, .nil => ⟨[], rfl, rfl, fun _ h => nomatch h⟩
  | x :: _, y :: _, .cons a r => by
    obtain ⟨zs, rfl, rfl, h⟩ := Paired.zip' r
    exact ⟨(x, y) :: zs, rfl, rfl, fun z hz => by
      rcases List.mem_cons.mp hz with q | q
      · rw [q]
        exact a
      · exact h z q⟩
theorem Paired.of_zip' {α β : Type} {R : α → β → Prop} : ∀ {zs : List (α × β)}, (∀ z ∈ zs, R z.1 z.2) → Paired R (zs.map (·.1)) (zs.map (·.2))
  | [], _ => .nil
  | z :: r, h => .cons (h z List.mem_cons_self) (Paired.of_zip' fun x hx => h x (List.mem_cons_of_mem _ hx))
theorem dpAll_of {R : V → α → Prop} {d : α → PyData} (h : ∀ v a, R v a → Dp K H v (d a)) : ∀ {vs : List V} {as : List α}, Paired R vs as → DpAll K H vs (as.map d)
  | _, _, .nil => .nil
  | _, _, .cons a r => .cons (h _ _ a) (dpAll_of h r)

/-! ### the table of cells in the heap -/
def CsR (K : Frag) (H : Hp) : NE → Cs → Prop := Paired fun x e => x.1 = kyK e.1 ∧ KyAt K H x.2.1 e.1 ∧ ClAt K H x.2.2 e.2
theorem CsR.tk (t : TK K H H') {xs : NE} {c : Cs} (h : CsR K H xs c) : CsR K H' xs c := Paired.imp' (fun _ _ q => ⟨q.1, q.2.1.tk t, q.2.2.tk t⟩) h
theorem CsR.keys {xs : NE} {c : Cs} (h : CsR K H xs c) : NKs K H xs := fun x hx => by
  obtain ⟨e, he, q1, q2, _⟩ := Paired.memL' h hx
  rw [q1]
  exact q2.key
theorem CsR.len {xs : NE} {c : Cs} (h : CsR K H xs c) : xs.length = c.length := Paired.len' h
theorem CsR.look {k : Ky} : ∀ {xs : NE} {c : Cs}, CsR K H xs c → (lookN xs (kyK k) = none ∧ lookC c k = none) ∨ ∃ v x, lookN xs (kyK k) = some v ∧ lookC c k = some x ∧ ClAt K H v x
  | _, _, .nil => .inl ⟨rfl, rfl⟩
  | x :: r, e :: s, .cons a t => by
    by_cases h : e.1 = k
    · exact .inr ⟨x.2.2, e.2, lookN_pos (by rw [a.1, h]), lookC_pos h, a.2.2⟩
    · have hx : ¬ x.1 = kyK k := fun z => h (kyK_inj (a.1.symm.trans z))
      rw [lookN_neg hx, lookC_neg h]
      exact CsR.look t
theorem CsR.rep {k : Ky} {v : V} {y : Cl} (hv : ClAt K H v y) : ∀ {xs : NE} {c : Cs}, CsR K H xs c → CsR K H (xs.map (repN (kyK k) v)) (c.map (repC k y))
  | _, _, .nil => .nil
  | x :: r, e :: s, .cons a t => by
    refine .cons ?_ (CsR.rep hv t)
    unfold repN repC
    by_cases h : e.1 = k
    · rw [if_pos h, if_pos (by rw [a.1, h])]
      exact ⟨a.1, a.2.1, hv⟩
    · have hx : ¬ x.1 = kyK k := fun z => h (kyK_inj (a.1.symm.trans z))
      rw [if_neg h, if_neg hx]
      exact a
theorem CsR.put {xs : NE} {c : Cs} {k : Ky} {b : Addr} {v : V} {y : Cl} (h : CsR K H xs c) (hb : KyAt K H b k) (hv : ClAt K H v y) : CsR K H (putN xs (kyK k) b v) (putC c k y) := by
  unfold putN putC
  rcases h.look (k := k) with ⟨e1, e2⟩ | ⟨v', x', e1, e2, _⟩
  · rw [e1, e2, if_neg (by simp), if_neg (by simp)]
    exact Paired.snoc' h ⟨rfl, hb, hv⟩
  · rw [e1, e2, if_pos (by simp), if_pos (by simp)]
    exact h.rep hv
theorem CsR.srt {xs : NE} {c : Cs} (h : CsR K H xs c) : CsR K H (srtN xs) (srtC c) := by
  obtain ⟨zs, rfl, rfl, hz⟩ := Paired.zip' h
  have e1 : srtN (zs.map (·.1)) = (zs.mergeSort (PySem.W.dataLe false fun z => kyD z.2.1)).map (·.1) := by
    unfold srtN
    refine (PySem.W.sort_maps (Prod.fst : (NestedKey × Addr × V) × (Ky × Cl) → _) fun a ha b hb => ?_).symm
    have qa : eK a.1 = kyD a.2.1 := by unfold eK; rw [(hz a ha).1]; rfl
    have qb : eK b.1 = kyD b.2.1 := by unfold eK; rw [(hz b hb).1]; rfl
    unfold PySem.W.dataLe PySem.W.sortLe
    simp only [qa, qb]
  have e2 : srtC (zs.map (·.2)) = (zs.mergeSort (PySem.W.dataLe false fun z => kyD z.2.1)).map (·.2) := by
    unfold srtC
    exact (PySem.W.sort_maps (Prod.snd : (NestedKey × Addr × V) × (Ky × Cl) → _) fun a ha b hb => rfl).symm
  rw [e1, e2]
  exact Paired.of_zip' fun z hz' => hz z ((List.mergeSort_perm _ _).mem_iff.mp hz')
theorem ky_alike (a b : Ky) : PySem.W.alike (kyD a) (kyD b) = true := rfl
theorem nm_alike (a b : Nm) : PySem.W.alike (nmD a) (nmD b) = true := rfl
theorem CsR.eks {xs : NE} {c : Cs} (h : CsR K H xs c) : xs.map eK = c.map fun e => kyD e.1 := by
  induction h with
  | nil => rfl
  | cons a r ih =>
    rw [List.map_cons, List.map_cons, ih]
    unfold eK
    rw [a.1]
    rfl
theorem CsR.allAlike {xs : NE} {c : Cs} (h : CsR K H xs c) : PySem.W.AllAlike (xs.map eK) := by
  rw [h.eks]
  intro d hd d' hd'
  obtain ⟨a, _, rfl⟩ := List.mem_map.mp hd
  obtain ⟨b, _, rfl⟩ := List.mem_map.mp hd'
  exact ky_alike _ _
theorem CsR.sortable {xs : NE} {c : Cs} (h : CsR K H xs c) : PySem.W.Sortable (xs.map eK) := by
  rw [h.eks]
  refine .inl fun d hd => ?_
  obtain ⟨a, _, rfl⟩ := List.mem_map.mp hd
  exact ⟨_, _, rfl⟩
end
end K40

namespace K40
open PySem PySem.Spec PyProof.Rows L2
open PySem.W (Frag)
def top (i : Nat) : Stmt := PySem.Challenge.pw_graphtwins_k40_deeds_of_a_replica.main.body.getD i (.Pass ⟨0, 0, 0, 0⟩)
abbrev sNsI : Stmt := inClass (top 3) 0
abbrev sTgt : Stmt := top 12
abbrev sReach : Stmt := top 15
abbrev sNumV : Stmt := top 16
abbrev sNum : Stmt := top 17
abbrev sLater : Stmt := top 19
abbrev sSI : Stmt := inClass (top 22) 0
abbrev sTake : Stmt := inClass (top 22) 1
abbrev sVal : Stmt := inClass (top 22) 2
abbrev sFlds : Stmt := inClass (top 22) 4
abbrev sNames : Stmt := inClass (top 22) 5
abbrev sRI : Stmt := inClass (top 38) 0
abbrev sKnows : Stmt := inClass (top 38) 1
abbrev sCheck : Stmt := inClass (top 38) 2
abbrev sBegin : Stmt := inClass (top 38) 3
abbrev sPut : Stmt := inClass (top 38) 4
abbrev sNote : Stmt := inClass (top 38) 5
abbrev sHold : Stmt := inClass (top 38) 6
abbrev sDrop : Stmt := inClass (top 38) 7
abbrev sGraph : Stmt := inClass (top 38) 15
abbrev lCell : Stmt := top 40
abbrev lRow : Stmt := top 41
abbrev lBox : Stmt := top 42
abbrev lDraw : Stmt := top 43
abbrev lSame : Stmt := top 44
abbrev lPick : Stmt := top 45
abbrev lTgt : Stmt := top 46
abbrev lWorth : Stmt := top 47
abbrev lFld : Stmt := top 48
abbrev lCells : Stmt := top 49
abbrev lReach : Stmt := top 50
abbrev lGraph : Stmt := top 51
abbrev lRef : Stmt := top 52
abbrev lHeld : Stmt := top 53
abbrev sLaw : Stmt := top 54
/-- what the top has made: the classes, the constants, the built-ins that stand under their own names -/
structure Txt (K : Frag) (mg : Str → Option Value) (CS CR : Addr) : Prop where
  clS : Cls K CS
  nCells : NoAttr K CS "cells"
  mgS : mg "State" = some (.ref CS)
  clR : Cls K CR
  nPeer : NoAttr K CR "peer"
  nClock : NoAttr K CR "clock"
  nMade : NoAttr K CR "made"
  nState : NoAttr K CR "state"
  nRoots : NoAttr K CR "roots"
  nPending : NoAttr K CR "pending"
  nMessages : NoAttr K CR "messages"
  mgR : mg "Replica" = some (.ref CR)
  isinstance : mg "isinstance" = none
  tuple : mg "tuple" = none
  len : mg "len" = none
  sorted : mg "sorted" = none
  set : mg "set" = none
  list : mg "list" = none
  int : mg "int" = none
  range : mg "range" = none
  repr : mg "repr" = none
  enumerate : mg "enumerate" = none
  ref : ∃ t, mg "REF" = some (.str "ref" t)
  peers : ∃ t, mg "PEERS" = some (.int 8 t)
  root : ∃ ra, mg "ROOT" = some (.ref ra) ∧ ∀ H, SqT K H ra [.int 0, .int 0]
/-- a State at sa, its table at d -/
structure StAt (P : Program) (w : World) (K : Frag) (CS : Addr) (H : Hp) (sa d : Addr) (xs : NE) (c : Cs) : Prop where
  ob : ∃ dx, H sa = some (.ins CS dx [("cells", .ref d)])
  dc : H d = some (NO P w d xs)
  cs : CsR K H xs c
section
variable {P : Program} {w : World} {K : Frag} {CS : Addr} {H H' : Hp}
theorem StAt.ch {sa d : Addr} {xs : NE} {c : Cs} (S : StAt P w K CS H sa d xs c) (k : Ch [] H H') : StAt P w K CS H' sa d xs c := by
  obtain ⟨dx, h⟩ := S.ob
  exact ⟨⟨dx, k _ _ (by simp) h⟩, k _ _ (by simp) S.dc, S.cs.tk k.tk0⟩
theorem StAt.get {sa d : Addr} {xs : NE} {c : Cs} (S : StAt P w K CS H sa d xs c) {b : Addr} {k : Ky} (hb : KyAt K H b k) : NGet K P w H d (.ref b) (lookN xs (kyK k)) :=
  ⟨xs, kyK k, b, .inl S.dc, S.cs.keys, rfl, hb.key, rfl⟩
theorem KyAt.new {p : Addr} {nv : V} {n : Nm} {f : Str} (h : NmAt K H nv n) (hp : H p = none) : KyAt K (upd H p (.tup [nv, .str f])) p (n, f) :=
  ⟨nv, .of upd_same, h.tk (TK.new hp)⟩
theorem Ch.unlock {d : Addr} {u : HO} {od : Obj} {M : List Addr} (h : H d = some u) (k : Ch M (L2.upd H d (.frz od u)) H') : Ch M H (L2.upd H' d u) := fun b o hb e => by
  by_cases z : b = d
  · subst z
    rw [h] at e
    cases e
    exact upd_same
  · rw [upd_ne z]
    exact k b o hb (by rw [upd_ne z]; exact e)
end
theorem small100 {n : Nat} (h : n ≤ 100) : n ≤ sizeLine := Nat.le_of_lt (small1000 (by omega))
end K40

namespace K40
open PySem PySem.Spec PyProof.Rows L2
open PySem.W (Frag)
/-- what a value aims at -/
def TgV (K : Frag) (H : Hp) (w : V) (x : Vl) : Prop := match tgt x with
  | some t => NmAt K H w t
  | none => w = .non
def spTgt (K : Frag) : Sp := fun vs H Q _ => ∃ v x, vs = [v] ∧ VlAt K H v x ∧ ∀ w, TgV K H w x → Q w H
def spLater (K : Frag) : Sp := fun vs H Q _ => ∃ s o a b, vs = [s, o] ∧ NmAt K H s a ∧ NmAt K H o b ∧ Q (.bl (later b a)) H
def spSI (P : Program) (w : World) (CS : Addr) : Sp := fun vs H Q _ => ∃ a dx, vs = [.ref a] ∧ H a = some (.ins CS dx []) ∧ ∀ d, H d = none → Q .non (upd (upd H d (NO P w d [])) a (.ins CS dx [("cells", .ref d)]))
def spVal (P : Program) (w : World) (K : Frag) (CS : Addr) : Sp := fun vs H Q _ => ∃ sa d xs c nv n f, vs = [.ref sa, nv, .str f] ∧ StAt P w K CS H sa d xs c ∧ NmAt K H nv n ∧
  ∀ H' v, Ch [] H H' → VlAt K H' v (match lookC c (n, f) with | some x => x.2 | none => .non) → Q v H'
def spTake (P : Program) (w : World) (K : Frag) (CS : Addr) : Sp := fun vs H Q _ => ∃ sa d xs c v g, vs = [.ref sa, v] ∧ StAt P w K CS H sa d xs c ∧ ChAt K H v g ∧ c.length ≤ 100 ∧
  ∀ H' r xs', Ch [d] H H' → StAt P w K CS H' sa d xs' (takeC c g) → Q r H'
theorem lk_cells (d : Addr) : List.lookup ("cells" : Str) [(("cells" : Str), V.ref d)] = some (.ref d) := rfl
section
variable {P : Program} {w : World} {K : Frag} {mg : Str → Option Value} {base : Heap} {CS CR : Addr}
theorem isTup_vl (x : Vl) : isTupD (vlD x) = (tgt x).isSome := by cases x <;> rfl
theorem plain_vl (x : Vl) : (vlD x).plain = true := by cases x <;> rfl
theorem noList_vl (x : Vl) : ∀ l, vlD x ≠ .list l := by cases x <;> (intro l z; cases z)
theorem scTgt : FnScope ["value"] ["value"] (defScope sTgt) := ⟨rfl, rfl, rfl, by decide +kernel, rfl, by decide +kernel, by decide +kernel⟩
theorem tgt_read {H : Hp} {v : V} {x : Vl} (hv : VlAt K H v x) (Q : VK) (k : ∀ w, TgV K H w x → Q w H) :
    ∃ x' d, [v, V.ty "tuple"] = [x', .ty "tuple"] ∧ Dp K H x' d ∧ d.plain = true ∧ (∀ l, d ≠ .list l) ∧ ∃ c, V.bl (isTupD d) = .bl c ∧
      if c = true then tRet (tOp (rIxT K) (tVar 0) (tC (.int 1))) { nx := fun _ H' => Q .non H', rt := Q } [some v] H else tRet (tC .non) { nx := fun _ H' => Q .non H', rt := Q } [some v] H := by
  refine ⟨v, vlD x, rfl, hv.dp, plain_vl x, noList_vl x, _, rfl, ?_⟩
  rw [isTup_vl]
  cases x with
  | ref n =>
    refine iteT ?_
    obtain ⟨b, y, rfl, hs, hn⟩ := hv
    exact ⟨_, rfl, b, _, _, y, rfl, rfl, hs, rfl, k _ hn⟩
  | non => exact iteF (k _ rfl)
  | int i => exact iteF (k _ rfl)
  | txt s => exact iteF (k _ rfl)
theorem ok_tgt {f : Addr} {fd : FuncData} (F : Fun K "target_of" "target_of" sTgt f fd) (T : Txt K mg CS CR) : FnOk P w K mg base CX0 1 f fd ["value"] (spTgt K) := by
  refine F.ok scTgt (fun vs H Q E h => ?_) (fun cdv A outer s H vs Q E hr h => ?_)
  · obtain ⟨v, x, rfl, _⟩ := h
    rfl
  · obtain ⟨v, x, rfl, hv, k⟩ := h
    refine ⟨_, pss_cons (ps_if (pt_val (pe_callB call_isTup (by rfl) T.isinstance (by decide +kernel) (pa_cons (pv 0) (pa_cons (pe_bltn (v := .ty "tuple") (by rfl) T.tuple (by decide +kernel) rfl) pa_nil))))
      (pss_one (ps_ret (pe_ix ix_tup (pv 0) pe_int (fun _ _ => rfl)))) pss_nil) (pss_one (ps_ret pe_non)), ?_⟩
    exact ⟨_, rfl, tgt_read hv Q k⟩
theorem scTgtL : FnScope ["_law_value"] ["_law_value"] (defScope lTgt) := ⟨rfl, rfl, rfl, by decide +kernel, rfl, by decide +kernel, by decide +kernel⟩
theorem ok_tgtL {f : Addr} {fd : FuncData} (F : Fun K "_law_target" "_law_target" lTgt f fd) (T : Txt K mg CS CR) : FnOk P w K mg base CX0 1 f fd ["_law_value"] (spTgt K) := by
  refine F.ok scTgtL (fun vs H Q E h => ?_) (fun cdv A outer s H vs Q E hr h => ?_)
  · obtain ⟨v, x, rfl, _⟩ := h
    rfl
  · obtain ⟨v, x, rfl, hv, k⟩ := h
    refine ⟨_, pss_cons (ps_if (pt_val (pe_callB call_isTup (by rfl) T.isinstance (by decide +kernel) (pa_cons (pv 0) (pa_cons (pe_bltn (v := .ty "tuple") (by rfl) T.tuple (by decide +kernel) rfl) pa_nil))))
      (pss_one (ps_ret (pe_ix ix_tup (pv 0) pe_int (fun _ _ => rfl)))) pss_nil) (pss_one (ps_ret pe_non)), ?_⟩
    exact ⟨_, rfl, tgt_read hv Q k⟩
theorem scLater : FnScope ["stamp", "other"] ["stamp", "other"] (defScope sLater) := ⟨rfl, rfl, rfl, by decide +kernel, rfl, by decide +kernel, by decide +kernel⟩
theorem ok_later {f : Addr} {fd : FuncData} (F : Fun K "is_later" "is_later" sLater f fd) : FnOk P w K mg base CX0 1 f fd ["stamp", "other"] (spLater K) := by
  refine F.ok scLater (fun vs H Q E h => ?_) (fun cdv A outer s H vs Q E hr h => ?_)
  · obtain ⟨s, o, a, b, rfl, _⟩ := h
    rfl
  · obtain ⟨s, o, a, b, rfl, ha, hb, k⟩ := h
    refine ⟨_, pss_one (ps_ret (pe_or (pe_cmp (pc_isN (pv 1)) rfl) (pe_one (pe_cmpR (op_gtD hr) (pv 0) (pv 1) (nomark _))))), ?_⟩
    refine ⟨_, rfl, _, rfl, ?_⟩
    have hne : ¬ o = .non := by
      obtain ⟨q, rfl, _⟩ := hb
      intro z
      cases z
    rw [decide_eq_false hne]
    refine iteF ?_
    exact ⟨_, rfl, _, rfl, nmD a, nmD b, ha.dp, hb.dp, nm_alike _ _, (by intro z; cases z), (show 1 ≤ 20 by decide), k⟩
theorem scSI : FnScope ["self"] ["self"] (defScope sSI) := ⟨rfl, rfl, rfl, by decide +kernel, rfl, by decide +kernel, by decide +kernel⟩
theorem ok_SI {f : Addr} {fd : FuncData} (F : Fun K "__init__" "State.__init__" sSI f fd) (T : Txt K mg CS CR) : FnOk P w K mg base CX0 1 f fd ["self"] (spSI P w CS) := by
  refine F.ok scSI (fun vs H Q E h => ?_) (fun cdv A outer s H vs Q E hr h => ?_)
  · obtain ⟨p, dx, rfl, _⟩ := h
    rfl
  · obtain ⟨p, dx, rfl, hp, k⟩ := h
    refine ⟨_, pss_one (ps_fld (pv 0) pe_nnew rfl), ?_⟩
    intro d hd
    exact ⟨_, rfl, p, CS, dx, [], rfl, (by rw [upd_ne (ne_of_none hp hd)]; exact hp), T.clS, T.nCells, (by show 0 < 1000; decide), k d hd⟩
theorem scVal : FnScope ["self", "name", "field", "cell"] ["self", "name", "field"] (defScope sVal) := ⟨rfl, rfl, rfl, by decide +kernel, rfl, by decide +kernel, by decide +kernel⟩
theorem ok_val {f : Addr} {fd : FuncData} (F : Fun K "value" "State.value" sVal f fd) (T : Txt K mg CS CR) : FnOk P w K mg base CX0 1 f fd ["self", "name", "field"] (spVal P w K CS) := by
  refine F.ok scVal (fun vs H Q E h => ?_) (fun cdv A outer s H vs Q E hr h => ?_)
  · obtain ⟨sa, d, xs, c, nv, n, fl, rfl, _⟩ := h
    rfl
  · obtain ⟨sa, d, xs, c, nv, n, fl, rfl, S, hn, k⟩ := h
    obtain ⟨dx, ho⟩ := S.ob
    refine ⟨_, pss_cons (ps_set (i := 3) scVal.nd rfl (Or.inl rfl) (pe_nget1 hr (pe_fld (pv 0) rfl) (pe_tup (pa_cons (pv 1) (pa_cons (pv 2) pa_nil)))))
      (pss_cons (ps_if (pt_cmp (pc_isN (pv 3)) rfl) (pss_one (ps_ret pe_non)) pss_nil)
      (pss_one (ps_ret (pe_ix ix_tup (pv 3) pe_int (fun _ _ => rfl))))), ?_⟩
    refine ⟨_, rfl, sa, CS, dx, _, _, rfl, ho, T.clS, T.nCells, lk_cells d, d, xs, rfl, .inl S.dc, _, rfl, _, rfl, (by show 2 ≤ sizeLine; decide), fun p hp => ?_⟩
    have kp : Ch [] H (upd H p (.tup [nv, .str fl])) := Ch.new hp
    refine ⟨_, (S.ch kp).get (KyAt.new hn hp), _, rfl, _, rfl, ?_⟩
    have k' := fun v => k _ v kp
    rcases (S.ch kp).cs.look (k := (n, fl)) with ⟨e1, e2⟩ | ⟨v', x', e1, e2, hx⟩
    · rw [e1]
      rw [e2] at k'
      refine iteT (k' _ rfl)
    · rw [e1]
      rw [e2] at k'
      obtain ⟨b, s1, w1, rfl, hs, _, hw⟩ := hx
      refine iteF ?_
      exact ⟨_, rfl, b, _, _, w1, rfl, rfl, hs, rfl, k' _ hw⟩
theorem scTake : FnScope ["self", "change", "stamp", "name", "field", "value", "old"] ["self", "change"] (defScope sTake) := ⟨rfl, rfl, rfl, by decide +kernel, rfl, by decide +kernel, by decide +kernel⟩
theorem ok_take {f fL : Addr} {fd fdL : FuncData} (F : Fun K "take" "State.take" sTake f fd) (T : Txt K mg CS CR) (FL : FnOk P w K mg base CX0 1 fL fdL ["stamp", "other"] (spLater K)) (bL : Binds K fdL ["stamp", "other"] []) (gL : mg "is_later" = some (.ref fL)) (kL : PySem.W.keepIn K (.ref fL) = true) :
    FnOk P w K mg base CX0 2 f fd ["self", "change"] (spTake P w K CS) := by
  refine F.ok scTake (fun vs H Q E h => ?_) (fun cdv A outer s H vs Q E hr h => ?_)
  · obtain ⟨sa, d, xs, c, v, g, rfl, _⟩ := h
    rfl
  · obtain ⟨sa, d, xs, c, v, g, rfl, S, hv, hl, k⟩ := h
    obtain ⟨dx, ho⟩ := S.ob
    obtain ⟨b, st, nm, vl, rfl, hb, h1, h2, h3⟩ := hv
    refine ⟨_, pss_cons (ps_asg (pv 1) (pg_tup rfl (pgs_cons (pg_name (i := 2) scTake.nd rfl (Or.inl rfl)) (pgs_cons (pg_name (i := 3) scTake.nd rfl (Or.inl rfl)) (pgs_cons (pg_name (i := 4) scTake.nd rfl (Or.inl rfl)) (pgs_cons (pg_name (i := 5) scTake.nd rfl (Or.inl rfl)) pgs_nil))))))
      (pss_cons (ps_set (i := 6) scTake.nd rfl (Or.inl rfl) (pe_nget1 hr (pe_fld (pv 0) rfl) (pe_tup (pa_cons (pv 3) (pa_cons (pv 4) pa_nil)))))
      (pss_cons (ps_if (PW.pt (pw_and (pt_cmp (pc_notN (pv 6)) rfl) (pw_and1 (pt_not (pt_val (pe_call FL hr rfl gL kL bL .nil pass0 (pa_cons (pv 2) (pa_cons (pe_ix ix_tup (pv 6) pe_int (fun _ _ => rfl)) pa_nil))))))))
        (pss_one (ps_ret pe_bl)) pss_nil)
      (pss_cons (ps_nput hr (pe_fld (pv 0) rfl) (pe_tup (pa_cons (pv 3) (pa_cons (pv 4) pa_nil))) (pe_tup (pa_cons (pv 2) (pa_cons (pv 5) pa_nil))))
      (pss_one (ps_ret pe_bl))))), ?_⟩
    refine ⟨_, rfl, b, _, rfl, hb, rfl, _, _, rfl, _, _, rfl, _, _, rfl, _, _, rfl, rfl, ?_⟩
    refine ⟨_, rfl, sa, CS, dx, _, _, rfl, ho, T.clS, T.nCells, lk_cells d, d, xs, rfl, .inl S.dc, _, rfl, _, rfl, (by show 2 ≤ sizeLine; decide), fun p hp => ?_⟩
    have kp : Ch [] H (upd H p (.tup [nm, .str g.fd])) := Ch.new hp
    have S1 := S.ch kp
    obtain ⟨dx1, ho1⟩ := S1.ob
    refine ⟨_, S1.get (KyAt.new h2 hp), ?_⟩
    -- what follows where it is stored
    have put : ∀ (o : V), takeC c g = putC c (g.nm, g.fd) (g.st, g.vl) → tSeq (sNPut K P w (tFld K (tVar 0) "cells") (tTup (tCons (tVar 3) (tCons (tVar 4) tNil))) (tTup (tCons (tVar 2) (tCons (tVar 5) tNil)))) (tRet (tC (.bl true))) { nx := fun _ H' => Q .non H', rt := Q }
        [some (.ref sa), some (.ref b), some st, some nm, some (.str g.fd), some vl, some o] (upd H p (.tup [nm, .str g.fd])) := by
      intro o ep
      refine ⟨_, rfl, _, rfl, (by show 2 ≤ sizeLine; decide), fun p2 hp2 => ?_⟩
      have k2 : Ch [] (upd H p (.tup [nm, .str g.fd])) _ := Ch.new (o := .tup [st, vl]) hp2
      obtain ⟨dx2, ho2⟩ := (S1.ch k2).ob
      refine ⟨_, rfl, sa, CS, dx2, _, _, rfl, ho2, T.clS, T.nCells, lk_cells d, _, rfl, _, rfl, (by show 2 ≤ sizeLine; decide), fun p3 hp3 => ?_⟩
      have k3 : Ch [] _ _ := Ch.new (M := []) (o := .tup [nm, .str g.fd]) hp3
      have S3 := (S1.ch k2).ch k3
      have kk : Ch [] H _ := (kp.trans k2).trans k3
      have hk : KyAt K _ p3 (g.nm, g.fd) := KyAt.new ((h2.tk kp.tk0).tk k2.tk0) hp3
      have hc : ClAt K (upd (upd (upd H p (.tup [nm, .str g.fd])) p2 (.tup [st, vl])) p3 (.tup [nm, .str g.fd])) (.ref p2) (g.st, g.vl) :=
        ⟨p2, st, vl, rfl, k3.tk0 _ _ (.of upd_same), h1.tk kk.tk0, h3.tk kk.tk0⟩
      refine ⟨d, _, rfl, ⟨xs, kyK (g.nm, g.fd), p3, S3.dc, S3.cs.keys, rfl, hk.key, ?_, rfl⟩, ?_⟩
      · rw [S3.cs.len]
        exact small1000 (by omega)
      have t4 : TK K (upd (upd (upd H p (.tup [nm, .str g.fd])) p2 (.tup [st, vl])) p3 (.tup [nm, .str g.fd])) _ := TK.upd (o := NO P w d (putN xs (kyK (g.nm, g.fd)) p3 (.ref p2))) (NoTup.no S3.dc)
      refine k _ _ _ (kk.any.then_upd (by simp)) ⟨?_, upd_same, ?_⟩
      · obtain ⟨dx4, ho4⟩ := S3.ob
        exact ⟨dx4, by rw [upd_ne (ne_of ho4 S3.dc (by intro z; cases z))]; exact ho4⟩
      · rw [ep]
        exact (S3.cs.put hk hc).tk t4
    rcases S1.cs.look (k := (g.nm, g.fd)) with ⟨e1, e2⟩ | ⟨v', x', e1, e2, hx⟩
    · rw [e1]
      refine ⟨_, rfl, _, rfl, ?_⟩
      refine iteF (iteF ?_)
      exact put .non (by unfold takeC; rw [e2])
    · rw [e1]
      obtain ⟨b', s1, w1, rfl, hs, h1', hw⟩ := hx
      refine ⟨_, rfl, _, rfl, ?_⟩
      refine iteT ?_
      refine ⟨_, rfl, _, rfl, b', _, _, s1, rfl, rfl, hs, rfl, _, _, _, _, rfl, h1.tk kp.tk0, h1', _, rfl, ?_⟩
      cases el : later x'.1 g.st with
      | false =>
        refine iteT ?_
        refine k _ _ xs kp.any ?_
        have : takeC c g = c := by
          unfold takeC
          rw [e2]
          show (if later x'.1 g.st = true then _ else c) = c
          rw [el]
          rfl
        rw [this]
        exact S1
      | true =>
        refine iteF ?_
        refine put _ ?_
        unfold takeC
        rw [e2]
        show (if later x'.1 g.st = true then _ else c) = _
        rw [el]
        rfl
end
end K40

namespace K40
open PySem PySem.Spec PyProof.Rows L2
open PySem.W (Frag)
/-! ### loops over any walked thing of n turns -/
theorem for_it {J : It} {n : Nat} {g : TG} {tb : TS} {D : Ends} {σ : L2.St} {H : Hp} (Pv : Nat → L2.St → Hp → Prop) (h0 : Pv 0 σ H) (hgo : ∀ i σ H, i < n → Pv i σ H → J.go i H) (hst : ∀ σ H, Pv n σ H → J.stop n H)
    (hs : ∀ i x σ H H', i < n → Pv i σ H → J.yld i H x H' → g x σ H' fun σ2 H2 => tb { D with nx := Pv (i + 1), ct := Pv (i + 1), bk := D.nx } σ2 H2) (hd : ∀ σ H, Pv n σ H → D.nx σ H) :
    ∃ W : Nat → Nat → L2.St → Hp → Prop, (∃ m, W 0 m σ H) ∧ ∀ i m σ H, W i m σ H →
      (J.stop i H ∧ D.nx σ H) ∨ (J.go i H ∧ ∃ N : L2.St → Hp → Prop, (∀ σ' H', N σ' H' → ∃ m', m' < m ∧ W (i + 1) m' σ' H') ∧ ∀ x H', J.yld i H x H' → g x σ H' fun σ2 H2 => tb { D with nx := N, ct := N, bk := D.nx } σ2 H2) := by
  refine ⟨fun i m σ H => m = n - i ∧ i ≤ n ∧ Pv i σ H, ⟨n, by simp, Nat.zero_le _, h0⟩, ?_⟩
  rintro i m σ H ⟨rfl, hi, p⟩
  by_cases hlt : i < n
  · exact .inr ⟨hgo i σ H hlt p, Pv (i + 1), fun σ' H' p' => ⟨n - (i + 1), by omega, rfl, hlt, p'⟩, fun x H' y => hs i x σ H H' hlt p y⟩
  · have e : i = n := by omega
    subst e
    exact .inl ⟨hst σ H p, hd σ H p⟩
theorem lc_it {J : It} {n : Nat} {g : TG} {tt : TT} {te : TE} {vs : List Nat} {σ : L2.St} {H1 : Hp} {D : Addr} {Qd : Hp → Prop} (Pv : Nat → Hp → Prop) (h0 : Pv 0 (upd H1 D (.lst []))) (hgo : ∀ i H, i < n → Pv i H → J.go i H) (hst : ∀ H, Pv n H → J.stop n H)
    (hs : ∀ i x H H', i < n → Pv i H → J.yld i H x H' → g x (wipe σ vs) H' fun σ2 H2 => wipe σ2 vs = wipe σ vs ∧ tt σ2 H2 fun b H3 =>
      if b = true then te σ2 H3 fun y H4 => ∃ acc, H4 D = some (.lst acc) ∧ acc.length < sizeLine ∧ Pv (i + 1) (upd H4 D (.lst (acc ++ [y]))) else Pv (i + 1) H3) (hd : ∀ H, Pv n H → Qd H) :
    ∃ W : Nat → Nat → Hp → Prop, (∃ m, W 0 m (upd H1 D (.lst []))) ∧ ∀ i m H, W i m H →
      (J.stop i H ∧ Qd H) ∨ (J.go i H ∧ ∃ Nx : Hp → Prop, (∀ H', Nx H' → ∃ m', m' < m ∧ W (i + 1) m' H') ∧ ∀ x H', J.yld i H x H' → g x (wipe σ vs) H' fun σ2 H2 => wipe σ2 vs = wipe σ vs ∧ tt σ2 H2 fun b H3 =>
        if b = true then te σ2 H3 fun y H4 => ∃ acc, H4 D = some (.lst acc) ∧ acc.length < sizeLine ∧ Nx (upd H4 D (.lst (acc ++ [y]))) else Nx H3) := by
  refine ⟨fun i m H => m = n - i ∧ i ≤ n ∧ Pv i H, ⟨n, by simp, Nat.zero_le _, h0⟩, ?_⟩
  rintro i m H ⟨rfl, hi, p⟩
  by_cases hlt : i < n
  · exact .inr ⟨hgo i H hlt p, Pv (i + 1), fun H' p' => ⟨n - (i + 1), by omega, rfl, hlt, p'⟩, fun x H' y => hs i x H H' hlt p y⟩
  · have e : i = n := by omega
    subst e
    exact .inl ⟨hst H p, hd H p⟩

/-! ### data that are equal -/
theorem eqv_nm (a b : Nm) : PyData.eqv (nmD a) (nmD b) = decide (a = b) := by
  obtain ⟨a1, a2⟩ := a
  obtain ⟨b1, b2⟩ := b
  simp only [nmD, PyData.eqv, PyData.eqvAll, Bool.and_true]
  rw [Bool.eq_iff_iff]
  simp only [Bool.and_eq_true, beq_iff_eq, decide_eq_true_eq, Prod.mk.injEq]
theorem shaped_nm (a : Nm) : SeqAt.shaped (nmD a) = true := rfl
theorem canLay_nms (ns : List Nm) : PyData.canLayAll0 (ns.map nmD) = true := by
  induction ns with
  | nil => rfl
  | cons a r ih =>
    rw [List.map_cons, PyData.canLayAll0, ih]
    rfl
theorem depth_nms (ns : List Nm) : PyData.depthAll (ns.map nmD) ≤ 1 := by
  induction ns with
  | nil => exact Nat.zero_le _
  | cons a r ih =>
    rw [List.map_cons, PyData.depthAll]
    have : (nmD a).depth = 1 := rfl
    omega
theorem shaped_nms (ns : List Nm) : SeqAt.shaped (.list (ns.map nmD)) = true := by
  unfold SeqAt.shaped
  rw [PyData.canLay0, canLay_nms, PyData.depth]
  have := depth_nms ns
  simp only [Bool.true_and, decide_eq_true_eq]
  omega
theorem any_nms (ns : List Nm) (n : Nm) : ((ns.map nmD).any fun z => PyData.eqv z (nmD n)) = decide (n ∈ ns) := by
  induction ns with
  | nil => rfl
  | cons a r ih =>
    rw [List.map_cons, List.any_cons, ih, eqv_nm, Bool.eq_iff_iff]
    simp only [Bool.or_eq_true, decide_eq_true_eq, List.mem_cons]
    constructor
    · rintro (h | h)
      · exact .inl h.symm
      · exact .inr h
    · rintro (h | h)
      · exact .inl h.symm
      · exact .inr h
section
variable {K : Frag} {H H' : Hp}
/-- names in the heap -/
abbrev NmsR (K : Frag) (H : Hp) : List V → List Nm → Prop := Paired (NmAt K H)
theorem NmsR.tk (t : TK K H H') {vs : List V} {ns : List Nm} (h : NmsR K H vs ns) : NmsR K H' vs ns := Paired.imp' (fun _ _ q => q.tk t) h
theorem NmsR.dp {vs : List V} {ns : List Nm} (h : NmsR K H vs ns) : DpAll K H vs (ns.map nmD) := dpAll_of (fun _ _ q => q.dp) h
/-- fields in the heap -/
def FlR (K : Frag) (H : Hp) : List (Key × V) → List (Str × Vl) → Prop := Paired fun kv f => kv.1 = Sum.inr f.1 ∧ VlAt K H kv.2 f.2
theorem FlR.tk (t : TK K H H') {kvs : List (Key × V)} {fs : List (Str × Vl)} (h : FlR K H kvs fs) : FlR K H' kvs fs := Paired.imp' (fun _ _ q => ⟨q.1, q.2.tk t⟩) h
theorem FlR.none {f : Str} : ∀ {kvs : List (Key × V)} {fs : List (Str × Vl)}, FlR K H kvs fs → f ∉ fs.map (·.1) → valV kvs (Sum.inr f : Key) = Option.none
  | _, _, .nil, _ => rfl
  | kv :: r, g :: s, .cons a t, h => by
    rw [List.map_cons, List.mem_cons, not_or] at h
    have ne : ¬ kv.1 = (Sum.inr f : Key) := fun z => by
      rw [a.1] at z
      cases z
      exact h.1 rfl
    have ih := FlR.none t h.2
    unfold valV at ih ⊢
    rw [List.find?_cons, decide_eq_false ne]
    exact ih
theorem FlR.some {g : Str × Vl} : ∀ {kvs : List (Key × V)} {fs : List (Str × Vl)}, FlR K H kvs fs → (fs.map (·.1)).Nodup → g ∈ fs → ∃ v, valV kvs (Sum.inr g.1 : Key) = Option.some v ∧ VlAt K H v g.2
  | [], _, .nil, _, h => nomatch h
  | kv :: r, f :: s, .cons a t, nd, h => by
    rw [List.map_cons, List.nodup_cons] at nd
    by_cases q : f = g
    · subst q
      refine ⟨kv.2, ?_, a.2⟩
      unfold valV
      rw [List.find?_cons, decide_eq_true a.1]
      rfl
    · have hg : g ∈ s := by
        rcases List.mem_cons.mp h with z | z
        · exact absurd z.symm q
        · exact z
      have ne : ¬ kv.1 = (Sum.inr g.1 : Key) := fun z => by
        rw [a.1] at z
        have z' := Sum.inr.inj z
        exact nd.1 (z' ▸ List.mem_map_of_mem hg)
      obtain ⟨v, e, hv⟩ := FlR.some t nd.2 hg
      refine ⟨v, ?_, hv⟩
      unfold valV at e ⊢
      rw [List.find?_cons, decide_eq_false ne]
      exact e
end
/-- what the cells name -/
def mention (c : Cs) : List Nm := c.map (·.1.1) ++ c.filterMap fun e => tgt e.2.2
end K40

namespace K40
open PySem PySem.Spec PyProof.Rows L2
open PySem.W (Frag)
def spFlds (P : Program) (w : World) (K : Frag) (CS : Addr) : Sp := fun vs H Q _ => ∃ sa d xs c nv n, vs = [.ref sa, nv] ∧ StAt P w K CS H sa d xs c ∧ NmAt K H nv n ∧ (c.map (·.1)).Nodup ∧ c.length ≤ 100 ∧
  ∀ H' p kvs, Ch [] H H' → H p = none → H' p = some (.dK kvs) → FlR K H' kvs (flds c n) → Q (.ref p) H'
theorem take_more {α : Type} {l : List α} {i : Nat} {x : α} (h : l[i]? = some x) : l.take (i + 1) = l.take i ++ [x] := by
  rw [List.take_succ, h]
  rfl
theorem flds_new {s : Cs} {n : Nm} {i : Nat} {e : Ky × Cl} {f : Str × Vl} (nd : (s.map (·.1)).Nodup) (he : s[i]? = some e) (hf : fldOf n e = some f) : f.1 ∉ (fldsL (s.take i) n).map (·.1) := by
  have h1 : ((fldsL (s.take (i + 1)) n).map (·.1)).Nodup := by
    refine fldsL_nodup (List.Nodup.sublist ?_ nd)
    exact (List.take_sublist _ _).map _
  rw [take_more he, fldsL_snoc, hf, List.map_append, List.nodup_append] at h1
  intro z
  exact h1.2.2 f.1 z f.1 (by simp) rfl
section
variable {P : Program} {w : World} {K : Frag} {mg : Str → Option Value} {base : Heap} {CS CR : Addr}
theorem scFlds : FnScope ["self", "name", "found", "other", "field", "value"] ["self", "name"] (defScope sFlds) := ⟨rfl, rfl, rfl, by decide +kernel, rfl, by decide +kernel, by decide +kernel⟩
theorem ok_flds {f fV : Addr} {fd fdV : FuncData} (F : Fun K "fields" "State.fields" sFlds f fd) (T : Txt K mg CS CR) (FV : FnOk P w K mg base CX0 1 fV fdV ["self", "name", "field"] (spVal P w K CS)) (bV : Binds K fdV ["self", "name", "field"] []) (mV : Meth K CS "value" fV) :
    FnOk P w K mg base CX0 2 f fd ["self", "name"] (spFlds P w K CS) := by
  refine F.ok scFlds (fun vs H Q E h => ?_) (fun cdv A outer s H vs Q E hr h => ?_)
  · obtain ⟨sa, d, xs, c, nv, n, rfl, _⟩ := h
    rfl
  · obtain ⟨sa, d, xs, c, nv, n, rfl, S, hn, nd, hl, k⟩ := h
    obtain ⟨dx, ho⟩ := S.ob
    have hu := hu_of hr
    refine ⟨_, pss_cons (ps_set (i := 2) scFlds.nd rfl (Or.inl rfl) pe_dnewK)
      (pss_cons (ps_for PassesOwn.never rfl (pi_list (pe_callB (call_sortedN hr rfl) (by rfl) T.sorted (by decide +kernel) (pa_cons (pe_fld (pv 0) rfl) pa_nil))) (pg_tup rfl (pgs_cons (pg_name (i := 3) scFlds.nd rfl (Or.inl rfl)) (pgs_cons (pg_name (i := 4) scFlds.nd rfl (Or.inl rfl)) pgs_nil)))
        (pss_cons (ps_set (i := 5) scFlds.nd rfl (Or.inl rfl) (pe_meth (pv 0) T.clS mV FV hr bV .nil pass0 (pa_cons (pv 3) (pa_cons (pv 4) pa_nil))))
        (pss_one (ps_if (PW.pt (pw_and (pt_cmpR (op_eqD hr.units) (pv 3) (pv 1) (nomark _)) (pw_and1 (pt_cmp (pc_notN (pv 5)) rfl)))) (pss_one (ps_dput hu (pv 2) (pv 4) (pv 5) rfl)) pss_nil))))
      (pss_one (ps_ret (pv 2)))), ?_⟩
    intro d0 hd0
    have k0 : Ch [] H (upd H d0 (.dK [])) := Ch.new hd0
    have S0 := S.ch k0
    refine ⟨_, rfl, sa, CS, dx, _, _, rfl, k0 _ _ (by simp) ho, T.clS, T.nCells, lk_cells d, ?_⟩
    refine ⟨d, xs, rfl, .inl S0.dc, S0.cs.keys, S0.cs.allAlike, S0.cs.sortable, fun p hp => ?_⟩
    have k1 : Ch [] H (upd (upd H d0 (.dK [])) p (.lst ((srtN xs).map fun x => V.ref x.2.1))) := k0.trans (Ch.new hp)
    have pd : p ≠ d0 := fun z => by rw [z, upd_same] at hp; cases hp
    have hsl : SqL K (upd (upd H d0 (.dK [])) p (.lst ((srtN xs).map fun x => V.ref x.2.1))) p ((srtN xs).map fun x => V.ref x.2.1) := .of upd_same
    have ndS := srtC_nodup nd
    refine ⟨p, rfl, ⟨_, hsl⟩, for_list (K := K) (a := p) (xs := (srtN xs).map fun x => V.ref x.2.1) (fun i σ H' => ∃ (kvs : List (Key × V)) (o3 o4 o5 : Option V), σ = [some (.ref sa), some nv, some (.ref d0), o3, o4, o5] ∧
      Ch [d0] (upd (upd H d0 (.dK [])) p (.lst ((srtN xs).map fun x => V.ref x.2.1))) H' ∧ H' d0 = some (.dK kvs) ∧ FlR K H' kvs (fldsL ((srtC c).take i) n)) ?_ ?_ ?_ ?_⟩
    · exact ⟨[], none, none, none, rfl, Ch.refl _ _, by rw [upd_ne pd.symm, upd_same], .nil⟩
    · rintro i σ H' _ ⟨_, _, _, _, _, kk, _⟩
      exact kk.sqL (by simpa using pd) hsl
    · rintro i y σ H' hi ⟨kvs, o3, o4, o5, rfl, kk, hd0', hF⟩
      have kH : Ch [] H H' := Ch.drop ((k1.mono fun _ z => nomatch z).trans kk) hd0
      have SH := S.ch kH
      obtain ⟨dx', ho'⟩ := SH.ob
      -- the key
      rw [List.getElem?_map] at hi
      obtain ⟨x, hx, rfl⟩ := Option.map_eq_some_iff.mp hi
      obtain ⟨e, he, q1, q2, q3⟩ := Paired.get' SH.cs.srt hx
      obtain ⟨m, hm, hnm⟩ := q2
      refine ⟨_, _, rfl, hm, rfl, _, _, rfl, _, _, rfl, rfl, ?_⟩
      refine ⟨_, rfl, sa, dx', _, rfl, ho', rfl, _, rfl, _, rfl, sa, d, xs, c, m, e.1.1, e.1.2, rfl, SH, hnm, fun H2 v k2 hv => ?_⟩
      have e2 : lookC c e.1 = some e.2 := lookC_own nd (srtC_mem.mp (List.mem_of_getElem? he))
      rw [e2] at hv
      have hv : VlAt K H2 v e.2.2 := hv
      have hd2 : H2 d0 = some (.dK kvs) := k2 _ _ (by simp) hd0'
      refine ⟨_, rfl, _, rfl, nmD e.1.1, nmD n, (hnm.tk k2.tk0).dp, (hn.tk (kH.trans k2).tk0).dp, shaped_nm _, shaped_nm _, _, rfl, ?_⟩
      rw [eqv_nm]
      have step : ∀ o, fldOf n e = o → fldsL ((srtC c).take (i + 1)) n = fldsL ((srtC c).take i) n ++ o.toList := fun o ho => by rw [take_more he, fldsL_snoc, ho]
      have same : fldOf n e = none → ∃ (kvs : List (Key × V)) (o3 o4 o5 : Option V), ([some (.ref sa), some nv, some (.ref d0), some m, some (.str e.1.2), some v] : L2.St) = [some (.ref sa), some nv, some (.ref d0), o3, o4, o5] ∧
          Ch [d0] (upd (upd H d0 (.dK [])) p (.lst ((srtN xs).map fun x => V.ref x.2.1))) H2 ∧ H2 d0 = some (.dK kvs) ∧ FlR K H2 kvs (fldsL ((srtC c).take (i + 1)) n) := fun hz => by
        refine ⟨kvs, _, _, _, rfl, kk.trans k2.any, hd2, ?_⟩
        rw [step _ hz]
        simpa using hF.tk k2.tk0
      by_cases c1 : e.1.1 = n
      · rw [decide_eq_true c1]
        refine iteT ⟨_, rfl, _, rfl, ?_⟩
        by_cases c2 : e.2.2 = .non
        · rw [c2] at hv
          have hv : v = .non := hv
          subst hv
          refine iteF (same ?_)
          unfold fldOf
          rw [if_neg (fun z => z.2 c2)]
        · have hne : ¬ v = .non := fun z => by
            subst z
            cases e22 : e.2.2 with
            | non => exact c2 e22
            | int i => rw [e22] at hv; cases hv
            | txt s => rw [e22] at hv; cases hv
            | ref n => rw [e22] at hv; obtain ⟨_, _, z, _⟩ := hv; cases z
          rw [decide_eq_false hne]
          have hf : fldOf n e = some (e.1.2, e.2.2) := by
            unfold fldOf
            rw [if_pos ⟨c1, c2⟩]
          have hnew := hF.none (flds_new ndS he hf)
          have hlen : kvs.length ≤ 100 := by
            have h1 := Paired.len' hF
            have h2 := fldsL_len ((srtC c).take i) n
            have h3 : ((srtC c).take i).length ≤ (srtC c).length := by rw [List.length_take]; omega
            have h4 := srtC_len c
            omega
          refine iteT ⟨_, rfl, _, rfl, _, rfl, d0, _, rfl, DPut.k (k := Sum.inr e.1.2) hd2 (small1000 (by omega)), ?_⟩
          refine ⟨_, _, _, _, rfl, (kk.trans k2.any).then_upd (by simp), upd_same, ?_⟩
          rw [step _ hf, putK_new _ hnew]
          have t := TK.upd (K := K) (o := .dK (kvs ++ [((Sum.inr e.1.2 : Key), v)])) (NoTup.dK hd2)
          exact Paired.snoc' ((hF.tk k2.tk0).tk t) ⟨rfl, hv.tk t⟩
      · rw [decide_eq_false c1]
        refine iteF (iteF (same ?_))
        unfold fldOf
        rw [if_neg (fun z => c1 z.1)]
    · rintro σ H' ⟨kvs, o3, o4, o5, rfl, kk, hd0', hF⟩
      have kH : Ch [] H H' := Ch.drop ((k1.mono fun _ z => nomatch z).trans kk) hd0
      refine ⟨_, rfl, k H' d0 kvs kH hd0 hd0' ?_⟩
      have hle : ((srtN xs).map fun x => V.ref x.2.1).length = (srtC c).length := by rw [List.length_map]; exact S.cs.srt.len
      rw [hle, List.take_length] at hF
      exact hF
end
end K40

namespace K40
open PySem PySem.Spec PyProof.Rows L2
open PySem.W (Frag)
/-- a small name -/
def Sm (n : Nm) : Prop := 0 ≤ n.1 ∧ n.1 < 64 ∧ 0 ≤ n.2 ∧ n.2 < 64
def spNames (P : Program) (w : World) (K : Frag) (CS : Addr) : Sp := fun vs H Q _ => ∃ sa d xs c, vs = [.ref sa] ∧ StAt P w K CS H sa d xs c ∧ (c.map (·.1)).Nodup ∧ (∀ n ∈ mention c, Sm n) ∧ c.length ≤ 30 ∧
  ∀ H' p vs ns, Ch [] H H' → H' p = some (.lst vs) → NmsR K H' vs ns → (∀ n, n ∈ ns ↔ n ∈ mention c) → Q (.ref p) H'
theorem nms_ks {K : Frag} {H : Hp} : ∀ {vs : List V} {ns : List Nm}, NmsR K H vs ns → ∃ ks : List (Addr × List Int), vs = ks.map (fun p => V.ref p.1) ∧ (∀ p ∈ ks, SqT K H p.1 (p.2.map V.int)) ∧ ks.map (·.2) = ns.map (fun n => [n.1, n.2])
  | _, _, .nil => ⟨[], rfl, (fun _ h => nomatch h), rfl⟩
  | v :: vs, n :: ns, .cons a r => by
    obtain ⟨ks, e1, h, e2⟩ := nms_ks r
    obtain ⟨b, rfl, hb⟩ := a
    refine ⟨(b, [n.1, n.2]) :: ks, by rw [e1]; rfl, fun p hp => ?_, by rw [List.map_cons, List.map_cons, e2]⟩
    rcases List.mem_cons.mp hp with q | q
    · rw [q]
      exact hb
    · exact h p q
theorem ks_nms {K : Frag} {H : Hp} : ∀ {ks : List (Addr × List Int)}, (∀ p ∈ ks, SqT K H p.1 (p.2.map V.int)) → (∀ p ∈ ks, ∃ n : Nm, p.2 = [n.1, n.2]) → NmsR K H (ks.map fun p => V.ref p.1) (ks.map fun p => (p.2.getD 0 0, p.2.getD 1 0))
  | [], _, _ => .nil
  | p :: ks, h, g => by
    refine .cons ?_ (ks_nms (fun q hq => h q (List.mem_cons_of_mem _ hq)) fun q hq => g q (List.mem_cons_of_mem _ hq))
    obtain ⟨n, e⟩ := g p List.mem_cons_self
    have hp := h p List.mem_cons_self
    rw [e] at hp
    show NmAt K H (.ref p.1) (p.2.getD 0 0, p.2.getD 1 0)
    rw [e]
    exact ⟨p.1, rfl, hp⟩
section
variable {P : Program} {w : World} {K : Frag} {mg : Str → Option Value} {base : Heap} {CS CR : Addr}
theorem scNames : FnScope ["self", "found", "key", "target", "name", "field"] ["self"] (defScope sNames) := ⟨rfl, rfl, rfl, by decide +kernel, rfl, by decide +kernel, by decide +kernel⟩
theorem ok_names {f fT : Addr} {fd fdT : FuncData} (F : Fun K "names" "State.names" sNames f fd) (T : Txt K mg CS CR) (FT : FnOk P w K mg base CX0 1 fT fdT ["value"] (spTgt K)) (bT : Binds K fdT ["value"] []) (gT : mg "target_of" = some (.ref fT)) (kT : PySem.W.keepIn K (.ref fT) = true) :
    FnOk P w K mg base CX0 2 f fd ["self"] (spNames P w K CS) := by
  refine F.ok scNames (fun vs H Q E h => ?_) (fun cdv A outer s H vs Q E hr h => ?_)
  · obtain ⟨sa, d, xs, c, rfl, _⟩ := h
    rfl
  · obtain ⟨sa, d, xs, c, rfl, S, nd, sm, hl, k⟩ := h
    obtain ⟨dx, ho⟩ := S.ob
    have hlx : xs.length = c.length := S.cs.len
    refine ⟨_, pss_cons (ps_lock (ps_setLc (i := 1) (own := [("name", 4), ("field", 5)]) (g := gTup K 2 (gCons (gName 4) (gCons (gName 5) gNil))) (tt := tYes) rfl scNames.nd rfl rfl (sw_true rfl rfl rfl (by decide +kernel)) (pi_keysN (pe_fld (pv 0) rfl))
        (blkOk_by (own := [("name", 4), ("field", 5)]) (N := ["self", "found", "key", "target", "name", "field"]) (sc := defScope sNames) (by decide +kernel))
        (fun _ _ _ _ _ => pg_tup rfl (pgs_cons (pg_name (i := 4) scNames.nd rfl (Or.inl rfl)) (pgs_cons (pg_name (i := 5) scNames.nd rfl (Or.inl rfl)) pgs_nil))) (fun _ _ _ _ _ => pts_nil) (fun _ _ _ _ _ => pv 4)))
      (pss_cons (ps_lock (ps_for PassesOwn.never rfl (pi_keysN (pe_fld (pv 0) rfl)) (pg_name (i := 2) scNames.nd rfl (Or.inl rfl))
        (pss_cons (ps_set (i := 3) scNames.nd rfl (Or.inl rfl) (pe_call FT hr rfl gT kT bT .nil pass0 (pa_cons (pe_ix ix_tup (pe_nget hr (pe_fld (pv 0) rfl) (pv 2)) pe_int (fun _ _ => rfl)) pa_nil)))
        (pss_one (ps_if (pt_cmp (pc_notN (pv 3)) rfl) (pss_one (ps_expr (pe_bm PySem.F.plainAttrs_list PySem.F.slot_list_append PySem.F.type_list_append mt_append (pv 1) (pa_cons (pv 3) pa_nil)))) pss_nil)))))
      (pss_one (ps_ret (pe_callB (cr_sortedT rfl) (by rfl) T.sorted (by decide +kernel) (pa_cons (pe_callTy (cr_setOfT rfl hr.units) (by rfl) T.set (by decide +kernel) (pa_cons (pv 1) pa_nil)) pa_nil))))), ?_⟩
    have nsd : sa ≠ d := ne_of ho S.dc (by intro z; cases z)
    -- found = [name for name, field in self.cells]
    refine ⟨d, _, S.dc, no_mut, fun od => ?_⟩
    have tf : TK K H (upd H d (.frz od (NO P w d xs))) := TK.upd (NoTup.no S.dc)
    have ho1 : upd H d (.frz od (NO P w d xs)) sa = some (.ins CS dx [("cells", .ref d)]) := by rw [upd_ne nsd]; exact ho
    refine ⟨_, rfl, sa, CS, dx, _, _, rfl, ho1, T.clS, T.nCells, lk_cells d, d, od, xs, rfl, upd_same, fun D hD => ?_⟩
    have cs1 : CsR K (upd H d (.frz od (NO P w d xs))) xs c := S.cs.tk tf
    have hDd : D ≠ d := fun z => by rw [z, upd_same] at hD; cases hD
    have hDH : H D = none := by rw [← hD, upd_ne hDd]
    refine lc_it (n := xs.length) (fun i H' => ∃ acc, Ch [D] (upd H d (.frz od (NO P w d xs))) H' ∧ H' D = some (.lst acc) ∧ NmsR K H' acc ((c.take i).map (·.1.1))) ⟨[], Ch.new hD, upd_same, .nil⟩ ?_ ?_ ?_ ?_
    · rintro i H' hi ⟨acc, kk, _⟩
      exact ⟨kk _ _ (by simpa using hDd.symm) upd_same, hi⟩
    · rintro H' ⟨acc, kk, _⟩
      exact ⟨kk _ _ (by simpa using hDd.symm) upd_same, Nat.le_refl _⟩
    · rintro i x H' H2 hi ⟨acc, kk, hacc, hA⟩ ⟨rfl, y, hy, rfl⟩
      have kt : TK K (upd H d (.frz od (NO P w d xs))) H2 := (Ch.drop kk hD).tk0
      obtain ⟨e, he, q1, q2, q3⟩ := Paired.get' (cs1.tk kt) hy
      obtain ⟨m, hm, hnm⟩ := q2
      refine ⟨_, _, rfl, hm, rfl, _, _, rfl, _, _, rfl, rfl, rfl, ?_⟩
      refine ⟨_, rfl, acc, hacc, ?_, ?_⟩
      · have := Paired.len' hA
        rw [List.length_map, List.length_take] at this
        exact small1000 (by omega)
      · have t := TK.upd (K := K) (o := .lst (acc ++ [m])) (NoTup.lst hacc)
        refine ⟨acc ++ [m], kk.then_upd (by simp), upd_same, ?_⟩
        rw [take_more he, List.map_append]
        exact Paired.snoc' (hA.tk t) (hnm.tk t)
    · rintro H1 ⟨acc, kk, hacc, hA⟩
      rw [hlx, List.take_length] at hA
      have kk0 : Ch [] (upd H d (.frz od (NO P w d xs))) H1 := Ch.drop kk hD
      have hf1 : H1 d = some (.frz od (NO P w d xs)) := kk0 _ _ (by simp) upd_same
      refine ⟨hf1, ?_⟩
      have k1 : Ch [] H (upd H1 d (NO P w d xs)) := Ch.unlock S.dc kk0
      have S1 := S.ch k1
      have t1 : TK K H1 (upd H1 d (NO P w d xs)) := TK.upd (NoTup.frzN hf1)
      have hacc1 : upd H1 d (NO P w d xs) D = some (.lst acc) := by rw [upd_ne hDd]; exact hacc
      have hA1 : NmsR K (upd H1 d (NO P w d xs)) acc (c.map (·.1.1)) := hA.tk t1
      -- the second walk
      generalize hG : upd H1 d (NO P w d xs) = G at k1 S1 hacc1 hA1
      show tSeq _ _ _ _ G
      refine ⟨d, _, S1.dc, no_mut, fun od2 => ?_⟩
      obtain ⟨dx1, hoG⟩ := S1.ob
      have nsd1 : sa ≠ d := nsd
      have tf2 : TK K G (upd G d (.frz od2 (NO P w d xs))) := TK.upd (NoTup.no S1.dc)
      have ho2 : upd G d (.frz od2 (NO P w d xs)) sa = some (.ins CS dx1 [("cells", .ref d)]) := by rw [upd_ne nsd]; exact hoG
      have cs2 : CsR K (upd G d (.frz od2 (NO P w d xs))) xs c := S1.cs.tk tf2
      have hD2 : upd G d (.frz od2 (NO P w d xs)) D = some (.lst acc) := by rw [upd_ne hDd]; exact hacc1
      have hsaD : sa ≠ D := ne_of hoG hacc1 (by intro z; cases z)
      have ex2 : ∀ {H' : Hp}, Ch [D] (upd G d (.frz od2 (NO P w d xs))) H' → TK K (upd G d (.frz od2 (NO P w d xs))) H' := fun kk => kk.tk fun b hb => by
        rw [List.mem_singleton] at hb
        rw [hb]
        exact .lst hD2
      refine ⟨_, rfl, sa, CS, dx1, _, _, rfl, ho2, T.clS, T.nCells, lk_cells d, d, od2, xs, rfl, upd_same, for_it (n := xs.length) (fun i σ H' => ∃ (o2 o3 : Option V) (ac : List V), σ = [some (.ref sa), some (.ref D), o2, o3, none, none] ∧
        Ch [D] (upd G d (.frz od2 (NO P w d xs))) H' ∧ H' D = some (.lst ac) ∧ NmsR K H' ac (c.map (·.1.1) ++ (c.take i).filterMap fun e => tgt e.2.2)) ?_ ?_ ?_ ?_ ?_⟩
      · exact ⟨none, none, acc, rfl, Ch.refl _ _, hD2, by simpa using hA1.tk tf2⟩
      · rintro i σ H' hi ⟨_, _, _, _, kk, _⟩
        exact ⟨kk _ _ (by simpa using hDd.symm) upd_same, hi⟩
      · rintro σ H' ⟨_, _, _, _, kk, _⟩
        exact ⟨kk _ _ (by simpa using hDd.symm) upd_same, Nat.le_refl _⟩
      · rintro i x σ H' H2 hi ⟨o2, o3, ac, rfl, kk, hac, hA2⟩ ⟨rfl, y, hy, rfl⟩
        have ho3 : H2 sa = some (.ins CS dx1 [("cells", .ref d)]) := kk _ _ (by simpa using hsaD) ho2
        have cs3 : CsR K H2 xs c := cs2.tk (ex2 kk)
        obtain ⟨e, he, q1, q2, q3⟩ := Paired.get' cs3 hy
        have hfz : H2 d = some (.frz od2 (NO P w d xs)) := kk _ _ (by simpa using hDd.symm) upd_same
        have hlt : xs.length ≤ 30 := by omega
        have hstep : (c.take (i + 1)).filterMap (fun e => tgt e.2.2) = ((c.take i).filterMap fun e => tgt e.2.2) ++ (tgt e.2.2).toList := by
          rw [take_more he, List.filterMap_append]
          congr 1
        have e2 : lookC c e.1 = some e.2 := lookC_own nd (List.mem_of_getElem? he)
        rcases cs3.look (k := e.1) with ⟨_, e2'⟩ | ⟨v', x', e1, e2', hx⟩
        · rw [e2] at e2'
          cases e2'
        · rw [e2] at e2'
          cases e2'
          obtain ⟨b, s1, w1, rfl, hb, _, hw⟩ := hx
          refine ⟨_, rfl, sa, CS, dx1, _, _, rfl, ho3, T.clS, T.nCells, lk_cells d, _, rfl, d, _, rfl, ⟨xs, y.1, y.2.1, .inr ⟨od2, hfz⟩, cs3.keys, rfl, by rw [q1]; exact q2.key, by rw [q1, e1]⟩, b, _, _, w1, rfl, rfl, hb, rfl, w1, _, rfl, hw, fun t ht => ?_⟩
          have hlen : ac.length < sizeLine := by
            have h1 := Paired.len' hA2
            rw [List.length_append, List.length_map] at h1
            have h2 := List.length_filterMap_le (fun e : Ky × Cl => tgt e.2.2) (c.take i)
            rw [List.length_take] at h2
            exact small1000 (by omega)
          unfold TgV at ht
          cases et : tgt e.2.2 with
          | none =>
            rw [et] at ht
            subst ht
            refine ⟨_, rfl, _, rfl, ?_⟩
            refine iteF ?_
            refine ⟨_, _, ac, rfl, kk, hac, ?_⟩
            rw [hstep, et]
            simpa using hA2
          | some n =>
            rw [et] at ht
            have hne : ¬ t = .non := by
              obtain ⟨q, rfl, _⟩ := ht
              intro z
              cases z
            refine ⟨_, rfl, _, rfl, ?_⟩
            rw [decide_eq_false hne]
            refine iteT ?_
            refine ⟨_, rfl, .inl ⟨rfl, _, .of hac⟩, _, rfl, D, ac, t, rfl, rfl, hac, hlen, ?_⟩
            have tt := TK.upd (K := K) (o := .lst (ac ++ [t])) (NoTup.lst hac)
            refine ⟨_, _, ac ++ [t], rfl, kk.then_upd (by simp), upd_same, ?_⟩
            rw [hstep, et, ← List.append_assoc]
            exact Paired.snoc' (hA2.tk tt) (ht.tk tt)
      · rintro σ H' ⟨o2, o3, ac, rfl, kk, hac, hA2⟩
        rw [hlx, List.take_length] at hA2
        have hf2 : H' d = some (.frz od2 (NO P w d xs)) := kk _ _ (by simpa using hDd.symm) upd_same
        refine ⟨hf2, ?_⟩
        have k2 : Ch [D] G (upd H' d (NO P w d xs)) := Ch.unlock S1.dc kk
        have kH : Ch [] H (upd H' d (NO P w d xs)) := Ch.drop ((k1.any (M := [D])).trans k2) hDH
        have t2 : TK K H' (upd H' d (NO P w d xs)) := TK.upd (NoTup.frzN hf2)
        have hac2 : upd H' d (NO P w d xs) D = some (.lst ac) := by rw [upd_ne hDd]; exact hac
        have hA3 := hA2.tk t2
        obtain ⟨ks, rfl, hks, hsn⟩ := nms_ks hA3
        have hkn : ∀ p ∈ ks, ∃ n : Nm, n ∈ mention c ∧ p.2 = [n.1, n.2] := fun p hp => by
          have : p.2 ∈ ks.map (·.2) := List.mem_map_of_mem hp
          rw [hsn] at this
          obtain ⟨n, hn, e⟩ := List.mem_map.mp this
          exact ⟨n, hn, e.symm⟩
        have hlk : ks.length < 64 := by
          have h1 := Paired.len' hA3
          rw [List.length_map, List.length_append, List.length_map] at h1
          have h2 := List.length_filterMap_le (fun e : Ky × Cl => tgt e.2.2) c
          omega
        refine ⟨_, rfl, D, ks, rfl, .of hac2, hks, hlk, fun a L ha hL1 hL2 => ?_⟩
        have k3 : Ch [] _ _ := Ch.new (M := []) (o := SetTO P w a L) ha
        refine ⟨a, L, 2, 64, rfl, upd_same, fun p hp => k3.tk0 _ _ (hks p (hL1 p hp)), by decide, fun p hp => ?_, fun L' q hp _ _ _ hq => ?_⟩
        · obtain ⟨n, hn, e⟩ := hkn p (hL1 p hp)
          rw [e]
          obtain ⟨s1, s2, s3, s4⟩ := sm n hn
          refine ⟨rfl, fun m hm => ?_⟩
          rcases List.mem_cons.mp hm with z | z
          · rw [z]
            exact ⟨s1, s2⟩
          · rw [List.mem_singleton] at z
            rw [z]
            exact ⟨s3, s4⟩
        · have k4 : Ch [] _ _ := Ch.new (M := []) (o := .lst (L'.map fun q => V.ref q.1)) hq
          have hin : ∀ p ∈ L', p ∈ ks := fun p hp' => hL1 p (hp.mem_iff.mp hp')
          refine k _ q _ _ ((kH.trans k3).trans k4) upd_same (ks_nms (fun p hp' => (k3.trans k4).tk0 _ _ (hks p (hin p hp'))) fun p hp' => ?_) fun n => ?_
          · obtain ⟨n, _, e⟩ := hkn p (hin p hp')
            exact ⟨n, e⟩
          · constructor
            · intro h
              obtain ⟨p, hp', e⟩ := List.mem_map.mp h
              obtain ⟨n', hn', e'⟩ := hkn p (hin p hp')
              rw [e'] at e
              have : n' = n := e
              exact this ▸ hn'
            · intro h
              have h1 : [n.1, n.2] ∈ ks.map (·.2) := by
                rw [hsn]
                exact List.mem_map.mpr ⟨n, h, rfl⟩
              obtain ⟨p, hp', e⟩ := List.mem_map.mp h1
              have h2 := hL2 p hp'
              obtain ⟨p2, hp2, e2⟩ := List.mem_map.mp h2
              refine List.mem_map.mpr ⟨p2, hp.mem_iff.mpr hp2, ?_⟩
              rw [e2, e]
              rfl
end
end K40

namespace K40
open PySem PySem.Spec PyProof.Rows L2
open PySem.W (Frag)
/-- names as the keys of a dict -/
def NsR (K : Frag) (H : Hp) : NE → List Nm → Prop := Paired fun x n => x.1 = nmK n ∧ NmAt K H (.ref x.2.1) n
section
variable {K : Frag} {H H' : Hp}
theorem NsR.tk (t : TK K H H') {xs : NE} {l : List Nm} (h : NsR K H xs l) : NsR K H' xs l := Paired.imp' (fun _ _ q => ⟨q.1, q.2.tk t⟩) h
theorem NsR.keys {xs : NE} {l : List Nm} (h : NsR K H xs l) : NKs K H xs := fun x hx => by
  obtain ⟨n, _, q1, q2⟩ := Paired.memL' h hx
  rw [q1]
  exact q2.key
theorem NsR.none {n : Nm} : ∀ {xs : NE} {l : List Nm}, NsR K H xs l → (lookN xs (nmK n) = Option.none ↔ n ∉ l)
  | _, _, .nil => by simp [lookN]
  | x :: r, m :: s, .cons a t => by
    by_cases h : m = n
    · have : x.1 = nmK n := by rw [a.1, h]
      rw [lookN_pos this]
      simp [h]
    · have : ¬ x.1 = nmK n := fun z => h (nmK_inj (a.1.symm.trans z))
      rw [lookN_neg this, NsR.none t]
      simp only [List.mem_cons, not_or]
      exact ⟨fun q => ⟨fun z => h z.symm, q⟩, fun q => q.2⟩
theorem NsR.add {xs : NE} {l : List Nm} {n : Nm} {b : Addr} {v : V} (h : NsR K H xs l) (hb : NmAt K H (.ref b) n) (e : lookN xs (nmK n) = Option.none) : NsR K H (putN xs (nmK n) b v) (addN l n) := by
  have hn := h.none.mp e
  unfold putN addN
  rw [if_neg hn, e, if_neg (by simp)]
  exact Paired.snoc' h ⟨rfl, hb⟩
theorem NsR.refs : ∀ {xs : NE} {l : List Nm}, NsR K H xs l → NmsR K H (xs.map fun x => V.ref x.2.1) l
  | _, _, .nil => .nil
  | _, _, .cons a t => .cons a.2 (NsR.refs t)
/-- found.setdefault(n, len(found)), where found lies at D -/
theorem setd_read {P : Program} {w : World} {D : Addr} {xs : NE} {l : List Nm} {v : V} {n : Nm} {Q : VK} (hD : H D = some (NO P w D xs)) (h : NsR K H xs l) (hv : NmAt K H v n) (hl : l.length ≤ 100)
    (k : ∀ H' xs' v, Ch [D] H H' → H' D = some (NO P w D xs') → NsR K H' xs' (addN l n) → Q v H') :
    ∃ (xs : NE) (k : NestedKey) (b : Addr), H D = some (NO P w D xs) ∧ NKs K H xs ∧ v = .ref b ∧ KeyN K H b k ∧ xs.length < sizeLine ∧ (∀ v, lookN xs k = some v → Q v H) ∧ (lookN xs k = Option.none → ∀ z, Q z (upd H D (NO P w D (putN xs k b z)))) := by
  obtain ⟨b, rfl, hb⟩ := hv
  have hv : NmAt K H (.ref b) n := ⟨b, rfl, hb⟩
  refine ⟨xs, nmK n, b, hD, h.keys, rfl, hv.key, ?_, fun v e => ?_, fun e z => ?_⟩
  · rw [Paired.len' h]
    exact small1000 (by omega)
  · refine k H xs v (Ch.refl _ _) hD ?_
    have hn : n ∈ l := by
      by_cases q : n ∈ l
      · exact q
      · rw [h.none.mpr q] at e
        cases e
    unfold addN
    rw [if_pos hn]
    exact h
  · have t := TK.upd (K := K) (o := NO P w D (putN xs (nmK n) b z)) (NoTup.no hD)
    exact k _ _ z (Ch.upd (by simp)) upd_same ((h.add hv e).tk t)
end
def spReach (P : Program) (w : World) (K : Frag) (CS : Addr) : Sp := fun vs H Q _ => ∃ sa d xs c ra rs roots, vs = [.ref sa, .ref ra] ∧ StAt P w K CS H sa d xs c ∧ (c.map (·.1)).Nodup ∧ c.length ≤ 40 ∧ SqL K H ra rs ∧ NmsR K H rs roots ∧ roots.length ≤ 40 ∧
  ∀ H' p vs, Ch [] H H' → H' p = some (.lst vs) → NmsR K H' vs (reach c roots) → Q (.ref p) H'
theorem step_more {c : Cs} {l : List Nm} {fs : List (Str × Vl)} {i : Nat} {f : Str × Vl} (h : fs[i]? = some f) : (fs.take (i + 1)).foldl (fun l f => addV l f.2) l = addV ((fs.take i).foldl (fun l f => addV l f.2) l) f.2 := by
  rw [take_more h, List.foldl_append]
  rfl
section
variable {P : Program} {w : World} {K : Frag} {mg : Str → Option Value} {base : Heap} {CS CR : Addr}
theorem scReach : FnScope ["state", "roots", "found", "name", "place", "value", "target"] ["state", "roots"] (defScope sReach) := ⟨rfl, rfl, rfl, by decide +kernel, rfl, by decide +kernel, by decide +kernel⟩
theorem ok_reach {f fT fF : Addr} {fd fdT fdF : FuncData} (F : Fun K "reachable" "reachable" sReach f fd) (T : Txt K mg CS CR) (FT : FnOk P w K mg base CX0 1 fT fdT ["value"] (spTgt K)) (bT : Binds K fdT ["value"] []) (gT : mg "target_of" = some (.ref fT)) (kT : PySem.W.keepIn K (.ref fT) = true)
    (FF : FnOk P w K mg base CX0 2 fF fdF ["self", "name"] (spFlds P w K CS)) (bF : Binds K fdF ["self", "name"] []) (mF : Meth K CS "fields" fF) : FnOk P w K mg base CX0 3 f fd ["state", "roots"] (spReach P w K CS) := by
  refine F.ok scReach (fun vs H Q E h => ?_) (fun cdv A outer s H vs Q E hr h => ?_)
  · obtain ⟨sa, d, xs, c, ra, rs, roots, rfl, _⟩ := h
    rfl
  · obtain ⟨sa, d, xs, c, ra, rs, roots, rfl, S, nd, hlc, hra, hrs, hlr, k⟩ := h
    have hr1 : Room 1 _ := hr.mono (by decide)
    refine ⟨_, pss_cons (ps_set (i := 2) scReach.nd rfl (Or.inl rfl) pe_nnew)
      (pss_cons (ps_for PassesOwn.never rfl (pi_list (pv 1)) (pg_name (i := 3) scReach.nd rfl (Or.inl rfl)) (pss_one (ps_expr (pe_nsetd hr (pv 2) (pv 3) (pe_callB (call_lenN (K := K)) (by rfl) T.len (by decide +kernel) (pa_cons (pv 2) pa_nil))))))
      (pss_cons (ps_set (i := 4) scReach.nd rfl (Or.inl rfl) pe_int)
      (pss_cons (ps_while PassesOwn.never (pt_cmpR op_lt (pv 4) (pe_callB (call_lenN (K := K)) (by rfl) T.len (by decide +kernel) (pa_cons (pv 2) pa_nil)) (nomark _))
        (pss_cons (ps_for PassesOwn.never rfl (pi_valuesL (pe_meth (pv 0) T.clS mF FF hr bF .nil pass0 (pa_cons (pe_ix ix_list (pe_callTy (call_listN rfl) (by rfl) T.list (by decide +kernel) (pa_cons (pv 2) pa_nil)) (pv 4) (fun _ _ => rfl)) pa_nil))) (pg_name (i := 5) scReach.nd rfl (Or.inl rfl))
          (pss_cons (ps_set (i := 6) scReach.nd rfl (Or.inl rfl) (pe_call FT hr1 rfl gT kT bT .nil pass0 (pa_cons (pv 5) pa_nil)))
          (pss_one (ps_if (pt_cmp (pc_notN (pv 6)) rfl) (pss_one (ps_expr (pe_nsetd hr (pv 2) (pv 6) (pe_callB (call_lenN (K := K)) (by rfl) T.len (by decide +kernel) (pa_cons (pv 2) pa_nil))))) pss_nil))))
        (pss_one (ps_aug (i := 4) scReach.nd rfl (Or.inl rfl) pe_int ip_add))))
      (pss_one (ps_ret (pe_callTy (call_listN rfl) (by rfl) T.list (by decide +kernel) (pa_cons (pv 2) pa_nil))))))), ?_⟩
    intro D hD
    have hU : (uni c roots).length ≤ 80 := by
      have := uni_len c roots
      omega
    -- for name in roots
    refine ⟨_, rfl, ra, rfl, ⟨rs, (Ch.new hD).sqL (M := []) (by simp) hra⟩, for_list (K := K) (a := ra) (xs := rs) (fun i σ H' => ∃ (o3 : Option V) (ys : NE), σ = [some (.ref sa), some (.ref ra), some (.ref D), o3, none, none, none] ∧
      Ch [] H H' ∧ H' D = some (NO P w D ys) ∧ NsR K H' ys ((roots.take i).foldl addN [])) ?_ ?_ ?_ ?_⟩
    · exact ⟨none, [], rfl, Ch.new hD, upd_same, .nil⟩
    · rintro i σ H' _ ⟨_, _, _, kk, _⟩
      exact kk.sqL (by simp) hra
    · rintro i y σ H' hi ⟨o3, ys, rfl, kk, hD', hN⟩
      obtain ⟨n, hn, hy⟩ := Paired.get' (hrs.tk kk.tk0) hi
      have hll : ((roots.take i).foldl addN []).length ≤ 100 := by
        have := nodup_sub_len (u := roots) (foldN_nodup (roots.take i) [] (by simp)) fun x hx => by
          rcases (foldN_mem _ _ _).mp hx with q | q
          · cases q
          · exact List.mem_of_mem_take q
        omega
      obtain ⟨ys', k', b, e1, e2, e3, e4, e5, e6, e7⟩ := setd_read (Q := fun _ H2 => ∃ (o3 : Option V) (ys : NE), ([some (.ref sa), some (.ref ra), some (.ref D), some y, none, none, none] : L2.St) = [some (.ref sa), some (.ref ra), some (.ref D), o3, none, none, none] ∧
        Ch [] H H2 ∧ H2 D = some (NO P w D ys) ∧ NsR K H2 ys ((roots.take (i + 1)).foldl addN [])) hD' hN hy hll (fun H2 ys2 v k2 hD2 hN2 => by
          refine ⟨some y, ys2, rfl, Ch.drop ((kk.any (M := [D])).trans k2) hD, hD2, ?_⟩
          rw [take_more hn, List.foldl_append]
          exact hN2)
      exact ⟨_, rfl, D, ys, rfl, .inl hD', _, rfl, _, rfl, D, ys, rfl, .inl hD', hN.keys, ys', k', b, e1, e2, e3, e4, e5, e6, fun z => e7 z _⟩
    · rintro σ H' ⟨o3, ys, rfl, kk, hD', hN⟩
      rw [Paired.len' hrs, List.take_length] at hN
      -- place = 0; while place < len(found)
      refine ⟨fun m σ H' => ∃ (o3 o5 o6 : Option V) (ys : NE) (p : Nat) (l : List Nm), σ = [some (.ref sa), some (.ref ra), some (.ref D), o3, some (.int (p : Nat)), o5, o6] ∧
        Ch [] H H' ∧ H' D = some (NO P w D ys) ∧ NsR K H' ys l ∧ RInv c roots m p l, ⟨_, o3, none, none, ys, 0, _, rfl, kk, hD', hN, RInv.start c roots⟩, ?_⟩
      rintro m σ H1 ⟨o3, o5, o6, ys, p, l, rfl, k1, hD1, hN1, R⟩
      have hlen : ys.length = l.length := Paired.len' hN1
      refine ⟨_, rfl, _, rfl, D, ys, rfl, .inl hD1, hN1.keys, _, _, rfl, rfl, _, rfl, ?_⟩
      by_cases hp : p < l.length
      · have hpi : ((p : Nat) : Int) < ((ys.length : Nat) : Int) := by omega
        rw [decide_eq_true hpi]
        refine iteT ?_
        obtain ⟨n, hn⟩ : ∃ n, l[p]? = some n := ⟨l[p], List.getElem?_eq_getElem hp⟩
        obtain ⟨m', rfl, R'⟩ := R.step hn
        refine ⟨fun σ H' => ∃ (o3 o5 o6 : Option V) (ys : NE) (p : Nat) (l : List Nm), σ = [some (.ref sa), some (.ref ra), some (.ref D), o3, some (.int (p : Nat)), o5, o6] ∧
          Ch [] H H' ∧ H' D = some (NO P w D ys) ∧ NsR K H' ys l ∧ RInv c roots m' p l, fun σ' H' q => ⟨m', Nat.lt_succ_self _, q⟩, ?_⟩
        -- state.fields(list(found)[place]).values()
        have S1 := S.ch k1
        obtain ⟨dx1, ho1⟩ := S1.ob
        refine ⟨_, rfl, sa, dx1, _, rfl, ho1, rfl, _, rfl, D, ys, rfl, .inl hD1, fun q hq => ?_⟩
        have k2 : Ch [] H1 _ := Ch.new (M := []) (o := .lst (ys.map fun x => V.ref x.2.1)) hq
        obtain ⟨x, hx, hxn⟩ := Paired.getR' hN1 hn
        have hxv : (ys.map fun x => V.ref x.2.1)[p]? = some (.ref x.2.1) := by rw [List.getElem?_map, hx]; rfl
        refine ⟨_, rfl, q, _, _, _, rfl, rfl, .of upd_same, atI_nat hxv, ?_⟩
        refine ⟨sa, d, xs, c, _, n, rfl, S1.ch k2, hxn.2.tk k2.tk0, nd, by omega, fun H3 dd kvs k3 hdn hdd hF => ?_⟩
        have k13 : Ch [] H1 H3 := k2.trans k3
        have kH3 : Ch [] H H3 := k1.trans k13
        have hD3 : H3 D = some (NO P w D ys) := k13 _ _ (by simp) hD1
        have hN3 := hN1.tk (k13.tk0 (K := K))
        have hDdd : D ≠ dd := ne_of hD3 hdd (by intro z; cases z)
        refine ⟨dd, kvs, rfl, hdd, fun od => ?_⟩
        have hdH : H dd = none := (k1.trans k2).free hdn
        have tf : TK K H3 (upd H3 dd (.frz od (.dK kvs))) := TK.upd (NoTup.dK hdd)
        have kf : Ch [] H (upd H3 dd (.frz od (.dK kvs))) := kH3.new_upd hdH
        have hDf : upd H3 dd (.frz od (.dK kvs)) D = some (NO P w D ys) := by rw [upd_ne hDdd]; exact hD3
        have hFf := hF.tk tf
        have hNf := hN3.tk tf
        have hkl : kvs.length = (flds c n).length := Paired.len' hF
        refine for_it (n := kvs.length) (fun i σ H' => ∃ (o5 o6 : Option V) (zs : NE), σ = [some (.ref sa), some (.ref ra), some (.ref D), o3, some (.int (p : Nat)), o5, o6] ∧
          Ch [D] (upd H3 dd (.frz od (.dK kvs))) H' ∧ H' D = some (NO P w D zs) ∧ NsR K H' zs (((flds c n).take i).foldl (fun l f => addV l f.2) l)) ?_ ?_ ?_ ?_ ?_
        · exact ⟨o5, o6, ys, rfl, Ch.refl _ _, hDf, hNf⟩
        · rintro i σ H' hi ⟨_, _, _, _, kk, _⟩
          exact ⟨kk _ _ (by simpa using hDdd.symm) upd_same, hi⟩
        · rintro σ H' ⟨_, _, _, _, kk, _⟩
          exact ⟨kk _ _ (by simpa using hDdd.symm) upd_same, Nat.le_refl _⟩
        · rintro i y σ H' H4 hi ⟨o5, o6, zs, rfl, kk, hDz, hNz⟩ ⟨rfl, ky, hky⟩
          have tz : TK K (upd H3 dd (.frz od (.dK kvs))) H4 := kk.tk fun b hb => by
            rw [List.mem_singleton] at hb
            rw [hb]
            exact .no hDf
          obtain ⟨g, hg, _, hgv⟩ := Paired.get' (hFf.tk tz) hky
          refine ⟨_, rfl, y, _, rfl, hgv, fun t ht => ?_⟩
          have hlz : (((flds c n).take i).foldl (fun l f => addV l f.2) l).length ≤ 100 := by
            have h0 := R.len
            have h1 : (((flds c n).take i).foldl (fun l f => addV l f.2) l).length ≤ (uni c roots).length := by
              refine nodup_sub_len (foldV_nodup _ _ R.nd) fun x hx => ?_
              rcases foldV_mem _ _ _ hx with q | ⟨f, hf, q⟩
              · exact R.sub x q
              · obtain ⟨e, he, _, e2, _⟩ := flds_mem (List.mem_of_mem_take hf)
                exact List.mem_append_right _ (List.mem_filterMap.mpr ⟨e, he, by rw [e2]; exact q⟩)
            omega
          refine ⟨_, rfl, _, rfl, ?_⟩
          have hst := step_more (c := c) (l := l) hg
          unfold TgV at ht
          cases et : tgt g.2 with
          | none =>
            rw [et] at ht
            subst ht
            refine iteF ?_
            refine ⟨_, _, zs, rfl, kk, hDz, ?_⟩
            rw [hst]
            unfold addV
            rw [et]
            exact hNz
          | some n' =>
            rw [et] at ht
            have hne : ¬ t = .non := by
              obtain ⟨q, rfl, _⟩ := ht
              intro z
              cases z
            rw [decide_eq_false hne]
            refine iteT ?_
            obtain ⟨zs', k', b, e1, e2, e3, e4, e5, e6, e7⟩ := setd_read (Q := fun _ H2 => ∃ (o5 o6 : Option V) (zs : NE), ([some (.ref sa), some (.ref ra), some (.ref D), o3, some (.int (p : Nat)), some y, some t] : L2.St) = [some (.ref sa), some (.ref ra), some (.ref D), o3, some (.int (p : Nat)), o5, o6] ∧
              Ch [D] (upd H3 dd (.frz od (.dK kvs))) H2 ∧ H2 D = some (NO P w D zs) ∧ NsR K H2 zs (((flds c n).take (i + 1)).foldl (fun l f => addV l f.2) l)) hDz hNz ht hlz (fun H5 zs2 v k5 hD5 hN5 => by
                refine ⟨some y, some t, zs2, rfl, kk.trans k5, hD5, ?_⟩
                rw [hst]
                unfold addV
                rw [et]
                exact hN5)
            exact ⟨_, rfl, D, zs, rfl, .inl hDz, _, rfl, _, rfl, D, zs, rfl, .inl hDz, hNz.keys, zs', k', b, e1, e2, e3, e4, e5, e6, fun z => e7 z _⟩
        · rintro σ H' ⟨o5, o6, zs, rfl, kk, hDz, hNz⟩
          rw [hkl, List.take_length] at hNz
          refine ⟨_, rfl, _, _, rfl, rfl, ?_⟩
          exact ⟨o3, o5, o6, zs, p + 1, stepR c l n, rfl, Ch.drop ((kf.any (M := [D])).trans kk) hD, hDz, hNz, R'⟩
      · have hpi : ¬ ((p : Nat) : Int) < ((ys.length : Nat) : Int) := by omega
        rw [decide_eq_false hpi]
        refine iteF ?_
        have hn : l[p]? = none := List.getElem?_eq_none (by omega)
        obtain ⟨e, _⟩ := R.done hn
        refine ⟨_, rfl, D, ys, rfl, .inl hD1, fun q hq => ?_⟩
        have k2 : Ch [] H1 _ := Ch.new (M := []) (o := .lst (ys.map fun x => V.ref x.2.1)) hq
        refine k _ q _ (k1.trans k2) upd_same ?_
        rw [← e]
        exact hN1.refs.tk k2.tk0
end
end K40

namespace K40
open PySem PySem.Spec PyProof.Rows L2
open PySem.W (Frag)
/-! ### the graph in the heap -/
def NvAt (K : Frag) (H : Hp) (L : List Nm) (v : V) : Vl → Prop
  | .ref n => ∃ b, v = .ref b ∧ SqT K H b [.str "ref", .int (ix L n : Nat)]
  | x => VlAt K H v x
def FtAt (K : Frag) (H : Hp) (L : List Nm) (v : V) (f : Str × Vl) : Prop := ∃ b w, v = .ref b ∧ SqT K H b [.str f.1, w] ∧ NvAt K H L w f.2
def ThAt (K : Frag) (c : Cs) (L : List Nm) (D : Addr) (H : Hp) (v : V) (n : Nm) : Prop := ∃ p acc, v = .ref p ∧ p ≠ D ∧ H p = some (.lst acc) ∧ Paired (FtAt K H L) acc (flds c n)
section
variable {K : Frag} {H H' : Hp} {L : List Nm} {c : Cs} {D : Addr}
theorem NvAt.tk (t : TK K H H') {v : V} : ∀ {x : Vl}, NvAt K H L v x → NvAt K H' L v x
  | .ref n, h => by
    obtain ⟨b, e, h⟩ := h
    exact ⟨b, e, t _ _ h⟩
  | .non, h => VlAt.tk (x := .non) t h
  | .int i, h => VlAt.tk (x := .int i) t h
  | .txt s, h => VlAt.tk (x := .txt s) t h
theorem NvAt.dp {v : V} : ∀ {x : Vl}, NvAt K H L v x → Dp K H v (numV L x)
  | .ref n, h => by
    obtain ⟨b, rfl, h⟩ := h
    exact .tup h (.cons (.str _) (.cons (.int _) .nil))
  | .non, h => VlAt.dp (x := .non) h
  | .int i, h => VlAt.dp (x := .int i) h
  | .txt s, h => VlAt.dp (x := .txt s) h
theorem FtAt.tk (t : TK K H H') {v : V} {f : Str × Vl} (h : FtAt K H L v f) : FtAt K H' L v f := by
  obtain ⟨b, w, e, h, q⟩ := h
  exact ⟨b, w, e, t _ _ h, q.tk t⟩
theorem FtAt.dp {v : V} {f : Str × Vl} (h : FtAt K H L v f) : Dp K H v (.tuple [.str f.1, numV L f.2]) := by
  obtain ⟨b, w, rfl, h, q⟩ := h
  exact .tup h (.cons (.str _) (.cons q.dp .nil))
theorem ThAt.ch (k : Ch [D] H H') (t : TK K H H') {v : V} {n : Nm} (h : ThAt K c L D H v n) : ThAt K c L D H' v n := by
  obtain ⟨p, acc, e, hp, h, q⟩ := h
  exact ⟨p, acc, e, hp, k _ _ (by simpa using hp) h, Paired.imp' (fun _ _ z => z.tk t) q⟩
theorem ThAt.dp {v : V} {n : Nm} (h : ThAt K c L D H v n) : Dp K H v (thing c L n) := by
  obtain ⟨p, acc, rfl, hp, h, q⟩ := h
  exact .lst (.of h) (dpAll_of (fun _ _ z => z.dp) q)
/-- names are numbered by the dict at D -/
structure NumAt (P : Program) (w : World) (K : Frag) (H : Hp) (D : Addr) (L : List Nm) : Prop where
  ex : ∃ xs, Rd H D (NO P w D xs) ∧ NKs K H xs ∧ ∀ n ∈ L, lookN xs (nmK n) = some (.int (ix L n : Nat))
theorem KeyN.tk (t : Ch [] H H') {b : Addr} {n : Nm} (h : KeyN K H b (nmK n)) : KeyN K H' b (nmK n) := ((nm_of_key h).tk t.tk0).key
end
mutual
theorem dp_ch {K : Frag} {H H' : Hp} (k : Ch [] H H') : ∀ (d : PyData) (v : V), Dp K H v d → Dp K H' v d
  | .none, _, h => by cases h; exact .non
  | .bool _, _, h => by cases h; exact .bl _
  | .int _, _, h => by cases h; exact .int _
  | .str _, _, h => by cases h; exact .str _
  | .list ds, _, h => by
    cases h with
    | lst h1 h2 => exact .lst (k.sqL (by simp) h1) (dpAll_ch k ds _ h2)
  | .tuple ds, _, h => by
    cases h with
    | tup h1 h2 => exact .tup (k.tk0 _ _ h1) (dpAll_ch k ds _ h2)
  | .dict _, _, h => nomatch h
theorem dpAll_ch {K : Frag} {H H' : Hp} (k : Ch [] H H') : ∀ (ds : List PyData) (vs : List V), DpAll K H vs ds → DpAll K H' vs ds
  | [], _, h => by cases h; exact .nil
  | d :: ds, _, h => by
    cases h with
    | cons h1 h2 => exact .cons (dp_ch k d _ h1) (dpAll_ch k ds _ h2)
end
theorem NumAt.ch {P : Program} {w : World} {K : Frag} {H H' : Hp} {D : Addr} {L : List Nm} (k : Ch [] H H') (h : NumAt P w K H D L) : NumAt P w K H' D L := by
  obtain ⟨xs, h1, h2, h3⟩ := h.ex
  exact ⟨xs, k.rd (by simp) h1, fun x hx => ⟨dp_ch k _ _ (h2 x hx).1, (h2 x hx).2⟩, h3⟩
theorem ix_take {L : List Nm} (nd : L.Nodup) {i : Nat} {n : Nm} (h : L[i]? = some n) : ix L n = i := by
  unfold ix
  obtain ⟨hi, e⟩ := List.getElem?_eq_some_iff.mp h
  rw [← e]
  exact nd.idxOf_getElem i hi
theorem ix_get {L : List Nm} {n : Nm} (h : n ∈ L) : L[ix L n]? = some n := by
  unfold ix
  rw [List.getElem?_eq_getElem (List.idxOf_lt_length_iff.mpr h), List.getElem_idxOf]
theorem ix_first {L : List Nm} {n : Nm} {m : Nat} {z : Nm} (hm : m < ix L n) (h : L[m]? = some z) : z ≠ n := by
  intro e
  subst e
  obtain ⟨hi, e⟩ := List.getElem?_eq_some_iff.mp h
  have := List.not_of_lt_findIdx (p := (· == z)) (xs := L) hm
  rw [e] at this
  simp at this
end K40

namespace K40
open PySem PySem.Spec PyProof.Rows L2
open PySem.W (Frag)
theorem dc_it {K : Frag} {P : Program} {w : World} {J : It} {n : Nat} {g : TG} {tk tv : TE} {vs : List Nat} {σ : L2.St} {H1 : Hp} {D : Addr} {Qd : Hp → Prop} (Pv : Nat → Hp → Prop) (h0 : Pv 0 (upd H1 D (NO P w D []))) (hgo : ∀ i H, i < n → Pv i H → J.go i H) (hst : ∀ H, Pv n H → J.stop n H)
    (hs : ∀ i x H H', i < n → Pv i H → J.yld i H x H' → g x (wipe σ vs) H' fun σ2 H2 => wipe σ2 vs = wipe σ vs ∧ tk σ2 H2 fun y H4 => tv σ2 H4 fun z H5 => ∃ H6, NPut K P w H5 D y z H6 ∧ Pv (i + 1) H6) (hd : ∀ H, Pv n H → Qd H) :
    ∃ W : Nat → Nat → Hp → Prop, (∃ m, W 0 m (upd H1 D (NO P w D []))) ∧ ∀ i m H, W i m H →
      (J.stop i H ∧ Qd H) ∨ (J.go i H ∧ ∃ Nx : Hp → Prop, (∀ H', Nx H' → ∃ m', m' < m ∧ W (i + 1) m' H') ∧ ∀ x H', J.yld i H x H' → g x (wipe σ vs) H' fun σ2 H2 => wipe σ2 vs = wipe σ vs ∧
        tk σ2 H2 fun y H4 => tv σ2 H4 fun z H5 => ∃ H6, NPut K P w H5 D y z H6 ∧ Nx H6) := by
  refine ⟨fun i m H => m = n - i ∧ i ≤ n ∧ Pv i H, ⟨n, by simp, Nat.zero_le _, h0⟩, ?_⟩
  rintro i m H ⟨rfl, hi, p⟩
  by_cases hlt : i < n
  · exact .inr ⟨hgo i H hlt p, Pv (i + 1), fun H' p' => ⟨n - (i + 1), by omega, rfl, hlt, p'⟩, fun x H' y => hs i x H H' hlt p y⟩
  · have e : i = n := by omega
    subst e
    exact .inl ⟨hst H p, hd H p⟩
theorem lookN_snoc (xs : NE) (k : NestedKey) (b : Addr) (v : V) (k' : NestedKey) (h : lookN xs k = none) : lookN (xs ++ [(k, b, v)]) k' = if k = k' then some v else lookN xs k' := by
  by_cases e : k = k'
  · subst e
    rw [if_pos rfl]
    have h' : xs.find? (fun x => decide (x.1 = k)) = none := by
      unfold lookN at h
      exact Option.map_eq_none_iff.mp h
    unfold lookN
    rw [List.find?_append, h']
    simp
  · rw [if_neg e]
    unfold lookN
    rw [List.find?_append]
    have : List.find? (fun x : NestedKey × Addr × V => decide (x.1 = k')) [(k, b, v)] = none := by simp [e]
    rw [this]
    simp
theorem NKs.ch {K : Frag} {H H' : Hp} {xs : NE} (k : Ch [] H H') (h : NKs K H xs) : NKs K H' xs := fun x hx => ⟨dp_ch k _ _ (h x hx).1, (h x hx).2⟩
def spNumV (P : Program) (w : World) (K : Frag) : Sp := fun vs H Q _ => ∃ v D x L, vs = [v, .ref D] ∧ VlAt K H v x ∧ NumAt P w K H D L ∧ (∀ t, tgt x = some t → t ∈ L) ∧
  ∀ H' r, Ch [] H H' → NvAt K H' L r x → Q r H'
def spNum (P : Program) (w : World) (K : Frag) (CS : Addr) : Sp := fun vs H Q _ => ∃ sa d xs c ra rs roots, vs = [.ref sa, .ref ra] ∧ StAt P w K CS H sa d xs c ∧ (c.map (·.1)).Nodup ∧ c.length ≤ 40 ∧ SqL K H ra rs ∧ NmsR K H rs roots ∧ roots.length ≤ 40 ∧
  ∀ H' r, Ch [] H H' → Dp K H' r (graphD c roots) → Q r H'
section
variable {P : Program} {w : World} {K : Frag} {mg : Str → Option Value} {base : Heap} {CS CR : Addr}
theorem scNumV : FnScope ["value", "numbers", "target"] ["value", "numbers"] (defScope sNumV) := ⟨rfl, rfl, rfl, by decide +kernel, rfl, by decide +kernel, by decide +kernel⟩
theorem ok_numV {f fT : Addr} {fd fdT : FuncData} (F : Fun K "numbered_value" "numbered_value" sNumV f fd) (T : Txt K mg CS CR) (FT : FnOk P w K mg base CX0 1 fT fdT ["value"] (spTgt K)) (bT : Binds K fdT ["value"] []) (gT : mg "target_of" = some (.ref fT)) (kT : PySem.W.keepIn K (.ref fT) = true) :
    FnOk P w K mg base CX0 2 f fd ["value", "numbers"] (spNumV P w K) := by
  obtain ⟨tk, hR⟩ := T.ref
  refine F.ok scNumV (fun vs H Q E h => ?_) (fun cdv A outer s H vs Q E hr h => ?_)
  · obtain ⟨v, D, x, L, rfl, _⟩ := h
    rfl
  · obtain ⟨v, D, x, L, rfl, hv, hN, ht, k⟩ := h
    refine ⟨_, pss_cons (ps_set (i := 2) scNumV.nd rfl (Or.inl rfl) (pe_call FT hr rfl gT kT bT .nil pass0 (pa_cons (pv 0) pa_nil)))
      (pss_cons (ps_if (pt_cmp (pc_isN (pv 2)) rfl) (pss_one (ps_ret (pv 0))) pss_nil)
      (pss_one (ps_ret (pe_tup (pa_cons (pe_glob (v := .str "ref") rfl hR ⟨_, rfl⟩) (pa_cons (pe_nget hr (pv 1) (pv 2)) pa_nil)))))), ?_⟩
    refine ⟨_, rfl, v, x, rfl, hv, fun t hT => ?_⟩
    refine ⟨_, rfl, _, rfl, ?_⟩
    unfold TgV at hT
    cases x with
    | ref n =>
      have hT : NmAt K H t n := hT
      have hne : ¬ t = .non := by
        obtain ⟨q, rfl, _⟩ := hT
        intro z
        cases z
      rw [decide_eq_false hne]
      refine iteF ?_
      obtain ⟨xs, h1, h2, h3⟩ := hN.ex
      obtain ⟨b, rfl, hb⟩ := id hT
      refine ⟨_, rfl, _, rfl, D, _, rfl, ⟨xs, nmK n, b, h1, h2, rfl, hT.key, (h3 n (ht n rfl)).symm⟩, (by show 2 ≤ sizeLine; decide), fun p hp => ?_⟩
      exact k _ _ (Ch.new hp) ⟨p, rfl, .of upd_same⟩
    | non =>
      obtain rfl : t = .non := hT
      exact iteT ⟨_, rfl, k H v (Ch.refl _ _) hv⟩
    | int i =>
      obtain rfl : t = .non := hT
      exact iteT ⟨_, rfl, k H v (Ch.refl _ _) hv⟩
    | txt z =>
      obtain rfl : t = .non := hT
      exact iteT ⟨_, rfl, k H v (Ch.refl _ _) hv⟩
theorem scNum : FnScope ["state", "roots", "names", "numbers", "things", "name", "fields", "number", "field"] ["state", "roots"] (defScope sNum) := ⟨rfl, rfl, rfl, by decide +kernel, rfl, by decide +kernel, by decide +kernel⟩
theorem ok_num {f fR fF fV : Addr} {fd fdR fdF fdV : FuncData} (F : Fun K "numbered" "numbered" sNum f fd) (T : Txt K mg CS CR) (FR : FnOk P w K mg base CX0 3 fR fdR ["state", "roots"] (spReach P w K CS)) (bR : Binds K fdR ["state", "roots"] []) (gR : mg "reachable" = some (.ref fR)) (kR : PySem.W.keepIn K (.ref fR) = true)
    (FF : FnOk P w K mg base CX0 2 fF fdF ["self", "name"] (spFlds P w K CS)) (bF : Binds K fdF ["self", "name"] []) (mF : Meth K CS "fields" fF)
    (FV : FnOk P w K mg base CX0 2 fV fdV ["value", "numbers"] (spNumV P w K)) (bV : Binds K fdV ["value", "numbers"] []) (gV : mg "numbered_value" = some (.ref fV)) (kV : PySem.W.keepIn K (.ref fV) = true) : FnOk P w K mg base CX0 4 f fd ["state", "roots"] (spNum P w K CS) := by
  refine F.ok scNum (fun vs H Q E h => ?_) (fun cdv A outer s H vs Q E hr h => ?_)
  · obtain ⟨sa, d, xs, c, ra, rs, roots, rfl, _⟩ := h
    rfl
  · obtain ⟨sa, d, xs, c, ra, rs, roots, rfl, S, nd, hlc, hra, hrs, hlr, k⟩ := h
    have hr2 : Room 2 _ := hr.mono (by decide)
    have hu := hu_of hr
    refine ⟨_, pss_cons (ps_set (i := 2) scNum.nd rfl (Or.inl rfl) (pe_call FR hr rfl gR kR bR .nil pass0 (pa_cons (pv 0) (pa_cons (pv 1) pa_nil))))
      (pss_cons (ps_asg (pe_dcN (own := [("number", 7), ("name", 5)]) (g := gTup K 2 (gCons (gName 7) (gCons (gName 5) gNil))) hr rfl scNum.nd (pi_enum (by rfl) T.enumerate (pa_cons (pv 2) pa_nil))
          (blkOk_by (own := [("number", 7), ("name", 5)]) (N := ["state", "roots", "names", "numbers", "things", "name", "fields", "number", "field"]) (sc := defScope sNum) (by decide +kernel))
          (fun _ _ _ _ _ => pg_tup rfl (pgs_cons (pg_name (i := 7) scNum.nd rfl (Or.inl rfl)) (pgs_cons (pg_name (i := 5) scNum.nd rfl (Or.inl rfl)) pgs_nil))) (fun _ _ _ _ _ => pv 5) (fun _ _ _ _ _ => pv 7)) (pg_name (i := 3) scNum.nd rfl (Or.inr rfl)))
      (pss_cons (ps_set (i := 4) scNum.nd rfl (Or.inl rfl) (pe_lst pa_nil))
      (pss_cons (ps_for PassesOwn.never rfl (pi_list (pv 2)) (pg_name (i := 5) scNum.nd rfl (Or.inl rfl))
        (pss_cons (ps_set (i := 6) scNum.nd rfl (Or.inr rfl) (pe_meth (pv 0) T.clS mF FF hr2 bF .nil pass0 (pa_cons (pv 5) pa_nil)))
        (pss_one (ps_expr (pe_bm PySem.F.plainAttrs_list PySem.F.slot_list_append PySem.F.type_list_append mt_append (pv 4)
          (pa_cons (pe_lock (pe_lc (own := [("field", 8)]) (g := gName 8) (tt := tYes) rfl scNum.nd (pi_keys (pv 6))
            (blkOk_by (own := [("field", 8)]) (N := ["state", "roots", "names", "numbers", "things", "name", "fields", "number", "field"]) (sc := defScope sNum) (by decide +kernel))
            (fun _ _ _ _ _ => pg_name (i := 8) scNum.nd rfl (Or.inl rfl)) (fun _ _ _ _ _ => pts_nil)
            (fun _ _ _ _ _ => by exact pe_tup (pa_cons (pv 8) (pa_cons (pe_call FV hr2 rfl gV kV bV .nil pass0 (pa_cons (pe_dget hu (pv 6) (pv 8) (fun _ _ => rfl)) (pa_cons (pv 3) pa_nil))) pa_nil))))) pa_nil))))))
      (pss_one (ps_ret (pe_tup (pa_cons (pe_lc (own := [("name", 5)]) (g := gName 5) (tt := tYes) (te := tNGet K P w (tVar 3) (tVar 5)) rfl scNum.nd (pi_list (pv 1))
            (blkOk_by (own := [("name", 5)]) (N := ["state", "roots", "names", "numbers", "things", "name", "fields", "number", "field"]) (sc := defScope sNum) (by decide +kernel))
            (fun _ _ _ _ _ => pg_name (i := 5) scNum.nd rfl (Or.inl rfl)) (fun _ _ _ _ _ => pts_nil) (fun _ _ _ _ _ => by exact pe_nget hr (pv 3) (pv 5))) (pa_cons (pv 4) pa_nil)))))))), ?_⟩
    -- names = reachable(state, roots)
    refine ⟨_, rfl, _, rfl, sa, d, xs, c, ra, rs, roots, rfl, S, nd, hlc, hra, hrs, hlr, fun H1 pn vn k1 hpn hvn => ?_⟩
    generalize hL : reach c roots = L at hvn
    have RO : ROk c roots L := hL ▸ reach_ok c roots
    have hLl : L.length ≤ 80 := by have := RO.len; omega
    have hvl : vn.length = L.length := Paired.len' hvn
    -- numbers = {name: number for number, name in enumerate(names)}
    refine ⟨_, rfl, pn, vn, rfl, .of hpn, fun D hD => ?_⟩
    refine dc_it (n := vn.length) (fun i H' => ∃ ys : NE, Ch [] H1 H' ∧ H' D = some (NO P w D ys) ∧ NsR K H' ys (L.take i) ∧ (∀ n, lookN ys (nmK n) = if n ∈ L.take i then some (.int (ix L n : Nat)) else none)) ?_ ?_ ?_ ?_ ?_
    · exact ⟨[], Ch.new hD, upd_same, .nil, fun n => by simp [lookN]⟩
    · rintro i H' hi ⟨ys, kk, _⟩
      exact ⟨vn, vn[i], .of (kk _ _ (by simp) hpn), List.getElem?_eq_getElem hi⟩
    · rintro H' ⟨ys, kk, _⟩
      exact ⟨vn, .of (kk _ _ (by simp) hpn), Nat.le_refl _⟩
    · rintro i x H' H2 hi ⟨ys, kk, hD', hk', hlk⟩ ⟨tt, y, rfl, htn, rfl, hy⟩
      have hy' := hy vn (.of (kk _ _ (by simp) hpn))
      have k2 : Ch [] H' _ := Ch.new (M := []) (o := .tup [.int (i : Nat), y]) htn
      obtain ⟨n, hn, hyn⟩ := Paired.get' (hvn.tk (kk.trans k2).tk0) hy'
      obtain ⟨b, rfl, hb⟩ := id hyn
      have hix : ix L n = i := ix_take RO.nd hn
      have hnin : n ∉ L.take i := fun z => by
        obtain ⟨j, hj, e⟩ := List.mem_iff_getElem.mp z
        rw [List.length_take] at hj
        rw [List.getElem_take] at e
        have : ix L n = j := ix_take RO.nd (by rw [List.getElem?_eq_getElem (by omega), e])
        omega
      have hno : lookN ys (nmK n) = none := by rw [hlk, if_neg hnin]
      refine ⟨tt, _, rfl, .of upd_same, rfl, _, _, rfl, _, _, rfl, rfl, rfl, ?_⟩
      refine ⟨_, rfl, _, rfl, ?_⟩
      have hD2 := k2 _ _ (by simp) hD'
      have hl' : ys.length ≤ 80 := by
        have h1 := Paired.len' hk'
        rw [List.length_take] at h1
        omega
      refine ⟨_, ⟨ys, nmK n, b, hD2, (hk'.tk k2.tk0).keys, rfl, hyn.key, small1000 (by omega), rfl⟩, ?_⟩
      have kd : Ch [] H1 _ := (kk.trans k2).new_upd (o := NO P w D (putN ys (nmK n) b (.int (i : Nat)))) hD
      have ep : putN ys (nmK n) b (.int (i : Nat)) = ys ++ [(nmK n, b, .int (i : Nat))] := by
        unfold putN
        rw [hno, if_neg (by simp)]
      have t := TK.upd (K := K) (o := NO P w D (putN ys (nmK n) b (.int (i : Nat)))) (NoTup.no hD2)
      refine ⟨_, kd, upd_same, ?_, fun m => ?_⟩
      · have h1 := ((hk'.tk k2.tk0).add (v := .int (i : Nat)) hyn hno).tk t
        unfold addN at h1
        rw [if_neg hnin] at h1
        rw [take_more hn]
        exact h1
      · rw [ep, lookN_snoc _ _ _ _ _ hno, take_more hn]
        by_cases e : n = m
        · subst e
          rw [if_pos rfl, if_pos (by simp), hix]
        · rw [if_neg (fun z => e (nmK_inj z)), hlk]
          have : m ∈ L.take i ++ [n] ↔ m ∈ L.take i := by
            simp only [List.mem_append, List.mem_singleton]
            exact ⟨fun q => q.elim id fun z => absurd z.symm e, .inl⟩
          by_cases q : m ∈ L.take i
          · rw [if_pos q, if_pos (this.mpr q)]
          · rw [if_neg q, if_neg (fun z => q (this.mp z))]
    · rintro H2 ⟨ys, kk, hD2, hk2, hlk⟩
      have hN2 : NumAt P w K H2 D L := ⟨ys, .inl hD2, hk2.keys, fun n hn => by rw [hlk, hvl, List.take_length, if_pos hn]⟩
      have kH2 : Ch [] H H2 := k1.trans kk
      -- things = []
      refine ⟨by decide, fun t3 ht3 => ?_⟩
      have k3 : Ch [] H2 _ := Ch.new (M := []) (o := .lst []) ht3
      have kH3 : Ch [] H (upd H2 t3 (.lst [])) := kH2.trans k3
      have k13 : Ch [] H1 (upd H2 t3 (.lst [])) := kk.trans k3
      have ht3H : H t3 = none := kH2.free ht3
      have hpn3 : upd H2 t3 (.lst []) pn = some (.lst vn) := k13 _ _ (by simp) hpn
      have hpt : pn ≠ t3 := fun z => by
        have := kk _ _ (by simp) hpn
        rw [z, ht3] at this
        cases this
      have hsat : sa ≠ t3 := by
        obtain ⟨dx, ho⟩ := S.ob
        exact ne_of_none ho ht3H
      -- for name in names
      refine ⟨_, rfl, pn, rfl, ⟨vn, .of hpn3⟩, for_list (K := K) (a := pn) (xs := vn) (fun i σ H' => ∃ (o5 o6 : Option V) (ts : List V), σ = [some (.ref sa), some (.ref ra), some (.ref pn), some (.ref D), some (.ref t3), o5, o6, none, none] ∧
        Ch [t3] (upd H2 t3 (.lst [])) H' ∧ H' t3 = some (.lst ts) ∧ Paired (ThAt K c L t3 H') ts (L.take i)) ?_ ?_ ?_ ?_⟩
      · exact ⟨none, none, [], rfl, Ch.refl _ _, upd_same, .nil⟩
      · rintro i σ H' _ ⟨_, _, _, _, kt, _⟩
        exact .of (kt _ _ (by simpa using hpt) hpn3)
      · rintro i y σ H' hi ⟨o5, o6, ts, rfl, kt, hts, hT⟩
        have kH' : Ch [] H H' := Ch.drop ((kH3.any (M := [t3])).trans kt) ht3H
        have k2' : Ch [] H2 H' := Ch.drop ((k3.any (M := [t3])).trans kt) ht3
        obtain ⟨n, hn, hyn⟩ := Paired.get' (hvn.tk (kk.trans k2').tk0) hi
        have hnL : n ∈ L := List.mem_of_getElem? hn
        have S' := S.ch kH'
        obtain ⟨dx', ho'⟩ := S'.ob
        refine ⟨_, rfl, sa, dx', _, rfl, ho', rfl, _, rfl, sa, d, xs, c, y, n, rfl, S', hyn, nd, by omega, fun H4 dd kvs k4 hdn hdd hF => ?_⟩
        have hts4 : H4 t3 = some (.lst ts) := k4 _ _ (by simp) hts
        have hdt : dd ≠ t3 := fun z => by rw [z, hts] at hdn; cases hdn
        have N4 := hN2.ch (k2'.trans k4)
        -- things.append([..])
        refine ⟨_, rfl, .inl ⟨rfl, _, .of hts4⟩, ?_⟩
        refine ⟨dd, _, hdd, True.intro, fun od => ?_⟩
        have tf : TK K H4 (upd H4 dd (.frz od (.dK kvs))) := TK.upd (NoTup.dK hdd)
        have ndF : ((flds c n).map (·.1)).Nodup := fldsL_nodup (srtC_nodup nd)
        refine ⟨_, rfl, dd, od, rfl, .inl ⟨kvs, upd_same, fun D3 hD3 => ?_⟩⟩
        have hD3d : D3 ≠ dd := fun z => by rw [z, upd_same] at hD3; cases hD3
        have hD3' : H4 D3 = none := by rw [← hD3, upd_ne hD3d]
        have hDdd : D ≠ dd := fun z => by
          have h1 : H' D = some (NO P w D ys) := k2' _ _ (by simp) hD2
          rw [z, hdn] at h1
          cases h1
        have Nf : NumAt P w K (upd H4 dd (.frz od (.dK kvs))) D L := by
          have h1 : H4 D = some (NO P w D ys) := k4 _ _ (by simp) (k2' _ _ (by simp) hD2)
          have h2 := (hk2.tk (k2'.trans k4).tk0).tk tf
          exact ⟨ys, .inl (by rw [upd_ne hDdd]; exact h1), h2.keys, fun n hn => by rw [hlk, hvl, List.take_length, if_pos hn]⟩
        have hkl : kvs.length = (flds c n).length := Paired.len' hF
        refine lc_it (n := kvs.length) (fun i H' => ∃ acc, Ch [D3] (upd H4 dd (.frz od (.dK kvs))) H' ∧ H' D3 = some (.lst acc) ∧ Paired (FtAt K H' L) acc ((flds c n).take i)) ?_ ?_ ?_ ?_ ?_
        · exact ⟨[], Ch.new hD3, upd_same, .nil⟩
        · rintro i H' hi ⟨acc, kq, _⟩
          exact ⟨kq _ _ (by simpa using hD3d.symm) upd_same, hi⟩
        · rintro H' ⟨acc, kq, _⟩
          exact ⟨kq _ _ (by simpa using hD3d.symm) upd_same, Nat.le_refl _⟩
        · rintro j x G G2 hj ⟨acc, kq, hacc, hA⟩ ⟨rfl, ky, vv, hkv, rfl⟩
          have kq0 : Ch [] (upd H4 dd (.frz od (.dK kvs))) G2 := Ch.drop kq hD3
          have hFG := (hF.tk tf).tk (kq0.tk0 (K := K))
          obtain ⟨g, hg, hg1, hgv⟩ := Paired.get' hFG hkv
          have hg1 : ky = Sum.inr g.1 := hg1
          subst hg1
          have hgm : g ∈ flds c n := List.mem_of_getElem? hg
          obtain ⟨v', ev, hv'⟩ := hFG.some ndF hgm
          have hfz : G2 dd = some (.frz od (.dK kvs)) := kq0 _ _ (by simp) upd_same
          refine ⟨rfl, ?_⟩
          refine ⟨_, rfl, ?_⟩
          refine ⟨_, rfl, _, rfl, dd, v', rfl, .inl ⟨kvs, Sum.inr g.1, .inr ⟨od, hfz⟩, rfl, ev.symm⟩, _, rfl, v', D, g.2, L, rfl, hv', Nf.ch kq0, RO.cl n hnL g hgm, fun G3 r kr hr' => ?_⟩
          refine ⟨(by show 2 ≤ sizeLine; decide), fun q hq => ?_⟩
          have kq2 : Ch [] G3 _ := Ch.new (M := []) (o := .tup [.str g.1, r]) hq
          have haccG : upd G3 q (.tup [.str g.1, r]) D3 = some (.lst acc) := kq2 _ _ (by simp) (kr _ _ (by simp) hacc)
          refine ⟨acc, haccG, ?_, ?_⟩
          · have h1 := Paired.len' hA
            rw [List.length_take] at h1
            exact small1000 (by have := fldsL_len (srtC c) n; have h2 := srtC_len c; unfold flds at h1; omega)
          · have t := TK.upd (K := K) (o := .lst (acc ++ [.ref q])) (NoTup.lst haccG)
            refine ⟨_, ((kq.trans kr.any).trans kq2.any).then_upd (by simp), upd_same, ?_⟩
            rw [take_more hg]
            exact Paired.snoc' (Paired.imp' (fun _ _ z => ((z.tk kr.tk0).tk kq2.tk0).tk t) hA) ⟨q, r, rfl, t _ _ (.of upd_same), (hr'.tk kq2.tk0).tk t⟩
        · rintro G ⟨acc, kq, hacc, hA⟩
          rw [hkl, List.take_length] at hA
          have kq0 : Ch [] (upd H4 dd (.frz od (.dK kvs))) G := Ch.drop kq hD3
          have hfz : G dd = some (.frz od (.dK kvs)) := kq0 _ _ (by simp) upd_same
          refine ⟨hfz, ?_⟩
          have k5 : Ch [] H4 (upd G dd (.dK kvs)) := Ch.unlock hdd kq0
          have ts5 : upd G dd (.dK kvs) t3 = some (.lst ts) := k5 _ _ (by simp) hts4
          have t5 : TK K G (upd G dd (.dK kvs)) := TK.upd (.some hfz (fun _ z => by cases z) (fun _ _ z => by cases z))
          have hD3t : D3 ≠ t3 := fun z => by rw [z, hts4] at hD3'; cases hD3'
          refine ⟨t3, ts, .ref D3, rfl, rfl, ts5, ?_, ?_⟩
          · have h1 := Paired.len' hT
            rw [List.length_take] at h1
            exact small1000 (by omega)
          · have t6 := TK.upd (K := K) (o := .lst (ts ++ [.ref D3])) (NoTup.lst ts5)
            have kk5 : Ch [] H' (upd G dd (.dK kvs)) := k4.trans k5
            refine ⟨_, _, _, rfl, (kt.trans kk5.any).then_upd (by simp), upd_same, ?_⟩
            rw [take_more hn]
            refine Paired.snoc' (Paired.imp' (fun _ _ z => (z.ch kk5.any kk5.tk0).ch (Ch.upd (by simp)) t6) hT) ⟨D3, acc, rfl, hD3t, ?_, Paired.imp' (fun _ _ z => (z.tk t5).tk t6) hA⟩
            rw [upd_ne hD3t, upd_ne hD3d]
            exact hacc
      · rintro σ H' ⟨o5, o6, ts, rfl, kt, hts, hT⟩
        rw [hvl, List.take_length] at hT
        have kH' : Ch [] H H' := Ch.drop ((kH3.any (M := [t3])).trans kt) ht3H
        have k2' : Ch [] H2 H' := Ch.drop ((k3.any (M := [t3])).trans kt) ht3
        have N' := hN2.ch k2'
        -- return ([..], things)
        refine ⟨_, rfl, ra, rfl, ⟨rs, kH'.sqL (by simp) hra⟩, fun D5 hD5 => ?_⟩
        refine lc_list (K := K) (a := ra) (xs := rs) (fun i G => ∃ acc, Ch [] H' G ∧ G D5 = some (.lst acc) ∧ acc = (roots.take i).map fun n => V.int (ix L n : Nat)) ?_ ?_ ?_ ?_
        · exact ⟨[], Ch.new hD5, upd_same, rfl⟩
        · rintro i G _ ⟨acc, kg, _⟩
          exact (kH'.trans kg).sqL (by simp) hra
        · rintro i y G hi ⟨acc, kg, hacc, rfl⟩
          obtain ⟨n, hn, hyn⟩ := Paired.get' (hrs.tk (kH'.trans kg).tk0) hi
          obtain ⟨b, rfl, hb⟩ := id hyn
          have NG := N'.ch kg
          obtain ⟨zs, h1, h2, h3⟩ := NG.ex
          have hnr : n ∈ roots := List.mem_of_getElem? hn
          refine ⟨rfl, _, rfl, _, rfl, D, _, rfl, ⟨zs, nmK n, b, h1, h2, rfl, hyn.key, (h3 n (RO.rts n hnr)).symm⟩, _, hacc, ?_, ?_⟩
          · rw [List.length_map, List.length_take]
            exact small1000 (by omega)
          · refine ⟨_, kg.new_upd hD5, upd_same, ?_⟩
            rw [take_more hn, List.map_append]
            rfl
        · rintro G ⟨acc, kg, hacc, rfl⟩
          have hrl : rs.length = roots.length := Paired.len' hrs
          rw [hrl, List.take_length] at hacc
          have htsG : G t3 = some (.lst ts) := kg _ _ (by simp) hts
          refine ⟨_, rfl, (by show 2 ≤ sizeLine; decide), fun q hq => ?_⟩
          have kq : Ch [] G _ := Ch.new (M := []) (o := .tup [.ref D5, .ref t3]) hq
          refine k _ _ ((kH'.trans kg).trans kq) ?_
          unfold graphD
          rw [hL]
          refine .tup (.of upd_same) (.cons (.lst (.of (kq _ _ (by simp) hacc)) ?_) (.cons (.lst (.of (kq _ _ (by simp) htsG)) ?_) .nil))
          · have : ∀ l : List Nm, DpAll K (upd G q (.tup [.ref D5, .ref t3])) (l.map fun n => V.int (ix L n : Nat)) (l.map fun n => PyData.int (ix L n : Nat)) := fun l => by
              induction l with
              | nil => exact .nil
              | cons a r ih => exact .cons (.int _) ih
            exact this roots
          · have kg' := kg.trans kq
            exact dpAll_of (fun _ _ z => (z.ch kg'.any kg'.tk0).dp) hT
end
end K40

namespace K40
open PySem PySem.Spec PyProof.Rows L2
open PySem.W (Frag)
/-! ### a replica -/
def rf7 (p c m : Int) (sa rl pl ml : Addr) : List (Str × V) := [("peer", .int p), ("clock", .int c), ("made", .int m), ("state", .ref sa), ("roots", .ref rl), ("pending", .ref pl), ("messages", .ref ml)]
structure RA where
  r : Addr
  sa : Addr
  d : Addr
  rl : Addr
  pl : Addr
structure RS where
  peer : Int
  clk : Int
  mde : Int
  c : Cs
  roots : List Nm
  pend : List Chg
def RA.M (a : RA) : List Addr := [a.r, a.d, a.rl, a.pl]
structure RepAt (P : Program) (w : World) (K : Frag) (CS CR : Addr) (H : Hp) (a : RA) (s : RS) : Prop where
  ob : ∃ dx ml, H a.r = some (.ins CR dx (rf7 s.peer s.clk s.mde a.sa a.rl a.pl ml))
  st : ∃ xs, StAt P w K CS H a.sa a.d xs s.c
  ro : ∃ rs, H a.rl = some (.lst rs) ∧ NmsR K H rs s.roots
  pe : ∃ ps, H a.pl = some (.lst ps) ∧ Paired (ChAt K H) ps s.pend
  ne : a.rl ≠ a.pl
  nr : a.r ≠ a.sa
section
variable {P : Program} {w : World} {K : Frag} {CS CR : Addr} {H H' : Hp} {a : RA} {s : RS}
theorem RepAt.ch (R : RepAt P w K CS CR H a s) (k : Ch [] H H') : RepAt P w K CS CR H' a s := by
  obtain ⟨dx, ml, h1⟩ := R.ob
  obtain ⟨xs, h2⟩ := R.st
  obtain ⟨rs, h3, h4⟩ := R.ro
  obtain ⟨ps, h5, h6⟩ := R.pe
  exact ⟨⟨dx, ml, k _ _ (by simp) h1⟩, ⟨xs, h2.ch k⟩, ⟨rs, k _ _ (by simp) h3, h4.tk k.tk0⟩, ⟨ps, k _ _ (by simp) h5, Paired.imp' (fun _ _ z => z.tk k.tk0) h6⟩, R.ne, R.nr⟩
theorem RepAt.noTup (R : RepAt P w K CS CR H a s) : ∀ b ∈ a.M, NoTup H b := fun b hb => by
  obtain ⟨dx, ml, h1⟩ := R.ob
  obtain ⟨xs, h2⟩ := R.st
  obtain ⟨rs, h3, h4⟩ := R.ro
  obtain ⟨ps, h5, h6⟩ := R.pe
  simp only [RA.M, List.mem_cons, List.not_mem_nil, or_false] at hb
  rcases hb with rfl | rfl | rfl | rfl
  · exact .ins h1
  · exact .no h2.dc
  · exact .lst h3
  · exact .lst h5
theorem RepAt.tk (R : RepAt P w K CS CR H a s) (k : Ch a.M H H') : TK K H H' := k.tk R.noTup
end
theorem Ch.one {p : Addr} {M : List Addr} {H H' : Hp} (k : Ch [p] H H') (h : p ∈ M) : Ch M H H' := k.mono fun x hx => by
  rw [List.mem_singleton] at hx
  rw [hx]
  exact h
def kn (s : RS) (n : Nm) : Bool := decide (n = (0, 0)) || (decide (n.1 = s.peer) && decide (n.2 < s.mde)) || decide (n ∈ mention s.c)
/-- a replica is small and sound -/
structure SOk (s : RS) : Prop where
  nd : (s.c.map (·.1)).Nodup
  sm : ∀ n ∈ mention s.c, Sm n
  lc : s.c.length ≤ 30
  lr : s.roots.length ≤ 30
  lp : s.pend.length ≤ 30
def RS.chg (s : RS) (n : Nm) (f : Str) (x : Vl) : Chg := ⟨(s.clk + 1, s.peer), n, f, x⟩
def RS.note (s : RS) (n : Nm) (f : Str) (x : Vl) : RS := { s with clk := s.clk + 1, c := takeC s.c (s.chg n f x), pend := s.pend ++ [s.chg n f x] }
def RS.start (p : Int) : RS := ⟨p, 0, if p = 0 then 1 else 0, [], [(0, 0)], []⟩
def spRI (P : Program) (w : World) (K : Frag) (CS CR : Addr) : Sp := fun vs H Q _ => ∃ (x dx : Addr) (p : Int), vs = [.ref x, .int p] ∧ H x = some (.ins CR dx []) ∧ 0 ≤ p ∧ p < 8 ∧
  ∀ H' a, a.r = x → Ch [x] H H' → RepAt P w K CS CR H' a (RS.start p) → H a.sa = none → H a.d = none → H a.rl = none → H a.pl = none → Q .non H'
def spKnows (P : Program) (w : World) (K : Frag) (CS CR : Addr) : Sp := fun vs H Q _ => ∃ a s nv n, vs = [.ref a.r, nv] ∧ RepAt P w K CS CR H a s ∧ SOk s ∧ NmAt K H nv n ∧ ∀ H', Ch [] H H' → Q (.bl (kn s n)) H'
def spBegin (P : Program) (w : World) (K : Frag) (CS CR : Addr) : Sp := fun vs H Q _ => ∃ a s, vs = [.ref a.r] ∧ RepAt P w K CS CR H a s ∧
  ∀ H' v, Ch a.M H H' → RepAt P w K CS CR H' a { s with mde := s.mde + 1 } → NmAt K H' v (s.peer, s.mde) → Q v H'
def spNote (P : Program) (w : World) (K : Frag) (CS CR : Addr) : Sp := fun vs H Q _ => ∃ a s nv n f vv x, vs = [.ref a.r, nv, .str f, vv] ∧ RepAt P w K CS CR H a s ∧ SOk s ∧ NmAt K H nv n ∧ VlAt K H vv x ∧
  ∀ H' v, Ch a.M H H' → RepAt P w K CS CR H' a (s.note n f x) → ChAt K H' v (s.chg n f x) → Q v H'
def dropR (roots : List Nm) (n : Nm) : List Nm := if n = (0, 0) then roots else roots.filter fun m => decide (m ≠ n)
def spDrop (P : Program) (w : World) (K : Frag) (CS CR : Addr) : Sp := fun vs H Q _ => ∃ a s nv n, vs = [.ref a.r, nv] ∧ RepAt P w K CS CR H a s ∧ s.roots.Nodup ∧ NmAt K H nv n ∧
  ∀ H', Ch a.M H H' → RepAt P w K CS CR H' a { s with roots := dropR s.roots n } → Q (.bl (decide (n ∈ s.roots) && decide (n ≠ (0, 0)))) H'
def spGraph (P : Program) (w : World) (K : Frag) (CS CR : Addr) : Sp := fun vs H Q _ => ∃ a s, vs = [.ref a.r] ∧ RepAt P w K CS CR H a s ∧ SOk s ∧ ∀ H' r, Ch [] H H' → Dp K H' r (graphD s.c s.roots) → Q r H'
section
variable {P : Program} {w : World} {K : Frag} {mg : Str → Option Value} {base : Heap} {CS CR : Addr}
theorem scRI : FnScope ["self", "peer"] ["self", "peer"] (defScope sRI) := ⟨rfl, rfl, rfl, by decide +kernel, rfl, by decide +kernel, by decide +kernel⟩
theorem ok_RI {f fS : Addr} {fd fdS : FuncData} (F : Fun K "__init__" "Replica.__init__" sRI f fd) (T : Txt K mg CS CR) (M : Mk K CS fS) (FS : FnOk P w K mg base CX0 1 fS fdS ["self"] (spSI P w CS)) (bS : Binds K fdS ["self"] []) :
    FnOk P w K mg base CX0 3 f fd ["self", "peer"] (spRI P w K CS CR) := by
  obtain ⟨t8, hP⟩ := T.peers
  obtain ⟨ra, hR, hRt⟩ := T.root
  refine F.ok scRI (fun vs H Q E h => ?_) (fun cdv A outer s H vs Q E hr h => ?_)
  · obtain ⟨x, dx, p, rfl, _⟩ := h
    rfl
  · obtain ⟨x, dx, p, rfl, hx, hp0, hp8, k⟩ := h
    refine ⟨_, pss_cons (ps_if (pt_not (pt_chain op_le op_lt pe_int (pv 1) (pe_glob (v := .int 8) rfl hP ⟨_, rfl⟩))) (pss_one ps_never) pss_nil)
      (pss_cons (ps_fld (pv 0) (pv 1) rfl)
      (pss_cons (ps_fld (pv 0) pe_int rfl)
      (pss_cons (ps_fld (pv 0) (pe_callTy call_int1 (by rfl) T.int (by decide +kernel) (pa_cons (pe_cmpR op_eq (pv 1) pe_int (nomark _)) pa_nil)) rfl)
      (pss_cons (ps_fld (pv 0) (pe_make0 M FS hr rfl T.mgS bS .nil pass0) rfl)
      (pss_cons (ps_fld (pv 0) (pe_lst (pa_cons (pe_glob (v := .ref ra) rfl hR rfl) pa_nil)) rfl)
      (pss_cons (ps_fld (pv 0) (pe_lst pa_nil) rfl)
      (pss_one (ps_fld (pv 0) pe_nnew rfl)))))))), ?_⟩
    refine ⟨_, rfl, _, _, rfl, rfl, _, rfl, ?_⟩
    rw [decide_eq_true hp0]
    refine ⟨_, _, rfl, rfl, _, rfl, ?_⟩
    rw [decide_eq_true hp8]
    refine iteF ?_
    -- self.peer = peer; self.clock = 0
    refine ⟨_, rfl, _, rfl, x, CR, dx, [], rfl, hx, T.clR, T.nPeer, (by show 0 < 1000; decide), ?_⟩
    refine ⟨_, rfl, x, CR, dx, _, rfl, upd_same, T.clR, T.nClock, (by show 1 < 1000; decide), ?_⟩
    -- self.made
    refine ⟨_, rfl, rfl, .inr ⟨_, rfl, ?_⟩⟩
    refine ⟨_, rfl, x, CR, dx, _, rfl, upd_same, T.clR, T.nMade, (by show 2 < 1000; decide), ?_⟩
    have hm : (if (decide (V.int p = V.int 0)) = true then (1 : Int) else 0) = if p = 0 then 1 else 0 := by
      by_cases z : p = 0
      · rw [z]
        simp
      · rw [if_neg z, if_neg (by simpa using z)]
    rw [hm]
    -- self.state = State()
    intro sx sdx nsx nsd nex
    refine ⟨sx, sdx, rfl, upd_same, fun d hd => ⟨rfl, ?_⟩⟩
    rw [upd_upd, upd_upd] at nsx nsd hd ⊢
    have old : ∀ {b : Addr} {o : HO} {H1 : Hp}, upd H1 x o b = none → H1 b = none ∧ b ≠ x := fun {b o H1} e => by
      by_cases z : b = x
      · rw [z, upd_same] at e
        cases e
      · rw [upd_ne z] at e
        exact ⟨e, z⟩
    have sxx := (old nsx).2
    have hsx := (old nsx).1
    have sdx' := (old nsd).2
    have hsdx := (old nsd).1
    have dsx : d ≠ sx := fun z => by rw [z, upd_same] at hd; cases hd
    have dsd : d ≠ sdx := fun z => by rw [z, upd_ne nex, upd_same] at hd; cases hd
    rw [upd_ne dsx, upd_ne dsd] at hd
    have dxx := (old hd).2
    have hdH := (old hd).1
    refine ⟨_, rfl, x, CR, dx, [(("peer" : Str), V.int p), (("clock" : Str), V.int 0), (("made" : Str), V.int (if p = 0 then 1 else 0))], rfl, ?_, T.clR, T.nState, (by show 3 < 1000; decide), ?_⟩
    · rw [upd_ne sxx.symm, upd_ne dxx.symm, upd_ne sxx.symm, upd_ne sdx'.symm, upd_same]
      rfl
    -- self.roots = [ROOT]
    refine ⟨(by show 1 ≤ sizeLine; decide), fun rl hrl => ?_⟩
    refine ⟨_, rfl, x, CR, dx, [(("peer" : Str), V.int p), (("clock" : Str), V.int 0), (("made" : Str), V.int (if p = 0 then 1 else 0)), (("state" : Str), V.ref sx)], rfl, ?_, T.clR, T.nRoots, (by show 4 < 1000; decide), ?_⟩
    · rw [upd_ne (old hrl).2.symm, upd_same]
      rfl
    refine ⟨by decide, fun pl hpl => ?_⟩
    refine ⟨_, rfl, x, CR, dx, [(("peer" : Str), V.int p), (("clock" : Str), V.int 0), (("made" : Str), V.int (if p = 0 then 1 else 0)), (("state" : Str), V.ref sx), (("roots" : Str), V.ref rl)], rfl, ?_, T.clR, T.nPending, (by show 5 < 1000; decide), ?_⟩
    · rw [upd_ne (old hpl).2.symm, upd_same]
      rfl
    intro ml hml
    refine ⟨_, rfl, x, CR, dx, [(("peer" : Str), V.int p), (("clock" : Str), V.int 0), (("made" : Str), V.int (if p = 0 then 1 else 0)), (("state" : Str), V.ref sx), (("roots" : Str), V.ref rl), (("pending" : Str), V.ref pl)], rfl, ?_, T.clR, T.nMessages, (by show 6 < 1000; decide), ?_⟩
    · rw [upd_ne (old hml).2.symm, upd_same]
      rfl
    have c0 : ∀ o, Ch [x] H (upd H x o) := fun o => Ch.upd (by simp)
    have c1 := fun o o1 o2 o3 o4 => ((((c0 o).new_upd (o := o1) hsdx).new_upd (o := o2) hsx).new_upd (o := o3) hdH).new_upd (o := o4) hsx
    have c2 := fun o o1 o2 o3 o4 o5 => (c1 o o1 o2 o3 o4).then_upd (o := o5) (List.mem_singleton.mpr rfl)
    have rlx : rl ≠ x := (old hrl).2
    have plx : pl ≠ x := (old hpl).2
    have mlx : ml ≠ x := (old hml).2
    have rlH : H rl = none := (c2 _ _ _ _ _ _).freeM (by simpa using rlx) hrl
    have c3 := fun o o1 o2 o3 o4 o5 o6 o7 => ((c2 o o1 o2 o3 o4 o5).new_upd (o := o6) rlH).then_upd (o := o7) (List.mem_singleton.mpr rfl)
    have plH : H pl = none := (c3 _ _ _ _ _ _ _ _).freeM (by simpa using plx) hpl
    have c4 := fun o o1 o2 o3 o4 o5 o6 o7 o8 o9 => ((c3 o o1 o2 o3 o4 o5 o6 o7).new_upd (o := o8) plH).then_upd (o := o9) (List.mem_singleton.mpr rfl)
    have mlH : H ml = none := (c4 _ _ _ _ _ _ _ _ _ _).freeM (by simpa using mlx) hml
    have c5 := fun o o1 o2 o3 o4 o5 o6 o7 o8 o9 p1 p2 => ((c4 o o1 o2 o3 o4 o5 o6 o7 o8 o9).new_upd (o := p1) mlH).then_upd (o := p2) (List.mem_singleton.mpr rfl)
    have rlsx : sx ≠ rl := fun z => by
      have := (old hrl).1
      rw [← z, upd_same] at this
      cases this
    have rld : d ≠ rl := fun z => by
      have := (old hrl).1
      rw [← z, upd_ne dsx, upd_same] at this
      cases this
    have plrl : rl ≠ pl := fun z => by
      have := (old hpl).1
      rw [← z, upd_same] at this
      cases this
    have plsx : sx ≠ pl := fun z => by
      have := (old hpl).1
      rw [← z, upd_ne rlsx, upd_ne sxx, upd_same] at this
      cases this
    have pld : d ≠ pl := fun z => by
      have := (old hpl).1
      rw [← z, upd_ne rld, upd_ne dxx, upd_ne dsx, upd_same] at this
      cases this
    have mlsx : sx ≠ ml := fun z => by
      have := (old hml).1
      rw [← z, upd_ne plsx, upd_ne sxx, upd_ne rlsx, upd_ne sxx, upd_same] at this
      cases this
    have mld : d ≠ ml := fun z => by
      have := (old hml).1
      rw [← z, upd_ne pld, upd_ne dxx, upd_ne rld, upd_ne dxx, upd_ne dsx, upd_same] at this
      cases this
    have mlrl : rl ≠ ml := fun z => by
      have := (old hml).1
      rw [← z, upd_ne plrl, upd_ne rlx, upd_same] at this
      cases this
    have mlpl : pl ≠ ml := fun z => by
      have := (old hml).1
      rw [← z, upd_same] at this
      cases this
    refine k _ ⟨x, sx, d, rl, pl⟩ rfl (c5 _ _ _ _ _ _ _ _ _ _ _ _) ⟨⟨dx, ml, upd_same⟩, ⟨[], ⟨sdx, ?_⟩, ?_, .nil⟩, ⟨[.ref ra], ?_, .cons ⟨ra, rfl, hRt _⟩ .nil⟩, ⟨[], ?_, .nil⟩, plrl, sxx.symm⟩ hsx hdH rlH plH
    · rw [upd_ne sxx, upd_ne mlsx, upd_ne sxx, upd_ne plsx, upd_ne sxx, upd_ne rlsx, upd_ne sxx, upd_same]
    · rw [upd_ne dxx, upd_ne mld, upd_ne dxx, upd_ne pld, upd_ne dxx, upd_ne rld, upd_ne dxx, upd_ne dsx, upd_same]
    · rw [upd_ne rlx, upd_ne mlrl, upd_ne rlx, upd_ne plrl, upd_ne rlx, upd_same]
    · rw [upd_ne plx, upd_ne mlpl, upd_ne plx, upd_same]
end
end K40

namespace K40
open PySem PySem.Spec PyProof.Rows L2
open PySem.W (Frag)
theorem put_made (p c m : Int) (sa rl pl ml : Addr) (z : Int) : putF "made" (.int z) (rf7 p c m sa rl pl ml) = rf7 p c z sa rl pl ml := by rfl
theorem put_clock (p c m : Int) (sa rl pl ml : Addr) (z : Int) : putF "clock" (.int z) (rf7 p c m sa rl pl ml) = rf7 p z m sa rl pl ml := by rfl
theorem room65 {k : Nat} {A : Around} (hr : Room k A) : A.units + 65 < cLine := by have := hr.un; omega
theorem dec_int (a b : Int) : decide (V.int a = V.int b) = decide (a = b) := by
  by_cases h : a = b
  · rw [h]
    simp
  · rw [decide_eq_false h, decide_eq_false (fun z => h (V.int.inj z))]
theorem erase_place (ns : List Nm) (nd : ns.Nodup) (n : Nm) (h : n ∈ ns) : ∃ j, PySem.SeqAt.dataPlace (ns.map nmD) (nmD n) = some j ∧ ns.eraseIdx j = ns.filter (fun m => decide (m ≠ n)) := by
  refine ⟨ns.idxOf n, ?_, ?_⟩
  · unfold PySem.SeqAt.dataPlace
    rw [List.findIdx?_map]
    have : ((fun y => PyData.eqv y (nmD n)) ∘ nmD) = fun m => m == n := by
      funext m
      show PyData.eqv (nmD m) (nmD n) = (m == n)
      rw [eqv_nm, Bool.eq_iff_iff]
      simp
    rw [this]
    rw [List.findIdx?_eq_some_iff_findIdx_eq]
    exact ⟨List.idxOf_lt_length_iff.mpr h, rfl⟩
  · rw [← List.erase_eq_eraseIdx_of_idxOf rfl, nd.erase_eq_filter]
    congr 1
    funext m
    by_cases z : m = n
    · simp [z]
    · simp [z]
theorem plain_nms (ns : List Nm) : PyData.plainAll (ns.map nmD) = true := by
  induction ns with
  | nil => rfl
  | cons a r ih =>
    rw [List.map_cons, PyData.plainAll, ih]
    rfl
theorem Paired.eraseIdx' {α β : Type} {R : α → β → Prop} : ∀ {xs : List α} {ys : List β} (j : Nat), Paired R xs ys → Paired R (xs.eraseIdx j) (ys.eraseIdx j)
  | _, _, _, .nil => .nil
  | _, _, 0, .cons a r => r
  | _, _, j + 1, .cons a r => .cons a (Paired.eraseIdx' j r)
section
variable {P : Program} {w : World} {K : Frag} {mg : Str → Option Value} {base : Heap} {CS CR : Addr}
theorem scKnows : FnScope ["self", "name"] ["self", "name"] (defScope sKnows) := ⟨rfl, rfl, rfl, by decide +kernel, rfl, by decide +kernel, by decide +kernel⟩
theorem ok_knows {f fN : Addr} {fd fdN : FuncData} (F : Fun K "knows" "Replica.knows" sKnows f fd) (T : Txt K mg CS CR) (FN : FnOk P w K mg base CX0 2 fN fdN ["self"] (spNames P w K CS)) (bN : Binds K fdN ["self"] []) (mN : Meth K CS "names" fN) :
    FnOk P w K mg base CX0 3 f fd ["self", "name"] (spKnows P w K CS CR) := by
  obtain ⟨ra, hR, hRt⟩ := T.root
  refine F.ok scKnows (fun vs H Q E h => ?_) (fun cdv A outer s H vs Q E hr h => ?_)
  · obtain ⟨a, s, nv, n, rfl, _⟩ := h
    rfl
  · obtain ⟨a, s, nv, n, rfl, R, O, hn, k⟩ := h
    obtain ⟨dx, ml, ho⟩ := R.ob
    obtain ⟨xs, S⟩ := R.st
    obtain ⟨sdx, hs⟩ := S.ob
    refine ⟨_, pss_one (ps_ret (pe_or (pe_cmpR (op_eqD hr.units) (pv 1) (pe_glob (v := .ref ra) rfl hR rfl) (nomark _))
      (pe_or (pe_and (pe_cmpR op_eq (pe_ix ix_tup (pv 1) pe_int (fun _ _ => rfl)) (pe_fld (pv 0) rfl) (nomark _)) (pe_one (pe_cmpR op_lt (pe_ix ix_tup (pv 1) pe_int (fun _ _ => rfl)) (pe_fld (pv 0) rfl) (nomark _))))
      (pe_one (pe_cmpR (op_inD (room65 hr)) (pv 1) (pe_meth0 (pe_fld (pv 0) rfl) T.clS mN FN hr bN .nil pass0) (by rfl)))))), ?_⟩
    obtain ⟨b, rfl, hb⟩ := id hn
    have hroot : NmAt K H (.ref ra) (0, 0) := ⟨ra, rfl, hRt H⟩
    refine ⟨_, rfl, nmD n, nmD (0, 0), hn.dp, hroot.dp, shaped_nm _, shaped_nm _, _, rfl, ?_⟩
    have kk := k H (Ch.refl _ _)
    rw [eqv_nm]
    unfold kn at k kk
    cases c1 : decide (n = (0, 0)) with
    | true =>
      rw [c1] at kk
      exact iteT kk
    | false =>
      rw [c1] at k kk
      refine iteF ?_
      refine ⟨_, rfl, b, _, _, _, rfl, rfl, hb, rfl, _, rfl, a.r, CR, dx, _, _, rfl, ho, T.clR, T.nPeer, rfl, rfl, _, rfl, ?_⟩
      rw [dec_int]
      have third : (decide (n.1 = s.peer) && decide (n.2 < s.mde)) = false → tOp (rInD K) (tVar 1) (tMeth CS "names" (spNames P w K CS) [] E (tFld K (tVar 0) "state") tNil) [some (.ref a.r), some (.ref b)] H Q := fun z => by
        rw [z] at k
        refine ⟨_, rfl, _, rfl, a.r, CR, dx, _, _, rfl, ho, T.clR, T.nState, rfl, a.sa, sdx, _, rfl, hs, rfl, a.sa, a.d, xs, s.c, rfl, S, O.nd, O.sm, O.lc, fun H' p vs ns k1 hp hv hm => ?_⟩
        refine ⟨nmD n, ns.map nmD, (hn.tk k1.tk0).dp, .lst (.of hp) hv.dp, shaped_nm _, shaped_nms _, ?_⟩
        rw [any_nms]
        have := k H' k1
        have e : decide (n ∈ ns) = decide (n ∈ mention s.c) := by
          rw [Bool.eq_iff_iff, decide_eq_true_eq, decide_eq_true_eq]
          exact hm n
        rw [e]
        exact this
      cases c2 : decide (n.1 = s.peer) with
      | true =>
        rw [c2] at k kk third
        refine iteT ?_
        refine ⟨_, rfl, b, _, _, _, rfl, rfl, hb, rfl, _, rfl, a.r, CR, dx, _, _, rfl, ho, T.clR, T.nMade, rfl, _, _, rfl, rfl, _, rfl, ?_⟩
        cases c3 : decide (n.2 < s.mde) with
        | true =>
          rw [c3] at kk
          exact iteT kk
        | false =>
          rw [c3] at third
          exact iteF (third rfl)
      | false =>
        rw [c2] at third
        exact iteF ⟨_, rfl, iteF (third rfl)⟩
theorem scBegin : FnScope ["self"] ["self"] (defScope sBegin) := ⟨rfl, rfl, rfl, by decide +kernel, rfl, by decide +kernel, by decide +kernel⟩
theorem ok_begin {f : Addr} {fd : FuncData} (F : Fun K "begin" "Replica.begin" sBegin f fd) (T : Txt K mg CS CR) : FnOk P w K mg base CX0 1 f fd ["self"] (spBegin P w K CS CR) := by
  refine F.ok scBegin (fun vs H Q E h => ?_) (fun cdv A outer s H vs Q E hr h => ?_)
  · obtain ⟨a, s, rfl, _⟩ := h
    rfl
  · obtain ⟨a, s, rfl, R, k⟩ := h
    obtain ⟨dx, ml, ho⟩ := R.ob
    refine ⟨_, pss_cons (ps_fldaug (pv 0) pe_int in_add) (pss_one (ps_ret (pe_tup (pa_cons (pe_fld (pv 0) rfl) (pa_cons (pe_op op_sub (pe_fld (pv 0) rfl) pe_int) pa_nil))))), ?_⟩
    refine ⟨_, rfl, a.r, CR, dx, _, _, rfl, ho, T.clR, T.nMade, rfl, _, _, rfl, rfl, dx, _, ho, (by show 7 < 1000; decide), ?_⟩
    have c1 : Ch [a.r] H (upd H a.r (.ins CR dx (rf7 s.peer s.clk (s.mde + 1) a.sa a.rl a.pl ml))) := Ch.upd (by simp)
    have R1 : RepAt P w K CS CR (upd H a.r (.ins CR dx (rf7 s.peer s.clk (s.mde + 1) a.sa a.rl a.pl ml))) a { s with mde := s.mde + 1 } := by
      obtain ⟨xs, S⟩ := R.st
      obtain ⟨sdx, hs⟩ := S.ob
      obtain ⟨rs, h3, h4⟩ := R.ro
      obtain ⟨ps, h5, h6⟩ := R.pe
      have t : TK K H (upd H a.r (.ins CR dx (rf7 s.peer s.clk (s.mde + 1) a.sa a.rl a.pl ml))) := TK.upd (.ins ho)
      refine ⟨⟨dx, ml, upd_same⟩, ⟨xs, ⟨sdx, ?_⟩, ?_, S.cs.tk t⟩, ⟨rs, ?_, h4.tk t⟩, ⟨ps, ?_, Paired.imp' (fun _ _ z => z.tk t) h6⟩, R.ne, R.nr⟩
      · rw [upd_ne R.nr.symm]
        exact hs
      · rw [upd_ne (ne_of S.dc ho (by intro z; cases z))]
        exact S.dc
      · rw [upd_ne (ne_of h3 ho (by intro z; cases z))]
        exact h3
      · rw [upd_ne (ne_of h5 ho (by intro z; cases z))]
        exact h5
    rw [put_made]
    refine ⟨_, rfl, a.r, CR, dx, _, _, rfl, upd_same, T.clR, T.nPeer, rfl, _, rfl, a.r, CR, dx, _, _, rfl, upd_same, T.clR, T.nMade, rfl, _, _, rfl, rfl, (by show 2 ≤ sizeLine; decide), fun p hp => ?_⟩
    have c2 : Ch [] _ _ := Ch.new (M := []) (o := .tup [.int s.peer, .int (s.mde + 1 - 1)]) hp
    refine k _ _ ((c1.one (by simp [RA.M])).trans c2.any) (R1.ch c2) ⟨p, rfl, ?_⟩
    have e : V.int (s.mde + 1 - 1) = V.int s.mde := congrArg V.int (by omega)
    have q : SqT K (upd (upd H a.r (.ins CR dx (rf7 s.peer s.clk (s.mde + 1) a.sa a.rl a.pl ml))) p (.tup [.int s.peer, .int (s.mde + 1 - 1)])) p [.int s.peer, .int (s.mde + 1 - 1)] := .of upd_same
    rw [e] at q
    show SqT K (upd (upd H a.r (.ins CR dx (rf7 s.peer s.clk (s.mde + 1) a.sa a.rl a.pl ml))) p (.tup [.int s.peer, .int (s.mde + 1 - 1)])) p [.int s.peer, .int s.mde]
    rw [e]
    exact q
theorem scNote : FnScope ["self", "name", "field", "value", "change"] ["self", "name", "field", "value"] (defScope sNote) := ⟨rfl, rfl, rfl, by decide +kernel, rfl, by decide +kernel, by decide +kernel⟩
theorem ok_note {f fT : Addr} {fd fdT : FuncData} (F : Fun K "note" "Replica.note" sNote f fd) (T : Txt K mg CS CR) (FT : FnOk P w K mg base CX0 2 fT fdT ["self", "change"] (spTake P w K CS)) (bT : Binds K fdT ["self", "change"] []) (mT : Meth K CS "take" fT) :
    FnOk P w K mg base CX0 3 f fd ["self", "name", "field", "value"] (spNote P w K CS CR) := by
  refine F.ok scNote (fun vs H Q E h => ?_) (fun cdv A outer s H vs Q E hr h => ?_)
  · obtain ⟨a, s, nv, n, fl, vv, x, rfl, _⟩ := h
    rfl
  · obtain ⟨a, s, nv, n, fl, vv, x, rfl, R, O, hn, hv, k⟩ := h
    obtain ⟨dx, ml, ho⟩ := R.ob
    obtain ⟨xs, S⟩ := R.st
    obtain ⟨sdx, hs⟩ := S.ob
    obtain ⟨rs, h3, h4⟩ := R.ro
    obtain ⟨ps, h5, h6⟩ := R.pe
    refine ⟨_, pss_cons (ps_fldaug (pv 0) pe_int in_add)
      (pss_cons (ps_set (i := 4) scNote.nd rfl (Or.inl rfl) (pe_tup (pa_cons (pe_tup (pa_cons (pe_fld (pv 0) rfl) (pa_cons (pe_fld (pv 0) rfl) pa_nil))) (pa_cons (pv 1) (pa_cons (pv 2) (pa_cons (pv 3) pa_nil))))))
      (pss_cons (ps_expr (pe_meth (pe_fld (pv 0) rfl) T.clS mT FT hr bT .nil pass0 (pa_cons (pv 4) pa_nil)))
      (pss_cons (ps_expr (pe_bm PySem.F.plainAttrs_list PySem.F.slot_list_append PySem.F.type_list_append mt_append (pe_fld (pv 0) rfl) (pa_cons (pv 4) pa_nil)))
      (pss_one (ps_ret (pv 4)))))), ?_⟩
    refine ⟨_, rfl, a.r, CR, dx, _, _, rfl, ho, T.clR, T.nClock, rfl, _, _, rfl, rfl, dx, _, ho, (by show 7 < 1000; decide), ?_⟩
    have c1 : Ch [a.r] H (upd H a.r (.ins CR dx (rf7 s.peer (s.clk + 1) s.mde a.sa a.rl a.pl ml))) := Ch.upd (by simp)
    have t : TK K H (upd H a.r (.ins CR dx (rf7 s.peer (s.clk + 1) s.mde a.sa a.rl a.pl ml))) := TK.upd (.ins ho)
    have S1 : StAt P w K CS (upd H a.r (.ins CR dx (rf7 s.peer (s.clk + 1) s.mde a.sa a.rl a.pl ml))) a.sa a.d xs s.c := by
      refine ⟨⟨sdx, ?_⟩, ?_, S.cs.tk t⟩
      · rw [upd_ne R.nr.symm]
        exact hs
      · rw [upd_ne (ne_of S.dc ho (by intro z; cases z))]
        exact S.dc
    have hrl1 : upd H a.r (.ins CR dx (rf7 s.peer (s.clk + 1) s.mde a.sa a.rl a.pl ml)) a.rl = some (.lst rs) := by
      rw [upd_ne (ne_of h3 ho (by intro z; cases z))]
      exact h3
    have hpl1 : upd H a.r (.ins CR dx (rf7 s.peer (s.clk + 1) s.mde a.sa a.rl a.pl ml)) a.pl = some (.lst ps) := by
      rw [upd_ne (ne_of h5 ho (by intro z; cases z))]
      exact h5
    have ho1 : upd H a.r (.ins CR dx (rf7 s.peer (s.clk + 1) s.mde a.sa a.rl a.pl ml)) a.r = some (.ins CR dx (rf7 s.peer (s.clk + 1) s.mde a.sa a.rl a.pl ml)) := upd_same
    have hn1 := hn.tk t
    have hv1 := hv.tk t
    have h41 := h4.tk t
    have h61 : Paired (ChAt K _) ps s.pend := Paired.imp' (fun _ _ z => z.tk t) h6
    rw [put_clock]
    generalize upd H a.r (.ins CR dx (rf7 s.peer (s.clk + 1) s.mde a.sa a.rl a.pl ml)) = G at c1 S1 hrl1 hpl1 ho1 hn1 hv1 h41 h61
    refine ⟨_, rfl, a.r, CR, dx, _, _, rfl, ho1, T.clR, T.nClock, rfl, _, rfl, a.r, CR, dx, _, _, rfl, ho1, T.clR, T.nPeer, rfl, (by show 2 ≤ sizeLine; decide), fun p hp => ?_⟩
    refine ⟨_, rfl, _, rfl, _, rfl, (by show 4 ≤ sizeLine; decide), fun q hq => ?_⟩
    have k1 : Ch [] G _ := Ch.new (M := []) (o := .tup [.int (s.clk + 1), .int s.peer]) hp
    have k2 : Ch [] _ _ := Ch.new (M := []) (o := .tup [.ref p, nv, .str fl, vv]) hq
    have k12 := k1.trans k2
    have hc : ChAt K (upd (upd G p (.tup [.int (s.clk + 1), .int s.peer])) q (.tup [.ref p, nv, .str fl, vv])) (.ref q) (s.chg n fl x) :=
      ⟨q, .ref p, nv, vv, rfl, .of upd_same, ⟨p, rfl, k2.tk0 _ _ (.of upd_same)⟩, hn1.tk k12.tk0, hv1.tk k12.tk0⟩
    have ho2 := k12 _ _ (by simp) ho1
    have S2 := S1.ch k12
    obtain ⟨sdx2, hs2⟩ := S2.ob
    have hpl2 := k12 _ _ (by simp) hpl1
    have hrl2 := k12 _ _ (by simp) hrl1
    refine ⟨_, rfl, a.r, CR, dx, _, _, rfl, ho2, T.clR, T.nState, rfl, a.sa, sdx2, _, rfl, hs2, rfl, _, rfl, a.sa, a.d, xs, s.c, _, s.chg n fl x, rfl, S2, hc, (by have := O.lc; omega), fun H3 r xs3 k3 S3 => ?_⟩
    have nd1 : a.d ≠ a.r := ne_of S2.dc ho2 (by intro z; cases z)
    have nd2 : a.d ≠ a.pl := ne_of S2.dc hpl2 (by intro z; cases z)
    have nd3 : a.d ≠ a.rl := ne_of S2.dc hrl2 (by intro z; cases z)
    have ho3 := k3 _ _ (by simpa using nd1.symm) ho2
    have hpl3 := k3 _ _ (by simpa using nd2.symm) hpl2
    have hrl3 := k3 _ _ (by simpa using nd3.symm) hrl2
    have t3 : TK K _ H3 := k3.tk fun b hb => by
      rw [List.mem_singleton] at hb
      rw [hb]
      exact .no S2.dc
    refine ⟨_, rfl, a.r, CR, dx, _, _, rfl, ho3, T.clR, T.nPending, rfl, .inl ⟨rfl, _, .of hpl3⟩, _, rfl, a.pl, ps, _, rfl, rfl, hpl3, ?_, ?_⟩
    · have := Paired.len' h6
      have h2 := O.lp
      exact small1000 (by omega)
    · have t4 := TK.upd (K := K) (o := .lst (ps ++ [.ref q])) (NoTup.lst hpl3)
      refine ⟨_, rfl, ?_⟩
      have cc : Ch a.M H (upd H3 a.pl (.lst (ps ++ [.ref q]))) := (((c1.one (by simp [RA.M])).trans k12.any).trans (k3.one (by simp [RA.M]))).then_upd (by simp [RA.M])
      obtain ⟨sdx3, hs3⟩ := S3.ob
      have t0 : TK K G H3 := (k12.tk0).trans t3
      refine k _ _ cc ⟨⟨dx, ml, ?_⟩, ⟨xs3, ⟨sdx3, ?_⟩, ?_, S3.cs.tk t4⟩, ⟨rs, ?_, (h41.tk t0).tk t4⟩, ⟨ps ++ [.ref q], upd_same, ?_⟩, R.ne, R.nr⟩ ((hc.tk t3).tk t4)
      · rw [upd_ne (ne_of ho3 hpl3 (by intro z; cases z))]
        exact ho3
      · rw [upd_ne (ne_of hs3 hpl3 (by intro z; cases z))]
        exact hs3
      · rw [upd_ne nd2]
        exact S3.dc
      · rw [upd_ne R.ne]
        exact hrl3
      · exact Paired.snoc' (Paired.imp' (fun _ _ z => (z.tk t0).tk t4) h61) ((hc.tk t3).tk t4)
theorem scDrop : FnScope ["self", "name"] ["self", "name"] (defScope sDrop) := ⟨rfl, rfl, rfl, by decide +kernel, rfl, by decide +kernel, by decide +kernel⟩
theorem ok_drop {f : Addr} {fd : FuncData} (F : Fun K "drop" "Replica.drop" sDrop f fd) (T : Txt K mg CS CR) : FnOk P w K mg base CX0 1 f fd ["self", "name"] (spDrop P w K CS CR) := by
  obtain ⟨ra, hR, hRt⟩ := T.root
  refine F.ok scDrop (fun vs H Q E h => ?_) (fun cdv A outer s H vs Q E hr h => ?_)
  · obtain ⟨a, s, nv, n, rfl, _⟩ := h
    rfl
  · obtain ⟨a, s, nv, n, rfl, R, nd, hn, k⟩ := h
    obtain ⟨dx, ml, ho⟩ := R.ob
    obtain ⟨rs, h3, h4⟩ := R.ro
    refine ⟨_, pss_cons (ps_if (PW.pt (pw_or (pt_cmpR (op_eqD hr.units) (pv 1) (pe_glob (v := .ref ra) rfl hR rfl) (nomark _)) (pw_or1 (pt_cmpR (op_notInD (room65 hr)) (pv 1) (pe_fld (pv 0) rfl) (by rfl))))) (pss_one (ps_ret pe_bl)) pss_nil)
      (pss_cons (ps_expr (pe_bm PySem.F.plainAttrs_list PySem.F.slot_list_remove PySem.F.type_list_remove (mt_remD hr) (pe_fld (pv 0) rfl) (pa_cons (pv 1) pa_nil)))
      (pss_one (ps_ret pe_bl))), ?_⟩
    have hroot : NmAt K H (.ref ra) (0, 0) := ⟨ra, rfl, hRt H⟩
    refine ⟨_, rfl, nmD n, nmD (0, 0), hn.dp, hroot.dp, shaped_nm _, shaped_nm _, _, rfl, ?_⟩
    rw [eqv_nm]
    by_cases c1 : n = (0, 0)
    · rw [decide_eq_true c1]
      refine iteT (iteT ?_)
      have kk := k H (Ch.refl _ _)
      unfold dropR at kk
      have e2 : decide (n ≠ (0, 0)) = false := decide_eq_false (fun z => z c1)
      rw [if_pos c1, e2, Bool.and_false] at kk
      exact kk R
    · rw [decide_eq_false c1]
      refine iteF ?_
      refine ⟨_, rfl, _, rfl, a.r, CR, dx, _, _, rfl, ho, T.clR, T.nRoots, rfl, nmD n, s.roots.map nmD, hn.dp, .lst (.of h3) h4.dp, shaped_nm _, shaped_nms _, _, rfl, ?_⟩
      rw [any_nms]
      by_cases c2 : n ∈ s.roots
      · rw [decide_eq_true c2]
        refine iteF ?_
        obtain ⟨j, hj, he⟩ := erase_place s.roots nd n c2
        refine ⟨_, rfl, a.r, CR, dx, _, _, rfl, ho, T.clR, T.nRoots, rfl, .inl ⟨rfl, _, .of h3⟩, _, rfl, a.rl, rs, nv, nmD n, s.roots.map nmD, j, rfl, rfl, h3, h4.dp, hn.dp, plain_nms _, rfl, (by show 1 ≤ 20; decide), hj, ?_⟩
        have t := TK.upd (K := K) (o := .lst (rs.eraseIdx j)) (NoTup.lst h3)
        have kk := k (upd H a.rl (.lst (rs.eraseIdx j))) (Ch.upd (by simp [RA.M]))
        unfold dropR at kk
        have e2 : decide (n ≠ (0, 0)) = true := decide_eq_true c1
        rw [if_neg c1, decide_eq_true c2, e2] at kk
        refine kk ?_
        obtain ⟨xs, S⟩ := R.st
        obtain ⟨sdx, hs⟩ := S.ob
        obtain ⟨ps, h5, h6⟩ := R.pe
        refine ⟨⟨dx, ml, ?_⟩, ⟨xs, ⟨sdx, ?_⟩, ?_, S.cs.tk t⟩, ⟨rs.eraseIdx j, upd_same, ?_⟩, ⟨ps, ?_, Paired.imp' (fun _ _ z => z.tk t) h6⟩, R.ne, R.nr⟩
        · rw [upd_ne (ne_of ho h3 (by intro z; cases z))]
          exact ho
        · rw [upd_ne (ne_of hs h3 (by intro z; cases z))]
          exact hs
        · rw [upd_ne (ne_of S.dc h3 (by intro z; cases z))]
          exact S.dc
        · show NmsR K _ _ (s.roots.filter fun m => decide (m ≠ n))
          rw [← he]
          exact Paired.eraseIdx' j (h4.tk t)
        · rw [upd_ne R.ne.symm]
          exact h5
      · rw [decide_eq_false c2]
        refine iteT ?_
        have kk := k H (Ch.refl _ _)
        unfold dropR at kk
        have e : s.roots.filter (fun m => decide (m ≠ n)) = s.roots := List.filter_eq_self.mpr fun m hm => decide_eq_true fun z => c2 (z ▸ hm)
        rw [if_neg c1, e, decide_eq_false c2] at kk
        exact kk R
theorem scGraph : FnScope ["self"] ["self"] (defScope sGraph) := ⟨rfl, rfl, rfl, by decide +kernel, rfl, by decide +kernel, by decide +kernel⟩
theorem ok_graph {f fN : Addr} {fd fdN : FuncData} (F : Fun K "graph" "Replica.graph" sGraph f fd) (T : Txt K mg CS CR) (FN : FnOk P w K mg base CX0 4 fN fdN ["state", "roots"] (spNum P w K CS)) (bN : Binds K fdN ["state", "roots"] []) (gN : mg "numbered" = some (.ref fN)) (kN : PySem.W.keepIn K (.ref fN) = true) :
    FnOk P w K mg base CX0 5 f fd ["self"] (spGraph P w K CS CR) := by
  refine F.ok scGraph (fun vs H Q E h => ?_) (fun cdv A outer s H vs Q E hr h => ?_)
  · obtain ⟨a, s, rfl, _⟩ := h
    rfl
  · obtain ⟨a, s, rfl, R, O, k⟩ := h
    obtain ⟨dx, ml, ho⟩ := R.ob
    obtain ⟨xs, S⟩ := R.st
    obtain ⟨rs, h3, h4⟩ := R.ro
    refine ⟨_, pss_one (ps_ret (pe_call FN hr rfl gN kN bN .nil pass0 (pa_cons (pe_fld (pv 0) rfl) (pa_cons (pe_fld (pv 0) rfl) pa_nil)))), ?_⟩
    exact ⟨_, rfl, a.r, CR, dx, _, _, rfl, ho, T.clR, T.nState, rfl, _, rfl, a.r, CR, dx, _, _, rfl, ho, T.clR, T.nRoots, rfl, a.sa, a.d, xs, s.c, a.rl, rs, s.roots, rfl, S, O.nd, (by have := O.lc; omega), .of h3, h4, (by have := O.lr; omega), k⟩
end
end K40

namespace K40
open PySem PySem.Spec PyProof.Rows L2
open PySem.W (Frag)
/-- o.m(e, ..) of a method that may raise, told at the slots as they are -/
def tMethW (C : Addr) (m : Str) (sp : Sp) (E : L2.St → XK) (to : TE) (ta : TA) : TE := fun σ H Q => to σ H fun x H1 => ∃ a dx fs, x = .ref a ∧ H1 a = some (.ins C dx fs) ∧ fs.lookup m = none ∧ ta σ H1 fun vs H2 => sp (x :: vs) H2 Q (E σ)
theorem pe_methW {X : Cx} {CX : CXT} {k : Nat} {g C : Addr} {fd : FuncData} {ps : List Str} {sp : Sp} {E : L2.St → XK} {m : Str} {cpos apos : Pos} {e o : Expr} {es : List Expr} {to : TE} {ta : TA} {pl : Sem Bool} (ho : PE X o to) (hc : Cls X.K C) (hm : Meth X.K C m g)
    (F : FnOk X.prog X.w X.K X.mg X.base CX k g fd ps sp) (hr : Room k X.A) (hb : Binds X.K fd ps []) (hx : ∀ σ, PassesAt CX X σ (E σ)) (ha : PA X (e :: es) ta)
    (hs : starEach (e :: es) X.env = (false, eval e X.env) :: starEach es X.env := by rfl) (hl : (backTo cpos (starEach es X.env)).any (·.1) = false := by rfl)
    (hv : eval (.Call (.Attribute o m apos) (e :: es) [] cpos) X.env = (do
      let ov ← eval o X.env
      standAt apos.atName
      let (f, first) ← holding [ov] (getMethod ov m pl)
      callWith cpos f first (backTo cpos (starEach (e :: es) X.env)) (backToKw cpos (keywordEach [] X.env))) := by rfl) :
    PE X (.Call (.Attribute o m apos) (e :: es) [] cpos) (tMethW C m sp E to ta) :=
  ⟨fun pins s σ H Q I h => PySem.W.methodCall_KW (pl := pl) (thn (ho.run pins s σ H _ I h) fun u s1 hu => by
    obtain ⟨x, H1, I1, rx, a, dx, fs, rfl, ea, l, q⟩ := hu
    cases rx
    exact getmeth_ok I1 ea hc hm l (PySem.W.callWith_K (first := [.ref a]) (h₀ := X.base) I.ok.mod.kin hm.kp (thn (ha.run cpos pins s1 σ H1 _ I1 q) fun us s2 hq => by
      obtain ⟨vs, H2, I2, r, q2⟩ := hq
      exact ⟨I2.kIn, run_fnS (us := .ref a :: us) (vs := .ref a :: vs) F hr hb (hx σ) I2 (.cons rfl r) q2⟩) hs hl)) hv⟩
/-- the class of the error, as the top has made it -/
structure Err (K : Frag) (mg : Str → Option Value) (CN fI : Addr) (fdI : FuncData) : Prop where
  o : OexC K CN
  iC : PySem.W.findIn K (.ref CN) "__init__" = some (some (.ref fI))
  tI : PySem.W.typeIn K (.ref fI) = some (.type "function")
  mgN : mg "NoSuchObject" = some (.ref CN)
  xf : XfC K CN
  nn : PySem.W.findIn K (.ref CN) "name" = some none
  ex : PySem.W.exmOne K (.ref CN) (.ref CN) = some true
  bI : Binds K fdI ["self", "name"] []
/-- an error that tells of n is on its way -/
def Told (K : Frag) (CN : Addr) (H : Hp) (E : XK) (n : Nm) : Prop := ∀ H' dx nv, Ch [] H H' → H' dx = some (.xd [(("name" : Str), nv)]) → NmAt K H' nv n → E (.ref CN) (some dx) H'
def spCheck (P : Program) (w : World) (K : Frag) (CS CR CN : Addr) : Sp := fun vs H Q E => ∃ a s nv n, vs = [.ref a.r, nv] ∧ RepAt P w K CS CR H a s ∧ SOk s ∧ NmAt K H nv n ∧ Sm n ∧
  (kn s n = true → ∀ H', Ch [] H H' → Q .non H') ∧ (kn s n = false → Told K CN H E n)
def wrong (s : RS) (n : Nm) (x : Vl) : Option Nm := if kn s n = false then some n else match tgt x with
  | some t => if kn s t = false then some t else none
  | none => none
def spPut (P : Program) (w : World) (K : Frag) (CS CR CN : Addr) : Sp := fun vs H Q E => ∃ a s nv n f vv x, vs = [.ref a.r, nv, .str f, vv] ∧ RepAt P w K CS CR H a s ∧ SOk s ∧ NmAt K H nv n ∧ VlAt K H vv x ∧ Sm n ∧ (∀ t, tgt x = some t → Sm t) ∧
  (∀ m, wrong s n x = some m → Told K CN H E m) ∧ (wrong s n x = none → ∀ H' v, Ch a.M H H' → RepAt P w K CS CR H' a (s.note n f x) → ChAt K H' v (s.chg n f x) → Q v H')
def spHold (P : Program) (w : World) (K : Frag) (CS CR CN : Addr) : Sp := fun vs H Q E => ∃ a s nv n, vs = [.ref a.r, nv] ∧ RepAt P w K CS CR H a s ∧ SOk s ∧ NmAt K H nv n ∧ Sm n ∧
  (kn s n = false → Told K CN H E n) ∧ (kn s n = true → ∀ H', Ch a.M H H' → RepAt P w K CS CR H' a { s with roots := addN s.roots n } → Q (.bl (!decide (n ∈ s.roots))) H')
def spRef (P : Program) (w : World) (K : Frag) (CS CR : Addr) : Sp := fun vs H Q _ => ∃ a s nv n f vv x, vs = [.ref a.r, nv, .str f, vv] ∧ RepAt P w K CS CR H a s ∧ SOk s ∧ NmAt K H nv n ∧ VlAt K H vv x ∧ Sm n ∧ (∀ t, tgt x = some t → Sm t) ∧
  (∀ m, wrong s n x = some m → ∀ H' v, Ch [] H H' → Dp K H' v (.tuple [.str "unknown", nmD m]) → Q v H') ∧
  (wrong s n x = none → ∀ H' v, Ch a.M H H' → RepAt P w K CS CR H' a (s.note n f x) → Dp K H' v (.tuple [.str "told", chD (s.chg n f x)]) → Q v H')
def spHeld (P : Program) (w : World) (K : Frag) (CS CR : Addr) : Sp := fun vs H Q _ => ∃ a s nv n, vs = [.ref a.r, nv] ∧ RepAt P w K CS CR H a s ∧ SOk s ∧ NmAt K H nv n ∧ Sm n ∧
  (kn s n = false → ∀ H' v, Ch [] H H' → Dp K H' v (.tuple [.str "unknown", nmD n]) → Q v H') ∧
  (kn s n = true → ∀ H' v, Ch a.M H H' → RepAt P w K CS CR H' a { s with roots := addN s.roots n } → Dp K H' v (.tuple [.str "told", .bool (!decide (n ∈ s.roots))]) → Q v H')
theorem log_small {i : Int} (h0 : 0 ≤ i) (h1 : i < 64) : i.natAbs.log2 < 20 := by
  by_cases z : i.natAbs = 0
  · rw [z]
    decide
  · rw [Nat.log2_lt z]
    omega
section
variable {P : Program} {w : World} {K : Frag} {mg : Str → Option Value} {base : Heap} {CS CR CN fI : Addr} {fdI : FuncData}
theorem scCheck : FnScope ["self", "name"] ["self", "name"] (defScope sCheck) := ⟨rfl, rfl, rfl, by decide +kernel, rfl, by decide +kernel, by decide +kernel⟩
theorem ok_check {f fK : Addr} {fd fdK : FuncData} (F : Fun K "check" "Replica.check" sCheck f fd) (T : Txt K mg CS CR) (Er : Err K mg CN fI fdI) (FI : FnOk P w K mg base CX0 2 fI fdI ["self", "name"] (spNs K CN))
    (FK : FnOk P w K mg base CX0 3 fK fdK ["self", "name"] (spKnows P w K CS CR)) (bK : Binds K fdK ["self", "name"] []) (mK : Meth K CR "knows" fK) : FnOk P w K mg base (L2.CX P w) 4 f fd ["self", "name"] (spCheck P w K CS CR CN) := by
  refine F.okX scCheck (fun vs H Q E h => ?_) (fun cdv A outer s H vs Q E hr h => ?_)
  · obtain ⟨a, s, nv, n, rfl, _⟩ := h
    rfl
  · obtain ⟨a, s, nv, n, rfl, R, O, hn, sm, k1, k2⟩ := h
    obtain ⟨dx, ml, ho⟩ := R.ob
    refine ⟨_, pss_one (ps_if (pt_not (pt_val (pe_meth (pv 0) T.clR mK FK hr bK .nil pass0 (pa_cons (pv 1) pa_nil)))) (pss_one (ps_raise rfl (takes_of rfl rfl rfl rfl) (pmk_oex Er.o Er.iC Er.tI FI hr Er.bI .nil pass0 rfl Er.mgN (pa_cons (pv 1) pa_nil)))) pss_nil), ?_⟩
    refine ⟨_, rfl, a.r, dx, _, rfl, ho, rfl, _, rfl, a, s, nv, n, rfl, R, O, hn, fun H1 c1 => ?_⟩
    refine ⟨_, rfl, ?_⟩
    cases e : kn s n with
    | true => exact iteF (k1 e _ c1)
    | false =>
      refine iteT ?_
      refine ⟨_, rfl, (by show 1 ≤ 1000; decide), fun x hx => ?_⟩
      have hn1 := hn.tk c1.tk0
      refine ⟨x, nv, n.1, n.2, rfl, upd_same, hn1.tk (TK.new hx), log_small sm.1 sm.2.1, log_small sm.2.2.1 sm.2.2.2, fun d hd hdx => ⟨rfl, d, [(("name" : Str), nv)], upd_same, ?_, ?_, ?_⟩⟩
      · rw [upd_ne hdx, upd_same]
      · rw [upd_ne hdx] at hd
        exact hd
      · rw [upd_ne hdx] at hd
        have cc : Ch [] H1 (upd (del (upd (upd (upd H1 x (exo x CN none)) d (exd d [(("name" : Str), nv)])) x (exo x CN (some d))) x) d (.xd [(("name" : Str), nv)])) := fun b o _ e1 => by
          have bx : b ≠ x := ne_of_none e1 hx
          have bd : b ≠ d := ne_of_none e1 hd
          rw [upd_ne bd, del_ne bx, upd_ne bx, upd_ne bd, upd_ne bx]
          exact e1
        exact k2 e _ d nv (c1.trans cc) upd_same (hn1.tk cc.tk0)
theorem scPut : FnScope ["self", "name", "field", "value"] ["self", "name", "field", "value"] (defScope sPut) := ⟨rfl, rfl, rfl, by decide +kernel, rfl, by decide +kernel, by decide +kernel⟩
theorem Told.ch {H H' : Hp} {E : XK} {n : Nm} (h : Told K CN H E n) (k : Ch [] H H') : Told K CN H' E n := fun H2 dx nv c e hn => h H2 dx nv (k.trans c) e hn
theorem ok_put {f fC fT fN : Addr} {fd fdC fdT fdN : FuncData} (F : Fun K "put" "Replica.put" sPut f fd) (T : Txt K mg CS CR)
    (FC : FnOk P w K mg base (L2.CX P w) 4 fC fdC ["self", "name"] (spCheck P w K CS CR CN)) (bC : Binds K fdC ["self", "name"] []) (mC : Meth K CR "check" fC)
    (FT : FnOk P w K mg base CX0 1 fT fdT ["value"] (spTgt K)) (bT : Binds K fdT ["value"] []) (gT : mg "target_of" = some (.ref fT)) (kT : PySem.W.keepIn K (.ref fT) = true)
    (FN : FnOk P w K mg base CX0 3 fN fdN ["self", "name", "field", "value"] (spNote P w K CS CR)) (bN : Binds K fdN ["self", "name", "field", "value"] []) (mN : Meth K CR "note" fN) :
    FnOk P w K mg base (L2.CX P w) 5 f fd ["self", "name", "field", "value"] (spPut P w K CS CR CN) := by
  refine F.okX scPut (fun vs H Q E h => ?_) (fun cdv A outer s H vs Q E hr h => ?_)
  · obtain ⟨a, s, nv, n, fl, vv, x, rfl, _⟩ := h
    rfl
  · obtain ⟨a, s, nv, n, fl, vv, x, rfl, R, O, hn, hv, sm, smt, kE, kQ⟩ := h
    obtain ⟨dx, ml, ho⟩ := R.ob
    have hr1 : Room 1 _ := hr.mono (by decide)
    have hr3 : Room 3 _ := hr.mono (by decide)
    refine ⟨_, pss_cons (ps_expr (pe_meth (E := E) (pv 0) T.clR mC FC hr bC .nil (fun pins σ H s e s' I c => passAt (takes_of rfl rfl rfl rfl) σ pins H s e s' I c) (pa_cons (pv 1) pa_nil)))
      (pss_cons (ps_if (pt_cmp (pc_notN (pe_call FT hr1 rfl gT kT bT .nil pass0 (pa_cons (pv 3) pa_nil))) rfl)
        (pss_one (ps_expr (pe_meth (E := E) (pv 0) T.clR mC FC hr bC .nil (fun pins σ H s e s' I c => passAt (takes_of rfl rfl rfl rfl) σ pins H s e s' I c) (pa_cons (pe_call FT hr1 rfl gT kT bT .nil pass0 (pa_cons (pv 3) pa_nil)) pa_nil)))) pss_nil)
      (pss_one (ps_ret (pe_meth (pv 0) T.clR mN FN hr3 bN .nil pass0 (pa_cons (pv 1) (pa_cons (pv 2) (pa_cons (pv 3) pa_nil))))))), ?_⟩
    refine ⟨_, rfl, a.r, dx, _, rfl, ho, rfl, _, rfl, a, s, nv, n, rfl, R, O, hn, sm, fun e1 H1 c1 => ?_, fun e1 => kE n (by unfold wrong; rw [if_pos e1])⟩
    have R1 := R.ch c1
    obtain ⟨dx1, ml1, ho1⟩ := R1.ob
    have hn1 := hn.tk c1.tk0
    have hv1 := hv.tk c1.tk0
    have ne1 : ¬ kn s n = false := by rw [e1]; decide
    -- what follows once both are known
    have fin : ∀ H2, Ch [] H H2 → wrong s n x = none → tRet (tMeth CR "note" (spNote P w K CS CR) [] E (tVar 0) (tCons (tVar 1) (tCons (tVar 2) (tCons (tVar 3) tNil)))) { nx := fun _ H' => Q .non H', rt := Q } [some (.ref a.r), some nv, some (.str fl), some vv] H2 := fun H2 c2 w0 => by
      have R2 := R.ch c2
      obtain ⟨dx2, ml2, ho2⟩ := R2.ob
      exact ⟨_, rfl, a.r, dx2, _, rfl, ho2, rfl, _, rfl, _, rfl, _, rfl, a, s, nv, n, fl, vv, x, rfl, R2, O, hn.tk c2.tk0, hv.tk c2.tk0, fun H3 v c3 R3 hc => kQ w0 H3 v (c2.any.trans c3) R3 hc⟩
    refine ⟨_, rfl, vv, x, rfl, hv1, fun t ht => ⟨_, rfl, ?_⟩⟩
    unfold TgV at ht
    cases et : tgt x with
    | none =>
      rw [et] at ht
      subst ht
      refine iteF ?_
      exact fin H1 c1 (by unfold wrong; rw [if_neg ne1, et])
    | some m =>
      rw [et] at ht
      have hne : ¬ t = .non := by
        obtain ⟨q, rfl, _⟩ := ht
        intro z
        cases z
      rw [decide_eq_false hne]
      refine iteT ?_
      refine ⟨_, rfl, a.r, dx1, _, rfl, ho1, rfl, _, rfl, vv, x, rfl, hv1, fun t2 ht2 => ?_⟩
      unfold TgV at ht2
      rw [et] at ht2
      refine ⟨a, s, t2, m, rfl, R1, O, ht2, smt m et, fun e2 H2 c2 => ?_, fun e2 => ?_⟩
      · exact fin H2 (c1.trans c2) (by unfold wrong; rw [if_neg ne1, et]; show (if kn s m = false then some m else none) = none; rw [if_neg (by rw [e2]; decide)])
      · exact (kE m (by unfold wrong; rw [if_neg ne1, et]; show (if kn s m = false then some m else none) = some m; rw [if_pos e2])).ch c1
theorem scHold : FnScope ["self", "name"] ["self", "name"] (defScope sHold) := ⟨rfl, rfl, rfl, by decide +kernel, rfl, by decide +kernel, by decide +kernel⟩
theorem ok_hold {f fC : Addr} {fd fdC : FuncData} (F : Fun K "hold" "Replica.hold" sHold f fd) (T : Txt K mg CS CR)
    (FC : FnOk P w K mg base (L2.CX P w) 4 fC fdC ["self", "name"] (spCheck P w K CS CR CN)) (bC : Binds K fdC ["self", "name"] []) (mC : Meth K CR "check" fC) :
    FnOk P w K mg base (L2.CX P w) 5 f fd ["self", "name"] (spHold P w K CS CR CN) := by
  refine F.okX scHold (fun vs H Q E h => ?_) (fun cdv A outer s H vs Q E hr h => ?_)
  · obtain ⟨a, s, nv, n, rfl, _⟩ := h
    rfl
  · obtain ⟨a, s, nv, n, rfl, R, O, hn, sm, kE, kQ⟩ := h
    obtain ⟨dx, ml, ho⟩ := R.ob
    refine ⟨_, pss_cons (ps_expr (pe_meth (E := E) (pv 0) T.clR mC FC hr bC .nil (fun pins σ H s e s' I c => passAt (takes_of rfl rfl rfl rfl) σ pins H s e s' I c) (pa_cons (pv 1) pa_nil)))
      (pss_cons (ps_if (pt_cmpR (op_inD (room65 hr)) (pv 1) (pe_fld (pv 0) rfl) (by rfl)) (pss_one (ps_ret pe_bl)) pss_nil)
      (pss_cons (ps_expr (pe_bm PySem.F.plainAttrs_list PySem.F.slot_list_append PySem.F.type_list_append mt_append (pe_fld (pv 0) rfl) (pa_cons (pv 1) pa_nil)))
      (pss_one (ps_ret pe_bl)))), ?_⟩
    refine ⟨_, rfl, a.r, dx, _, rfl, ho, rfl, _, rfl, a, s, nv, n, rfl, R, O, hn, sm, fun e1 H1 c1 => ?_, fun e1 => kE e1⟩
    have R1 := R.ch c1
    obtain ⟨dx1, ml1, ho1⟩ := R1.ob
    obtain ⟨rs, h3, h4⟩ := R1.ro
    have hn1 := hn.tk c1.tk0
    have kk := kQ e1
    unfold addN at kk
    refine ⟨_, rfl, _, rfl, a.r, CR, dx1, _, _, rfl, ho1, T.clR, T.nRoots, rfl, nmD n, s.roots.map nmD, hn1.dp, .lst (.of h3) h4.dp, shaped_nm _, shaped_nms _, _, rfl, ?_⟩
    rw [any_nms]
    by_cases c2 : n ∈ s.roots
    · rw [decide_eq_true c2] at kk ⊢
      rw [if_pos c2] at kk
      exact iteT (kk H1 c1.any R1)
    · rw [decide_eq_false c2] at kk ⊢
      rw [if_neg c2] at kk
      refine iteF ?_
      have t := TK.upd (K := K) (o := .lst (rs ++ [nv])) (NoTup.lst h3)
      refine ⟨_, rfl, a.r, CR, dx1, _, _, rfl, ho1, T.clR, T.nRoots, rfl, .inl ⟨rfl, _, .of h3⟩, _, rfl, a.rl, rs, nv, rfl, rfl, h3, ?_, ?_⟩
      · have := Paired.len' h4
        have h2 := O.lr
        exact small1000 (by omega)
      · obtain ⟨xs, S⟩ := R1.st
        obtain ⟨sdx, hs⟩ := S.ob
        obtain ⟨ps, h5, h6⟩ := R1.pe
        refine kk _ (c1.any.then_upd (by simp [RA.M])) ⟨⟨dx1, ml1, ?_⟩, ⟨xs, ⟨sdx, ?_⟩, ?_, S.cs.tk t⟩, ⟨rs ++ [nv], upd_same, Paired.snoc' (h4.tk t) (hn1.tk t)⟩, ⟨ps, ?_, Paired.imp' (fun _ _ z => z.tk t) h6⟩, R.ne, R.nr⟩
        · rw [upd_ne (ne_of ho1 h3 (by intro z; cases z))]
          exact ho1
        · rw [upd_ne (ne_of hs h3 (by intro z; cases z))]
          exact hs
        · rw [upd_ne (ne_of S.dc h3 (by intro z; cases z))]
          exact S.dc
        · rw [upd_ne R.ne.symm]
          exact h5
end
end K40

namespace K40
open PySem PySem.Spec PyProof.Rows L2
open PySem.W (Frag)
/-- return ('unknown', error.name), the error in slot i -/
def tUnk (CN : Addr) (i : Nat) : Addr → Value → Option Addr → TS := fun a cls d => tRet (tTup (tCons (tC (.str "unknown")) (tCons (tXf a cls d CN "name" (tVar i)) tNil)))
section
variable {P : Program} {w : World} {K : Frag} {mg : Str → Option Value} {base : Heap} {CS CR CN fI : Addr} {fdI : FuncData}
/-- what the try's wish asks, where the error tells of n -/
theorem told_wish {H : Hp} {D : Ends} {i : Nat} {n : Nm} {σ : L2.St} (Er : Err K mg CN fI fdI) (hi : i < σ.length) (k : ∀ H' v, Ch [] H H' → Dp K H' v (.tuple [.str "unknown", nmD n]) → D.rt v H') :
    Told K CN H (WE (wAs K (.ref CN) i (tUnk CN i) (fun _ _ _ _ => False) D) σ) n := fun H1 d nv c1 hd hn =>
  ⟨true, Er.ex, fun _ a ha => by
    refine ⟨.ref a, ?_, rfl, rfl, d, _, nv, rfl, hd, rfl, (by show 2 ≤ sizeLine; decide), fun p hp => ?_⟩
    · rw [List.getElem?_set_self hi]
    · have c2 : Ch [] H1 _ := Ch.new (M := []) (o := .tup [.str "unknown", nv]) hp
      exact k _ _ (c1.trans c2) (.tup (.of upd_same) (.cons (.str _) (.cons (hn.tk c2.tk0).dp .nil))), fun z => Bool.noConfusion z⟩
theorem scRef : FnScope ["_law_replica", "_law_name", "_law_field_here", "_law_value", "error"] ["_law_replica", "_law_name", "_law_field_here", "_law_value"] (defScope lRef) := ⟨rfl, rfl, rfl, by decide +kernel, rfl, by decide +kernel, by decide +kernel⟩
theorem ok_ref {f fP : Addr} {fd fdP : FuncData} (F : Fun K "_law_refused" "_law_refused" lRef f fd) (T : Txt K mg CS CR) (Er : Err K mg CN fI fdI)
    (FP : FnOk P w K mg base (L2.CX P w) 5 fP fdP ["self", "name", "field", "value"] (spPut P w K CS CR CN)) (bP : Binds K fdP ["self", "name", "field", "value"] []) (mP : Meth K CR "put" fP) :
    FnOk P w K mg base CX0 6 f fd ["_law_replica", "_law_name", "_law_field_here", "_law_value"] (spRef P w K CS CR) := by
  refine F.ok scRef (fun vs H Q E h => ?_) (fun cdv A outer s H vs Q E hr h => ?_)
  · obtain ⟨a, s, nv, n, fl, vv, x, rfl, _⟩ := h
    rfl
  · obtain ⟨a, s, nv, n, fl, vv, x, rfl, R, O, hn, hv, sm, smt, kE, kQ⟩ := h
    obtain ⟨dx, ml, ho⟩ := R.ob
    refine ⟨_, pss_one (ps_try_as (i := 4) (tb := fun W => tRet (tTup (tCons (tC (.str "told")) (tCons (tMethW CR "put" (spPut P w K CS CR CN) (WE W) (tVar 0) (tCons (tVar 1) (tCons (tVar 2) (tCons (tVar 3) tNil)))) tNil)))) (ts := tUnk CN 4) (Wout := fun _ _ _ _ => False) rfl rfl scRef.nd rfl rfl ⟨rfl, by decide, Or.inl Er.mgN⟩ takes0
      (fun W pn xe tk _ => pss_one (ps_ret (pe_tup (pa_cons pe_str (pa_cons (by exact (pe_methW (pv 0) T.clR mP FP hr bP (fun σ => passAt tk σ) (by exact (pa_cons (pv 1) (pa_cons (pv 2) (pa_cons (pv 3) pa_nil)))))) pa_nil)))))
      (fun a oe cls d pn hz hf => pss_one (ps_ret (pe_tup (pa_cons pe_str (pa_cons (pe_xf Er.xf Er.nn hz hf (pv 4)) pa_nil)))))), ?_⟩
    refine ⟨_, rfl, a.r, dx, _, rfl, ho, rfl, _, rfl, _, rfl, _, rfl, a, s, nv, n, fl, vv, x, rfl, R, O, hn, hv, sm, smt, fun m e => told_wish Er (by show 4 < 5; decide) (kE m e), fun e H1 v c1 R1 hc => ?_⟩
    refine ⟨(by show 2 ≤ sizeLine; decide), fun p hp => ?_⟩
    have c2 : Ch [] H1 _ := Ch.new (M := []) (o := .tup [.str "told", v]) hp
    exact kQ e _ _ (c1.trans c2.any) (R1.ch c2) (.tup (.of upd_same) (.cons (.str _) (.cons (hc.tk c2.tk0).dp .nil)))
theorem scHeld : FnScope ["_law_replica", "_law_name", "error"] ["_law_replica", "_law_name"] (defScope lHeld) := ⟨rfl, rfl, rfl, by decide +kernel, rfl, by decide +kernel, by decide +kernel⟩
theorem ok_held {f fP : Addr} {fd fdP : FuncData} (F : Fun K "_law_held" "_law_held" lHeld f fd) (T : Txt K mg CS CR) (Er : Err K mg CN fI fdI)
    (FP : FnOk P w K mg base (L2.CX P w) 5 fP fdP ["self", "name"] (spHold P w K CS CR CN)) (bP : Binds K fdP ["self", "name"] []) (mP : Meth K CR "hold" fP) :
    FnOk P w K mg base CX0 6 f fd ["_law_replica", "_law_name"] (spHeld P w K CS CR) := by
  refine F.ok scHeld (fun vs H Q E h => ?_) (fun cdv A outer s H vs Q E hr h => ?_)
  · obtain ⟨a, s, nv, n, rfl, _⟩ := h
    rfl
  · obtain ⟨a, s, nv, n, rfl, R, O, hn, sm, kE, kQ⟩ := h
    obtain ⟨dx, ml, ho⟩ := R.ob
    refine ⟨_, pss_one (ps_try_as (i := 2) (tb := fun W => tRet (tTup (tCons (tC (.str "told")) (tCons (tMethW CR "hold" (spHold P w K CS CR CN) (WE W) (tVar 0) (tCons (tVar 1) tNil)) tNil)))) (ts := tUnk CN 2) (Wout := fun _ _ _ _ => False) rfl rfl scHeld.nd rfl rfl ⟨rfl, by decide, Or.inl Er.mgN⟩ takes0
      (fun W pn xe tk _ => pss_one (ps_ret (pe_tup (pa_cons pe_str (pa_cons (by exact (pe_methW (pv 0) T.clR mP FP hr bP (fun σ => passAt tk σ) (by exact (pa_cons (pv 1) pa_nil)))) pa_nil)))))
      (fun a oe cls d pn hz hf => pss_one (ps_ret (pe_tup (pa_cons pe_str (pa_cons (pe_xf Er.xf Er.nn hz hf (pv 2)) pa_nil)))))), ?_⟩
    refine ⟨_, rfl, a.r, dx, _, rfl, ho, rfl, _, rfl, a, s, nv, n, rfl, R, O, hn, sm, fun e => told_wish Er (by show 2 < 3; decide) (kE e), fun e H1 c1 R1 => ?_⟩
    refine ⟨(by show 2 ≤ sizeLine; decide), fun p hp => ?_⟩
    have c2 : Ch [] H1 _ := Ch.new (M := []) (o := .tup [.str "told", .bl (!decide (n ∈ s.roots))]) hp
    exact kQ e _ _ (c1.trans c2.any) (R1.ch c2) (.tup (.of upd_same) (.cons (.str _) (.cons (.bl _) .nil)))
end
end K40

namespace K40
open PySem PySem.Spec PyProof.Rows L2
open PySem.W (Frag)
/-! ### the law's own draws: any numbers will do -/
def spCl (K : Frag) : Sp := fun vs H Q _ => ∃ (a : Addr) (ns : List Int) (j : Nat), vs = [.ref a, .int (j : Nat)] ∧ SqL K H a (ns.map V.int) ∧ ∀ z, Q (.int z) H
def spRow (K : Frag) : Sp := fun vs H Q _ => ∃ (c k m : Int), vs = [.int c, .int k, .int m] ∧ 0 ≤ k ∧ k < 1000 ∧ 0 ≤ m ∧ m ≤ 100 ∧ ∀ H' p (ns : List Int), Ch [] H H' → H' p = some (.lst (ns.map V.int)) → ns.length ≤ 100 → Q (.ref p) H'
structure BoxAt (H : Hp) (b q : Addr) (n : Nat) : Prop where
  ex : ∃ ns j, H b = some (.lst [.ref q, .int (j : Nat)]) ∧ H q = some (.lst (List.map V.int ns)) ∧ j ≤ n
def spBox (K : Frag) : Sp := fun vs H Q _ => ∃ (a : Addr) (ns : List Int), vs = [.ref a, .int 0, .int 60] ∧ SqL K H a (ns.map V.int) ∧ ∀ H' p q, Ch [] H H' → H p = none → H q = none → p ≠ q → BoxAt H' p q 0 → Q (.ref p) H'
def spDraw : Sp := fun vs H Q _ => ∃ (b q : Addr) (m : Int) (n : Nat), vs = [.ref b, .int m] ∧ BoxAt H b q n ∧ n ≤ 10000 ∧ 0 < m ∧ ∀ H' z, Ch [b] H H' → BoxAt H' b q (n + 1) → 0 ≤ z → z < m → Q (.int z) H'
def spPick (K : Frag) : Sp := fun vs H Q _ => ∃ b q r n xs, vs = [.ref b, .ref r] ∧ BoxAt H b q n ∧ n ≤ 10000 ∧ SqL K H r xs ∧ xs ≠ [] ∧ r ≠ b ∧ ∀ H' v, Ch [b] H H' → BoxAt H' b q (n + 1) → v ∈ xs → Q v H'
def spFld : Sp := fun vs H Q _ => ∃ b q n, vs = [.ref b] ∧ BoxAt H b q n ∧ n ≤ 10000 ∧ ∀ H' f, Ch [b] H H' → BoxAt H' b q (n + 1) → f ∈ (["a", "b", "next", "z"] : List Str) → Q (.str f) H'
def WOk (ns : List Nm) : Vl → Prop
  | .non => True
  | .int i => -4 ≤ i ∧ i ≤ 4
  | .txt s => s ∈ (["", "a", "zb", "sea"] : List Str)
  | .ref m => m ∈ ns
def spWorth (K : Frag) : Sp := fun vs H Q _ => ∃ b q r n xs ns, vs = [.ref b, .ref r] ∧ BoxAt H b q n ∧ n ≤ 9000 ∧ SqL K H r xs ∧ NmsR K H xs ns ∧ xs ≠ [] ∧ r ≠ b ∧
  ∀ H' v x, Ch [b] H H' → BoxAt H' b q (n + 2) → VlAt K H' v x → WOk ns x → Q v H'
theorem BoxAt.mono {H : Hp} {b q : Addr} {n m : Nat} (h : BoxAt H b q n) (k : n ≤ m) : BoxAt H b q m := by
  obtain ⟨ns, j, h1, h2, h3⟩ := h.ex
  exact ⟨ns, j, h1, h2, by omega⟩
theorem BoxAt.ch {M : List Addr} {H H' : Hp} {b q : Addr} {n : Nat} (h : BoxAt H b q n) (k : Ch M H H') (hb : b ∉ M := by simp) (hq : q ∉ M := by simp) : BoxAt H' b q n := by
  obtain ⟨ns, j, h1, h2, h3⟩ := h.ex
  exact ⟨ns, j, k _ _ hb h1, k _ _ hq h2, h3⟩
theorem BoxAt.noTup {H : Hp} {b q : Addr} {n : Nat} (h : BoxAt H b q n) : ∀ x ∈ [b], NoTup H x := fun x hx => by
  obtain ⟨ns, j, h1, h2, h3⟩ := h.ex
  rw [List.mem_singleton] at hx
  rw [hx]
  exact .lst h1
theorem BoxAt.tk {K : Frag} {H H' : Hp} {b q : Addr} {n : Nat} (h : BoxAt H b q n) (k : Ch [b] H H') : TK K H H' := k.tk h.noTup
section
variable {P : Program} {w : World} {K : Frag} {mg : Str → Option Value} {base : Heap} {CS CR : Addr}
theorem scCl : FnScope ["_law_script", "_law_k"] ["_law_script", "_law_k"] (defScope lCell) := ⟨rfl, rfl, rfl, by decide +kernel, rfl, by decide +kernel, by decide +kernel⟩
theorem ok_cl {f : Addr} {fd : FuncData} (F : Fun K "_law_cell" "_law_cell" lCell f fd) (T : Txt K mg CS CR) : FnOk P w K mg base CX0 1 f fd ["_law_script", "_law_k"] (spCl K) := by
  refine F.ok scCl (fun vs H Q E h => ?_) (fun cdv A outer s H vs Q E hr h => ?_)
  · obtain ⟨a, ns, j, rfl, _⟩ := h
    rfl
  · obtain ⟨a, ns, j, rfl, hs, k⟩ := h
    refine ⟨_, pss_cons (ps_if (pt_cmpR op_lt (pv 1) (pe_callB call_len_seq (by rfl) T.len (by decide +kernel) (pa_cons (pv 0) pa_nil)) (nomark _)) (pss_one (ps_ret (pe_ix ix_list (pv 0) (pv 1) (fun _ _ => rfl)))) pss_nil) (pss_one (ps_ret pe_int)), ?_⟩
    refine ⟨_, rfl, _, rfl, a, _, rfl, .inl hs, _, _, rfl, rfl, _, rfl, ?_⟩
    refine ite2 (fun c => ?_) (fun _ => k 0)
    have hj : j < ns.length := by
      have := of_decide_eq_true c
      rw [List.length_map] at this
      omega
    exact ⟨_, rfl, _, rfl, a, _, _, _, rfl, rfl, hs, atI_nat (by rw [List.getElem?_map, List.getElem?_eq_getElem hj]; rfl), k _⟩
theorem scRow : FnScope ["_law_cell_here", "_law_k", "_law_many", "_law_row_here", "_law_seed", "_law_turn"] ["_law_cell_here", "_law_k", "_law_many"] (defScope lRow) := ⟨rfl, rfl, rfl, by decide +kernel, rfl, by decide +kernel, by decide +kernel⟩
theorem ok_row {f : Addr} {fd : FuncData} (F : Fun K "_law_row" "_law_row" lRow f fd) (T : Txt K mg CS CR) : FnOk P w K mg base CX0 1 f fd ["_law_cell_here", "_law_k", "_law_many"] (spRow K) := by
  refine F.ok scRow (fun vs H Q E h => ?_) (fun cdv A outer s H vs Q E hr h => ?_)
  · obtain ⟨c, k, m, rfl, _⟩ := h
    rfl
  · obtain ⟨c, k, m, rfl, hk0, hk1, hm0, hm1, q⟩ := h
    refine ⟨_, pss_cons (ps_set (i := 3) scRow.nd rfl (Or.inl rfl) (pe_lst pa_nil))
      (pss_cons (ps_if (pt_cmpR op_lt (pv 0) pe_int (nomark _)) (pss_one (ps_set (i := 0) scRow.nd rfl (Or.inl rfl) (pe_op op_sub pe_int (pe_op op_mul pe_int (pv 0))))) pss_nil)
      (pss_cons (ps_if (pt_cmpR op_ge (pv 0) (pe_op op_pow pe_int pe_int) (nomark _))
        (pss_cons (ps_for PassesOwn.never rfl (pi_range1 rfl T.range (pa_cons pe_int pa_nil)) (pg_name (i := 5) scRow.nd rfl (Or.inl rfl))
          (pss_one (ps_if (PW.pt (pw_and (pt_cmpR op_gt (pv 0) pe_int (nomark _)) (pw_and1 (pt_cmpR op_lt (pe_callB call_len_seq (by rfl) T.len (by decide +kernel) (pa_cons (pv 3) pa_nil)) (pv 2) (nomark _)))))
            (pss_cons (ps_expr (pe_bm PySem.F.plainAttrs_list PySem.F.slot_list_append PySem.F.type_list_append mt_append (pv 3) (pa_cons (pe_op op_mod (pe_callTy call_int1 (by rfl) T.int (by decide +kernel) (pa_cons (pv 0) pa_nil)) pe_int) pa_nil)))
            (pss_one (ps_set (i := 0) scRow.nd rfl (Or.inl rfl) (pe_op op_fdiv (pv 0) pe_int)))) pss_nil)))
        (pss_one (ps_ret (pv 3)))) pss_nil)
      (pss_cons (ps_set (i := 4) scRow.nd rfl (Or.inl rfl) (pe_op op_mod (pe_callTy call_int1 (by rfl) T.int (by decide +kernel) (pa_cons (pe_op op_add (pe_op op_add (pe_op op_mul (pv 0) pe_int) (pe_op op_mul (pv 1) pe_int)) pe_int) pa_nil)) pe_int))
      (pss_cons (ps_for PassesOwn.never rfl (pi_range1 rfl T.range (pa_cons (pv 2) pa_nil)) (pg_name (i := 5) scRow.nd rfl (Or.inl rfl))
        (pss_cons (ps_set (i := 4) scRow.nd rfl (Or.inl rfl) (pe_op op_mod (pe_callTy call_int1 (by rfl) T.int (by decide +kernel) (pa_cons (pe_op op_add (pe_op op_add (pe_op op_mul (pv 4) pe_int) (pe_op op_mul pe_int (pv 5))) pe_int) pa_nil)) pe_int))
        (pss_one (ps_expr (pe_bm PySem.F.plainAttrs_list PySem.F.slot_list_append PySem.F.type_list_append mt_append (pv 3) (pa_cons (pe_op op_mod (pe_callTy call_int1 (by rfl) T.int (by decide +kernel) (pa_cons (pe_op op_fdiv (pv 4) pe_int) pa_nil)) pe_int) pa_nil))))))
      (pss_one (ps_ret (pv 3))))))), ?_⟩
    refine ⟨by decide, fun p hp => ?_⟩
    have c0 : Ch [] H (upd H p (.lst [])) := Ch.new hp
    -- behind the first if: some c, not negative
    have big : (1000000000000000000 : Int) = 10 ^ (18 : Int).toNat := by decide
    refine ⟨_, rfl, _, _, rfl, rfl, _, rfl, ?_⟩
    refine ite2 (fun cn => ?_) (fun cn => ?_)
    refine ⟨_, rfl, _, _, rfl, rfl, .inl ⟨by decide, by decide⟩, _, _, rfl, rfl, ?_⟩
    obtain ⟨c1, hc, e⟩ : ∃ c1 : Int, 0 ≤ c1 ∧ 1 - 2 * c = c1 := ⟨_, by have := of_decide_eq_true cn; omega, rfl⟩
    change gName 0 (V.int (1 - 2 * c)) _ _ _
    rw [e]
    rotate_left
    obtain ⟨c1, hc, e⟩ : ∃ c1 : Int, 0 ≤ c1 ∧ c = c1 := ⟨c, by have : ¬ c < 0 := fun z => cn (decide_eq_true z); omega, rfl⟩
    rw [e]
    all_goals
      refine ⟨_, rfl, _, _, rfl, rfl, ⟨by decide, by decide, by decide⟩, _, _, rfl, rfl, _, rfl, ?_⟩
      refine ite2 (fun _ => ?_) (fun cn => ?_)
      · -- a great number: cut up
        refine ⟨60, rfl, by decide, by decide, for_range (lo := 0) (n := 60) (fun i σ H' => ∃ (c : Int) (ns : List Int) (o5 : Option V), σ = [some (.int c), some (.int k), some (.int m), some (.ref p), none, o5] ∧ Ch [] H H' ∧ H' p = some (.lst (ns.map V.int)) ∧ ns.length ≤ i) ?_ ?_ ?_⟩
        · exact ⟨c1, [], none, rfl, c0, upd_same, Nat.le_refl _⟩
        · rintro i σ H' hi ⟨c, ns, o5, rfl, kk, hl, hn⟩
          refine ⟨_, rfl, _, _, rfl, rfl, _, rfl, ?_⟩
          have skip : ∃ (c' : Int) (ns' : List Int) (o5 : Option V), ([some (.int c), some (.int k), some (.int m), some (.ref p), none, some (.int (0 + (i : Nat)))] : L2.St) = [some (.int c'), some (.int k), some (.int m), some (.ref p), none, o5] ∧ Ch [] H H' ∧ H' p = some (.lst (ns'.map V.int)) ∧ ns'.length ≤ i + 1 :=
            ⟨c, ns, _, rfl, kk, hl, by omega⟩
          refine ite2 (fun _ => ?_) (fun _ => iteF skip)
          refine ⟨_, rfl, p, _, rfl, .inl (.of hl), _, rfl, _, _, rfl, rfl, _, rfl, ?_⟩
          refine ite2 (fun _ => ?_) (fun _ => skip)
          refine ⟨_, rfl, .inl ⟨rfl, _, .of hl⟩, _, rfl, .inl ⟨c, rfl, _, _, rfl, rfl, (by show (0 : Int) < 1000; decide), p, _, _, rfl, rfl, hl, ?_, ?_⟩⟩
          · rw [List.length_map]
            exact small1000 (by omega)
          · refine ⟨_, rfl, _, _, rfl, rfl, ⟨by decide, by decide⟩, _, ns ++ [c % 1000], _, rfl, kk.new_upd hp, ?_, ?_⟩
            · rw [upd_same, List.map_append]
              rfl
            · rw [List.length_append]
              show ns.length + 1 ≤ i + 1
              omega
        · rintro σ H' ⟨c, ns, o5, rfl, kk, hl, hn⟩
          exact ⟨_, rfl, q H' p ns kk hl (by omega)⟩
      · have hlt : c1 < 1000000000000000000 := by
          have : ¬ (10 : Int) ^ (18 : Int).toNat ≤ c1 := fun z => cn (decide_eq_true z)
          omega
        refine ⟨_, rfl, _, _, rfl, rfl, .inl ⟨by omega, by omega⟩, ?_⟩
        refine ⟨_, rfl, _, _, rfl, rfl, .inl ⟨by omega, by omega⟩, _, _, rfl, rfl, _, _, rfl, rfl, .inl ⟨_, rfl, _, _, rfl, rfl, (by show (0 : Int) < 2147483647; decide), ?_⟩⟩
        refine ⟨_, rfl, m, rfl, by omega, by omega, for_range (lo := 0) (n := m.toNat) (fun i σ H' => ∃ (s : Int) (ns : List Int) (o5 : Option V), σ = [some (.int c1), some (.int k), some (.int m), some (.ref p), some (.int s), o5] ∧ 0 ≤ s ∧ s < 2147483647 ∧ Ch [] H H' ∧ H' p = some (.lst (ns.map V.int)) ∧ ns.length ≤ i) ?_ ?_ ?_⟩
        · exact ⟨_, [], none, rfl, Int.emod_nonneg _ (by decide), Int.emod_lt_of_pos _ (by decide), c0, upd_same, Nat.le_refl _⟩
        · rintro i σ H' hi ⟨s1, ns, o5, rfl, hs0, hs1, kk, hl, hn⟩
          refine ⟨_, rfl, _, _, rfl, rfl, .inl ⟨by omega, by omega⟩, _, rfl, _, _, rfl, rfl, .inl ⟨by decide, by decide⟩, _, _, rfl, rfl, _, _, rfl, rfl, .inl ⟨_, rfl, _, _, rfl, rfl, (by show (0 : Int) < 2147483647; decide), ?_⟩⟩
          refine ⟨_, rfl, .inl ⟨rfl, _, .of hl⟩, _, rfl, _, _, rfl, rfl, ⟨by decide, by decide⟩, .inl ⟨_, rfl, _, _, rfl, rfl, (by show (0 : Int) < 1000; decide), p, _, _, rfl, rfl, hl, ?_, ?_⟩⟩
          · rw [List.length_map]
            exact small1000 (by omega)
          · refine ⟨_, ns ++ [(s1 * 16807 + 7 * (0 + (i : Nat)) + 1) % 2147483647 / 997 % 1000], _, rfl, Int.emod_nonneg _ (by decide), Int.emod_lt_of_pos _ (by decide), kk.new_upd hp, ?_, ?_⟩
            · rw [upd_same, List.map_append]
              rfl
            · rw [List.length_append]
              show ns.length + 1 ≤ i + 1
              omega
        · rintro σ H' ⟨s1, ns, o5, rfl, hs0, hs1, kk, hl, hn⟩
          exact ⟨_, rfl, q H' p ns kk hl (by omega)⟩
theorem scBox : FnScope ["_law_script", "_law_first", "_law_last", "_law_row_here", "_law_k"] ["_law_script", "_law_first", "_law_last"] (defScope lBox) := ⟨rfl, rfl, rfl, by decide +kernel, rfl, by decide +kernel, by decide +kernel⟩
theorem ok_box {f fC fR : Addr} {fd fdC fdR : FuncData} (F : Fun K "_law_box" "_law_box" lBox f fd) (T : Txt K mg CS CR)
    (FC : FnOk P w K mg base CX0 1 fC fdC ["_law_script", "_law_k"] (spCl K)) (bC : Binds K fdC ["_law_script", "_law_k"] []) (gC : mg "_law_cell" = some (.ref fC)) (kC : PySem.W.keepIn K (.ref fC) = true)
    (FR : FnOk P w K mg base CX0 1 fR fdR ["_law_cell_here", "_law_k", "_law_many"] (spRow K)) (bR : Binds K fdR ["_law_cell_here", "_law_k", "_law_many"] []) (gR : mg "_law_row" = some (.ref fR)) (kR : PySem.W.keepIn K (.ref fR) = true) :
    FnOk P w K mg base CX0 2 f fd ["_law_script", "_law_first", "_law_last"] (spBox K) := by
  refine F.ok scBox (fun vs H Q E h => ?_) (fun cdv A outer s H vs Q E hr h => ?_)
  · obtain ⟨a, ns, rfl, _⟩ := h
    rfl
  · obtain ⟨a, ns, rfl, hs, q⟩ := h
    refine ⟨_, pss_cons (ps_set (i := 3) scBox.nd rfl (Or.inl rfl) (pe_lst pa_nil))
      (pss_cons (ps_for PassesOwn.never rfl (pi_range2 rfl T.range (pa_cons (pv 1) (pa_cons (pv 2) pa_nil))) (pg_name (i := 4) scBox.nd rfl (Or.inl rfl))
        (pss_one (ps_set (i := 3) scBox.nd rfl (Or.inl rfl) (pe_op op_cat (pv 3) (pe_call FR hr rfl gR kR bR .nil pass0 (pa_cons (pe_call FC hr rfl gC kC bC .nil pass0 (pa_cons (pv 0) (pa_cons (pv 4) pa_nil))) (pa_cons (pv 4) (pa_cons pe_int pa_nil))))))))
      (pss_one (ps_ret (pe_lst (pa_cons (pv 3) (pa_cons pe_int pa_nil)))))), ?_⟩
    refine ⟨by decide, fun p hp => ?_⟩
    refine ⟨_, rfl, _, rfl, 0, 60, rfl, ⟨by decide, by decide, by decide, by decide⟩, for_range (lo := 0) (n := 60) (fun i σ H' => ∃ (r : Addr) (ms : List Int) (o4 : Option V), σ = [some (.ref a), some (.int 0), some (.int 60), some (.ref r), o4] ∧ Ch [] H H' ∧ H r = none ∧ H' r = some (.lst (ms.map V.int)) ∧ ms.length ≤ 100 * i) ?_ ?_ ?_⟩
    · exact ⟨p, [], none, rfl, Ch.new hp, hp, upd_same, Nat.le_refl _⟩
    · rintro i σ H' hi ⟨r, ms, o4, rfl, kk, hr0, hl, hm⟩
      have e : V.int (0 + ((i : Nat) : Int)) = V.int ((i : Nat) : Int) := congrArg V.int (Int.zero_add _)
      rw [e]
      refine ⟨_, rfl, _, rfl, _, rfl, a, ns, i, rfl, kk.sqL (by simp) hs, fun z => ?_⟩
      refine ⟨_, rfl, z, _, 12, rfl, by omega, by omega, by decide, by decide, fun H2 p2 n2 k2 hp2 hn2 => ?_⟩
      have hl2 := k2 _ _ (by simp) hl
      refine ⟨r, p2, _, _, rfl, rfl, hl2, hp2, ?_, fun p3 hp3 => ?_⟩
      · rw [List.length_map, List.length_map, sizeLine_eq]
        omega
      · refine ⟨p3, ms ++ n2, _, rfl, (kk.trans k2).then_new hp3, (kk.trans k2).free hp3, ?_, ?_⟩
        · rw [upd_same, List.map_append]
        · rw [List.length_append]
          omega
    · rintro σ H' ⟨r, ms, o4, rfl, kk, hr0, hl, hm⟩
      refine ⟨_, rfl, (by show 2 ≤ sizeLine; decide), fun p2 hp2 => ?_⟩
      have k2 : Ch [] H' _ := Ch.new (M := []) (o := .lst [.ref r, .int 0]) hp2
      have rp : p2 ≠ r := fun z => by rw [z, hl] at hp2; cases hp2
      exact q _ p2 r (kk.trans k2) (kk.free hp2) hr0 rp ⟨ms, 0, upd_same, k2 _ _ (by simp) hl, Nat.le_refl _⟩
theorem scDraw : FnScope ["_law_box_here", "_law_many", "_law_at"] ["_law_box_here", "_law_many"] (defScope lDraw) := ⟨rfl, rfl, rfl, by decide +kernel, rfl, by decide +kernel, by decide +kernel⟩
theorem ok_draw {f : Addr} {fd : FuncData} (F : Fun K "_law_draw" "_law_draw" lDraw f fd) (T : Txt K mg CS CR) : FnOk P w K mg base CX0 1 f fd ["_law_box_here", "_law_many"] spDraw := by
  refine F.ok scDraw (fun vs H Q E h => ?_) (fun cdv A outer s H vs Q E hr h => ?_)
  · obtain ⟨b, q, m, n, rfl, _⟩ := h
    rfl
  · obtain ⟨b, q, m, n, rfl, B, hn, hm, k⟩ := h
    obtain ⟨ns, j, h1, h2, h3⟩ := B.ex
    refine ⟨_, pss_cons (ps_set (i := 2) scDraw.nd rfl (Or.inl rfl) (pe_ix ix_list (pv 0) pe_int (fun _ _ => rfl)))
      (pss_cons (ps_asg (pe_op op_add (pv 2) pe_int) (pg_sub (pv 0) pe_int set_list))
      (pss_cons (ps_if (pt_cmpR op_lt (pv 2) (pe_callB call_len_seq (by rfl) T.len (by decide +kernel) (pa_cons (pe_ix ix_list (pv 0) pe_int (fun _ _ => rfl)) pa_nil)) (nomark _))
        (pss_one (ps_ret (pe_op op_mod (pe_callTy call_int1 (by rfl) T.int (by decide +kernel) (pa_cons (pe_ix ix_list (pe_ix ix_list (pv 0) pe_int (fun _ _ => rfl)) (pv 2) (fun _ _ => rfl)) pa_nil)) (pv 1)))) pss_nil)
      (pss_one (ps_ret (pe_op op_mod (pe_callTy call_int1 (by rfl) T.int (by decide +kernel) (pa_cons (pe_op op_add (pe_op op_mul (pv 2) pe_int) pe_int) pa_nil)) (pv 1)))))), ?_⟩
    have qb : q ≠ b := fun z => by
      rw [z, h1] at h2
      cases ns with
      | nil => cases h2
      | cons x r => cases h2
    refine ⟨_, rfl, b, _, _, .int (j : Nat), rfl, rfl, .of h1, rfl, ?_⟩
    refine ⟨_, rfl, _, _, rfl, rfl, _, rfl, b, _, _, 1, rfl, rfl, h1, rfl, ?_⟩
    have e : V.int (((j : Nat) : Int) + 1) = V.int ((j + 1 : Nat) : Int) := rfl
    have hb2 : upd H b (.lst [.ref q, .int ((j + 1 : Nat) : Int)]) b = some (.lst [.ref q, .int ((j + 1 : Nat) : Int)]) := upd_same
    have hq2 : upd H b (.lst [.ref q, .int ((j + 1 : Nat) : Int)]) q = some (.lst (ns.map V.int)) := by rw [upd_ne qb]; exact h2
    have B2 : BoxAt (upd H b (.lst [.ref q, .int ((j + 1 : Nat) : Int)])) b q (n + 1) := ⟨ns, j + 1, hb2, hq2, by omega⟩
    have fin : ∀ z : Int, Q (.int (z % m)) (upd H b (.lst [.ref q, .int ((j + 1 : Nat) : Int)])) := fun z => k _ _ (Ch.upd (by simp)) B2 (Int.emod_nonneg _ (by omega)) (Int.emod_lt_of_pos _ hm)
    refine ⟨_, rfl, _, rfl, b, _, _, .ref q, rfl, rfl, .of hb2, rfl, q, _, rfl, .inl (.of hq2), _, _, rfl, rfl, _, rfl, ?_⟩
    refine ite2 (fun c => ?_) (fun _ => ?_)
    · have hj : j < ns.length := by
        have := of_decide_eq_true c
        rw [List.length_map] at this
        omega
      exact ⟨_, rfl, b, _, _, .ref q, rfl, rfl, .of hb2, rfl, _, rfl, q, _, _, .int ns[j], rfl, rfl, .of hq2, atI_nat (by rw [List.getElem?_map, List.getElem?_eq_getElem hj]; rfl), .inl ⟨_, rfl, _, rfl, _, _, rfl, rfl, hm, fin _⟩⟩
    · exact ⟨_, rfl, _, _, rfl, rfl, .inl ⟨by omega, by omega⟩, _, _, rfl, rfl, .inl ⟨_, rfl, _, rfl, _, _, rfl, rfl, hm, fin _⟩⟩
theorem scPick : FnScope ["_law_box_here", "_law_row_here"] ["_law_box_here", "_law_row_here"] (defScope lPick) := ⟨rfl, rfl, rfl, by decide +kernel, rfl, by decide +kernel, by decide +kernel⟩
theorem ok_pick {f fD : Addr} {fd fdD : FuncData} (F : Fun K "_law_pick" "_law_pick" lPick f fd) (T : Txt K mg CS CR)
    (FD : FnOk P w K mg base CX0 1 fD fdD ["_law_box_here", "_law_many"] spDraw) (bD : Binds K fdD ["_law_box_here", "_law_many"] []) (gD : mg "_law_draw" = some (.ref fD)) (kD : PySem.W.keepIn K (.ref fD) = true) :
    FnOk P w K mg base CX0 2 f fd ["_law_box_here", "_law_row_here"] (spPick K) := by
  refine F.ok scPick (fun vs H Q E h => ?_) (fun cdv A outer s H vs Q E hr h => ?_)
  · obtain ⟨b, q, r, n, xs, rfl, _⟩ := h
    rfl
  · obtain ⟨b, q, r, n, xs, rfl, B, hn, hr2, hx, hrb, k⟩ := h
    refine ⟨_, pss_one (ps_ret (pe_ix ix_list (pv 1) (pe_op op_mod (pe_callTy call_int1 (by rfl) T.int (by decide +kernel) (pa_cons (pe_call FD hr rfl gD kD bD .nil pass0 (pa_cons (pv 0) (pa_cons pe_int pa_nil))) pa_nil)) (pe_callB call_len_seq (by rfl) T.len (by decide +kernel) (pa_cons (pv 1) pa_nil))) (fun _ _ => rfl))), ?_⟩
    have hl : 0 < xs.length := List.length_pos_iff.mpr hx
    refine ⟨_, rfl, _, rfl, b, q, 900, n, rfl, B, hn, by decide, fun H' z c B' z0 z1 => ?_⟩
    have hr3 := c.sqL (by simpa using hrb) hr2
    refine .inl ⟨z, rfl, _, rfl, r, _, rfl, .inl hr3, _, _, rfl, rfl, (by show (0 : Int) < (xs.length : Nat); omega), ?_⟩
    obtain ⟨i, hi⟩ : ∃ i : Nat, z % ((xs.length : Nat) : Int) = (i : Nat) := ⟨(z % ((xs.length : Nat) : Int)).toNat, by have := Int.emod_nonneg z (b := ((xs.length : Nat) : Int)) (by omega); omega⟩
    have hil : i < xs.length := by
      have := Int.emod_lt_of_pos z (b := ((xs.length : Nat) : Int)) (by omega)
      omega
    refine ⟨r, xs, _, xs[i], rfl, congrArg V.int hi, hr3, atI_nat (List.getElem?_eq_getElem hil), k H' _ c B' (List.getElem_mem hil)⟩
theorem scFld : FnScope ["_law_box_here"] ["_law_box_here"] (defScope lFld) := ⟨rfl, rfl, rfl, by decide +kernel, rfl, by decide +kernel, by decide +kernel⟩
theorem four_at {xs : List V} {z : Int} (h : xs.length = 4) (z0 : 0 ≤ z) (z1 : z < 4) : ∃ v ∈ xs, atI xs z = some v := by
  obtain ⟨i, rfl⟩ : ∃ i : Nat, z = (i : Nat) := ⟨z.toNat, by omega⟩
  have hi : i < xs.length := by omega
  exact ⟨xs[i], List.getElem_mem hi, atI_nat (List.getElem?_eq_getElem hi)⟩
theorem ok_fld {f fD : Addr} {fd fdD : FuncData} (F : Fun K "_law_field" "_law_field" lFld f fd)
    (FD : FnOk P w K mg base CX0 1 fD fdD ["_law_box_here", "_law_many"] spDraw) (bD : Binds K fdD ["_law_box_here", "_law_many"] []) (gD : mg "_law_draw" = some (.ref fD)) (kD : PySem.W.keepIn K (.ref fD) = true) :
    FnOk P w K mg base CX0 2 f fd ["_law_box_here"] spFld := by
  refine F.ok scFld (fun vs H Q E h => ?_) (fun cdv A outer s H vs Q E hr h => ?_)
  · obtain ⟨b, q, n, rfl, _⟩ := h
    rfl
  · obtain ⟨b, q, n, rfl, B, hn, k⟩ := h
    refine ⟨_, pss_one (ps_ret (pe_ix ix_list (pe_lst (pa_cons pe_str (pa_cons pe_str (pa_cons pe_str (pa_cons pe_str pa_nil))))) (pe_call FD hr rfl gD kD bD .nil pass0 (pa_cons (pv 0) (pa_cons pe_int pa_nil))) (fun _ _ => rfl))), ?_⟩
    refine ⟨(by show 4 ≤ sizeLine; decide), fun p hp => ?_⟩
    have c1 : Ch [] H _ := Ch.new (M := []) (o := .lst [.str "a", .str "b", .str "next", .str "z"]) hp
    have pb : p ≠ b := fun z => by
      obtain ⟨ns, j, h1, _⟩ := B.ex
      rw [z, h1] at hp
      cases hp
    refine ⟨_, rfl, b, q, 4, n, rfl, B.ch c1, hn, by decide, fun H' z c2 B' z0 z1 => ?_⟩
    obtain ⟨v, hv, e⟩ := four_at (xs := [V.str "a", V.str "b", V.str "next", V.str "z"]) rfl z0 z1
    obtain ⟨f, hf, rfl⟩ : ∃ f ∈ (["a", "b", "next", "z"] : List Str), v = .str f := by
      simp only [List.mem_cons, List.not_mem_nil, or_false] at hv
      rcases hv with rfl | rfl | rfl | rfl
      · exact ⟨"a", by simp, rfl⟩
      · exact ⟨"b", by simp, rfl⟩
      · exact ⟨"next", by simp, rfl⟩
      · exact ⟨"z", by simp, rfl⟩
    exact ⟨p, _, z, _, rfl, rfl, .of (c2 _ _ (by simpa using pb) upd_same), e, k H' f (c1.any.trans c2) B' hf⟩
theorem scWorth : FnScope ["_law_box_here", "_law_names", "_law_kind"] ["_law_box_here", "_law_names"] (defScope lWorth) := ⟨rfl, rfl, rfl, by decide +kernel, rfl, by decide +kernel, by decide +kernel⟩
theorem ok_worth {f fD fP : Addr} {fd fdD fdP : FuncData} (F : Fun K "_law_worth" "_law_worth" lWorth f fd)
    (FD : FnOk P w K mg base CX0 1 fD fdD ["_law_box_here", "_law_many"] spDraw) (bD : Binds K fdD ["_law_box_here", "_law_many"] []) (gD : mg "_law_draw" = some (.ref fD)) (kD : PySem.W.keepIn K (.ref fD) = true)
    (FP : FnOk P w K mg base CX0 2 fP fdP ["_law_box_here", "_law_row_here"] (spPick K)) (bP : Binds K fdP ["_law_box_here", "_law_row_here"] []) (gP : mg "_law_pick" = some (.ref fP)) (kP : PySem.W.keepIn K (.ref fP) = true) :
    FnOk P w K mg base CX0 3 f fd ["_law_box_here", "_law_names"] (spWorth K) := by
  refine F.ok scWorth (fun vs H Q E h => ?_) (fun cdv A outer s H vs Q E hr h => ?_)
  · obtain ⟨b, q, r, n, xs, ns, rfl, _⟩ := h
    rfl
  · obtain ⟨b, q, r, n, xs, ns, rfl, B, hn, hs, hns, hx, hrb, k⟩ := h
    have hr1 : Room 1 _ := hr.mono (by decide)
    refine ⟨_, pss_cons (ps_set (i := 2) scWorth.nd rfl (Or.inl rfl) (pe_call FD hr1 rfl gD kD bD .nil pass0 (pa_cons (pv 0) (pa_cons pe_int pa_nil))))
      (pss_cons (ps_if (pt_cmpR op_lt (pv 2) pe_int (nomark _)) (pss_one (ps_ret (pe_tup (pa_cons pe_str (pa_cons (pe_call FP hr rfl gP kP bP .nil pass0 (pa_cons (pv 0) (pa_cons (pv 1) pa_nil))) pa_nil))))) pss_nil)
      (pss_cons (ps_if (pt_cmpR op_eq (pv 2) pe_int (nomark _)) (pss_one (ps_ret pe_non)) pss_nil)
      (pss_cons (ps_if (pt_cmpR op_eq (pv 2) pe_int (nomark _)) (pss_one (ps_ret (pe_ix ix_list (pe_lst (pa_cons pe_str (pa_cons pe_str (pa_cons pe_str (pa_cons pe_str pa_nil))))) (pe_call FD hr1 rfl gD kD bD .nil pass0 (pa_cons (pv 0) (pa_cons pe_int pa_nil))) (fun _ _ => rfl)))) pss_nil)
      (pss_one (ps_ret (pe_op op_sub (pe_call FD hr1 rfl gD kD bD .nil pass0 (pa_cons (pv 0) (pa_cons pe_int pa_nil))) pe_int)))))), ?_⟩
    refine ⟨_, rfl, b, q, 7, n, rfl, B, by omega, by decide, fun H1 z c1 B1 z0 z1 => ?_⟩
    have t1 : TK K H H1 := B.tk c1
    refine ⟨_, rfl, _, _, rfl, rfl, _, rfl, ?_⟩
    refine ite2 (fun _ => ?_) (fun _ => ?_)
    · refine ⟨_, rfl, _, rfl, b, q, r, n + 1, xs, rfl, B1, by omega, c1.sqL (by simpa using hrb) hs, hx, hrb, fun H2 v c2 B2 hv => ?_⟩
      refine ⟨(by show 2 ≤ sizeLine; decide), fun p hp => ?_⟩
      obtain ⟨m, hm, hvm⟩ := Paired.memL' ((hns.tk t1).tk (B1.tk c2)) hv
      have c3 : Ch [] H2 _ := Ch.new (M := []) (o := .tup [.str "ref", v]) hp
      exact k _ _ (.ref m) ((c1.trans c2).trans c3.any) (B2.ch c3) ⟨p, v, rfl, .of upd_same, hvm.tk c3.tk0⟩ hm
    · refine ⟨_, rfl, rfl, _, rfl, ?_⟩
      refine ite2 (fun _ => k H1 .non .non c1 (B1.mono (by omega)) rfl trivial) (fun _ => ?_)
      refine ⟨_, rfl, rfl, _, rfl, ?_⟩
      refine ite2 (fun _ => ?_) (fun _ => ?_)
      · refine ⟨(by show 4 ≤ sizeLine; decide), fun p hp => ?_⟩
        have c2 : Ch [] H1 _ := Ch.new (M := []) (o := .lst [.str "", .str "a", .str "zb", .str "sea"]) hp
        have pb : p ≠ b := fun z => by
          obtain ⟨ns, j, h1, _⟩ := B1.ex
          rw [z, h1] at hp
          cases hp
        refine ⟨_, rfl, b, q, 4, n + 1, rfl, B1.ch c2, by omega, by decide, fun H' z c3 B' z0 z1 => ?_⟩
        obtain ⟨v, hv, e⟩ := four_at (xs := [V.str "", V.str "a", V.str "zb", V.str "sea"]) rfl z0 z1
        obtain ⟨f, hf, rfl⟩ : ∃ f ∈ (["", "a", "zb", "sea"] : List Str), v = .str f := by
          simp only [List.mem_cons, List.not_mem_nil, or_false] at hv
          rcases hv with rfl | rfl | rfl | rfl
          · exact ⟨"", by simp, rfl⟩
          · exact ⟨"a", by simp, rfl⟩
          · exact ⟨"zb", by simp, rfl⟩
          · exact ⟨"sea", by simp, rfl⟩
        exact ⟨p, _, z, _, rfl, rfl, .of (c3 _ _ (by simpa using pb) upd_same), e, k H' _ (.txt f) ((c1.trans c2.any).trans c3) B' rfl hf⟩
      · refine ⟨_, rfl, b, q, 9, n + 1, rfl, B1, by omega, by decide, fun H2 z c2 B2 z0 z1 => ?_⟩
        exact ⟨_, _, rfl, rfl, k H2 _ (.int (z - 4)) (c1.trans c2) B2 rfl ⟨by omega, by omega⟩⟩
end
end K40

namespace K40
open PySem PySem.Spec PyProof.Rows L2
open PySem.W (Frag)
structure Shw (d : PyData) : Prop where
  sh : d.showable = true
  nd : d.hasDict = false
  ln : d.shown.length ≤ sizeLine
  dp : d.depth ≤ 20
def spSame (K : Frag) : Sp := fun vs H Q _ => ∃ x y d, vs = [x, y] ∧ Dp K H x d ∧ Dp K H y d ∧ ((∃ b, d = .bool b) ∨ (∃ a, x = .ref a) ∧ ∃ a, y = .ref a) ∧ Shw d ∧ Q (.bl true) H
def spCells (P : Program) (w : World) (K : Frag) : Sp := fun vs H Q _ => ∃ ra ms made, vs = [.ref ra] ∧ SqL K H ra ms ∧ Paired (ChAt K H) ms made ∧ made.length ≤ 30 ∧
  ∀ H' p xs, Ch [] H H' → H' p = some (NO P w p xs) → CsR K H' xs (cellsOf made) → Q (.ref p) H'
def spLReach (P : Program) (w : World) (K : Frag) : Sp := fun vs H Q _ => ∃ d xs c ra rs roots, vs = [.ref d, .ref ra] ∧ H d = some (NO P w d xs) ∧ CsR K H xs c ∧ (c.map (·.1)).Nodup ∧ c.length ≤ 40 ∧ SqL K H ra rs ∧ NmsR K H rs roots ∧ roots.length ≤ 40 ∧
  ∀ H' p vs, Ch [] H H' → H' p = some (.lst vs) → NmsR K H' vs (reach c roots) → Q (.ref p) H'
def spLGraph (P : Program) (w : World) (K : Frag) : Sp := fun vs H Q _ => ∃ d xs c ra rs roots, vs = [.ref d, .ref ra] ∧ H d = some (NO P w d xs) ∧ CsR K H xs c ∧ (c.map (·.1)).Nodup ∧ c.length ≤ 40 ∧ SqL K H ra rs ∧ NmsR K H rs roots ∧ roots.length ≤ 40 ∧
  ∀ H' r, Ch [] H H' → Dp K H' r (graphD c roots) → Q r H'
section
variable {P : Program} {w : World} {K : Frag} {mg : Str → Option Value} {base : Heap} {CS CR : Addr}
theorem scSame : FnScope ["_law_one", "_law_other"] ["_law_one", "_law_other"] (defScope lSame) := ⟨rfl, rfl, rfl, by decide +kernel, rfl, by decide +kernel, by decide +kernel⟩
theorem ok_same {f : Addr} {fd : FuncData} (F : Fun K "_law_same" "_law_same" lSame f fd) (T : Txt K mg CS CR) : FnG P w K mg base CX0 1 f fd ["_law_one", "_law_other"] (spSame K) := by
  refine fnG_of F scSame (fun vs H Q E h => ?_) (fun cdv A outer s H vs Q E hr hg h => ?_)
  · obtain ⟨x, y, d, rfl, _⟩ := h
    rfl
  · obtain ⟨x, y, d, rfl, hx, hy, hk, sh, k⟩ := h
    refine ⟨_, pss_one (ps_ret (pe_cmpR op_eq (pe_callB (call_reprD hr hg) (by rfl) T.repr (by decide +kernel) (pa_cons (pv 0) pa_nil)) (pe_callB (call_reprD hr hg) (by rfl) T.repr (by decide +kernel) (pa_cons (pv 1) pa_nil)) (nomark _))), ?_⟩
    refine ⟨_, rfl, x, d, rfl, hx, ?_, sh.sh, sh.nd, sh.ln, sh.dp, _, rfl, y, d, rfl, hy, ?_, sh.sh, sh.nd, sh.ln, sh.dp, rfl, ?_⟩
    · exact hk.imp id And.left
    · exact hk.imp id And.right
    · rw [decide_eq_true rfl]
      exact k
theorem scCells : FnScope ["_law_changes", "_law_cells_here", "_law_change", "_law_key"] ["_law_changes"] (defScope lCells) := ⟨rfl, rfl, rfl, by decide +kernel, rfl, by decide +kernel, by decide +kernel⟩
theorem ok_cells {f : Addr} {fd : FuncData} (F : Fun K "_law_cells" "_law_cells" lCells f fd) : FnOk P w K mg base CX0 1 f fd ["_law_changes"] (spCells P w K) := by
  refine F.ok scCells (fun vs H Q E h => ?_) (fun cdv A outer s H vs Q E hr h => ?_)
  · obtain ⟨ra, ms, made, rfl, _⟩ := h
    rfl
  · obtain ⟨ra, ms, made, rfl, hra, hms, hl, k⟩ := h
    refine ⟨_, pss_cons (ps_set (i := 1) scCells.nd rfl (Or.inl rfl) pe_nnew)
      (pss_cons (ps_for PassesOwn.never rfl (pi_list (pv 0)) (pg_name (i := 2) scCells.nd rfl (Or.inl rfl))
        (pss_cons (ps_set (i := 3) scCells.nd rfl (Or.inl rfl) (pe_tup (pa_cons (pe_ix ix_tup (pv 2) pe_int (fun _ _ => rfl)) (pa_cons (pe_ix ix_tup (pv 2) pe_int (fun _ _ => rfl)) pa_nil))))
        (pss_one (ps_if (PW.pt (pw_or (pt_cmp (pc_nnotin hr (pv 3) (pv 1))) (pw_or1 (pt_cmpR (op_gtD hr) (pe_ix ix_tup (pv 2) pe_int (fun _ _ => rfl)) (pe_ix ix_tup (pe_nget hr (pv 1) (pv 3)) pe_int (fun _ _ => rfl)) (nomark _)))))
          (pss_one (ps_nput hr (pv 1) (pv 3) (pe_tup (pa_cons (pe_ix ix_tup (pv 2) pe_int (fun _ _ => rfl)) (pa_cons (pe_ix ix_tup (pv 2) pe_int (fun _ _ => rfl)) pa_nil))))) pss_nil))))
      (pss_one (ps_ret (pv 1)))), ?_⟩
    intro D hD
    refine ⟨_, rfl, ra, rfl, ⟨ms, (Ch.new hD).sqL (M := []) (by simp) hra⟩, for_list (K := K) (a := ra) (xs := ms) (fun i σ H' => ∃ (o2 o3 : Option V) (xs : NE), σ = [some (.ref ra), some (.ref D), o2, o3] ∧ Ch [] H H' ∧ H' D = some (NO P w D xs) ∧ CsR K H' xs (cellsOf (made.take i))) ?_ ?_ ?_ ?_⟩
    · exact ⟨none, none, [], rfl, Ch.new hD, upd_same, .nil⟩
    · rintro i σ H' _ ⟨_, _, _, _, kk, _⟩
      exact kk.sqL (by simp) hra
    · rintro i y σ H' hi ⟨o2, o3, xs, rfl, kk, hD', hC⟩
      obtain ⟨g, hg, b, st, nm, vl, rfl, hb, h1, h2, h3⟩ := Paired.get' (Paired.imp' (fun _ _ z => ChAt.tk (kk.tk0 (K := K)) z) hms) hi
      have hcl : (cellsOf (made.take i)).length ≤ 30 := by
        have q1 := cells_len (made.take i)
        rw [List.length_take] at q1
        omega
      have stp : cellsOf (made.take (i + 1)) = takeC (cellsOf (made.take i)) g := by rw [take_more hg, cellsOf_snoc]
      refine ⟨_, rfl, b, _, _, nm, rfl, rfl, hb, rfl, _, rfl, b, _, _, .str g.fd, rfl, rfl, hb, rfl, (by show 2 ≤ sizeLine; decide), fun p hp => ?_⟩
      have k1 : Ch [] H' _ := Ch.new (M := []) (o := .tup [nm, .str g.fd]) hp
      have hky : KyAt K (upd H' p (.tup [nm, .str g.fd])) p (g.nm, g.fd) := KyAt.new h2 hp
      have hC1 := hC.tk (k1.tk0 (K := K))
      have hD1 := k1 _ _ (by simp) hD'
      have hb1 := (k1.tk0 (K := K)) _ _ hb
      have ng : NGet K P w (upd H' p (.tup [nm, .str g.fd])) D (.ref p) (lookN xs (kyK (g.nm, g.fd))) := ⟨xs, _, p, .inl hD1, hC1.keys, rfl, hky.key, rfl⟩
      have pD : p ≠ D := fun z => by rw [z, hD'] at hp; cases hp
      -- it is stored
      have put : takeC (cellsOf (made.take i)) g = putC (cellsOf (made.take i)) (g.nm, g.fd) (g.st, g.vl) →
          sNPut K P w (tVar 1) (tVar 3) (tTup (tCons (tOp (rIxT K) (tVar 2) (tC (.int 0))) (tCons (tOp (rIxT K) (tVar 2) (tC (.int 3))) tNil)))
            { nx := fun σ H' => ∃ (o2 o3 : Option V) (xs : NE), σ = [some (.ref ra), some (.ref D), o2, o3] ∧ Ch [] H H' ∧ H' D = some (NO P w D xs) ∧ CsR K H' xs (cellsOf (made.take (i + 1))), rt := Q,
              ct := fun σ H' => ∃ (o2 o3 : Option V) (xs : NE), σ = [some (.ref ra), some (.ref D), o2, o3] ∧ Ch [] H H' ∧ H' D = some (NO P w D xs) ∧ CsR K H' xs (cellsOf (made.take (i + 1))),
              bk := fun σ H' => tRet (tVar 1) { nx := fun _ H' => Q .non H', rt := Q } σ H' } [some (.ref ra), some (.ref D), some (.ref b), some (.ref p)] (upd H' p (.tup [nm, .str g.fd])) := by
        intro ep
        refine ⟨_, rfl, b, _, _, st, rfl, rfl, hb1, rfl, _, rfl, b, _, _, vl, rfl, rfl, hb1, rfl, (by show 2 ≤ sizeLine; decide), fun p2 hp2 => ?_⟩
        have k2 : Ch [] (upd H' p (.tup [nm, .str g.fd])) _ := Ch.new (M := []) (o := .tup [st, vl]) hp2
        have hD2 := k2 _ _ (by simp) hD1
        have hC2 := hC1.tk (k2.tk0 (K := K))
        have kx := k1.trans k2
        refine ⟨_, rfl, _, rfl, D, _, rfl, ⟨xs, _, p, hD2, hC2.keys, rfl, (hky.tk k2.tk0).key, ?_, rfl⟩, ?_⟩
        · rw [hC.len]
          exact small1000 (by omega)
        · have t := TK.upd (K := K) (o := NO P w D (putN xs (kyK (g.nm, g.fd)) p (.ref p2))) (NoTup.no hD2)
          refine ⟨_, _, _, rfl, (kk.trans kx).new_upd hD, upd_same, ?_⟩
          rw [stp, ep]
          exact (hC2.put (hky.tk k2.tk0) ⟨p2, st, vl, rfl, .of upd_same, h1.tk kx.tk0, h3.tk kx.tk0⟩).tk t
      refine ⟨_, rfl, _, rfl, D, _, rfl, ng, _, rfl, ?_⟩
      rcases hC1.look (k := (g.nm, g.fd)) with ⟨e1, e2⟩ | ⟨v', x', e1, e2, hx⟩
      · rw [e1]
        refine iteT (iteT (put ?_))
        unfold takeC
        rw [e2]
      · rw [e1]
        obtain ⟨b', s1, w1, rfl, hs, h1', hw⟩ := hx
        refine iteF ?_
        rw [e1] at ng
        refine ⟨_, rfl, b, _, _, st, rfl, rfl, hb1, rfl, _, rfl, _, rfl, D, _, rfl, ng, b', _, _, s1, rfl, rfl, hs, rfl, _, _, (h1.tk k1.tk0).dp, h1'.dp, nm_alike _ _, (by intro z; cases z), (show 1 ≤ 20 by decide), _, rfl, ?_⟩
        cases el : later x'.1 g.st with
        | true =>
          unfold later at el
          rw [el]
          refine iteT (put ?_)
          unfold takeC
          rw [e2]
          show (if later x'.1 g.st = true then _ else _) = _
          unfold later
          rw [el]
          rfl
        | false =>
          have el' := el
          unfold later at el
          rw [el]
          refine iteF ?_
          refine ⟨_, _, xs, rfl, kk.trans k1, hD1, ?_⟩
          have : takeC (cellsOf (made.take i)) g = cellsOf (made.take i) := by
            unfold takeC
            rw [e2]
            show (if later x'.1 g.st = true then _ else cellsOf (made.take i)) = _
            rw [el']
            rfl
          rw [stp, this]
          exact hC1
    · rintro σ H' ⟨o2, o3, xs, rfl, kk, hD', hC⟩
      rw [Paired.len' hms, List.take_length] at hC
      exact ⟨_, rfl, k H' D xs kk hD' hC⟩
end
end K40

namespace K40
open PySem PySem.Spec PyProof.Rows L2
open PySem.W (Frag)
theorem step_key {s : Cs} {n : Nm} {l : List Nm} {i : Nat} {e : Ky × Cl} (h : s[i]? = some e) :
    (fldsL (s.take (i + 1)) n).foldl (fun l f => addV l f.2) l = if e.1.1 = n then addV ((fldsL (s.take i) n).foldl (fun l f => addV l f.2) l) e.2.2 else (fldsL (s.take i) n).foldl (fun l f => addV l f.2) l := by
  rw [take_more h, fldsL_snoc, List.foldl_append]
  unfold fldOf
  by_cases c1 : e.1.1 = n
  · by_cases c2 : e.2.2 = .non
    · rw [if_neg (fun z => z.2 c2), if_pos c1, c2]
      rfl
    · rw [if_pos ⟨c1, c2⟩, if_pos c1]
      rfl
  · rw [if_neg (fun z => c1 z.1), if_neg c1]
    rfl
theorem vl_ne {K : Frag} {H : Hp} {v : V} {x : Vl} (h : VlAt K H v x) : v = .non ↔ x = .non := by
  cases x with
  | non => exact ⟨fun _ => rfl, fun _ => h⟩
  | int i => exact ⟨fun z => (by rw [z] at h; cases h), fun z => (by cases z)⟩
  | txt s => exact ⟨fun z => (by rw [z] at h; cases h), fun z => (by cases z)⟩
  | ref n => exact ⟨fun z => (by rw [z] at h; obtain ⟨_, _, q, _⟩ := h; cases q), fun z => (by cases z)⟩
theorem addV_none {l : List Nm} {v : Vl} (h : tgt v = none) : addV l v = l := by unfold addV; rw [h]
theorem addV_some {l : List Nm} {v : Vl} {t : Nm} (h : tgt v = some t) : addV l v = addN l t := by unfold addV; rw [h]
theorem addN_old {l : List Nm} {n : Nm} (h : n ∈ l) : addN l n = l := if_pos h
section
variable {P : Program} {w : World} {K : Frag} {mg : Str → Option Value} {base : Heap} {CS CR : Addr}
theorem scLReach : FnScope ["_law_cells_here", "_law_roots", "_law_found", "_law_name", "_law_place", "_law_key", "_law_target_here"] ["_law_cells_here", "_law_roots"] (defScope lReach) := ⟨rfl, rfl, rfl, by decide +kernel, rfl, by decide +kernel, by decide +kernel⟩
theorem ok_lreach {f fT : Addr} {fd fdT : FuncData} (F : Fun K "_law_reach" "_law_reach" lReach f fd) (T : Txt K mg CS CR) (FT : FnOk P w K mg base CX0 1 fT fdT ["_law_value"] (spTgt K)) (bT : Binds K fdT ["_law_value"] []) (gT : mg "_law_target" = some (.ref fT)) (kT : PySem.W.keepIn K (.ref fT) = true) :
    FnOk P w K mg base CX0 2 f fd ["_law_cells_here", "_law_roots"] (spLReach P w K) := by
  refine F.ok scLReach (fun vs H Q E h => ?_) (fun cdv A outer s H vs Q E hr h => ?_)
  · obtain ⟨d, xs, c, ra, rs, roots, rfl, _⟩ := h
    rfl
  · obtain ⟨d, xs, c, ra, rs, roots, rfl, hd, hC, nd, hlc, hra, hrs, hlr, k⟩ := h
    refine ⟨_, pss_cons (ps_set (i := 2) scLReach.nd rfl (Or.inl rfl) (pe_lst pa_nil))
      (pss_cons (ps_for PassesOwn.never rfl (pi_list (pv 1)) (pg_name (i := 3) scLReach.nd rfl (Or.inl rfl))
        (pss_one (ps_if (pt_cmpR (op_notInD (room65 hr)) (pv 3) (pv 2) (by rfl)) (pss_one (ps_expr (pe_bm PySem.F.plainAttrs_list PySem.F.slot_list_append PySem.F.type_list_append mt_append (pv 2) (pa_cons (pv 3) pa_nil)))) pss_nil)))
      (pss_cons (ps_set (i := 4) scLReach.nd rfl (Or.inl rfl) pe_int)
      (pss_cons (ps_while PassesOwn.never (pt_cmpR op_lt (pv 4) (pe_callB call_len_seq (by rfl) T.len (by decide +kernel) (pa_cons (pv 2) pa_nil)) (nomark _))
        (pss_cons (ps_for PassesOwn.never rfl (pi_list (pe_callB (call_sortedN hr rfl) (by rfl) T.sorted (by decide +kernel) (pa_cons (pv 0) pa_nil))) (pg_name (i := 5) scLReach.nd rfl (Or.inl rfl))
          (pss_cons (ps_set (i := 6) scLReach.nd rfl (Or.inl rfl) (pe_call FT hr rfl gT kT bT .nil pass0 (pa_cons (pe_ix ix_tup (pe_nget hr (pv 0) (pv 5)) pe_int (fun _ _ => rfl)) pa_nil)))
          (pss_one (ps_if (PW.pt (pw_and (pt_cmpR (op_eqD hr.units) (pe_ix ix_tup (pv 5) pe_int (fun _ _ => rfl)) (pe_ix ix_list (pv 2) (pv 4) (fun _ _ => rfl)) (nomark _)) (pw_and (pt_cmp (pc_notN (pv 6)) rfl) (pw_and1 (pt_cmpR (op_notInD (room65 hr)) (pv 6) (pv 2) (by rfl))))))
            (pss_one (ps_expr (pe_bm PySem.F.plainAttrs_list PySem.F.slot_list_append PySem.F.type_list_append mt_append (pv 2) (pa_cons (pv 6) pa_nil)))) pss_nil))))
        (pss_one (ps_set (i := 4) scLReach.nd rfl (Or.inl rfl) (pe_op op_add (pv 4) pe_int)))))
      (pss_one (ps_ret (pv 2)))))), ?_⟩
    refine ⟨by decide, fun F0 hF0 => ?_⟩
    have hU : (uni c roots).length ≤ 80 := by
      have := uni_len c roots
      omega
    -- n is added to the list at F0
    have app : ∀ {G : Hp} {fs : List V} {l : List Nm} {v : V} {n : Nm}, G F0 = some (.lst fs) → NmsR K G fs l → NmAt K G v n → n ∉ l → NmsR K (upd G F0 (.lst (fs ++ [v]))) (fs ++ [v]) (addN l n) := fun {G fs l v n} e h hv hn => by
      have t := TK.upd (K := K) (o := .lst (fs ++ [v])) (NoTup.lst e)
      unfold addN
      rw [if_neg hn]
      exact Paired.snoc' (h.tk t) (hv.tk t)
    refine ⟨_, rfl, ra, rfl, ⟨rs, (Ch.new hF0).sqL (M := []) (by simp) hra⟩, for_list (K := K) (a := ra) (xs := rs) (fun i σ H' => ∃ (o3 : Option V) (fs : List V), σ = [some (.ref d), some (.ref ra), some (.ref F0), o3, none, none, none] ∧
      Ch [] H H' ∧ H' F0 = some (.lst fs) ∧ NmsR K H' fs ((roots.take i).foldl addN [])) ?_ ?_ ?_ ?_⟩
    · exact ⟨none, [], rfl, Ch.new hF0, upd_same, .nil⟩
    · rintro i σ H' _ ⟨_, _, _, kk, _⟩
      exact kk.sqL (by simp) hra
    · rintro i y σ H' hi ⟨o3, fs, rfl, kk, hF, hN⟩
      obtain ⟨n, hn, hy⟩ := Paired.get' (hrs.tk kk.tk0) hi
      have stp : (roots.take (i + 1)).foldl addN [] = addN ((roots.take i).foldl addN []) n := by rw [take_more hn, List.foldl_append]; rfl
      have hll : ((roots.take i).foldl addN []).length ≤ 40 := by
        have := nodup_sub_len (u := roots) (foldN_nodup (roots.take i) [] (by simp)) fun x hx => by
          rcases (foldN_mem _ _ _).mp hx with q | q
          · cases q
          · exact List.mem_of_mem_take q
        omega
      refine ⟨_, rfl, _, rfl, nmD n, _, hy.dp, .lst (.of hF) hN.dp, shaped_nm _, shaped_nms _, _, rfl, ?_⟩
      rw [any_nms]
      by_cases c1 : n ∈ (roots.take i).foldl addN []
      · rw [decide_eq_true c1]
        refine iteF ?_
        refine ⟨_, fs, rfl, kk, hF, ?_⟩
        rw [stp, addN_old c1]
        exact hN
      · rw [decide_eq_false c1]
        refine iteT ?_
        refine ⟨_, rfl, .inl ⟨rfl, _, .of hF⟩, _, rfl, F0, fs, y, rfl, rfl, hF, ?_, ?_⟩
        · rw [Paired.len' hN]
          exact small1000 (by omega)
        · refine ⟨_, _, rfl, kk.new_upd hF0, upd_same, ?_⟩
          rw [stp]
          exact app hF hN hy c1
    · rintro σ H' ⟨o3, fs, rfl, kk, hF, hN⟩
      rw [Paired.len' hrs, List.take_length] at hN
      refine ⟨fun m σ H' => ∃ (o3 o5 o6 : Option V) (fs : List V) (p : Nat) (l : List Nm), σ = [some (.ref d), some (.ref ra), some (.ref F0), o3, some (.int (p : Nat)), o5, o6] ∧
        Ch [] H H' ∧ H' F0 = some (.lst fs) ∧ NmsR K H' fs l ∧ RInv c roots m p l, ⟨_, o3, none, none, fs, 0, _, rfl, kk, hF, hN, RInv.start c roots⟩, ?_⟩
      rintro m σ H1 ⟨o3, o5, o6, fs, p, l, rfl, k1, hF1, hN1, R⟩
      have hlen : fs.length = l.length := Paired.len' hN1
      refine ⟨_, rfl, _, rfl, F0, fs, rfl, .inl (.of hF1), _, _, rfl, rfl, _, rfl, ?_⟩
      by_cases hp : p < l.length
      · have hpi : ((p : Nat) : Int) < ((fs.length : Nat) : Int) := by omega
        rw [decide_eq_true hpi]
        refine iteT ?_
        obtain ⟨n, hn⟩ : ∃ n, l[p]? = some n := ⟨l[p], List.getElem?_eq_getElem hp⟩
        obtain ⟨m', rfl, R'⟩ := R.step hn
        refine ⟨fun σ H' => ∃ (o3 o5 o6 : Option V) (fs : List V) (p : Nat) (l : List Nm), σ = [some (.ref d), some (.ref ra), some (.ref F0), o3, some (.int (p : Nat)), o5, o6] ∧
          Ch [] H H' ∧ H' F0 = some (.lst fs) ∧ NmsR K H' fs l ∧ RInv c roots m' p l, fun σ' H' q => ⟨m', Nat.lt_succ_self _, q⟩, ?_⟩
        have hC1 := hC.tk (k1.tk0 (K := K))
        refine ⟨_, rfl, d, xs, rfl, .inl (k1 _ _ (by simp) hd), hC1.keys, hC1.allAlike, hC1.sortable, fun q hq => ?_⟩
        have k2 : Ch [] H1 (upd H1 q (.lst ((srtN xs).map fun x => V.ref x.2.1))) := Ch.new hq
        have hqF : q ≠ F0 := fun z => by rw [z, hF1] at hq; cases hq
        have hsl : SqL K (upd H1 q (.lst ((srtN xs).map fun x => V.ref x.2.1))) q ((srtN xs).map fun x => V.ref x.2.1) := .of upd_same
        have kH2 := k1.trans k2
        refine ⟨q, rfl, ⟨_, hsl⟩, for_list (K := K) (a := q) (xs := (srtN xs).map fun x => V.ref x.2.1) (fun i σ H' => ∃ (o5 o6 : Option V) (gs : List V), σ = [some (.ref d), some (.ref ra), some (.ref F0), o3, some (.int (p : Nat)), o5, o6] ∧
          Ch [F0] (upd H1 q (.lst ((srtN xs).map fun x => V.ref x.2.1))) H' ∧ H' F0 = some (.lst gs) ∧ NmsR K H' gs ((fldsL ((srtC c).take i) n).foldl (fun l f => addV l f.2) l)) ?_ ?_ ?_ ?_⟩
        · exact ⟨o5, o6, fs, rfl, Ch.refl _ _, k2 _ _ (by simp) hF1, hN1.tk k2.tk0⟩
        · rintro i σ H' _ ⟨_, _, _, _, kq, _⟩
          exact kq.sqL (by simpa using hqF) hsl
        · rintro i y σ H' hi ⟨o5, o6, gs, rfl, kq, hG, hNg⟩
          have kH' : Ch [] H H' := Ch.drop ((kH2.any (M := [F0])).trans kq) hF0
          have hC' := hC.tk (kH'.tk0 (K := K))
          rw [List.getElem?_map] at hi
          obtain ⟨x, hx, rfl⟩ := Option.map_eq_some_iff.mp hi
          obtain ⟨e, he, q1, q2, q3⟩ := Paired.get' hC'.srt hx
          obtain ⟨mm, hm, hnm⟩ := id q2
          have e2 : lookC c e.1 = some e.2 := lookC_own nd (srtC_mem.mp (List.mem_of_getElem? he))
          have pre := foldV_pre (fldsL ((srtC c).take i) n) l
          have hln : ((fldsL ((srtC c).take i) n).foldl (fun l f => addV l f.2) l)[p]? = some n := by
            obtain ⟨t, ht⟩ := pre
            rw [← ht, List.getElem?_append_left hp]
            exact hn
          have hlz : ((fldsL ((srtC c).take i) n).foldl (fun l f => addV l f.2) l).length ≤ 80 := by
            have h1 : ((fldsL ((srtC c).take i) n).foldl (fun l f => addV l f.2) l).length ≤ (uni c roots).length := by
              refine nodup_sub_len (foldV_nodup _ _ R.nd) fun x hx => ?_
              rcases foldV_mem _ _ _ hx with q | ⟨f, hf, q⟩
              · exact R.sub x q
              · obtain ⟨e, he, _, e2, _⟩ := fldsL_mem hf
                exact List.mem_append_right _ (List.mem_filterMap.mpr ⟨e, srtC_mem.mp (List.mem_of_mem_take he), by rw [e2]; exact q⟩)
            omega
          obtain ⟨gn, hgn, hgnn⟩ := Paired.getR' hNg hln
          have stp := step_key (n := n) (l := l) he
          rcases hC'.look (k := e.1) with ⟨_, e2'⟩ | ⟨v', x', e1, e2', hx'⟩
          · rw [e2] at e2'
            cases e2'
          · rw [e2] at e2'
            cases e2'
            obtain ⟨b, s1, w1, rfl, hb, _, hw⟩ := hx'
            refine ⟨_, rfl, _, rfl, d, _, rfl, ⟨xs, x.1, x.2.1, .inl (kH' _ _ (by simp) hd), hC'.keys, rfl, by rw [q1]; exact q2.key, by rw [q1, e1]⟩, b, _, _, w1, rfl, rfl, hb, rfl, w1, _, rfl, hw, fun t ht => ?_⟩
            refine ⟨_, rfl, x.2.1, _, _, mm, rfl, rfl, hm, rfl, _, rfl, _, rfl, F0, gs, _, gn, rfl, rfl, .of hG, atI_nat hgn, nmD e.1.1, nmD n, hnm.dp, hgnn.dp, shaped_nm _, shaped_nm _, _, rfl, ?_⟩
            rw [eqv_nm]
            by_cases c1 : e.1.1 = n
            · rw [decide_eq_true c1]
              rw [if_pos c1] at stp
              unfold TgV at ht
              refine iteT ⟨_, rfl, _, rfl, ?_⟩
              cases et : tgt e.2.2 with
              | none =>
                rw [et] at ht
                subst ht
                refine iteF (iteF ?_)
                refine ⟨_, _, gs, rfl, kq, hG, ?_⟩
                rw [stp, addV_none et]
                exact hNg
              | some tn =>
                rw [et] at ht
                have hne : ¬ t = .non := by
                  obtain ⟨q, rfl, _⟩ := ht
                  intro z
                  cases z
                rw [decide_eq_false hne]
                refine iteT ⟨_, rfl, _, rfl, nmD tn, _, ht.dp, .lst (.of hG) hNg.dp, shaped_nm _, shaped_nms _, _, rfl, ?_⟩
                rw [any_nms]
                rw [addV_some et] at stp
                by_cases c2 : tn ∈ (fldsL ((srtC c).take i) n).foldl (fun l f => addV l f.2) l
                · rw [decide_eq_true c2]
                  refine iteF ?_
                  refine ⟨_, _, gs, rfl, kq, hG, ?_⟩
                  rw [stp]
                  show NmsR K _ gs (addN _ tn)
                  rw [addN_old c2]
                  exact hNg
                · rw [decide_eq_false c2]
                  refine iteT ?_
                  refine ⟨_, rfl, .inl ⟨rfl, _, .of hG⟩, _, rfl, F0, gs, t, rfl, rfl, hG, ?_, ?_⟩
                  · rw [Paired.len' hNg]
                    exact small1000 (by omega)
                  · refine ⟨_, _, _, rfl, kq.then_upd (by simp), upd_same, ?_⟩
                    rw [stp]
                    exact app hG hNg ht c2
            · rw [decide_eq_false c1]
              rw [if_neg c1] at stp
              refine iteF (iteF ?_)
              refine ⟨_, _, gs, rfl, kq, hG, ?_⟩
              rw [stp]
              exact hNg
        · rintro σ H' ⟨o5, o6, gs, rfl, kq, hG, hNg⟩
          have hle : ((srtN xs).map fun x => V.ref x.2.1).length = (srtC c).length := by rw [List.length_map]; exact hC.srt.len
          rw [hle, List.take_length] at hNg
          refine ⟨_, rfl, _, _, rfl, rfl, ?_⟩
          exact ⟨o3, o5, o6, gs, p + 1, stepR c l n, rfl, Ch.drop ((kH2.any (M := [F0])).trans kq) hF0, hG, hNg, R'⟩
      · have hpi : ¬ ((p : Nat) : Int) < ((fs.length : Nat) : Int) := by omega
        rw [decide_eq_false hpi]
        refine iteF ?_
        have hn : l[p]? = none := List.getElem?_eq_none (by omega)
        obtain ⟨e, _⟩ := R.done hn
        refine ⟨_, rfl, k _ F0 _ k1 hF1 ?_⟩
        rw [← e]
        exact hN1
end
end K40

namespace K40
open PySem PySem.Spec PyProof.Rows L2
open PySem.W (Frag)
section
variable {P : Program} {w : World} {K : Frag} {mg : Str → Option Value} {base : Heap} {CS CR : Addr}
/-- what names.index(v) asks -/
structure IxF (K : Frag) (H : Hp) (q : Addr) (L : List Nm) (v : V) (n : Nm) : Prop where
  f1 : Dp K H (.ref q) (.list (L.map nmD))
  f2 : Dp K H v (nmD n)
  f3 : (L.map nmD)[ix L n]? = some (nmD n)
  f4 : PyData.eqv (nmD n) (nmD n) = true
  f5 : ∀ (m : Nat) (z' : PyData), m < ix L n → (L.map nmD)[m]? = some z' → PyData.eqv z' (nmD n) = false
theorem index_read {H : Hp} {q : Addr} {vs : List V} {L : List Nm} {v : V} {n : Nm} (hq : H q = some (.lst vs)) (h : NmsR K H vs L) (hv : NmAt K H v n) (hn : n ∈ L) : IxF K H q L v n := by
  refine ⟨.lst (.of hq) h.dp, hv.dp, ?_, ?_, fun m z' hm hz => ?_⟩
  · rw [List.getElem?_map, ix_get hn]
    rfl
  · rw [eqv_nm]
    exact decide_eq_true rfl
  · rw [List.getElem?_map] at hz
    obtain ⟨z, hz', rfl⟩ := Option.map_eq_some_iff.mp hz
    rw [eqv_nm]
    exact decide_eq_false (ix_first hm hz')
theorem scLGraph : FnScope ["_law_cells_here", "_law_roots", "_law_names", "_law_things", "_law_name", "_law_fields", "_law_key", "_law_value"] ["_law_cells_here", "_law_roots"] (defScope lGraph) := ⟨rfl, rfl, rfl, by decide +kernel, rfl, by decide +kernel, by decide +kernel⟩
theorem ok_lgraph {f fT fR : Addr} {fd fdT fdR : FuncData} (F : Fun K "_law_graph" "_law_graph" lGraph f fd) (T : Txt K mg CS CR) (FT : FnOk P w K mg base CX0 1 fT fdT ["_law_value"] (spTgt K)) (bT : Binds K fdT ["_law_value"] []) (gT : mg "_law_target" = some (.ref fT)) (kT : PySem.W.keepIn K (.ref fT) = true)
    (FR : FnOk P w K mg base CX0 2 fR fdR ["_law_cells_here", "_law_roots"] (spLReach P w K)) (bR : Binds K fdR ["_law_cells_here", "_law_roots"] []) (gR : mg "_law_reach" = some (.ref fR)) (kR : PySem.W.keepIn K (.ref fR) = true) :
    FnOk P w K mg base CX0 3 f fd ["_law_cells_here", "_law_roots"] (spLGraph P w K) := by
  refine F.ok scLGraph (fun vs H Q E h => ?_) (fun cdv A outer s H vs Q E hr h => ?_)
  · obtain ⟨d, xs, c, ra, rs, roots, rfl, _⟩ := h
    rfl
  · obtain ⟨d, xs, c, ra, rs, roots, rfl, hd, hC, nd, hlc, hra, hrs, hlr, k⟩ := h
    have hr1 : Room 1 _ := hr.mono (by decide)
    refine ⟨_, pss_cons (ps_set (i := 2) scLGraph.nd rfl (Or.inr rfl) (pe_call FR hr rfl gR kR bR .nil pass0 (pa_cons (pv 0) (pa_cons (pv 1) pa_nil))))
      (pss_cons (ps_set (i := 3) scLGraph.nd rfl (Or.inl rfl) (pe_lst pa_nil))
      (pss_cons (ps_for PassesOwn.never rfl (pi_list (pv 2)) (pg_name (i := 4) scLGraph.nd rfl (Or.inl rfl))
        (pss_cons (ps_set (i := 5) scLGraph.nd rfl (Or.inl rfl) (pe_lst pa_nil))
        (pss_cons (ps_for PassesOwn.never rfl (pi_list (pe_callB (call_sortedN hr rfl) (by rfl) T.sorted (by decide +kernel) (pa_cons (pv 0) pa_nil))) (pg_name (i := 6) scLGraph.nd rfl (Or.inl rfl))
          (pss_cons (ps_set (i := 7) scLGraph.nd rfl (Or.inl rfl) (pe_ix ix_tup (pe_nget hr (pv 0) (pv 6)) pe_int (fun _ _ => rfl)))
          (pss_one (ps_if (PW.pt (pw_and (pt_cmpR (op_eqD hr.units) (pe_ix ix_tup (pv 6) pe_int (fun _ _ => rfl)) (pv 4) (nomark _)) (pw_and1 (pt_cmp (pc_notN (pv 7)) rfl))))
            (pss_cons (ps_if (pt_cmp (pc_notN (pe_call FT hr1 rfl gT kT bT .nil pass0 (pa_cons (pv 7) pa_nil))) rfl)
              (pss_one (ps_set (i := 7) scLGraph.nd rfl (Or.inl rfl) (pe_tup (pa_cons pe_str (pa_cons (pe_bm PySem.F.plainAttrs_list PySem.F.slot_list_index PySem.F.type_list_index (mt_indexD (room65 hr)) (pv 2) (pa_cons (pe_ix ix_tup (pv 7) pe_int (fun _ _ => rfl)) pa_nil)) pa_nil))))) pss_nil)
            (pss_one (ps_expr (pe_bm PySem.F.plainAttrs_list PySem.F.slot_list_append PySem.F.type_list_append mt_append (pv 5) (pa_cons (pe_tup (pa_cons (pe_ix ix_tup (pv 6) pe_int (fun _ _ => rfl)) (pa_cons (pv 7) pa_nil))) pa_nil))))) pss_nil))))
        (pss_one (ps_expr (pe_bm PySem.F.plainAttrs_list PySem.F.slot_list_append PySem.F.type_list_append mt_append (pv 3) (pa_cons (pv 5) pa_nil)))))))
      (pss_one (ps_ret (pe_tup (pa_cons (pe_lc (own := [("_law_name", 4)]) (g := gName 4) (tt := tYes) (te := tBM K "list" (rIndexD K) (tVar 2) (tCons (tVar 4) tNil)) rfl scLGraph.nd (pi_list (pv 1))
            (blkOk_by (own := [("_law_name", 4)]) (N := ["_law_cells_here", "_law_roots", "_law_names", "_law_things", "_law_name", "_law_fields", "_law_key", "_law_value"]) (sc := defScope lGraph) (by decide +kernel))
            (fun _ _ _ _ _ => pg_name (i := 4) scLGraph.nd rfl (Or.inl rfl)) (fun _ _ _ _ _ => pts_nil) (fun _ _ _ _ _ => by exact pe_bm PySem.F.plainAttrs_list PySem.F.slot_list_index PySem.F.type_list_index (mt_indexD (room65 hr)) (pv 2) (pa_cons (pv 4) pa_nil))) (pa_cons (pv 3) pa_nil))))))), ?_⟩
    refine ⟨_, rfl, _, rfl, d, xs, c, ra, rs, roots, rfl, hd, hC, nd, hlc, hra, hrs, hlr, fun H1 pn vn k1 hpn hvn => ?_⟩
    generalize hL : reach c roots = L at hvn
    have RO : ROk c roots L := hL ▸ reach_ok c roots
    have hLl : L.length ≤ 80 := by have := RO.len; omega
    have hvl : vn.length = L.length := Paired.len' hvn
    -- things = []
    refine ⟨by decide, fun t3 ht3 => ?_⟩
    have k3 : Ch [] H1 (upd H1 t3 (.lst [])) := Ch.new ht3
    have kH3 := k1.trans k3
    have ht3H : H t3 = none := k1.free ht3
    have hpt : pn ≠ t3 := fun z => by rw [z, ht3] at hpn; cases hpn
    have hpn3 : upd H1 t3 (.lst []) pn = some (.lst vn) := k3 _ _ (by simp) hpn
    -- for name in names
    refine ⟨_, rfl, pn, rfl, ⟨vn, .of hpn3⟩, for_list (K := K) (a := pn) (xs := vn) (fun i σ H' => ∃ (o4 o5 o6 o7 : Option V) (ts : List V), σ = [some (.ref d), some (.ref ra), some (.ref pn), some (.ref t3), o4, o5, o6, o7] ∧
      Ch [t3] (upd H1 t3 (.lst [])) H' ∧ H' t3 = some (.lst ts) ∧ Paired (ThAt K c L t3 H') ts (L.take i)) ?_ ?_ ?_ ?_⟩
    · exact ⟨none, none, none, none, [], rfl, Ch.refl _ _, upd_same, .nil⟩
    · rintro i σ H' _ ⟨_, _, _, _, _, _, kt, _⟩
      exact .of (kt _ _ (by simpa using hpt) hpn3)
    · rintro i y σ H' hi ⟨o4, o5, o6, o7, ts, rfl, kt, hts, hT⟩
      have k1' : Ch [] H1 H' := Ch.drop ((k3.any (M := [t3])).trans kt) ht3
      have kH' : Ch [] H H' := k1.trans k1'
      obtain ⟨n, hn, hyn⟩ := Paired.get' (hvn.tk k1'.tk0) hi
      have hnL : n ∈ L := List.mem_of_getElem? hn
      -- fields = []
      refine ⟨by decide, fun F hF => ?_⟩
      have k4 : Ch [] H' (upd H' F (.lst [])) := Ch.new hF
      have hFt : F ≠ t3 := fun z => by rw [z, hts] at hF; cases hF
      have hFH : H F = none := kH'.free hF
      have kH4 := kH'.trans k4
      have hC4 := hC.tk (kH4.tk0 (K := K))
      refine ⟨_, rfl, d, xs, rfl, .inl (kH4 _ _ (by simp) hd), hC4.keys, hC4.allAlike, hC4.sortable, fun q hq => ?_⟩
      have k5 : Ch [] (upd H' F (.lst [])) (upd (upd H' F (.lst [])) q (.lst ((srtN xs).map fun x => V.ref x.2.1))) := Ch.new hq
      have hqF : q ≠ F := fun z => by rw [z, upd_same] at hq; cases hq
      have hsl : SqL K (upd (upd H' F (.lst [])) q (.lst ((srtN xs).map fun x => V.ref x.2.1))) q ((srtN xs).map fun x => V.ref x.2.1) := .of upd_same
      have k45 := k4.trans k5
      refine ⟨q, rfl, ⟨_, hsl⟩, for_list (K := K) (a := q) (xs := (srtN xs).map fun x => V.ref x.2.1) (fun i σ G => ∃ (o6 o7 : Option V) (acc : List V), σ = [some (.ref d), some (.ref ra), some (.ref pn), some (.ref t3), some y, some (.ref F), o6, o7] ∧
        Ch [F] (upd (upd H' F (.lst [])) q (.lst ((srtN xs).map fun x => V.ref x.2.1))) G ∧ G F = some (.lst acc) ∧ Paired (FtAt K G L) acc (fldsL ((srtC c).take i) n)) ?_ ?_ ?_ ?_⟩
      · exact ⟨o6, o7, [], rfl, Ch.refl _ _, k5 _ _ (by simp) upd_same, .nil⟩
      · rintro i σ G _ ⟨_, _, _, _, kq, _⟩
        exact kq.sqL (by simpa using hqF) hsl
      · rintro j z σ G hj ⟨o6, o7, acc, rfl, kq, hacc, hA⟩
        have kG' : Ch [] H' G := Ch.drop ((k45.any (M := [F])).trans kq) hF
        have kG : Ch [] H G := kH'.trans kG'
        have hCG := hC.tk (kG.tk0 (K := K))
        rw [List.getElem?_map] at hj
        obtain ⟨x, hx, rfl⟩ := Option.map_eq_some_iff.mp hj
        obtain ⟨e, he, q1, q2, q3⟩ := Paired.get' hCG.srt hx
        obtain ⟨mm, hm, hnm⟩ := id q2
        have hec := srtC_mem.mp (List.mem_of_getElem? he)
        have e2 : lookC c e.1 = some e.2 := lookC_own nd hec
        have stp : fldsL ((srtC c).take (j + 1)) n = fldsL ((srtC c).take j) n ++ (fldOf n e).toList := by rw [take_more he, fldsL_snoc]
        have hal : acc.length ≤ 40 := by
          have h1 := Paired.len' hA
          have h2 := fldsL_len ((srtC c).take j) n
          rw [List.length_take] at h2
          have h3 := srtC_len c
          omega
        rcases hCG.look (k := e.1) with ⟨_, e2'⟩ | ⟨v', x', e1, e2', hx'⟩
        · rw [e2] at e2'
          cases e2'
        · rw [e2] at e2'
          cases e2'
          obtain ⟨b, s1, w1, rfl, hb, _, hw⟩ := hx'
          refine ⟨_, rfl, _, rfl, d, _, rfl, ⟨xs, x.1, x.2.1, .inl (kG _ _ (by simp) hd), hCG.keys, rfl, by rw [q1]; exact q2.key, by rw [q1, e1]⟩, b, _, _, w1, rfl, rfl, hb, rfl, ?_⟩
          refine ⟨_, rfl, x.2.1, _, _, mm, rfl, rfl, hm, rfl, _, rfl, nmD e.1.1, nmD n, hnm.dp, (hyn.tk kG'.tk0).dp, shaped_nm _, shaped_nm _, _, rfl, ?_⟩
          rw [eqv_nm]
          have same : fldOf n e = none → ∃ (o6 o7 : Option V) (acc : List V), ([some (.ref d), some (.ref ra), some (.ref pn), some (.ref t3), some y, some (.ref F), some (.ref x.2.1), some w1] : L2.St) = [some (.ref d), some (.ref ra), some (.ref pn), some (.ref t3), some y, some (.ref F), o6, o7] ∧
              Ch [F] (upd (upd H' F (.lst [])) q (.lst ((srtN xs).map fun x => V.ref x.2.1))) G ∧ G F = some (.lst acc) ∧ Paired (FtAt K G L) acc (fldsL ((srtC c).take (j + 1)) n) := fun hz => by
            refine ⟨_, _, acc, rfl, kq, hacc, ?_⟩
            rw [stp, hz]
            simpa using hA
          by_cases c1 : e.1.1 = n
          · rw [decide_eq_true c1]
            refine iteT ⟨_, rfl, _, rfl, ?_⟩
            by_cases c2 : e.2.2 = .non
            · rw [decide_eq_true ((vl_ne hw).mpr c2)]
              refine iteF (same ?_)
              unfold fldOf
              rw [if_neg (fun z => z.2 c2)]
            · rw [decide_eq_false (fun z => c2 ((vl_ne hw).mp z))]
              refine iteT ?_
              have hf : fldOf n e = some (e.1.2, e.2.2) := by
                unfold fldOf
                rw [if_pos ⟨c1, c2⟩]
              have hin : (e.1.2, e.2.2) ∈ flds c n := List.mem_filterMap.mpr ⟨e, List.mem_of_getElem? he, hf⟩
              -- the tuple is appended
              have app : ∀ (G2 : Hp) (r : V), Ch [] G G2 → NvAt K G2 L r e.2.2 →
                  tDrop (tBM K "list" rAppend (tVar 5) (tCons (tTup (tCons (tOp (rIxT K) (tVar 6) (tC (.int 1))) (tCons (tVar 7) tNil))) tNil))
                    { nx := fun σ G => ∃ (o6 o7 : Option V) (acc : List V), σ = [some (.ref d), some (.ref ra), some (.ref pn), some (.ref t3), some y, some (.ref F), o6, o7] ∧ Ch [F] (upd (upd H' F (.lst [])) q (.lst ((srtN xs).map fun x => V.ref x.2.1))) G ∧ G F = some (.lst acc) ∧ Paired (FtAt K G L) acc (fldsL ((srtC c).take (j + 1)) n), rt := Q }
                    [some (.ref d), some (.ref ra), some (.ref pn), some (.ref t3), some y, some (.ref F), some (.ref x.2.1), some r] G2 := fun G2 r kg hr' => by
                have hacc2 := kg _ _ (by simp) hacc
                refine ⟨_, rfl, .inl ⟨rfl, _, .of hacc2⟩, _, rfl, x.2.1, _, _, .str e.1.2, rfl, rfl, kg.tk0 _ _ hm, rfl, _, rfl, (by show 2 ≤ sizeLine; decide), fun p hp => ?_⟩
                have k6 : Ch [] G2 (upd G2 p (.tup [.str e.1.2, r])) := Ch.new hp
                have hacc3 := k6 _ _ (by simp) hacc2
                refine ⟨F, acc, .ref p, rfl, rfl, hacc3, small1000 (by omega), ?_⟩
                have t := TK.upd (K := K) (o := .lst (acc ++ [.ref p])) (NoTup.lst hacc3)
                refine ⟨_, _, _, rfl, ((kq.trans kg.any).trans k6.any).then_upd (by simp), upd_same, ?_⟩
                rw [stp, hf]
                exact Paired.snoc' (Paired.imp' (fun _ _ z => ((z.tk kg.tk0).tk k6.tk0).tk t) hA) ⟨p, r, rfl, t _ _ (.of upd_same), (hr'.tk k6.tk0).tk t⟩
              refine ⟨_, rfl, w1, e.2.2, rfl, hw, fun t ht => ⟨_, rfl, ?_⟩⟩
              unfold TgV at ht
              cases ev : e.2.2 with
              | non => exact absurd ev c2
              | int i =>
                rw [ev] at ht hw app
                obtain rfl : t = .non := ht
                exact iteF (app G w1 (Ch.refl _ _) hw)
              | txt s =>
                rw [ev] at ht hw app
                obtain rfl : t = .non := ht
                exact iteF (app G w1 (Ch.refl _ _) hw)
              | ref tn =>
                rw [ev] at ht hw app hin
                have ht : NmAt K G t tn := ht
                have hne : ¬ t = .non := by
                  obtain ⟨q, rfl, _⟩ := ht
                  intro z
                  cases z
                rw [decide_eq_false hne]
                refine iteT ?_
                obtain ⟨b2, y2, rfl, hb2, hy2⟩ := hw
                have hpnG : G pn = some (.lst vn) := kG' _ _ (by simp) (k1' _ _ (by simp) hpn)
                refine ⟨_, rfl, .inl ⟨rfl, _, .of hpnG⟩, _, rfl, b2, _, _, y2, rfl, rfl, hb2, rfl, ?_⟩
                have X := index_read hpnG (hvn.tk (k1'.trans kG').tk0) hy2 (RO.cl n hnL _ hin tn rfl)
                refine ⟨pn, y2, nmD tn, _, ix L tn, nmD tn, rfl, rfl, X.f1, X.f2, shaped_nms _, shaped_nm _, X.f3, X.f4, X.f5, ?_⟩
                refine ⟨(by show 2 ≤ sizeLine; decide), fun p hp => ?_⟩
                have k6 : Ch [] G (upd G p (.tup [.str "ref", .int (ix L tn : Nat)])) := Ch.new hp
                exact app _ (.ref p) k6 ⟨p, rfl, .of upd_same⟩
          · rw [decide_eq_false c1]
            refine iteF (iteF (same ?_))
            unfold fldOf
            rw [if_neg (fun z => c1 z.1)]
      · rintro σ G ⟨o6, o7, acc, rfl, kq, hacc, hA⟩
        have hle : ((srtN xs).map fun x => V.ref x.2.1).length = (srtC c).length := by rw [List.length_map]; exact hC.srt.len
        rw [hle, List.take_length] at hA
        have kG' : Ch [] H' G := Ch.drop ((k45.any (M := [F])).trans kq) hF
        have htsG := kG' _ _ (by simp) hts
        refine ⟨_, rfl, .inl ⟨rfl, _, .of htsG⟩, _, rfl, t3, ts, .ref F, rfl, rfl, htsG, ?_, ?_⟩
        · have h1 := Paired.len' hT
          rw [List.length_take] at h1
          exact small1000 (by omega)
        · have t6 := TK.upd (K := K) (o := .lst (ts ++ [.ref F])) (NoTup.lst htsG)
          refine ⟨_, _, _, _, _, rfl, (kt.trans kG'.any).then_upd (by simp), upd_same, ?_⟩
          rw [take_more hn]
          refine Paired.snoc' (Paired.imp' (fun _ _ z => (z.ch kG'.any kG'.tk0).ch (Ch.upd (by simp)) t6) hT) ⟨F, acc, rfl, hFt, ?_, Paired.imp' (fun _ _ z => z.tk t6) hA⟩
          rw [upd_ne hFt]
          exact hacc
    · rintro σ H' ⟨o4, o5, o6, o7, ts, rfl, kt, hts, hT⟩
      rw [hvl, List.take_length] at hT
      have k1' : Ch [] H1 H' := Ch.drop ((k3.any (M := [t3])).trans kt) ht3
      have kH' : Ch [] H H' := k1.trans k1'
      refine ⟨_, rfl, ra, rfl, ⟨rs, kH'.sqL (by simp) hra⟩, fun D5 hD5 => ?_⟩
      refine lc_list (K := K) (a := ra) (xs := rs) (fun i G => ∃ acc, Ch [] H' G ∧ G D5 = some (.lst acc) ∧ acc = (roots.take i).map fun n => V.int (ix L n : Nat)) ?_ ?_ ?_ ?_
      · exact ⟨[], Ch.new hD5, upd_same, rfl⟩
      · rintro i G _ ⟨acc, kg, _⟩
        exact (kH'.trans kg).sqL (by simp) hra
      · rintro i y G hi ⟨acc, kg, hacc, rfl⟩
        obtain ⟨n, hn, hyn⟩ := Paired.get' (hrs.tk (kH'.trans kg).tk0) hi
        have hpnG : G pn = some (.lst vn) := kg _ _ (by simp) (k1' _ _ (by simp) hpn)
        refine ⟨rfl, ?_⟩
        refine ⟨_, rfl, .inl ⟨rfl, _, .of hpnG⟩, _, rfl, ?_⟩
        have X := index_read hpnG (hvn.tk (k1'.trans kg).tk0) hyn (RO.rts n (List.mem_of_getElem? hn))
        refine ⟨pn, y, nmD n, _, ix L n, nmD n, rfl, rfl, X.f1, X.f2, shaped_nms _, shaped_nm _, X.f3, X.f4, X.f5, ?_⟩
        refine ⟨_, hacc, ?_, ?_⟩
        · rw [List.length_map, List.length_take]
          exact small1000 (by omega)
        · refine ⟨_, kg.new_upd hD5, upd_same, ?_⟩
          rw [take_more hn, List.map_append]
          rfl
      · rintro G ⟨acc, kg, hacc, rfl⟩
        have hrl : rs.length = roots.length := Paired.len' hrs
        rw [hrl, List.take_length] at hacc
        have htsG : G t3 = some (.lst ts) := kg _ _ (by simp) hts
        refine ⟨_, rfl, (by show 2 ≤ sizeLine; decide), fun q hq => ?_⟩
        have kq : Ch [] G _ := Ch.new (M := []) (o := .tup [.ref D5, .ref t3]) hq
        refine k _ _ ((kH'.trans kg).trans kq) ?_
        unfold graphD
        rw [hL]
        refine .tup (.of upd_same) (.cons (.lst (.of (kq _ _ (by simp) hacc)) ?_) (.cons (.lst (.of (kq _ _ (by simp) htsG)) ?_) .nil))
        · have : ∀ l : List Nm, DpAll K (upd G q (.tup [.ref D5, .ref t3])) (l.map fun n => V.int (ix L n : Nat)) (l.map fun n => PyData.int (ix L n : Nat)) := fun l => by
            induction l with
            | nil => exact .nil
            | cons a r ih => exact .cons (.int _) ih
          exact this roots
        · have kg' := kg.trans kq
          exact dpAll_of (fun _ _ z => (z.ch kg'.any kg'.tk0).dp) hT
end
end K40

namespace K40
open PySem PySem.Spec PyProof.Rows L2
open PySem.W (Frag)
/-! ### small data can be shown -/
/-- may be shown in b signs or so -/
structure Lf (d : PyData) (b e : Nat) : Prop where
  sh : d.showable = true
  nd : d.hasDict = false
  lv : d.leavesShort 13 = true
  bk : d.bulk ≤ b
  dp : d.depth ≤ e
  cl : d.canLay0 = true
structure LfA (ds : List PyData) (b e : Nat) : Prop where
  sh : PyData.showableAll ds = true
  nd : PyData.hasDictAll ds = false
  lv : PyData.leavesShortAll 13 ds = true
  bk : PyData.bulkAll ds ≤ b
  dp : PyData.depthAll ds ≤ e
  cl : PyData.canLayAll0 ds = true
theorem LfA.nil (e : Nat) : LfA [] 0 e := ⟨rfl, rfl, rfl, Nat.le_refl _, Nat.zero_le _, rfl⟩
theorem LfA.cons {d : PyData} {ds : List PyData} {b b' e : Nat} (h : Lf d b e) (t : LfA ds b' e) : LfA (d :: ds) (b + 1 + b') e := by
  refine ⟨?_, ?_, ?_, ?_, ?_, ?_⟩
  · rw [PyData.showableAll, h.sh, t.sh]
    rfl
  · rw [PyData.hasDictAll, h.nd, t.nd]
    rfl
  · rw [PyData.leavesShortAll, h.lv, t.lv]
    rfl
  · rw [PyData.bulkAll]
    have := h.bk
    have := t.bk
    omega
  · rw [PyData.depthAll]
    have := h.dp
    have := t.dp
    omega
  · rw [PyData.canLayAll0, h.cl, t.cl]
    rfl
theorem LfA.tup {ds : List PyData} {b e : Nat} (h : LfA ds b e) : Lf (.tuple ds) b (e + 1) := by
  refine ⟨?_, ?_, ?_, ?_, ?_, ?_⟩
  · rw [PyData.showable]; exact h.sh
  · rw [PyData.hasDict]; exact h.nd
  · rw [PyData.leavesShort]; exact h.lv
  · rw [PyData.bulk]; exact h.bk
  · rw [PyData.depth]; have := h.dp; omega
  · rw [PyData.canLay0]; exact h.cl
theorem LfA.lst {ds : List PyData} {b e : Nat} (h : LfA ds b e) : Lf (.list ds) b (e + 1) := by
  refine ⟨?_, ?_, ?_, ?_, ?_, ?_⟩
  · rw [PyData.showable]; exact h.sh
  · rw [PyData.hasDict]; exact h.nd
  · rw [PyData.leavesShort]; exact h.lv
  · rw [PyData.bulk]; exact h.bk
  · rw [PyData.depth]; have := h.dp; omega
  · rw [PyData.canLay0]; exact h.cl
theorem Lf.mono {d : PyData} {b b' e e' : Nat} (h : Lf d b e) (h1 : b ≤ b') (h2 : e ≤ e') : Lf d b' e' := ⟨h.sh, h.nd, h.lv, by have := h.bk; omega, by have := h.dp; omega, h.cl⟩
theorem Lf.shw {d : PyData} {b e : Nat} (h : Lf d b e) (h1 : b ≤ 1000000) (h2 : e ≤ 20) : Shw d := by
  refine ⟨h.sh, h.nd, PyData.shown_fits_bulk (B := 13) (by decide) (by decide) h.lv ?_, by have := h.dp; omega⟩
  have e1 : (2 : Nat) ^ 20 = 1048576 := by decide
  have := h.bk
  omega
theorem Lf.shaped {d : PyData} {b e : Nat} (h : Lf d b e) (h2 : e ≤ 20) : SeqAt.shaped d = true := by
  unfold SeqAt.shaped
  rw [h.cl]
  have := h.dp
  simp only [Bool.true_and, decide_eq_true_eq]
  omega
theorem Lf.int {i : Int} (h0 : -1000 ≤ i) (h1 : i ≤ 1000) : Lf (.int i) 0 0 := by
  refine ⟨?_, rfl, ?_, Nat.le_refl _, Nat.le_refl _, rfl⟩
  · rw [PyData.showable, decide_eq_true_eq]
    by_cases z : i.natAbs = 0
    · rw [z]
      decide
    · rw [Nat.log2_lt z]
      have : (1001 : Nat) ≤ 2 ^ 1920 := Nat.le_trans (show 1001 ≤ 2 ^ 10 by decide) (Nat.pow_le_pow_right (by decide) (by decide))
      omega
  · rw [PyData.leavesShort, decide_eq_true_eq]
    exact PyData.shown_int_le (by
      have : (1001 : Nat) ≤ 10 ^ 12 := by decide
      omega)
theorem Lf.bool (b : Bool) : Lf (.bool b) 0 0 := ⟨rfl, rfl, rfl, Nat.le_refl _, Nat.le_refl _, rfl⟩
theorem Lf.non : Lf .none 0 0 := ⟨rfl, rfl, rfl, Nat.le_refl _, Nat.le_refl _, rfl⟩
/-- a written text of few plain signs -/
def Pl (s : Str) : Prop := s.cps.size ≤ 10 ∧ (s.cps.toList.all fun c => decide (c < 128)) = true
theorem Lf.str {s : Str} (h : Pl s) : Lf (.str s) 10 0 := by
  refine ⟨rfl, rfl, ?_, h.1, Nat.le_refl _, ?_⟩
  · rw [PyData.leavesShort, List.all_eq_true]
    intro c hc
    have := List.all_eq_true.mp h.2 c hc
    rw [decide_eq_true_eq] at this ⊢
    have e : (16 : Nat) ^ 8 = 4294967296 := by decide
    omega
  · rw [PyData.canLay0]
    unfold PySem.PyData.strOk
    rw [← Array.all_toList, List.all_eq_true]
    intro c hc
    have := List.all_eq_true.mp h.2 c hc
    rw [decide_eq_true_eq] at this ⊢
    omega
theorem Lf.nm {n : Nm} (h : Sm n) : Lf (nmD n) 2 1 := (LfA.cons (Lf.int (by have := h.1; omega) (by have := h.2.1; omega)) (LfA.cons (Lf.int (by have := h.2.2.1; omega) (by have := h.2.2.2; omega)) (LfA.nil 0))).tup
/-- a small value -/
def SmV : Vl → Prop
  | .non => True
  | .int i => -1000 ≤ i ∧ i ≤ 1000
  | .txt s => Pl s
  | .ref n => Sm n
theorem pl_ref : Pl "ref" := ⟨by decide +kernel, by decide +kernel⟩
theorem pl_told : Pl "told" := ⟨by decide +kernel, by decide +kernel⟩
theorem pl_unknown : Pl "unknown" := ⟨by decide +kernel, by decide +kernel⟩
theorem Lf.vl : ∀ {x : Vl}, SmV x → Lf (vlD x) 20 2
  | .non, _ => Lf.non.mono (by decide) (by decide)
  | .int _, h => (Lf.int h.1 h.2).mono (by decide) (by decide)
  | .txt _, h => (Lf.str h).mono (by decide) (by decide)
  | .ref n, h => ((LfA.cons ((Lf.str pl_ref).mono (Nat.le_refl _) (by decide)) (LfA.cons (Lf.nm h) (LfA.nil 1))).tup).mono (by decide) (by decide)
structure SmG (g : Chg) : Prop where
  st : Sm g.st
  nm : Sm g.nm
  fd : Pl g.fd
  vl : SmV g.vl
theorem Lf.ch {g : Chg} (h : SmG g) : Lf (chD g) 100 3 :=
  ((LfA.cons ((Lf.nm h.st).mono (Nat.le_refl _) (by decide)) (LfA.cons ((Lf.nm h.nm).mono (Nat.le_refl _) (by decide)) (LfA.cons ((Lf.str h.fd).mono (Nat.le_refl _) (by decide)) (LfA.cons (Lf.vl h.vl) (LfA.nil 2))))).tup).mono (by decide) (by decide)
theorem Lf.chs : ∀ {gs : List Chg}, (∀ g ∈ gs, SmG g) → LfA (gs.map chD) (101 * gs.length) 3
  | [], _ => LfA.nil 3
  | g :: r, h => by
    have h1 := LfA.cons (Lf.ch (h g List.mem_cons_self)) (Lf.chs fun x hx => h x (List.mem_cons_of_mem _ hx))
    have : 100 + 1 + 101 * r.length = 101 * (g :: r).length := by
      rw [List.length_cons]
      omega
    rw [this] at h1
    exact h1
theorem Lf.cell {x : Cl} (h1 : Sm x.1) (h2 : SmV x.2) : Lf (clD x) 30 3 := ((LfA.cons ((Lf.nm h1).mono (Nat.le_refl _) (by decide)) (LfA.cons (Lf.vl h2) (LfA.nil 2))).tup).mono (by decide) (by decide)
theorem Lf.toldB (b : Bool) : Lf (.tuple [.str "told", .bool b]) 20 2 := ((LfA.cons (Lf.str pl_told) (LfA.cons (Lf.bool b) (LfA.nil 0))).tup).mono (by decide) (by decide)
theorem Lf.unk {n : Nm} (h : Sm n) : Lf (.tuple [.str "unknown", nmD n]) 20 2 := ((LfA.cons ((Lf.str pl_unknown).mono (Nat.le_refl _) (by decide)) (LfA.cons (Lf.nm h) (LfA.nil 1))).tup).mono (by decide) (by decide)
theorem Lf.toldC {g : Chg} (h : SmG g) : Lf (.tuple [.str "told", chD g]) 120 4 := ((LfA.cons ((Lf.str pl_told).mono (Nat.le_refl _) (by decide)) (LfA.cons (Lf.ch h) (LfA.nil 3))).tup).mono (by decide) (by decide)
/-- the graph is shaped -/
theorem numV_lay {L : List Nm} {x : Vl} (h : SmV x) : PyData.canLay0 (numV L x) = true ∧ (numV L x).depth ≤ 2 := by
  cases x with
  | ref n =>
    have e : PyData.canLay0 (.str "ref") = true := (Lf.str pl_ref).cl
    refine ⟨?_, by show 1 ≤ 2; decide⟩
    show PyData.canLay0 (.tuple [.str "ref", .int (ix L n : Nat)]) = true
    rw [PyData.canLay0, PyData.canLayAll0, e]
    rfl
  | non => exact ⟨rfl, Nat.zero_le _⟩
  | int i => exact ⟨rfl, Nat.zero_le _⟩
  | txt s => exact ⟨(Lf.vl (x := .txt s) h).cl, Nat.zero_le _⟩
theorem lay_map {α : Type} {f : α → PyData} {e : Nat} : ∀ {l : List α}, (∀ a ∈ l, (f a).canLay0 = true ∧ (f a).depth ≤ e) → PyData.canLayAll0 (l.map f) = true ∧ PyData.depthAll (l.map f) ≤ e
  | [], _ => ⟨rfl, Nat.zero_le _⟩
  | a :: r, h => by
    obtain ⟨h1, h2⟩ := h a List.mem_cons_self
    obtain ⟨i1, i2⟩ := lay_map (l := r) fun x hx => h x (List.mem_cons_of_mem _ hx)
    rw [List.map_cons, PyData.canLayAll0, PyData.depthAll, h1, i1]
    exact ⟨rfl, by omega⟩
theorem graph_shaped {c : Cs} {roots : List Nm} (h : ∀ e ∈ c, Pl e.1.2 ∧ SmV e.2.2) : SeqAt.shaped (graphD c roots) = true := by
  have h1 := lay_map (f := fun n : Nm => PyData.int (ix (reach c roots) n : Nat)) (e := 0) (l := roots) fun a _ => ⟨rfl, Nat.le_refl _⟩
  have h2 := lay_map (f := thing c (reach c roots)) (e := 4) (l := reach c roots) fun n _ => by
    have h3 := lay_map (f := fun f : Str × Vl => PyData.tuple [.str f.1, numV (reach c roots) f.2]) (e := 3) (l := flds c n) fun f hf => by
      obtain ⟨e, he, e1, e2, _⟩ := flds_mem hf
      obtain ⟨q1, q2⟩ := h e he
      have e3 : e.1.2 = f.1 := by rw [e1]
      rw [e3] at q1
      rw [e2] at q2
      obtain ⟨l1, l2⟩ := numV_lay (L := reach c roots) q2
      have l3 : PyData.canLay0 (.str f.1) = true := (Lf.str q1).cl
      constructor
      · show PyData.canLay0 (.tuple [.str f.1, numV (reach c roots) f.2]) = true
        rw [PyData.canLay0, PyData.canLayAll0, PyData.canLayAll0, l3, l1]
        rfl
      · show (PyData.tuple [.str f.1, numV (reach c roots) f.2]).depth ≤ 3
        rw [PyData.depth, PyData.depthAll, PyData.depthAll, PyData.depthAll, PyData.depth]
        omega
    constructor
    · unfold thing
      rw [PyData.canLay0]
      exact h3.1
    · unfold thing
      rw [PyData.depth]
      have := h3.2
      omega
  unfold SeqAt.shaped graphD
  rw [PyData.canLay0, PyData.canLayAll0, PyData.canLayAll0, PyData.canLayAll0, PyData.canLay0, PyData.canLay0, h1.1, h2.1, PyData.depth, PyData.depthAll, PyData.depthAll, PyData.depthAll, PyData.depth, PyData.depth]
  have := h1.2
  have := h2.2
  simp only [Bool.and_self, Bool.true_and, decide_eq_true_eq]
  omega

/-! ### the law's own state -/
structure LS where
  peer : Int
  beg : Int
  known : List Nm
  roots : List Nm
  made : List Chg
def LS.rs (s : LS) : RS := ⟨s.peer, (s.made.length : Nat), s.beg, cellsOf s.made, s.roots, s.made⟩
structure LOk (s : LS) (i : Nat) : Prop where
  p0 : 0 ≤ s.peer
  p8 : s.peer < 8
  b0 : 0 ≤ s.beg
  bi : s.beg ≤ 1 + (i : Nat)
  kn : ∀ n, n ∈ s.known ↔ n = (0, 0) ∨ (n.1 = s.peer ∧ 0 ≤ n.2 ∧ n.2 < s.beg)
  kl : s.known.length ≤ 1 + i
  rl : s.roots.length ≤ 1 + i
  rn : s.roots.Nodup
  ml : s.made.length ≤ i
  mg : ∀ g ∈ s.made, g.nm ∈ s.known ∧ ∀ t, tgt g.vl = some t → t ∈ s.known
  ms : ∀ g ∈ s.made, SmG g
theorem LOk.small {s : LS} {i : Nat} (O : LOk s i) (hi : i ≤ 11) {n : Nm} (h : n ∈ s.known) : Sm n := by
  have h1 := O.p0
  have h2 := O.p8
  have h3 := O.bi
  rcases (O.kn n).mp h with q | ⟨q1, q2, q3⟩
  · rw [q]
    exact ⟨by decide, by decide, by decide, by decide⟩
  · exact ⟨by omega, by omega, q2, by omega⟩
theorem LOk.ment {s : LS} {i : Nat} (O : LOk s i) {n : Nm} (h : n ∈ mention (cellsOf s.made)) : n ∈ s.known := by
  unfold mention at h
  rcases List.mem_append.mp h with q | q
  · obtain ⟨e, he, rfl⟩ := List.mem_map.mp q
    obtain ⟨g, hg, rfl⟩ := cells_mem he
    exact (O.mg g hg).1
  · obtain ⟨e, he, ht⟩ := List.mem_filterMap.mp q
    obtain ⟨g, hg, rfl⟩ := cells_mem he
    exact (O.mg g hg).2 n ht
theorem LOk.sok {s : LS} {i : Nat} (O : LOk s i) (hi : i ≤ 11) : SOk s.rs where
  nd := cells_nodup _
  sm := fun n hn => O.small hi (O.ment hn)
  lc := by have := cells_len s.made; have := O.ml; show (cellsOf s.made).length ≤ 30; omega
  lr := by have := O.rl; show s.roots.length ≤ 30; omega
  lp := by have := O.ml; show s.made.length ≤ 30; omega
theorem LOk.knows {s : LS} {i : Nat} (O : LOk s i) {n : Nm} (h : 0 ≤ n.2) : K40.kn s.rs n = decide (n ∈ s.known) := by
  unfold K40.kn
  rw [Bool.eq_iff_iff]
  simp only [Bool.or_eq_true, Bool.and_eq_true, decide_eq_true_eq]
  constructor
  · rintro ((q | ⟨q1, q2⟩) | q)
    · exact (O.kn n).mpr (.inl q)
    · exact (O.kn n).mpr (.inr ⟨q1, h, q2⟩)
    · exact O.ment q
  · intro q
    rcases (O.kn n).mp q with z | ⟨z1, _, z3⟩
    · exact .inl (.inl z)
    · exact .inl (.inr ⟨z1, z3⟩)
/-- the names that are drawn from -/
def LS.ns (s : LS) : List Nm := s.known ++ [(s.peer, s.beg + 1), ((s.peer + 1) % 8, 3)]
theorem LOk.nsm {s : LS} {i : Nat} (O : LOk s i) (hi : i ≤ 11) {n : Nm} (h : n ∈ s.ns) : Sm n := by
  have h1 := O.p0
  have h2 := O.p8
  have h3 := O.bi
  have h4 := O.b0
  unfold LS.ns at h
  rcases List.mem_append.mp h with q | q
  · exact O.small hi q
  · simp only [List.mem_cons, List.not_mem_nil, or_false] at q
    rcases q with rfl | rfl
    · exact ⟨h1, by show s.peer < 64; omega, by show 0 ≤ s.beg + 1; omega, by show s.beg + 1 < 64; omega⟩
    · exact ⟨by show 0 ≤ (s.peer + 1) % 8; omega, by show (s.peer + 1) % 8 < 64; omega, by show (0 : Int) ≤ 3; decide, by show (3 : Int) < 64; decide⟩
theorem LOk.start {p : Int} (h0 : 0 ≤ p) (h8 : p < 8) : LOk ⟨p, if p = 0 then 1 else 0, [(0, 0)], [(0, 0)], []⟩ 0 := by
  refine ⟨h0, h8, ?_, ?_, fun n => ?_, Nat.le_refl _, Nat.le_refl _, by simp, Nat.le_refl _, (fun _ h => nomatch h), (fun _ h => nomatch h)⟩
  · show (0 : Int) ≤ if p = 0 then 1 else 0
    split <;> decide
  · show (if p = 0 then (1 : Int) else 0) ≤ 1 + ((0 : Nat) : Int)
    split <;> decide
  · show n ∈ [(0, 0)] ↔ n = (0, 0) ∨ (n.1 = p ∧ 0 ≤ n.2 ∧ n.2 < if p = 0 then 1 else 0)
    rw [List.mem_singleton]
    constructor
    · exact .inl
    · rintro (q | ⟨q1, q2, q3⟩)
      · exact q
      · by_cases z : p = 0
        · rw [if_pos z] at q3
          exact Prod.ext (by show n.1 = 0; omega) (by show n.2 = 0; omega)
        · rw [if_neg z] at q3
          omega
/-- begin -/
def LS.begin (s : LS) : LS := { s with beg := s.beg + 1, known := s.known ++ [(s.peer, s.beg)] }
theorem LOk.begin {s : LS} {i : Nat} (O : LOk s i) : LOk s.begin (i + 1) := by
  have h3 := O.bi
  have h4 := O.b0
  refine ⟨O.p0, O.p8, by show 0 ≤ s.beg + 1; omega, by show s.beg + 1 ≤ 1 + ((i + 1 : Nat) : Int); omega, fun n => ?_, ?_, by show s.roots.length ≤ _; have := O.rl; omega, O.rn, by show s.made.length ≤ _; have := O.ml; omega, fun g hg => ?_, O.ms⟩
  · show n ∈ s.known ++ [(s.peer, s.beg)] ↔ n = (0, 0) ∨ (n.1 = s.peer ∧ 0 ≤ n.2 ∧ n.2 < s.beg + 1)
    rw [List.mem_append, List.mem_singleton, O.kn]
    constructor
    · rintro ((q | ⟨q1, q2, q3⟩) | q)
      · exact .inl q
      · exact .inr ⟨q1, q2, by omega⟩
      · exact .inr ⟨by rw [q], by rw [q]; exact h4, by rw [q]; show s.beg < s.beg + 1; omega⟩
    · rintro (q | ⟨q1, q2, q3⟩)
      · exact .inl (.inl q)
      · by_cases z : n.2 = s.beg
        · exact .inr (Prod.ext q1 z)
        · exact .inl (.inr ⟨q1, q2, by omega⟩)
  · show (s.known ++ [_]).length ≤ _
    rw [List.length_append]
    have := O.kl
    show s.known.length + 1 ≤ _
    omega
  · obtain ⟨q1, q2⟩ := O.mg g hg
    exact ⟨List.mem_append_left _ q1, fun t ht => List.mem_append_left _ (q2 t ht)⟩
theorem LOk.next {s : LS} {i : Nat} (O : LOk s i) : LOk s (i + 1) :=
  ⟨O.p0, O.p8, O.b0, by have := O.bi; omega, O.kn, by have := O.kl; omega, by have := O.rl; omega, O.rn, by have := O.ml; omega, O.mg, O.ms⟩
theorem LOk.hold {s : LS} {i : Nat} (O : LOk s i) (n : Nm) : LOk { s with roots := addN s.roots n } (i + 1) := by
  refine ⟨O.p0, O.p8, O.b0, by have := O.bi; show s.beg ≤ _; omega, O.kn, by have := O.kl; show s.known.length ≤ _; omega, ?_, addN_nodup O.rn, by have := O.ml; show s.made.length ≤ _; omega, O.mg, O.ms⟩
  have := O.rl
  show (addN s.roots n).length ≤ _
  unfold addN
  split
  · omega
  · rw [List.length_append]
    show s.roots.length + 1 ≤ _
    omega
theorem LOk.drop {s : LS} {i : Nat} (O : LOk s i) (n : Nm) : LOk { s with roots := dropR s.roots n } (i + 1) := by
  refine ⟨O.p0, O.p8, O.b0, by have := O.bi; show s.beg ≤ _; omega, O.kn, by have := O.kl; show s.known.length ≤ _; omega, ?_, ?_, by have := O.ml; show s.made.length ≤ _; omega, O.mg, O.ms⟩
  · have := O.rl
    show (dropR s.roots n).length ≤ _
    unfold dropR
    split
    · omega
    · have := List.length_filter_le (fun m => decide (m ≠ n)) s.roots
      omega
  · show (dropR s.roots n).Nodup
    unfold dropR
    split
    · exact O.rn
    · exact O.rn.sublist List.filter_sublist
def LS.chg (s : LS) (n : Nm) (f : Str) (x : Vl) : Chg := ⟨((s.made.length : Nat) + 1, s.peer), n, f, x⟩
def LS.put (s : LS) (n : Nm) (f : Str) (x : Vl) : LS := { s with made := s.made ++ [s.chg n f x] }
theorem LOk.chg {s : LS} {i : Nat} (O : LOk s i) (hi : i ≤ 11) {n : Nm} {f : Str} {x : Vl} (h1 : Sm n) (h2 : Pl f) (h3 : SmV x) : SmG (s.chg n f x) := by
  have q1 := O.p0
  have q2 := O.p8
  have q3 := O.ml
  exact ⟨⟨by show (0 : Int) ≤ (s.made.length : Nat) + 1; omega, by show ((s.made.length : Nat) : Int) + 1 < 64; omega, q1, by show s.peer < 64; omega⟩, h1, h2, h3⟩
theorem LOk.put {s : LS} {i : Nat} (O : LOk s i) (hi : i ≤ 11) {n : Nm} {f : Str} {x : Vl} (h1 : n ∈ s.known) (h2 : Pl f) (h3 : SmV x) (h4 : ∀ t, tgt x = some t → t ∈ s.known) : LOk (s.put n f x) (i + 1) := by
  refine ⟨O.p0, O.p8, O.b0, by have := O.bi; show s.beg ≤ _; omega, O.kn, by have := O.kl; show s.known.length ≤ _; omega, by have := O.rl; show s.roots.length ≤ _; omega, O.rn, ?_, fun g hg => ?_, fun g hg => ?_⟩
  · show (s.made ++ [_]).length ≤ _
    rw [List.length_append]
    have := O.ml
    show s.made.length + 1 ≤ _
    omega
  · rcases List.mem_append.mp hg with q | q
    · exact O.mg g q
    · rw [List.mem_singleton] at q
      rw [q]
      exact ⟨h1, h4⟩
  · rcases List.mem_append.mp hg with q | q
    · exact O.ms g q
    · rw [List.mem_singleton] at q
      rw [q]
      exact O.chg hi (O.small hi h1) h2 h3
theorem LS.put_rs (s : LS) (n : Nm) (f : Str) (x : Vl) : (s.put n f x).rs = s.rs.note n f x := by
  unfold LS.rs LS.put RS.note RS.chg LS.chg
  simp only [cellsOf_snoc, List.length_append, List.length_singleton, Int.natCast_add, Int.natCast_one]
end K40

namespace K40
open PySem PySem.Spec PyProof.Rows L2
open PySem.W (Frag)
/-! ### the law's own things in the heap -/
structure LA where
  b : Addr
  q : Addr
  kl : Addr
  ol : Addr
  ml : Addr
  a : RA
structure LawAt (P : Program) (w : World) (K : Frag) (CS CR : Addr) (H : Hp) (A : LA) (n : Nat) (s : LS) : Prop where
  bx : BoxAt H A.b A.q n
  rp : RepAt P w K CS CR H A.a s.rs
  kn : ∃ vs, H A.kl = some (.lst vs) ∧ NmsR K H vs s.known
  ro : ∃ vs, H A.ol = some (.lst vs) ∧ NmsR K H vs s.roots
  md : ∃ vs, H A.ml = some (.lst vs) ∧ Paired (ChAt K H) vs s.made
  nd : [A.b, A.q, A.kl, A.ol, A.ml, A.a.r, A.a.d, A.a.rl, A.a.pl].Nodup
  sa : A.b ≠ A.a.sa
section
variable {P : Program} {w : World} {K : Frag} {CS CR : Addr} {H H' : Hp} {A : LA} {n : Nat} {s s' : LS}
theorem LawAt.ne (L : LawAt P w K CS CR H A n s) : A.b ∉ A.a.M ∧ A.q ∉ A.a.M ∧ A.kl ∉ A.a.M ∧ A.ol ∉ A.a.M ∧ A.ml ∉ A.a.M ∧ A.q ≠ A.b ∧ A.kl ≠ A.b ∧ A.ol ≠ A.b ∧ A.ml ≠ A.b := by
  have h := L.nd
  simp only [List.nodup_cons, List.mem_cons, List.not_mem_nil, or_false, not_or] at h
  simp only [RA.M, List.mem_cons, List.not_mem_nil, or_false, not_or]
  obtain ⟨⟨h1, h2, h3, h4, h5, h6, h7, h8⟩, ⟨g2, g3, g4, g5, g6, g7, g8⟩, ⟨k3, k4, k5, k6, k7, k8⟩, ⟨l4, l5, l6, l7, l8⟩, ⟨m5, m6, m7, m8⟩, _⟩ := h
  exact ⟨⟨h5, h6, h7, h8⟩, ⟨g5, g6, g7, g8⟩, ⟨k5, k6, k7, k8⟩, ⟨l5, l6, l7, l8⟩, ⟨m5, m6, m7, m8⟩, Ne.symm h1, Ne.symm h2, Ne.symm h3, Ne.symm h4⟩
theorem LawAt.ch (L : LawAt P w K CS CR H A n s) (k : Ch [] H H') : LawAt P w K CS CR H' A n s := by
  obtain ⟨v1, h1, h2⟩ := L.kn
  obtain ⟨v2, h3, h4⟩ := L.ro
  obtain ⟨v3, h5, h6⟩ := L.md
  exact ⟨L.bx.ch k, L.rp.ch k, ⟨v1, k _ _ (by simp) h1, h2.tk k.tk0⟩, ⟨v2, k _ _ (by simp) h3, h4.tk k.tk0⟩, ⟨v3, k _ _ (by simp) h5, Paired.imp' (fun _ _ z => z.tk k.tk0) h6⟩, L.nd, L.sa⟩
/-- the replica stays where nothing of it is touched -/
theorem RepAt.off {a : RA} {t : RS} (R : RepAt P w K CS CR H a t) {M : List Addr} (k : Ch M H H') (tk : TK K H H') (h1 : a.r ∉ M) (h2 : a.d ∉ M) (h3 : a.rl ∉ M) (h4 : a.pl ∉ M) (h5 : a.sa ∉ M) : RepAt P w K CS CR H' a t := by
  obtain ⟨dx, ml, g1⟩ := R.ob
  obtain ⟨xs, S⟩ := R.st
  obtain ⟨sdx, g2⟩ := S.ob
  obtain ⟨rs, g3, g4⟩ := R.ro
  obtain ⟨ps, g5, g6⟩ := R.pe
  exact ⟨⟨dx, ml, k _ _ h1 g1⟩, ⟨xs, ⟨sdx, k _ _ h5 g2⟩, k _ _ h2 S.dc, S.cs.tk tk⟩, ⟨rs, k _ _ h3 g3, g4.tk tk⟩, ⟨ps, k _ _ h4 g5, Paired.imp' (fun _ _ z => z.tk tk) g6⟩, R.ne, R.nr⟩
theorem LawAt.draw {m : Nat} (L : LawAt P w K CS CR H A n s) (k : Ch [A.b] H H') (B : BoxAt H' A.b A.q m) : LawAt P w K CS CR H' A m s := by
  obtain ⟨e1, e2, e3, e4, e5, e6, e7, e8, e9⟩ := L.ne
  obtain ⟨v1, h1, h2⟩ := L.kn
  obtain ⟨v2, h3, h4⟩ := L.ro
  obtain ⟨v3, h5, h6⟩ := L.md
  have t : TK K H H' := L.bx.tk k
  simp only [RA.M, List.mem_cons, List.not_mem_nil, or_false, not_or] at e1
  obtain ⟨f1, f2, f3, f4⟩ := e1
  exact ⟨B, L.rp.off k t (by simpa using Ne.symm f1) (by simpa using Ne.symm f2) (by simpa using Ne.symm f3) (by simpa using Ne.symm f4) (by simpa using Ne.symm L.sa), ⟨v1, k _ _ (by simpa using e7) h1, h2.tk t⟩, ⟨v2, k _ _ (by simpa using e8) h3, h4.tk t⟩, ⟨v3, k _ _ (by simpa using e9) h5, Paired.imp' (fun _ _ z => z.tk t) h6⟩, L.nd, L.sa⟩
theorem LawAt.tk (L : LawAt P w K CS CR H A n s) (k : Ch [A.b] H H') : TK K H H' := L.bx.tk k
/-- the replica moved on, the law's lists not yet -/
structure LawMid (P : Program) (w : World) (K : Frag) (CS CR : Addr) (H : Hp) (A : LA) (n : Nat) (s : LS) (t : RS) : Prop where
  bx : BoxAt H A.b A.q n
  rp : RepAt P w K CS CR H A.a t
  kn : ∃ vs, H A.kl = some (.lst vs) ∧ NmsR K H vs s.known
  ro : ∃ vs, H A.ol = some (.lst vs) ∧ NmsR K H vs s.roots
  md : ∃ vs, H A.ml = some (.lst vs) ∧ Paired (ChAt K H) vs s.made
  nd : [A.b, A.q, A.kl, A.ol, A.ml, A.a.r, A.a.d, A.a.rl, A.a.pl].Nodup
  sa : A.b ≠ A.a.sa
theorem LawAt.mid (L : LawAt P w K CS CR H A n s) : LawMid P w K CS CR H A n s s.rs := ⟨L.bx, L.rp, L.kn, L.ro, L.md, L.nd, L.sa⟩
theorem LawMid.fin (L : LawMid P w K CS CR H A n s s.rs) : LawAt P w K CS CR H A n s := ⟨L.bx, L.rp, L.kn, L.ro, L.md, L.nd, L.sa⟩
theorem LawAt.rep {t : RS} (L : LawAt P w K CS CR H A n s) (k : Ch A.a.M H H') (R : RepAt P w K CS CR H' A.a t) : LawMid P w K CS CR H' A n s t := by
  obtain ⟨e1, e2, e3, e4, e5, _⟩ := L.ne
  obtain ⟨v1, h1, h2⟩ := L.kn
  obtain ⟨v2, h3, h4⟩ := L.ro
  obtain ⟨v3, h5, h6⟩ := L.md
  have t := L.rp.tk k
  exact ⟨L.bx.ch k e1 e2, R, ⟨v1, k _ _ e3 h1, h2.tk t⟩, ⟨v2, k _ _ e4 h3, h4.tk t⟩, ⟨v3, k _ _ e5 h5, Paired.imp' (fun _ _ z => z.tk t) h6⟩, L.nd, L.sa⟩
theorem LawMid.ch {t : RS} (L : LawMid P w K CS CR H A n s t) (k : Ch [] H H') : LawMid P w K CS CR H' A n s t := by
  obtain ⟨v1, h1, h2⟩ := L.kn
  obtain ⟨v2, h3, h4⟩ := L.ro
  obtain ⟨v3, h5, h6⟩ := L.md
  exact ⟨L.bx.ch k, L.rp.ch k, ⟨v1, k _ _ (by simp) h1, h2.tk k.tk0⟩, ⟨v2, k _ _ (by simp) h3, h4.tk k.tk0⟩, ⟨v3, k _ _ (by simp) h5, Paired.imp' (fun _ _ z => z.tk k.tk0) h6⟩, L.nd, L.sa⟩
/-- a list of the law's grows: nothing else is touched -/
theorem LawMid.grow {t : RS} {x : Addr} {o : HO} (L : LawMid P w K CS CR H A n s t) (hx : x = A.kl ∨ x = A.ol ∨ x = A.ml) :
    BoxAt (upd H x o) A.b A.q n ∧ RepAt P w K CS CR (upd H x o) A.a t ∧ TK K H (upd H x o) ∧ NoTup H x := by
  have nt : NoTup H x := by
    obtain ⟨v1, h1, h2⟩ := L.kn
    obtain ⟨v2, h3, h4⟩ := L.ro
    obtain ⟨v3, h5, h6⟩ := L.md
    rcases hx with rfl | rfl | rfl
    · exact .lst h1
    · exact .lst h3
    · exact .lst h5
  have tk : TK K H (upd H x o) := TK.upd nt
  have k : Ch [x] H (upd H x o) := Ch.upd (by simp)
  have h := L.nd
  simp only [List.nodup_cons, List.mem_cons, List.not_mem_nil, or_false, not_or] at h
  obtain ⟨⟨h1, h2, h3, h4, h5, h6, h7, h8⟩, ⟨g2, g3, g4, g5, g6, g7, g8⟩, ⟨k3, k4, k5, k6, k7, k8⟩, ⟨l4, l5, l6, l7, l8⟩, ⟨m5, m6, m7, m8⟩, _⟩ := h
  have hsa : A.a.sa ≠ x := by
    obtain ⟨xs, S⟩ := L.rp.st
    obtain ⟨sdx, g⟩ := S.ob
    obtain ⟨v1, q1, _⟩ := L.kn
    obtain ⟨v2, q3, _⟩ := L.ro
    obtain ⟨v3, q5, _⟩ := L.md
    rcases hx with rfl | rfl | rfl
    · exact ne_of g q1 (by intro z; cases z)
    · exact ne_of g q3 (by intro z; cases z)
    · exact ne_of g q5 (by intro z; cases z)
  rcases hx with rfl | rfl | rfl
  · exact ⟨L.bx.ch k (by simpa using h2) (by simpa using g2), L.rp.off k tk (by simpa using Ne.symm k5) (by simpa using Ne.symm k6) (by simpa using Ne.symm k7) (by simpa using Ne.symm k8) (by simpa using hsa), tk, nt⟩
  · exact ⟨L.bx.ch k (by simpa using h3) (by simpa using g3), L.rp.off k tk (by simpa using Ne.symm l5) (by simpa using Ne.symm l6) (by simpa using Ne.symm l7) (by simpa using Ne.symm l8) (by simpa using hsa), tk, nt⟩
  · exact ⟨L.bx.ch k (by simpa using h4) (by simpa using g4), L.rp.off k tk (by simpa using Ne.symm m5) (by simpa using Ne.symm m6) (by simpa using Ne.symm m7) (by simpa using Ne.symm m8) (by simpa using hsa), tk, nt⟩
theorem LawMid.nes {t : RS} (L : LawMid P w K CS CR H A n s t) : A.ol ≠ A.kl ∧ A.ml ≠ A.kl ∧ A.kl ≠ A.ol ∧ A.ml ≠ A.ol ∧ A.kl ≠ A.ml ∧ A.ol ≠ A.ml := by
  have h := L.nd
  simp only [List.nodup_cons, List.mem_cons, List.not_mem_nil, or_false, not_or] at h
  obtain ⟨_, _, ⟨k3, k4, _⟩, ⟨l4, _⟩, _⟩ := h
  exact ⟨Ne.symm k3, Ne.symm k4, k3, Ne.symm l4, k4, l4⟩
theorem LawMid.apK {t : RS} {v : V} {m : Nm} (L : LawMid P w K CS CR H A n s t) {vs : List V} (hk : H A.kl = some (.lst vs)) (hv : NmAt K H v m) (e : ({ s with known := s.known ++ [m], beg := s.beg + 1 } : LS).rs = t) :
    LawAt P w K CS CR (upd H A.kl (.lst (vs ++ [v]))) A n { s with known := s.known ++ [m], beg := s.beg + 1 } := by
  obtain ⟨b1, r1, tk, _⟩ := L.grow (x := A.kl) (o := .lst (vs ++ [v])) (.inl rfl)
  obtain ⟨n1, n2, _⟩ := L.nes
  obtain ⟨v1, h1, h2⟩ := L.kn
  obtain ⟨v2, h3, h4⟩ := L.ro
  obtain ⟨v3, h5, h6⟩ := L.md
  rw [hk] at h1
  cases h1
  refine ⟨b1, by rw [e]; exact r1, ⟨_, upd_same, Paired.snoc' (h2.tk tk) (hv.tk tk)⟩, ⟨v2, by rw [upd_ne n1]; exact h3, h4.tk tk⟩, ⟨v3, by rw [upd_ne n2]; exact h5, Paired.imp' (fun _ _ z => z.tk tk) h6⟩, L.nd, L.sa⟩
theorem LawMid.apR {t : RS} {v : V} {m : Nm} (L : LawMid P w K CS CR H A n s t) {vs : List V} (hk : H A.ol = some (.lst vs)) (hv : NmAt K H v m) (e : ({ s with roots := s.roots ++ [m] } : LS).rs = t) :
    LawAt P w K CS CR (upd H A.ol (.lst (vs ++ [v]))) A n { s with roots := s.roots ++ [m] } := by
  obtain ⟨b1, r1, tk, _⟩ := L.grow (x := A.ol) (o := .lst (vs ++ [v])) (.inr (.inl rfl))
  obtain ⟨_, _, n3, n4, _, _⟩ := L.nes
  obtain ⟨v1, h1, h2⟩ := L.kn
  obtain ⟨v2, h3, h4⟩ := L.ro
  obtain ⟨v3, h5, h6⟩ := L.md
  rw [hk] at h3
  cases h3
  refine ⟨b1, by rw [e]; exact r1, ⟨v1, by rw [upd_ne n3]; exact h1, h2.tk tk⟩, ⟨_, upd_same, Paired.snoc' (h4.tk tk) (hv.tk tk)⟩, ⟨v3, by rw [upd_ne n4]; exact h5, Paired.imp' (fun _ _ z => z.tk tk) h6⟩, L.nd, L.sa⟩
theorem LawMid.apM {t : RS} {v : V} {g : Chg} (L : LawMid P w K CS CR H A n s t) {vs : List V} (hk : H A.ml = some (.lst vs)) (hv : ChAt K H v g) (e : ({ s with made := s.made ++ [g] } : LS).rs = t) :
    LawAt P w K CS CR (upd H A.ml (.lst (vs ++ [v]))) A n { s with made := s.made ++ [g] } := by
  obtain ⟨b1, r1, tk, _⟩ := L.grow (x := A.ml) (o := .lst (vs ++ [v])) (.inr (.inr rfl))
  obtain ⟨_, _, _, _, n5, n6⟩ := L.nes
  obtain ⟨v1, h1, h2⟩ := L.kn
  obtain ⟨v2, h3, h4⟩ := L.ro
  obtain ⟨v3, h5, h6⟩ := L.md
  rw [hk] at h5
  cases h5
  refine ⟨b1, by rw [e]; exact r1, ⟨v1, by rw [upd_ne n5]; exact h1, h2.tk tk⟩, ⟨v2, by rw [upd_ne n6]; exact h3, h4.tk tk⟩, ⟨_, upd_same, Paired.snoc' (Paired.imp' (fun _ _ z => z.tk tk) h6) (hv.tk tk)⟩, L.nd, L.sa⟩
/-- the roots in a new list -/
theorem LawMid.newR {t : RS} {ds : List Nm} {vs : List V} {D : Addr} (L : LawMid P w K CS CR H A n s t) (hD : H D = some (.lst vs)) (hv : NmsR K H vs ds) (e : ({ s with roots := ds } : LS).rs = t)
    (d1 : D ≠ A.b) (d2 : D ≠ A.q) (d3 : D ≠ A.kl) (d4 : D ≠ A.ml) (d5 : D ∉ A.a.M) : LawAt P w K CS CR H { A with ol := D } n { s with roots := ds } := by
  obtain ⟨v1, h1, h2⟩ := L.kn
  refine ⟨L.bx, by rw [e]; exact L.rp, ⟨v1, h1, h2⟩, ⟨vs, hD, hv⟩, L.md, ?_, L.sa⟩
  have h := L.nd
  simp only [RA.M, List.mem_cons, List.not_mem_nil, or_false, not_or] at d5
  simp only [List.nodup_cons, List.mem_cons, List.not_mem_nil, or_false, not_or] at h ⊢
  obtain ⟨⟨h1, h2, h3, h4, h5, h6, h7, h8⟩, ⟨g2, g3, g4, g5, g6, g7, g8⟩, ⟨k3, k4, k5, k6, k7, k8⟩, ⟨l4, l5, l6, l7, l8⟩, r⟩ := h
  exact ⟨⟨h1, h2, Ne.symm d1, h4, h5, h6, h7, h8⟩, ⟨g2, Ne.symm d2, g4, g5, g6, g7, g8⟩, ⟨Ne.symm d3, k4, k5, k6, k7, k8⟩, ⟨d4, d5.1, d5.2.1, d5.2.2.1, d5.2.2.2⟩, r⟩
end
end K40

namespace K40
open PySem PySem.Spec PyProof.Rows L2
open PySem.W (Frag)
/-! ### the end, for a law that is called where no guard is under way -/
section
variable {P : Program} {w : World} {K : Frag} {mg mb : Str → Option Value} {k : Nat} {fa a : Addr} {fd : FuncData} {x : Str} {sp : Sp} {s1 : Shared} {vs : List Value} {ns : List Int}
/-- the list that is handed in, as an object -/
def scr (vs : List Value) : Obj := { cls := .type "list", data := .seq vs.toArray }
/-- it is told of where the written part does not hold it -/
noncomputable def hpOf (K : Frag) (a : Addr) (vs : List Value) (ns : List Int) : Hp := fun b => open Classical in if b = a ∧ K.lookup a = none then some (.frz (scr vs) (.lst (ns.map V.int))) else none
theorem hpOf_some {b : Addr} {u : HO} (h : hpOf K a vs ns b = some u) : b = a ∧ K.lookup a = none ∧ u = .frz (scr vs) (.lst (ns.map V.int)) := by
  unfold hpOf at h
  split at h
  · rename_i z
    exact ⟨z.1, z.2, (Option.some.inj h).symm⟩
  · cases h
theorem callG (KX : K.In s1.heap) (hm : s1.heap.Ns mainGlobals mg) (hb : s1.heap.Ns builtinsNs mb) (hbb : ∀ x : Str, x ≠ "__name__" → mb x = bootBuiltins x) (hlim : s1.heap.NoLimit) (hg : s1.gens = #[]) (ha : s1.heap.get? a = some (scr vs)) (hi : IntsAre vs ns)
    (hl : ns.length ≤ sizeLine) (hr : Room k callerA) (F : ∀ base : Heap, K.In base → base.Ns mainGlobals mg → FnG P w K mg base CX0 k fa fd [x] sp) (hbind : ∀ (s : Shared) (u : Value), BindsTo s fd ⟨[u], []⟩ [(x, u)])
    (hsp : ∀ H : Hp, SqL K H a (ns.map V.int) → sp [.ref a] H (fun v _ => v = .bl true) fun _ _ _ => False) :
    codeAny (model P w) callerA (.call (.ref fa) ⟨[.ref a], []⟩) (fun r s' => r = .ok (.ret (.bool true)) ∧ OldK s1.heap s'.heap ∧ s'.os = s1.os ∧ AllBare s'.gens) s1 := by
  have rv := vals_ints hi
  -- what is told of is the list alone; a dict is not told of
  have noD : ∀ {b : Addr} {o : Obj} {es : Array DictEntry} {ep : Nat}, s1.heap.get? b = some o → o.data = .dict es ep → hpOf K a vs ns b = none := fun {b o es ep} e d => by
    cases q : hpOf K a vs ns b with
    | none => rfl
    | some u =>
      obtain ⟨rfl, _, _⟩ := hpOf_some q
      rw [ha] at e
      cases e
      cases d
  have put : ∀ {b : Addr} {o : Obj}, s1.heap.get? b = some o → hpOf K a vs ns b = none → (hidT s1.heap (hpOf K a vs ns)).get? b = some o := fun e z => hidT_get e z
  have putN : ∀ {b : Addr} {m : Str → Option Value}, s1.heap.Ns b m → (hidT s1.heap (hpOf K a vs ns)).Ns b m := fun ⟨o, es, ep, e, d, r⟩ => ⟨o, es, ep, put e (noD e d), d, r⟩
  have inK : K.In (hidT s1.heap (hpOf K a vs ns)) := fun b o e => put (KX b o e) (by
    cases q : hpOf K a vs ns b with
    | none => rfl
    | some u =>
      obtain ⟨rfl, z, _⟩ := hpOf_some q
      rw [z] at e
      cases e)
  have ok : HOk P w (hpOf K a vs ns) s1.heap := fun b u q => by
    obtain ⟨rfl, _, rfl⟩ := hpOf_some q
    exact ⟨ha, by rw [List.length_map]; exact hl, vs, _, rv, ha⟩
  have sq : SqL K (hpOf K a vs ns) a (ns.map V.int) := by
    cases q : K.lookup a with
    | none => exact .inl (.inr ⟨scr vs, by unfold hpOf; rw [if_pos ⟨rfl, q⟩]⟩)
    | some o =>
      have e := KX a o q
      rw [ha] at e
      cases e
      exact .inr ⟨_, vs.toArray, _, q, rfl, rfl, rfl, by rw [List.size_toArray, hi.length]; exact hl, by simpa using rv⟩
  have lim : (hidT s1.heap (hpOf K a vs ns)).NoLimit := by
    obtain ⟨mc, h1, h2⟩ := hlim
    exact ⟨mc, putN h1, h2⟩
  have e0 : Env0 P w K mg (hidT s1.heap (hpOf K a vs ns)) callerA [] s1 (hpOf K a vs ns) :=
    { frames := rfl, mod := ⟨inK, putN hm, ⟨mb, putN hb, hbb⟩, lim⟩, bs := fun b o e => of_hidT e, bsz := Nat.le_of_eq (hidT_size _ _), funs := trivial, frf := (fun b z => nomatch (show b ∈ ([] : List Addr) from z)), hok := ok, bare := .of_eq hg }
  have run := (F _ inK (putN hm)).run callerA [] s1 (hpOf K a vs ns) ⟨[.ref a], []⟩ [.ref a] [.ref a] (fun v _ => v = .bl true) (fun _ _ _ => False) hr rfl e0 (hbind s1 (.ref a)) (.cons rfl .nil) (hsp _ sq)
  refine codeAny_mono run fun r s' h => ?_
  match r, h with
  | .error e, h => exact False.elim h
  | .ok .next, h => exact False.elim h
  | .ok .brk, h => exact False.elim h
  | .ok .cont, h => exact False.elim h
  | .ok (.ret u), h =>
    obtain ⟨v, H', os, bare, un, ok', r', q⟩ := h
    have q : v = .bl true := q
    subst q
    obtain rfl : u = Value.bool true := r'
    refine ⟨rfl, OldK.of_keep fun b o e => ?_, os, bare⟩
    cases q : hpOf K a vs ns b with
    | none => exact un.keep b o e q (fun z => nomatch (show b ∈ ([] : List Addr) from z)) (by simp)
    | some u =>
      obtain ⟨rfl, _, rfl⟩ := hpOf_some q
      have e2 := (ok' _ _ (un.frzs _ _ _ q)).1
      rw [ha] at e
      cases e
      exact e2
end
theorem walkG {l : PySem.W.OpenLaw} {n k : Nat} {q : Program} {loose : List Str} {XP : (Str → Option Value) → Heap → Prop} {YP : World → Heap → Prop} {d : DefRec} {K : Params → Frag} {sp : World → Sp} {x : Str}
    (hn : l.most = some n) (hn2 : n ≤ sizeLine) (hdf : d.params.defaults = []) (hr : Room k callerA) (hY : ∀ (w : World) (h : Heap), YP w h → (K w.params).In h)
    (F : ∀ (w : World) (mg : Str → Option Value) (fa : Addr) (h : Heap), (K w.params).In h → h.Ns mainGlobals mg → mg d.name = some (.ref fa) →
      ∃ fd : FuncData, (∀ (s : Shared) (u : Value), BindsTo s fd ⟨[u], []⟩ [(x, u)]) ∧ ∀ base : Heap, (K w.params).In base → base.Ns mainGlobals mg → FnG l.prog w (K w.params) mg base CX0 k fa fd [x] (sp w))
    (hsp : ∀ (w : World) (H : Hp) (a : Addr) (ns : List Int), ns.length ≤ n → SqL (K w.params) H a (ns.map V.int) → sp w [.ref a] H (fun v _ => v = .bl true) fun _ _ _ => False) :
    PySem.W.WalkO q loose XP YP l.row.toRowW d [] (fun f vs => PySem.call f vs) :=
  Att.attach_call hn hdf fun w s₀ s₁ mg mb fa o pm cd doc a vs ns G Y ho hd hcd hmg hobj hints hlen hg => by
    have KX := hY w _ Y
    obtain ⟨fd, hb, hF⟩ := F w mg fa _ KX G.T.g hmg
    exact callG KX G.T.g G.T.b G.T.builtins G.T.nolimit hg hobj hints (Nat.le_trans hlen hn2) hr hF hb fun H hS => hsp w H a ns hlen hS
end K40

namespace K40
open PySem PySem.Spec PyProof.Rows L2
open PySem.W (Frag)
theorem dp_ref {K : Frag} {H : Hp} {v : V} {ds : List PyData} (h : Dp K H v (.tuple ds)) : ∃ a, v = .ref a := by
  cases h with
  | tup h1 h2 => exact ⟨_, rfl⟩
theorem eqv_same {d : PyData} (h : SeqAt.shaped d = true) : PyData.eqv d d = true := SeqAt.eqv_refl d (SeqAt.canLay_of_shaped h)
/-- the readings of the two comprehensions' tests -/
def ttR (K : Frag) : TT := tOr (tTest (tOp (rNeD K) (tVar 19) (tVar 11))) (tTest (tOp (rEqD K) (tVar 19) (tTup (tCons (tC (.int 0)) (tCons (tC (.int 0)) tNil)))))
def ttW (K : Frag) : TT := tAnd (tB (tNotN (tVar 19))) (tTest (tOp (rNotInD K) (tVar 19) (tVar 4)))
def kpt (n m : Nm) : Bool := !decide (m = n) || decide (m = (0, 0))
theorem dropR_eq (l : List Nm) (n : Nm) : dropR l n = l.filter (kpt n) := by
  unfold dropR
  by_cases h : n = (0, 0)
  · rw [if_pos h]
    refine (List.filter_eq_self.mpr fun m _ => ?_).symm
    unfold kpt
    rw [h]
    by_cases z : m = (0, 0)
    · rw [decide_eq_true z]
      rfl
    · rw [decide_eq_false z]
      rfl
  · rw [if_neg h]
    refine List.filter_congr fun m _ => ?_
    unfold kpt
    by_cases z : m = n
    · have z0 : ¬ m = (0, 0) := fun q => h (z ▸ q)
      rw [decide_eq_true z, decide_eq_false z0, decide_eq_false (fun q => q z)]
      rfl
    · rw [decide_eq_false z, decide_eq_true z]
      rfl
/-- the names of a change that are not known -/
def bad (known : List Nm) (n : Nm) (x : Vl) : List Nm := ([n] ++ (tgt x).toList).filter fun m => decide (m ∉ known)
theorem wrong_eq {s : LS} {i : Nat} (O : LOk s i) {n : Nm} {x : Vl} (h : 0 ≤ n.2) (hx : ∀ t, tgt x = some t → 0 ≤ t.2) : wrong s.rs n x = (bad s.known n x).head? := by
  unfold wrong bad
  rw [O.knows h]
  by_cases c1 : n ∈ s.known
  · have e1 : ¬ decide (n ∈ s.known) = false := by rw [decide_eq_true c1]; decide
    have e2 : ¬ decide (n ∉ s.known) = true := by rw [decide_eq_false (fun z => z c1)]; decide
    rw [if_neg e1]
    show _ = (List.filter _ (n :: (tgt x).toList)).head?
    rw [List.filter_cons, if_neg e2]
    cases et : tgt x with
    | none => rfl
    | some t =>
      show (if kn s.rs t = false then some t else none) = (List.filter _ (t :: [])).head?
      rw [O.knows (hx t et), List.filter_cons]
      by_cases c2 : t ∈ s.known
      · rw [decide_eq_true c2, decide_eq_false (fun z => z c2)]
        rfl
      · rw [decide_eq_false c2, decide_eq_true c2]
        rfl
  · have e2 : decide (n ∉ s.known) = true := decide_eq_true c1
    rw [decide_eq_false c1, if_pos rfl]
    show _ = (List.filter _ (n :: (tgt x).toList)).head?
    rw [List.filter_cons, if_pos e2]
    rfl
section
variable {P : Program} {w : World} {K : Frag} {CS CR : Addr} {H : Hp} {A : LA} {n i : Nat} {s : LS}
/-- replica.knows(name) != (name in known) -/
def tKnow (P : Program) (w : World) (K : Frag) (CS CR : Addr) (E : XK) : TS :=
  tIfS (tTest (tOp rNe (tMeth CR "knows" (spKnows P w K CS CR) [] E (tVar 3) (tCons (tVar 11) tNil)) (tOp (rInD K) (tVar 11) (tVar 4)))) (tRet (tC (.bl false))) tNext
theorem know_end {D : Ends} {σ : L2.St} {nv : V} {nm : Nm} {E : XK} (h3 : σ[3]? = some (some (.ref A.a.r))) (h11 : σ[11]? = some (some nv)) (h4 : σ[4]? = some (some (.ref A.kl))) (L : LawAt P w K CS CR H A n s) (O : LOk s i) (hi : i ≤ 11) (hv : NmAt K H nv nm) (h0 : 0 ≤ nm.2)
    (k : ∀ H', Ch [] H H' → D.nx σ H') : tKnow P w K CS CR E D σ H := by
  obtain ⟨dx, ml, ho⟩ := L.rp.ob
  refine ⟨_, h3, A.a.r, dx, _, rfl, ho, rfl, _, h11, A.a, s.rs, nv, nm, rfl, L.rp, O.sok hi, hv, fun H1 c1 => ?_⟩
  obtain ⟨vs, hk, hks⟩ := (L.ch c1).kn
  refine ⟨_, h11, _, h4, nmD nm, s.known.map nmD, (hv.tk c1.tk0).dp, .lst (.of hk) hks.dp, shaped_nm _, shaped_nms _, rfl, _, rfl, ?_⟩
  rw [any_nms, O.knows h0, decide_eq_true rfl]
  exact iteF (k H1 c1)
/-- roots = [one for one in roots if one != name or one == (0, 0)] -/
theorem roots_read {Q : VK} {o0 o1 o2 o3 o4 o6 o7 o8 o9 o10 o12 o13 o14 o15 o16 o17 o18 : Option V} {ol : Addr} {vs : List V} {roots : List Nm} {nv : V} {nm : Nm} (hol : H ol = some (.lst vs)) (hr : NmsR K H vs roots) (hl : roots.length ≤ 100) (hv : NmAt K H nv nm)
    (k : ∀ H' D acc, Ch [] H H' → H D = none → H' D = some (.lst acc) → NmsR K H' acc (dropR roots nm) → Q (.ref D) H') :
    tLc (iList K (tVar 5)) (gName 19) (ttR K) (tVar 19) [19] [o0, o1, o2, o3, o4, some (.ref ol), o6, o7, o8, o9, o10, some nv, o12, o13, o14, o15, o16, o17, o18, none] H Q := by
  refine ⟨_, rfl, ol, rfl, ⟨vs, .of hol⟩, fun D hD => ?_⟩
  refine lc_list (K := K) (a := ol) (xs := vs) (fun i G => ∃ acc, Ch [] H G ∧ G D = some (.lst acc) ∧ NmsR K G acc ((roots.take i).filter (kpt nm))) ?_ ?_ ?_ ?_
  · exact ⟨[], Ch.new hD, upd_same, .nil⟩
  · rintro i G _ ⟨acc, kg, _⟩
    exact .of (kg _ _ (by simp) hol)
  · rintro i y G hi ⟨acc, kg, hacc, hA⟩
    obtain ⟨m, hm, hym⟩ := Paired.get' (hr.tk kg.tk0) hi
    have hal : acc.length ≤ 100 := by
      have h1 := Paired.len' hA
      have h2 := List.length_filter_le (kpt nm) (roots.take i)
      rw [List.length_take] at h2
      omega
    have stp : (roots.take (i + 1)).filter (kpt nm) = (roots.take i).filter (kpt nm) ++ [m].filter (kpt nm) := by rw [take_more hm, List.filter_append]
    have keep : ∀ G2, Ch [] G G2 → kpt nm m = true → tVar 19 [o0, o1, o2, o3, o4, some (.ref ol), o6, o7, o8, o9, o10, some nv, o12, o13, o14, o15, o16, o17, o18, some y] G2 fun y H4 => ∃ acc, H4 D = some (.lst acc) ∧ acc.length < sizeLine ∧
        ∃ acc2, Ch [] H (upd H4 D (.lst (acc ++ [y]))) ∧ upd H4 D (.lst (acc ++ [y])) D = some (.lst acc2) ∧ NmsR K (upd H4 D (.lst (acc ++ [y]))) acc2 ((roots.take (i + 1)).filter (kpt nm)) := fun G2 c2 hk => by
      have hacc2 := c2 _ _ (by simp) hacc
      refine ⟨_, rfl, acc, hacc2, small1000 (by omega), ?_⟩
      have t := TK.upd (K := K) (o := .lst (acc ++ [y])) (NoTup.lst hacc2)
      refine ⟨_, (kg.trans c2).new_upd hD, upd_same, ?_⟩
      rw [stp, List.filter_cons, if_pos hk]
      exact Paired.snoc' ((hA.tk c2.tk0).tk t) ((hym.tk c2.tk0).tk t)
    refine ⟨rfl, _, rfl, _, rfl, nmD m, nmD nm, hym.dp, (hv.tk kg.tk0).dp, shaped_nm _, shaped_nm _, _, rfl, ?_⟩
    rw [eqv_nm]
    by_cases c1 : m = nm
    · rw [decide_eq_true c1]
      refine iteF ?_
      refine ⟨_, rfl, (by show 2 ≤ sizeLine; decide), fun p hp => ?_⟩
      have c2 : Ch [] G (upd G p (.tup [.int 0, .int 0])) := Ch.new hp
      have hz : NmAt K (upd G p (.tup [.int 0, .int 0])) (.ref p) (0, 0) := ⟨p, rfl, .of upd_same⟩
      refine ⟨nmD m, nmD (0, 0), (hym.tk c2.tk0).dp, hz.dp, shaped_nm _, shaped_nm _, _, rfl, ?_⟩
      rw [eqv_nm]
      by_cases c3 : m = (0, 0)
      · rw [decide_eq_true c3]
        refine keep _ c2 ?_
        unfold kpt
        rw [decide_eq_true c3, Bool.or_true]
      · rw [decide_eq_false c3]
        refine ⟨acc, kg.trans c2, c2 _ _ (by simp) hacc, ?_⟩
        have : ¬ kpt nm m = true := by
          unfold kpt
          rw [decide_eq_true c1, decide_eq_false c3]
          decide
        rw [stp, List.filter_cons, if_neg this]
        simpa using hA.tk c2.tk0
    · rw [decide_eq_false c1]
      refine keep G (Ch.refl _ _) ?_
      unfold kpt
      rw [decide_eq_false c1]
      rfl
  · rintro G ⟨acc, kg, hacc, hA⟩
    rw [Paired.len' hr, List.take_length, ← dropR_eq] at hA
    exact k G D acc kg hD hacc hA
/-- wrong = [one for one in [name, target(value)] if one is not None and one not in known]: the list that is walked at q, the new one at D -/
theorem wrong_core {Qd : Hp → Prop} {o0 o1 o2 o3 o5 o6 o7 o8 o9 o10 o12 o13 o14 o15 o16 o17 o18 : Option V} {kl q D : Addr} {vs : List V} {known : List Nm} {nv t : V} {nm : Nm} {x : Vl} (hkl : H kl = some (.lst vs)) (hr : NmsR K H vs known) (hv : NmAt K H nv nm) (ht : TgV K H t x)
    (hq : H q = none) (hD : upd H q (.lst [nv, t]) D = none) (k : ∀ H' acc, Ch [] H H' → H' D = some (.lst acc) → NmsR K H' acc (bad known nm x) → Qd H') :
    ∃ W : Nat → Nat → Hp → Prop, (∃ m, W 0 m (upd (upd H q (.lst [nv, t])) D (.lst []))) ∧ ∀ i m H, W i m H →
      ((Itl K q).stop i H ∧ Qd H) ∨ ((Itl K q).go i H ∧ ∃ Nx : Hp → Prop, (∀ H', Nx H' → ∃ m', m' < m ∧ W (i + 1) m' H') ∧ ∀ x H', (Itl K q).yld i H x H' → gName 19 x (wipe [o0, o1, o2, o3, some (.ref kl), o5, o6, o7, o8, o9, o10, some nv, o12, o13, o14, o15, o16, o17, o18, none] [19]) H' fun σ2 H2 => wipe σ2 [19] = wipe [o0, o1, o2, o3, some (.ref kl), o5, o6, o7, o8, o9, o10, some nv, o12, o13, o14, o15, o16, o17, o18, none] [19] ∧ ttW K σ2 H2 fun b H3 =>
        if b = true then tVar 19 σ2 H3 fun y H4 => ∃ acc, H4 D = some (.lst acc) ∧ acc.length < sizeLine ∧ Nx (upd H4 D (.lst (acc ++ [y]))) else Nx H3) := by
  have k1 : Ch [] H (upd H q (.lst [nv, t])) := Ch.new hq
  have hHD : H D = none := k1.free hD
  have hqD : q ≠ D := fun z => by rw [← z, upd_same] at hD; cases hD
  have hgD : ∀ {G : Hp}, Ch [] (upd H q (.lst [nv, t])) G → G q = some (.lst [nv, t]) := fun kg => kg _ _ (by simp) upd_same
  -- one more: a name that isn't known is kept
  have one : ∀ (G : Hp) (y : V) (m : Nm) (l : List Nm) (acc : List V), Ch [] (upd H q (.lst [nv, t])) G → G D = some (.lst acc) → acc.length ≤ 100 → NmsR K G acc (l.filter fun m => decide (m ∉ known)) → NmAt K G y m →
      ttW K [o0, o1, o2, o3, some (.ref kl), o5, o6, o7, o8, o9, o10, some nv, o12, o13, o14, o15, o16, o17, o18, some y] G fun b H3 => if b = true then tVar 19 [o0, o1, o2, o3, some (.ref kl), o5, o6, o7, o8, o9, o10, some nv, o12, o13, o14, o15, o16, o17, o18, some y] H3 fun y H4 => ∃ acc, H4 D = some (.lst acc) ∧ acc.length < sizeLine ∧
        (∃ acc2, Ch [] (upd H q (.lst [nv, t])) (upd H4 D (.lst (acc ++ [y]))) ∧ upd H4 D (.lst (acc ++ [y])) D = some (.lst acc2) ∧ NmsR K (upd H4 D (.lst (acc ++ [y]))) acc2 ((l ++ [m]).filter fun m => decide (m ∉ known)))
        else ∃ acc2, Ch [] (upd H q (.lst [nv, t])) H3 ∧ H3 D = some (.lst acc2) ∧ NmsR K H3 acc2 ((l ++ [m]).filter fun m => decide (m ∉ known)) := fun G y m l acc kg hacc hal hA hy => by
    have hne : ¬ y = .non := by
      obtain ⟨z, rfl, _⟩ := hy
      intro z
      cases z
    refine ⟨_, rfl, _, rfl, ?_⟩
    rw [decide_eq_false hne]
    refine iteT ?_
    have kH := k1.trans kg
    refine ⟨_, rfl, _, rfl, nmD m, known.map nmD, hy.dp, .lst (.of (kH _ _ (by simp) hkl)) (hr.tk kH.tk0).dp, shaped_nm _, shaped_nms _, _, rfl, ?_⟩
    rw [any_nms, List.filter_append, List.filter_cons]
    by_cases c1 : m ∈ known
    · have e : ¬ decide (m ∉ known) = true := by rw [decide_eq_false (fun z => z c1)]; decide
      rw [if_neg e, decide_eq_true c1]
      refine ⟨acc, kg, hacc, ?_⟩
      simpa using hA
    · have e : decide (m ∉ known) = true := decide_eq_true c1
      rw [if_pos e, decide_eq_false c1]
      refine ⟨_, rfl, acc, hacc, small1000 (by omega), ?_⟩
      have t := TK.upd (K := K) (o := .lst (acc ++ [y])) (NoTup.lst hacc)
      exact ⟨_, kg.new_upd hD, upd_same, Paired.snoc' (hA.tk t) (hy.tk t)⟩
  refine lc_list (K := K) (a := q) (xs := [nv, t]) (fun i G => ∃ acc, Ch [] (upd H q (.lst [nv, t])) G ∧ G D = some (.lst acc) ∧ NmsR K G acc ((if i = 0 then [] else if i = 1 then [nm] else [nm] ++ (tgt x).toList).filter fun m => decide (m ∉ known))) ?_ ?_ ?_ ?_
  · exact ⟨[], Ch.new hD, upd_same, .nil⟩
  · rintro i G _ ⟨acc, kg, _⟩
    exact .of (hgD kg)
  · rintro i y G hi ⟨acc, kg, hacc, hA⟩
    have kH := k1.trans kg
    match i, hi with
    | 0, hi =>
      obtain rfl : nv = y := Option.some.inj hi
      have := one G nv nm [] acc kg hacc (by have := Paired.len' hA; rw [this]; exact Nat.zero_le _) hA (hv.tk kH.tk0)
      exact ⟨rfl, this⟩
    | 1, hi =>
      obtain rfl : t = y := Option.some.inj hi
      unfold TgV at ht
      have hal : acc.length ≤ 100 := by
        have h1 := Paired.len' hA
        have h2 := List.length_filter_le (fun m => decide (m ∉ known)) [nm]
        have h3 : acc.length ≤ [nm].length := by rw [h1]; exact h2
        have h4 : [nm].length = 1 := rfl
        omega
      cases et : tgt x with
      | none =>
        rw [et] at ht
        subst ht
        refine ⟨rfl, ?_⟩
        refine ⟨_, rfl, _, rfl, ?_⟩
        exact ⟨acc, kg, hacc, hA⟩
      | some m =>
        rw [et] at ht
        have := one G t m [nm] acc kg hacc hal hA (ht.tk kH.tk0)
        exact ⟨rfl, this⟩
    | j + 2, hi => cases hi
  · rintro G ⟨acc, kg, hacc, hA⟩
    exact k G acc (k1.trans kg) hacc hA
end
end K40

namespace K40
open PySem PySem.Spec PyProof.Rows L2
open PySem.W (Frag)
/-- a def that is called by its name -/
structure FnAt (P : Program) (w : World) (K : Frag) (mg : Str → Option Value) (base : Heap) (k : Nat) (x : Str) (ps : List Str) (sp : Sp) : Prop where
  ex : ∃ f fd, FnOk P w K mg base CX0 k f fd ps sp ∧ Binds K fd ps [] ∧ mg x = some (.ref f) ∧ PySem.W.keepIn K (.ref f) = true
structure FgAt (P : Program) (w : World) (K : Frag) (mg : Str → Option Value) (base : Heap) (k : Nat) (x : Str) (ps : List Str) (sp : Sp) : Prop where
  ex : ∃ f fd, FnG P w K mg base CX0 k f fd ps sp ∧ Binds K fd ps [] ∧ mg x = some (.ref f) ∧ PySem.W.keepIn K (.ref f) = true
structure MtAt (P : Program) (w : World) (K : Frag) (mg : Str → Option Value) (base : Heap) (C : Addr) (k : Nat) (m : Str) (ps : List Str) (sp : Sp) : Prop where
  ex : ∃ f fd, FnOk P w K mg base CX0 k f fd ps sp ∧ Binds K fd ps [] ∧ Meth K C m f
structure MkAt (P : Program) (w : World) (K : Frag) (mg : Str → Option Value) (base : Heap) (C : Addr) (k : Nat) (ps : List Str) (sp : Sp) : Prop where
  ex : ∃ f fd, FnOk P w K mg base CX0 k f fd ps sp ∧ Binds K fd ps [] ∧ Mk K C f
/-- all that the law calls -/
structure Calls (P : Program) (w : World) (K : Frag) (mg : Str → Option Value) (base : Heap) (CS CR : Addr) : Prop where
  box : FnAt P w K mg base 2 "_law_box" ["_law_script", "_law_first", "_law_last"] (spBox K)
  draw : FnAt P w K mg base 1 "_law_draw" ["_law_box_here", "_law_many"] spDraw
  same : FgAt P w K mg base 1 "_law_same" ["_law_one", "_law_other"] (spSame K)
  pick : FnAt P w K mg base 2 "_law_pick" ["_law_box_here", "_law_row_here"] (spPick K)
  tgt : FnAt P w K mg base 1 "_law_target" ["_law_value"] (spTgt K)
  worth : FnAt P w K mg base 3 "_law_worth" ["_law_box_here", "_law_names"] (spWorth K)
  fld : FnAt P w K mg base 2 "_law_field" ["_law_box_here"] spFld
  cells : FnAt P w K mg base 1 "_law_cells" ["_law_changes"] (spCells P w K)
  lgraph : FnAt P w K mg base 3 "_law_graph" ["_law_cells_here", "_law_roots"] (spLGraph P w K)
  ref : FnAt P w K mg base 6 "_law_refused" ["_law_replica", "_law_name", "_law_field_here", "_law_value"] (spRef P w K CS CR)
  held : FnAt P w K mg base 6 "_law_held" ["_law_replica", "_law_name"] (spHeld P w K CS CR)
  make : MkAt P w K mg base CR 3 ["self", "peer"] (spRI P w K CS CR)
  begin : MtAt P w K mg base CR 1 "begin" ["self"] (spBegin P w K CS CR)
  drop : MtAt P w K mg base CR 1 "drop" ["self", "name"] (spDrop P w K CS CR)
  knows : MtAt P w K mg base CR 3 "knows" ["self", "name"] (spKnows P w K CS CR)
  graph : MtAt P w K mg base CR 5 "graph" ["self"] (spGraph P w K CS CR)
def spLaw (K : Frag) : Sp := fun vs H Q _ => ∃ (a : Addr) (ns : List Int), vs = [.ref a] ∧ SqL K H a (ns.map V.int) ∧ ∀ H', Q (.bl true) H'
def lawN : List Str := ["_law_script", "_law_box_here", "_law_peer", "_law_replica", "_law_known", "_law_roots", "_law_made", "_law_begun", "_law_turn", "_law_names", "_law_kind", "_law_name", "_law_due", "_law_field_here", "_law_value", "_law_told", "_law_wrong", "_law_change", "_law_cells_here", "_law_one"]
section
variable {P : Program} {w : World} {K : Frag} {mg : Str → Option Value} {base : Heap} {CS CR : Addr}
theorem scLaw : FnScope lawN ["_law_script"] (defScope sLaw) := ⟨rfl, rfl, rfl, by decide +kernel, rfl, by decide +kernel, by decide +kernel⟩
theorem ok_law {f : Addr} {fd : FuncData} (F : Fun K "law" "law" sLaw f fd) (T : Txt K mg CS CR) (C : Calls P w K mg base CS CR) : FnG P w K mg base CX0 8 f fd ["_law_script"] (spLaw K) := by
  obtain ⟨fB, dB, FB, bB, gB, kB⟩ := C.box.ex
  obtain ⟨fD, dD, FD, bD, gD, kD⟩ := C.draw.ex
  obtain ⟨fS, dS, FS, bS, gS, kS⟩ := C.same.ex
  obtain ⟨fP, dP, FP, bP, gP, kP⟩ := C.pick.ex
  obtain ⟨fT, dT, FT, bT, gT, kT⟩ := C.tgt.ex
  obtain ⟨fW, dW, FW, bW, gW, kW⟩ := C.worth.ex
  obtain ⟨fF, dF, FF, bF, gF, kF⟩ := C.fld.ex
  obtain ⟨fC, dC, FC, bC, gC, kC⟩ := C.cells.ex
  obtain ⟨fG, dG, FG, bG, gG, kG⟩ := C.lgraph.ex
  obtain ⟨fR, dR, FR, bR, gR, kR⟩ := C.ref.ex
  obtain ⟨fH, dH, FH, bH, gH, kH⟩ := C.held.ex
  obtain ⟨fI, dI, FI, bI, MI⟩ := C.make.ex
  obtain ⟨mB, eB, MB, cB, hB⟩ := C.begin.ex
  obtain ⟨mD, eD, MD, cD, hD⟩ := C.drop.ex
  obtain ⟨mK, eK, MK, cK, hK⟩ := C.knows.ex
  obtain ⟨mG, eG, MG, cG, hG⟩ := C.graph.ex
  refine fnG_of F scLaw (fun vs H Q E h => ?_) (fun cdv A outer s H vs Q E hr hgd h => ?_)
  · obtain ⟨a, ns, rfl, _⟩ := h
    rfl
  · obtain ⟨a, ns, rfl, hs, k⟩ := h
    have r1 : Room 1 _ := hr.mono (by decide)
    have r2 : Room 2 _ := hr.mono (by decide)
    have r3 : Room 3 _ := hr.mono (by decide)
    have r4 : Room 4 _ := hr.mono (by decide)
    have r5 : Room 5 _ := hr.mono (by decide)
    have r6 : Room 6 _ := hr.mono (by decide)
    have u65 := room65 hr
    have nd := scLaw.nd
    refine ⟨_, PSs.nox (pss_cons (ps_set (i := 1) nd rfl (Or.inl rfl) (pe_call FB r2 rfl gB kB bB .nil pass0 (pa_cons (pv 0) (pa_cons pe_int (pa_cons pe_int pa_nil)))))
      (pss_cons (ps_set (i := 2) nd rfl (Or.inl rfl) (pe_call FD r1 rfl gD kD bD .nil pass0 (pa_cons (pv 1) (pa_cons pe_int pa_nil))))
      (pss_cons (ps_set (i := 3) nd rfl (Or.inl rfl) (pe_make MI FI r4 rfl T.mgR bI .nil pass0 (pa_cons (pv 2) pa_nil)))
      (pss_cons (ps_set (i := 4) nd rfl (Or.inr rfl) (pe_lst (pa_cons (pe_tup (pa_cons pe_int (pa_cons pe_int pa_nil))) pa_nil)))
      (pss_cons (ps_set (i := 5) nd rfl (Or.inl rfl) (pe_lst (pa_cons (pe_tup (pa_cons pe_int (pa_cons pe_int pa_nil))) pa_nil)))
      (pss_cons (ps_set (i := 6) nd rfl (Or.inl rfl) (pe_lst pa_nil))
      (pss_cons (ps_set (i := 7) nd rfl (Or.inl rfl) (pe_callTy call_int1 (by rfl) T.int (by decide +kernel) (pa_cons (pe_cmpR op_eq (pv 2) pe_int (nomark _)) pa_nil)))
      (pss_cons (ps_for PassesOwn.never rfl (pi_range1 rfl T.range (pa_cons pe_int pa_nil)) (pg_name (i := 8) nd rfl (Or.inl rfl)) (pss_cons (ps_set (i := 9) nd rfl (Or.inl rfl) (pe_op op_cat (pv 4) (pe_lst (pa_cons (pe_tup (pa_cons (pv 2) (pa_cons (pe_op op_add (pv 7) pe_int) pa_nil))) (pa_cons (pe_tup (pa_cons (pe_op op_mod (pe_op op_add (pv 2) pe_int) pe_int) (pa_cons pe_int pa_nil))) pa_nil)))))
      (pss_cons (ps_set (i := 10) nd rfl (Or.inl rfl) (pe_call FD r1 rfl gD kD bD .nil pass0 (pa_cons (pv 1) (pa_cons pe_int pa_nil))))
      (pss_cons (ps_set (i := 11) nd rfl (Or.inr rfl) (pe_call FP r2 rfl gP kP bP .nil pass0 (pa_cons (pv 1) (pa_cons (pv 9) pa_nil))))
      (pss_cons (ps_if (pt_cmpR op_eq (pv 10) pe_int (nomark _)) (pss_cons (ps_if (pt_cmpR (op_neD hr.units) (pe_meth0 (pv 3) T.clR hB MB r1 cB .nil pass0) (pe_tup (pa_cons (pv 2) (pa_cons (pv 7) pa_nil))) (nomark _)) (pss_one (ps_ret pe_bl)) pss_nil)
      (pss_cons (ps_expr (pe_bm PySem.F.plainAttrs_list PySem.F.slot_list_append PySem.F.type_list_append mt_append (pv 4) (pa_cons (pe_tup (pa_cons (pv 2) (pa_cons (pv 7) pa_nil))) pa_nil)))
      (pss_one (ps_set (i := 7) nd rfl (Or.inl rfl) (pe_op op_add (pv 7) pe_int))))) (pss_one (ps_if (pt_cmpR op_eq (pv 10) pe_int (nomark _)) (pss_cons (ps_set (i := 12) nd rfl (Or.inl rfl) (pe_tup (pa_cons pe_str (pa_cons (pe_cmpR (op_notInD u65) (pv 11) (pv 5) (by rfl)) pa_nil))))
      (pss_cons (ps_if (pt_cmpR (op_notInD u65) (pv 11) (pv 4) (by rfl)) (pss_one (ps_set (i := 12) nd rfl (Or.inl rfl) (pe_tup (pa_cons pe_str (pa_cons (pv 11) pa_nil))))) pss_nil)
      (pss_cons (ps_if (pt_not (pt_val (pe_callG FS r1 hgd rfl gS kS bS pass0 (pa_cons (pe_call FH r6 rfl gH kH bH .nil pass0 (pa_cons (pv 3) (pa_cons (pv 11) pa_nil))) (pa_cons (pv 12) pa_nil))))) (pss_one (ps_ret pe_bl)) pss_nil)
      (pss_one (ps_if (pt_cmpR (op_eqD hr.units) (pv 12) (pe_tup (pa_cons pe_str (pa_cons pe_bl pa_nil))) (nomark _)) (pss_one (ps_expr (pe_bm PySem.F.plainAttrs_list PySem.F.slot_list_append PySem.F.type_list_append mt_append (pv 5) (pa_cons (pv 11) pa_nil)))) pss_nil))))) (pss_one (ps_if (pt_cmpR op_eq (pv 10) pe_int (nomark _)) (pss_cons (ps_if (pt_not (pt_val (pe_callG FS r1 hgd rfl gS kS bS pass0 (pa_cons (pe_meth (pv 3) T.clR hD MD r1 cD .nil pass0 (pa_cons (pv 11) pa_nil)) (pa_cons (pe_and (pe_cmpR (op_inD u65) (pv 11) (pv 5) (by rfl)) (pe_one (pe_cmpR (op_neD hr.units) (pv 11) (pe_tup (pa_cons pe_int (pa_cons pe_int pa_nil))) (nomark _)))) pa_nil))))) (pss_one (ps_ret pe_bl)) pss_nil)
      (pss_one (ps_setLc (i := 5) (own := [("_law_one", 19)]) (g := gName 19) (tt := ttR K) (te := tVar 19) rfl nd rfl rfl (sw_true rfl rfl rfl (by decide +kernel)) (pi_list (pv 5)) (blkOk_by (own := [("_law_one", 19)]) (N := lawN) (sc := defScope sLaw) (by decide +kernel)) (fun _ _ _ _ _ => pg_name (i := 19) nd rfl (Or.inl rfl)) (fun _ _ _ _ _ => by exact pts_one (PW.pt (pw_or (pt_cmpR (op_neD hr.units) (pv 19) (pv 11) (nomark _)) (pw_or1 (pt_cmpR (op_eqD hr.units) (pv 19) (pe_tup (pa_cons pe_int (pa_cons pe_int pa_nil))) (nomark _)))))) (fun _ _ _ _ _ => pv 19)))) (pss_cons (ps_set (i := 13) nd rfl (Or.inl rfl) (pe_call FF r2 rfl gF kF bF .nil pass0 (pa_cons (pv 1) pa_nil)))
      (pss_cons (ps_set (i := 14) nd rfl (Or.inl rfl) (pe_call FW r3 rfl gW kW bW .nil pass0 (pa_cons (pv 1) (pa_cons (pv 9) pa_nil))))
      (pss_cons (ps_set (i := 15) nd rfl (Or.inl rfl) (pe_call FR r6 rfl gR kR bR .nil pass0 (pa_cons (pv 3) (pa_cons (pv 11) (pa_cons (pv 13) (pa_cons (pv 14) pa_nil))))))
      (pss_cons (ps_setLc (i := 16) (own := [("_law_one", 19)]) (g := gName 19) (tt := ttW K) (te := tVar 19) rfl nd rfl rfl (sw_true rfl rfl rfl (by decide +kernel)) (pi_list (pe_lst (pa_cons (pv 11) (pa_cons (pe_call FT r1 rfl gT kT bT .nil pass0 (pa_cons (pv 14) pa_nil)) pa_nil)))) (blkOk_by (own := [("_law_one", 19)]) (N := lawN) (sc := defScope sLaw) (by decide +kernel)) (fun _ _ _ _ _ => pg_name (i := 19) nd rfl (Or.inl rfl)) (fun _ _ _ _ _ => by exact pts_one (PW.pt (pw_and (pt_cmp (pc_notN (pv 19)) rfl) (pw_and1 (pt_cmpR (op_notInD u65) (pv 19) (pv 4) (by rfl)))))) (fun _ _ _ _ _ => pv 19))
      (pss_one (ps_if (pt_truth (pv 16) (by intro _; rfl)) (pss_one (ps_if (pt_cmpR (op_neD hr.units) (pv 15) (pe_tup (pa_cons pe_str (pa_cons (pe_ix ix_list (pv 16) pe_int (fun _ _ => rfl)) pa_nil))) (nomark _)) (pss_one (ps_ret pe_bl)) pss_nil)) (pss_cons (ps_set (i := 17) nd rfl (Or.inl rfl) (pe_tup (pa_cons (pe_tup (pa_cons (pe_op op_add (pe_callB call_len_seq (by rfl) T.len (by decide +kernel) (pa_cons (pv 6) pa_nil)) pe_int) (pa_cons (pv 2) pa_nil))) (pa_cons (pv 11) (pa_cons (pv 13) (pa_cons (pv 14) pa_nil))))))
      (pss_cons (ps_if (pt_not (pt_val (pe_callG FS r1 hgd rfl gS kS bS pass0 (pa_cons (pv 15) (pa_cons (pe_tup (pa_cons pe_str (pa_cons (pv 17) pa_nil))) pa_nil))))) (pss_one (ps_ret pe_bl)) pss_nil)
      (pss_one (ps_expr (pe_bm PySem.F.plainAttrs_list PySem.F.slot_list_append PySem.F.type_list_append mt_append (pv 6) (pa_cons (pv 17) pa_nil)))))))))))))))))
      (pss_one (ps_if (pt_cmpR op_ne (pe_meth (pv 3) T.clR hK MK r3 cK .nil pass0 (pa_cons (pv 11) pa_nil)) (pe_cmpR (op_inD u65) (pv 11) (pv 4) (by rfl)) (nomark _)) (pss_one (ps_ret pe_bl)) pss_nil)))))))
      (pss_cons (ps_if (PW.pt (pw_or (pt_not (pt_val (pe_callG FS r1 hgd rfl gS kS bS pass0 (pa_cons (pe_fld (pv 3) rfl) (pa_cons (pv 6) pa_nil))))) (pw_or (pt_cmpR op_ne (pe_fld (pv 3) rfl) (pe_callB call_len_seq (by rfl) T.len (by decide +kernel) (pa_cons (pv 6) pa_nil)) (nomark _)) (pw_or1 (pt_cmpR (op_neD hr.units) (pe_fld (pv 3) rfl) (pv 5) (nomark _)))))) (pss_one (ps_ret pe_bl)) pss_nil)
      (pss_cons (ps_set (i := 18) nd rfl (Or.inl rfl) (pe_call FC r1 rfl gC kC bC .nil pass0 (pa_cons (pv 6) pa_nil)))
      (pss_one (ps_ret (pe_and (pe_cmpR (op_eqDN hr) (pe_fld (pe_fld (pv 3) rfl) rfl) (pv 18) (nomark _)) (pe_one (pe_cmpR (op_eqD hr.units) (pe_meth0 (pv 3) T.clR hG MG r5 cG .nil pass0) (pe_call FG r3 rfl gG kG bG .nil pass0 (pa_cons (pv 18) (pa_cons (pv 5) pa_nil))) (nomark _)))))))))))))))), ?_⟩
    -- the box, the peer
    refine ⟨_, rfl, a, ns, rfl, hs, fun H1 b q c1 hb hq hbq B => ?_⟩
    refine ⟨_, rfl, b, q, 8, 0, rfl, B, by decide, by decide, fun H2 p c2 B2 p0 p8 => ?_⟩
    -- the replica
    refine ⟨_, rfl, fun x dx hx hdx ndx => ?_⟩
    refine ⟨x, dx, p, rfl, upd_same, p0, p8, fun H3 ra hra c3 R hsa hd hrl hpl => ⟨rfl, ?_⟩⟩
    subst hra
    have cG : Ch [] H2 (upd (upd H2 dx (.own ra.r)) ra.r (.ins CR dx [])) := (Ch.new hdx).new_upd hx
    obtain ⟨bn, bj, hb1, hb2, hb3⟩ := B2.ex
    have hbr : b ≠ ra.r := ne_of_none hb1 hx
    have hqr : q ≠ ra.r := ne_of_none hb2 hx
    have B3 : BoxAt H3 b q 1 := (B2.ch cG).ch c3 (by simpa using hbr) (by simpa using hqr)
    have gb := cG _ _ (by simp) hb1
    have gq := cG _ _ (by simp) hb2
    have b1 : b ≠ ra.d := ne_of_none gb hd
    have b2 : b ≠ ra.rl := ne_of_none gb hrl
    have b3 : b ≠ ra.pl := ne_of_none gb hpl
    have b4 : b ≠ ra.sa := ne_of_none gb hsa
    have q1 : q ≠ ra.d := ne_of_none gq hd
    have q2 : q ≠ ra.rl := ne_of_none gq hrl
    have q3 : q ≠ ra.pl := ne_of_none gq hpl
    -- known, roots, made, begun
    refine ⟨(by show 2 ≤ sizeLine; decide), fun t1 ht1 => ⟨(by show 1 ≤ sizeLine; decide), fun l1 hl1 => ?_⟩⟩
    refine ⟨(by show 2 ≤ sizeLine; decide), fun t2 ht2 => ⟨(by show 1 ≤ sizeLine; decide), fun l2 hl2 => ?_⟩⟩
    refine ⟨by decide, fun l3 hl3 => ?_⟩
    have d1 : Ch [] H3 (upd H3 t1 (.tup [.int 0, .int 0])) := Ch.new ht1
    have d2 : Ch [] (upd H3 t1 (.tup [.int 0, .int 0])) (upd (upd H3 t1 (.tup [.int 0, .int 0])) l1 (.lst [.ref t1])) := Ch.new hl1
    have d3 : Ch [] (upd (upd H3 t1 (.tup [.int 0, .int 0])) l1 (.lst [.ref t1])) (upd (upd (upd H3 t1 (.tup [.int 0, .int 0])) l1 (.lst [.ref t1])) t2 (.tup [.int 0, .int 0])) := Ch.new ht2
    have d4 : Ch [] (upd (upd (upd H3 t1 (.tup [.int 0, .int 0])) l1 (.lst [.ref t1])) t2 (.tup [.int 0, .int 0])) (upd (upd (upd (upd H3 t1 (.tup [.int 0, .int 0])) l1 (.lst [.ref t1])) t2 (.tup [.int 0, .int 0])) l2 (.lst [.ref t2])) := Ch.new hl2
    have d5 : Ch [] (upd (upd (upd (upd H3 t1 (.tup [.int 0, .int 0])) l1 (.lst [.ref t1])) t2 (.tup [.int 0, .int 0])) l2 (.lst [.ref t2])) (upd (upd (upd (upd (upd H3 t1 (.tup [.int 0, .int 0])) l1 (.lst [.ref t1])) t2 (.tup [.int 0, .int 0])) l2 (.lst [.ref t2])) l3 (.lst [])) := Ch.new hl3
    have L0 : LawAt P w K CS CR (upd (upd (upd (upd (upd H3 t1 (.tup [.int 0, .int 0])) l1 (.lst [.ref t1])) t2 (.tup [.int 0, .int 0])) l2 (.lst [.ref t2])) l3 (.lst [])) ⟨b, q, l1, l2, l3, ra⟩ 1 ⟨p, if p = 0 then 1 else 0, [(0, 0)], [(0, 0)], []⟩ := by
      have d12345 := (((d1.trans d2).trans d3).trans d4).trans d5
      have n1 : ∀ x o, H3 x = some o → x ≠ l1 := fun x o e => ne_of_none (d1 _ _ (by simp) e) hl1
      have n2 : ∀ x o, H3 x = some o → x ≠ l2 := fun x o e => ne_of_none (((d1.trans d2).trans d3) _ _ (by simp) e) hl2
      have n3 : ∀ x o, H3 x = some o → x ≠ l3 := fun x o e => ne_of_none ((((d1.trans d2).trans d3).trans d4) _ _ (by simp) e) hl3
      obtain ⟨rdx, rml, g1⟩ := R.ob
      obtain ⟨rxs, S⟩ := R.st
      obtain ⟨rs, g3, _⟩ := R.ro
      obtain ⟨ps, g5, _⟩ := R.pe
      obtain ⟨_, _, e1, e2, _⟩ := B3.ex
      have l12 : l1 ≠ l2 := ne_of_none (d3 _ _ (by simp) upd_same) hl2
      have l13 : l1 ≠ l3 := ne_of_none ((d3.trans d4) _ _ (by simp) upd_same) hl3
      have l23 : l2 ≠ l3 := ne_of_none upd_same hl3
      refine ⟨B3.ch d12345, R.ch d12345, ⟨[.ref t1], ((d3.trans d4).trans d5) _ _ (by simp) upd_same, .cons ⟨t1, rfl, (((d2.trans d3).trans d4).trans d5).tk0 _ _ (.of upd_same)⟩ .nil⟩, ⟨[.ref t2], d5 _ _ (by simp) upd_same, .cons ⟨t2, rfl, (d4.trans d5).tk0 _ _ (.of upd_same)⟩ .nil⟩, ⟨[], upd_same, .nil⟩, ?_, b4⟩
      simp only [List.nodup_cons, List.mem_cons, List.not_mem_nil, or_false, not_or, List.nodup_nil, and_true]
      exact ⟨⟨hbq, n1 _ _ e1, n2 _ _ e1, n3 _ _ e1, hbr, b1, b2, b3⟩, ⟨n1 _ _ e2, n2 _ _ e2, n3 _ _ e2, hqr, q1, q2, q3⟩, ⟨l12, l13, Ne.symm (n1 _ _ g1), Ne.symm (n1 _ _ S.dc), Ne.symm (n1 _ _ g3), Ne.symm (n1 _ _ g5)⟩, ⟨l23, Ne.symm (n2 _ _ g1), Ne.symm (n2 _ _ S.dc), Ne.symm (n2 _ _ g3), Ne.symm (n2 _ _ g5)⟩,
        ⟨Ne.symm (n3 _ _ g1), Ne.symm (n3 _ _ S.dc), Ne.symm (n3 _ _ g3), Ne.symm (n3 _ _ g5)⟩, ⟨ne_of g1 S.dc (by intro z; cases z), ne_of g1 g3 (by intro z; cases z), ne_of g1 g5 (by intro z; cases z)⟩, ⟨ne_of S.dc g3 (by intro z; cases z), ne_of S.dc g5 (by intro z; cases z)⟩, R.ne, fun z => z⟩
    refine ⟨_, rfl, rfl, .inr ⟨_, rfl, ?_⟩⟩
    have hm : (if (decide (V.int p = V.int 0)) = true then (1 : Int) else 0) = if p = 0 then 1 else 0 := by
      by_cases z : p = 0
      · rw [z]
        simp
      · rw [if_neg z, if_neg (by simpa using z)]
    rw [hm]
    generalize upd (upd (upd (upd (upd H3 t1 (.tup [.int 0, .int 0])) l1 (.lst [.ref t1])) t2 (.tup [.int 0, .int 0])) l2 (.lst [.ref t2])) l3 (.lst []) = G0 at L0
    refine ⟨11, rfl, by decide, by decide, for_range (lo := 0) (n := 11) (fun i σ H' => ∃ (A : LA) (n : Nat) (s : LS) (o8 o9 o10 o11 o12 o13 o14 o15 o16 o17 : Option V),
      σ = [some (.ref a), some (.ref A.b), some (.int s.peer), some (.ref A.a.r), some (.ref A.kl), some (.ref A.ol), some (.ref A.ml), some (.int s.beg), o8, o9, o10, o11, o12, o13, o14, o15, o16, o17, none, none] ∧ LawAt P w K CS CR H' A n s ∧ LOk s i ∧ n ≤ 10 + 10 * i) ?_ ?_ ?_⟩
    · exact ⟨⟨b, q, l1, l2, l3, ra⟩, 1, _, none, none, none, none, none, none, none, none, none, none, rfl, L0, LOk.start p0 p8, by decide⟩
    · -- a turn
      rintro i σ H' hi ⟨A, n, s, o8, o9, o10, o11, o12, o13, o14, o15, o16, o17, rfl, L, O, hn⟩
      have hi11 : i ≤ 11 := by omega
      obtain ⟨kvs, hk1, hk2⟩ := L.kn
      have hkl := Paired.len' hk2
      refine ⟨_, rfl, _, rfl, _, rfl, _, _, rfl, rfl, (by show 2 ≤ sizeLine; decide), fun t1 ht1 => ?_⟩
      refine ⟨_, rfl, _, _, rfl, rfl, _, _, rfl, rfl, (by show (0 : Int) < 8; decide), (by show 2 ≤ sizeLine; decide), fun t2 ht2 => ?_⟩
      refine ⟨(by show 2 ≤ sizeLine; decide), fun l hl => ?_⟩
      have c1 : Ch [] H' (upd H' t1 (.tup [.int s.peer, .int (s.beg + 1)])) := Ch.new ht1
      have c2 : Ch [] (upd H' t1 (.tup [.int s.peer, .int (s.beg + 1)])) (upd (upd H' t1 (.tup [.int s.peer, .int (s.beg + 1)])) t2 (.tup [.int ((s.peer + 1) % 8), .int 3])) := Ch.new ht2
      have c3 : Ch [] (upd (upd H' t1 (.tup [.int s.peer, .int (s.beg + 1)])) t2 (.tup [.int ((s.peer + 1) % 8), .int 3])) (upd (upd (upd H' t1 (.tup [.int s.peer, .int (s.beg + 1)])) t2 (.tup [.int ((s.peer + 1) % 8), .int 3])) l (.lst [.ref t1, .ref t2])) := Ch.new hl
      have c13 := (c1.trans c2).trans c3
      refine ⟨A.kl, l, kvs, _, rfl, rfl, c13 _ _ (by simp) hk1, upd_same, ?_, fun nl hnl => ?_⟩
      · rw [hkl, sizeLine_eq]
        have := O.kl
        show s.known.length + 2 ≤ _
        omega
      have c4 : Ch [] (upd (upd (upd H' t1 (.tup [.int s.peer, .int (s.beg + 1)])) t2 (.tup [.int ((s.peer + 1) % 8), .int 3])) l (.lst [.ref t1, .ref t2])) (upd (upd (upd (upd H' t1 (.tup [.int s.peer, .int (s.beg + 1)])) t2 (.tup [.int ((s.peer + 1) % 8), .int 3])) l (.lst [.ref t1, .ref t2])) nl (.lst (kvs ++ [.ref t1, .ref t2]))) := Ch.new hnl
      have L1 := L.ch (c13.trans c4)
      have hnl1 : (upd (upd (upd (upd H' t1 (.tup [.int s.peer, .int (s.beg + 1)])) t2 (.tup [.int ((s.peer + 1) % 8), .int 3])) l (.lst [.ref t1, .ref t2])) nl (.lst (kvs ++ [.ref t1, .ref t2]))) nl = some (.lst (kvs ++ [.ref t1, .ref t2])) := upd_same
      have hns1 : NmsR K (upd (upd (upd (upd H' t1 (.tup [.int s.peer, .int (s.beg + 1)])) t2 (.tup [.int ((s.peer + 1) % 8), .int 3])) l (.lst [.ref t1, .ref t2])) nl (.lst (kvs ++ [.ref t1, .ref t2]))) (kvs ++ [.ref t1, .ref t2]) s.ns := by
        have h1 := hk2.tk (K := K) (c13.trans c4).tk0
        have h2 := Paired.snoc' h1 (show NmAt K _ (.ref t1) (s.peer, s.beg + 1) from ⟨t1, rfl, ((c2.trans c3).trans c4).tk0 _ _ (.of upd_same)⟩)
        have h3 := Paired.snoc' h2 (show NmAt K _ (.ref t2) ((s.peer + 1) % 8, 3) from ⟨t2, rfl, (c3.trans c4).tk0 _ _ (.of upd_same)⟩)
        rw [List.append_assoc, List.append_assoc] at h3
        exact h3
      have hnb : nl ≠ A.b := fun z => by
        obtain ⟨_, _, e, _⟩ := (L.ch c13).bx.ex
        rw [z, e] at hnl
        cases hnl
      have hne : kvs ++ [V.ref t1, V.ref t2] ≠ [] := by simp
      generalize upd (upd (upd (upd H' t1 (.tup [.int s.peer, .int (s.beg + 1)])) t2 (.tup [.int ((s.peer + 1) % 8), .int 3])) l (.lst [.ref t1, .ref t2])) nl (.lst (kvs ++ [.ref t1, .ref t2])) = H1 at L1 hnl1 hns1
      generalize kvs ++ [V.ref t1, V.ref t2] = nvs at hnl1 hns1 hne
      -- kind, name
      refine ⟨_, rfl, A.b, A.q, 7, n, rfl, L1.bx, by omega, by decide, fun H2 kd e2 B2 k0 k7 => ?_⟩
      have L2 := L1.draw e2 B2
      have hnl2 := e2 _ _ (by simpa using hnb) hnl1
      have hns2 := hns1.tk (L1.tk e2)
      refine ⟨_, rfl, _, rfl, A.b, A.q, nl, n + 1, nvs, rfl, L2.bx, by omega, .of hnl2, hne, hnb, fun H3 nv e3 B3 hnv => ?_⟩
      have L3 := L2.draw e3 B3
      have hnl3 := e3 _ _ (by simpa using hnb) hnl2
      have hns3 := hns2.tk (L2.tk e3)
      obtain ⟨nm, hnm, hnv⟩ := Paired.memL' hns3 hnv
      have smn := O.nsm hi11 hnm
      have hnm0 : 0 ≤ nm.2 := smn.2.2.1
      have hN : n + 1 + 1 ≤ 10 + 10 * (i + 1) := by omega
      obtain ⟨dx, ml, ho⟩ := L3.rp.ob
      refine ⟨_, rfl, rfl, _, rfl, ?_⟩
      refine ite2 (fun _ => ?_) (fun _ => ?_)
      · -- begin
        refine ⟨_, rfl, A.a.r, dx, _, rfl, ho, rfl, A.a, s.rs, rfl, L3.rp, fun H4 v e4 R4 hv => ?_⟩
        have M4 := L3.rep e4 R4
        refine ⟨_, rfl, _, rfl, (by show 2 ≤ sizeLine; decide), fun t ht => ?_⟩
        have e5 : Ch [] H4 (upd H4 t (.tup [.int s.peer, .int s.beg])) := Ch.new ht
        have htn : NmAt K (upd H4 t (.tup [.int s.peer, .int s.beg])) (.ref t) (s.peer, s.beg) := ⟨t, rfl, .of upd_same⟩
        refine ⟨nmD (s.peer, s.beg), nmD (s.peer, s.beg), (hv.tk e5.tk0).dp, htn.dp, shaped_nm _, shaped_nm _, _, rfl, ?_⟩
        rw [eqv_nm, decide_eq_true rfl]
        refine iteF ?_
        have M5 := M4.ch e5
        obtain ⟨ks, hks, hkn⟩ := M5.kn
        refine ⟨_, rfl, .inl ⟨rfl, _, .of hks⟩, _, rfl, _, rfl, (by show 2 ≤ sizeLine; decide), fun t2 ht2 => ?_⟩
        have e6 : Ch [] (upd H4 t (.tup [.int s.peer, .int s.beg])) (upd (upd H4 t (.tup [.int s.peer, .int s.beg])) t2 (.tup [.int s.peer, .int s.beg])) := Ch.new ht2
        have M6 := M5.ch e6
        have hks6 := e6 _ _ (by simp) hks
        refine ⟨A.kl, ks, .ref t2, rfl, rfl, hks6, ?_, ?_⟩
        · rw [Paired.len' hkn]
          exact small1000 (by have := O.kl; omega)
        · have L7 := M6.apK hks6 (show NmAt K _ (.ref t2) (s.peer, s.beg) from ⟨t2, rfl, .of upd_same⟩) rfl
          have hnv7 : NmAt K _ nv nm := ((((hnv.tk (L3.rp.tk e4)).tk e5.tk0).tk e6.tk0).tk (TK.upd (o := .lst (ks ++ [.ref t2])) (NoTup.lst hks6)))
          refine ⟨_, rfl, _, _, rfl, rfl, ?_⟩
          exact know_end rfl rfl rfl L7 O.begin (by omega) hnv7 hnm0 fun H8 e8 => ⟨A, n + 1 + 1, s.begin, _, _, _, _, _, _, _, _, _, _, rfl, L7.ch e8, O.begin, hN⟩
      refine ⟨_, rfl, rfl, _, rfl, ?_⟩
      refine ite2 (fun _ => ?_) (fun _ => ?_)
      · -- hold
        obtain ⟨ovs, ho1, ho2⟩ := L3.ro
        obtain ⟨ks, hk3, hk4⟩ := L3.kn
        refine ⟨_, rfl, _, rfl, nmD nm, s.roots.map nmD, hnv.dp, .lst (.of ho1) ho2.dp, shaped_nm _, shaped_nms _, (by show 2 ≤ sizeLine; decide), fun t ht => ?_⟩
        rw [any_nms]
        have e4 : Ch [] H3 (upd H3 t (.tup [.str "told", .bl (!decide (nm ∈ s.roots))])) := Ch.new ht
        have hdue : Dp K (upd H3 t (.tup [.str "told", .bl (!decide (nm ∈ s.roots))])) (.ref t) (.tuple [.str "told", .bool (!decide (nm ∈ s.roots))]) := .tup (.of upd_same) (.cons (.str _) (.cons (.bl _) .nil))
        have L4 := L3.ch e4
        have hnv4 := hnv.tk (e4.tk0 (K := K))
        generalize upd H3 t (.tup [.str "told", .bl (!decide (nm ∈ s.roots))]) = H4 at e4 hdue L4 hnv4
        obtain ⟨dx4, ml4, ho4⟩ := L4.rp.ob
        refine ⟨_, rfl, _, rfl, nmD nm, s.known.map nmD, hnv4.dp, .lst (.of (e4 _ _ (by simp) hk3)) (hk4.tk e4.tk0).dp, shaped_nm _, shaped_nms _, _, rfl, ?_⟩
        rw [any_nms]
        by_cases ck : nm ∈ s.known
        · rw [decide_eq_true ck]
          refine iteF ?_
          have hkn : kn s.rs nm = true := by rw [O.knows hnm0, decide_eq_true ck]
          refine ⟨_, rfl, _, rfl, A.a, s.rs, nv, nm, rfl, L4.rp, O.sok hi11, hnv4, smn, fun z => absurd (z.symm.trans hkn) (by decide), fun _ H5 v e5 R5 hdp => ?_⟩
          have M5 := L4.rep e5 R5
          have t5 := L4.rp.tk e5
          obtain ⟨av, rfl⟩ := dp_ref hdp
          have hdue5 : Dp K H5 (.ref t) (.tuple [.str "told", .bool (!decide (nm ∈ s.roots))]) := by
            cases hdue with
            | tup g1 g2 =>
              cases g2 with
              | cons g3 g4 =>
                cases g3
                cases g4 with
                | cons g5 g6 =>
                  cases g5
                  cases g6
                  exact .tup (t5 _ _ g1) (.cons (.str _) (.cons (.bl _) .nil))
          refine ⟨_, rfl, .ref av, .ref t, _, rfl, hdp, hdue5, .inr ⟨⟨_, rfl⟩, _, rfl⟩, (Lf.toldB _).shw (by decide) (by decide), _, rfl, ?_⟩
          refine iteF ?_
          refine ⟨_, rfl, (by show 2 ≤ sizeLine; decide), fun t2 ht2 => ?_⟩
          have e6 : Ch [] H5 (upd H5 t2 (.tup [.str "told", .bl true])) := Ch.new ht2
          have M6 := M5.ch e6
          have hnv6 := (hnv4.tk t5).tk (e6.tk0 (K := K))
          have htt : Dp K (upd H5 t2 (.tup [.str "told", .bl true])) (.ref t2) (.tuple [.str "told", .bool true]) := .tup (.of upd_same) (.cons (.str _) (.cons (.bl _) .nil))
          refine ⟨_, _, dp_ch e6 _ _ hdue5, htt, (Lf.toldB _).shaped (by decide), (Lf.toldB _).shaped (by decide), _, rfl, ?_⟩
          have ev : PyData.eqv (.tuple [.str "told", .bool (!decide (nm ∈ s.roots))]) (.tuple [.str "told", .bool true]) = !decide (nm ∈ s.roots) := by
            simp [PyData.eqv, PyData.eqvAll]
          rw [ev]
          by_cases cr : nm ∈ s.roots
          · rw [decide_eq_true cr]
            refine iteF ?_
            have hs : ({ s.rs with roots := addN s.roots nm } : RS) = s.rs := by
              rw [addN_old cr]
              rfl
            have R6 : RepAt P w K CS CR _ A.a s.rs := hs ▸ M6.rp
            have L6 : LawAt P w K CS CR _ A (n + 1 + 1) s := ⟨M6.bx, R6, M6.kn, M6.ro, M6.md, M6.nd, M6.sa⟩
            exact know_end rfl rfl rfl L6 O.next (by omega) hnv6 hnm0 fun H8 e8 => ⟨A, n + 1 + 1, s, _, _, _, _, _, _, _, _, _, _, rfl, L6.ch e8, O.next, hN⟩
          · rw [decide_eq_false cr]
            refine iteT ?_
            obtain ⟨os, hos, hoss⟩ := M6.ro
            refine ⟨_, rfl, .inl ⟨rfl, _, .of hos⟩, _, rfl, A.ol, os, nv, rfl, rfl, hos, ?_, ?_⟩
            · rw [Paired.len' hoss]
              exact small1000 (by have := O.rl; omega)
            · have hs : ({ s with roots := s.roots ++ [nm] } : LS).rs = { s.rs with roots := addN s.roots nm } := by
                unfold addN
                rw [if_neg cr]
                rfl
              have L7 := M6.apR hos hnv6 hs
              have hnv7 := hnv6.tk (TK.upd (K := K) (o := .lst (os ++ [nv])) (NoTup.lst hos))
              have O7 := O.hold nm
              unfold addN at O7
              rw [if_neg cr] at O7
              exact know_end rfl rfl rfl L7 O7 (by omega) hnv7 hnm0 fun H8 e8 => ⟨A, n + 1 + 1, { s with roots := s.roots ++ [nm] }, _, _, _, _, _, _, _, _, _, _, rfl, L7.ch e8, O7, hN⟩
        · rw [decide_eq_false ck]
          refine iteT ?_
          refine ⟨_, rfl, (by show 2 ≤ sizeLine; decide), fun t2 ht2 => ?_⟩
          have e5 : Ch [] H4 (upd H4 t2 (.tup [.str "unknown", nv])) := Ch.new ht2
          have L5 := L4.ch e5
          have hnv5 := hnv4.tk (e5.tk0 (K := K))
          have hun : Dp K (upd H4 t2 (.tup [.str "unknown", nv])) (.ref t2) (.tuple [.str "unknown", nmD nm]) := .tup (.of upd_same) (.cons (.str _) (.cons hnv5.dp .nil))
          generalize upd H4 t2 (.tup [.str "unknown", nv]) = H5 at e5 L5 hnv5 hun
          have hkn : kn s.rs nm = false := by rw [O.knows hnm0, decide_eq_false ck]
          refine ⟨_, rfl, _, rfl, A.a, s.rs, nv, nm, rfl, L5.rp, O.sok hi11, hnv5, smn, fun _ H6 v e6 hdp => ?_, fun z => absurd (z.symm.trans hkn) (by decide)⟩
          obtain ⟨av, rfl⟩ := dp_ref hdp
          have hun6 := dp_ch e6 _ _ hun
          refine ⟨_, rfl, .ref av, .ref t2, _, rfl, hdp, hun6, .inr ⟨⟨_, rfl⟩, _, rfl⟩, (Lf.unk smn).shw (by decide) (by decide), _, rfl, ?_⟩
          refine iteF ?_
          refine ⟨_, rfl, (by show 2 ≤ sizeLine; decide), fun t3 ht3 => ?_⟩
          have e7 : Ch [] H6 (upd H6 t3 (.tup [.str "told", .bl true])) := Ch.new ht3
          have htt : Dp K (upd H6 t3 (.tup [.str "told", .bl true])) (.ref t3) (.tuple [.str "told", .bool true]) := .tup (.of upd_same) (.cons (.str _) (.cons (.bl _) .nil))
          refine ⟨_, _, dp_ch e7 _ _ hun6, htt, (Lf.unk smn).shaped (by decide), (Lf.toldB _).shaped (by decide), _, rfl, ?_⟩
          have ev : PyData.eqv (.tuple [.str "unknown", nmD nm]) (.tuple [.str "told", .bool true]) = false := by
            have e : ((("unknown" : Str)) == ("told" : Str)) = false := by decide +kernel
            simp only [PyData.eqv, PyData.eqvAll, e, Bool.false_and]
          rw [ev]
          refine iteF ?_
          have L7 := (L5.ch e6).ch e7
          exact know_end rfl rfl rfl L7 O.next (by omega) ((hnv5.tk e6.tk0).tk e7.tk0) hnm0 fun H8 e8 => ⟨A, n + 1 + 1, s, _, _, _, _, _, _, _, _, _, _, rfl, L7.ch e8, O.next, hN⟩
      refine ⟨_, rfl, rfl, _, rfl, ?_⟩
      refine ite2 (fun _ => ?_) (fun _ => ?_)
      · -- drop
        obtain ⟨ovs, ho1, ho2⟩ := L3.ro
        refine ⟨_, rfl, A.a.r, dx, _, rfl, ho, rfl, _, rfl, A.a, s.rs, nv, nm, rfl, L3.rp, O.rn, hnv, fun H4 e4 R4 => ?_⟩
        have M4 := L3.rep e4 R4
        have t4 := L3.rp.tk e4
        have hnv4 := hnv.tk t4
        obtain ⟨os, hos, hoss⟩ := M4.ro
        -- behind the test: the roots in a new list
        have fin : ∀ H5, Ch [] H4 H5 → LawMid P w K CS CR H5 A (n + 1 + 1) s { s.rs with roots := dropR s.roots nm } → tAsg (tLc (iList K (tVar 5)) (gName 19) (ttR K) (tVar 19) [19]) (gName 5)
            { nx := tKnow P w K CS CR (fun _ _ _ => False) { nx := fun σ H => ∃ (A : LA) (n : Nat) (s : LS) (o8 o9 o10 o11 o12 o13 o14 o15 o16 o17 : Option V),
                σ = [some (.ref a), some (.ref A.b), some (.int s.peer), some (.ref A.a.r), some (.ref A.kl), some (.ref A.ol), some (.ref A.ml), some (.int s.beg), o8, o9, o10, o11, o12, o13, o14, o15, o16, o17, none, none] ∧ LawAt P w K CS CR H A n s ∧ LOk s (i + 1) ∧ n ≤ 10 + 10 * (i + 1), rt := Q }, rt := Q }
            [some (.ref a), some (.ref A.b), some (.int s.peer), some (.ref A.a.r), some (.ref A.kl), some (.ref A.ol), some (.ref A.ml), some (.int s.beg), some (.int (0 + (i : Nat))), some (.ref nl), some (.int kd), some nv, o12, o13, o14, o15, o16, o17, none, none] H5 := fun H5 e5 M5 => by
          obtain ⟨os5, hos5, hoss5⟩ := M5.ro
          refine roots_read hos5 hoss5 (by have := O.rl; omega) (hnv4.tk e5.tk0) fun H6 D acc e6 hD hacc hA => ?_
          have M6 := M5.ch e6
          obtain ⟨ks, hk6, _⟩ := M5.kn
          obtain ⟨ms, hm6, _⟩ := M5.md
          obtain ⟨bn', bj', hb6, hq6, _⟩ := M5.bx.ex
          have nD : ∀ x o, H5 x = some o → D ≠ x := fun x o e => Ne.symm (ne_of_none e hD)
          have nM : D ∉ A.a.M := by
            obtain ⟨dx5, ml5, g1⟩ := M5.rp.ob
            obtain ⟨xs5, S5⟩ := M5.rp.st
            obtain ⟨rs5, g3, _⟩ := M5.rp.ro
            obtain ⟨ps5, g5, _⟩ := M5.rp.pe
            simp only [RA.M, List.mem_cons, List.not_mem_nil, or_false, not_or]
            exact ⟨nD _ _ g1, nD _ _ S5.dc, nD _ _ g3, nD _ _ g5⟩
          have L7 : LawAt P w K CS CR H6 { A with ol := D } (n + 1 + 1) { s with roots := dropR s.roots nm } := M6.newR hacc hA rfl (nD _ _ hb6) (nD _ _ hq6) (nD _ _ hk6) (nD _ _ hm6) nM
          have O7 := O.drop nm
          exact know_end (A := { A with ol := D }) rfl rfl rfl L7 O7 (by omega) ((hnv4.tk e5.tk0).tk e6.tk0) hnm0 fun H8 e8 => ⟨{ A with ol := D }, n + 1 + 1, { s with roots := dropR s.roots nm }, _, _, _, _, _, _, _, _, _, _, rfl, L7.ch e8, O7, hN⟩
        have shb : ∀ b : Bool, Shw (.bool b) := fun b => (Lf.bool b).shw (by decide) (by decide)
        refine ⟨_, rfl, _, rfl, nmD nm, s.roots.map nmD, hnv4.dp, .lst (.of hos) hoss.dp, shaped_nm _, shaped_nms _, _, rfl, ?_⟩
        rw [any_nms]
        by_cases cr : nm ∈ s.roots
        · rw [decide_eq_true cr]
          refine iteT ?_
          refine ⟨_, rfl, (by show 2 ≤ sizeLine; decide), fun t ht => ?_⟩
          have e5 : Ch [] H4 (upd H4 t (.tup [.int 0, .int 0])) := Ch.new ht
          have hz : NmAt K (upd H4 t (.tup [.int 0, .int 0])) (.ref t) (0, 0) := ⟨t, rfl, .of upd_same⟩
          refine ⟨nmD nm, nmD (0, 0), (hnv4.tk e5.tk0).dp, hz.dp, shaped_nm _, shaped_nm _, ?_⟩
          have e0 : (!PyData.eqv (nmD nm) (nmD (0, 0))) = decide (nm ≠ (0, 0)) := by
            rw [eqv_nm]
            by_cases z : nm = (0, 0)
            · rw [decide_eq_true z, decide_eq_false (fun q => q z)]
              rfl
            · rw [decide_eq_false z, decide_eq_true z]
              rfl
          rw [e0]
          refine ⟨_, _, .bool (true && decide (nm ≠ (0, 0))), rfl, ?_, ?_, .inl ⟨_, rfl⟩, shb _, _, rfl, ?_⟩
          · show Dp K _ (V.bl (decide (nm ∈ s.roots) && decide (nm ≠ (0, 0)))) _
            rw [decide_eq_true cr]
            exact .bl _
          · exact .bl _
          · refine iteF ?_
            exact fin _ e5 (M4.ch e5)
        · rw [decide_eq_false cr]
          refine iteF ?_
          refine ⟨_, _, .bool (false && decide (nm ≠ (0, 0))), rfl, ?_, ?_, .inl ⟨_, rfl⟩, shb _, _, rfl, ?_⟩
          · show Dp K _ (V.bl (decide (nm ∈ s.roots) && decide (nm ≠ (0, 0)))) _
            rw [decide_eq_false cr]
            exact .bl _
          · exact .bl _
          · refine iteF ?_
            exact fin _ (Ch.refl _ _) M4
      -- put
      refine ⟨_, rfl, A.b, A.q, n + 1 + 1, rfl, L3.bx, by omega, fun H4 fl e4 B4 hfl => ?_⟩
      have L4 := L3.draw e4 B4
      have t4 := L3.tk e4
      refine ⟨_, rfl, _, rfl, A.b, A.q, nl, n + 1 + 1 + 1, nvs, s.ns, rfl, L4.bx, by omega, .of (e4 _ _ (by simpa using hnb) hnl3), hns3.tk t4, hne, hnb, fun H5 vv x e5 B5 hvv hwx => ?_⟩
      have L5 := L4.draw e5 B5
      have hnv5 := (hnv.tk t4).tk (L4.tk e5)
      have hN5 : n + 1 + 1 + 1 + 2 ≤ 10 + 10 * (i + 1) := by omega
      have plf : Pl fl := by
        simp only [List.mem_cons, List.not_mem_nil, or_false] at hfl
        rcases hfl with rfl | rfl | rfl | rfl <;> exact ⟨by decide +kernel, by decide +kernel⟩
      have smx : SmV x := by
        cases x with
        | non => trivial
        | int z => exact ⟨by have := hwx.1; omega, by have := hwx.2; omega⟩
        | txt z =>
          have hz : z ∈ (["", "a", "zb", "sea"] : List Str) := hwx
          simp only [List.mem_cons, List.not_mem_nil, or_false] at hz
          show Pl z
          rcases hz with rfl | rfl | rfl | rfl <;> exact ⟨by decide +kernel, by decide +kernel⟩
        | ref m => exact O.nsm hi11 hwx
      have smt : ∀ t, tgt x = some t → Sm t := fun t ht => by
        cases x with
        | ref m =>
          cases ht
          exact smx
        | non => cases ht
        | int z => cases ht
        | txt z => cases ht
      have wq := wrong_eq O hnm0 (x := x) fun t ht => (smt t ht).2.2.1
      refine ⟨_, rfl, _, rfl, _, rfl, _, rfl, A.a, s.rs, nv, nm, fl, vv, x, rfl, L5.rp, O.sok hi11, hnv5, hvv, smn, smt, fun m hw H6 v e6 hdp => ?_, fun hw H6 v e6 R6 hdp => ?_⟩
      · -- refused
        have L6 := L5.ch e6
        obtain ⟨ks, hk1, hk2⟩ := L6.kn
        refine ⟨_, rfl, _, rfl, vv, x, rfl, hvv.tk e6.tk0, fun t ht => ⟨(by show 2 ≤ sizeLine; decide), fun q2 hq2 => ⟨q2, rfl, ⟨_, .of upd_same⟩, fun D hD => wrong_core hk1 hk2 (hnv5.tk e6.tk0) ht hq2 hD fun H7 acc e7 hacc hA => ?_⟩⟩⟩
        have L7 := L6.ch e7
        rw [hw] at wq
        obtain ⟨r, hbad⟩ : ∃ r, bad s.known nm x = m :: r := by
          cases hb : bad s.known nm x with
          | nil =>
            rw [hb] at wq
            cases wq
          | cons z r =>
            rw [hb] at wq
            cases wq
            exact ⟨r, rfl⟩
        rw [hbad] at hA
        cases hA with
        | cons h1 h2 =>
          rename_i y ys
          refine ⟨_, rfl, true, .inl ⟨y :: ys, .of hacc, rfl⟩, ?_⟩
          refine iteT ?_
          refine ⟨_, rfl, _, rfl, D, _, _, y, rfl, rfl, .of hacc, atI_nat (j := 0) rfl, (by show 2 ≤ sizeLine; decide), fun t ht => ?_⟩
          have e8 : Ch [] H7 (upd H7 t (.tup [.str "unknown", y])) := Ch.new ht
          have hun : Dp K (upd H7 t (.tup [.str "unknown", y])) (.ref t) (.tuple [.str "unknown", nmD m]) := .tup (.of upd_same) (.cons (.str _) (.cons (h1.tk e8.tk0).dp .nil))
          have smm : Sm m := by
            have hm : m ∈ bad s.known nm x := by rw [hbad]; exact List.mem_cons_self
            have hm2 := (List.mem_filter.mp hm).1
            rcases List.mem_append.mp hm2 with q | q
            · rw [List.mem_singleton] at q
              rw [q]
              exact smn
            · exact smt m (by simpa using q)
          refine ⟨_, _, dp_ch (e7.trans e8) _ _ hdp, hun, (Lf.unk smm).shaped (by decide), (Lf.unk smm).shaped (by decide), _, rfl, ?_⟩
          rw [eqv_same ((Lf.unk smm).shaped (by decide))]
          refine iteF ?_
          have L8 := L7.ch e8
          exact know_end rfl rfl rfl L8 O.next (by omega) (((hnv5.tk e6.tk0).tk e7.tk0).tk e8.tk0) hnm0 fun H9 e9 => ⟨A, n + 1 + 1 + 1 + 2, s, _, _, _, _, _, _, _, _, _, _, rfl, L8.ch e9, O.next, hN5⟩
      · -- told
        have M6 := L5.rep e6 R6
        have t6 := L5.rp.tk e6
        obtain ⟨ks, hk1, hk2⟩ := M6.kn
        refine ⟨_, rfl, _, rfl, vv, x, rfl, hvv.tk t6, fun t ht => ⟨(by show 2 ≤ sizeLine; decide), fun q2 hq2 => ⟨q2, rfl, ⟨_, .of upd_same⟩, fun D hD => wrong_core hk1 hk2 (hnv5.tk t6) ht hq2 hD fun H7 acc e7 hacc hA => ?_⟩⟩⟩
        have M7 := M6.ch e7
        rw [hw] at wq
        have hbad : bad s.known nm x = [] := by
          cases hb : bad s.known nm x with
          | nil => rfl
          | cons z r =>
            rw [hb] at wq
            cases wq
        rw [hbad] at hA
        cases hA
        have known : ∀ m, m ∈ [nm] ++ (tgt x).toList → m ∈ s.known := fun m hm => by
          by_cases z : m ∈ s.known
          · exact z
          · have : m ∈ bad s.known nm x := List.mem_filter.mpr ⟨hm, decide_eq_true z⟩
            rw [hbad] at this
            cases this
        refine ⟨_, rfl, false, .inl ⟨[], .of hacc, rfl⟩, ?_⟩
        refine iteF ?_
        obtain ⟨ms, hm1, hm2⟩ := M7.md
        have hml : ms.length = s.made.length := Paired.len' hm2
        refine ⟨_, rfl, A.ml, ms, rfl, .inl (.of hm1), _, _, rfl, rfl, _, rfl, (by show 2 ≤ sizeLine; decide), fun t1 ht1 => ?_⟩
        refine ⟨_, rfl, _, rfl, _, rfl, (by show 4 ≤ sizeLine; decide), fun t2 ht2 => ?_⟩
        rw [hml] at ht2 ⊢
        have e8 : Ch [] H7 (upd H7 t1 (.tup [.int ((s.made.length : Nat) + 1), .int s.peer])) := Ch.new ht1
        have e9 : Ch [] (upd H7 t1 (.tup [.int ((s.made.length : Nat) + 1), .int s.peer])) (upd (upd H7 t1 (.tup [.int ((s.made.length : Nat) + 1), .int s.peer])) t2 (.tup [.ref t1, nv, .str fl, vv])) := Ch.new ht2
        have e89 := e8.trans e9
        have t79 : TK K H5 _ := (t6.trans e7.tk0).trans e89.tk0
        have hch : ChAt K (upd (upd H7 t1 (.tup [.int ((s.made.length : Nat) + 1), .int s.peer])) t2 (.tup [.ref t1, nv, .str fl, vv])) (.ref t2) (s.chg nm fl x) :=
          ⟨t2, .ref t1, nv, vv, rfl, .of upd_same, ⟨t1, rfl, e9.tk0 _ _ (.of upd_same)⟩, hnv5.tk t79, hvv.tk t79⟩
        have M9 := M7.ch e89
        have hm9 := e89 _ _ (by simp) hm1
        have hdp9 := dp_ch (e7.trans e89) _ _ hdp
        have hnv9 := hnv5.tk t79
        have smg := O.chg hi11 smn plf smx
        obtain ⟨av, rfl⟩ := dp_ref hdp
        refine ⟨_, rfl, _, rfl, (by show 2 ≤ sizeLine; decide), fun t3 ht3 => ?_⟩
        have e10 : Ch [] (upd (upd H7 t1 (.tup [.int ((s.made.length : Nat) + 1), .int s.peer])) t2 (.tup [.ref t1, nv, .str fl, vv])) (upd (upd (upd H7 t1 (.tup [.int ((s.made.length : Nat) + 1), .int s.peer])) t2 (.tup [.ref t1, nv, .str fl, vv])) t3 (.tup [.str "told", .ref t2])) := Ch.new ht3
        have hch10 := hch.tk (e10.tk0 (K := K))
        have hto : Dp K (upd (upd (upd H7 t1 (.tup [.int ((s.made.length : Nat) + 1), .int s.peer])) t2 (.tup [.ref t1, nv, .str fl, vv])) t3 (.tup [.str "told", .ref t2])) (.ref t3) (.tuple [.str "told", chD (s.chg nm fl x)]) := .tup (.of upd_same) (.cons (.str _) (.cons hch10.dp .nil))
        refine ⟨.ref av, .ref t3, _, rfl, dp_ch e10 _ _ hdp9, hto, .inr ⟨⟨_, rfl⟩, _, rfl⟩, (Lf.toldC smg).shw (by decide) (by decide), _, rfl, ?_⟩
        refine iteF ?_
        have M10 := M9.ch e10
        have hm10 := e10 _ _ (by simp) hm9
        refine ⟨_, rfl, .inl ⟨rfl, _, .of hm10⟩, _, rfl, A.ml, ms, .ref t2, rfl, rfl, hm10, ?_, ?_⟩
        · rw [hml]
          exact small1000 (by have := O.ml; omega)
        · have L11 := M10.apM hm10 hch10 (LS.put_rs s nm fl x)
          have hnv11 := (hnv9.tk (e10.tk0 (K := K))).tk (TK.upd (K := K) (o := .lst (ms ++ [.ref t2])) (NoTup.lst hm10))
          have O11 : LOk (s.put nm fl x) (i + 1) := O.put hi11 (known nm (by simp)) plf smx fun t ht => known t (by simp [ht])
          exact know_end (s := s.put nm fl x) rfl rfl rfl L11 O11 (by omega) hnv11 hnm0 fun H12 e12 => ⟨A, n + 1 + 1 + 1 + 2, s.put nm fl x, _, _, _, _, _, _, _, _, _, _, rfl, L11.ch e12, O11, hN5⟩
    · -- the end
      rintro σ H' ⟨A, n, s, o8, o9, o10, o11, o12, o13, o14, o15, o16, o17, rfl, L, O, hn⟩
      obtain ⟨dx, ml, ho⟩ := L.rp.ob
      obtain ⟨ps, hp1, hp2⟩ := L.rp.pe
      obtain ⟨ms, hm1, hm2⟩ := L.md
      obtain ⟨rs, hr1, hr2⟩ := L.rp.ro
      obtain ⟨os, ho1, ho2⟩ := L.ro
      have hml : ms.length = s.made.length := Paired.len' hm2
      have dp1 : Dp K H' (.ref A.a.pl) (.list (s.made.map chD)) := .lst (.of hp1) (dpAll_of (fun _ _ z => z.dp) hp2)
      have dp2 : Dp K H' (.ref A.ml) (.list (s.made.map chD)) := .lst (.of hm1) (dpAll_of (fun _ _ z => z.dp) hm2)
      have shp : Shw (.list (s.made.map chD)) := ((Lf.chs O.ms).lst).shw (by have := O.ml; omega) (by decide)
      -- pending, clock, roots
      refine ⟨_, rfl, A.a.r, CR, dx, _, _, rfl, ho, T.clR, T.nPending, rfl, _, rfl, .ref A.a.pl, .ref A.ml, _, rfl, dp1, dp2, .inr ⟨⟨_, rfl⟩, _, rfl⟩, shp, _, rfl, ?_⟩
      refine iteF ?_
      refine ⟨_, rfl, A.a.r, CR, dx, _, _, rfl, ho, T.clR, T.nClock, rfl, _, rfl, A.ml, ms, rfl, .inl (.of hm1), rfl, _, rfl, ?_⟩
      rw [hml, decide_eq_true (show V.int s.rs.clk = V.int ((s.made.length : Nat) : Int) from rfl)]
      refine iteF ?_
      refine ⟨_, rfl, A.a.r, CR, dx, _, _, rfl, ho, T.clR, T.nRoots, rfl, _, rfl, .list (s.roots.map nmD), .list (s.roots.map nmD), .lst (.of hr1) hr2.dp, .lst (.of ho1) ho2.dp, shaped_nms _, shaped_nms _, _, rfl, ?_⟩
      rw [eqv_same (shaped_nms _)]
      refine iteF ?_
      -- the law's own table
      refine ⟨_, rfl, A.ml, ms, s.made, rfl, .of hm1, hm2, by have := O.ml; omega, fun H1 p2 ys e1 hp hys => ?_⟩
      have L1 := L.ch e1
      obtain ⟨dx1, ml1, ho3⟩ := L1.rp.ob
      obtain ⟨xs, S⟩ := L1.rp.st
      obtain ⟨sdx, hs1⟩ := S.ob
      have sok := O.sok (Nat.le_refl _)
      have smc : ∀ e ∈ cellsOf s.made, Sm e.2.1 ∧ SmV e.2.2 ∧ Pl e.1.2 := fun e he => by
        obtain ⟨g, hg, rfl⟩ := cells_mem he
        have := O.ms g hg
        exact ⟨this.st, this.vl, this.fd⟩
      refine ⟨_, rfl, A.a.r, CR, dx1, _, _, rfl, ho3, T.clR, T.nState, rfl, A.a.sa, CS, sdx, _, _, rfl, hs1, T.clS, T.nCells, lk_cells _, _, rfl, A.a.d, p2, xs, ys, rfl, rfl, .inl S.dc, .inl hp, S.cs.keys, hys.keys, by rw [S.cs.len, hys.len]; rfl, fun j u v hu hv => ?_, _, rfl, ?_⟩
      · obtain ⟨e, he, g1, g2, g3⟩ := Paired.get' S.cs hu
        obtain ⟨e', he', f1, f2, f3⟩ := Paired.get' hys hv
        have ee : e = e' := Option.some.inj (he.symm.trans he')
        subst ee
        obtain ⟨q1, q2, q3⟩ := smc e (List.mem_of_getElem? he')
        have lf := Lf.cell q1 q2
        exact ⟨g1.trans f1.symm, _, g3.dp, f3.dp, lf.cl, by have := lf.dp; omega⟩
      · refine iteT ?_
        refine ⟨_, rfl, A.a.r, dx1, _, rfl, ho3, rfl, A.a, s.rs, rfl, L1.rp, sok, fun H2 r e2 hg => ?_⟩
        have L2 := L1.ch e2
        obtain ⟨os2, ho4, ho5⟩ := L2.ro
        refine ⟨_, rfl, _, rfl, p2, ys, cellsOf s.made, A.ol, os2, s.roots, rfl, e2 _ _ (by simp) hp, hys.tk e2.tk0, cells_nodup _, by have := sok.lc; show (cellsOf s.made).length ≤ 40; have h2 : (cellsOf s.made).length ≤ 30 := this; omega, .of ho4, ho5, by have := O.rl; omega, fun H3 r2 e3 hg2 => ?_⟩
        have shg : SeqAt.shaped (graphD (cellsOf s.made) s.roots) = true := graph_shaped fun e he => ⟨(smc e he).2.2, (smc e he).2.1⟩
        refine ⟨_, _, dp_ch e3 _ _ hg, hg2, shg, shg, ?_⟩
        have : PyData.eqv (graphD s.rs.c s.rs.roots) (graphD (cellsOf s.made) s.roots) = true := eqv_same shg
        rw [this]
        exact k H3
end
end K40

namespace K40
open PySem PySem.Spec PyProof.Rows L2
open PySem.W (Frag)
/-! ### what the top has written, def by def -/
structure DefAt (K : Frag) (mg : Str → Option Value) (x qual : Str) (st : Stmt) : Prop where
  ex : ∃ f fd, Fun K x qual st f fd ∧ mg x = some (.ref f) ∧ PySem.W.keepIn K (.ref f) = true
structure MetAt (K : Frag) (C : Addr) (m qual : Str) (st : Stmt) : Prop where
  ex : ∃ f fd, Fun K m qual st f fd ∧ Meth K C m f
structure IniAt (K : Frag) (C : Addr) (qual : Str) (st : Stmt) : Prop where
  ex : ∃ f fd, Fun K "__init__" qual st f fd ∧ Mk K C f
section
variable {P : Program} {w : World} {K : Frag} {h : Heap} {mg : Str → Option Value} {C f : Addr} {x qual : Str} {st : Stmt} {oc kV doc pm cd ct : Value} {od an : Option Addr} {sl : Array (Option Value)}
theorem def_mk (X : K.In h) (G : h.Ns mainGlobals mg) (a : PySem.W.nsIn K mainGlobals x = some (some (.ref f))) (l : K.lookup f = some ⟨oc, od, .func (PySem.W.fnOf x qual (defArgs st) (defBody st) (defScope st) .none kV doc pm an cd ct), sl⟩) (c : PySem.W.codeIn K cd qual = true)
    (k : PySem.W.keepIn K (.ref f) = true) : DefAt K mg x qual st := ⟨f, _, fun_mk l c k, PySem.W.mg_of X G a, k⟩
theorem met_mk (a : PySem.W.findIn K (.ref C) x = some (some (.ref f))) (i : PySem.W.isFn K (.ref f) = true) (l : K.lookup f = some ⟨oc, od, .func (PySem.W.fnOf x qual (defArgs st) (defBody st) (defScope st) .none kV doc pm an cd ct), sl⟩) (c : PySem.W.codeIn K cd qual = true)
    (k : PySem.W.keepIn K (.ref f) = true) : MetAt K C x qual st := ⟨f, _, fun_mk l c k, a, i, k⟩
theorem ini_mk (m : PySem.W.makesIn K C = true) (a : PySem.W.findIn K (.ref C) "__init__" = some (some (.ref f))) (i : PySem.W.isFn K (.ref f) = true) (l : K.lookup f = some ⟨oc, od, .func (PySem.W.fnOf "__init__" qual (defArgs st) (defBody st) (defScope st) .none kV doc pm an cd ct), sl⟩)
    (c : PySem.W.codeIn K cd qual = true) (k : PySem.W.keepIn K (.ref f) = true) (kC : PySem.W.keepIn K (.ref C) = true) : IniAt K C qual st := ⟨f, _, fun_mk l c k, m, a, i, kC⟩
theorem root_mk {ra : Addr} {t1 t2 : Tok} {n : Nat} (X : K.In h) (G : h.Ns mainGlobals mg) (a : PySem.W.nsIn K mainGlobals "ROOT" = some (some (.ref ra))) (l : K.lookup ra = some ⟨.type "tuple", od, .seq #[.int 0 t1, .int 0 t2] n, sl⟩) :
    ∃ ra, mg "ROOT" = some (.ref ra) ∧ ∀ H, SqT K H ra [.int 0, .int 0] :=
  ⟨ra, PySem.W.mg_of X G a, fun H => .inr ⟨_, _, _, l, rfl, rfl, (by show 2 ≤ sizeLine; decide), .cons ⟨_, rfl⟩ (.cons ⟨_, rfl⟩ .nil)⟩⟩
theorem ref_mk {t : Tok} (X : K.In h) (G : h.Ns mainGlobals mg) (a : PySem.W.nsIn K mainGlobals "REF" = some (some (.str "ref" t))) : ∃ t, mg "REF" = some (.str "ref" t) := ⟨t, PySem.W.mg_of X G a⟩
theorem peers_mk {t : Tok} (X : K.In h) (G : h.Ns mainGlobals mg) (a : PySem.W.nsIn K mainGlobals "PEERS" = some (some (.int 8 t))) : ∃ t, mg "PEERS" = some (.int 8 t) := ⟨t, PySem.W.mg_of X G a⟩
/-- an error of the class at C is what «except C» names -/
theorem exm_own {K : Frag} {C : Addr} (h1 : PySem.W.subIn K (.ref C) (.type "BaseException") = some true) (h2 : PySem.W.isClsIn K C = true) (h3 : PySem.W.typeIn K (.ref C) = some (.type "type")) (h4 : PySem.W.subIn K (.ref C) (.ref C) = some true) :
    PySem.W.exmOne K (.ref C) (.ref C) = some true := by
  unfold PySem.W.isClsIn at h2
  unfold PySem.W.exmOne
  unfold PySem.W.kitCls
  simp only [h1, h2, h3, h4]
  rfl
theorem ns_text : ∃ (p0 p1 p2 p3 p4 p5 p6 p7 p8 p9 p10 p11 p12 : Pos) (w0 : Str) (j0 : Nat), defBody sNsI = nsBody "self" "name" p0 p1 p2 p3 p4 p5 p6 p7 p8 p9 p10 p11 p12 w0 j0 ∧ w0.length ≤ 100 ∧ (p2.endLine == p3.line) = true :=
  ⟨_, _, _, _, _, _, _, _, _, _, _, _, _, _, _, rfl, by decide +kernel, by decide +kernel⟩
theorem ns_scope : NdefX.NScope ["self", "name", "__class__"] ["self", "name"] ["__class__"] (defScope sNsI) := NdefX.nscope_by (by decide +kernel)
/-- the class of the error, and its __init__, which has a cell for its own class -/
structure ErrAt (P : Program) (w : World) (K : Frag) (mg : Str → Option Value) (CN : Addr) : Prop where
  ex : ∃ fI fdI, Err K mg CN fI fdI ∧ ∀ base, FnOk P w K mg base CX0 2 fI fdI ["self", "name"] (spNs K CN)
theorem err_mk {nm q : Str} {N fI cc cda : Addr} {bs bm : List Value} {sn : List Str} {sub : List Value} {ab : Bool} {col : Option Bool} {dd cld cdd : Option Addr} {m0 m1 m2 m3 m5 : Option Value} {cl ccl : Value} {csl ccs : Array (Option Value)} {vs : Array Value} {file : Str} {tf : Tok} {ar : Arg}
    (X : K.In h) (G : h.Ns mainGlobals mg) (aN : PySem.W.nsIn K mainGlobals "NoSuchObject" = some (some (.ref C)))
    (xC : K.lookup C = some (excClassObj nm q C N bs bm true sn sub ab col dd m0 m1 m2 m3 m5 "ValueError.__new__")) (bv : PySem.HandSPX.refsVE bm = true)
    (sa : PySem.W.findIn K (.ref C) "__setattr__" = some (some (.builtin "object.__setattr__"))) (ga : PySem.W.findIn K (.ref C) "__getattribute__" = some (some (.builtin "BaseException.__getattribute__"))) (gg : PySem.W.findIn K (.ref C) "__getattr__" = some none)
    (nn : PySem.W.findIn K (.ref C) "name" = some none) (iC : PySem.W.findIn K (.ref C) "__init__" = some (some (.ref fI))) (tI : PySem.W.typeIn K (.ref fI) = some (.type "function"))
    (lI : K.lookup fI = some ⟨oc, od, .func (PySem.W.fnX "__init__" "NoSuchObject.__init__" (defArgs sNsI) (defBody sNsI) (defScope sNsI) [("__class__", cc)] .none kV doc pm an (.ref cda) ct), sl⟩) (cI : PySem.W.codeIn K (.ref cda) "NoSuchObject.__init__" = true)
    (kC : PySem.W.keepIn K (.ref C) = true) (eC : PySem.W.subIn K (.ref C) (.type "BaseException") = some true) (tC : PySem.W.typeIn K (.ref C) = some (.type "type")) (hC : PySem.W.hasDictIn K C = true) (isC : PySem.W.isClsIn K C = true) (sC : PySem.W.subIn K (.ref C) (.ref C) = some true)
    (lcc : K.lookup cc = some ⟨cl, cld, .cell (some (.ref C)), csl⟩) (lcd : K.lookup cda = some ⟨ccl, cdd, .fields vs, ccs⟩) (v2 : vs[2]? = some (.str file tf)) (fl : ((P.main.file : Str) == file) = true) (mr : PySem.W.mroIn K C (.ref C) = some true)
    (sV : PySem.W.subIn K (.ref C) (.type "ValueError") = some true) (su : PySem.W.nsIn K mainGlobals "super" = some none) (ht : (P.main.scope.names.lookup ("super" : Str)).isSome = false) (ay : PySem.W.nsIn K cStatics "thirdparty.any" = some none)
    (al : PySem.W.alongIn K "__init__" bm = some (some (.builtin "ValueError.__init__"))) (har : ((defArgs sNsI).posonlyargs ++ (defArgs sNsI).args).head? = some ar) (hself : ar.arg = "self") : ErrAt P w K mg C := by
  have o : OexC K C := ⟨⟨nm, q, N, bs, bm, sn, sub, ab, col, dd, m0, m1, m2, m3, m5, xC, bv⟩, sa, eC, tC, kC⟩
  have cl1 : PySem.W.clsIn K C = some { name := nm, bases := bs, mro := .ref C :: bm, ns := N, qualname := q, hasDict := true, slotNames := sn, subclasses := sub, abstract := ab, collection := col, hasDel := false } := by
    unfold PySem.W.clsIn
    rw [xC]
  have T : SupC P K mg C fI cc cda (PySem.W.fnX "__init__" "NoSuchObject.__init__" (defArgs sNsI) (defBody sNsI) (defScope sNsI) [("__class__", cc)] .none kV doc pm an (.ref cda) ct) ar := by
    refine ⟨o, ⟨oc, od, sl, lI⟩, har, ⟨ccl, cdd, vs, ccs, file, tf, lcd, v2, fl⟩, ⟨cl, cld, csl, lcc⟩, mr, sV, PySem.W.mg_none_of X G su, ht, ay, _, cl1, ?_⟩
    have e : ((Value.ref C :: bm).dropWhile (· != .ref C)).drop 1 = bm := by
      have : (Value.ref C != Value.ref C) = false := by simp
      rw [List.dropWhile_cons, this]
      rfl
    rw [e]
    exact al
  obtain ⟨p0, p1, p2, p3, p4, p5, p6, p7, p8, p9, p10, p11, p12, w0, j0, hb, hw, hl⟩ := ns_text
  refine ⟨fI, _, ⟨o, iC, tI, PySem.W.mg_of X G aN, ⟨ga, gg, eC, hC⟩, nn, exm_own eC isC tC sC, ?_⟩, fun base => ok_ns hb hw hl lI cI T hself ns_scope (by decide +kernel) nn⟩
  exact .all fun us hu => match us, hu with | [_, _], _ => rfl
/-- all that the written part tells -/
structure All (P : Program) (w : World) (K : Frag) (mg : Str → Option Value) (CS CR CN : Addr) : Prop where
  T : Txt K mg CS CR
  err : ErrAt P w K mg CN
  tgt : DefAt K mg "target_of" "target_of" sTgt
  reach : DefAt K mg "reachable" "reachable" sReach
  numV : DefAt K mg "numbered_value" "numbered_value" sNumV
  num : DefAt K mg "numbered" "numbered" sNum
  later : DefAt K mg "is_later" "is_later" sLater
  sI : IniAt K CS "State.__init__" sSI
  sTake : MetAt K CS "take" "State.take" sTake
  sVal : MetAt K CS "value" "State.value" sVal
  sFlds : MetAt K CS "fields" "State.fields" sFlds
  sNames : MetAt K CS "names" "State.names" sNames
  rI : IniAt K CR "Replica.__init__" sRI
  rKnows : MetAt K CR "knows" "Replica.knows" sKnows
  rCheck : MetAt K CR "check" "Replica.check" sCheck
  rBegin : MetAt K CR "begin" "Replica.begin" sBegin
  rPut : MetAt K CR "put" "Replica.put" sPut
  rNote : MetAt K CR "note" "Replica.note" sNote
  rHold : MetAt K CR "hold" "Replica.hold" sHold
  rDrop : MetAt K CR "drop" "Replica.drop" sDrop
  rGraph : MetAt K CR "graph" "Replica.graph" sGraph
  lCell : DefAt K mg "_law_cell" "_law_cell" lCell
  lRow : DefAt K mg "_law_row" "_law_row" lRow
  lBox : DefAt K mg "_law_box" "_law_box" lBox
  lDraw : DefAt K mg "_law_draw" "_law_draw" lDraw
  lSame : DefAt K mg "_law_same" "_law_same" lSame
  lPick : DefAt K mg "_law_pick" "_law_pick" lPick
  lTgt : DefAt K mg "_law_target" "_law_target" lTgt
  lWorth : DefAt K mg "_law_worth" "_law_worth" lWorth
  lFld : DefAt K mg "_law_field" "_law_field" lFld
  lCells : DefAt K mg "_law_cells" "_law_cells" lCells
  lReach : DefAt K mg "_law_reach" "_law_reach" lReach
  lGraph : DefAt K mg "_law_graph" "_law_graph" lGraph
  lRef : DefAt K mg "_law_refused" "_law_refused" lRef
  lHeld : DefAt K mg "_law_held" "_law_held" lHeld
  law : DefAt K mg "law" "law" sLaw
end
theorem all_law {P : Program} {w : World} {K : Frag} {mg : Str → Option Value} {CS CR CN fa : Addr} (A : All P w K mg CS CR CN) (hfa : mg "law" = some (.ref fa)) :
    ∃ fd : FuncData, (∀ (s : Shared) (u : Value), BindsTo s fd ⟨[u], []⟩ [("_law_script", u)]) ∧ ∀ base : Heap, K.In base → base.Ns mainGlobals mg → FnG P w K mg base CX0 8 fa fd ["_law_script"] (spLaw K) := by
  have T := A.T
  obtain ⟨fN, dN, Er, okN⟩ := A.err.ex
  obtain ⟨f1, d1, F1, g1, k1⟩ := A.tgt.ex
  obtain ⟨f2, d2, F2, g2, k2⟩ := A.reach.ex
  obtain ⟨f3, d3, F3, g3, k3⟩ := A.numV.ex
  obtain ⟨f4, d4, F4, g4, k4⟩ := A.num.ex
  obtain ⟨f5, d5, F5, g5, k5⟩ := A.later.ex
  obtain ⟨s1, e1, S1, M1⟩ := A.sI.ex
  obtain ⟨s2, e2, S2, M2⟩ := A.sTake.ex
  obtain ⟨s3, e3, S3, M3⟩ := A.sVal.ex
  obtain ⟨s4, e4, S4, M4⟩ := A.sFlds.ex
  obtain ⟨s5, e5, S5, M5⟩ := A.sNames.ex
  obtain ⟨r1, c1, R1, N1⟩ := A.rI.ex
  obtain ⟨r2, c2, R2, N2⟩ := A.rKnows.ex
  obtain ⟨r3, c3, R3, N3⟩ := A.rCheck.ex
  obtain ⟨r4, c4, R4, N4⟩ := A.rBegin.ex
  obtain ⟨r5, c5, R5, N5⟩ := A.rPut.ex
  obtain ⟨r6, c6, R6, N6⟩ := A.rNote.ex
  obtain ⟨r7, c7, R7, N7⟩ := A.rHold.ex
  obtain ⟨r8, c8, R8, N8⟩ := A.rDrop.ex
  obtain ⟨r9, c9, R9, N9⟩ := A.rGraph.ex
  obtain ⟨a1, q1, W1, h1, p1⟩ := A.lCell.ex
  obtain ⟨a2, q2, W2, h2, p2⟩ := A.lRow.ex
  obtain ⟨a3, q3, W3, h3, p3⟩ := A.lBox.ex
  obtain ⟨a4, q4, W4, h4, p4⟩ := A.lDraw.ex
  obtain ⟨a5, q5, W5, h5, p5⟩ := A.lSame.ex
  obtain ⟨a6, q6, W6, h6, p6⟩ := A.lPick.ex
  obtain ⟨a7, q7, W7, h7, p7⟩ := A.lTgt.ex
  obtain ⟨a8, q8, W8, h8, p8⟩ := A.lWorth.ex
  obtain ⟨a9, q9, W9, h9, p9⟩ := A.lFld.ex
  obtain ⟨b1, u1, K1, i1, o1⟩ := A.lCells.ex
  obtain ⟨b2, u2, K2, i2, o2⟩ := A.lReach.ex
  obtain ⟨b3, u3, K3, i3, o3⟩ := A.lGraph.ex
  obtain ⟨b4, u4, K4, i4, o4⟩ := A.lRef.ex
  obtain ⟨b5, u5, K5, i5, o5⟩ := A.lHeld.ex
  obtain ⟨b6, u6, K6, i6, o6⟩ := A.law.ex
  cases hfa.symm.trans i6
  have bF1 := F1.binds (ps := ["value"]) fun _ _ _ _ _ _ us hl => match us, hl with | [_], _ => rfl
  have bF2 := F2.binds (ps := ["state", "roots"]) fun _ _ _ _ _ _ us hl => match us, hl with | [_, _], _ => rfl
  have bF3 := F3.binds (ps := ["value", "numbers"]) fun _ _ _ _ _ _ us hl => match us, hl with | [_, _], _ => rfl
  have bF4 := F4.binds (ps := ["state", "roots"]) fun _ _ _ _ _ _ us hl => match us, hl with | [_, _], _ => rfl
  have bF5 := F5.binds (ps := ["stamp", "other"]) fun _ _ _ _ _ _ us hl => match us, hl with | [_, _], _ => rfl
  have bS1 := S1.binds (ps := ["self"]) fun _ _ _ _ _ _ us hl => match us, hl with | [_], _ => rfl
  have bS2 := S2.binds (ps := ["self", "change"]) fun _ _ _ _ _ _ us hl => match us, hl with | [_, _], _ => rfl
  have bS3 := S3.binds (ps := ["self", "name", "field"]) fun _ _ _ _ _ _ us hl => match us, hl with | [_, _, _], _ => rfl
  have bS4 := S4.binds (ps := ["self", "name"]) fun _ _ _ _ _ _ us hl => match us, hl with | [_, _], _ => rfl
  have bS5 := S5.binds (ps := ["self"]) fun _ _ _ _ _ _ us hl => match us, hl with | [_], _ => rfl
  have bR1 := R1.binds (ps := ["self", "peer"]) fun _ _ _ _ _ _ us hl => match us, hl with | [_, _], _ => rfl
  have bR2 := R2.binds (ps := ["self", "name"]) fun _ _ _ _ _ _ us hl => match us, hl with | [_, _], _ => rfl
  have bR3 := R3.binds (ps := ["self", "name"]) fun _ _ _ _ _ _ us hl => match us, hl with | [_, _], _ => rfl
  have bR4 := R4.binds (ps := ["self"]) fun _ _ _ _ _ _ us hl => match us, hl with | [_], _ => rfl
  have bR5 := R5.binds (ps := ["self", "name", "field", "value"]) fun _ _ _ _ _ _ us hl => match us, hl with | [_, _, _, _], _ => rfl
  have bR6 := R6.binds (ps := ["self", "name", "field", "value"]) fun _ _ _ _ _ _ us hl => match us, hl with | [_, _, _, _], _ => rfl
  have bR7 := R7.binds (ps := ["self", "name"]) fun _ _ _ _ _ _ us hl => match us, hl with | [_, _], _ => rfl
  have bR8 := R8.binds (ps := ["self", "name"]) fun _ _ _ _ _ _ us hl => match us, hl with | [_, _], _ => rfl
  have bR9 := R9.binds (ps := ["self"]) fun _ _ _ _ _ _ us hl => match us, hl with | [_], _ => rfl
  have bL1 := W1.binds (ps := ["_law_script", "_law_k"]) fun _ _ _ _ _ _ us hl => match us, hl with | [_, _], _ => rfl
  have bL2 := W2.binds (ps := ["_law_cell_here", "_law_k", "_law_many"]) fun _ _ _ _ _ _ us hl => match us, hl with | [_, _, _], _ => rfl
  have bL3 := W3.binds (ps := ["_law_script", "_law_first", "_law_last"]) fun _ _ _ _ _ _ us hl => match us, hl with | [_, _, _], _ => rfl
  have bL4 := W4.binds (ps := ["_law_box_here", "_law_many"]) fun _ _ _ _ _ _ us hl => match us, hl with | [_, _], _ => rfl
  have bL5 := W5.binds (ps := ["_law_one", "_law_other"]) fun _ _ _ _ _ _ us hl => match us, hl with | [_, _], _ => rfl
  have bL6 := W6.binds (ps := ["_law_box_here", "_law_row_here"]) fun _ _ _ _ _ _ us hl => match us, hl with | [_, _], _ => rfl
  have bL7 := W7.binds (ps := ["_law_value"]) fun _ _ _ _ _ _ us hl => match us, hl with | [_], _ => rfl
  have bL8 := W8.binds (ps := ["_law_box_here", "_law_names"]) fun _ _ _ _ _ _ us hl => match us, hl with | [_, _], _ => rfl
  have bL9 := W9.binds (ps := ["_law_box_here"]) fun _ _ _ _ _ _ us hl => match us, hl with | [_], _ => rfl
  have bK1 := K1.binds (ps := ["_law_changes"]) fun _ _ _ _ _ _ us hl => match us, hl with | [_], _ => rfl
  have bK2 := K2.binds (ps := ["_law_cells_here", "_law_roots"]) fun _ _ _ _ _ _ us hl => match us, hl with | [_, _], _ => rfl
  have bK3 := K3.binds (ps := ["_law_cells_here", "_law_roots"]) fun _ _ _ _ _ _ us hl => match us, hl with | [_, _], _ => rfl
  have bK4 := K4.binds (ps := ["_law_replica", "_law_name", "_law_field_here", "_law_value"]) fun _ _ _ _ _ _ us hl => match us, hl with | [_, _, _, _], _ => rfl
  have bK5 := K5.binds (ps := ["_law_replica", "_law_name"]) fun _ _ _ _ _ _ us hl => match us, hl with | [_, _], _ => rfl
  have bK6 := K6.binds (ps := ["_law_script"]) fun _ _ _ _ _ _ us hl => match us, hl with | [_], _ => rfl
  refine ⟨u6, fun s u => ?_, fun base X G => ?_⟩
  · obtain ⟨oc, od, kV, doc, pm, an, cdv, ct, osl, rfl, _⟩ := K6.ex
    exact .of_eq rfl
  · have oT : FnOk P w K mg base CX0 1 f1 d1 ["value"] (spTgt K) := ok_tgt F1 T
    have oL : FnOk P w K mg base CX0 1 f5 d5 ["stamp", "other"] (spLater K) := ok_later F5
    have oSI : FnOk P w K mg base CX0 1 s1 e1 ["self"] (spSI P w CS) := ok_SI S1 T
    have oVal : FnOk P w K mg base CX0 1 s3 e3 ["self", "name", "field"] (spVal P w K CS) := ok_val S3 T
    have oTake : FnOk P w K mg base CX0 2 s2 e2 ["self", "change"] (spTake P w K CS) := K40.ok_take S2 T oL bF5 g5 k5
    have oFlds : FnOk P w K mg base CX0 2 s4 e4 ["self", "name"] (spFlds P w K CS) := ok_flds S4 T oVal bS3 M3
    have oNames : FnOk P w K mg base CX0 2 s5 e5 ["self"] (spNames P w K CS) := ok_names S5 T oT bF1 g1 k1
    have oReach : FnOk P w K mg base CX0 3 f2 d2 ["state", "roots"] (spReach P w K CS) := ok_reach F2 T oT bF1 g1 k1 oFlds bS4 M4
    have oNumV : FnOk P w K mg base CX0 2 f3 d3 ["value", "numbers"] (spNumV P w K) := ok_numV F3 T oT bF1 g1 k1
    have oNum : FnOk P w K mg base CX0 4 f4 d4 ["state", "roots"] (spNum P w K CS) := ok_num F4 T oReach bF2 g2 k2 oFlds bS4 M4 oNumV bF3 g3 k3
    have oRI : FnOk P w K mg base CX0 3 r1 c1 ["self", "peer"] (spRI P w K CS CR) := ok_RI R1 T M1 oSI bS1
    have oKnows : FnOk P w K mg base CX0 3 r2 c2 ["self", "name"] (spKnows P w K CS CR) := ok_knows R2 T oNames bS5 M5
    have oBegin : FnOk P w K mg base CX0 1 r4 c4 ["self"] (spBegin P w K CS CR) := ok_begin R4 T
    have oNote : FnOk P w K mg base CX0 3 r6 c6 ["self", "name", "field", "value"] (spNote P w K CS CR) := ok_note R6 T oTake bS2 M2
    have oDrop : FnOk P w K mg base CX0 1 r8 c8 ["self", "name"] (spDrop P w K CS CR) := ok_drop R8 T
    have oGraph : FnOk P w K mg base CX0 5 r9 c9 ["self"] (spGraph P w K CS CR) := ok_graph R9 T oNum bF4 g4 k4
    have oCheck : FnOk P w K mg base (L2.CX P w) 4 r3 c3 ["self", "name"] (spCheck P w K CS CR CN) := ok_check R3 T Er (okN base) oKnows bR2 N2
    have oPut : FnOk P w K mg base (L2.CX P w) 5 r5 c5 ["self", "name", "field", "value"] (spPut P w K CS CR CN) := ok_put R5 T oCheck bR3 N3 oT bF1 g1 k1 oNote bR6 N6
    have oHold : FnOk P w K mg base (L2.CX P w) 5 r7 c7 ["self", "name"] (spHold P w K CS CR CN) := ok_hold R7 T oCheck bR3 N3
    have oCl : FnOk P w K mg base CX0 1 a1 q1 ["_law_script", "_law_k"] (spCl K) := ok_cl W1 T
    have oRow : FnOk P w K mg base CX0 1 a2 q2 ["_law_cell_here", "_law_k", "_law_many"] (spRow K) := ok_row W2 T
    have oBox : FnOk P w K mg base CX0 2 a3 q3 ["_law_script", "_law_first", "_law_last"] (spBox K) := ok_box W3 T oCl bL1 h1 p1 oRow bL2 h2 p2
    have oDraw : FnOk P w K mg base CX0 1 a4 q4 ["_law_box_here", "_law_many"] spDraw := ok_draw W4 T
    have oSame : FnG P w K mg base CX0 1 a5 q5 ["_law_one", "_law_other"] (spSame K) := ok_same W5 T
    have oPick : FnOk P w K mg base CX0 2 a6 q6 ["_law_box_here", "_law_row_here"] (spPick K) := ok_pick W6 T oDraw bL4 h4 p4
    have oTL : FnOk P w K mg base CX0 1 a7 q7 ["_law_value"] (spTgt K) := ok_tgtL W7 T
    have oWorth : FnOk P w K mg base CX0 3 a8 q8 ["_law_box_here", "_law_names"] (spWorth K) := ok_worth W8 oDraw bL4 h4 p4 oPick bL6 h6 p6
    have oFld : FnOk P w K mg base CX0 2 a9 q9 ["_law_box_here"] spFld := ok_fld W9 oDraw bL4 h4 p4
    have oCells : FnOk P w K mg base CX0 1 b1 u1 ["_law_changes"] (spCells P w K) := ok_cells K1
    have oLR : FnOk P w K mg base CX0 2 b2 u2 ["_law_cells_here", "_law_roots"] (spLReach P w K) := ok_lreach K2 T oTL bL7 h7 p7
    have oLG : FnOk P w K mg base CX0 3 b3 u3 ["_law_cells_here", "_law_roots"] (spLGraph P w K) := ok_lgraph K3 T oTL bL7 h7 p7 oLR bK2 i2 o2
    have oRef : FnOk P w K mg base CX0 6 b4 u4 ["_law_replica", "_law_name", "_law_field_here", "_law_value"] (spRef P w K CS CR) := ok_ref K4 T Er oPut bR5 N5
    have oHeld : FnOk P w K mg base CX0 6 b5 u5 ["_law_replica", "_law_name"] (spHeld P w K CS CR) := ok_held K5 T Er oHold bR7 N7
    exact ok_law K6 T ⟨⟨_, _, oBox, bL3, h3, p3⟩, ⟨_, _, oDraw, bL4, h4, p4⟩, ⟨_, _, oSame, bL5, h5, p5⟩, ⟨_, _, oPick, bL6, h6, p6⟩, ⟨_, _, oTL, bL7, h7, p7⟩, ⟨_, _, oWorth, bL8, h8, p8⟩, ⟨_, _, oFld, bL9, h9, p9⟩,
      ⟨_, _, oCells, bK1, i1, o1⟩, ⟨_, _, oLG, bK3, i3, o3⟩, ⟨_, _, oRef, bK4, i4, o4⟩, ⟨_, _, oHeld, bK5, i5, o5⟩, ⟨_, _, oRI, bR1, N1⟩, ⟨_, _, oBegin, bR4, N4⟩, ⟨_, _, oDrop, bR8, N8⟩, ⟨_, _, oKnows, bR2, N2⟩, ⟨_, _, oGraph, bR9, N9⟩⟩
end K40

namespace K40
open PySem PySem.Spec PyProof.Rows L2
open PySem.W (Frag)
theorem all_start {P : Program} {w : World} {K : Frag} {h : Heap} {mg : Str → Option Value} {CS CR CN fa : Addr} (X : K.In h) (G : h.Ns mainGlobals mg) (hfa : mg "law" = some (.ref fa)) (aS : PySem.W.nsIn K mainGlobals "State" = some (some (.ref CS)))
    (aR : PySem.W.nsIn K mainGlobals "Replica" = some (some (.ref CR))) (aN : PySem.W.nsIn K mainGlobals "NoSuchObject" = some (some (.ref CN))) (A : All P w K mg CS CR CN) :
    ∃ fd : FuncData, (∀ (s : Shared) (u : Value), BindsTo s fd ⟨[u], []⟩ [("_law_script", u)]) ∧ ∀ base : Heap, K.In base → base.Ns mainGlobals mg → FnG P w K mg base CX0 8 fa fd ["_law_script"] (spLaw K) := all_law A hfa
theorem walk_law {l : PySem.W.OpenLaw} {n : Nat} {q : Program} {loose : List Str} {XP : (Str → Option Value) → Heap → Prop} {YP : World → Heap → Prop} {d : DefRec} {K : Params → Frag}
    (hn : l.most = some n) (hn2 : n ≤ sizeLine) (hdf : d.params.defaults = []) (hY : ∀ (w : World) (h : Heap), YP w h → (K w.params).In h)
    (F : ∀ (w : World) (mg : Str → Option Value) (fa : Addr) (h : Heap), (K w.params).In h → h.Ns mainGlobals mg → mg d.name = some (.ref fa) →
      ∃ fd : FuncData, (∀ (s : Shared) (u : Value), BindsTo s fd ⟨[u], []⟩ [("_law_script", u)]) ∧ ∀ base : Heap, (K w.params).In base → base.Ns mainGlobals mg → FnG l.prog w (K w.params) mg base CX0 8 fa fd ["_law_script"] (spLaw (K w.params))) :
    PySem.W.WalkO q loose XP YP l.row.toRowW d [] (fun f vs => PySem.call f vs) :=
  walkG (n := n) (k := 8) (x := "_law_script") (sp := fun w => spLaw (K w.params)) hn hn2 hdf ⟨rfl, by decide, by decide⟩ hY F fun _ _ a ns _ hS => ⟨a, ns, rfl, hS, fun _ => rfl⟩
end K40

open K40
open PySem PySem.W PyProof.Rows in
set_option maxRecDepth 100000 in
set_option maxHeartbeats 0 in
theorem PySem.Challenge.cw_graphtwins_k40_deeds_of_a_replica_holds : PySem.Challenge.rw_graphtwins_k40_deeds_of_a_replica.Holds := by
  w_on; o_law; k_head; (case hw => w_witness2)
  k_fill
  refine K40.walk_law (l := PySem.Challenge.rw_graphtwins_k40_deeds_of_a_replica) (n := 63) rfl (by decide) rfl (fun w h Y => PySem.W.kIn_of Y) ?F
  case F =>
    intro w mg fa h KX G hmg
    refine' K40.all_start KX G hmg ?aS ?aR ?aN ?A
    (case aS => k_is)
    (case aR => k_is)
    (case aN => k_is)
    case A =>
      refine' { T := ?T, err := ?err, tgt := ?tgt, reach := ?reach, numV := ?numV, num := ?num, later := ?later, sTake := ?sTake, sVal := ?sVal, sFlds := ?sFlds, sNames := ?sNames, rKnows := ?rKnows, rCheck := ?rCheck, rBegin := ?rBegin, rPut := ?rPut, rNote := ?rNote, rHold := ?rHold, rDrop := ?rDrop, rGraph := ?rGraph, sI := ?sI, rI := ?rI, lCell := ?lCell, lRow := ?lRow, lBox := ?lBox, lDraw := ?lDraw, lSame := ?lSame, lPick := ?lPick, lTgt := ?lTgt, lWorth := ?lWorth, lFld := ?lFld, lCells := ?lCells, lReach := ?lReach, lGraph := ?lGraph, lRef := ?lRef, lHeld := ?lHeld, law := ?law }
      case T =>
        refine' { clS := ⟨?t1, ?t2, ?t3, ?t4⟩, nCells := ?t5, mgS := PySem.W.mg_of KX G ?t6, clR := ⟨?t7, ?t8, ?t9, ?t10⟩, nPeer := ?t11, nClock := ?t12, nMade := ?t13, nState := ?t14, nRoots := ?t15, nPending := ?t16, nMessages := ?t17, mgR := PySem.W.mg_of KX G ?t18, isinstance := PySem.W.mg_none_of KX G ?t19, tuple := PySem.W.mg_none_of KX G ?t20, len := PySem.W.mg_none_of KX G ?t21, sorted := PySem.W.mg_none_of KX G ?t22, set := PySem.W.mg_none_of KX G ?t23, list := PySem.W.mg_none_of KX G ?t24, int := PySem.W.mg_none_of KX G ?t25, range := PySem.W.mg_none_of KX G ?t26, repr := PySem.W.mg_none_of KX G ?t27, enumerate := PySem.W.mg_none_of KX G ?t28, ref := K40.ref_mk KX G ?t29, peers := K40.peers_mk KX G ?t30, root := K40.root_mk KX G ?t31 ?t32 }
        (case t1 => k_is)
        (case t2 => k_is)
        (case t3 => k_is)
        (case t4 => k_is)
        (case t5 => show PySem.W.findIn _ _ _ = some none; k_is)
        (case t6 => k_is)
        (case t7 => k_is)
        (case t8 => k_is)
        (case t9 => k_is)
        (case t10 => k_is)
        (case t11 => show PySem.W.findIn _ _ _ = some none; k_is)
        (case t12 => show PySem.W.findIn _ _ _ = some none; k_is)
        (case t13 => show PySem.W.findIn _ _ _ = some none; k_is)
        (case t14 => show PySem.W.findIn _ _ _ = some none; k_is)
        (case t15 => show PySem.W.findIn _ _ _ = some none; k_is)
        (case t16 => show PySem.W.findIn _ _ _ = some none; k_is)
        (case t17 => show PySem.W.findIn _ _ _ = some none; k_is)
        (case t18 => k_is)
        (case t19 => k_is)
        (case t20 => k_is)
        (case t21 => k_is)
        (case t22 => k_is)
        (case t23 => k_is)
        (case t24 => k_is)
        (case t25 => k_is)
        (case t26 => k_is)
        (case t27 => k_is)
        (case t28 => k_is)
        (case t29 => k_is)
        (case t30 => k_is)
        (case t31 => k_is)
        (case t32 => k_is)
      case err =>
        refine' K40.err_mk KX G ?aN ?xC ?bv ?sa ?ga ?gg ?nn ?iC ?tI ?lI ?cI ?kC ?eC ?tC ?hC ?isC ?sC ?lcc ?lcd ?v2 ?fl ?mr ?sV ?su ?ht ?ay ?al ?har ?hs
        (case aN => k_is)
        (case xC => k_is)
        (case bv => decide +kernel)
        (case sa => k_is)
        (case ga => k_is)
        (case gg => k_is)
        (case nn => k_is)
        (case iC => k_is)
        (case tI => k_is)
        (case lI => k_is)
        (case cI => k_is)
        (case kC => k_is)
        (case eC => k_is)
        (case tC => k_is)
        (case hC => k_is)
        (case isC => k_is)
        (case sC => k_is)
        (case lcc => k_is)
        (case lcd => k_is)
        (case v2 => rfl)
        (case fl => decide +kernel)
        (case mr => k_is)
        (case sV => k_is)
        (case su => k_is)
        (case ht => decide +kernel)
        (case ay => k_is)
        (case al => kernel_rfl)
        (case har => rfl)
        (case hs => rfl)
      (case tgt => (refine' K40.def_mk KX G ?ka ?kl ?kc ?kk; (case ka => k_is); (case kl => k_is); (case kc => k_is); (case kk => k_is)))
      (case reach => (refine' K40.def_mk KX G ?ka ?kl ?kc ?kk; (case ka => k_is); (case kl => k_is); (case kc => k_is); (case kk => k_is)))
      (case numV => (refine' K40.def_mk KX G ?ka ?kl ?kc ?kk; (case ka => k_is); (case kl => k_is); (case kc => k_is); (case kk => k_is)))
      (case num => (refine' K40.def_mk KX G ?ka ?kl ?kc ?kk; (case ka => k_is); (case kl => k_is); (case kc => k_is); (case kk => k_is)))
      (case later => (refine' K40.def_mk KX G ?ka ?kl ?kc ?kk; (case ka => k_is); (case kl => k_is); (case kc => k_is); (case kk => k_is)))
      (case lCell => (refine' K40.def_mk KX G ?ka ?kl ?kc ?kk; (case ka => k_is); (case kl => k_is); (case kc => k_is); (case kk => k_is)))
      (case lRow => (refine' K40.def_mk KX G ?ka ?kl ?kc ?kk; (case ka => k_is); (case kl => k_is); (case kc => k_is); (case kk => k_is)))
      (case lBox => (refine' K40.def_mk KX G ?ka ?kl ?kc ?kk; (case ka => k_is); (case kl => k_is); (case kc => k_is); (case kk => k_is)))
      (case lDraw => (refine' K40.def_mk KX G ?ka ?kl ?kc ?kk; (case ka => k_is); (case kl => k_is); (case kc => k_is); (case kk => k_is)))
      (case lSame => (refine' K40.def_mk KX G ?ka ?kl ?kc ?kk; (case ka => k_is); (case kl => k_is); (case kc => k_is); (case kk => k_is)))
      (case lPick => (refine' K40.def_mk KX G ?ka ?kl ?kc ?kk; (case ka => k_is); (case kl => k_is); (case kc => k_is); (case kk => k_is)))
      (case lTgt => (refine' K40.def_mk KX G ?ka ?kl ?kc ?kk; (case ka => k_is); (case kl => k_is); (case kc => k_is); (case kk => k_is)))
      (case lWorth => (refine' K40.def_mk KX G ?ka ?kl ?kc ?kk; (case ka => k_is); (case kl => k_is); (case kc => k_is); (case kk => k_is)))
      (case lFld => (refine' K40.def_mk KX G ?ka ?kl ?kc ?kk; (case ka => k_is); (case kl => k_is); (case kc => k_is); (case kk => k_is)))
      (case lCells => (refine' K40.def_mk KX G ?ka ?kl ?kc ?kk; (case ka => k_is); (case kl => k_is); (case kc => k_is); (case kk => k_is)))
      (case lReach => (refine' K40.def_mk KX G ?ka ?kl ?kc ?kk; (case ka => k_is); (case kl => k_is); (case kc => k_is); (case kk => k_is)))
      (case lGraph => (refine' K40.def_mk KX G ?ka ?kl ?kc ?kk; (case ka => k_is); (case kl => k_is); (case kc => k_is); (case kk => k_is)))
      (case lRef => (refine' K40.def_mk KX G ?ka ?kl ?kc ?kk; (case ka => k_is); (case kl => k_is); (case kc => k_is); (case kk => k_is)))
      (case lHeld => (refine' K40.def_mk KX G ?ka ?kl ?kc ?kk; (case ka => k_is); (case kl => k_is); (case kc => k_is); (case kk => k_is)))
      (case law => (refine' K40.def_mk KX G ?ka ?kl ?kc ?kk; (case ka => k_is); (case kl => k_is); (case kc => k_is); (case kk => k_is)))
      (case sTake => (refine' K40.met_mk ?ka ?ki ?kl ?kc ?kk; (case ka => k_is); (case ki => k_is); (case kl => k_is); (case kc => k_is); (case kk => k_is)))
      (case sVal => (refine' K40.met_mk ?ka ?ki ?kl ?kc ?kk; (case ka => k_is); (case ki => k_is); (case kl => k_is); (case kc => k_is); (case kk => k_is)))
      (case sFlds => (refine' K40.met_mk ?ka ?ki ?kl ?kc ?kk; (case ka => k_is); (case ki => k_is); (case kl => k_is); (case kc => k_is); (case kk => k_is)))
      (case sNames => (refine' K40.met_mk ?ka ?ki ?kl ?kc ?kk; (case ka => k_is); (case ki => k_is); (case kl => k_is); (case kc => k_is); (case kk => k_is)))
      (case rKnows => (refine' K40.met_mk ?ka ?ki ?kl ?kc ?kk; (case ka => k_is); (case ki => k_is); (case kl => k_is); (case kc => k_is); (case kk => k_is)))
      (case rCheck => (refine' K40.met_mk ?ka ?ki ?kl ?kc ?kk; (case ka => k_is); (case ki => k_is); (case kl => k_is); (case kc => k_is); (case kk => k_is)))
      (case rBegin => (refine' K40.met_mk ?ka ?ki ?kl ?kc ?kk; (case ka => k_is); (case ki => k_is); (case kl => k_is); (case kc => k_is); (case kk => k_is)))
      (case rPut => (refine' K40.met_mk ?ka ?ki ?kl ?kc ?kk; (case ka => k_is); (case ki => k_is); (case kl => k_is); (case kc => k_is); (case kk => k_is)))
      (case rNote => (refine' K40.met_mk ?ka ?ki ?kl ?kc ?kk; (case ka => k_is); (case ki => k_is); (case kl => k_is); (case kc => k_is); (case kk => k_is)))
      (case rHold => (refine' K40.met_mk ?ka ?ki ?kl ?kc ?kk; (case ka => k_is); (case ki => k_is); (case kl => k_is); (case kc => k_is); (case kk => k_is)))
      (case rDrop => (refine' K40.met_mk ?ka ?ki ?kl ?kc ?kk; (case ka => k_is); (case ki => k_is); (case kl => k_is); (case kc => k_is); (case kk => k_is)))
      (case rGraph => (refine' K40.met_mk ?ka ?ki ?kl ?kc ?kk; (case ka => k_is); (case ki => k_is); (case kl => k_is); (case kc => k_is); (case kk => k_is)))
      (case sI => (refine' K40.ini_mk ?km ?ka ?ki ?kl ?kc ?kk ?kd; (case km => k_is); (case ka => k_is); (case ki => k_is); (case kl => k_is); (case kc => k_is); (case kk => k_is); (case kd => k_is)))
      (case rI => (refine' K40.ini_mk ?km ?ka ?ki ?kl ?kc ?kk ?kd; (case km => k_is); (case ka => k_is); (case ki => k_is); (case kl => k_is); (case kc => k_is); (case kk => k_is); (case kd => k_is)))
