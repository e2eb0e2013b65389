import PyProof.Rows.All
import Wide.All
import OpenK.AllK
import HandS.Conv
import HandS.ForMost
import HandS.ForExc
import HandS.CallSlots
import HandS.TupAny
import HandS.IsInst
import HandS.Strs
import KE.DataCmp
import KE.SortData
import KE.DatumOrd
import KE.KDictKeyed
import KE.KeyNested
import Wide.FinOn
import HandS.ExcInit
import HandS.ExcField
import HandS.ExcIs
import KE.KExcIs
import HandS.TryOnly
import HandS.Deep
import HandS.Iter
import KE.KDictList
import KE.KDictWalk
import HandS.TupLe
import HandS.Lambda
import HandS.EndOwn
import HandS.Style
import KE.GoesComp
import PySem.Challenge.RW_bikedocks_k14_texts_refused
set_option Elab.async false
set_option linter.all false
set_option maxRecDepth 100000
set_option maxHeartbeats 1000000
/-! Fw0: order of data: <, >, <=, >=, min, max, sorted, by PyData. -/
namespace Fw
open PySem L2
theorem dpAll_get {K : PySem.W.Frag} {H : Hp} : ∀ {xs : List V} {ps : List PyData}, DpAll K H xs ps → ∀ {i : Nat} {v : V}, xs[i]? = some v → ∃ p, ps[i]? = some p ∧ Dp K H v p
  | _, _, .nil, i, v, h => by simp at h
  | _, _, .cons hd tl, 0, v, h => by simp at h; subst h; exact ⟨_, rfl, hd⟩
  | _, _, .cons hd tl, i + 1, v, h => by simp at h; simpa using dpAll_get tl h
theorem vals_get {xs : List V} {us : List Value} (r : Vals xs us) : ∀ {i : Nat} {u : Value}, us[i]? = some u → ∃ v, xs[i]? = some v ∧ RelV v u := by
  induction r with
  | nil => intro i u h; simp at h
  | cons h1 _ ih =>
    intro i u h
    cases i with
    | zero => simp at h; subst h; exact ⟨_, rfl, h1⟩
    | succ i => simp at h; simpa using ih h
theorem minD_mem : ∀ (ps : List PyData) (p : PyData), PySem.W.minD p ps ∈ p :: ps := by
  intro ps
  induction ps with
  | nil => intro p; exact List.mem_singleton.mpr rfl
  | cons q ps ih =>
    intro p
    show PySem.W.minD (if PySem.W.dataLt q p then q else p) ps ∈ _
    rcases List.mem_cons.mp (ih (if PySem.W.dataLt q p then q else p)) with h | h
    · rw [h]
      split
      · exact List.mem_cons_of_mem _ List.mem_cons_self
      · exact List.mem_cons_self
    · exact List.mem_cons_of_mem _ (List.mem_cons_of_mem _ h)
theorem maxD_mem : ∀ (ps : List PyData) (p : PyData), PySem.W.maxD p ps ∈ p :: ps := by
  intro ps
  induction ps with
  | nil => intro p; exact List.mem_singleton.mpr rfl
  | cons q ps ih =>
    intro p
    show PySem.W.maxD (if PySem.W.dataLt p q then q else p) ps ∈ _
    rcases List.mem_cons.mp (ih (if PySem.W.dataLt p q then q else p)) with h | h
    · rw [h]
      split
      · exact List.mem_cons_of_mem _ List.mem_cons_self
      · exact List.mem_cons_self
    · exact List.mem_cons_of_mem _ (List.mem_cons_of_mem _ h)
def rBestP (best : PyData → List PyData → PyData) (K : PySem.W.Frag) : List V → Hp → VK → Prop := fun vs H Q => ∃ (a : Addr) (xs : List V) (p : PyData) (ps : List PyData), vs = [.ref a] ∧ (SqL K H a xs ∨ SqT K H a xs) ∧ DpAll K H xs (p :: ps) ∧
  PySem.W.AlikeAll (p :: ps) ∧ PyData.depthAll (p :: ps) ≤ 60 ∧ ∀ (i : Nat) (v : V), xs[i]? = some v → (p :: ps)[i]? = some (best p ps) → Q v H
section
variable {X : Cx}
theorem best_end {pins : List (Addr × Obj)} {σ : St} {H : Hp} {s : Shared} {h' : Heap} {tk : Nat} {xs : List V} {its : List Value} {p b : PyData} {ps : List PyData} {Q : VK} (I : Inv X pins σ H s) (rv : Vals xs its) (hd : DpAll X.K H xs (p :: ps)) (al : PySem.W.AlikeAll (p :: ps)) (hb : b ∈ p :: ps)
    (q : ∀ (i : Nat) (v : V), xs[i]? = some v → (p :: ps)[i]? = some b → Q v H) {i : Nat} {u : Value} {bs : List Addr} (hv : its[i]? = some u) (hr : Reads h' u b bs) (hk : ∀ b o, s.heap.get? b = some o → h'.get? b = some o) :
    EP X pins σ Q u { s with heap := h', toks := tk } := by
  obtain ⟨v, e1, r1⟩ := vals_get rv hv
  obtain ⟨d, e2, h2⟩ := dpAll_get hd e1
  obtain ⟨as, r2⟩ := Dp.reads I d v u h2 r1
  have := PySem.W.alike_unique d b u as bs (al.1 d (List.mem_of_getElem? e2) b hb) (PySem.W.reads_keeps hk r2) hr
  subst this
  exact ⟨v, H, I.kept hk, r1, q i v e1 e2⟩
theorem cr_minP (hc : X.calm = true) (hu : X.A.units + 64 < cLine) : CallR X (.builtin "min") (rBestP PySem.W.minD X.K) := by
  intro pins s σ H vs us Q I r h
  obtain ⟨a, xs, p, ps, rfl, hs, hd, al, dp, q⟩ := h
  rw [Vals.ref1 r]
  rcases hs with hs | hs
  · obtain ⟨its, rv, hl, _⟩ := I.list hs
    obtain ⟨as, hr⟩ := Dp.readsAll I _ xs its hd rv
    exact PySem.W.min_list_data (I.ok.hd hc) hl.isList hr al (by omega) fun i v h' tk bs hv hr hk => best_end I rv hd al (minD_mem _ _) q (by simpa using hv) hr hk
  · obtain ⟨its, rv, ⟨o, ho, hc1, n, hdd⟩, _⟩ := I.tuple hs
    obtain ⟨as, hr⟩ := Dp.readsAll I _ xs its hd rv
    exact PySem.W.min_tuple_data (I.ok.hd hc) ⟨o, ho, hc1, n, hdd⟩ hr al (by omega) fun i v h' tk bs hv hr hk => best_end I rv hd al (minD_mem _ _) q (by simpa using hv) hr hk
theorem cr_maxP (hc : X.calm = true) (hu : X.A.units + 64 < cLine) : CallR X (.builtin "max") (rBestP PySem.W.maxD X.K) := by
  intro pins s σ H vs us Q I r h
  obtain ⟨a, xs, p, ps, rfl, hs, hd, al, dp, q⟩ := h
  rw [Vals.ref1 r]
  rcases hs with hs | hs
  · obtain ⟨its, rv, hl, _⟩ := I.list hs
    obtain ⟨as, hr⟩ := Dp.readsAll I _ xs its hd rv
    exact PySem.W.max_list_data (I.ok.hd hc) hl.isList hr al (by omega) fun i v h' tk bs hv hr hk => best_end I rv hd al (maxD_mem _ _) q (by simpa using hv) hr hk
  · obtain ⟨its, rv, ⟨o, ho, hc1, n, hdd⟩, _⟩ := I.tuple hs
    obtain ⟨as, hr⟩ := Dp.readsAll I _ xs its hd rv
    exact PySem.W.max_tuple_data (I.ok.hd hc) ⟨o, ho, hc1, n, hdd⟩ hr al (by omega) fun i v h' tk bs hv hr hk => best_end I rv hd al (maxD_mem _ _) q (by simpa using hv) hr hk
/-! ### comparisons -/
def rCmpP (f : PyData → PyData → Bool) (K : PySem.W.Frag) : R2 := fun x y H Q => ∃ d e, Dp K H x d ∧ Dp K H y e ∧ PySem.W.alike d e = true ∧ d ≠ .none ∧ d.depth ≤ 60 ∧ Q (.bl (f d e)) H
theorem op_ltP (hu : X.A.units + 64 < cLine) : OpR X (compareOp .Lt) (rCmpP (fun d e => PySem.W.dataLt d e) X.K) := by
  intro pins s σ H x y v u Q I rx ry h
  obtain ⟨d, e, hd, he, al, nn, dp, q⟩ := h
  obtain ⟨as, r1⟩ := Dp.reads I d x v hd rx
  obtain ⟨bs, r2⟩ := Dp.reads I e y u he ry
  exact PySem.W.lt_data r1 r2 al nn (by have := Nat.min_le_left d.depth e.depth; omega) ⟨.bl _, H, I, rfl, q⟩
theorem op_gtP (hu : X.A.units + 64 < cLine) : OpR X (compareOp .Gt) (rCmpP (fun d e => PySem.W.dataLt e d) X.K) := by
  intro pins s σ H x y v u Q I rx ry h
  obtain ⟨d, e, hd, he, al, nn, dp, q⟩ := h
  obtain ⟨as, r1⟩ := Dp.reads I d x v hd rx
  obtain ⟨bs, r2⟩ := Dp.reads I e y u he ry
  exact PySem.W.gt_data r1 r2 al nn (by have := Nat.min_le_left d.depth e.depth; omega) ⟨.bl _, H, I, rfl, q⟩
theorem op_leP (hu : X.A.units + 64 < cLine) : OpR X (compareOp .LtE) (rCmpP (fun d e => !PySem.W.dataLt e d) X.K) := by
  intro pins s σ H x y v u Q I rx ry h
  obtain ⟨d, e, hd, he, al, nn, dp, q⟩ := h
  obtain ⟨as, r1⟩ := Dp.reads I d x v hd rx
  obtain ⟨bs, r2⟩ := Dp.reads I e y u he ry
  exact PySem.W.le_data r1 r2 al nn (by have := Nat.min_le_left d.depth e.depth; omega) ⟨.bl _, H, I, rfl, q⟩
theorem op_geP (hu : X.A.units + 64 < cLine) : OpR X (compareOp .GtE) (rCmpP (fun d e => !PySem.W.dataLt d e) X.K) := by
  intro pins s σ H x y v u Q I rx ry h
  obtain ⟨d, e, hd, he, al, nn, dp, q⟩ := h
  obtain ⟨as, r1⟩ := Dp.reads I d x v hd rx
  obtain ⟨bs, r2⟩ := Dp.reads I e y u he ry
  exact PySem.W.ge_data r1 r2 al nn (by have := Nat.min_le_left d.depth e.depth; omega) ⟨.bl _, H, I, rfl, q⟩
/-! ### sorted -/
theorem each_vals {β : Type} (f : β → V) : ∀ {us : List Value} {bs : List β}, PySem.W.EachIs (fun u b => RelV (f b) u) us bs → Vals (bs.map f) us
  | _, _, .nil => .nil
  | _, _, .cons h t => .cons h (each_vals f t)
theorem vals_each {β : Type} (f : β → V) : ∀ {us : List Value} {bs : List β}, Vals (bs.map f) us → PySem.W.EachIs (fun u b => RelV (f b) u) us bs
  | [], [], _ => .nil
  | _ :: _, _ :: _, .cons h t => .cons h (vals_each f t)
/-- β: what the items stand for, with its value and its reading -/
def rSortP (K : PySem.W.Frag) : List V → Hp → VK → Prop := fun vs H Q => ∃ (a : Addr) (bs : List (V × PyData)), vs = [.ref a] ∧ SqL K H a (bs.map (·.1)) ∧ (∀ b ∈ bs, Dp K H b.1 b.2) ∧ PySem.W.AllAlike (bs.map (·.2)) ∧ PySem.W.Sortable (bs.map (·.2)) ∧ (∀ b ∈ bs, b.2.depth ≤ 60) ∧
  ∀ p, H p = none → Q (.ref p) (upd H p (.lst ((bs.mergeSort (PySem.W.dataLe false (·.2))).map (·.1))))
theorem cr_sortP (hu : X.A.units + 64 < cLine) : CallR X (.builtin "sorted") (rSortP X.K) := by
  intro pins s σ H vs us Q I r h
  obtain ⟨a, bs, rfl, hs, hd, al, so, dp, q⟩ := h
  rw [Vals.ref1 r]
  obtain ⟨its, rv, hl, hz⟩ := I.list hs
  have e := vals_each (fun b : V × PyData => b.1) rv
  have er : ∀ {us : List Value} {cs : List (V × PyData)}, PySem.W.EachIs (fun u (b : V × PyData) => RelV b.1 u) us cs → (∀ b ∈ cs, Dp X.K H b.1 b.2) → PySem.W.EachIs (fun u (b : V × PyData) => ∃ as, Reads s.heap u b.2 as) us cs := by
    intro us cs e
    induction e with
    | nil => intro _; exact .nil
    | cons h1 _ ih => intro hd; exact .cons (Dp.reads I _ _ _ (hd _ List.mem_cons_self) h1) (ih fun b hb => hd b (List.mem_cons_of_mem _ hb))
  refine PySem.W.sorted_data hl.isList e (er e hd) al so (by rw [List.length_map] at hz; exact hz) (fun b hb => by have := dp b hb; omega) fun out h1 h2 => ?_
  obtain ⟨ep, he'⟩ := PyProof.Rows.sortedAll_at s.heap its out.toArray
  have hlen : ((bs.mergeSort (PySem.W.dataLe false (·.2))).map (·.1)).length ≤ sizeLine := by
    rw [List.length_map, List.length_mergeSort]
    rw [List.length_map] at hz
    exact hz
  exact ⟨.ref _, upd H (s.heap.objs.size + 1) (.lst ((bs.mergeSort (PySem.W.dataLe false (·.2))).map (·.1))), I.laid (t' := s.toks) (fun _ _ => PyProof.Rows.sortedAll_old) (Nat.le_succ _) ⟨hlen, out, ep, each_vals (fun b : V × PyData => b.1) h2, he'⟩, rfl, q _ (I.hok.fresh (Nat.le_succ _))⟩
end
end Fw
set_option Elab.async false
set_option linter.all false
set_option maxRecDepth 100000
set_option maxHeartbeats 1000000
/-! Fw00: dicts whose keys are nested tuples: the object, reading, asking, storing. -/
namespace Fw
open PySem PySem.Spec PyProof.Rows L2
mutual
/-- keys without texts -/
def plainK : NestedKey → Bool
  | .none => true
  | .num _ => true
  | .text _ => false
  | .tup ks => plainKs ks
def plainKs : List NestedKey → Bool
  | [] => true
  | k :: ks => plainK k && plainKs ks
end
mutual
def hsh : NestedKey → Int
  | .none => reduceHash 0xFCA86420
  | .num i => hashInt i
  | .text _ => 0
  | .tup ks => reduceHash (Builtin.Tuple.tupleHashOf (hshs ks))
def hshs : List NestedKey → List Int
  | [] => []
  | k :: ks => hsh k :: hshs ks
end
mutual
theorem hsh_eq (w : World) : ∀ k : NestedKey, plainK k = true → k.hash w = hsh k
  | .none, _ => rfl
  | .num _, _ => rfl
  | .text _, h => nomatch h
  | .tup ks, h => by
    show reduceHash (Builtin.Tuple.tupleHashOf (NestedKey.hashes w ks)) = reduceHash (Builtin.Tuple.tupleHashOf (hshs ks))
    rw [hshs_eq w ks h]
theorem hshs_eq (w : World) : ∀ ks : List NestedKey, plainKs ks = true → NestedKey.hashes w ks = hshs ks
  | [], _ => rfl
  | k :: ks, h => by
    have h := Bool.and_eq_true_iff.mp h
    show NestedKey.hash w k :: NestedKey.hashes w ks = hsh k :: hshs ks
    rw [hsh_eq w k h.1, hshs_eq w ks h.2]
end
theorem sameK {K : PySem.W.Frag} {H H' : Hp} {a : Addr} {xs : List V} (e : Same H H') (h : SqT K H a xs) : SqT K H' a xs := by
  rcases h with h | h
  · rcases h with h | ⟨o, h⟩
    · exact Or.inl (Or.inl (e a _ h))
    · exact Or.inl (Or.inr ⟨o, e a _ h⟩)
  · exact Or.inr h
/-- a key's tuple in the abstract heap -/
inductive KeyV (K : PySem.W.Frag) (H : Hp) : NestedKey → V → Prop
  | none : KeyV K H .none .non
  | int (i : Int) : KeyV K H (.num i) (.int i)
  | tup {a : Addr} {vs : List V} {ks : List NestedKey} : SqT K H a vs → ks.length = vs.length → (∀ (i : Nat) (k : NestedKey) (v : V), ks[i]? = some k → vs[i]? = some v → KeyV K H k v) → KeyV K H (.tup ks) (.ref a)
theorem KeyV.mono {K : PySem.W.Frag} {H H' : Hp} (e : Same H H') {k : NestedKey} {v : V} (h : KeyV K H k v) : KeyV K H' k v := by
  induction h with
  | none => exact .none
  | int i => exact .int i
  | tup h l _ ih => exact .tup (sameK e h) l ih
theorem nestedAll_of {h : Heap} : ∀ {ks : List NestedKey} {us : List Value}, ks.length = us.length → (∀ (i : Nat) (k : NestedKey) (u : Value), ks[i]? = some k → us[i]? = some u → NestedIs h k u) → NestedAll h ks us
  | [], [], _, _ => .nil
  | k :: ks, u :: us, l, q => .cons (q 0 k u rfl rfl) (nestedAll_of (by simpa using l) fun i k u e1 e2 => q (i + 1) k u (by simpa using e1) (by simpa using e2))
  | [], _ :: _, l, _ => by simp at l
  | _ :: _, [], l, _ => by simp at l
theorem KeyV.nested {X : Cx} {pins : List (Addr × Obj)} {σ : L2.St} {H : Hp} {s : Shared} (I : Inv X pins σ H s) {k : NestedKey} {v : V} (h : KeyV X.K H k v) : ∀ {u : Value}, RelV v u → NestedIs s.heap k u := by
  induction h with
  | none => intro u r; cases r; exact .none
  | int i => intro u r; obtain ⟨t, rfl⟩ := r; exact .int i t
  | tup ht l _ ih =>
    intro u r
    cases r
    obtain ⟨its, rv, ⟨o, ho, hc, n, hd⟩, _⟩ := I.tuple ht
    refine .tup ho hc hd (nestedAll_of (by rw [l, rv.length]) fun i k u e1 e2 => ?_)
    obtain ⟨v, e3, r3⟩ := vals_get rv (by simpa using e2)
    exact ih i k v e1 e3 r3
/-- an entry: the key, where its tuple stands, the value -/
abbrev Ent := NestedKey × Addr × V
def entR (p : Ent × Value) : DictEntry := ⟨hsh p.1.1, .ref p.1.2.1, p.2⟩
def phiK (d : Addr) (xs : List Ent) : Heap → Prop := fun h => (d == sysModules) = false ∧ xs.length ≤ 10000000 ∧ (xs.map (·.1)).Nodup ∧ (∀ x ∈ xs, plainK x.1 = true ∧ x.1.depth ≤ 8) ∧
  ∃ us : List Value, Vals (xs.map (·.2.2)) us ∧ ∃ o es ep, h.get? d = some o ∧ o.ExactDict ∧ o.data = .dict es ep ∧ es.toList = (xs.zip us).map entR
def keyO (d : Addr) (xs : List Ent) : HO := .ext (phiK d xs)
theorem keyO_ok {P : Program} {w : World} {H : Hp} {h : Heap} {d : Addr} {xs : List Ent} (p : phiK d xs h) : ObjOk P w H h d (keyO d xs) := by
  refine ⟨p, ?_, ?_⟩
  · obtain ⟨_, _, _, _, us, _, o, es, ep, ho, _⟩ := p
    exact ⟨o, ho⟩
  · rintro h1 h2 ⟨q1, q2, q3, q4, us, q5, o, es, ep, ho, r⟩ k
    exact ⟨q1, q2, q3, q4, us, q5, o, es, ep, k _ ho, r⟩
def kAt (xs : List Ent) (k : NestedKey) : Option (Addr × V) := (xs.find? fun x => decide (x.1 = k)).map (·.2)
def kPut (xs : List Ent) (k : NestedKey) (a : Addr) (v : V) : List Ent := if (kAt xs k).isSome then xs.map (fun x => if x.1 = k then (x.1, x.2.1, v) else x) else xs ++ [(k, a, v)]
/-- the entries' tuples stand -/
def KAll (K : PySem.W.Frag) (H : Hp) (xs : List Ent) : Prop := ∀ x ∈ xs, KeyV K H x.1 (.ref x.2.1)
def rawE (xs : List Ent) (us : List Value) : List (NestedKey × Addr × Value) := (xs.zip us).map fun p => (p.1.1, p.1.2.1, p.2)
theorem zip_keys {xs : List Ent} {us : List Value} (l : xs.length = us.length) : (rawE xs us).map (·.1) = xs.map (·.1) := by
  unfold rawE
  rw [List.map_map]
  have : (xs.zip us).map Prod.fst = xs := List.map_fst_zip (by omega)
  conv => rhs; rw [← this, List.map_map]
  rfl
theorem atKey_raw {xs : List Ent} {us : List Value} (k : NestedKey) (r : Vals (xs.map (·.2.2)) us) : (kAt xs k = none ∧ atKey (rawE xs us) k = none) ∨ ∃ b v u, kAt xs k = some (b, v) ∧ atKey (rawE xs us) k = some (b, u) ∧ RelV v u := by
  induction xs generalizing us with
  | nil => exact .inl ⟨rfl, rfl⟩
  | cons x xs ih =>
    cases r with
    | cons h1 r =>
      rename_i u us
      by_cases hk : x.1 = k
      · refine .inr ⟨x.2.1, x.2.2, u, ?_, ?_, h1⟩
        · simp [kAt, hk]
        · simp [rawE, atKey, hk]
      · rcases ih r with ⟨e1, e2⟩ | ⟨b, v, u', e1, e2, e3⟩
        · refine .inl ⟨?_, ?_⟩
          · simpa [kAt, hk] using e1
          · simpa [rawE, atKey, hk] using e2
        · refine .inr ⟨b, v, u', ?_, ?_, e3⟩
          · simpa [kAt, hk] using e1
          · simpa [rawE, atKey, hk] using e2
theorem dictOfH_of {X : Cx} {pins : List (Addr × Obj)} {σ : L2.St} {H : Hp} {s : Shared} {d : Addr} {xs : List Ent} (I : Inv X pins σ H s) (hd : H d = some (keyO d xs)) (ka : KAll X.K H xs) :
    (d == sysModules) = false ∧ xs.length ≤ 10000000 ∧ ∃ us, Vals (xs.map (·.2.2)) us ∧ s.heap.DictOfH (nestedKind X.prog X.w) d (rawE xs us) := by
  obtain ⟨⟨q1, q2, q3, q4, us, q5, o, es, ep, ho, hc, hdd, he⟩, _, _⟩ := I.hok d _ hd
  have hl : xs.length = us.length := by have := q5.length; simpa using this
  refine ⟨q1, q2, us, q5, o, es, ep, ho, hc, hdd, ?_, ?_, ?_⟩
  · rw [he]
    unfold rawE
    rw [List.map_map]
    refine List.map_congr_left fun p hp => ?_
    have hx : p.1 ∈ xs := (List.of_mem_zip hp).1
    show entR p = (⟨NestedKey.hash X.w p.1.1, .ref p.1.2.1, p.2⟩ : DictEntry)
    rw [hsh_eq X.w _ (q4 _ hx).1]
    rfl
  · intro x hx
    obtain ⟨p, hp, rfl⟩ := List.mem_map.mp hx
    have hx : p.1 ∈ xs := (List.of_mem_zip hp).1
    exact ⟨(ka _ hx).nested I rfl, (q4 _ hx).2⟩
  · rw [zip_keys hl]
    exact q3
abbrev okK (k : NestedKey) : Prop := plainK k = true ∧ k.depth ≤ 8
theorem room8 {A : Around} (hu : A.units + 64 < cLine) {P : Program} {w : World} : (nestedKind P w).room A.in1 := by
  show A.in1.units + 8 < cLine
  show A.units + 1 + 8 < cLine
  omega
section
variable {X : Cx}
def rInK (neg : Bool) (K : PySem.W.Frag) : R2 := fun x y H Q => ∃ d xs a k, x = .ref a ∧ y = .ref d ∧ H d = some (keyO d xs) ∧ KAll K H xs ∧ KeyV K H k (.ref a) ∧ okK k ∧ Q (.bl (neg != (kAt xs k).isSome)) H
theorem some_raw {xs : List Ent} {us : List Value} {k : NestedKey} (r : Vals (xs.map (·.2.2)) us) : (atKey (rawE xs us) k).isSome = (kAt xs k).isSome := by
  rcases atKey_raw k r with ⟨e1, e2⟩ | ⟨b, v, u, e1, e2, _⟩ <;> rw [e1, e2] <;> rfl
theorem op_inK (hu : X.A.units + 64 < cLine) : OpR X (compareOp .In) (rInK false X.K) := by
  intro pins s σ H x y v u Q I rx ry h
  obtain ⟨d, xs, a, k, rfl, rfl, hd, ka, kv, ok, q⟩ := h
  cases rx
  cases ry
  obtain ⟨hs, _, us, r, hm⟩ := dictOfH_of I hd ka
  refine wpAny_in_heap (room8 hu) ⟨kv.nested I rfl, ok.2⟩ hs hm ⟨.bl _, H, I.tok _, rfl, ?_⟩
  rw [some_raw r]
  rwa [Bool.false_bne] at q
theorem op_notInK (hu : X.A.units + 64 < cLine) : OpR X (compareOp .NotIn) (rInK true X.K) := by
  intro pins s σ H x y v u Q I rx ry h
  obtain ⟨d, xs, a, k, rfl, rfl, hd, ka, kv, ok, q⟩ := h
  cases rx
  cases ry
  obtain ⟨hs, _, us, r, hm⟩ := dictOfH_of I hd ka
  show wpAny _ _ (do return Value.bool (!(← contains (.ref d) (.ref a))) : Sem Value) _ _ s
  refine wpAny_bind (wpAny_contains_heap (room8 hu) ⟨kv.nested I rfl, ok.2⟩ hs hm (wpAny_pure ⟨.bl _, H, I.tok _, rfl, ?_⟩))
  rw [some_raw r]
  rwa [Bool.true_bne] at q
def rIxK (K : PySem.W.Frag) : R2 := fun x y H Q => ∃ d xs a k b v, x = .ref d ∧ y = .ref a ∧ H d = some (keyO d xs) ∧ KAll K H xs ∧ KeyV K H k (.ref a) ∧ okK k ∧ kAt xs k = some (b, v) ∧ Q v H
theorem ix_K (hu : X.A.units + 64 < cLine) : IxR X (rIxK X.K) := by
  intro value slice pins s σ H x y v u Q I rx ry h hs
  obtain ⟨d, xs, a, k, b, z, rfl, rfl, hd, ka, kv, ok, e, q⟩ := h
  cases rx
  cases ry
  obtain ⟨hsy, _, us, r, hm⟩ := dictOfH_of I hd ka
  rcases atKey_raw k r with ⟨e1, _⟩ | ⟨b', v', u', e1, e2, e3⟩
  · rw [e] at e1; cases e1
  · rw [e] at e1
    cases e1
    exact subscriptTail_builtinR (x := u') hm.typeIs slot_dict_getitem.lookup
      (wpAny_getItem_heap (Q := fun r s' => r = u' ∧ EP X pins σ Q r s') (room8 hu) ⟨kv.nested I rfl, ok.2⟩ hm e2 ⟨rfl, z, H, I.tok _, e3, q⟩) hs
theorem kPut_keys (xs : List Ent) (k : NestedKey) (a : Addr) (v : V) : (kPut xs k a v).map (·.1) = if (kAt xs k).isSome then xs.map (·.1) else xs.map (·.1) ++ [k] := by
  unfold kPut
  split
  · rw [List.map_map]
    refine List.map_congr_left fun x _ => ?_
    show (if x.1 = k then _ else x).1 = x.1
    split <;> rfl
  · simp
theorem raw_put {xs : List Ent} {us : List Value} {k : NestedKey} {a : Addr} {v : V} {u : Value} (r : Vals (xs.map (·.2.2)) us) (rv : RelV v u) : ∃ us', Vals ((kPut xs k a v).map (·.2.2)) us' ∧ rawE (kPut xs k a v) us' = storedH (rawE xs us) k a u := by
  unfold kPut storedH
  rw [some_raw r]
  split
  · have key : ∀ {xs : List Ent} {us : List Value}, Vals (xs.map (·.2.2)) us → ∃ us', Vals ((xs.map fun x => if x.1 = k then (x.1, x.2.1, v) else x).map (·.2.2)) us' ∧ rawE (xs.map fun x => if x.1 = k then (x.1, x.2.1, v) else x) us' = (rawE xs us).map (putAt k u) := by
      intro xs
      induction xs with
      | nil => intro us r; cases r; exact ⟨[], .nil, rfl⟩
      | cons x xs ih =>
        intro us r
        cases r with
        | cons h1 r =>
          rename_i w us
          obtain ⟨us', r', e⟩ := ih r
          by_cases hk : x.1 = k
          · refine ⟨u :: us', ?_, ?_⟩
            · simp only [List.map_cons, if_pos hk]
              exact .cons rv (by simpa using r')
            · simp only [List.map_cons, if_pos hk, rawE, List.zip_cons_cons, putAt] at e ⊢
              rw [e]
          · refine ⟨w :: us', ?_, ?_⟩
            · simp only [List.map_cons, if_neg hk]
              exact .cons h1 (by simpa using r')
            · simp only [List.map_cons, if_neg hk, rawE, List.zip_cons_cons, putAt] at e ⊢
              rw [e]
    exact key r
  · have hl : xs.length = us.length := by have := r.length; simpa using this
    refine ⟨us ++ [u], ?_, ?_⟩
    · rw [List.map_append]
      exact Vals.append r (.cons rv .nil)
    · unfold rawE
      rw [List.zip_append hl, List.map_append]
      rfl
def rSetK (K : PySem.W.Frag) : V → V → V → Hp → (Hp → Prop) → Prop := fun o i v H Q => ∃ d xs a k, o = .ref d ∧ i = .ref a ∧ H d = some (keyO d xs) ∧ KAll K H xs ∧ KeyV K H k (.ref a) ∧ okK k ∧ (kPut xs k a v).length ≤ 10000000 ∧ Q (upd H d (keyO d (kPut xs k a v)))
theorem set_K (hu : X.A.units + 64 < cLine) : PSet X (rSetK X.K) := by
  intro pins s σ H o i v ov iv u Q I ro ri rv h
  obtain ⟨d, xs, a, k, rfl, rfl, hd, ka, kv, ok, hz, q⟩ := h
  cases ro
  cases ri
  obtain ⟨hsy, hl, us, r, hm⟩ := dictOfH_of I hd ka
  obtain ⟨us', r', e'⟩ := raw_put (k := k) (a := a) r rv
  obtain ⟨q1, q2, q3, q4, _⟩ := (I.hok d _ hd).1
  have hlu : xs.length = us.length := by have := r.length; simpa using this
  have hln : (kPut xs k a v).length = us'.length := by have := r'.length; simpa using this
  refine wpAny_setItem_heap (room8 hu) ⟨kv.nested I rfl, ok.2⟩ hm (fun h' hm' hs => ?_) (by
    unfold rawE
    rw [List.length_map, List.length_zip, ← hlu, Nat.min_self]
    exact Nat.le_trans hl (by decide))
  rw [← e'] at hm'
  obtain ⟨ob, es, ep, ho, hc, hdd, he, his, hnd⟩ := hm'
  have hnk : (kPut xs k a v).map (·.1) = (rawE (kPut xs k a v) us').map (·.1) := (zip_keys hln).symm
  have hpk : ∀ x ∈ kPut xs k a v, plainK x.1 = true ∧ x.1.depth ≤ 8 := by
    intro x hx
    have hx1 : x.1 ∈ (kPut xs k a v).map (·.1) := List.mem_map.mpr ⟨x, hx, rfl⟩
    rw [kPut_keys] at hx1
    have old : ∀ k', k' ∈ xs.map (·.1) → plainK k' = true ∧ k'.depth ≤ 8 := fun k' hk' => by
      obtain ⟨y, hy, rfl⟩ := List.mem_map.mp hk'
      exact q4 y hy
    split at hx1
    · exact old _ hx1
    · rcases List.mem_append.mp hx1 with hx1 | hx1
      · exact old _ hx1
      · rw [List.mem_singleton.mp hx1]; exact ok
  have ph : phiK d (kPut xs k a v) h' := by
    refine ⟨q1, hz, by rw [hnk]; exact hnd, hpk, us', r', ob, es, ep, ho, hc, hdd, ?_⟩
    rw [he]
    unfold rawE
    rw [List.map_map]
    refine List.map_congr_left fun p hp => ?_
    have hx : p.1 ∈ kPut xs k a v := (List.of_mem_zip hp).1
    show (⟨NestedKey.hash X.w p.1.1, .ref p.1.2.1, p.2⟩ : DictEntry) = entR p
    rw [hsh_eq X.w _ (hpk _ hx).1]
    rfl
  exact ⟨_, d_write I (by rw [hd]; exact True.intro) hs ⟨ob, ho⟩ (keyO_ok ph), q⟩
/-- {}, to be such a dict -/
def tDNewN : TE := fun _ H Q => ∀ p, H p = none → Q (.ref p) (upd H p (keyO p []))
theorem pe_dnewN {pos : Pos} : PE X (.Dict [] [] pos) tDNewN := ⟨fun pins s σ H Q I h =>
  wpAny_Dict_empty ⟨.ref s.heap.objs.size, _, I.laid (a := s.heap.objs.size) (o := keyO s.heap.objs.size []) (t' := s.toks) (fun _ _ q => Heap.get?_push_of_some _ q) (Nat.le_refl _)
    (keyO_ok ⟨beq_eq_false_iff_ne.mpr (Ne.symm (Nat.ne_of_lt I.big)), Nat.zero_le _, List.nodup_nil, (fun _ hx => nomatch hx), [], .nil, _, #[], 0, Heap.get?_push_size _ rfl, ⟨rfl, rfl, rfl⟩, rfl, rfl⟩), rfl, h _ (I.hok.fresh (Nat.le_refl _))⟩⟩
end
end Fw
set_option Elab.async false
set_option linter.all false
set_option maxRecDepth 100000
set_option maxHeartbeats 1000000
/-! Fw1: data values, what stands for them in a heap, environments, the judgements. -/
namespace Fw
open PySem L2

/-- data -/
inductive D where
  | non | bl (b : Bool) | int (i : Int) | str (x : Str)
  | tup (xs : List D) | lst (z : Bool) (xs : List D)
  | ins (C : Addr) (ns : List Str) (xs : List D)
  | adr (a : Addr)
  /-- a list that is only read -/
  | sql (xs : List D)
  /-- the draws' box; an instance that is being made; one that keeps a dict -/
  | box | slf (C : Addr) | mem (C : Addr)
  /-- a dict of lists that grow; a dict that stands -/
  | dls | dct (fs : List Str) (xs : List D)
  /-- a list of lists that grow -/
  | lls
  /-- beside the draws: their box (0), a list of rows (1), its rows (2, 3, ..) -/
  | rb (n : Nat)
  /-- an exception that is held -/
  | exn (C : Addr) (fs : List Str) (xs : List D)
  /-- a dict with tuples as keys that stands -/
  | kd (ks vs : List D)

/-- what may be changed while data stand: nothing; the draws' box; an instance that is being made or that keeps a dict -/
inductive Bk where
  | no | draw (x y : Addr) | self (a C : Addr) | memo (a C d : Addr) | dls (a : Addr) (ls : List Addr) | lls (a : Addr) (ls : List Addr) | exn (a dd C : Addr) | drawR (x y a : Addr) (ls : List Addr)
/-- what may be changed, by numbers -/
def nmR : Bk → Nat → Option Addr
  | .drawR x _ _ _, 0 => some x
  | .drawR _ _ a _, 1 => some a
  | .drawR _ _ _ ls, n + 2 => ls[n]?
  | _, _ => none
structure Kx where
  K : PySem.W.Frag
  bx : Bk
  /-- the marked lists: those that somebody may change behind -/
  z : Addr → Bool

def kvD (fs : List Str) (vs : List V) : List (Key × V) := (fs.zip vs).map fun p => (.inr p.1, p.2)
mutual
/-- a datum as a key -/
def nkD : D → Option NestedKey
  | .non => some .none
  | .int i => some (.num i)
  | .tup ds => (nkDs ds).map NestedKey.tup
  | _ => none
def nkDs : List D → Option (List NestedKey)
  | [] => some []
  | d :: ds => (nkD d).bind fun x => (nkDs ds).map fun xs => x :: xs
end
/-- a dict's keys, as data and in the heap -/
def KsR (ks : List D) (xs : List Ent) : Prop := ks.map nkD = xs.map (fun e => some e.1) ∧ ∀ e ∈ xs, okK e.1
mutual
inductive Is (k : Kx) (H : Hp) : D → V → Prop
  | non : Is k H .non .non
  | bl (b : Bool) : Is k H (.bl b) (.bl b)
  | int (i : Int) : Is k H (.int i) (.int i)
  | str (x : Str) : Is k H (.str x) (.str x)
  | tup {a : Addr} {vs : List V} {ds : List D} : SqT k.K H a vs → IsL k H ds vs → Is k H (.tup ds) (.ref a)
  | lst {a : Addr} {vs : List V} {ds : List D} {z : Bool} : H a = some (.lst vs) → k.z a = z → IsL k H ds vs → Is k H (.lst z ds) (.ref a)
  | ins {a dx C : Addr} {ns : List Str} {vs : List V} {ds : List D} : H a = some (.ins C dx (ns.zip vs)) → ns.length = vs.length → IsL k H ds vs → Is k H (.ins C ns ds) (.ref a)
  | adr (a : Addr) : Is k H (.adr a) (.ref a)
  | sql {a : Addr} {vs : List V} {ds : List D} : SqL k.K H a vs → IsL k H ds vs → Is k H (.sql ds) (.ref a)
  | box {x y : Addr} : k.bx = .draw x y → Is k H .box (.ref x)
  | slf {a C : Addr} : k.bx = .self a C → Is k H (.slf C) (.ref a)
  | mem {a C d : Addr} : k.bx = .memo a C d → Is k H (.mem C) (.ref a)
  | dls {a : Addr} {ls : List Addr} : k.bx = .dls a ls → Is k H .dls (.ref a)
  | lls {a : Addr} {ls : List Addr} : k.bx = .lls a ls → Is k H .lls (.ref a)
  | rb {n : Nat} {a : Addr} : nmR k.bx n = some a → Is k H (.rb n) (.ref a)
  | exn {a dd C : Addr} {fs : List Str} {vs : List V} {ds : List D} : k.bx = .exn a dd C → H dd = some (.xd (fs.zip vs)) → fs.length = vs.length → IsL k H ds vs → Is k H (.exn C fs ds) (.ref a)
  | dct {a : Addr} {fs : List Str} {vs : List V} {ds : List D} : H a = some (.dK (kvD fs vs)) → fs.length = vs.length → IsL k H ds vs → Is k H (.dct fs ds) (.ref a)
  | kd {a : Addr} {o : Obj} {xs : List Ent} {ks vs : List D} : H a = some (.frz o (keyO a xs)) → KsR ks xs → IsL k H ks (xs.map fun e => V.ref e.2.1) → IsL k H vs (xs.map fun e => e.2.2) → Is k H (.kd ks vs) (.ref a)
inductive IsL (k : Kx) (H : Hp) : List D → List V → Prop
  | nil : IsL k H [] []
  | cons {d : D} {v : V} {ds : List D} {vs : List V} : Is k H d v → IsL k H ds vs → IsL k H (d :: ds) (v :: vs)
end

theorem same_rd {H H' : Hp} {a : Addr} {u : HO} (e : Same H H') (h : Rd H a u) : Rd H' a u := by
  rcases h with h | ⟨o, h⟩
  · exact Or.inl (e a _ h)
  · exact Or.inr ⟨o, e a _ h⟩
theorem same_l {K : PySem.W.Frag} {H H' : Hp} {a : Addr} {xs : List V} (e : Same H H') (h : SqL K H a xs) : SqL K H' a xs := e.seq h
theorem same_t {K : PySem.W.Frag} {H H' : Hp} {a : Addr} {xs : List V} (e : Same H H') (h : SqT K H a xs) : SqT K H' a xs := by
  rcases h with h | h
  · exact Or.inl (same_rd e h)
  · exact Or.inr h

section
variable {k : Kx} {H H' : Hp}
mutual
theorem Is.mono (e : Same H H') : ∀ {d : D} {v : V}, Is k H d v → Is k H' d v
  | _, _, .non => .non
  | _, _, .bl b => .bl b
  | _, _, .int b => .int b
  | _, _, .str b => .str b
  | _, _, .tup h l => .tup (same_t e h) (IsL.mono e l)
  | _, _, .lst h q l => .lst (e _ _ h) q (IsL.mono e l)
  | _, _, .ins h n l => .ins (e _ _ h) n (IsL.mono e l)
  | _, _, .adr a => .adr a
  | _, _, .sql h l => .sql (same_l e h) (IsL.mono e l)
  | _, _, .box h => .box h
  | _, _, .slf h => .slf h
  | _, _, .mem h => .mem h
  | _, _, .dls h => .dls h
  | _, _, .lls h => .lls h
  | _, _, .rb h => .rb h
  | _, _, .dct h q l => .dct (e _ _ h) q (IsL.mono e l)
  | _, _, .exn hb h q l => .exn hb (e _ _ h) q (IsL.mono e l)
  | _, _, .kd h r l1 l2 => .kd (e _ _ h) r (IsL.mono e l1) (IsL.mono e l2)
theorem IsL.mono (e : Same H H') : ∀ {ds : List D} {vs : List V}, IsL k H ds vs → IsL k H' ds vs
  | _, _, .nil => .nil
  | _, _, .cons h l => .cons (Is.mono e h) (IsL.mono e l)
end
mutual
/-- data in which no box stands -/
def clean : D → Bool
  | .tup xs => cleanL xs
  | .lst _ xs => cleanL xs
  | .ins _ _ xs => cleanL xs
  | .sql xs => cleanL xs
  | .box => false
  | .slf _ => false
  | .mem _ => false
  | .dls => false
  | .lls => false
  | .rb _ => false
  | .dct _ xs => cleanL xs
  | .exn _ _ _ => false
  | .kd ks vs => cleanL ks && cleanL vs
  | _ => true
def cleanL : List D → Bool
  | [] => true
  | d :: ds => clean d && cleanL ds
end
mutual
theorem Is.rebox {K : PySem.W.Frag} {bx bx' : Bk} {z : Addr → Bool} : ∀ {d : D} {v : V}, clean d = true → Is ⟨K, bx, z⟩ H d v → Is ⟨K, bx', z⟩ H d v
  | _, _, _, .non => .non
  | _, _, _, .bl b => .bl b
  | _, _, _, .int b => .int b
  | _, _, _, .str b => .str b
  | _, _, c, .tup h l => .tup h (IsL.rebox c l)
  | _, _, c, .lst h q l => .lst h q (IsL.rebox c l)
  | _, _, c, .ins h n l => .ins h n (IsL.rebox c l)
  | _, _, _, .adr a => .adr a
  | _, _, c, .sql h l => .sql h (IsL.rebox c l)
  | _, _, c, .box h => nomatch c
  | _, _, c, .slf h => nomatch c
  | _, _, c, .mem h => nomatch c
  | _, _, c, .dls h => nomatch c
  | _, _, c, .lls h => nomatch c
  | _, _, c, .rb h => nomatch c
  | _, _, c, .dct h q l => .dct h q (IsL.rebox c l)
  | _, _, c, .exn _ _ _ _ => nomatch c
  | _, _, c, .kd h r l1 l2 => by
    have c := Bool.and_eq_true_iff.mp c
    exact .kd h r (IsL.rebox c.1 l1) (IsL.rebox c.2 l2)
theorem IsL.rebox {K : PySem.W.Frag} {bx bx' : Bk} {z : Addr → Bool} : ∀ {ds : List D} {vs : List V}, cleanL ds = true → IsL ⟨K, bx, z⟩ H ds vs → IsL ⟨K, bx', z⟩ H ds vs
  | _, _, _, .nil => .nil
  | _, _, c, .cons h l => by
    have c := Bool.and_eq_true_iff.mp c
    exact .cons (Is.rebox c.1 h) (IsL.rebox c.2 l)
end
theorem IsL.length {ds : List D} {vs : List V} (h : IsL k H ds vs) : ds.length = vs.length := by
  induction ds generalizing vs with
  | nil => cases h; rfl
  | cons d ds ih => cases h with | cons h l => simp [ih l]
theorem IsL.get {ds : List D} {vs : List V} {i : Nat} {d : D} (h : IsL k H ds vs) (e : ds[i]? = some d) : ∃ v, vs[i]? = some v ∧ Is k H d v := by
  induction ds generalizing vs i with
  | nil => simp at e
  | cons a ds ih =>
    cases h with
    | cons h l =>
      cases i with
      | zero => simp at e; subst e; exact ⟨_, rfl, h⟩
      | succ i => simpa using ih l (by simpa using e)
theorem IsL.getV {ds : List D} {vs : List V} {i : Nat} {v : V} (h : IsL k H ds vs) (e : vs[i]? = some v) : ∃ d, ds[i]? = some d ∧ Is k H d v := by
  induction ds generalizing vs i with
  | nil => cases h; simp at e
  | cons a ds ih =>
    cases h with
    | cons h l =>
      cases i with
      | zero => simp at e; subst e; exact ⟨_, rfl, h⟩
      | succ i => simpa using ih l (by simpa using e)
theorem IsL.app {ds es : List D} {vs us : List V} (h : IsL k H ds vs) (l : IsL k H es us) : IsL k H (ds ++ es) (vs ++ us) := by
  induction ds generalizing vs with
  | nil => cases h; exact l
  | cons a ds ih => cases h with | cons h q => exact .cons h (ih q)
theorem IsL.set {ds : List D} {vs : List V} {i : Nat} {d : D} {v : V} (h : IsL k H ds vs) (r : Is k H d v) : IsL k H (ds.set i d) (vs.set i v) := by
  induction ds generalizing vs i with
  | nil => cases h; exact .nil
  | cons a ds ih =>
    cases h with
    | cons h l =>
      cases i with
      | zero => exact .cons r l
      | succ i => exact .cons h (ih l)
theorem IsL.take {ds : List D} {vs : List V} (n : Nat) (h : IsL k H ds vs) : IsL k H (ds.take n) (vs.take n) := by
  induction ds generalizing vs n with
  | nil => cases h; simp; exact .nil
  | cons a ds ih =>
    cases h with
    | cons h l =>
      cases n with
      | zero => exact .nil
      | succ n => exact .cons h (ih n l)
theorem IsL.drop {ds : List D} {vs : List V} (n : Nat) (h : IsL k H ds vs) : IsL k H (ds.drop n) (vs.drop n) := by
  induction ds generalizing vs n with
  | nil => cases h; simp; exact .nil
  | cons a ds ih =>
    cases h with
    | cons h l =>
      cases n with
      | zero => exact .cons h l
      | succ n => exact ih n l
theorem IsL.rep {d : D} {v : V} (n : Nat) (h : Is k H d v) : IsL k H (List.replicate n d) (List.replicate n v) := by
  induction n with
  | zero => exact .nil
  | succ n ih => exact .cons h ih
theorem IsL.eraseIdx {ds : List D} {vs : List V} (n : Nat) (h : IsL k H ds vs) : IsL k H (ds.eraseIdx n) (vs.eraseIdx n) := by
  induction ds generalizing vs n with
  | nil => cases h; exact .nil
  | cons a ds ih =>
    cases h with
    | cons h l =>
      cases n with
      | zero => exact l
      | succ n => exact .cons h (ih n l)
theorem IsL.ints : ∀ (ns : List Int), IsL k H (ns.map D.int) (ns.map V.int)
  | [] => .nil
  | n :: ns => .cons (.int n) (IsL.ints ns)
theorem IsL.ints_inv : ∀ {ns : List Int} {vs : List V}, IsL k H (ns.map D.int) vs → vs = ns.map V.int
  | [], _, h => by cases h; rfl
  | n :: ns, _, h => by cases h with | cons h l => cases h; rw [IsL.ints_inv l]; rfl
end

/-! ### the draw box and the frozen part -/
structure Bx where
  ns : List Int
  st : Int
  fs : List Str
  ds : List D
  mm : List (D × D)
  ls : List (List D)

/-- growing lists -/
def DL (k : Kx) (H0 H : Hp) : List Addr → List (List D) → Prop
  | [], [] => True
  | l :: ls, ds :: dss => (k.z l = false ∧ H0 l = none ∧ ∃ vs, H l = some (.lst vs) ∧ IsL k H0 ds vs) ∧ DL k H0 H ls dss
  | _, _ => False
theorem DL.move {k : Kx} {H0 H H0' H' : Hp} (e : Same H0 H0') : ∀ {ls : List Addr} {dss : List (List D)}, DL k H0 H ls dss → (∀ l ∈ ls, H0' l = none) → (∀ l o, l ∈ ls → H l = some o → H' l = some o) → DL k H0' H' ls dss
  | [], [], _, _, _ => trivial
  | l :: ls, ds :: dss, ⟨⟨hz, h0, vs, h1, h2⟩, r⟩, n, q => ⟨⟨hz, n l List.mem_cons_self, vs, q l _ List.mem_cons_self h1, h2.mono e⟩, DL.move e r (fun l hl => n l (List.mem_cons_of_mem _ hl)) fun l o hl => q l o (List.mem_cons_of_mem _ hl)⟩
  | [], _ :: _, h, _, _ => h.elim
  | _ :: _, [], h, _, _ => h.elim
theorem DL.there {k : Kx} {H0 H : Hp} : ∀ {ls : List Addr} {dss : List (List D)} {l : Addr}, DL k H0 H ls dss → l ∈ ls → H0 l = none ∧ H l ≠ none
  | _ :: _, _ :: _, _, ⟨⟨hz, h0, vs, h1, h2⟩, r⟩, m => by
    rcases List.mem_cons.mp m with rfl | m
    · exact ⟨h0, by rw [h1]; simp⟩
    · exact DL.there r m
  | [], _, _, _, m => nomatch m
  | _ :: _, [], _, h, _ => h.elim

/-- the entries of a dict that is kept -/
inductive MM (k : Kx) (H0 : Hp) : List Ent → List (D × D) → Prop
  | nil : MM k H0 [] []
  | cons {n : NestedKey} {a : Addr} {v : V} {kd vd : D} {xs : List Ent} {mm : List (D × D)} : nkD kd = some n → okK n → Is k H0 kd (.ref a) → Is k H0 vd v → MM k H0 xs mm → MM k H0 ((n, a, v) :: xs) ((kd, vd) :: mm)
theorem MM.mono {k : Kx} {H H' : Hp} (e : Same H H') {xs : List Ent} {mm : List (D × D)} (h : MM k H xs mm) : MM k H' xs mm := by
  induction h with
  | nil => exact .nil
  | cons h1 h2 h3 h4 _ ih => exact .cons h1 h2 (h3.mono e) (h4.mono e) ih
def BoxOk (k : Kx) (H0 H : Hp) (b : Bx) : Prop := match k.bx with
  | .no => True
  | .draw x y => x ≠ y ∧ H0 x = none ∧ H0 y = none ∧ H x = some (.lst [.ref y, .int b.st]) ∧ H y = some (.lst (b.ns.map V.int))
  | .self a C => H0 a = none ∧ ∃ dx vs, H a = some (.ins C dx (b.fs.zip vs)) ∧ b.fs.length = vs.length ∧ IsL k H0 b.ds vs
  | .memo a C d => H0 a = none ∧ ∃ dx vs, H a = some (.ins C dx (b.fs.zip (vs ++ [.ref d]))) ∧ b.fs.length = vs.length + 1 ∧ IsL k H0 b.ds vs ∧ H0 d = none ∧ a ≠ d ∧ ∃ xs, H d = some (keyO d xs) ∧ MM k H0 xs b.mm
  | .dls a ls => H0 a = none ∧ a ∉ ls ∧ ls.Nodup ∧ b.fs.length = ls.length ∧ H a = some (.dK (kvD b.fs (ls.map V.ref))) ∧ DL k H0 H ls b.ls
  | .lls a ls => H0 a = none ∧ a ∉ ls ∧ ls.Nodup ∧ H a = some (.lst (ls.map V.ref)) ∧ DL k H0 H ls b.ls
  | .exn _ _ _ => True
  | .drawR x y a ls => (x ≠ y ∧ H0 x = none ∧ H0 y = none ∧ H x = some (.lst [.ref y, .int b.st]) ∧ H y = some (.lst (b.ns.map V.int))) ∧ (x ≠ a ∧ y ≠ a ∧ x ∉ ls ∧ y ∉ ls) ∧ k.z a = false ∧ H0 a = none ∧ a ∉ ls ∧ ls.Nodup ∧ H a = some (.lst (ls.map V.ref)) ∧ DL k H0 H ls b.ls
def InB (bx : Bk) (a : Addr) : Prop := match bx with
  | .no => False
  | .draw x y => a = x ∨ a = y
  | .self x _ => a = x
  | .memo x _ d => a = x ∨ a = d
  | .dls x ls => a = x ∨ a ∈ ls
  | .lls x ls => a = x ∨ a ∈ ls
  | .exn _ _ _ => False
  | .drawR x y c ls => a = x ∨ a = y ∨ a = c ∨ a ∈ ls
theorem BoxOk.at {k : Kx} {H0 H : Hp} {b : Bx} {a : Addr} (h : BoxOk k H0 H b) (i : InB k.bx a) : H0 a = none ∧ H a ≠ none := by
  unfold BoxOk at h
  revert h i
  cases k.bx with
  | no => intro _ i; exact i.elim
  | draw x y =>
    rintro ⟨h1, h2, h3, h4, h5⟩ (rfl | rfl)
    · exact ⟨h2, by rw [h4]; simp⟩
    · exact ⟨h3, by rw [h5]; simp⟩
  | self x C =>
    rintro ⟨h1, dx, vs, h2, _⟩ i
    have i : a = x := i
    subst i
    exact ⟨h1, by rw [h2]; simp⟩
  | memo x C d =>
    rintro ⟨h1, dx, vs, h2, _, _, h3, _, xs, h4, _⟩ (rfl | rfl)
    · exact ⟨h1, by rw [h2]; simp⟩
    · exact ⟨h3, by rw [h4]; simp⟩
  | dls x ls =>
    rintro ⟨h1, _, _, _, h2, h3⟩ (rfl | i)
    · exact ⟨h1, by rw [h2]; simp⟩
    · exact h3.there i
  | lls x ls =>
    rintro ⟨h1, _, _, h2, h3⟩ (rfl | i)
    · exact ⟨h1, by rw [h2]; simp⟩
    · exact h3.there i
  | exn a dd C => intro _ i; exact i.elim
  | drawR x y c ls =>
    rintro ⟨⟨h1, h2, h3, h4, h5⟩, _, _, h6, _, _, h7, h8⟩ (rfl | rfl | rfl | i)
    · exact ⟨h2, by rw [h4]; simp⟩
    · exact ⟨h3, by rw [h5]; simp⟩
    · exact ⟨h6, by rw [h7]; simp⟩
    · exact h8.there i
/-- the box reads alone its own objects and what is frozen -/
theorem BoxOk.move {k : Kx} {H0 H H0' H' : Hp} {b : Bx} (h : BoxOk k H0 H b) (e : Same H0 H0') (n : ∀ a, InB k.bx a → H0' a = none) (q : ∀ a o, InB k.bx a → H a = some o → H' a = some o) : BoxOk k H0' H' b := by
  unfold BoxOk at h ⊢
  revert h n q
  cases k.bx with
  | no => intro _ _ _; trivial
  | draw x y =>
    rintro ⟨h1, h2, h3, h4, h5⟩ n q
    exact ⟨h1, n x (.inl rfl), n y (.inr rfl), q _ _ (.inl rfl) h4, q _ _ (.inr rfl) h5⟩
  | self x C =>
    rintro ⟨h1, dx, vs, h2, h3, h4⟩ n q
    exact ⟨n x rfl, dx, vs, q _ _ rfl h2, h3, h4.mono e⟩
  | memo x C d =>
    rintro ⟨h1, dx, vs, h2, h3, h4, h5, h6, xs, h7, h8⟩ n q
    exact ⟨n x (.inl rfl), dx, vs, q _ _ (.inl rfl) h2, h3, h4.mono e, n d (.inr rfl), h6, xs, q _ _ (.inr rfl) h7, h8.mono e⟩
  | dls x ls =>
    rintro ⟨h1, h2, h3, h4, h5, h6⟩ n q
    exact ⟨n x (.inl rfl), h2, h3, h4, q _ _ (.inl rfl) h5, h6.move e (fun l hl => n l (.inr hl)) fun l o hl => q l o (.inr hl)⟩
  | lls x ls =>
    rintro ⟨h1, h2, h3, h5, h6⟩ n q
    exact ⟨n x (.inl rfl), h2, h3, q _ _ (.inl rfl) h5, h6.move e (fun l hl => n l (.inr hl)) fun l o hl => q l o (.inr hl)⟩
  | exn a dd C => intro _ _ _; trivial
  | drawR x y c ls =>
    rintro ⟨⟨h1, h2, h3, h4, h5⟩, hd, hz, h6, h9, h10, h7, h8⟩ n q
    exact ⟨⟨h1, n x (.inl rfl), n y (.inr (.inl rfl)), q _ _ (.inl rfl) h4, q _ _ (.inr (.inl rfl)) h5⟩, hd, hz, n c (.inr (.inr (.inl rfl))), h9, h10, q _ _ (.inr (.inr (.inl rfl))) h7, h8.move e (fun l hl => n l (.inr (.inr (.inr hl)))) fun l o hl => q l o (.inr (.inr (.inr hl)))⟩

/-- from (H0, H) to (H0', H'): the frozen part grows by new things alone, all but the box stays -/
structure Tr (bx : Bk) (H0 H H0' H' : Hp) : Prop where
  ext : Same H0 H0'
  sub : Same H0' H'
  keep : ∀ a o, H a = some o → ¬ InB bx a → H' a = some o
  there : ∀ a, H a ≠ none → H' a ≠ none
  new : ∀ a, H0 a = none → H a ≠ none → ¬ InB bx a → H0' a = none
theorem Tr.refl {bx : Bk} {H0 H : Hp} (s : Same H0 H) : Tr bx H0 H H0 H := ⟨Same.refl _, s, fun _ _ h _ => h, fun _ h => h, fun _ h _ _ => h⟩
theorem Tr.trans {bx : Bk} {A B A1 B1 A2 B2 : Hp} (t : Tr bx A B A1 B1) (u : Tr bx A1 B1 A2 B2) : Tr bx A B A2 B2 :=
  ⟨t.ext.trans u.ext, u.sub, fun a o h n => u.keep a o (t.keep a o h n) n, fun a h => u.there a (t.there a h), fun a h n i => u.new a (t.new a h n i) (t.there a n) i⟩
theorem Tr.weak {bx : Bk} {A B A1 B1 : Hp} (t : Tr .no A B A1 B1) : Tr bx A B A1 B1 :=
  ⟨t.ext, t.sub, fun a o h _ => t.keep a o h (fun z => z), t.there, fun a h n _ => t.new a h n fun z => z⟩
theorem BoxOk.keep {k : Kx} {A B A1 B1 : Hp} {b : Bx} (h : BoxOk k A B b) (t : Tr .no A B A1 B1) : BoxOk k A1 B1 b :=
  h.move t.ext (fun a i => t.new a (h.at i).1 (h.at i).2 fun z => z) fun a o _ e => t.keep a o e fun z => z
/-- a new frozen object -/
theorem Tr.alloc {H0 H : Hp} {p : Addr} {o : HO} (s : Same H0 H) (h : H p = none) : Tr .no H0 H (upd H0 p o) (upd H p o) := by
  have h0 : H0 p = none := s.free h
  refine ⟨fun a u e => ?_, fun a u e => ?_, fun a u e _ => ?_, fun a e => ?_, fun a e n _ => ?_⟩
  · rw [upd_ne (ne_of_none e h0)]; exact e
  · by_cases ha : a = p
    · subst ha; rw [upd_same] at e ⊢; exact e
    · rw [upd_ne ha] at e ⊢; exact s a u e
  · rw [upd_ne (ne_of_none e h)]; exact e
  · by_cases ha : a = p
    · subst ha; rw [upd_same]; simp
    · rw [upd_ne ha]; exact e
  · by_cases ha : a = p
    · subst ha; exact absurd h n
    · rw [upd_ne ha]; exact e
theorem BoxOk.frz {k : Kx} {A B : Hp} {b : Bx} {l : Addr} {o : HO} (h : BoxOk k A B b) (h0 : A l = none) (n : ¬ InB k.bx l) : BoxOk k (upd A l o) B b :=
  h.move (fun a u q => by rw [upd_ne (ne_of_none q h0)]; exact q) (fun a i => by rw [upd_ne (fun e => by subst e; exact n i)]; exact (h.at i).1) fun _ _ _ e => e
theorem BoxOk.out {k : Kx} {A B : Hp} {b : Bx} {l : Addr} {o : HO} (h : BoxOk k A B b) (n : ¬ InB k.bx l) : BoxOk k A (upd B l o) b :=
  h.move (Same.refl _) (fun a i => (h.at i).1) fun a u i e => by rw [upd_ne (fun z => by subst z; exact n i)]; exact e
/-- a new object that is not frozen -/
theorem Tr.allocO {H0 H : Hp} {p : Addr} {o : HO} (s : Same H0 H) (h : H p = none) : Tr .no H0 H H0 (upd H p o) := by
  refine ⟨Same.refl _, fun a u e => ?_, fun a u e _ => ?_, fun a e => ?_, fun a e n _ => e⟩
  · rw [upd_ne (ne_of_none (s a u e) h)]; exact s a u e
  · rw [upd_ne (ne_of_none e h)]; exact e
  · by_cases ha : a = p
    · subst ha; rw [upd_same]; simp
    · rw [upd_ne ha]; exact e

/-! ### environments -/
inductive Sl where
  | no | val (d : D) | own (ds : List D) | odc (mm : List (D × D))
/-- a list or a dict that is held -/
def isO : Sl → Bool
  | .own _ => true
  | .odc _ => true
  | _ => false
abbrev En := List Sl
structure Cfg where
  k : Kx
  Hs : Hp
  H0s : Hp
  /-- how many names the frame has -/
  n : Nat
abbrev Cfg.bx (g : Cfg) : Bk := g.k.bx

def SlOk (k : Kx) (H0 H : Hp) : Option Sl → Option (Option V) → Prop
  | some (.val d), x => ∃ v, x = some (some v) ∧ Is k H0 d v
  | some (.own ds), x => ∃ l vs, x = some (some (.ref l)) ∧ H0 l = none ∧ H l = some (.lst vs) ∧ IsL k H0 ds vs
  | some (.odc mm), x => ∃ l xs, x = some (some (.ref l)) ∧ H0 l = none ∧ H l = some (keyO l xs) ∧ MM k H0 xs mm
  | _, _ => True
def OwnAt (ρ : En) (σ : St) (i : Nat) (l : Addr) : Prop := (∃ s, ρ[i]? = some s ∧ isO s = true) ∧ σ[i]? = some (some (.ref l))

def ZOk (k : Kx) (H : Hp) : Prop := ∀ a, k.z a = true → H a ≠ none
theorem ZOk.new {k : Kx} {H : Hp} (h : ZOk k H) {l : Addr} (e : H l = none) : k.z l = false := by
  cases q : k.z l with
  | false => rfl
  | true => exact absurd e (h l q)
structure Good (g : Cfg) (ρ : En) (b : Bx) (σ : St) (H H0 : Hp) : Prop where
  tr : Tr g.bx g.H0s g.Hs H0 H
  len : ρ.length = σ.length
  slot : ∀ i : Nat, SlOk g.k H0 H ρ[i]? σ[i]?
  apart : ∀ i j l, OwnAt ρ σ i l → OwnAt ρ σ j l → i = j
  mine : ∀ i l, OwnAt ρ σ i l → g.Hs l = none
  box : BoxOk g.k H0 H b
  bin : ∀ a, InB g.bx a → g.Hs a ≠ none
  zin : ZOk g.k g.Hs
  ln : σ.length = g.n

section
variable {g : Cfg} {ρ : En} {b b' : Bx} {σ : St} {H H0 H' H0' : Hp}
theorem Good.zok (G : Good g ρ b σ H H0) : ZOk g.k H := fun a q => G.tr.there a (G.zin a q)
theorem Good.sub (G : Good g ρ b σ H H0) : Same H0 H := G.tr.sub
theorem Good.notBox (G : Good g ρ b σ H H0) {i : Nat} {l : Addr} (o : OwnAt ρ σ i l) : ¬ InB g.bx l := fun z => G.bin l z (G.mine i l o)
theorem Good.own (G : Good g ρ b σ H H0) {i : Nat} {ds : List D} (h : ρ[i]? = some (.own ds)) : ∃ l vs, σ[i]? = some (some (.ref l)) ∧ H0 l = none ∧ H l = some (.lst vs) ∧ IsL g.k H0 ds vs := by
  have q := G.slot i
  rw [h] at q
  exact q
theorem Good.val (G : Good g ρ b σ H H0) {i : Nat} {d : D} (h : ρ[i]? = some (.val d)) : ∃ v, σ[i]? = some (some v) ∧ Is g.k H0 d v := by
  have q := G.slot i
  rw [h] at q
  exact q
/-- what is held stands, and is not frozen -/
theorem Good.held (G : Good g ρ b σ H H0) {i : Nat} {l : Addr} (o : OwnAt ρ σ i l) : H0 l = none ∧ H l ≠ none := by
  obtain ⟨⟨s, e1, eo⟩, e2⟩ := o
  have q := G.slot i
  rw [e1] at q
  cases s with
  | no => cases eo
  | val d => cases eo
  | own ds =>
    obtain ⟨l', vs, q1, q2, q3, _⟩ := q
    rw [e2] at q1
    cases q1
    exact ⟨q2, by rw [q3]; simp⟩
  | odc mm =>
    obtain ⟨l', vs, q1, q2, q3, _⟩ := q
    rw [e2] at q1
    cases q1
    exact ⟨q2, by rw [q3]; simp⟩
theorem SlOk.mono {k : Kx} {s : Option Sl} {x : Option (Option V)} (h : SlOk k H0 H s x) (e : Same H0 H0') (n : ∀ l u, (∃ t, s = some t ∧ isO t = true) → x = some (some (.ref l)) → H0 l = none → H l = some u → H0' l = none) (kp : ∀ l u, (∃ t, s = some t ∧ isO t = true) → x = some (some (.ref l)) → H l = some u → H' l = some u) : SlOk k H0' H' s x := by
  cases s with
  | none => trivial
  | some s =>
    cases s with
    | no => trivial
    | val d => obtain ⟨v, e1, i⟩ := h; exact ⟨v, e1, i.mono e⟩
    | own ds => obtain ⟨l, vs, e1, h0, hl, i⟩ := h; exact ⟨l, vs, e1, n l _ ⟨_, rfl, rfl⟩ e1 h0 hl, kp l _ ⟨_, rfl, rfl⟩ e1 hl, i.mono e⟩
    | odc mm => obtain ⟨l, xs, e1, h0, hl, i⟩ := h; exact ⟨l, xs, e1, n l _ ⟨_, rfl, rfl⟩ e1 h0 hl, kp l _ ⟨_, rfl, rfl⟩ e1 hl, i.mono e⟩
/-- behind an expression -/
theorem Good.step (G : Good g ρ b σ H H0) (t : Tr g.bx H0 H H0' H') (B : BoxOk g.k H0' H' b') : Good g ρ b' σ H' H0' :=
  ⟨G.tr.trans t, G.len, fun i => (G.slot i).mono t.ext (fun l vs hs hx h hl => t.new l h (by rw [hl]; simp) (G.notBox (i := i) ⟨hs, hx⟩)) fun l vs hs hx hl => t.keep l _ hl (G.notBox (i := i) ⟨hs, hx⟩), G.apart, G.mine, B, G.bin, G.zin, G.ln⟩
theorem set_get {α : Type} {l : List α} {i j : Nat} {x : α} : (l.set i x)[j]? = if i = j ∧ j < l.length then some x else l[j]? := by
  by_cases h : i = j
  · subst h
    by_cases hl : i < l.length
    · rw [if_pos ⟨rfl, hl⟩, List.getElem?_set_self hl]
    · rw [if_neg (fun z => hl z.2), List.getElem?_eq_none (by rw [List.length_set]; omega), List.getElem?_eq_none (by omega)]
  · rw [if_neg (fun z => h z.1), List.getElem?_set_ne h]
theorem wipe_in {σ : St} {i : Nat} {x : Option V} : ∀ {vs : List Nat}, i ∈ vs → wipe (σ.set i x) vs = wipe σ vs
  | [], h => by cases h
  | v :: vs, h => by
    show (wipe (σ.set i x) vs).set v none = (wipe σ vs).set v none
    have com : ∀ (us : List Nat), wipe (σ.set i x) us = (wipe σ us).set i (if i ∈ us then none else x) := by
      intro us
      induction us with
      | nil => simp [wipe]
      | cons u us ih =>
        show (wipe (σ.set i x) us).set u none = ((wipe σ us).set u none).set i _
        rw [ih]
        by_cases hu : i = u
        · subst hu
          simp [List.set_set]
        · rw [List.set_comm _ _ hu]
          by_cases hm : i ∈ us <;> simp [hm, hu]
    rw [com]
    by_cases hv : i = v
    · subst hv; rw [List.set_set]
    · have hm : i ∈ vs := by
        rcases List.mem_cons.mp h with e | e
        · exact absurd e hv
        · exact e
      have := com vs
      rw [wipe_in hm] at this
      rw [← this]
/-- a value stored -/
theorem Good.setV (G : Good g ρ b σ H H0) {i : Nat} {d : D} {v : V} (r : Is g.k H0 d v) : Good g (ρ.set i (.val d)) b (σ.set i (some v)) H H0 := by
  have own : ∀ {j l}, OwnAt (ρ.set i (.val d)) (σ.set i (some v)) j l → OwnAt ρ σ j l := by
    rintro j l ⟨⟨ds, e1, eo⟩, e2⟩
    rw [set_get] at e1 e2
    split at e1
    · cases e1; cases eo
    · rename_i hn
      rw [if_neg (by rw [← G.len]; exact hn)] at e2
      exact ⟨⟨ds, e1, eo⟩, e2⟩
  refine ⟨G.tr, by rw [List.length_set, List.length_set]; exact G.len, fun j => ?_, fun j j' l o o' => G.apart j j' l (own o) (own o'), fun j l o => G.mine j l (own o), G.box, G.bin, G.zin, by rw [List.length_set]; exact G.ln⟩
  rw [set_get, set_get, ← G.len]
  split
  · exact ⟨v, rfl, r⟩
  · exact G.slot j
/-- a new own list stored -/
theorem Good.setO (G : Good g ρ b σ H H0) {i : Nat} {ds : List D} {l : Addr} {vs : List V} (hs : g.Hs l = none) (h0 : H0 l = none) (hl : H l = some (.lst vs)) (r : IsL g.k H0 ds vs)
    (hn : ∀ j, OwnAt ρ σ j l → j = i) : Good g (ρ.set i (.own ds)) b (σ.set i (some (.ref l))) H H0 := by
  have own : ∀ {j l'}, OwnAt (ρ.set i (.own ds)) (σ.set i (some (.ref l))) j l' → (j = i ∧ l' = l) ∨ (j ≠ i ∧ OwnAt ρ σ j l') := by
    rintro j l' ⟨⟨ds', e1, eo⟩, e2⟩
    rw [set_get] at e1 e2
    by_cases hj : i = j
    · subst hj
      left
      refine ⟨rfl, ?_⟩
      by_cases hlt : i < σ.length
      · rw [if_pos ⟨rfl, hlt⟩] at e2
        cases e2; rfl
      · rw [if_neg (fun z => hlt z.2), List.getElem?_eq_none (by omega)] at e2
        cases e2
    · rw [if_neg (fun z => hj z.1)] at e1 e2
      exact .inr ⟨fun z => hj z.symm, ⟨ds', e1, eo⟩, e2⟩
  refine ⟨G.tr, by rw [List.length_set, List.length_set]; exact G.len, fun j => ?_, fun j j' l' o o' => ?_, fun j l' o => ?_, G.box, G.bin, G.zin, by rw [List.length_set]; exact G.ln⟩
  · rw [set_get, set_get, ← G.len]
    split
    · exact ⟨l, vs, rfl, h0, hl, r⟩
    · exact G.slot j
  · rcases own o with ⟨rfl, rfl⟩ | ⟨n1, o1⟩ <;> rcases own o' with ⟨rfl, e⟩ | ⟨n2, o2⟩
    · rfl
    · exact (hn _ o2).symm
    · subst e; exact hn _ o1
    · exact G.apart _ _ _ o1 o2
  · rcases own o with ⟨rfl, rfl⟩ | ⟨n1, o1⟩
    · exact hs
    · exact G.mine _ _ o1
/-- a slot forgotten -/
theorem Good.setN (G : Good g ρ b σ H H0) {i : Nat} {x : Option V} : Good g (ρ.set i .no) b (σ.set i x) H H0 := by
  have own : ∀ {j l}, OwnAt (ρ.set i .no) (σ.set i x) j l → OwnAt ρ σ j l := by
    rintro j l ⟨⟨ds, e1, eo⟩, e2⟩
    rw [set_get] at e1 e2
    split at e1
    · cases e1; cases eo
    · rename_i hn
      rw [if_neg (by rw [← G.len]; exact hn)] at e2
      exact ⟨⟨ds, e1, eo⟩, e2⟩
  refine ⟨G.tr, by rw [List.length_set, List.length_set]; exact G.len, fun j => ?_, fun j j' l o o' => G.apart j j' l (own o) (own o'), fun j l o => G.mine j l (own o), G.box, G.bin, G.zin, by rw [List.length_set]; exact G.ln⟩
  rw [set_get, set_get, ← G.len]
  split
  · trivial
  · exact G.slot j
/-- an own list changed -/
theorem Good.upd (G : Good g ρ b σ H H0) {i : Nat} {ds es : List D} {l : Addr} {us : List V} (hi : ρ[i]? = some (.own ds)) (hl : σ[i]? = some (some (.ref l))) (r : IsL g.k H0 es us) :
    Good g (ρ.set i (.own es)) b σ (upd H l (.lst us)) H0 := by
  have o : OwnAt ρ σ i l := ⟨⟨_, hi, rfl⟩, hl⟩
  obtain ⟨l', vs, e1, h0, hH, iv⟩ := G.own hi
  rw [hl] at e1
  cases e1
  have hlt : i < σ.length := (List.getElem?_eq_some_iff.mp hl).1
  have own : ∀ {j l'}, OwnAt (ρ.set i (.own es)) σ j l' → OwnAt ρ σ j l' := by
    rintro j l' ⟨⟨ds', e1, eo⟩, e2⟩
    rw [set_get] at e1
    by_cases hj : i = j
    · subst hj; exact ⟨⟨_, hi, rfl⟩, e2⟩
    · rw [if_neg (fun z => hj z.1)] at e1
      exact ⟨⟨ds', e1, eo⟩, e2⟩
  have hs : g.Hs l = none := G.mine i l o
  have nb : ¬ InB g.bx l := G.notBox o
  refine ⟨⟨G.tr.ext, fun a u e => ?_, fun a u e n => ?_, fun a e => ?_, G.tr.new⟩, by rw [List.length_set]; exact G.len, fun j => ?_, fun j j' l' o1 o2 => G.apart j j' l' (own o1) (own o2), fun j l' o1 => G.mine j l' (own o1), ?_, G.bin, G.zin, G.ln⟩
  · rw [upd_ne (ne_of_none e h0)]; exact G.tr.sub a u e
  · rw [upd_ne (ne_of_none e hs)]; exact G.tr.keep a u e n
  · by_cases ha : a = l
    · subst ha; rw [upd_same]; simp
    · rw [upd_ne ha]; exact G.tr.there a e
  · rw [set_get]
    by_cases hj : i = j
    · subst hj
      rw [if_pos ⟨rfl, by rw [G.len]; exact hlt⟩]
      exact ⟨l, us, hl, h0, upd_same, r⟩
    · rw [if_neg (fun z => hj z.1)]
      refine (G.slot j).mono (Same.refl _) (fun _ _ _ _ h _ => h) fun l' vs' hs' hx hl' => ?_
      have ne : l' ≠ l := fun e => hj (G.apart i j l o ⟨hs', by rw [hx, e]⟩)
      rw [upd_ne ne]; exact hl'
  · exact G.box.out nb
/-- an own list becomes a value -/
theorem Good.freeze (G : Good g ρ b σ H H0) {i : Nat} {ds : List D} (hi : ρ[i]? = some (.own ds)) : ∃ H0', Same H0 H0' ∧ Good g (ρ.set i (.val (.lst false ds))) b σ H H0' := by
  obtain ⟨l, vs, e1, h0, hH, iv⟩ := G.own hi
  have o : OwnAt ρ σ i l := ⟨⟨_, hi, rfl⟩, e1⟩
  have hs := G.mine i l o
  have nb := G.notBox o
  have e0 : Same H0 (L2.upd H0 l (.lst vs)) := fun a u e => by rw [upd_ne (ne_of_none e h0)]; exact e
  have own : ∀ {j l'}, OwnAt (ρ.set i (.val (.lst false ds))) σ j l' → j ≠ i ∧ OwnAt ρ σ j l' := by
    rintro j l' ⟨⟨ds', q1, qo⟩, q2⟩
    rw [set_get] at q1
    by_cases hj : i = j
    · subst hj
      rw [if_pos ⟨rfl, by rw [G.len]; exact (List.getElem?_eq_some_iff.mp e1).1⟩] at q1
      cases q1; cases qo
    · rw [if_neg (fun z => hj z.1)] at q1
      exact ⟨fun z => hj z.symm, ⟨ds', q1, qo⟩, q2⟩
  refine ⟨L2.upd H0 l (.lst vs), e0, ⟨G.tr.ext.trans e0, fun a u e => ?_, G.tr.keep, G.tr.there, fun a e n i => ?_⟩, by rw [List.length_set]; exact G.len, fun j => ?_, fun j j' l' o1 o2 => G.apart j j' l' (own o1).2 (own o2).2, fun j l' o1 => G.mine j l' (own o1).2, ?_, G.bin, G.zin, G.ln⟩
  · by_cases ha : a = l
    · subst ha; rw [upd_same] at e; rw [hH]; exact e
    · rw [upd_ne ha] at e; exact G.tr.sub a u e
  · have na : a ≠ l := fun z => n (by rw [z]; exact hs)
    rw [upd_ne na]; exact G.tr.new a e n i
  · rw [set_get]
    by_cases hj : i = j
    · subst hj
      rw [if_pos ⟨rfl, by rw [G.len]; exact (List.getElem?_eq_some_iff.mp e1).1⟩]
      exact ⟨_, e1, .lst upd_same (G.zin.new hs) (iv.mono e0)⟩
    · rw [if_neg (fun z => hj z.1)]
      have q := G.slot j
      cases hr : ρ[j]? with
      | none => trivial
      | some s =>
        rw [hr] at q
        cases s with
        | no => trivial
        | val d => obtain ⟨v, q1, q2⟩ := q; exact ⟨v, q1, q2.mono e0⟩
        | own ds' =>
          obtain ⟨l', vs', q1, q2, q3, q4⟩ := q
          have ne : l' ≠ l := fun e => hj (G.apart i j l o ⟨⟨_, hr, rfl⟩, by rw [q1, e]⟩)
          exact ⟨l', vs', q1, by rw [upd_ne ne]; exact q2, q3, q4.mono e0⟩
        | odc mm' =>
          obtain ⟨l', vs', q1, q2, q3, q4⟩ := q
          have ne : l' ≠ l := fun e => hj (G.apart i j l o ⟨⟨_, hr, rfl⟩, by rw [q1, e]⟩)
          exact ⟨l', vs', q1, by rw [upd_ne ne]; exact q2, q3, q4.mono e0⟩
  · exact G.box.frz h0 nb
end
end Fw
set_option Elab.async false
set_option linter.all false
set_option maxRecDepth 100000
set_option maxHeartbeats 1000000
/-! Fw2: results, canonical readings, the judgements and the plain rules. -/
namespace Fw
open PySem L2

/-- an exception: its class, its own dict -/
structure Ex where
  cls : Addr
  fs : Option (List Str × List D)
inductive Res (α : Type) where
  | ok (a : α) (b : Bx) | exc (x : Ex) (b : Bx) | bad
def Res.bind {α β : Type} (r : Res α) (k : α → Bx → Res β) : Res β := match r with
  | .ok a b => k a b
  | .exc x b => .exc x b
  | .bad => .bad
/-- what a block comes to -/
inductive Out where
  | nx (ρ : En) (b : Bx) | rt (d : D) (b : Bx) | rto (ds : List D) (b : Bx) | bk (ρ : En) (b : Bx) | ct (ρ : En) (b : Bx) | exc (x : Ex) (b : Bx) | bad
def Res.out {α : Type} (r : Res α) (k : α → Bx → Out) : Out := match r with
  | .ok a b => k a b
  | .exc x b => .exc x b
  | .bad => .bad
def lift {α : Type} (o : Option α) (b : Bx) : Res α := match o with
  | some a => .ok a b
  | none => .bad

def ExAt (k : Kx) (H0 H : Hp) (x : Ex) (cls : Value) (dd : Option Addr) : Prop := cls = .ref x.cls ∧ match x.fs with
  | none => dd = none
  | some (ns, ds) => ∃ a vs, dd = some a ∧ H0 a = none ∧ H a = some (.xd (ns.zip vs)) ∧ ns.length = vs.length ∧ IsL k H0 ds vs

def Fin {α : Type} (g : Cfg) (W : WX) (σ : St) (H0 H : Hp) (r : Res α) (k : α → Bx → Hp → Hp → Prop) : Prop := match r with
  | .ok a b => ∀ H0' H', Tr g.bx H0 H H0' H' → BoxOk g.k H0' H' b → k a b H0' H'
  | .exc x b => ∀ H0' H', Tr g.bx H0 H H0' H' → BoxOk g.k H0' H' b → ∀ cls dd, ExAt g.k H0' H' x cls dd → W cls dd σ H'
  | .bad => False
section
variable {α β : Type} {g : Cfg} {W : WX} {σ : St} {H0 H : Hp}
theorem Fin.mono {r : Res α} {k k' : α → Bx → Hp → Hp → Prop} (h : Fin g W σ H0 H r k) (q : ∀ a b H0' H', Tr g.bx H0 H H0' H' → BoxOk g.k H0' H' b → k a b H0' H' → k' a b H0' H') : Fin g W σ H0 H r k' := by
  cases r with
  | ok a b => exact fun H0' H' t B => q a b H0' H' t B (h H0' H' t B)
  | exc x b => exact h
  | bad => exact h
theorem Fin.move {r : Res α} {k : α → Bx → Hp → Hp → Prop} {A B : Hp} (h : Fin g W σ H0 H r k) (t : Tr g.bx H0 H A B) : Fin g W σ A B r k := by
  cases r with
  | ok a b => exact fun H0' H' u B => h H0' H' (t.trans u) B
  | exc x b => exact fun H0' H' u B => h H0' H' (t.trans u) B
  | bad => exact h
theorem Fin.bind {r : Res α} {f : α → Bx → Res β} {k : β → Bx → Hp → Hp → Prop} (h : Fin g W σ H0 H (r.bind f) k) : Fin g W σ H0 H r fun a b H0' H' => Fin g W σ H0' H' (f a b) k := by
  cases r with
  | ok a b =>
    intro H0' H' t B
    show Fin g W σ H0' H' (f a b) k
    have h : Fin g W σ H0 H (f a b) k := h
    cases hf : f a b with
    | ok c b2 => rw [hf] at h; exact fun H0'' H'' t2 B2 => h H0'' H'' (t.trans t2) B2
    | exc x b2 => rw [hf] at h; exact fun H0'' H'' t2 B2 => h H0'' H'' (t.trans t2) B2
    | bad => rw [hf] at h; exact h
  | exc x b => exact h
  | bad => exact h
end

abbrev Fx (α : Type) := En → Bx → Res α
def TX (g : Cfg) (W : WX) (f : Fx D) : TE := fun σ H Q => ∃ ρ b H0, Good g ρ b σ H H0 ∧ Fin g W σ H0 H (f ρ b) fun d _ H0' H' => ∀ v, Is g.k H0' d v → Q v H'
/-- a new list, nobody else's -/
def TXo (g : Cfg) (W : WX) (f : Fx (List D)) : TE := fun σ H Q => ∃ ρ b H0, Good g ρ b σ H H0 ∧ Fin g W σ H0 H (f ρ b) fun ds _ H0' H' =>
  ∀ l vs, H l = none → H0' l = none → H' l = some (.lst vs) → IsL g.k H0' ds vs → Q (.ref l) H'
def TA' (g : Cfg) (W : WX) (f : Fx (List D)) : TA := fun σ H Q => ∃ ρ b H0, Good g ρ b σ H H0 ∧ Fin g W σ H0 H (f ρ b) fun ds _ H0' H' => ∀ vs, IsL g.k H0' ds vs → Q vs H'
def TT' (g : Cfg) (W : WX) (f : Fx Bool) : TT := fun σ H Q => ∃ ρ b H0, Good g ρ b σ H H0 ∧ Fin g W σ H0 H (f ρ b) fun c _ _ H' => Q c H'

def PX (X : Cx) (g : Cfg) (W : WX) (e : Expr) (f : Fx D) : Prop := PE X e (TX g W f)
def PN (X : Cx) (g : Cfg) (W : WX) (e : Expr) (f : Fx (List D)) : Prop := PE X e (TXo g W f)
def PL (X : Cx) (g : Cfg) (W : WX) (es : List Expr) (f : Fx (List D)) : Prop := PA X es (TA' g W f)
def PQ (X : Cx) (g : Cfg) (W : WX) (e : Expr) (f : Fx Bool) : Prop := PT X e (TT' g W f)

theorem pe_imp {X : Cx} {e : Expr} {t t' : TE} (h : PE X e t) (q : ∀ σ H Q, t' σ H Q → t σ H Q) : PE X e t' := ⟨fun pins s σ H Q I z => h.run pins s σ H Q I (q σ H Q z)⟩
theorem pt_imp {X : Cx} {e : Expr} {t t' : TT} (h : PT X e t) (q : ∀ σ H Q, t' σ H Q → t σ H Q) : PT X e t' := ⟨fun pins s σ H Q I z => h.run pins s σ H Q I (q σ H Q z)⟩
theorem pa_imp {X : Cx} {e : List Expr} {t t' : TA} (h : PA X e t) (q : ∀ σ H Q, t' σ H Q → t σ H Q) : PA X e t' := ⟨fun pos pins s σ H Q I z => h.run pos pins s σ H Q I (q σ H Q z)⟩
theorem ps_imp {X : Cx} {e : Stmt} {t t' : TS} (h : PS X e t) (q : ∀ D σ H, t' D σ H → t D σ H) : PS X e t' := ⟨fun pins s σ H D I z => h.run pins s σ H D I (q D σ H z)⟩
theorem pss_imp {X : Cx} {e : List Stmt} {t t' : TS} (h : PSs X e t) (q : ∀ D σ H, t' D σ H → t D σ H) : PSs X e t' := ⟨fun pins s σ H D I z => h.run pins s σ H D I (q D σ H z)⟩

/-! ### the functions -/
def xVar (i : Nat) : Fx D := fun ρ b => match ρ[i]? with
  | some (.val d) => .ok d b
  | _ => .bad
def xC (d : D) : Fx D := fun _ b => .ok d b
def xBin (o : D → D → Option D) (f h : Fx D) : Fx D := fun ρ b => (f ρ b).bind fun x b1 => (h ρ b1).bind fun y b2 => lift (o x y) b2
def xUn (o : D → Option D) (f : Fx D) : Fx D := fun ρ b => (f ρ b).bind fun x b1 => lift (o x) b1
def xNil : Fx (List D) := fun _ b => .ok [] b
def xCons (f : Fx D) (h : Fx (List D)) : Fx (List D) := fun ρ b => (f ρ b).bind fun x b1 => (h ρ b1).bind fun xs b2 => .ok (x :: xs) b2
def xTup (f : Fx (List D)) : Fx D := fun ρ b => (f ρ b).bind fun xs b1 => .ok (.tup xs) b1
def xLst (f : Fx (List D)) : Fx D := fun ρ b => (f ρ b).bind fun xs b1 => .ok (.lst false xs) b1
def asB : D → Option Bool
  | .bl c => some c
  | _ => none
def xT (f : Fx D) : Fx Bool := fun ρ b => (f ρ b).bind fun x b1 => lift (asB x) b1
def xAnd (f h : Fx D) : Fx D := fun ρ b => (f ρ b).bind fun x b1 => match x with
  | .bl true => h ρ b1
  | .bl false => .ok (.bl false) b1
  | _ => .bad
def xOr (f h : Fx D) : Fx D := fun ρ b => (f ρ b).bind fun x b1 => match x with
  | .bl true => .ok (.bl true) b1
  | .bl false => h ρ b1
  | _ => .bad
def xNot (f : Fx D) : Fx D := fun ρ b => (f ρ b).bind fun x b1 => match x with
  | .bl c => .ok (.bl (!c)) b1
  | _ => .bad
def xAndT (f h : Fx Bool) : Fx Bool := fun ρ b => (f ρ b).bind fun c b1 => if c then h ρ b1 else .ok false b1
def xOrT (f h : Fx Bool) : Fx Bool := fun ρ b => (f ρ b).bind fun c b1 => if c then .ok true b1 else h ρ b1
def xNotT (f : Fx Bool) : Fx Bool := fun ρ b => (f ρ b).bind fun c b1 => .ok (!c) b1
def xIf (t : Fx Bool) (f h : Fx D) : Fx D := fun ρ b => (t ρ b).bind fun c b1 => if c then f ρ b1 else h ρ b1
/-- a < b < c -/
def xChain (o o' : D → D → Option D) (f h j : Fx D) : Fx D := fun ρ b => (f ρ b).bind fun x b1 => (h ρ b1).bind fun y b2 => match o x y with
  | some (.bl true) => (j ρ b2).bind fun z b3 => lift (o' y z) b3
  | some (.bl false) => .ok (.bl false) b2
  | _ => .bad

/-- an operator by values is a function of data -/
def OpD (k : Kx) (r : R2) (o : D → D → Option D) : Prop := ∀ (H0 H : Hp) (x y z : D) (vx vy : V), Same H0 H → ZOk k H → Is k H0 x vx → Is k H0 y vy → o x y = some z →
  ∀ Q : VK, (∀ v H0' H', Tr .no H0 H H0' H' → Is k H0' z v → Q v H') → r vx vy H Q
def UnD (k : Kx) (r : V → Hp → VK → Prop) (o : D → Option D) : Prop := ∀ (H0 H : Hp) (x z : D) (vx : V), Same H0 H → ZOk k H → Is k H0 x vx → o x = some z →
  ∀ Q : VK, (∀ v H0' H', Tr .no H0 H H0' H' → Is k H0' z v → Q v H') → r vx H Q
/-- a call by values -/
def ClD (k : Kx) (r : List V → Hp → VK → Prop) (o : List D → Option D) : Prop := ∀ (H0 H : Hp) (xs : List D) (z : D) (vs : List V), Same H0 H → ZOk k H → IsL k H0 xs vs → o xs = some z →
  ∀ Q : VK, (∀ v H0' H', Tr .no H0 H H0' H' → Is k H0' z v → Q v H') → r vs H Q

section
variable {X : Cx} {g : Cfg} {W : WX} {a c e : Expr} {es : List Expr} {f h j : Fx D} {pos : Pos}
theorem px_var (i : Nat) {x : Str} (hN : X.N[i]? = some x := by rfl) (hv : Vis X.env.scope x := by first | exact Or.inl rfl | exact Or.inr (Or.inl rfl) | exact Or.inr (Or.inr rfl)) (hd : (x == ("__debug__" : Str)) = false := by decide)
    (hcd : (x == ("__classdict__" : Str)) = false := by decide) : PX X g W (.Name x pos) (xVar i) := by
  refine pe_imp (pe_var hN hv hd hcd) ?_
  rintro σ H Q ⟨ρ, b, H0, G, F⟩
  unfold xVar at F
  split at F
  · rename_i d hd
    obtain ⟨v, e1, iv⟩ := G.val hd
    exact ⟨v, e1, F H0 H (Tr.refl G.sub) G.box v iv⟩
  · exact F.elim
theorem px_of_c {d : D} {v : V} (hp : PE X e (tC v)) (i : ∀ k H, Is k H d v) : PX X g W e (xC d) := by
  refine pe_imp hp ?_
  rintro σ H Q ⟨ρ, b, H0, G, F⟩
  exact F H0 H (Tr.refl G.sub) G.box v (i _ _)
theorem px_int {i : Int} {j : Nat} : PX X g W (.Constant (.int i) j pos) (xC (.int i)) := px_of_c pe_int fun _ _ => .int i
theorem px_bl {i : Bool} {j : Nat} : PX X g W (.Constant (.bool i) j pos) (xC (.bl i)) := px_of_c pe_bl fun _ _ => .bl i
theorem px_non {j : Nat} : PX X g W (.Constant .none j pos) (xC .non) := px_of_c pe_non fun _ _ => .non
theorem px_str {x : Str} {j : Nat} : PX X g W (.Constant (.str x) j pos) (xC (.str x)) := px_of_c pe_str fun _ _ => .str x
theorem tx_bin {r : R2} {o : D → D → Option D} (hr : OpD g.k r o) {σ : St} {H : Hp} {Q : VK} (z : TX g W (xBin o f h) σ H Q) : tOp r (TX g W f) (TX g W h) σ H Q := by
  obtain ⟨ρ, b, H0, G, F⟩ := z
  refine ⟨ρ, b, H0, G, F.bind.mono fun x b1 H01 H1 t1 B1 F1 vx ix => ⟨ρ, b1, H01, G.step t1 B1, F1.bind.mono fun y b2 H02 H2 t2 B2 F2 vy iy => ?_⟩⟩
  cases ho : o x y with
  | none => rw [ho] at F2; exact F2.elim
  | some w =>
    rw [ho] at F2
    exact hr H02 H2 x y w vx vy t2.sub ((G.step t1 B1).step t2 B2).zok (ix.mono t2.ext) iy ho Q fun v H0' H' t iz => F2 H0' H' t.weak (B2.keep t) v iz
theorem px_bin {op : Operator} {r : R2} {o : D → D → Option D} (ho : OpR X (binaryOp op) r) (hr : OpD g.k r o) (ha : PX X g W a f) (hc : PX X g W c h) : PX X g W (.BinOp a op c pos) (xBin o f h) :=
  pe_imp (pe_op ho ha hc) fun _ _ _ => tx_bin hr
theorem px_cmp {op : CmpOp} {r : R2} {o : D → D → Option D} (ho : OpR X (compareOp op) r) (hr : OpD g.k r o) (ha : PX X g W a f) (hc : PX X g W c h) (hm : behindInMarks op c = false := by first | exact nomark _ | rfl) : PX X g W (.Compare a [op] [c] pos) (xBin o f h) :=
  pe_imp (pe_cmpR ho ha hc hm) fun _ _ _ => tx_bin hr
theorem px_ix {r : R2} {o : D → D → Option D} (ho : IxR X r) (hr : OpD g.k r o) (ha : PX X g W a f) (hc : PX X g W c h) (hs : PlainIx c := by exact fun _ _ => rfl) : PX X g W (.Subscript a c pos) (xBin o f h) :=
  pe_imp (pe_ix ho ha hc hs) fun _ _ _ => tx_bin hr
theorem px_un {op : UnaryOp} {r : V → Hp → VK → Prop} {o : D → Option D} (ho : UnR X (unaryOp op) r) (hr : UnD g.k r o) (ha : PX X g W a f) : PX X g W (.UnaryOp op a pos) (xUn o f) := by
  refine pe_imp (pe_un ho ha) ?_
  rintro σ H Q ⟨ρ, b, H0, G, F⟩
  refine ⟨ρ, b, H0, G, F.bind.mono fun x b1 H01 H1 t1 B1 F1 vx ix => ?_⟩
  cases ho : o x with
  | none => rw [ho] at F1; exact F1.elim
  | some w =>
    rw [ho] at F1
    exact hr H01 H1 x w vx t1.sub (G.step t1 B1).zok ix ho Q fun v H0' H' t iz => F1 H0' H' t.weak (B1.keep t) v iz
theorem px_chain {op op' : CmpOp} {r r' : R2} {o o' : D → D → Option D} (ho : OpR X (compareOp op) r) (ho' : OpR X (compareOp op') r') (hr : OpD g.k r o) (hr' : OpD g.k r' o') (ha : PX X g W a f) (hc : PX X g W c h) (he : PX X g W e j)
    (hb : ∀ x y z, o x y = some z → ∃ k, z = .bl k) (hm : lastMarks [op, op'] [c, e] = false := by rfl) : PX X g W (.Compare a [op, op'] [c, e] pos) (xChain o o' f h j) := by
  refine pe_imp (pe_chain ho ho' ha hc he hm) ?_
  rintro σ H Q ⟨ρ, b, H0, G, F⟩
  refine ⟨ρ, b, H0, G, F.bind.mono fun x b1 H01 H1 t1 B1 F1 vx ix => ⟨ρ, b1, H01, G.step t1 B1, F1.bind.mono fun y b2 H02 H2 t2 B2 F2 vy iy => ?_⟩⟩
  cases ho : o x y with
  | none => simp only [ho] at F2; exact F2.elim
  | some w =>
    obtain ⟨k, rfl⟩ := hb _ _ _ ho
    refine hr H02 H2 x y _ vx vy t2.sub ((G.step t1 B1).step t2 B2).zok (ix.mono t2.ext) iy ho _ fun v H03 H3 t3 iz => ?_
    cases iz
    refine ⟨k, rfl, ?_⟩
    have B3 := B2.keep t3
    simp only [ho] at F2
    cases k with
    | false =>
      rw [if_neg Bool.false_ne_true]
      exact F2 H03 H3 t3.weak B3 _ (.bl false)
    | true =>
      rw [if_pos rfl]
      refine ⟨ρ, b2, H03, ((G.step t1 B1).step t2 B2).step t3.weak B3, ?_⟩
      have F3 : Fin g W σ H03 H3 ((j ρ b2).bind fun z b3 => lift (o' y z) b3) (fun d _ H0' H' => ∀ v, Is g.k H0' d v → Q v H') := Fin.move F2 t3.weak
      refine F3.bind.mono fun z b3 H04 H4 t4 B4 F4 vz iz => ?_
      cases ho2 : o' y z with
      | none => rw [ho2] at F4; exact F4.elim
      | some w2 =>
        rw [ho2] at F4
        exact hr' H04 H4 y z w2 vy vz t4.sub ((((G.step t1 B1).step t2 B2).step t3.weak B3).step t4 B4).zok ((iy.mono t3.ext).mono t4.ext) iz ho2 Q fun v H0' H' t iz => F4 H0' H' t.weak (B4.keep t) v iz
theorem pl_nil : PL X g W [] xNil := by
  refine pa_imp pa_nil ?_
  rintro σ H Q ⟨ρ, b, H0, G, F⟩
  exact F H0 H (Tr.refl G.sub) G.box [] .nil
theorem pl_cons {t : Fx (List D)} (ha : PX X g W e f) (hr : PL X g W es t) (hs : starEach (e :: es) X.env = (false, eval e X.env) :: starEach es X.env := by rfl) : PL X g W (e :: es) (xCons f t) := by
  refine pa_imp (pa_cons ha hr hs) ?_
  rintro σ H Q ⟨ρ, b, H0, G, F⟩
  refine ⟨ρ, b, H0, G, F.bind.mono fun x b1 H01 H1 t1 B1 F1 vx ix => ⟨ρ, b1, H01, G.step t1 B1, F1.bind.mono fun xs b2 H02 H2 t2 B2 F2 vs is => ?_⟩⟩
  exact F2 H02 H2 (Tr.refl t2.sub) B2 _ (.cons (ix.mono t2.ext) is)
def xSz (f : Fx (List D)) : Fx (List D) := fun ρ b => (f ρ b).bind fun xs b1 => if xs.length ≤ 100000 then .ok xs b1 else .bad
theorem sz_of {n : Nat} (h : n ≤ 100000) : n ≤ sizeLine := Nat.le_trans h (by decide)
theorem px_tup {t : Fx (List D)} {n : Nat} (h : PL X g W es t) (hn : es.length ≤ 1000 := by decide) : PX X g W (.Tuple es n pos) (xTup (xSz t)) := by
  refine pe_imp (pe_tup h) ?_
  rintro σ H Q ⟨ρ, b, H0, G, F⟩
  refine ⟨ρ, b, H0, G, F.bind.bind.mono fun xs b1 H01 H1 t1 B1 F1 vs is => ?_⟩
  split at F1
  · rename_i hz
    refine ⟨by rw [← is.length]; exact sz_of hz, fun p hp => ?_⟩
    have F1 := F1 _ _ (Tr.refl t1.sub) B1
    have ta := Tr.alloc (o := .tup vs) t1.sub hp
    exact F1 _ _ ta.weak (B1.keep ta) _ (.tup (.inl (.inl upd_same)) (is.mono ta.ext))
  · exact F1.elim
theorem po_lst {t : Fx (List D)} (h : PL X g W es t) : PN X g W (.List es pos) (xSz t) := by
  refine pe_imp (pe_lst h) ?_
  rintro σ H Q ⟨ρ, b, H0, G, F⟩
  refine ⟨ρ, b, H0, G, F.bind.mono fun xs b1 H01 H1 t1 B1 F1 vs is => ?_⟩
  split at F1
  · rename_i hz
    refine ⟨by rw [← is.length]; exact sz_of hz, fun p hp => ?_⟩
    have ta := Tr.allocO (o := .lst vs) t1.sub hp
    refine F1 _ _ ta.weak (B1.keep ta) p vs ?_ (t1.sub.free hp) upd_same is
    cases q : H p with
    | none => rfl
    | some o => exact absurd hp (t1.there p (by rw [q]; simp))
  · exact F1.elim
/-- a new list as a value -/
theorem px_fz {t : Fx (List D)} (h : PN X g W e t) : PX X g W e (xLst t) := by
  refine pe_imp h ?_
  rintro σ H Q ⟨ρ, b, H0, G, F⟩
  refine ⟨ρ, b, H0, G, ?_⟩
  unfold xLst at F
  cases ht : t ρ b with
  | bad => rw [ht] at F; exact F
  | exc x b1 => rw [ht] at F; exact F
  | ok xs b1 =>
    rw [ht] at F
    intro H01 H1 t1 B1 l vs hn h0 hl is
    have e0 : Same H01 (L2.upd H01 l (.lst vs)) := fun a u e => by rw [upd_ne (ne_of_none e h0)]; exact e
    refine F (L2.upd H01 l (.lst vs)) H1 ⟨t1.ext.trans e0, fun a u e => ?_, t1.keep, t1.there, fun a e n i => ?_⟩ ?_ _ (.lst upd_same (G.zok.new hn) (is.mono e0))
    · by_cases ha : a = l
      · subst ha; rw [upd_same] at e; rw [hl]; exact e
      · rw [upd_ne ha] at e; exact t1.sub a u e
    · have na : a ≠ l := fun z => n (by rw [z]; exact hn)
      rw [upd_ne na]; exact t1.new a e n i
    · refine BoxOk.frz B1 h0 fun z => (G.box.at z).2 hn
end
end Fw
set_option Elab.async false
set_option linter.all false
set_option maxRecDepth 100000
set_option maxHeartbeats 1000000
/-! Fw3: tests, statements, loops. -/
namespace Fw
open PySem L2

section
variable {X : Cx} {g : Cfg} {W : WX} {a c e : Expr} {es rest : List Expr} {f h j : Fx D} {p q r : Fx Bool} {pos : Pos}
theorem pq_val (h : PX X g W e f) (he : ∀ whole, isTrue e X.env whole = (do let v ← whole; standAt e.pos; holding [v] (truthy v)) := by intro _; rfl) : PQ X g W e (xT f) := by
  refine pt_imp (pt_val h he) ?_
  rintro σ H Q ⟨ρ, b, H0, G, F⟩
  refine ⟨ρ, b, H0, G, F.bind.mono fun x b1 H01 H1 t1 B1 F1 vx ix => ?_⟩
  cases ix with
  | bl k => exact ⟨k, rfl, F1 _ _ (Tr.refl t1.sub) B1⟩
  | _ => exact F1.elim
theorem tt_test {f : Fx D} {t : TE} (h : ∀ σ H Q, TX g W f σ H Q → t σ H Q) {σ : St} {H : Hp} {Q : Bool → Hp → Prop} (z : TT' g W (xT f) σ H Q) : tTest t σ H Q := by
  obtain ⟨ρ, b, H0, G, F⟩ := z
  refine h _ _ _ ⟨ρ, b, H0, G, F.bind.mono fun x b1 H01 H1 t1 B1 F1 vx ix => ?_⟩
  cases ix with
  | bl k => exact ⟨k, rfl, F1 _ _ (Tr.refl t1.sub) B1⟩
  | _ => exact F1.elim
theorem pq_cmp {op : CmpOp} {r : R2} {o : D → D → Option D} (ho : OpR X (compareOp op) r) (hr : OpD g.k r o) (ha : PX X g W a f) (hc : PX X g W c h) (hm : behindInMarks op c = false := by first | exact nomark _ | rfl) : PQ X g W (.Compare a [op] [c] pos) (xT (xBin o f h)) :=
  pt_imp (pt_cmpR ho ha hc hm) fun _ _ _ => tt_test fun _ _ _ => tx_bin hr
theorem pq_not (h : PQ X g W e p) : PQ X g W (.UnaryOp .Not e pos) (xNotT p) := by
  refine pt_imp (pt_not h) ?_
  rintro σ H Q ⟨ρ, b, H0, G, F⟩
  exact ⟨ρ, b, H0, G, F.bind.mono fun x b1 H01 H1 t1 B1 F1 => F1 _ _ (Tr.refl t1.sub) B1⟩
def PWd (X : Cx) (g : Cfg) (W : WX) (e : Expr) (f : Fx Bool) : Prop := PW X e (TT' g W f)
theorem pw_imp {X : Cx} {e : Expr} {t t' : TT} (h : PW X e t) (q : ∀ σ H Q, t' σ H Q → t σ H Q) : PW X e t' := ⟨fun w pins s σ H Q I z => h.run w pins s σ H Q I (q σ H Q z)⟩
theorem pwd_and1 (h : PQ X g W a p) : PWd X g W (.BoolOp .And [a] pos) p := pw_and1 h
theorem pwd_or1 (h : PQ X g W a p) : PWd X g W (.BoolOp .Or [a] pos) p := pw_or1 h
theorem pwd_and {b : Expr} (h : PQ X g W a p) (k : PWd X g W (.BoolOp .And (b :: rest) pos) q) : PWd X g W (.BoolOp .And (a :: b :: rest) pos) (xAndT p q) := by
  refine pw_imp (pw_and h k) ?_
  rintro σ H Q ⟨ρ, b, H0, G, F⟩
  refine ⟨ρ, b, H0, G, F.bind.mono fun x b1 H01 H1 t1 B1 F1 => ?_⟩
  cases x with
  | true => rw [if_pos rfl]; exact ⟨ρ, b1, H01, G.step t1 B1, F1⟩
  | false => rw [if_neg Bool.false_ne_true]; exact F1 _ _ (Tr.refl t1.sub) B1
theorem pwd_or {b : Expr} (h : PQ X g W a p) (k : PWd X g W (.BoolOp .Or (b :: rest) pos) q) : PWd X g W (.BoolOp .Or (a :: b :: rest) pos) (xOrT p q) := by
  refine pw_imp (pw_or h k) ?_
  rintro σ H Q ⟨ρ, b, H0, G, F⟩
  refine ⟨ρ, b, H0, G, F.bind.mono fun x b1 H01 H1 t1 B1 F1 => ?_⟩
  cases x with
  | true => rw [if_pos rfl]; exact F1 _ _ (Tr.refl t1.sub) B1
  | false => rw [if_neg Bool.false_ne_true]; exact ⟨ρ, b1, H01, G.step t1 B1, F1⟩
theorem PWd.toQ (h : PWd X g W e p) : PQ X g W e p := PW.pt h
/-- values of truth -/
theorem px_one {op : BoolOp} (h : PX X g W a f) : PX X g W (.BoolOp op [a] pos) f := pe_one h
theorem px_and {b : Expr} (ha : PX X g W a f) (hb : PX X g W (.BoolOp .And (b :: rest) pos) h) : PX X g W (.BoolOp .And (a :: b :: rest) pos) (xAnd f h) := by
  refine pe_imp (pe_and ha hb) ?_
  rintro σ H Q ⟨ρ, b, H0, G, F⟩
  refine ⟨ρ, b, H0, G, F.bind.mono fun x b1 H01 H1 t1 B1 F1 vx ix => ?_⟩
  cases ix with
  | bl k =>
    refine ⟨k, rfl, ?_⟩
    cases k with
    | true => rw [if_pos rfl]; exact ⟨ρ, b1, H01, G.step t1 B1, F1⟩
    | false => rw [if_neg Bool.false_ne_true]; exact F1 _ _ (Tr.refl t1.sub) B1 _ (.bl false)
  | _ => exact F1.elim
theorem px_or {b : Expr} (ha : PX X g W a f) (hb : PX X g W (.BoolOp .Or (b :: rest) pos) h) : PX X g W (.BoolOp .Or (a :: b :: rest) pos) (xOr f h) := by
  refine pe_imp (pe_or ha hb) ?_
  rintro σ H Q ⟨ρ, b, H0, G, F⟩
  refine ⟨ρ, b, H0, G, F.bind.mono fun x b1 H01 H1 t1 B1 F1 vx ix => ?_⟩
  cases ix with
  | bl k =>
    refine ⟨k, rfl, ?_⟩
    cases k with
    | true => rw [if_pos rfl]; exact F1 _ _ (Tr.refl t1.sub) B1 _ (.bl true)
    | false => rw [if_neg Bool.false_ne_true]; exact ⟨ρ, b1, H01, G.step t1 B1, F1⟩
  | _ => exact F1.elim
theorem px_not (ha : PX X g W a f) : PX X g W (.UnaryOp .Not a pos) (xNot f) := by
  refine pe_imp (pe_not ha) ?_
  rintro σ H Q ⟨ρ, b, H0, G, F⟩
  refine ⟨ρ, b, H0, G, F.bind.mono fun x b1 H01 H1 t1 B1 F1 vx ix => ?_⟩
  cases ix with
  | bl k => exact ⟨k, rfl, F1 _ _ (Tr.refl t1.sub) B1 _ (.bl _)⟩
  | _ => exact F1.elim
theorem px_if (ht : PQ X g W c p) (ha : PX X g W a f) (hb : PX X g W e h) : PX X g W (.IfExp c a e pos) (xIf p f h) := by
  refine pe_imp (pe_ifExp ht ha hb) ?_
  rintro σ H Q ⟨ρ, b, H0, G, F⟩
  refine ⟨ρ, b, H0, G, F.bind.mono fun x b1 H01 H1 t1 B1 F1 => ?_⟩
  cases x with
  | true => rw [if_pos rfl]; exact ⟨ρ, b1, H01, G.step t1 B1, F1⟩
  | false => rw [if_neg Bool.false_ne_true]; exact ⟨ρ, b1, H01, G.step t1 B1, F1⟩
end

/-! ### statements -/
abbrev Fs := En → Bx → Out
def FinS (g : Cfg) (W : WX) (HB : Hp) (o : Out) (Dd : Ends) : Prop := match o with
  | .nx ρ b => ∀ σ H H0, Good g ρ b σ H H0 → Same HB H0 → Dd.nx σ H
  | .rt d b => ∀ v H H0, Tr g.bx g.H0s g.Hs H0 H → BoxOk g.k H0 H b → Is g.k H0 d v → Dd.rt v H
  | .rto ds b => ∀ l vs H H0, Tr g.bx g.H0s g.Hs H0 H → BoxOk g.k H0 H b → g.Hs l = none → H0 l = none → H l = some (.lst vs) → IsL g.k H0 ds vs → Dd.rt (.ref l) H
  | .bk ρ b => ∀ σ H H0, Good g ρ b σ H H0 → Same HB H0 → Dd.bk σ H
  | .ct ρ b => ∀ σ H H0, Good g ρ b σ H H0 → Same HB H0 → Dd.ct σ H
  | .exc x b => ∀ cls dd σ H H0, σ.length = g.n → Tr g.bx g.H0s g.Hs H0 H → BoxOk g.k H0 H b → ExAt g.k H0 H x cls dd → W cls dd σ H
  | .bad => False
def TB (g : Cfg) (W : WX) (k : Fs) : TS := fun Dd σ H => ∃ ρ b H0, Good g ρ b σ H H0 ∧ FinS g W H0 (k ρ b) Dd
theorem FinS.base {g : Cfg} {W : WX} {A B : Hp} {o : Out} {Dd : Ends} (F : FinS g W A o Dd) (e : Same A B) : FinS g W B o Dd := by
  cases o with
  | nx ρ b => exact fun σ H H0 G q => F σ H H0 G (e.trans q)
  | bk ρ b => exact fun σ H H0 G q => F σ H H0 G (e.trans q)
  | ct ρ b => exact fun σ H H0 G q => F σ H H0 G (e.trans q)
  | _ => exact F
def PB (X : Cx) (g : Cfg) (W : WX) (ss : List Stmt) (k : Fs) : Prop := PSs X ss (TB g W k)
def P1 (X : Cx) (g : Cfg) (W : WX) (s : Stmt) (k : Fs) : Prop := PS X s (TB g W k)

def kNext : Fs := fun ρ b => .nx ρ b
def kSeq (k k' : Fs) : Fs := fun ρ b => match k ρ b with
  | .nx ρ' b' => k' ρ' b'
  | o => o
def kIf (t : Fx Bool) (k k' : Fs) : Fs := fun ρ b => (t ρ b).out fun c b1 => if c then k ρ b1 else k' ρ b1
def kRet (f : Fx D) : Fs := fun ρ b => (f ρ b).out fun d b1 => .rt d b1
def kRetO (f : Fx (List D)) : Fs := fun ρ b => (f ρ b).out fun d b1 => .rto d b1
def kDrop (f : Fx D) : Fs := fun ρ b => (f ρ b).out fun _ b1 => .nx ρ b1
abbrev Pat := D → En → Option En
def pName (i : Nat) : Pat := fun d ρ => some (ρ.set i (.val d))
def pTups : List Pat → List D → En → Option En
  | [], [], ρ => some ρ
  | p :: ps, d :: ds, ρ => (p d ρ).bind (pTups ps ds)
  | _, _, _ => none
def pTup (ps : List Pat) : Pat := fun d ρ => match d with
  | .tup ds => pTups ps ds ρ
  | _ => none
def kAsg (f : Fx D) (p : Pat) : Fs := fun ρ b => (f ρ b).out fun d b1 => match p d ρ with
  | some ρ' => .nx ρ' b1
  | none => .bad
def kAsgO (f : Fx (List D)) (i : Nat) : Fs := fun ρ b => (f ρ b).out fun ds b1 => .nx (ρ.set i (.own ds)) b1
def frz (i : Nat) (ρ : En) : En := match ρ[i]? with
  | some (.own ds) => ρ.set i (.val (.lst false ds))
  | _ => ρ
def kFrz (i : Nat) (k : Fs) : Fs := fun ρ b => k (frz i ρ) b

/-- is: the slots that the pattern stores -/
def Wp (is : List Nat) (σ σ' : St) : Prop := ∀ vs : List Nat, (∀ i ∈ is, i ∈ vs) → wipe σ' vs = wipe σ vs
def PGd (X : Cx) (g : Cfg) (tg : Expr) (is : List Nat) (p : Pat) : Prop := PG X tg fun v σ H Q => ∃ ρ b H0 d ρ', Good g ρ b σ H H0 ∧ Is g.k H0 d v ∧ p d ρ = some ρ' ∧ ∀ σ', Good g ρ' b σ' H H0 → Wp is σ σ' → Q σ' H
def PGsd (X : Cx) (g : Cfg) (tgs : List Expr) (is : List Nat) (ps : List Pat) : Prop := PGs X tgs fun vs σ H Q => ∃ ρ b H0 ds ρ', Good g ρ b σ H H0 ∧ IsL g.k H0 ds vs ∧ pTups ps ds ρ = some ρ' ∧ ∀ σ', Good g ρ' b σ' H H0 → Wp is σ σ' → Q σ' H
theorem pg_imp {X : Cx} {e : Expr} {t t' : TG} (h : PG X e t) (q : ∀ v σ H Q, t' v σ H Q → t v σ H Q) : PG X e t' := ⟨fun pins s σ H v u Q I r z => h.run pins s σ H v u Q I r (q v σ H Q z)⟩
theorem pgs_imp {X : Cx} {e : List Expr} {t t' : TGs} (h : PGs X e t) (q : ∀ v σ H Q, t' v σ H Q → t v σ H Q) : PGs X e t' := ⟨fun pins s σ H v u Q I r z => h.run pins s σ H v u Q I r (q v σ H Q z)⟩

section
variable {X : Cx} {g : Cfg} {W : WX} {a c e : Expr} {es : List Expr} {f h : Fx D} {p q : Fx Bool} {pos : Pos} {st : Stmt} {ss : List Stmt} {k k' : Fs} {fo : Fx (List D)}
theorem Good.trs {ρ : En} {b b' : Bx} {σ : St} {H H0 H' H0' : Hp} (G : Good g ρ b σ H H0) (t : Tr g.bx H0 H H0' H') : Tr g.bx g.H0s g.Hs H0' H' := G.tr.trans t
/-- from an expression's end to a statement's -/
theorem fin_out {α : Type} {r : Res α} {kk : α → Bx → Out} {ρ : En} {b : Bx} {σ : St} {H H0 : Hp} {Dd : Ends} (G : Good g ρ b σ H H0) (F : FinS g W H0 (r.out kk) Dd) :
    Fin g W σ H0 H r fun a b1 H01 H1 => FinS g W H01 (kk a b1) Dd := by
  cases r with
  | ok a b1 => exact fun _ _ t _ => FinS.base F t.ext
  | exc x b1 => exact fun H01 H1 t B cls dd ex => F cls dd σ H1 H01 G.ln (G.trs (b' := b1) t) B ex
  | bad => exact F
theorem pb_nil : PB X g W [] kNext := by
  refine pss_imp pss_nil ?_
  rintro Dd σ H ⟨ρ, b, H0, G, F⟩
  exact F σ H H0 G (Same.refl _)
theorem FinS.seq {ρ : En} {b : Bx} {Dd : Ends} {HB : Hp} (F : FinS g W HB (kSeq k k' ρ b) Dd) : FinS g W HB (k ρ b) { Dd with nx := TB g W k' Dd } := by
  unfold kSeq at F
  cases hk : k ρ b with
  | nx ρ' b' => rw [hk] at F; exact fun σ' H' H0' G' q => ⟨ρ', b', H0', G', FinS.base F q⟩
  | _ => rw [hk] at F; exact F
theorem pb_cons (h1 : P1 X g W st k) (h2 : PB X g W ss k') : PB X g W (st :: ss) (kSeq k k') := by
  refine pss_imp (pss_cons h1 h2) ?_
  rintro Dd σ H ⟨ρ, b, H0, G, F⟩
  exact ⟨ρ, b, H0, G, F.seq⟩
theorem pb_one (h1 : P1 X g W st k) : PB X g W [st] k := pss_one h1
theorem Good.frz {ρ : En} {b : Bx} {σ : St} {H H0 : Hp} (G : Good g ρ b σ H H0) (i : Nat) : ∃ H0', Same H0 H0' ∧ Good g (frz i ρ) b σ H H0' := by
  unfold Fw.frz
  split
  · rename_i ds h; exact G.freeze h
  · exact ⟨H0, Same.refl _, G⟩
theorem pb_frz (i : Nat) (h : PB X g W ss k) : PB X g W ss (kFrz i k) := by
  refine pss_imp h ?_
  rintro Dd σ H ⟨ρ, b, H0, G, F⟩
  obtain ⟨H0', q, G'⟩ := G.frz i
  exact ⟨_, b, H0', G', FinS.base F q⟩
theorem p1_frz (i : Nat) (h : P1 X g W st k) : P1 X g W st (kFrz i k) := by
  refine ps_imp h ?_
  rintro Dd σ H ⟨ρ, b, H0, G, F⟩
  obtain ⟨H0', q, G'⟩ := G.frz i
  exact ⟨_, b, H0', G', FinS.base F q⟩
theorem p1_if (ht : PQ X g W c p) (h1 : PB X g W ss k) {ss' : List Stmt} (h2 : PB X g W ss' k') : P1 X g W (.If c ss ss' pos) (kIf p k k') := by
  refine ps_imp (ps_if ht h1 h2) ?_
  rintro Dd σ H ⟨ρ, b, H0, G, F⟩
  refine ⟨ρ, b, H0, G, (fin_out G F).mono fun x b1 H01 H1 t1 B1 F1 => ?_⟩
  cases x with
  | true => rw [if_pos rfl]; exact ⟨ρ, b1, H01, G.step t1 B1, F1⟩
  | false => rw [if_neg Bool.false_ne_true]; exact ⟨ρ, b1, H01, G.step t1 B1, F1⟩
theorem p1_ret (h : PX X g W e f) : P1 X g W (.Return (some e) pos) (kRet f) := by
  refine ps_imp (ps_ret h) ?_
  rintro Dd σ H ⟨ρ, b, H0, G, F⟩
  exact ⟨ρ, b, H0, G, (fin_out G F).mono fun x b1 H01 H1 t1 B1 F1 v iv => F1 v H1 H01 (G.trs (b' := b1) t1) B1 iv⟩
theorem p1_retO (h : PN X g W e fo) : P1 X g W (.Return (some e) pos) (kRetO fo) := by
  refine ps_imp (ps_ret h) ?_
  rintro Dd σ H ⟨ρ, b, H0, G, F⟩
  refine ⟨ρ, b, H0, G, (fin_out G F).mono fun x b1 H01 H1 t1 B1 F1 l vs hn h0 hl iv => F1 l vs H1 H01 (G.trs (b' := b1) t1) B1 ?_ h0 hl iv⟩
  cases q : g.Hs l with
  | none => rfl
  | some o => exact absurd hn (G.tr.there l (by rw [q]; simp))
/-- return x, x an own list -/
def kRetV (i : Nat) : Fs := fun ρ b => match ρ[i]? with
  | some (.own ds) => .rto ds b
  | some (.val d) => .rt d b
  | _ => .bad
theorem p1_retV (i : Nat) {x : Str} {p2 : Pos} (hN : X.N[i]? = some x := by rfl) (hv : Vis X.env.scope x := by first | exact Or.inl rfl | exact Or.inr (Or.inl rfl) | exact Or.inr (Or.inr rfl)) (hd : (x == ("__debug__" : Str)) = false := by decide)
    (hcd : (x == ("__classdict__" : Str)) = false := by decide) : P1 X g W (.Return (some (.Name x p2)) pos) (kRetV i) := by
  refine ps_imp (ps_ret (pe_var hN hv hd hcd)) ?_
  rintro Dd σ H ⟨ρ, b, H0, G, F⟩
  unfold kRetV at F
  split at F
  · rename_i ds hi
    obtain ⟨l, vs, e1, h0, hl, iv⟩ := G.own hi
    exact ⟨_, e1, F l vs H H0 G.tr G.box (G.mine i l ⟨⟨_, hi, rfl⟩, e1⟩) h0 hl iv⟩
  · rename_i d hi
    obtain ⟨v, e1, iv⟩ := G.val hi
    exact ⟨v, e1, F v H H0 G.tr G.box iv⟩
  · exact F.elim
theorem p1_retN : P1 X g W (.Return none pos) (kRet (xC .non)) := by
  refine ps_imp ps_retN ?_
  rintro Dd σ H ⟨ρ, b, H0, G, F⟩
  exact F _ H H0 G.tr G.box .non
theorem p1_drop (h : PX X g W e f) (hs : swapsWith e none pos.line X.env = pure false := by rfl) : P1 X g W (.Expr e pos) (kDrop f) := by
  refine ps_imp (ps_expr h hs) ?_
  rintro Dd σ H ⟨ρ, b, H0, G, F⟩
  exact ⟨ρ, b, H0, G, (fin_out G F).mono fun x b1 H01 H1 t1 B1 F1 v iv => F1 σ H1 H01 (G.step t1 B1) (Same.refl _)⟩
theorem p1_pass : P1 X g W (.Pass pos) kNext := by
  refine ps_imp ps_pass ?_
  rintro Dd σ H ⟨ρ, b, H0, G, F⟩
  exact F σ H H0 G (Same.refl _)
theorem p1_never : P1 X g W st (fun _ _ => .bad) := by
  refine ps_imp ps_never ?_
  rintro Dd σ H ⟨ρ, b, H0, G, F⟩
  exact F
theorem pg_n (i : Nat) {x : Str} (hN : X.N.Nodup) (hi : X.N[i]? = some x := by rfl) (hx : Loc X.env.scope x := by first | exact Or.inl rfl | exact Or.inr rfl) (hf : X.fn x = true ∨ X.env.scope.names.lookup x = some .local := by first | exact .inl rfl | exact .inr rfl | assumption) : PGd X g (.Name x pos) [i] (pName i) := by
  refine pg_imp (pg_name hN hi hx hf) ?_
  rintro v σ H Q ⟨ρ, b, H0, d, ρ', G, iv, e, q⟩
  cases e
  exact q _ (G.setV iv) fun vs hv => wipe_in (hv i (List.mem_singleton.mpr rfl))
theorem pgs_0 : PGsd X g [] [] [] := by
  refine pgs_imp pgs_nil ?_
  rintro vs σ H Q ⟨ρ, b, H0, ds, ρ', G, is, e, q⟩
  cases is with
  | nil => cases e; exact ⟨rfl, q σ G fun _ _ => rfl⟩
  | cons h l => cases e
theorem pgs_1 {is js : List Nat} {pt : Pat} {pts : List Pat} (h : PGd X g e is pt) (hr : PGsd X g es js pts) (hs : List.map (fun x => x.snd) (assignEach (e :: es) X.env) = assign e X.env :: List.map (fun x => x.snd) (assignEach es X.env) := by rfl) : PGsd X g (e :: es) (is ++ js) (pt :: pts) := by
  refine pgs_imp (pgs_cons h hr hs) ?_
  rintro vs σ H Q ⟨ρ, b, H0, ds, ρ', G, il, e, q⟩
  cases il with
  | nil => cases e
  | cons h l =>
    rename_i d v ds vs
    have e : (pt d ρ).bind (pTups pts ds) = some ρ' := e
    cases hp : pt d ρ with
    | none => rw [hp] at e; cases e
    | some ρ1 =>
      rw [hp] at e
      exact ⟨v, vs, rfl, ρ, b, H0, d, ρ1, G, h, hp, fun σ1 G1 w1 => ⟨ρ1, b, H0, ds, ρ', G1, l, e, fun σ2 G2 w2 => q σ2 G2 fun us hu => (w2 us fun i hi => hu i (List.mem_append_right _ hi)).trans (w1 us fun i hi => hu i (List.mem_append_left _ hi))⟩⟩
theorem pTups_len : ∀ {ps : List Pat} {ds : List D} {ρ ρ' : En}, pTups ps ds ρ = some ρ' → ds.length = ps.length
  | [], [], _, _, _ => rfl
  | [], _ :: _, _, _, h => by cases h
  | _ :: _, [], _, _, h => by cases h
  | p :: ps, d :: ds, ρ, ρ', h => by
    have h : (p d ρ).bind (pTups ps ds) = some ρ' := h
    cases hp : p d ρ with
    | none => rw [hp] at h; cases h
    | some ρ1 => rw [hp] at h; simp [pTups_len h]
theorem pg_t {is : List Nat} {pts : List Pat} {kk : Nat} (hc : X.calm = true) (hK : X.K = g.k.K) (h : PGsd X g es is pts) (hn : (assignEach es X.env).length = pts.length := by rfl) (hst : (assignEach es X.env).findIdx? (·.1) = none := by rfl) : PGd X g (.Tuple es kk pos) is (pTup pts) := by
  refine pg_imp (pg_tup hc h hn hst) ?_
  rintro v σ H Q ⟨ρ, b, H0, d, ρ', G, iv, e, q⟩
  cases iv with
  | tup ht hl =>
    rename_i a vs ds
    have e : pTups pts ds ρ = some ρ' := e
    exact ⟨a, vs, rfl, hK ▸ same_t G.sub ht, by rw [← hl.length]; exact pTups_len e, ρ, b, H0, ds, ρ', G, hl, e, q⟩
  | _ => cases e
theorem p1_asg {t : Expr} {is : List Nat} {pt : Pat} (h : PX X g W e f) (ht : PGd X g t is pt) (hs : swapsWithSole [t] e pos.line X.env = pure false := by rfl) (hw : swappedStores [t] e X.env = pure none := by rfl)
    (h1 : (assignEach [t] X.env).map (·.2) = [assign t X.env] := by rfl) : P1 X g W (.Assign [t] e pos) (kAsg f pt) := by
  refine ps_imp (ps_asg h ht hs hw h1) ?_
  rintro Dd σ H ⟨ρ, b, H0, G, F⟩
  refine ⟨ρ, b, H0, G, (fin_out G F).mono fun x b1 H01 H1 t1 B1 F1 v iv => ?_⟩
  cases hp : pt x ρ with
  | none => simp only [hp] at F1; exact F1.elim
  | some ρ' =>
    simp only [hp] at F1
    exact ⟨ρ, b1, H01, x, ρ', G.step t1 B1, iv, hp, fun σ' G' _ => F1 σ' H1 H01 G' (Same.refl _)⟩
theorem p1_asgO {t : Str} {p2 : Pos} (i : Nat) (h : PN X g W e fo) (hN : X.N.Nodup) (hi : X.N[i]? = some t := by rfl) (hx : Loc X.env.scope t := by first | exact Or.inl rfl | exact Or.inr rfl) (hs : swapsWith e (some (.Name t p2)) pos.line X.env = pure false := by rfl)
    (hf : X.fn t = true ∨ X.env.scope.names.lookup t = some .local := by first | exact .inl rfl | exact .inr rfl | assumption) : P1 X g W (.Assign [.Name t p2] e pos) (kAsgO fo i) := by
  refine ps_imp (ps_set hN hi hx h hs hf) ?_
  rintro Dd σ H ⟨ρ, b, H0, G, F⟩
  refine ⟨ρ, b, H0, G, (fin_out G F).mono fun x b1 H01 H1 t1 B1 F1 l vs hn h0 hl iv => F1 _ _ _ ((G.step t1 B1).setO ?_ h0 hl iv fun j o => ?_) (Same.refl _)⟩
  · cases q : g.Hs l with
    | none => rfl
    | some o => exact absurd hn (G.tr.there l (by rw [q]; simp))
  · exact absurd hn (G.held o).2
end
end Fw
set_option Elab.async false
set_option linter.all false
set_option maxRecDepth 100000
set_option maxHeartbeats 1000000
/-! Fw4: loops, comprehensions. -/
namespace Fw
open PySem L2

/-- the walk J yields the data ds while what is frozen at HB stands -/
def Yields (k : Kx) (J : It) (HB : Hp) (ds : List D) : Prop := ∀ (H0 H : Hp) (i : Nat), Same HB H0 → Same H0 H →
  (∀ d, ds[i]? = some d → J.go i H ∧ ∀ x H', J.yld i H x H' → ∃ H0', Tr .no H0 H H0' H' ∧ Is k H0' d x) ∧ (ds.length ≤ i → J.stop i H)

theorem yields_list {k : Kx} {K : PySem.W.Frag} {HB : Hp} {a : Addr} {vs : List V} {ds : List D} (hl : HB a = some (.lst vs)) (il : IsL k HB ds vs) : Yields k (Itl K a) HB ds := by
  intro H0 H i e0 e1
  have hH : SqL K H a vs := .inl (.inl (e1 _ _ (e0 _ _ hl)))
  refine ⟨fun d hd => ?_, fun hi => ⟨vs, hH, by rw [← il.length]; exact hi⟩⟩
  obtain ⟨v, hv, iv⟩ := il.get hd
  refine ⟨⟨vs, v, hH, hv⟩, fun x H' y => ?_⟩
  obtain ⟨rfl, y⟩ := y
  have := y vs hH
  rw [hv] at this
  cases this
  exact ⟨H0, Tr.refl e1, iv.mono e0⟩
theorem yields_sql {k : Kx} {K : PySem.W.Frag} {HB : Hp} {a : Addr} {vs : List V} {ds : List D} (hl : SqL K HB a vs) (il : IsL k HB ds vs) : Yields k (Itl K a) HB ds := by
  intro H0 H i e0 e1
  have hH : SqL K H a vs := same_l e1 (same_l e0 hl)
  refine ⟨fun d hd => ?_, fun hi => ⟨vs, hH, by rw [← il.length]; exact hi⟩⟩
  obtain ⟨v, hv, iv⟩ := il.get hd
  refine ⟨⟨vs, v, hH, hv⟩, fun x H' y => ?_⟩
  obtain ⟨rfl, y⟩ := y
  have := y vs hH
  rw [hv] at this
  cases this
  exact ⟨H0, Tr.refl e1, iv.mono e0⟩
theorem yields_tup {k : Kx} {K : PySem.W.Frag} {HB : Hp} {a : Addr} {vs : List V} {ds : List D} (hl : SqT K HB a vs) (il : IsL k HB ds vs) : Yields k (Itt K a) HB ds := by
  intro H0 H i e0 e1
  have hH : SqT K H a vs := same_t e1 (same_t e0 hl)
  refine ⟨fun d hd => ?_, fun hi => ⟨vs, hH, by rw [← il.length]; exact hi⟩⟩
  obtain ⟨v, hv, iv⟩ := il.get hd
  refine ⟨⟨vs, v, hH, hv⟩, fun x H' y => ?_⟩
  obtain ⟨rfl, y⟩ := y
  have := y vs hH
  rw [hv] at this
  cases this
  exact ⟨H0, Tr.refl e1, iv.mono e0⟩
def rngD (lo : Int) (n : Nat) : List D := (List.range n).map fun i : Nat => D.int (lo + (i : Int))
theorem yields_rng {k : Kx} {HB : Hp} {lo : Int} {n : Nat} : Yields k (Itr lo n) HB (rngD lo n) := by
  intro H0 H i e0 e1
  have hlen : (rngD lo n).length = n := by simp [rngD]
  refine ⟨fun d hd => ?_, fun hi => by rw [hlen] at hi; exact hi⟩
  have hi : i < n := by have := (List.getElem?_eq_some_iff.mp hd).1; rw [hlen] at this; exact this
  refine ⟨hi, fun x H' y => ?_⟩
  obtain ⟨rfl, rfl⟩ := y
  have e : d = .int (lo + (i : Int)) := by
    have : (rngD lo n)[i]? = some (.int (lo + (i : Int))) := by simp [rngD, hi]
    rw [this] at hd
    exact (Option.some.inj hd).symm
  rw [e]
  exact ⟨H0, Tr.refl e1, .int _⟩
def enumD : List D → Nat → List D
  | [], _ => []
  | d :: ds, n => .tup [.int n, d] :: enumD ds (n + 1)
theorem enumD_get : ∀ {ds : List D} {n i : Nat} {d : D}, (enumD ds n)[i]? = some d → ∃ c, ds[i]? = some c ∧ d = .tup [.int ((n + i : Nat) : Int), c]
  | [], _, _, _, h => by simp [enumD] at h
  | c :: ds, n, 0, d, h => by simp [enumD] at h; exact ⟨c, rfl, h.symm⟩
  | c :: ds, n, i + 1, d, h => by
    obtain ⟨e, h1, h2⟩ := enumD_get (ds := ds) (n := n + 1) (i := i) (d := d) (by simpa [enumD] using h)
    refine ⟨e, by simpa using h1, ?_⟩
    rw [h2, show n + 1 + i = n + (i + 1) from by omega]
theorem enumD_len : ∀ (ds : List D) (n : Nat), (enumD ds n).length = ds.length
  | [], _ => rfl
  | _ :: ds, n => by simp [enumD, enumD_len ds (n + 1)]
theorem yields_enum {k : Kx} {K : PySem.W.Frag} {HB : Hp} {a : Addr} {vs : List V} {ds : List D} (hl : HB a = some (.lst vs)) (il : IsL k HB ds vs) : Yields k (Ite K a) HB (enumD ds 0) := by
  intro H0 H i e0 e1
  have hH : SqL K H a vs := .inl (.inl (e1 _ _ (e0 _ _ hl)))
  refine ⟨fun d hd => ?_, fun hi => ⟨vs, hH, by rw [← il.length]; rw [enumD_len] at hi; exact hi⟩⟩
  obtain ⟨c, hc, rfl⟩ := enumD_get hd
  obtain ⟨v, hv, iv⟩ := il.get hc
  refine ⟨⟨vs, v, hH, hv⟩, fun x H' y => ?_⟩
  obtain ⟨T, x', rfl, hT, rfl, y⟩ := y
  have := y vs hH
  rw [hv] at this
  cases this
  have ta := Tr.alloc (o := .tup [.int (i : Nat), v]) e1 hT
  refine ⟨_, ta, .tup (.inl (.inl upd_same)) (.cons ?_ (.cons ((iv.mono e0).mono ta.ext) .nil))⟩
  rw [Nat.zero_add]
  exact .int _
def chD (x : Str) : List D := x.cps.toList.map fun c => .str ⟨#[c]⟩
theorem yields_str {k : Kx} {HB : Hp} {x : Str} : Yields k (Its x) HB (chD x) := by
  intro H0 H i e0 e1
  have hlen : (chD x).length = x.cps.size := by simp [chD]
  refine ⟨fun d hd => ?_, fun hi => by rw [hlen] at hi; exact hi⟩
  have hi : i < x.cps.size := by have := (List.getElem?_eq_some_iff.mp hd).1; rw [hlen] at this; exact this
  refine ⟨hi, fun z H' y => ?_⟩
  obtain ⟨rfl, c, hc, rfl⟩ := y
  have e : d = .str ⟨#[c]⟩ := by
    have : (chD x)[i]? = some (.str ⟨#[c]⟩) := by
      unfold chD
      rw [List.getElem?_map, Array.getElem?_toList, hc]
      rfl
    rw [this] at hd
    exact (Option.some.inj hd).symm
  rw [e]
  exact ⟨H0, Tr.refl e1, .str _⟩

/-- a loop over data -/
def forS (pt : Pat) (k : Fs) : List D → Fs
  | [], ρ, b => .nx ρ b
  | d :: ds, ρ, b => match pt d ρ with
    | none => .bad
    | some ρ1 => match k ρ1 b with
      | .nx ρ2 b2 => forS pt k ds ρ2 b2
      | .ct ρ2 b2 => forS pt k ds ρ2 b2
      | .bk ρ2 b2 => .nx ρ2 b2
      | o => o
section
variable {X : Cx} {g : Cfg} {W : WX} {is : List Nat} {pt : Pat} {k : Fs} {J : It} {HB : Hp} {ds : List D} {Dd : Ends}
theorem for_yields {ρ : En} {b : Bx} {σ : St} {H H0 : Hp} (Y : Yields g.k J HB ds) (G : Good g ρ b σ H H0) (e0 : Same HB H0) (F : FinS g W HB (forS pt k ds ρ b) Dd) :
    ∃ Wd : Nat → Nat → St → Hp → Prop, (∃ m, Wd 0 m σ H) ∧ ∀ i m σ H, Wd i m σ H →
      (J.stop i H ∧ Dd.nx σ H) ∨ (J.go i H ∧ ∃ N : St → Hp → Prop, (∀ σ' H', N σ' H' → ∃ m', m' < m ∧ Wd (i + 1) m' σ' H') ∧
        ∀ x H', J.yld i H x H' → (∃ ρ b H0 d ρ', Good g ρ b σ H' H0 ∧ Is g.k H0 d x ∧ pt d ρ = some ρ' ∧ ∀ σ', Good g ρ' b σ' H' H0 → Wp is σ σ' → TB g W k { Dd with nx := N, ct := N, bk := Dd.nx } σ' H')) := by
  refine ⟨fun i m σ H => m = ds.length - i ∧ i ≤ ds.length ∧ ∃ ρ b H0, Good g ρ b σ H H0 ∧ Same HB H0 ∧ FinS g W HB (forS pt k (ds.drop i) ρ b) Dd, ⟨_, rfl, Nat.zero_le _, ρ, b, H0, G, e0, by rw [List.drop_zero]; exact F⟩, ?_⟩
  rintro i m σ H ⟨rfl, hi, ρ, b, H0, G, e0, F⟩
  obtain ⟨go, stop⟩ := Y H0 H i e0 G.sub
  by_cases hlt : i < ds.length
  · have hd : ds[i]? = some ds[i] := List.getElem?_eq_getElem hlt
    obtain ⟨g1, yl⟩ := go _ hd
    have hdr : ds.drop i = ds[i] :: ds.drop (i + 1) := List.drop_eq_getElem_cons hlt
    rw [hdr] at F
    refine .inr ⟨g1, fun σ' H' => ∃ ρ b H0, Good g ρ b σ' H' H0 ∧ Same HB H0 ∧ FinS g W HB (forS pt k (ds.drop (i + 1)) ρ b) Dd, fun σ' H' z => ⟨ds.length - (i + 1), by omega, rfl, hlt, z⟩, fun x H' y => ?_⟩
    obtain ⟨H0', t, iv⟩ := yl x H' y
    cases hp : pt ds[i] ρ with
    | none => simp only [forS, hp] at F; exact F.elim
    | some ρ1 =>
      simp only [forS, hp] at F
      refine ⟨ρ, b, H0', _, ρ1, G.step t.weak (G.box.keep t), iv, hp, fun σ' G' _ => ⟨ρ1, b, H0', G', ?_⟩⟩
      cases hk : k ρ1 b with
      | nx ρ2 b2 => rw [hk] at F; exact fun σ2 H2 H02 G2 q => ⟨ρ2, b2, H02, G2, e0.trans (t.ext.trans q), F⟩
      | ct ρ2 b2 => rw [hk] at F; exact fun σ2 H2 H02 G2 q => ⟨ρ2, b2, H02, G2, e0.trans (t.ext.trans q), F⟩
      | bk ρ2 b2 => rw [hk] at F; exact fun σ2 H2 H02 G2 q => F σ2 H2 H02 G2 (e0.trans (t.ext.trans q))
      | rt d b2 => rw [hk] at F; exact F
      | rto d b2 => rw [hk] at F; exact F
      | exc x b2 => rw [hk] at F; exact F
      | bad => rw [hk] at F; exact F
  · have e : i = ds.length := by omega
    subst e
    rw [List.drop_length] at F
    exact .inl ⟨stop (Nat.le_refl _), F σ H H0 G e0⟩
end
theorem pi_or {X : Cx} {tg e : Expr} {w w' : TI} (h : PI X tg e w) (h' : PI X tg e w') : PI X tg e fun σ H R => w σ H R ∨ w' σ H R :=
  ⟨fun pins s σ H R I z => z.elim (h.run pins s σ H R I) (h'.run pins s σ H R I)⟩

/-- what is walked: a list, a tuple, a text -/
def seqD : D → Option (List D)
  | .lst _ ds => some ds
  | .sql ds => some ds
  | .tup ds => some ds
  | .str x => some (chD x)
  | _ => none
def xSeq (f : Fx D) : Fx (List D) := fun ρ b => (f ρ b).bind fun d b1 => lift (seqD d) b1
def kFor (fl : Fx (List D)) (pt : Pat) (k : Fs) : Fs := fun ρ b => (fl ρ b).out fun ds b1 => forS pt k ds ρ b1

/-- a source: whatever it is asked, it gives a walk that yields the data -/
def TIs (g : Cfg) (W : WX) (fl : Fx (List D)) : TI := fun σ H R => ∃ ρ b H0, Good g ρ b σ H H0 ∧ Fin g W σ H0 H (fl ρ b) fun ds _ H0' H' => ∀ J, Yields g.k J H0' ds → R J H'
def PIs (X : Cx) (g : Cfg) (W : WX) (tg e : Expr) (fl : Fx (List D)) : Prop := PI X tg e (TIs g W fl)
theorem pi_imp {X : Cx} {tg e : Expr} {t t' : TI} (h : PI X tg e t) (q : ∀ σ H R, t' σ H R → t σ H R) : PI X tg e t' := ⟨fun pins s σ H R I z => h.run pins s σ H R I (q σ H R z)⟩
section
variable {X : Cx} {g : Cfg} {W : WX} {tg e : Expr} {es : List Expr} {f : Fx D} {fl : Fx (List D)} {pos p : Pos}
theorem is_seq (hK : X.K = g.k.K) (h : PX X g W e f) : PIs X g W tg e (xSeq f) := by
  refine pi_imp (pi_or (pi_list h) (pi_or (pi_tup h) (pi_str h))) ?_
  rintro σ H R ⟨ρ, b, H0, G, F⟩
  unfold xSeq at F
  cases hf : f ρ b with
  | bad => rw [hf] at F; exact F.elim
  | exc x b1 =>
    rw [hf] at F
    refine .inl ⟨ρ, b, H0, G, ?_⟩
    rw [hf]
    exact F
  | ok d b1 =>
    rw [hf] at F
    cases d with
    | lst z ds =>
      refine .inl ⟨ρ, b, H0, G, ?_⟩
      rw [hf]
      intro H01 H1 t1 B1 v iv
      cases iv with
      | lst hl _ il => exact ⟨_, rfl, ⟨_, .inl (.inl (t1.sub _ _ hl))⟩, F H01 H1 t1 B1 _ (yields_list hl il)⟩
    | sql ds =>
      refine .inl ⟨ρ, b, H0, G, ?_⟩
      rw [hf]
      intro H01 H1 t1 B1 v iv
      cases iv with
      | sql hl il => exact ⟨_, rfl, ⟨_, hK ▸ same_l t1.sub hl⟩, F H01 H1 t1 B1 _ (yields_sql (hK ▸ hl) il)⟩
    | tup ds =>
      refine .inr (.inl ⟨ρ, b, H0, G, ?_⟩)
      rw [hf]
      intro H01 H1 t1 B1 v iv
      cases iv with
      | tup hl il => exact ⟨_, rfl, ⟨_, hK ▸ same_t t1.sub hl⟩, F H01 H1 t1 B1 _ (yields_tup (hK ▸ hl) il)⟩
    | str x =>
      refine .inr (.inr ⟨ρ, b, H0, G, ?_⟩)
      rw [hf]
      intro H01 H1 t1 B1 v iv
      cases iv with
      | str x => exact ⟨_, rfl, F H01 H1 t1 B1 _ yields_str⟩
    | _ => exact F.elim
def rng1 : List D → Option (List D)
  | [.int n] => if -100000 ≤ n ∧ n ≤ 100000 then some (rngD 0 n.toNat) else none
  | _ => none
def rng2 : List D → Option (List D)
  | [.int m, .int n] => if (-100000 ≤ m ∧ m ≤ 100000) ∧ -100000 ≤ n ∧ n ≤ 100000 then some (rngD m (n - m).toNat) else none
  | _ => none
def enum1 : List D → Option (List D)
  | [.lst _ ds] => some (enumD ds 0)
  | _ => none
def xSrc (o : List D → Option (List D)) (fl : Fx (List D)) : Fx (List D) := fun ρ b => (fl ρ b).bind fun ds b1 => lift (o ds) b1
theorem is_rng1 {a : Expr} (hg : Gl X "range") (hm : X.mg "range" = none) (ha : PL X g W [a] fl) (hs : starEach [a] X.env = [(false, eval a X.env)] := by rfl) : PIs X g W tg (.Call (.Name "range" p) [a] [] pos) (xSrc rng1 fl) := by
  refine pi_imp (pi_range1 hg hm ha hs) ?_
  rintro σ H R ⟨ρ, b, H0, G, F⟩
  refine ⟨ρ, b, H0, G, F.bind.mono fun ds b1 H01 H1 t1 B1 F1 vs is => ?_⟩
  unfold rng1 at F1
  split at F1
  · rename_i n
    cases is with
    | cons i l =>
      cases i; cases l
      split at F1
      · rename_i hn
        exact ⟨n, rfl, by omega, by omega, F1 H01 H1 (Tr.refl t1.sub) B1 _ yields_rng⟩
      · exact F1.elim
  · exact F1.elim
theorem is_rng2 {a c : Expr} (hg : Gl X "range") (hm : X.mg "range" = none) (ha : PL X g W [a, c] fl) (hs : starEach [a, c] X.env = [(false, eval a X.env), (false, eval c X.env)] := by rfl) (hs2 : starEach [c] X.env = [(false, eval c X.env)] := by rfl) :
    PIs X g W tg (.Call (.Name "range" p) [a, c] [] pos) (xSrc rng2 fl) := by
  refine pi_imp (pi_range2 hg hm ha hs hs2) ?_
  rintro σ H R ⟨ρ, b, H0, G, F⟩
  refine ⟨ρ, b, H0, G, F.bind.mono fun ds b1 H01 H1 t1 B1 F1 vs is => ?_⟩
  unfold rng2 at F1
  split at F1
  · rename_i m n
    cases is with
    | cons i l =>
      cases i
      cases l with
      | cons j l =>
        cases j; cases l
        split at F1
        · rename_i hn
          exact ⟨m, n, rfl, by omega, F1 H01 H1 (Tr.refl t1.sub) B1 _ yields_rng⟩
        · exact F1.elim
  · exact F1.elim
theorem is_enum {a : Expr} {elts : List Expr} {kk : Nat} {tpos : Pos} (hg : Gl X "enumerate") (hm : X.mg "enumerate" = none) (ha : PL X g W [a] fl) (hs : starEach [a] X.env = [(false, eval a X.env)] := by rfl) : PIs X g W (.Tuple elts kk tpos) (.Call (.Name "enumerate" p) [a] [] pos) (xSrc enum1 fl) := by
  refine pi_imp (pi_enum hg hm ha hs) ?_
  rintro σ H R ⟨ρ, b, H0, G, F⟩
  refine ⟨ρ, b, H0, G, F.bind.mono fun ds b1 H01 H1 t1 B1 F1 vs is => ?_⟩
  unfold enum1 at F1
  split at F1
  · cases is with
    | cons i l =>
      cases l
      cases i with
      | lst hl _ il => exact ⟨_, _, rfl, .inl (.inl (t1.sub _ _ hl)), F1 H01 H1 (Tr.refl t1.sub) B1 _ (yields_enum hl il)⟩
  · exact F1.elim
theorem p1_for {is : List Nat} {pt : Pat} {k : Fs} {body : List Stmt} (hp : PassesOwn (model X.prog X.w) X.A X.env X.xe) (hc : X.calm = true) (hi : PIs X g W tg e fl) (hg : PGd X g tg is pt) (hb : PB X g W body k)
    (hs : ∀ x, foldedSetIterable e X.env x = pure x := by intro _; rfl) : P1 X g W (.For tg e body [] pos) (kFor fl pt k) := by
  refine ps_imp (ps_for hp hc hi hg hb hs) ?_
  rintro Dd σ H ⟨ρ, b, H0, G, F⟩
  exact ⟨ρ, b, H0, G, (fin_out G F).mono fun ds b1 H01 H1 t1 B1 F1 J Y => for_yields Y (G.step t1 B1) (Same.refl _) F1⟩

/-! ### comprehensions -/
def wipeE (ρ : En) : List Nat → En
  | [] => ρ
  | v :: vs => (wipeE ρ vs).set v .no
theorem Good.wipe {ρ : En} {b : Bx} {σ : St} {H H0 : Hp} (G : Good g ρ b σ H H0) : ∀ vs : List Nat, Good g (wipeE ρ vs) b (L2.wipe σ vs) H H0
  | [] => G
  | v :: vs => (Good.wipe G vs).setN
def compS (pt : Pat) (ft : Fx Bool) (fe : Fx D) (ρ : En) : List D → Bx → Res (List D)
  | [], b => .ok [] b
  | d :: ds, b => match pt d ρ with
    | none => .bad
    | some ρ1 => match ft ρ1 b with
      | .ok true b1 => match fe ρ1 b1 with
        | .ok x b2 => (compS pt ft fe ρ ds b2).bind fun xs b3 => .ok (x :: xs) b3
        | _ => .bad
      | .ok false b1 => compS pt ft fe ρ ds b1
      | _ => .bad
def xComp (fl : Fx (List D)) (vs : List Nat) (pt : Pat) (ft : Fx Bool) (fe : Fx D) : Fx (List D) := fun ρ b => (fl ρ b).bind fun ds b1 => if ds.length ≤ 100000 then compS pt ft fe (wipeE ρ vs) ds b1 else .bad
def W0 : WX := fun _ _ _ _ => False
def PTq (X : Cx) (g : Cfg) (ifs : List Expr) (f : Fx Bool) : Prop := PTs X ifs (TT' g W0 f)
def xYes : Fx Bool := fun _ b => .ok true b
theorem pts_imp {ifs : List Expr} {t t' : TT} (h : PTs X ifs t) (q : ∀ σ H Q, t' σ H Q → t σ H Q) : PTs X ifs t' := ⟨fun pins s σ H Q I z => h.run pins s σ H Q I (q σ H Q z)⟩
theorem ptq_nil : PTq X g [] xYes := by
  refine pts_imp pts_nil ?_
  rintro σ H Q ⟨ρ, b, H0, G, F⟩
  exact F H0 H (Tr.refl G.sub) G.box
theorem ptq_one {c : Expr} {q : Fx Bool} (h : PQ X g W0 c q) : PTq X g [c] q := pts_one h
/-- the loop of a comprehension -/
theorem comp_yields {is vs : List Nat} {pt : Pat} {ft : Fx Bool} {fe : Fx D} {J : It} {ds : List D} {ρ : En} {b : Bx} {σ : St} {HA HA0 : Hp} {L : Addr} {KK : List D → Bx → Hp → Hp → Prop} {Q : VK} (his : ∀ i ∈ is, i ∈ vs) (Y : Yields g.k J HA0 ds) (hz : ds.length ≤ 100000) (G : Good g ρ b σ HA HA0)
    (F : Fin g W σ HA0 HA (compS pt ft fe (wipeE ρ vs) ds b) fun xs _ H0' H' => ∀ l us, HA l = none → H0' l = none → H' l = some (.lst us) → IsL g.k H0' xs us → Q (.ref l) H') (hL : HA L = none) :
    ∃ Wd : Nat → Nat → Hp → Prop, (∃ m, Wd 0 m (upd HA L (.lst []))) ∧ ∀ i m H, Wd i m H → (J.stop i H ∧ Q (.ref L) H) ∨ (J.go i H ∧ ∃ Nx : Hp → Prop, (∀ H', Nx H' → ∃ m', m' < m ∧ Wd (i + 1) m' H') ∧ ∀ x H', J.yld i H x H' →
      (∃ ρ b H0 d ρ', Good g ρ b (L2.wipe σ vs) H' H0 ∧ Is g.k H0 d x ∧ pt d ρ = some ρ' ∧ ∀ σ2, Good g ρ' b σ2 H' H0 → Wp is (L2.wipe σ vs) σ2 → L2.wipe σ2 vs = L2.wipe σ vs ∧ TT' g W0 ft σ2 H' fun c H3 =>
        if c = true then TX g W0 fe σ2 H3 fun y H4 => ∃ acc, H4 L = some (.lst acc) ∧ acc.length < sizeLine ∧ Nx (upd H4 L (.lst (acc ++ [y]))) else Nx H3)) := by
  -- behind i items: the list so far at L, and what is left to do
  let P : Nat → Hp → Prop := fun i H => ∃ b H0 accD accV, Good g (wipeE ρ vs) b (L2.wipe σ vs) H H0 ∧ Tr g.bx HA0 HA H0 H ∧ H0 L = none ∧ H L = some (.lst accV) ∧ IsL g.k H0 accD accV ∧ accV.length ≤ i ∧
    Fin g W σ HA0 HA ((compS pt ft fe (wipeE ρ vs) (ds.drop i) b).bind fun xs b' => .ok (accD ++ xs) b') fun xs _ H0' H' => ∀ l us, HA l = none → H0' l = none → H' l = some (.lst us) → IsL g.k H0' xs us → Q (.ref l) H'
  have nL : ∀ {b : Bx}, BoxOk g.k HA0 HA b → ¬ InB g.bx L := fun B z => (B.at z).2 hL
  have wipe2 : ∀ (τ : St) (us : List Nat), L2.wipe (L2.wipe τ us) us = L2.wipe τ us := by
    intro τ us
    have key : ∀ (us ws : List Nat), (∀ u ∈ ws, u ∈ us) → L2.wipe (L2.wipe τ ws) us = L2.wipe τ us := by
      intro us ws
      induction ws with
      | nil => intro _; rfl
      | cons u ws ih =>
        intro h
        show L2.wipe ((L2.wipe τ ws).set u none) us = _
        rw [wipe_in (h u List.mem_cons_self), ih fun v hv => h v (List.mem_cons_of_mem _ hv)]
    exact key us us fun _ h => h
  refine ⟨fun i m H => m = ds.length - i ∧ i ≤ ds.length ∧ P i H, ⟨_, rfl, Nat.zero_le _, ?_⟩, ?_⟩
  · have ta := Tr.allocO (o := .lst []) G.sub hL
    refine ⟨b, HA0, [], [], (G.step ta.weak (G.box.keep ta)).wipe vs, ta.weak, G.sub.free hL, upd_same, .nil, Nat.le_refl _, ?_⟩
    rw [List.drop_zero]
    cases hc : compS pt ft fe (wipeE ρ vs) ds b with
    | ok xs b' => rw [hc] at F; exact F
    | exc x b' => rw [hc] at F; exact F
    | bad => rw [hc] at F; exact F
  · rintro i m H ⟨rfl, hi, b, H0, accD, accV, G1, T, h0L, hHL, iL, hlen, F1⟩
    obtain ⟨go, stop⟩ := Y H0 H i T.ext G1.sub
    by_cases hlt : i < ds.length
    · have hd : ds[i]? = some ds[i] := List.getElem?_eq_getElem hlt
      obtain ⟨g1, yl⟩ := go _ hd
      have hdr : ds.drop i = ds[i] :: ds.drop (i + 1) := List.drop_eq_getElem_cons hlt
      rw [hdr] at F1
      refine .inr ⟨g1, P (i + 1), fun H' z => ⟨ds.length - (i + 1), by omega, rfl, hlt, z⟩, fun x H' y => ?_⟩
      obtain ⟨H0', t, iv⟩ := yl x H' y
      have hnb : ¬ InB g.bx L := nL G.box
      have noN : ∀ a, ¬ InB .no a := fun _ z => z
      cases hp : pt ds[i] (wipeE ρ vs) with
      | none => simp only [compS, hp] at F1; exact F1.elim
      | some ρ1 =>
        simp only [compS, hp] at F1
        refine ⟨wipeE ρ vs, b, H0', _, ρ1, G1.step t.weak (G1.box.keep t), iv, hp, fun σ2 G2 w2 => ⟨?_, ρ1, b, H0', G2, ?_⟩⟩
        · rw [w2 vs his, wipe2]
        · have L1 : H' L = some (.lst accV) := t.keep _ _ hHL (noN _)
          have L0 : H0' L = none := t.new _ h0L (by rw [hHL]; simp) (noN _)
          cases ht : ft ρ1 b with
          | bad => simp only [ht] at F1; exact F1.elim
          | exc x b1 => simp only [ht] at F1; exact F1.elim
          | ok c b1 =>
            intro H03 H3 t3 B3
            have L3 : H3 L = some (.lst accV) := t3.keep _ _ L1 hnb
            have L03 : H03 L = none := t3.new _ L0 (by rw [L1]; simp) hnb
            have T3 : Tr g.bx HA0 HA H03 H3 := (T.trans t.weak).trans t3
            have G3 := (G1.step t.weak (G1.box.keep t)).step t3 B3
            cases c with
            | false =>
              refine iteF ?_
              simp only [ht] at F1
              exact ⟨b1, H03, accD, accV, G3, T3, L03, L3, iL.mono (t.ext.trans t3.ext), Nat.le_succ_of_le hlen, F1⟩
            | true =>
              refine iteT ?_
              simp only [ht] at F1
              refine ⟨ρ1, b1, H03, G2.step t3 B3, ?_⟩
              cases he : fe ρ1 b1 with
              | bad => simp only [he] at F1; exact F1.elim
              | exc x b2 => simp only [he] at F1; exact F1.elim
              | ok z b2 =>
                simp only [he] at F1
                intro H04 H4 t4 B4 v iz
                have L4 : H4 L = some (.lst accV) := t4.keep _ _ L3 hnb
                have L04 : H04 L = none := t4.new _ L03 (by rw [L3]; simp) hnb
                have T4 : Tr g.bx HA0 HA H04 H4 := T3.trans t4
                have G4 := G3.step t4 B4
                refine ⟨accV, L4, Nat.lt_of_lt_of_le (by omega : accV.length < 100000) (by decide), b2, H04, accD ++ [z], accV ++ [v], ?_, ?_, L04, upd_same, ?_, by rw [List.length_append, List.length_singleton]; omega, ?_⟩
                · -- the new list is nobody's slot
                  have no : ∀ j l, OwnAt (wipeE ρ vs) (L2.wipe σ vs) j l → l ≠ L := fun j l o e => by
                    subst e
                    exact absurd hL ((G.wipe vs).held o).2
                  refine ⟨⟨G4.tr.ext, fun a u e => ?_, fun a u e n => ?_, fun a e => ?_, G4.tr.new⟩, G4.len, fun j => ?_, G4.apart, G4.mine, ?_, G4.bin, G4.zin, G4.ln⟩
                  · rw [upd_ne (ne_of_none e L04)]; exact G4.tr.sub a u e
                  · have hne : a ≠ L := fun q => by
                      have := G.tr.there a (by rw [e]; simp)
                      rw [q, hL] at this; exact this rfl
                    rw [upd_ne hne]; exact G4.tr.keep a u e n
                  · by_cases ha : a = L
                    · rw [ha, upd_same]; simp
                    · rw [upd_ne ha]; exact G4.tr.there a e
                  · refine (G4.slot j).mono (Same.refl _) (fun _ _ _ _ h _ => h) fun l us hs' hx hl' => ?_
                    rw [upd_ne (no j l ⟨hs', hx⟩)]; exact hl'
                  · exact B4.out hnb
                · refine ⟨T4.ext, fun a u e => ?_, fun a u e n => ?_, fun a e => ?_, T4.new⟩
                  · rw [upd_ne (ne_of_none e L04)]; exact T4.sub a u e
                  · rw [upd_ne (ne_of_none e hL)]; exact T4.keep a u e n
                  · by_cases ha : a = L
                    · rw [ha, upd_same]; simp
                    · rw [upd_ne ha]; exact T4.there a e
                · exact (iL.mono (t.ext.trans (t3.ext.trans t4.ext))).app (.cons iz .nil)
                · cases hc : compS pt ft fe (wipeE ρ vs) (ds.drop (i + 1)) b2 with
                  | bad => rw [hc] at F1; exact F1.elim
                  | exc x b3 => rw [hc] at F1; exact F1
                  | ok xs b3 =>
                    rw [hc] at F1
                    show Fin g W σ HA0 HA (.ok (accD ++ [z] ++ xs) b3) _
                    rw [List.append_assoc]
                    exact F1
    · have e : i = ds.length := by omega
      subst e
      rw [List.drop_length] at F1
      have F1 : Fin g W σ HA0 HA (.ok (accD ++ []) b) _ := F1
      rw [List.append_nil] at F1
      exact .inl ⟨stop (Nat.le_refl _), F1 H0 H T G1.box L accV hL h0L hHL iL⟩
theorem po_comp {elt iter : Expr} {ifs : List Expr} {scope : Scope} {own : List (Str × Nat)} {is : List Nat} {pt : Pat} {ft : Fx Bool} {fe : Fx D} (hc : X.calm = true) (hN : X.N.Nodup) (hi : PIs X g W tg iter fl) (ok : BlkOk X.N X.env.scope scope own) (his : ∀ i ∈ is, i ∈ own.map (·.2))
    (hg : ∀ (s : Shared) (H : Hp) (C : Addr) (cl : List (Str × Addr)) (fp : List Addr), PGd (X.blk s H scope (compEnvC scope cl C X.env) fp) g tg is pt)
    (ht : ∀ (s : Shared) (H : Hp) (C : Addr) (cl : List (Str × Addr)) (fp : List Addr), PTq (X.blk s H scope (compEnvC scope cl C X.env) fp) g ifs ft)
    (he : ∀ (s : Shared) (H : Hp) (C : Addr) (cl : List (Str × Addr)) (fp : List Addr), PX (X.blk s H scope (compEnvC scope cl C X.env) fp) g W0 elt fe)
    (hs : ∀ x, foldedSetIterable iter X.env x = pure x := by intro _; rfl) : PN X g W (.ListComp elt [⟨tg, iter, ifs, 0⟩] scope pos) (xComp fl (own.map (·.2)) pt ft fe) := by
  refine pe_imp (pe_lc hc hN hi ok hg ht he hs) ?_
  rintro σ H Q ⟨ρ, b, H0, G, F⟩
  refine ⟨ρ, b, H0, G, ?_⟩
  unfold xComp at F
  cases hf : fl ρ b with
  | bad => rw [hf] at F; exact F.elim
  | exc x b1 => rw [hf] at F; exact F
  | ok ds b1 =>
    rw [hf] at F
    intro H01 H1 t1 B1 J Y L hL
    have F : Fin g W σ H0 H (if ds.length ≤ 100000 then compS pt ft fe (wipeE ρ (own.map (·.2))) ds b1 else .bad) _ := F
    split at F
    · rename_i hz
      refine comp_yields (KK := fun _ _ _ _ => True) his Y hz (G.step t1 B1) ((F.move t1).mono fun xs b' H0' H' t B k l us hl h0 hl' il => k l us ?_ h0 hl' il) hL
      cases q : H l with
      | none => rfl
      | some o => exact absurd hl (t1.there l (by rw [q]; simp))
    · exact F.elim
/-- name = [..] -/
theorem p1_setComp {y : Str} {py spos : Pos} {elt iter : Expr} {ifs : List Expr} {scope : Scope} {own : List (Str × Nat)} {is : List Nat} {pt : Pat} {ft : Fx Bool} {fe : Fx D} (i : Nat) (hc : X.calm = true) (hN : X.N.Nodup) (hy : X.N[i]? = some y) (hyl : X.env.scope.names.lookup y = some .local)
    (hsw : swapsWith (.ListComp elt [⟨tg, iter, ifs, 0⟩] scope pos) (some (.Name y py)) spos.line X.env = pure true) (hi : PIs X g W tg iter fl) (ok : BlkOk X.N X.env.scope scope own) (his : ∀ i ∈ is, i ∈ own.map (·.2))
    (hg : ∀ (s : Shared) (H : Hp) (C : Addr) (cl : List (Str × Addr)) (fp : List Addr), PGd (X.blk s H scope (compEnvC scope cl C X.env) fp) g tg is pt)
    (ht : ∀ (s : Shared) (H : Hp) (C : Addr) (cl : List (Str × Addr)) (fp : List Addr), PTq (X.blk s H scope (compEnvC scope cl C X.env) fp) g ifs ft)
    (he : ∀ (s : Shared) (H : Hp) (C : Addr) (cl : List (Str × Addr)) (fp : List Addr), PX (X.blk s H scope (compEnvC scope cl C X.env) fp) g W0 elt fe)
    (hs : ∀ x, foldedSetIterable iter X.env x = pure x := by intro _; rfl) : P1 X g W (.Assign [.Name y py] (.ListComp elt [⟨tg, iter, ifs, 0⟩] scope pos) spos) (kAsgO (xComp fl (own.map (·.2)) pt ft fe) i) := by
  refine ps_imp (ps_setLc hc hN hy hyl hsw hi ok hg ht he hs) ?_
  rintro Dd σ H ⟨ρ, b, H0, G, F⟩
  refine ⟨ρ, b, H0, G, ?_⟩
  have F := fin_out G F
  unfold xComp at F
  cases hf : fl ρ b with
  | bad => rw [hf] at F; exact F.elim
  | exc x b1 => rw [hf] at F; exact F
  | ok ds b1 =>
    rw [hf] at F
    intro H01 H1 t1 B1 J Y L hL
    have F : Fin g W σ H0 H (if ds.length ≤ 100000 then compS pt ft fe (wipeE ρ (own.map (·.2))) ds b1 else .bad) _ := F
    split at F
    · rename_i hz
      refine comp_yields (Q := fun v H' => Dd.nx (σ.set i (some v)) H') (KK := fun _ _ _ _ => True) his Y hz (G.step t1 B1) ((F.move t1).mono fun xs b' H0' H' t B k l us hl h0 hl' il => ?_) hL
      have G2 := (G.step t1 B1).step t B
      refine k _ _ _ (G2.setO ?_ h0 hl' il fun j o => ?_) (Same.refl _)
      · cases q : g.Hs l with
        | none => rfl
        | some o => exact absurd hl ((G.step t1 B1).tr.there l (by rw [q]; simp))
      · exact absurd hl ((G.step t1 B1).held o).2
    · exact F.elim
end
end Fw
set_option Elab.async false
set_option linter.all false
set_option maxRecDepth 100000
set_option maxHeartbeats 1000000
/-! Fw5: defs and their promises, calls, methods, fields; own lists. -/
namespace Fw
open PySem PySem.Spec PyProof.Rows L2

abbrev FD := List D → Bx → Out
def PostD (k : Kx) (H0 H : Hp) (o : Out) (Q : VK) (E : XK) : Prop := match o with
  | .rt d b => ∀ v H0' H', Tr k.bx H0 H H0' H' → BoxOk k H0' H' b → Is k H0' d v → Q v H'
  | .rto ds b => ∀ l vs H0' H', Tr k.bx H0 H H0' H' → BoxOk k H0' H' b → H l = none → H0' l = none → H' l = some (.lst vs) → IsL k H0' ds vs → Q (.ref l) H'
  | .nx _ b => ∀ H0' H', Tr k.bx H0 H H0' H' → BoxOk k H0' H' b → Q .non H'
  | .exc x b => ∀ cls dd H0' H', Tr k.bx H0 H H0' H' → BoxOk k H0' H' b → ExAt k H0' H' x cls dd → E cls dd H'
  | _ => False
/-- the promise: of such data the def makes what F says -/
def spD (K : PySem.W.Frag) (n : Nat) (F : FD) : Sp := fun vs H Q E => vs.length = n ∧ ∃ (bx : Bk) (z : Addr → Bool) (ds : List D) (b : Bx) (H0 : Hp), Same H0 H ∧ ZOk ⟨K, bx, z⟩ H ∧ BoxOk ⟨K, bx, z⟩ H0 H b ∧ IsL ⟨K, bx, z⟩ H0 ds vs ∧ PostD ⟨K, bx, z⟩ H0 H (F ds b) Q E
def startE (n : Nat) (ds : List D) : En := ds.map Sl.val ++ List.replicate (n - ds.length) Sl.no
def runD (n : Nat) (k : Fs) : FD := fun ds b => k (startE n ds) b

theorem good_start {K : PySem.W.Frag} {bx : Bk} {H0 H : Hp} {N : List Str} {ds : List D} {vs : List V} {b : Bx} {z : Addr → Bool} (e : Same H0 H) (zo : ZOk ⟨K, bx, z⟩ H) (B : BoxOk ⟨K, bx, z⟩ H0 H b) (il : IsL ⟨K, bx, z⟩ H0 ds vs) :
    Good ⟨⟨K, bx, z⟩, H, H0, (L2.start N vs).length⟩ (startE N.length ds) b (L2.start N vs) H H0 := by
  have hl := il.length
  refine ⟨Tr.refl e, ?_, fun i => ?_, ?_, ?_, B, fun a z => (B.at z).2, zo, rfl⟩
  · unfold startE L2.start
    rw [List.length_append, List.length_append, List.length_map, List.length_map, List.length_replicate, List.length_replicate, hl]
  · by_cases hi : i < ds.length
    · have h1 : (startE N.length ds)[i]? = some (.val ds[i]) := by
        unfold startE
        rw [List.getElem?_append_left (by rw [List.length_map]; exact hi), List.getElem?_map, List.getElem?_eq_getElem hi]; rfl
      have hi' : i < vs.length := by omega
      have h2 : (L2.start N vs)[i]? = some (some vs[i]) := by
        unfold L2.start
        rw [List.getElem?_append_left (by rw [List.length_map]; exact hi'), List.getElem?_map, List.getElem?_eq_getElem hi']; rfl
      rw [h1, h2]
      obtain ⟨v, hv, iv⟩ := il.get (List.getElem?_eq_getElem hi)
      rw [List.getElem?_eq_getElem hi'] at hv
      cases hv
      exact ⟨_, rfl, iv⟩
    · have h1 : (startE N.length ds)[i]? = some .no ∨ (startE N.length ds)[i]? = none := by
        unfold startE
        rw [List.getElem?_append_right (by rw [List.length_map]; omega), List.getElem?_replicate]
        split
        · exact .inl rfl
        · exact .inr rfl
      rcases h1 with h1 | h1 <;> rw [h1] <;> trivial
  all_goals
    have no : ∀ i l, ¬ OwnAt (startE N.length ds) (L2.start N vs) i l := by
      rintro i l ⟨⟨es, h1, ho⟩, _⟩
      have hm : es ∈ startE N.length ds := List.mem_of_getElem? h1
      unfold startE at hm
      rcases List.mem_append.mp hm with h | h
      · obtain ⟨d, _, q⟩ := List.mem_map.mp h; subst q; cases ho
      · have := List.eq_of_mem_replicate h; subst this; cases ho
  · exact fun i j l o _ => (no i l o).elim
  · exact fun i l o => (no i l o).elim

section
variable {P : Program} {w : World} {K : PySem.W.Frag} {mg : Str → Option Value} {base : Heap}
/-- a def by its body -/
theorem okD {x qual : Str} {st : Stmt} {f : Addr} {fd : FuncData} {N ps : List Str} {n : Nat} {k : Fs} (F : Fun K x qual st f fd) (S : FnScope N ps (defScope st))
    (hb : ∀ (g : Cfg) (W : WX) (cdv : Value) (A : Around) (outer : List Env) (s : Shared) (H : Hp) (E : XK), g.k.K = K → Takes (cxOf (L2.CX P w) P w K mg base N qual (defScope st) f cdv A outer s H E) W →
      Room n (A.deeper (envOfC qual (defScope st) s.heap.objs.size f cdv)) → PB (cxOf (L2.CX P w) P w K mg base N qual (defScope st) f cdv A outer s H E) g W (defBody st) k) :
    FnOk P w K mg base (L2.CX P w) (n + 1) f fd ps (spD K ps.length (runD N.length k)) := by
  refine F.okX S (fun vs H Q E h => h.1) (fun cdv A outer s H vs Q E hr h => ?_)
  obtain ⟨hlen, bx, z, ds, b, H0, e0, zo, B, il, post⟩ := h
  refine ⟨_, hb ⟨⟨K, bx, z⟩, H, H0, (L2.start N vs).length⟩ _ cdv A outer s H E rfl (takes_of rfl rfl rfl rfl) hr, startE N.length ds, b, H0, good_start e0 zo B il, ?_⟩
  unfold runD at post
  cases hk : k (startE N.length ds) b with
  | nx ρ b' => rw [hk] at post; exact fun σ H' H0' G _ => post H0' H' G.tr G.box
  | rt d b' => rw [hk] at post; exact fun v H' H0' t B' iv => post v H0' H' t B' iv
  | rto es b' => rw [hk] at post; exact fun l us H' H0' t B' h1 h2 h3 il => post l us H0' H' t B' h1 h2 h3 il
  | exc x b' => rw [hk] at post; exact fun cls dd σ H' H0' _ t B' ex => post cls dd H0' H' t B' ex
  | bk ρ b' => rw [hk] at post; exact post.elim
  | ct ρ b' => rw [hk] at post; exact post.elim
  | bad => rw [hk] at post; exact post.elim
end

/-- the call's worth: a value (a new list as a value too) -/
def valO : Out → Res D
  | .rt d b => .ok d b
  | .rto ds b => .ok (.lst false ds) b
  | .nx _ b => .ok .non b
  | .exc x b => .exc x b
  | _ => .bad
def ownO : Out → Res (List D)
  | .rto ds b => .ok ds b
  | .exc x b => .exc x b
  | _ => .bad
def noX {α : Type} : Res α → Res α
  | .exc _ _ => .bad
  | r => r
def gate {α : Type} (n : Nat) (ds : List D) (r : Res α) : Res α := if ds.length = n then r else .bad
def xCall (n : Nat) (F : FD) (fl : Fx (List D)) : Fx D := fun ρ b => (fl ρ b).bind fun ds b1 => gate n ds (valO (F ds b1))
def xCallO (n : Nat) (F : FD) (fl : Fx (List D)) : Fx (List D) := fun ρ b => (fl ρ b).bind fun ds b1 => gate n ds (ownO (F ds b1))
def xCallN (n : Nat) (F : FD) (fl : Fx (List D)) : Fx D := fun ρ b => (fl ρ b).bind fun ds b1 => gate n ds (noX (valO (F ds b1)))

section
variable {X : Cx} {g : Cfg} {W : WX} {e o : Expr} {es : List Expr} {f : Fx D} {fl : Fx (List D)} {pos p apos : Pos}
theorem Tr.frz1 {bx : Bk} {H0 H H0' H' : Hp} {l : Addr} {u : HO} (t : Tr bx H0 H H0' H') (hn : H l = none) (h0 : H0' l = none) (hl : H' l = some u) : Tr bx H0 H (upd H0' l u) H' := by
  have e0 : Same H0' (upd H0' l u) := fun a o q => by rw [upd_ne (ne_of_none q h0)]; exact q
  refine ⟨t.ext.trans e0, fun a o q => ?_, t.keep, t.there, fun a q n i => ?_⟩
  · by_cases ha : a = l
    · subst ha; rw [upd_same] at q; rw [hl]; exact q
    · rw [upd_ne ha] at q; exact t.sub a o q
  · have na : a ≠ l := fun z => n (by rw [z]; exact hn)
    rw [upd_ne na]; exact t.new a q n i
/-- a callee's promise gives a value -/
theorem post_val {σ : L2.St} {H0 H : Hp} {oo : Out} {b : Bx} {Q : VK} (zo : ZOk g.k H) (B0 : BoxOk g.k H0 H b) (F : Fin g W σ H0 H (valO oo) fun d _ H0' H' => ∀ v, Is g.k H0' d v → Q v H') : PostD g.k H0 H oo Q (WE W σ) := by
  cases oo with
  | rt d b' => exact fun v H0' H' t B iv => F H0' H' t B v iv
  | rto ds b' =>
    intro l vs H0' H' t B hn h0 hl il
    have nb : ¬ InB g.bx l := fun z => (B0.at z).2 hn
    exact F _ H' (t.frz1 hn h0 hl) (B.frz h0 nb) _ (.lst upd_same (zo.new hn) (il.mono fun a o q => by rw [upd_ne (ne_of_none q h0)]; exact q))
  | nx ρ b' => exact fun H0' H' t B => F H0' H' t B _ .non
  | exc x b' => exact fun cls dd H0' H' t B ex => F H0' H' t B cls dd ex
  | _ => exact F
theorem post_own {σ : L2.St} {H0 H : Hp} {oo : Out} {Q : VK} (F : Fin g W σ H0 H (ownO oo) fun ds _ H0' H' => ∀ l vs, H l = none → H0' l = none → H' l = some (.lst vs) → IsL g.k H0' ds vs → Q (.ref l) H') : PostD g.k H0 H oo Q (WE W σ) := by
  cases oo with
  | rto ds b' => exact fun l vs H0' H' t B hn h0 hl il => F H0' H' t B l vs hn h0 hl il
  | exc x b' => exact fun cls dd H0' H' t B ex => F H0' H' t B cls dd ex
  | _ => exact F.elim
theorem PostD.mono {k : Kx} {H0 H : Hp} {oo : Out} {Q : VK} {E E' : XK} (h : PostD k H0 H oo Q E) (q : ∀ c d H, E c d H → E' c d H) : PostD k H0 H oo Q E' := by
  cases oo with
  | exc x b' => exact fun cls dd H0' H' t B ex => q _ _ _ (h cls dd H0' H' t B ex)
  | _ => exact h

variable {kk : Nat} {ff : Addr} {fd : FuncData} {ps : List Str} {x : Str} {n : Nat} {F : FD} {es' : List Expr}
theorem fin_gate {α : Type} {σ : L2.St} {H0 H : Hp} {n : Nat} {ds : List D} {r : Res α} {k : α → Bx → Hp → Hp → Prop} (h : Fin g W σ H0 H (gate n ds r) k) : ds.length = n ∧ Fin g W σ H0 H r k := by
  unfold gate at h
  split at h
  · rename_i q; exact ⟨q, h⟩
  · exact h.elim
/-- the arguments, then the callee's promise -/
theorem ta_call {γ : Type} {r : List D → Bx → Res γ} {σ : L2.St} {H : Hp} {kk : γ → Bx → Hp → Hp → Prop} {T : List V → Hp → Prop} {ρ : En} {b : Bx} {H0 : Hp} (G : Good g ρ b σ H H0) (F1 : Fin g W σ H0 H ((fl ρ b).bind r) kk)
    (h : ∀ ds b1 H01 H1 vs, Tr g.bx H0 H H01 H1 → ZOk g.k H1 → BoxOk g.k H01 H1 b1 → IsL g.k H01 ds vs → Fin g W σ H01 H1 (r ds b1) kk → T vs H1) : TA' g W fl σ H T := by
  refine ⟨ρ, b, H0, G, F1.bind.mono fun ds b1 H01 H1 t1 B1 F2 vs il => h ds b1 H01 H1 vs t1 (G.step t1 B1).zok B1 il F2⟩
theorem px_call (G : FnOk X.prog X.w X.K X.mg X.base (L2.CX X.prog X.w) kk ff fd ps (spD X.K n F)) (hr : Room kk X.A) (hK : X.K = g.k.K) (tk : Takes X W) (hg : Gl X x) (hm : X.mg x = some (.ref ff)) (hk : PySem.W.keepIn X.K (.ref ff) = true) (hb : Binds X.K fd ps [])
    (ha : PL X g W (e :: es) fl) (hdb : (x == ("__debug__" : Str)) = false := by decide) (he : starEach (e :: es) X.env = (false, eval e X.env) :: starEach es X.env := by rfl) (hpl : (backTo pos (starEach es X.env)).any (·.1) = false := by rfl) :
    PX X g W (.Call (.Name x p) (e :: es) [] pos) (xCall n F fl) := by
  refine pe_imp (pe_callS G hr hg hm hk hb (fun σ => passAt tk σ) ha hdb he hpl) ?_
  rintro σ H Q ⟨ρ, b, H0, G, F1⟩
  refine ta_call G F1 fun ds b1 H01 H1 vs t1 zo B1 il F2 => ?_
  obtain ⟨hz, F3⟩ := fin_gate F2
  refine ⟨by rw [← il.length]; exact hz, g.bx, g.k.z, ds, b1, H01, t1.sub, hK ▸ zo, hK ▸ B1, hK ▸ il, ?_⟩
  rw [hK]
  exact post_val zo B1 F3
theorem po_call (G : FnOk X.prog X.w X.K X.mg X.base (L2.CX X.prog X.w) kk ff fd ps (spD X.K n F)) (hr : Room kk X.A) (hK : X.K = g.k.K) (tk : Takes X W) (hg : Gl X x) (hm : X.mg x = some (.ref ff)) (hk : PySem.W.keepIn X.K (.ref ff) = true) (hb : Binds X.K fd ps [])
    (ha : PL X g W (e :: es) fl) (hdb : (x == ("__debug__" : Str)) = false := by decide) (he : starEach (e :: es) X.env = (false, eval e X.env) :: starEach es X.env := by rfl) (hpl : (backTo pos (starEach es X.env)).any (·.1) = false := by rfl) :
    PN X g W (.Call (.Name x p) (e :: es) [] pos) (xCallO n F fl) := by
  refine pe_imp (pe_callS G hr hg hm hk hb (fun σ => passAt tk σ) ha hdb he hpl) ?_
  rintro σ H Q ⟨ρ, b, H0, G, F1⟩
  refine ta_call G F1 fun ds b1 H01 H1 vs t1 zo B1 il F2 => ?_
  obtain ⟨hz, F3⟩ := fin_gate F2
  refine ⟨by rw [← il.length]; exact hz, g.bx, g.k.z, ds, b1, H01, t1.sub, hK ▸ zo, hK ▸ B1, hK ▸ il, ?_⟩
  rw [hK]
  refine post_own (F3.mono fun xs b2 H0' H' t B k l us hn h0 hl il => k l us ?_ h0 hl il)
  cases q : H l with
  | none => rfl
  | some u => exact absurd hn (t1.there l (by rw [q]; simp))
theorem noX_fin {α : Type} {σ : L2.St} {H0 H : Hp} {r : Res α} {k : α → Bx → Hp → Hp → Prop} (h : Fin g W σ H0 H (noX r) k) : Fin g W0 σ H0 H r k := by
  cases r with
  | ok a b => exact h
  | exc x b => exact h.elim
  | bad => exact h
/-- o.m(..) of an instance that stays as it is; nothing is raised -/
def xMeth (C : Addr) (m : Str) (n : Nat) (F : FD) (f : Fx D) (fl : Fx (List D)) : Fx D := fun ρ b => (f ρ b).bind fun d b1 => match d with
  | .ins C' ns ds => if C' = C ∧ ns.contains m = false then (fl ρ b1).bind fun es b2 => gate n (.ins C' ns ds :: es) (noX (valO (F (.ins C' ns ds :: es) b2))) else .bad
  | _ => .bad
theorem lookup_zip_none {m : Str} : ∀ {ns : List Str} {vs : List V}, ns.contains m = false → (ns.zip vs).lookup m = none
  | [], _, _ => rfl
  | _ :: _, [], _ => rfl
  | x :: ns, v :: vs, h => by
    simp only [List.contains_cons, Bool.or_eq_false_iff] at h
    simp only [List.zip_cons_cons, List.lookup, h.1]
    exact lookup_zip_none h.2
variable {C : Addr} {m : Str} {pl : Sem Bool}
theorem px_meth0 (ho : PX X g W o f) (c : Cls X.K C) (hm : Meth X.K C m ff) (G : FnOk X.prog X.w X.K X.mg X.base (L2.CX X.prog X.w) kk ff fd ps (spD X.K n F)) (hr : Room kk X.A) (hK : X.K = g.k.K) (hb : Binds X.K fd ps [])
    (ht : eval (.Call (.Attribute o m apos) [] [] pos) X.env = (do
      let u ← eval o X.env
      standAt apos.atName
      let (f, first) ← holding [u] (getMethod u m pl)
      callWith pos f first (backTo pos (starEach [] X.env)) (backToKw pos (keywordEach [] X.env))) := by rfl) : PX X g W (.Call (.Attribute o m apos) [] [] pos) (xMeth C m n F f xNil) := by
  refine pe_imp (pe_meth0 ho c hm G hr hb .nil passL ht) ?_
  rintro σ H Q ⟨ρ, b, H0, G, F1⟩
  refine ⟨ρ, b, H0, G, F1.bind.mono fun d b1 H01 H1 t1 B1 F2 v iv => ?_⟩
  cases iv with
  | @ins a dx C' ns us ds hH hn il =>
    dsimp only at F2
    split at F2
    · rename_i hc
      obtain ⟨rfl, hc⟩ := hc
      obtain ⟨hz, F3⟩ := fin_gate (show Fin g W σ H01 H1 (gate n _ (noX (valO (F _ b1)))) _ from F2)
      refine ⟨_, _, _, rfl, t1.sub _ _ hH, lookup_zip_none hc, ?_⟩
      refine ⟨hz, g.bx, g.k.z, [.ins C' ns ds], b1, H01, t1.sub, hK ▸ (G.step t1 B1).zok, hK ▸ B1, .cons ?_ .nil, ?_⟩
      · exact hK ▸ Is.ins hH hn il
      · rw [hK]
        exact (post_val (G.step t1 B1).zok B1 (noX_fin F3)).mono fun _ _ _ z => z
    · exact F2.elim
  | _ => exact F2.elim
theorem px_meth (ho : PX X g W o f) (c : Cls X.K C) (hm : Meth X.K C m ff) (G : FnOk X.prog X.w X.K X.mg X.base (L2.CX X.prog X.w) kk ff fd ps (spD X.K n F)) (hr : Room kk X.A) (hK : X.K = g.k.K) (hb : Binds X.K fd ps []) (ha : PL X g W (e :: es) fl)
    (hst : starEach (e :: es) X.env = (false, eval e X.env) :: starEach es X.env := by rfl) (hpl : (backTo pos (starEach es X.env)).any (·.1) = false := by rfl)
    (ht : eval (.Call (.Attribute o m apos) (e :: es) [] pos) X.env = (do
      let u ← eval o X.env
      standAt apos.atName
      let (f, first) ← holding [u] (getMethod u m pl)
      callWith pos f first (backTo pos (starEach (e :: es) X.env)) (backToKw pos (keywordEach [] X.env))) := by rfl) : PX X g W (.Call (.Attribute o m apos) (e :: es) [] pos) (xMeth C m n F f fl) := by
  refine pe_imp (pe_meth ho c hm G hr hb .nil passL ha hst hpl ht) ?_
  rintro σ H Q ⟨ρ, b, H0, G, F1⟩
  refine ⟨ρ, b, H0, G, F1.bind.mono fun d b1 H01 H1 t1 B1 F2 v iv => ?_⟩
  cases iv with
  | @ins a dx C' ns us ds hH hn il =>
    dsimp only at F2
    split at F2
    · rename_i hc
      obtain ⟨rfl, hc⟩ := hc
      refine ⟨_, _, _, rfl, t1.sub _ _ hH, lookup_zip_none hc, ?_⟩
      refine ta_call (G.step t1 B1) F2 fun es2 b2 H02 H2 vs t2 zo2 B2 il2 F3 => ?_
      obtain ⟨hz, F4⟩ := fin_gate F3
      refine ⟨?_, g.bx, g.k.z, .ins C' ns ds :: es2, b2, H02, t2.sub, hK ▸ zo2, hK ▸ B2, .cons ?_ ?_, ?_⟩
      rotate_left
      · exact hK ▸ (Is.ins hH hn il).mono t2.ext
      · rw [List.append_nil]; exact hK ▸ il2
      · rw [hK]
        exact (post_val zo2 B2 (noX_fin F4)).mono fun _ _ _ z => z
      · rw [List.append_nil, List.length_cons, ← il2.length]; exact hz
    · exact F2.elim
  | _ => exact F2.elim
/-- o.f of such an instance -/
def fldD : List Str → List D → Str → Option D
  | n :: ns, d :: ds, f => if f == n then some d else fldD ns ds f
  | _, _, _ => none
def xFld (C : Addr) (f : Str) (h : Fx D) : Fx D := fun ρ b => (h ρ b).bind fun d b1 => match d with
  | .ins C' ns ds => if C' = C then lift (fldD ns ds f) b1 else .bad
  | _ => .bad
theorem fldD_get {k : Kx} {H : Hp} : ∀ {ns : List Str} {ds : List D} {vs : List V} {f : Str} {d : D}, IsL k H ds vs → fldD ns ds f = some d → ∃ v, (ns.zip vs).lookup f = some v ∧ Is k H d v
  | [], _, _, _, _, _, h => by cases h
  | _ :: _, [], _, _, _, _, h => by cases h
  | n :: ns, c :: ds, _, f, d, .cons (v := v) (vs := vs) hi hl, h => by
    unfold fldD at h
    by_cases hf : (f == n) = true
    · rw [if_pos hf] at h
      cases h
      refine ⟨v, ?_, hi⟩
      simp only [List.zip_cons_cons, List.lookup, hf]
    · rw [if_neg hf] at h
      obtain ⟨u, h1, h2⟩ := fldD_get (ns := ns) hl h
      refine ⟨u, ?_, h2⟩
      have hf : (f == n) = false := by simpa using hf
      simp only [List.zip_cons_cons, List.lookup, hf]
      exact h1
theorem px_fld {fn : Str} (h : PX X g W e f) (hK : X.K = g.k.K) (c : Cls X.K C) (no : NoAttr X.K C fn) (hb : attributeBase e fn X.env (eval e X.env) = eval e X.env := by rfl) : PX X g W (.Attribute e fn pos) (xFld C fn f) := by
  refine pe_imp (pe_fld h hb) ?_
  rintro σ H Q ⟨ρ, b, H0, G, F1⟩
  refine ⟨ρ, b, H0, G, F1.bind.mono fun d b1 H01 H1 t1 B1 F2 v iv => ?_⟩
  cases iv with
  | ins hH hn il =>
    dsimp only at F2
    split at F2
    · rename_i hc
      subst hc
      rename_i _ _ ns us ds
      cases hf : fldD ns ds fn with
      | none => rw [hf] at F2; exact F2.elim
      | some c' =>
        rw [hf] at F2
        obtain ⟨u, h1, h2⟩ := fldD_get il hf
        exact ⟨_, _, _, _, u, rfl, t1.sub _ _ hH, c, no, h1, F2 H01 H1 (Tr.refl t1.sub) B1 u h2⟩
    · exact F2.elim
  | _ => exact F2.elim
/-- a built-in by its name -/
def xB (o : List D → Option D) (fl : Fx (List D)) : Fx D := fun ρ b => (fl ρ b).bind fun ds b1 => lift (o ds) b1
theorem tx_cb {r : List V → Hp → VK → Prop} {o : List D → Option D} (hr : ClD g.k r o) {σ : L2.St} {H : Hp} {Q : VK} (z : TX g W (xB o fl) σ H Q) : tCB r (TA' g W fl) σ H Q := by
  obtain ⟨ρ, b, H0, G, F1⟩ := z
  refine ta_call G F1 fun ds b1 H01 H1 vs t1 zo B1 il F2 => ?_
  cases ho : o ds with
  | none => rw [ho] at F2; exact F2.elim
  | some w =>
    rw [ho] at F2
    exact hr H01 H1 ds w vs t1.sub zo il ho Q fun v H0' H' t iz => F2 H0' H' t.weak (B1.keep t) v iz
theorem px_callB {id : String} {r : List V → Hp → VK → Prop} {oo : List D → Option D} (hc : CallR X (.builtin id) r) (hr : ClD g.k r oo) (hg : Gl X x) (hm : X.mg x = none) (hv : bootBuiltins x = some (.builtin id)) (ha : PL X g W (e :: es) fl)
    (hdb : (x == ("__debug__" : Str)) = false := by decide) (hnm : x ≠ "__name__" := by decide) (he : starEach (e :: es) X.env = (false, eval e X.env) :: starEach es X.env := by rfl) (hpl : (backTo pos (starEach es X.env)).any (·.1) = false := by rfl) :
    PX X g W (.Call (.Name x p) (e :: es) [] pos) (xB oo fl) := pe_imp (pe_callB hc hg hm hv ha hnm hdb he hpl) fun _ _ _ => tx_cb hr
theorem px_callTy {id : String} {r : List V → Hp → VK → Prop} {oo : List D → Option D} (hc : CallR X (.type id) r) (hr : ClD g.k r oo) (hg : Gl X x) (hm : X.mg x = none) (hv : bootBuiltins x = some (.type id)) (ha : PL X g W (e :: es) fl)
    (hdb : (x == ("__debug__" : Str)) = false := by decide) (hnm : x ≠ "__name__" := by decide) (he : starEach (e :: es) X.env = (false, eval e X.env) :: starEach es X.env := by rfl) (hpl : (backTo pos (starEach es X.env)).any (·.1) = false := by rfl) :
    PX X g W (.Call (.Name x p) (e :: es) [] pos) (xB oo fl) := pe_imp (pe_callTy hc hg hm hv ha hnm hdb he hpl) fun _ _ _ => tx_cb hr
end
end Fw
set_option Elab.async false
set_option linter.all false
set_option maxRecDepth 100000
set_option maxHeartbeats 1000000
/-! Fw6: the operators and built-ins over data. -/
namespace Fw
open PySem PySem.Spec PyProof.Rows L2

def lim (n : Nat) {α : Type} (a : α) : Option α := if n ≤ 100000 then some a else none
theorem lim_some {n : Nat} {α : Type} {a b : α} (h : lim n a = some b) : n ≤ 100000 ∧ a = b := by
  unfold lim at h
  split at h
  · rename_i q; exact ⟨q, Option.some.inj h⟩
  · cases h

/-! ### the data functions -/
def addD : D → D → Option D
  | .int a, .int b => some (.int (a + b))
  | .str a, .str b => lim (a.length + b.length) (.str (a ++ b))
  | .lst _ a, .lst _ b => lim (a.length + b.length) (.lst false (a ++ b))
  | .tup a, .tup b => lim (a.length + b.length) (.tup (a ++ b))
  | _, _ => none
def subD : D → D → Option D
  | .int a, .int b => some (.int (a - b))
  | _, _ => none
def mulD : D → D → Option D
  | .int a, .int b => if -(2 ^ 64) < b ∧ b < 2 ^ 64 then some (.int (a * b)) else none
  | .lst _ a, .int b => if 0 ≤ b ∧ b ≤ 1000 then lim (a.length * b.toNat) (.lst false (List.replicate b.toNat a).flatten) else none
  | _, _ => none
def divD : D → D → Option D
  | .int a, .int b => if 0 < b ∧ b < 1073741824 then some (.int (a / b)) else none
  | _, _ => none
def modD : D → D → Option D
  | .int a, .int b => if 0 < b then some (.int (a % b)) else none
  | _, _ => none
def ltD : D → D → Option D
  | .int a, .int b => some (.bl (decide (a < b)))
  | _, _ => none
def leD : D → D → Option D
  | .int a, .int b => some (.bl (decide (a ≤ b)))
  | _, _ => none
def gtD : D → D → Option D
  | .int a, .int b => some (.bl (decide (b < a)))
  | _, _ => none
def geD : D → D → Option D
  | .int a, .int b => some (.bl (decide (b ≤ a)))
  | _, _ => none
def isND : D → D → Option D
  | x, .non => some (.bl (match x with | .non => true | _ => false))
  | _, _ => none
def notND : D → D → Option D
  | x, .non => some (.bl (match x with | .non => false | _ => true))
  | _, _ => none
def idxD : D → D → Option D
  | .lst _ xs, .int i => atI xs i
  | .tup xs, .int i => atI xs i
  | .str z, .int i => if z.length ≤ 100000 then (atI z.cps.toList i).map fun c => .str ⟨#[c]⟩ else none
  | _, _ => none
def negD : D → Option D
  | .int a => some (.int (-a))
  | _ => none

/-! ### data as PyData, for == -/
mutual
def toPy : D → Option PyData
  | .non => some .none
  | .bl b => some (.bool b)
  | .int i => some (.int i)
  | .str x => some (.str x)
  | .tup xs => (toPys xs).map .tuple
  | .lst _ xs => (toPys xs).map .list
  | .ins _ _ _ => none
  | .adr _ => none
  | .box => none
  | .sql _ => none
  | .slf _ => none
  | .mem _ => none
  | .dls => none
  | .lls => none
  | .rb _ => none
  | .dct _ _ => none
  | .kd _ _ => none
  | .exn _ _ _ => none
def toPys : List D → Option (List PyData)
  | [] => some []
  | d :: ds => (toPy d).bind fun x => (toPys ds).map fun xs => x :: xs
end
mutual
theorem dp_of {k : Kx} {H : Hp} : ∀ {d : D} {v : V} {p : PyData}, Is k H d v → toPy d = some p → Dp k.K H v p
  | _, _, _, .non, h => by cases h; exact .non
  | _, _, _, .bl b, h => by cases h; exact .bl b
  | _, _, _, .int i, h => by cases h; exact .int i
  | _, _, _, .str x, h => by cases h; exact .str x
  | _, _, _, .tup (ds := ds) ht hl, h => by
    have h : (toPys ds).map PyData.tuple = some _ := h
    cases hq : toPys ds with
    | none => rw [hq] at h; cases h
    | some ps => rw [hq] at h; cases h; exact .tup ht (dps_of hl hq)
  | _, _, _, .lst (ds := ds) ht _ hl, h => by
    have h : (toPys ds).map PyData.list = some _ := h
    cases hq : toPys ds with
    | none => rw [hq] at h; cases h
    | some ps => rw [hq] at h; cases h; exact .lst (.inl (.inl ht)) (dps_of hl hq)
  | _, _, _, .ins _ _ _, h => by cases h
  | _, _, _, .adr _, h => by cases h
  | _, _, _, .box _, h => by cases h
  | _, _, _, .sql _ _, h => by cases h
  | _, _, _, .slf _, h => by cases h
  | _, _, _, .mem _, h => by cases h
  | _, _, _, .dls _, h => by cases h
  | _, _, _, .lls _, h => by cases h
  | _, _, _, .rb _, h => by cases h
  | _, _, _, .dct _ _ _, h => by cases h
  | _, _, _, .kd _ _ _ _, h => by cases h
  | _, _, _, .exn _ _ _ _, h => by cases h
theorem dps_of {k : Kx} {H : Hp} : ∀ {ds : List D} {vs : List V} {ps : List PyData}, IsL k H ds vs → toPys ds = some ps → DpAll k.K H vs ps
  | _, _, _, .nil, h => by cases h; exact .nil
  | _, _, _, .cons (d := d) (ds := ds) hi hl, h => by
    have h : ((toPy d).bind fun x => (toPys ds).map fun xs => x :: xs) = some _ := h
    cases hq : toPy d with
    | none => rw [hq] at h; cases h
    | some p =>
      rw [hq] at h
      cases hr : toPys ds with
      | none => rw [hr] at h; cases h
      | some ps => rw [hr] at h; cases h; exact .cons (dp_of hi hq) (dps_of hl hr)
end
def eqD (neg : Bool) (x y : D) : Option D := match toPy x, toPy y with
  | some p, some q => if SeqAt.shaped p = true ∧ SeqAt.shaped q = true then some (.bl (neg != PyData.eqv p q)) else none
  | _, _ => none
def inD (neg : Bool) (x y : D) : Option D := match y with
  | .lst _ ys => (match toPy x, toPys ys with
    | some p, some qs => if SeqAt.shaped p = true ∧ SeqAt.shaped (.list qs) = true then some (.bl (neg != qs.any fun z => PyData.eqv z p)) else none
    | _, _ => none)
  | _ => none

section
variable {k : Kx} {X : Cx}
abbrev KX (k : Kx) (X : Cx) : Prop := X.K = k.K
/-! ### the operators' readings and their worth -/
def rAddU (K : PySem.W.Frag) : R2 := fun x y H Q => rI0 (fun i j => .int (i + j)) x y H Q ∨ (∃ i j, x = .str i ∧ y = .str j ∧ i.length + j.length ≤ sizeLine ∧ Q (.str (i ++ j)) H) ∨ rCat x y H Q ∨ rCatA K x y H Q
theorem op_addU : OpR X (binaryOp .Add) (rAddU X.K) := OpR.or op_add (OpR.or op_add_str (OpR.or op_cat op_catA))
theorem opd_add : OpD k (rAddU k.K) addD := by
  intro H0 H x y z vx vy e zo ix iy h Q q
  cases ix <;> cases iy <;> first | (cases h; done) | skip
  case int.int a b =>
    cases h
    exact .inl ⟨a, b, rfl, rfl, q _ H0 H (Tr.refl e) (.int _)⟩
  case str.str a b =>
    obtain ⟨h1, rfl⟩ := lim_some h
    exact .inr (.inl ⟨a, b, rfl, rfl, sz_of h1, q _ H0 H (Tr.refl e) (.str _)⟩)
  case tup.tup a vs ds h1 l1 b us es h2 l2 =>
    obtain ⟨hz, rfl⟩ := lim_some h
    refine .inr (.inr (.inr ⟨a, b, vs, us, rfl, rfl, same_t e h1, same_t e h2, by rw [← l1.length, ← l2.length]; exact sz_of hz, fun hn => ?_, fun _ hn => ?_, fun _ _ p hp => ?_⟩))
    · subst hn
      cases l1
      exact q _ H0 H (Tr.refl e) (.tup h2 l2)
    · subst hn
      cases l2
      rw [List.append_nil] at q
      exact q _ H0 H (Tr.refl e) (.tup h1 l1)
    · have ta := Tr.alloc (o := .tup (vs ++ us)) e hp
      exact q _ _ _ ta (.tup (.inl (.inl upd_same)) ((l1.app l2).mono ta.ext))
  case lst.lst a vs ds z1 h1 q1 l1 b us es z2 h2 q2 l2 =>
    obtain ⟨hz, rfl⟩ := lim_some h
    refine .inr (.inr (.inl ⟨a, b, vs, us, rfl, rfl, e _ _ h1, e _ _ h2, by rw [← l1.length, ← l2.length]; exact sz_of hz, fun p hp => ?_⟩))
    have ta := Tr.alloc (o := .lst (vs ++ us)) e hp
    exact q _ _ _ ta (.lst upd_same (zo.new hp) ((l1.app l2).mono ta.ext))
theorem opd_sub : OpD k (rI0 fun i j => .int (i - j)) subD := by
  intro H0 H x y z vx vy e zo ix iy h Q q
  cases ix <;> cases iy <;> first | (cases h; done) | skip
  cases h
  exact ⟨_, _, rfl, rfl, q _ H0 H (Tr.refl e) (.int _)⟩
def rMulU : R2 := fun x y H Q => rI CMul (fun i j => .int (i * j)) x y H Q ∨ rRep x y H Q
theorem op_mulU : OpR X (binaryOp .Mult) rMulU := OpR.or op_mul op_rep
theorem IsL.flat {H : Hp} {ds : List D} {vs : List V} (h : IsL k H ds vs) : ∀ n : Nat, IsL k H (List.replicate n ds).flatten (List.replicate n vs).flatten
  | 0 => .nil
  | n + 1 => by
    rw [List.replicate_succ, List.replicate_succ, List.flatten_cons, List.flatten_cons]
    exact h.app (IsL.flat h n)
theorem opd_mul : OpD k rMulU mulD := by
  intro H0 H x y z vx vy e zo ix iy h Q q
  cases ix <;> cases iy <;> first | (cases h; done) | skip
  case int.int a b =>
    have h : (if -(2 ^ 64) < b ∧ b < 2 ^ 64 then some (D.int (a * b)) else none) = some z := h
    split at h
    · rename_i hb
      cases h
      exact .inl ⟨a, b, rfl, rfl, .inr hb, q _ H0 H (Tr.refl e) (.int _)⟩
    · cases h
  case lst.int a vs ds z1 h1 q1 l1 b =>
    have h : (if 0 ≤ b ∧ b ≤ 1000 then lim (ds.length * b.toNat) (D.lst false (List.replicate b.toNat ds).flatten) else none) = some z := h
    split at h
    · rename_i hb
      obtain ⟨hz, rfl⟩ := lim_some h
      refine .inr ⟨a, b, vs, rfl, rfl, e _ _ h1, by omega, by omega, by rw [← l1.length]; exact sz_of hz, fun p hp => ?_⟩
      have ta := Tr.alloc (o := .lst (List.replicate b.toNat vs).flatten) e hp
      exact q _ _ _ ta (.lst upd_same (zo.new hp) ((l1.flat _).mono ta.ext))
    · cases h
theorem opd_div : OpD k (rI CDivN fun i j => .int (i.fdiv j)) divD := by
  intro H0 H x y z vx vy e zo ix iy h Q q
  cases ix <;> cases iy <;> first | (cases h; done) | skip
  rename_i a b
  have h : (if 0 < b ∧ b < 1073741824 then some (D.int (a / b)) else none) = some z := h
  split at h
  · rename_i hb
    cases h
    refine ⟨a, b, rfl, rfl, ⟨by omega, by omega⟩, ?_⟩
    show Q (.int (a.fdiv b)) H
    rw [Int.fdiv_eq_ediv_of_nonneg a (show 0 ≤ b by omega)]
    exact q _ H0 H (Tr.refl e) (.int _)
  · cases h
theorem opd_mod : OpD k (rI (fun _ j => j ≠ 0) fun i j => .int (i.fmod j)) modD := by
  intro H0 H x y z vx vy e zo ix iy h Q q
  cases ix <;> cases iy <;> first | (cases h; done) | skip
  rename_i a b
  have h : (if 0 < b then some (D.int (a % b)) else none) = some z := h
  split at h
  · rename_i hb
    cases h
    refine ⟨a, b, rfl, rfl, by omega, ?_⟩
    show Q (.int (a.fmod b)) H
    rw [Int.fmod_eq_emod_of_nonneg a (show 0 ≤ b by omega)]
    exact q _ H0 H (Tr.refl e) (.int _)
  · cases h
theorem opd_lt : OpD k (rI0 fun i j => .bl (decide (i < j))) ltD := by
  intro H0 H x y z vx vy e zo ix iy h Q q
  cases ix <;> cases iy <;> first | (cases h; done) | skip
  cases h; exact ⟨_, _, rfl, rfl, q _ H0 H (Tr.refl e) (.bl _)⟩
theorem opd_le : OpD k (rI0 fun i j => .bl (decide (i ≤ j))) leD := by
  intro H0 H x y z vx vy e zo ix iy h Q q
  cases ix <;> cases iy <;> first | (cases h; done) | skip
  cases h; exact ⟨_, _, rfl, rfl, q _ H0 H (Tr.refl e) (.bl _)⟩
theorem opd_gt : OpD k (rI0 fun i j => .bl (decide (j < i))) gtD := by
  intro H0 H x y z vx vy e zo ix iy h Q q
  cases ix <;> cases iy <;> first | (cases h; done) | skip
  cases h; exact ⟨_, _, rfl, rfl, q _ H0 H (Tr.refl e) (.bl _)⟩
theorem opd_ge : OpD k (rI0 fun i j => .bl (decide (j ≤ i))) geD := by
  intro H0 H x y z vx vy e zo ix iy h Q q
  cases ix <;> cases iy <;> first | (cases h; done) | skip
  cases h; exact ⟨_, _, rfl, rfl, q _ H0 H (Tr.refl e) (.bl _)⟩
theorem lt_bl : ∀ x y z, ltD x y = some z → ∃ k, z = .bl k := by
  intro x y z h; unfold ltD at h; split at h <;> cases h; exact ⟨_, rfl⟩
theorem le_bl : ∀ x y z, leD x y = some z → ∃ k, z = .bl k := by
  intro x y z h; unfold leD at h; split at h <;> cases h; exact ⟨_, rfl⟩
theorem opd_isN : OpD k (fun x y H Q => y = .non ∧ Q (.bl (decide (x = .non))) H) isND := by
  intro H0 H x y z vx vy e zo ix iy h Q q
  cases iy with
  | non =>
    refine ⟨rfl, ?_⟩
    cases ix <;> (cases h; refine q _ H0 H (Tr.refl e) ?_; exact .bl _)
  | _ => cases ix <;> cases h
theorem opd_notN : OpD k (fun x y H Q => y = .non ∧ Q (.bl (!decide (x = .non))) H) notND := by
  intro H0 H x y z vx vy e zo ix iy h Q q
  cases iy with
  | non =>
    refine ⟨rfl, ?_⟩
    cases ix <;> (cases h; refine q _ H0 H (Tr.refl e) ?_; exact .bl _)
  | _ => cases ix <;> cases h
theorem atI_is {H : Hp} {ds : List D} {vs : List V} {i : Int} {d : D} (l : IsL k H ds vs) (h : atI ds i = some d) : ∃ v, atI vs i = some v ∧ Is k H d v := by
  unfold atI at h ⊢
  rw [l.length] at h
  cases hx : ixN vs.length i with
  | none => rw [hx] at h; cases h
  | some j =>
    rw [hx] at h
    obtain ⟨v, hv, iv⟩ := l.get (show ds[j]? = some d from h)
    exact ⟨v, hv, iv⟩
theorem opd_idx : OpD k (rIx k.K) idxD := by
  intro H0 H x y z vx vy e zo ix iy h Q q
  cases ix <;> cases iy <;> first | (cases h; done) | skip
  case tup.int a vs ds h1 l1 i =>
    obtain ⟨v, hv, iv⟩ := atI_is l1 (show atI ds i = some z from h)
    exact .inr (.inl ⟨a, vs, i, v, rfl, rfl, same_t e h1, hv, q _ H0 H (Tr.refl e) iv⟩)
  case lst.int a vs ds z1 h1 q1 l1 i =>
    obtain ⟨v, hv, iv⟩ := atI_is l1 (show atI ds i = some z from h)
    exact .inl ⟨a, vs, i, v, rfl, rfl, .inl (.inl (e _ _ h1)), hv, q _ H0 H (Tr.refl e) iv⟩
  case str.int x i =>
    have h : (if x.length ≤ 100000 then (atI x.cps.toList i).map fun c => D.str ⟨#[c]⟩ else none) = some z := h
    split at h
    · rename_i hz
      cases hc : atI x.cps.toList i with
      | none => rw [hc] at h; cases h
      | some c =>
        rw [hc] at h
        cases h
        exact .inr (.inr ⟨x, i, c, rfl, rfl, sz_of hz, hc, q _ H0 H (Tr.refl e) (.str _)⟩)
    · cases h
theorem und_neg : UnD k (rU fun i => .int (-i)) negD := by
  intro H0 H x z vx e zo ix h Q q
  cases ix <;> first | (cases h; done) | skip
  cases h; exact ⟨_, rfl, q _ H0 H (Tr.refl e) (.int _)⟩
theorem opd_eq : OpD k (rEqD k.K) (eqD false) := by
  intro H0 H x y z vx vy e zo ix iy h Q q
  unfold eqD at h
  split at h
  · rename_i p r hp hr
    split at h
    · rename_i hs
      cases h
      refine ⟨p, r, dp_of (ix.mono e) hp, dp_of (iy.mono e) hr, hs.1, hs.2, ?_⟩
      exact q _ H0 H (Tr.refl e) (by rw [Bool.false_bne]; exact .bl _)
    · cases h
  · cases h
theorem opd_ne : OpD k (rNeD k.K) (eqD true) := by
  intro H0 H x y z vx vy e zo ix iy h Q q
  unfold eqD at h
  split at h
  · rename_i p r hp hr
    split at h
    · rename_i hs
      cases h
      refine ⟨p, r, dp_of (ix.mono e) hp, dp_of (iy.mono e) hr, hs.1, hs.2, ?_⟩
      exact q _ H0 H (Tr.refl e) (by rw [Bool.true_bne]; exact .bl _)
    · cases h
  · cases h
end
end Fw
set_option Elab.async false
set_option linter.all false
set_option maxRecDepth 100000
set_option maxHeartbeats 1000000
/-! Fw7: own lists, slices, built-ins by name, constants of the module. -/
namespace Fw
open PySem PySem.Spec PyProof.Rows L2

/-- a name's datum, own or not -/
def slD : Option Sl → Option D
  | some (.val d) => some d
  | some (.own ds) => some (.lst false ds)
  | _ => none
def xIxV (i : Nat) (f : Fx D) : Fx D := fun ρ b => match slD ρ[i]? with
  | some x => (f ρ b).bind fun y b1 => lift (idxD x y) b1
  | none => .bad
def lenD : D → Option D
  | .lst _ xs => some (.int xs.length)
  | .sql xs => some (.int xs.length)
  | .tup xs => some (.int xs.length)
  | .str x => if x.length ≤ 100000 then some (.int x.length) else none
  | _ => none
def xLenV (i : Nat) : Fx D := fun ρ b => lift ((slD ρ[i]?).bind lenD) b
def kApp (i : Nat) (f : Fx D) : Fs := fun ρ b => match ρ[i]? with
  | some (.own ds) => (f ρ b).out fun d b1 => if ds.length < 100000 then .nx (ρ.set i (.own (ds ++ [d]))) b1 else .bad
  | _ => .bad
def setD (ρ : En) (i : Nat) (ds : List D) (d j : D) (b : Bx) : Out := match j with
  | .int z => (match ixN ds.length z with
    | some n => .nx (ρ.set i (.own (ds.set n d))) b
    | none => .bad)
  | _ => .bad
def kSetI (i : Nat) (fe fi : Fx D) : Fs := fun ρ b => match ρ[i]? with
  | some (.own ds) => (fe ρ b).out fun d b1 => (fi ρ b1).out fun j b2 => setD ρ i ds d j b2
  | _ => .bad

section
variable {X : Cx} {g : Cfg} {W : WX} {a c e : Expr} {es : List Expr} {f h : Fx D} {pos p p2 apos : Pos} {x : Str} {fl : Fx (List D)}
/-- what a name's slot holds, as something to read -/
theorem slot_read {ρ : En} {b : Bx} {σ : L2.St} {H H0 : Hp} {i : Nat} {d : D} (G : Good g ρ b σ H H0) (h : slD ρ[i]? = some d) : ∃ v HR, σ[i]? = some (some v) ∧ Same H0 HR ∧ Same HR H ∧ Is g.k HR d v ∧
    (∀ z ds, d = .lst z ds → ∃ l vs, v = .ref l ∧ H l = some (.lst vs) ∧ IsL g.k H0 ds vs) := by
  cases hs : ρ[i]? with
  | none => rw [hs] at h; cases h
  | some s =>
    rw [hs] at h
    cases s with
    | no => cases h
    | odc _ => cases h
    | val d' =>
      cases h
      obtain ⟨v, e1, iv⟩ := G.val hs
      refine ⟨v, H0, e1, Same.refl _, G.sub, iv, ?_⟩
      rintro z ds rfl
      cases iv with
      | lst hl _ il => exact ⟨_, _, rfl, G.sub _ _ hl, il⟩
    | own ds =>
      cases h
      obtain ⟨l, vs, e1, h0, hl, il⟩ := G.own hs
      have e0 : Same H0 (upd H0 l (.lst vs)) := fun a u e => by rw [upd_ne (ne_of_none e h0)]; exact e
      refine ⟨.ref l, upd H0 l (.lst vs), e1, e0, fun a u e => ?_, .lst upd_same (G.zin.new (G.mine i l ⟨⟨_, hs, rfl⟩, e1⟩)) (il.mono e0), ?_⟩
      · by_cases ha : a = l
        · subst ha; rw [upd_same] at e; rw [hl]; exact e
        · rw [upd_ne ha] at e; exact G.sub a u e
      · rintro z es h
        cases h
        exact ⟨l, vs, rfl, hl, il⟩
theorem px_ixV (i : Nat) (hK : X.K = g.k.K) (hc : PX X g W c f) (hN : X.N[i]? = some x := by rfl) (hv : Vis X.env.scope x := by first | exact Or.inl rfl | exact Or.inr (Or.inl rfl) | exact Or.inr (Or.inr rfl)) (hd : (x == ("__debug__" : Str)) = false := by decide)
    (hcd : (x == ("__classdict__" : Str)) = false := by decide) (hs : PlainIx c := by exact fun _ _ => rfl) : PX X g W (.Subscript (.Name x p) c pos) (xIxV i f) := by
  refine pe_imp (pe_ix ix_seq (pe_var hN hv hd hcd) hc hs) ?_
  rintro σ H Q ⟨ρ, b, H0, G, F⟩
  unfold xIxV at F
  cases hq : slD ρ[i]? with
  | none => simp only [hq] at F; exact F.elim
  | some d =>
    simp only [hq] at F
    obtain ⟨v, _, e1, _⟩ := slot_read G hq
    refine ⟨v, e1, ρ, b, H0, G, F.bind.mono fun y b1 H01 H1 t1 B1 F1 vy iy => ?_⟩
    have G1 := G.step t1 B1
    obtain ⟨v', HR, e2, s1, s2, iv, hl⟩ := slot_read G1 hq
    rw [e1] at e2; cases e2
    cases hz : idxD d y with
    | none => rw [hz] at F1; exact F1.elim
    | some z =>
      rw [hz] at F1
      rw [hK]
      cases d with
      | lst z1 ds =>
        obtain ⟨l, vs, rfl, hH, il⟩ := hl z1 ds rfl
        cases iy <;> first | (cases hz; done) | skip
        rename_i j
        obtain ⟨u, hu, iu⟩ := atI_is il (show atI ds j = some z from hz)
        exact .inl ⟨l, vs, j, u, rfl, rfl, .inl (.inl hH), hu, F1 H01 H1 (Tr.refl G1.sub) B1 _ iu⟩
      | tup ds =>
        have iv0 : Is g.k H01 (.tup ds) v := by
          cases hs : ρ[i]? with
          | none => rw [hs] at hq; cases hq
          | some s =>
            rw [hs] at hq
            cases s with
            | no => cases hq
            | own _ => cases hq
            | odc _ => cases hq
            | val d' => cases hq; obtain ⟨v', e3, iv'⟩ := G1.val hs; rw [e1] at e3; cases e3; exact iv'
        exact opd_idx H01 H1 _ _ _ _ _ G1.sub G1.zok iv0 iy hz Q fun v H0' H' t iz => F1 H0' H' t.weak (B1.keep t) v iz
      | str ds =>
        cases iv
        exact opd_idx H01 H1 (.str ds) y z (.str ds) vy G1.sub G1.zok (.str _) iy hz Q fun v H0' H' t iz => F1 H0' H' t.weak (B1.keep t) v iz
      | _ => cases hz
/-- x.append(e), x an own list -/
theorem p1_app (i : Nat) (ha : PX X g W e f) (hN : X.N[i]? = some x := by rfl) (hv : Vis X.env.scope x := by first | exact Or.inl rfl | exact Or.inr (Or.inl rfl) | exact Or.inr (Or.inr rfl)) (hd : (x == ("__debug__" : Str)) = false := by decide)
    (hcd : (x == ("__classdict__" : Str)) = false := by decide)
    (hbase : attributeBase (.Name x p) "append" X.env (eval (.Name x p) X.env) = eval (.Name x p) X.env := by rfl)
    (hfew : ((backTo p2 (starEach [e] X.env)).all (fun x => !x.1) && (backToKw p2 (keywordEach [] X.env)).all (fun x => x.1.isSome) && decide (([e] : List Expr).length + ([] : List Keyword).length + (if ([] : List Keyword).isEmpty then 0 else 1) < 30)) = true := by rfl)
    (hline : (apos.endLine == p2.line) = true := by rfl) (hs : starEach [e] X.env = (false, eval e X.env) :: starEach [] X.env := by rfl) (hplain : (backTo p2 (starEach [] X.env)).any (·.1) = false := by rfl)
    (hsw : swapsWith (.Call (.Attribute (.Name x p) "append" apos) [e] [] p2) none pos.line X.env = pure false := by rfl) :
    P1 X g W (.Expr (.Call (.Attribute (.Name x p) "append" apos) [e] [] p2) pos) (kApp i f) := by
  refine ps_imp (ps_expr (pe_bm PySem.F.plainAttrs_list PySem.F.slot_list_append PySem.F.type_list_append mt_append (pe_var hN hv hd hcd) (pa_cons ha pa_nil hs) hbase hfew hline hs hplain) hsw) ?_
  rintro Dd σ H ⟨ρ, b, H0, G, F⟩
  unfold kApp at F
  split at F
  · rename_i ds hi
    obtain ⟨l, vs0, e1, h0, hl0, il0⟩ := G.own hi
    refine ⟨.ref l, e1, .inl ⟨rfl, vs0, .inl (.inl hl0)⟩, ρ, b, H0, G, (fin_out G F).mono fun d b1 H01 H1 t1 B1 F1 v iv => ?_⟩
    have G1 := G.step t1 B1
    obtain ⟨l', vs, e2, h1, hl, il⟩ := G1.own hi
    rw [e1] at e2; cases e2
    split at F1
    · rename_i hz
      refine ⟨l, vs, v, rfl, rfl, hl, by rw [← il.length]; exact Nat.lt_of_lt_of_le hz (by decide), F1 _ _ _ (G1.upd hi e1 (il.app (.cons iv .nil))) (Same.refl _)⟩
    · exact F1.elim
  · exact F.elim
/-- x[j] = e, x an own list -/
theorem p1_setI (i : Nat) (he : PX X g W e f) (hj : PX X g W c h) (hN : X.N[i]? = some x := by rfl) (hv : Vis X.env.scope x := by first | exact Or.inl rfl | exact Or.inr (Or.inl rfl) | exact Or.inr (Or.inr rfl)) (hd : (x == ("__debug__" : Str)) = false := by decide)
    (hcd : (x == ("__classdict__" : Str)) = false := by decide) (hs : swapsWithSole [.Subscript (.Name x p) c p2] e pos.line X.env = pure false := by rfl) (hw : swappedStores [.Subscript (.Name x p) c p2] e X.env = pure none := by rfl)
    (h1 : (assignEach [.Subscript (.Name x p) c p2] X.env).map (·.2) = [assign (.Subscript (.Name x p) c p2) X.env] := by rfl)
    (hA : ∀ v, assign (.Subscript (.Name x p) c p2) X.env v = (do
      let ou ← holding [v] (eval (.Name x p) X.env)
      let iw ← holding [v, ou] (eval c X.env)
      standAt p2
      holding [v, ou, iw] (setItem ou iw v)
      release [v, ou, iw] []) := by intro _; rfl) : P1 X g W (.Assign [.Subscript (.Name x p) c p2] e pos) (kSetI i f h) := by
  refine ps_imp (ps_asg he (pg_sub (pe_var hN hv hd hcd) hj set_list hA) hs hw h1) ?_
  rintro Dd σ H ⟨ρ, b, H0, G, F⟩
  unfold kSetI at F
  split at F
  · rename_i ds hi
    refine ⟨ρ, b, H0, G, (fin_out G F).mono fun d b1 H01 H1 t1 B1 F1 v iv => ?_⟩
    have G1 := G.step t1 B1
    obtain ⟨l, vs0, e1, h0, hl0, il0⟩ := G1.own hi
    refine ⟨.ref l, e1, ρ, b1, H01, G1, (fin_out G1 F1).mono fun j b2 H02 H2 t2 B2 F2 u iu => ?_⟩
    have G2 := G1.step t2 B2
    obtain ⟨l', vs, e2, h2, hl, il⟩ := G2.own hi
    rw [e1] at e2; cases e2
    cases iu with
    | int z =>
      have F2 : FinS g W H02 (match ixN ds.length z with | some n => .nx (ρ.set i (.own (ds.set n d))) b2 | none => .bad) Dd := F2
      cases hx : ixN ds.length z with
      | none => rw [hx] at F2; exact F2.elim
      | some n =>
        rw [hx] at F2
        exact ⟨l, vs, z, n, rfl, rfl, hl, by rw [← il.length]; exact hx, F2 _ _ _ (G2.upd hi e1 (il.set (iv.mono t2.ext))) (Same.refl _)⟩
    | _ => exact F2.elim
  · exact F.elim
theorem lenV_of {k : Kx} {H : Hp} {d z : D} {v : V} (iv : Is k H d v) (h : lenD d = some z) : ∃ n : Nat, z = .int n ∧ LenV k.K v H n := by
  cases iv <;> first | (cases h; done) | skip
  case str x =>
    have h : (if x.length ≤ 100000 then some (D.int x.length) else none) = some z := h
    split at h
    · rename_i hz; cases h; exact ⟨_, rfl, sz_of hz, rfl⟩
    · cases h
  case tup a vs ds h1 l1 => cases h; exact ⟨_, rfl, .inr ⟨vs, h1, l1.length⟩⟩
  case sql a vs ds h1 l1 => cases h; exact ⟨_, rfl, .inl ⟨vs, h1, l1.length⟩⟩
  case lst a vs ds z1 h1 q1 l1 => cases h; exact ⟨_, rfl, .inl ⟨vs, .inl (.inl h1), l1.length⟩⟩
theorem lenV_mono {K : PySem.W.Frag} {H H' : Hp} {v : V} {n : Nat} (h : LenV K v H n) (e : Same H H') : LenV K v H' n := by
  cases v with
  | ref p =>
    rcases h with ⟨xs, h1, h2⟩ | ⟨xs, h1, h2⟩
    · exact .inl ⟨xs, e.seq h1, h2⟩
    · exact .inr ⟨xs, same_t e h1, h2⟩
  | str y => exact h
  | byt y => exact h
  | _ => exact h.elim
/-- len(x) of a name -/
theorem px_lenV (i : Nat) (hK : X.K = g.k.K) (hg : Gl X "len") (hm : X.mg "len" = none) {p3 : Pos} (hN : X.N[i]? = some x := by rfl) (hv : Vis X.env.scope x := by first | exact Or.inl rfl | exact Or.inr (Or.inl rfl) | exact Or.inr (Or.inr rfl)) (hd : (x == ("__debug__" : Str)) = false := by decide)
    (hcd : (x == ("__classdict__" : Str)) = false := by decide) (he : starEach [.Name x p] X.env = (false, eval (.Name x p) X.env) :: starEach [] X.env := by rfl) (hpl : (backTo pos (starEach [] X.env)).any (·.1) = false := by rfl) :
    PX X g W (.Call (.Name "len" p3) [.Name x p] [] pos) (xLenV i) := by
  refine pe_imp (pe_callB call_len hg hm PySem.boot_len (pa_cons (pe_var hN hv hd hcd) pa_nil he) (by decide) (by decide) he hpl) ?_
  rintro σ H Q ⟨ρ, b, H0, G, F⟩
  unfold xLenV at F
  cases hq : slD ρ[i]? with
  | none => rw [hq] at F; exact F.elim
  | some d =>
    rw [hq] at F
    obtain ⟨v, HR, e1, s1, s2, iv, _⟩ := slot_read G hq
    cases hz : lenD d with
    | none => rw [show (some d).bind lenD = lenD d from rfl, hz] at F; exact F.elim
    | some z =>
      rw [show (some d).bind lenD = lenD d from rfl, hz] at F
      obtain ⟨n, rfl, hl⟩ := lenV_of iv hz
      refine ⟨v, e1, v, n, rfl, by rw [hK]; exact lenV_mono hl s2, F H0 H (Tr.refl G.sub) G.box _ (.int _)⟩
def len1 : List D → Option D
  | [d] => lenD d
  | _ => none
theorem cld_len {k : Kx} : ClD k (fun xs H Q => ∃ x n, xs = [x] ∧ LenV k.K x H n ∧ Q (.int n) H) len1 := by
  intro H0 H xs z vs e zo il h Q q
  cases il with
  | nil => cases h
  | cons i l =>
    cases l with
    | nil =>
      obtain ⟨n, rfl, hl⟩ := lenV_of i (show lenD _ = some z from h)
      exact ⟨_, n, rfl, lenV_mono hl e, q _ H0 H (Tr.refl e) (.int _)⟩
    | cons _ _ => cases h
/-! ### more built-ins -/
def intOf : D → Option Int
  | .int i => some i
  | _ => none
def intsOf : List D → Option (List Int)
  | [] => some []
  | d :: ds => (intOf d).bind fun i => (intsOf ds).map fun is => i :: is
theorem intsOf_is {k : Kx} {H : Hp} : ∀ {ds : List D} {vs : List V} {ns : List Int}, IsL k H ds vs → intsOf ds = some ns → vs = ns.map V.int
  | _, _, _, .nil, h => by cases h; rfl
  | _, _, ns, .cons (d := d) (ds := ds) hi hl, h => by
    have h : ((intOf d).bind fun i => (intsOf ds).map fun is => i :: is) = some _ := h
    cases hi with
    | int i =>
      have h : ((intsOf ds).map fun is => i :: is) = some ns := h
      cases hq : intsOf ds with
      | none => rw [hq] at h; cases h
      | some is => rw [hq] at h; cases h; rw [intsOf_is hl hq]; rfl
    | _ => cases h
theorem intsOf_map : ∀ ns : List Int, intsOf (ns.map D.int) = some ns
  | [] => rfl
  | n :: ns => by simp [intsOf, intOf, intsOf_map ns]
def leastI : List Int → Option Int
  | [] => none
  | n :: ns => some (ns.foldl min n)
def mostI : List Int → Option Int
  | [] => none
  | n :: ns => some (ns.foldl max n)
theorem foldl_min (ns : List Int) : ∀ n : Int, (ns.foldl min n) ∈ n :: ns ∧ ∀ y ∈ n :: ns, ns.foldl min n ≤ y := by
  induction ns with
  | nil => intro n; simp
  | cons a ns ih =>
    intro n
    obtain ⟨h1, h2⟩ := ih (min n a)
    show (ns.foldl min (min n a)) ∈ _ ∧ ∀ y ∈ _, ns.foldl min (min n a) ≤ y
    refine ⟨?_, fun y hy => ?_⟩
    · rcases List.mem_cons.mp h1 with h | h
      · rw [h]
        by_cases hna : n ≤ a
        · rw [Int.min_eq_left hna]; exact List.mem_cons_self
        · rw [Int.min_eq_right (by omega)]; exact List.mem_cons_of_mem _ List.mem_cons_self
      · exact List.mem_cons_of_mem _ (List.mem_cons_of_mem _ h)
    · have hm := h2 (min n a) List.mem_cons_self
      rcases List.mem_cons.mp hy with rfl | hy
      · exact Int.le_trans hm (Int.min_le_left _ _)
      · rcases List.mem_cons.mp hy with rfl | hy
        · exact Int.le_trans hm (Int.min_le_right _ _)
        · exact h2 y (List.mem_cons_of_mem _ hy)
theorem foldl_max (ns : List Int) : ∀ n : Int, (ns.foldl max n) ∈ n :: ns ∧ ∀ y ∈ n :: ns, y ≤ ns.foldl max n := by
  induction ns with
  | nil => intro n; simp
  | cons a ns ih =>
    intro n
    obtain ⟨h1, h2⟩ := ih (max n a)
    show (ns.foldl max (max n a)) ∈ _ ∧ ∀ y ∈ _, y ≤ ns.foldl max (max n a)
    refine ⟨?_, fun y hy => ?_⟩
    · rcases List.mem_cons.mp h1 with h | h
      · rw [h]
        by_cases hna : n ≤ a
        · rw [Int.max_eq_right hna]; exact List.mem_cons_of_mem _ List.mem_cons_self
        · rw [Int.max_eq_left (by omega)]; exact List.mem_cons_self
      · exact List.mem_cons_of_mem _ (List.mem_cons_of_mem _ h)
    · have hm := h2 (max n a) List.mem_cons_self
      rcases List.mem_cons.mp hy with rfl | hy
      · exact Int.le_trans (Int.le_max_left _ _) hm
      · rcases List.mem_cons.mp hy with rfl | hy
        · exact Int.le_trans (Int.le_max_right _ _) hm
        · exact h2 y (List.mem_cons_of_mem _ hy)
/-! ### data back from PyData -/
mutual
def ofPy : PyData → D
  | .none => .non
  | .bool b => .bl b
  | .int i => .int i
  | .str x => .str x
  | .tuple xs => .tup (ofPys xs)
  | .list xs => .lst false (ofPys xs)
  | .dict _ => .non
def ofPys : List PyData → List D
  | [] => []
  | x :: xs => ofPy x :: ofPys xs
end
mutual
/-- data without lists -/
def noLst : D → Bool
  | .lst _ _ => false
  | .tup xs => noLsts xs
  | _ => true
def noLsts : List D → Bool
  | [] => true
  | x :: xs => noLst x && noLsts xs
end
mutual
theorem ofPy_toPy : ∀ {d : D} {p : PyData}, noLst d = true → toPy d = some p → ofPy p = d
  | .non, _, _, h => by cases h; rfl
  | .bl _, _, _, h => by cases h; rfl
  | .int _, _, _, h => by cases h; rfl
  | .str _, _, _, h => by cases h; rfl
  | .tup xs, _, n, h => by
    have h : (toPys xs).map PyData.tuple = some _ := h
    cases q : toPys xs with
    | none => rw [q] at h; cases h
    | some ps => rw [q] at h; cases h; show D.tup _ = _; rw [ofPys_toPys n q]
  | .lst _ _, _, n, _ => nomatch n
  | .ins _ _ _, _, _, h => nomatch h
  | .adr _, _, _, h => nomatch h
  | .box, _, _, h => nomatch h
  | .sql _, _, _, h => nomatch h
  | .slf _, _, _, h => nomatch h
  | .mem _, _, _, h => nomatch h
  | .dls, _, _, h => nomatch h
  | .lls, _, _, h => nomatch h
  | .rb _, _, _, h => nomatch h
  | .dct _ _, _, _, h => nomatch h
  | .kd _ _, _, _, h => nomatch h
  | .exn _ _ _, _, _, h => nomatch h
theorem ofPys_toPys : ∀ {ds : List D} {ps : List PyData}, noLsts ds = true → toPys ds = some ps → ofPys ps = ds
  | [], _, _, h => by cases h; rfl
  | d :: ds, _, n, h => by
    have n := Bool.and_eq_true_iff.mp n
    have h : ((toPy d).bind fun x => (toPys ds).map fun xs => x :: xs) = some _ := h
    cases q : toPy d with
    | none => rw [q] at h; cases h
    | some p =>
      cases q2 : toPys ds with
      | none => rw [q, q2] at h; cases h
      | some ps => rw [q, q2] at h; cases h; show _ :: _ = _; rw [ofPy_toPy n.1 q, ofPys_toPys n.2 q2]
end
theorem toPys_get : ∀ {ds : List D} {ps : List PyData}, toPys ds = some ps → ∀ {i : Nat} {d : D}, ds[i]? = some d → ∃ p, ps[i]? = some p ∧ toPy d = some p
  | [], _, h, i, d, e => by simp at e
  | d0 :: ds, _, h, i, d, e => by
    have h : ((toPy d0).bind fun x => (toPys ds).map fun xs => x :: xs) = some _ := h
    cases q : toPy d0 with
    | none => rw [q] at h; cases h
    | some p =>
      cases q2 : toPys ds with
      | none => rw [q, q2] at h; cases h
      | some ps =>
        rw [q, q2] at h; cases h
        cases i with
        | zero => simp at e; subst e; exact ⟨p, rfl, q⟩
        | succ i => simp at e; simpa using toPys_get q2 e
theorem noLsts_mem : ∀ {ds : List D}, noLsts ds = true → ∀ d ∈ ds, noLst d = true
  | d0 :: ds, n, d, h => by
    have n := Bool.and_eq_true_iff.mp n
    rcases List.mem_cons.mp h with rfl | h
    · exact n.1
    · exact noLsts_mem n.2 d h
def alikeB (ps : List PyData) : Bool := (ps.all fun x => ps.all fun y => PySem.W.alike x y) && ps.all fun x => match x with
  | .none => false
  | _ => true
theorem alikeB_ok {ps : List PyData} (h : alikeB ps = true) : PySem.W.AlikeAll ps := by
  obtain ⟨h1, h2⟩ := Bool.and_eq_true_iff.mp h
  rw [List.all_eq_true] at h1 h2
  refine ⟨fun x hx y hy => ?_, fun x hx e => ?_⟩
  · have := h1 x hx
    rw [List.all_eq_true] at this
    exact this y hy
  · have := h2 x hx
    rw [e] at this
    cases this
def bestP (best : PyData → List PyData → PyData) (ds : List D) : Option D := (toPys ds).bind fun ps => match ps with
  | [] => none
  | x :: xs => if alikeB (x :: xs) = true ∧ PyData.depthAll (x :: xs) ≤ 60 ∧ noLsts ds = true then some (ofPy (best x xs)) else none
theorem bestP_ok {k : Kx} {best : PyData → List PyData → PyData} {H0 H : Hp} {ds : List D} {vs : List V} {z : D} {a : Addr} {Q : VK} (e : Same H0 H) (hs : SqL k.K H a vs ∨ SqT k.K H a vs) (il : IsL k H0 ds vs) (h : bestP best ds = some z)
    (q : ∀ v H0' H', Tr .no H0 H H0' H' → Is k H0' z v → Q v H') : rBestP best k.K [.ref a] H Q := by
  unfold bestP at h
  cases hp : toPys ds with
  | none => rw [hp] at h; cases h
  | some ps =>
    rw [hp] at h
    cases ps with
    | nil => cases h
    | cons p ps =>
      simp only [Option.bind_some] at h
      split at h
      · rename_i c
        cases h
        refine ⟨a, vs, p, ps, rfl, hs, dps_of (il.mono e) hp, alikeB_ok c.1, c.2.1, fun i v hv hb => ?_⟩
        obtain ⟨d, hd, hi⟩ := il.getV hv
        obtain ⟨p', e1, e2⟩ := toPys_get hp hd
        rw [hb] at e1
        cases e1
        have := ofPy_toPy (noLsts_mem c.2.2 d (List.mem_of_getElem? hd)) e2
        exact q v H0 H (Tr.refl e) (by rw [this]; exact hi)
      · cases h
def min1 : List D → Option D
  | [.lst _ ds] => (match intsOf ds with
    | some ns => (leastI ns).map .int
    | none => bestP PySem.W.minD ds)
  | [.tup ds] => bestP PySem.W.minD ds
  | [.int i, .int j] => some (.int (if j < i then j else i))
  | _ => none
def max1 : List D → Option D
  | [.lst _ ds] => (match intsOf ds with
    | some ns => (mostI ns).map .int
    | none => bestP PySem.W.maxD ds)
  | [.tup ds] => bestP PySem.W.maxD ds
  | [.int i, .int j] => some (.int (if j > i then j else i))
  | _ => none
abbrev rMinU (K : PySem.W.Frag) : List V → Hp → VK → Prop := fun xs H Q => rMin K xs H Q ∨ (∃ i j, xs = [.int i, .int j] ∧ Q (.int (if j < i then j else i)) H) ∨ rBestP PySem.W.minD K xs H Q
abbrev rMaxU (K : PySem.W.Frag) : List V → Hp → VK → Prop := fun xs H Q => rMax K xs H Q ∨ (∃ i j, xs = [.int i, .int j] ∧ Q (.int (if j > i then j else i)) H) ∨ rBestP PySem.W.maxD K xs H Q
theorem call_minU (hc : X.calm = true) (hu : X.A.units + 64 < cLine) : CallR X (.builtin "min") (rMinU X.K) := CallR.or (cr_min hc) (CallR.or (call_min2 hc) (cr_minP hc hu))
theorem call_maxU (hc : X.calm = true) (hu : X.A.units + 64 < cLine) : CallR X (.builtin "max") (rMaxU X.K) := CallR.or (cr_max hc) (CallR.or (call_max2 hc) (cr_maxP hc hu))
theorem cld_min {k : Kx} : ClD k (rMinU k.K) min1 := by
  intro H0 H xs z vs e zo il h Q q
  unfold min1 at h
  split at h
  · rename_i ds
    cases il with
    | cons i l =>
      cases l
      cases i with
      | lst hl _ il =>
        cases hq : intsOf ds with
        | none =>
          rw [hq] at h
          exact .inr (.inr (bestP_ok e (.inl (.inl (.inl (e _ _ hl)))) il h q))
        | some ns =>
          rw [hq] at h
          cases ns with
          | nil => cases h
          | cons n ns =>
            cases h
            obtain ⟨h1, h2⟩ := foldl_min ns n
            refine .inl ⟨_, n :: ns, rfl, ?_, by simp, fun m hm hle => ?_⟩
            · rw [← intsOf_is il hq]; exact .inl (.inl (e _ _ hl))
            · have : m = ns.foldl min n := Int.le_antisymm (hle _ h1) (h2 _ hm)
              rw [this]
              exact q _ H0 H (Tr.refl e) (.int _)
  · cases il with
    | cons i l =>
      cases l
      cases i with
      | tup ht il => exact .inr (.inr (bestP_ok e (.inr (same_t e ht)) il h q))
  · cases il with
    | cons i l =>
      cases l with
      | cons j l =>
        cases l; cases i; cases j; cases h
        exact .inr (.inl ⟨_, _, rfl, q _ H0 H (Tr.refl e) (.int _)⟩)
  · cases h
theorem cld_max {k : Kx} : ClD k (rMaxU k.K) max1 := by
  intro H0 H xs z vs e zo il h Q q
  unfold max1 at h
  split at h
  · rename_i ds
    cases il with
    | cons i l =>
      cases l
      cases i with
      | lst hl _ il =>
        cases hq : intsOf ds with
        | none =>
          rw [hq] at h
          exact .inr (.inr (bestP_ok e (.inl (.inl (.inl (e _ _ hl)))) il h q))
        | some ns =>
          rw [hq] at h
          cases ns with
          | nil => cases h
          | cons n ns =>
            cases h
            obtain ⟨h1, h2⟩ := foldl_max ns n
            refine .inl ⟨_, n :: ns, rfl, ?_, by simp, fun m hm hle => ?_⟩
            · rw [← intsOf_is il hq]; exact .inl (.inl (e _ _ hl))
            · have : m = ns.foldl max n := Int.le_antisymm (h2 _ hm) (hle _ h1)
              rw [this]
              exact q _ H0 H (Tr.refl e) (.int _)
  · cases il with
    | cons i l =>
      cases l
      cases i with
      | tup ht il => exact .inr (.inr (bestP_ok e (.inr (same_t e ht)) il h q))
  · cases il with
    | cons i l =>
      cases l with
      | cons j l =>
        cases l; cases i; cases j; cases h
        exact .inr (.inl ⟨_, _, rfl, q _ H0 H (Tr.refl e) (.int _)⟩)
  · cases h
def tup1 : List D → Option D
  | [.lst _ ds] => some (.tup ds)
  | [.tup ds] => some (.tup ds)
  | _ => none
theorem cld_tup {k : Kx} : ClD k (fun xs H Q => ∃ p ys, xs = [.ref p] ∧ ((SqL k.K H p ys ∧ ∀ l, H l = none → Q (.ref l) (upd H l (.tup ys))) ∨ (SqT k.K H p ys ∧ Q (.ref p) H))) tup1 := by
  intro H0 H xs z vs e zo il h Q q
  unfold tup1 at h
  split at h
  · cases h
    cases il with
    | cons i l =>
      cases l
      cases i with
      | @lst a us ds z1 hl _ il =>
        refine ⟨_, _, rfl, .inl ⟨.inl (.inl (e _ _ hl)), fun l hn => ?_⟩⟩
        have ta := Tr.alloc (o := .tup us) e hn
        exact q _ _ _ ta (.tup (.inl (.inl upd_same)) (il.mono ta.ext))
  · cases h
    cases il with
    | cons i l =>
      cases l
      cases i with
      | tup hl il => exact ⟨_, _, rfl, .inr ⟨same_t e hl, q _ H0 H (Tr.refl e) (.tup hl il)⟩⟩
  · cases h
/-- list(..): a new list -/
def lst1 : List D → Option (List D)
  | [.lst _ ds] => some ds
  | [.sql ds] => some ds
  | [.tup ds] => some ds
  | _ => none
theorem po_list (hK : X.K = g.k.K) (hg : Gl X "list") (hm : X.mg "list" = none) {p3 : Pos} (ha : PL X g W [e] fl) (he : starEach [e] X.env = (false, eval e X.env) :: starEach [] X.env := by rfl) (hpl : (backTo pos (starEach [] X.env)).any (·.1) = false := by rfl) :
    PN X g W (.Call (.Name "list" p3) [e] [] pos) (xSrc lst1 fl) := by
  refine pe_imp (pe_callTy call_list_of hg hm (by decide +kernel) ha (by decide) (by decide) he hpl) ?_
  rintro σ H Q ⟨ρ, b, H0, G, F⟩
  refine ta_call G F fun ds b1 H01 H1 vs t1 zo B1 il F2 => ?_
  cases ho : lst1 ds with
  | none => rw [ho] at F2; exact F2.elim
  | some es =>
    rw [ho] at F2
    have key : ∃ a us, vs = [.ref a] ∧ (SqL X.K H1 a us ∨ SqT X.K H1 a us) ∧ IsL g.k H01 es us := by
      unfold lst1 at ho
      split at ho
      · cases ho
        cases il with
        | cons i l => cases l; cases i with | lst hl _ il => exact ⟨_, _, rfl, .inl (.inl (.inl (t1.sub _ _ hl))), il⟩
      · cases ho
        cases il with
        | cons i l => cases l; cases i with | sql hl il => exact ⟨_, _, rfl, .inl (hK ▸ same_l t1.sub hl), il⟩
      · cases ho
        cases il with
        | cons i l => cases l; cases i with | tup hl il => exact ⟨_, _, rfl, .inr (hK ▸ same_t t1.sub hl), il⟩
      · cases ho
    obtain ⟨a, us, rfl, hs, iu⟩ := key
    refine ⟨a, us, rfl, hs, fun l hn => ?_⟩
    have ta := Tr.allocO (o := .lst us) t1.sub hn
    refine F2 _ _ ta.weak (B1.keep ta) l us ?_ (t1.sub.free hn) upd_same iu
    cases q : H l with
    | none => rfl
    | some o => exact absurd hn (t1.there l (by rw [q]; simp))
def int1 : List D → Option D
  | [.int i] => some (.int i)
  | [.bl c] => some (.int (if c then 1 else 0))
  | _ => none
theorem cld_int {k : Kx} : ClD k (fun xs H Q => (∃ i, xs = [.int i] ∧ Q (.int i) H) ∨ ∃ k, xs = [.bl k] ∧ Q (.int (if k then 1 else 0)) H) int1 := by
  intro H0 H xs z vs e zo il h Q q
  unfold int1 at h
  split at h
  · cases h
    cases il with
    | cons i l => cases l; cases i; exact .inl ⟨_, rfl, q _ H0 H (Tr.refl e) (.int _)⟩
  · cases h
    cases il with
    | cons i l => cases l; cases i; exact .inr ⟨_, rfl, q _ H0 H (Tr.refl e) (.int _)⟩
  · cases h
def sum1 : List D → Option D
  | [.lst _ ds] => (intsOf ds).map fun ns => .int ns.sum
  | _ => none
theorem cld_sum {k : Kx} : ClD k (rSum k.K) sum1 := by
  intro H0 H xs z vs e zo il h Q q
  unfold sum1 at h
  split at h
  · rename_i ds
    cases il with
    | cons i l =>
      cases l
      cases i with
      | lst hl _ il =>
        cases hq : intsOf ds with
        | none => rw [hq] at h; cases h
        | some ns =>
          rw [hq] at h
          cases h
          refine ⟨_, ns, rfl, ?_, q _ H0 H (Tr.refl e) (.int _)⟩
          rw [← intsOf_is il hq]; exact .inl (.inl (e _ _ hl))
  · cases h
/-- a constant of the module -/
theorem px_glob {u : Value} {d : D} {v : V} (hg : Gl X x) (hm : X.mg x = some u) (r : RelV v u) (i : ∀ k H, Is k H d v) (hd : (x == ("__debug__" : Str)) = false := by decide) : PX X g W (.Name x pos) (xC d) := px_of_c (pe_glob hg hm r hd) i

/-! ### slices -/
abbrev Fo := Fx (Option Int)
def PSl (X : Cx) (g : Cfg) (W : WX) (e : Option Expr) (f : Fo) : Prop := L2.PO X e fun σ H Q => ∃ ρ b H0, Good g ρ b σ H H0 ∧ Fin g W σ H0 H (f ρ b) fun o _ _ H' => Q o H'
theorem poo_imp {e : Option Expr} {t t' : TO} (h : L2.PO X e t) (q : ∀ σ H Q, t' σ H Q → t σ H Q) : L2.PO X e t' := ⟨fun pins s σ H Q I z => h.run pins s σ H Q I (q σ H Q z)⟩
def xNoP : Fo := fun _ b => .ok none b
def xSoP (f : Fx D) : Fo := fun ρ b => (f ρ b).bind fun d b1 => lift ((intOf d).map some) b1
theorem psl_none : PSl X g W none xNoP := by
  refine poo_imp po_none ?_
  rintro σ H Q ⟨ρ, b, H0, G, F⟩
  exact F H0 H (Tr.refl G.sub) G.box
theorem psl_some (h : PX X g W e f) : PSl X g W (some e) (xSoP f) := by
  refine poo_imp (po_some h) ?_
  rintro σ H Q ⟨ρ, b, H0, G, F⟩
  refine ⟨ρ, b, H0, G, F.bind.mono fun x b1 H01 H1 t1 B1 F1 v iv => ?_⟩
  cases iv with
  | int i => exact ⟨i, rfl, F1 _ _ (Tr.refl t1.sub) B1⟩
  | _ => exact F1.elim
def cutL {α : Type} (xs : List α) (lo hi : Option Int) : List α := (xs.drop (HT.sIx xs.length 0 lo)).take (HT.sIx xs.length xs.length hi - HT.sIx xs.length 0 lo)
def slcD (d : D) (lo hi : Option Int) : Option D := match d with
  | .lst _ xs => some (.lst false (cutL xs lo hi))
  | .tup xs => some (.tup (cutL xs lo hi))
  | _ => none
def xSlc (f : Fx D) (l h : Fo) : Fx D := fun ρ b => (f ρ b).bind fun d b1 => (l ρ b1).bind fun lo b2 => (h ρ b2).bind fun hi b3 => lift (slcD d lo hi) b3
theorem cutL_is {k : Kx} {H : Hp} {ds : List D} {vs : List V} {lo hi : Option Int} (h : IsL k H ds vs) : IsL k H (cutL ds lo hi) (cutV vs lo hi) := by
  unfold cutL cutV
  rw [← h.length]
  exact (h.drop _).take _
theorem px_slc {lo hi : Option Expr} {l h : Fo} (hK : X.K = g.k.K) (he : PX X g W e f) (hl : PSl X g W lo l) (hh : PSl X g W hi h) : PX X g W (.Subscript e (.Slice lo hi none p2) pos) (xSlc f l h) := by
  refine pe_imp (pe_slice (SlR.or sl_list sl_tupA) he hl hh) ?_
  rintro σ H Q ⟨ρ, b, H0, G, F⟩
  refine ⟨ρ, b, H0, G, F.bind.mono fun d b1 H01 H1 t1 B1 F1 v iv => ⟨ρ, b1, H01, G.step t1 B1, F1.bind.mono fun lo b2 H02 H2 t2 B2 F2 => ⟨ρ, b2, H02, (G.step t1 B1).step t2 B2, F2.bind.mono fun hi b3 H03 H3 t3 B3 F3 => ?_⟩⟩⟩
  have iv3 := (iv.mono t2.ext).mono t3.ext
  cases iv3 with
  | lst hL _ il =>
    rename_i a vs ds z1 q1
    refine .inl ⟨_, _, rfl, .inl (.inl (t3.sub _ _ hL)), fun p hp => ?_⟩
    have ta := Tr.alloc (o := .lst (cutV vs lo hi)) t3.sub hp
    exact F3 _ _ ta.weak (B3.keep ta) _ (.lst upd_same ((((G.step t1 B1).step t2 B2).step t3 B3).zok.new hp) ((cutL_is il).mono ta.ext))
  | tup hL il =>
    rename_i a vs ds
    refine .inr ⟨a, vs, rfl, hK ▸ same_t t3.sub hL, fun hw => ?_, fun hw p hp => ?_⟩
    · have e1 : cutL ds lo hi = ds := by
        unfold cutL
        rw [il.length, hw.1, hw.2, List.drop_zero, Nat.sub_zero, ← il.length, List.take_length]
      have F3 : Fin g W σ H03 H3 (.ok (D.tup (cutL ds lo hi)) b3) _ := F3
      rw [e1] at F3
      exact F3 _ _ (Tr.refl t3.sub) B3 _ (.tup hL il)
    · have ta := Tr.alloc (o := .tup (cutV vs lo hi)) t3.sub hp
      exact F3 _ _ ta.weak (B3.keep ta) _ (.tup (.inl (.inl upd_same)) ((cutL_is il).mono ta.ext))
  | _ => exact F3.elim
end
end Fw
set_option Elab.async false
set_option linter.all false
set_option maxRecDepth 100000
set_option maxHeartbeats 1000000
/-! Fw8: defs bundled: what a caller needs of a callee. -/
namespace Fw
open PySem PySem.Spec PyProof.Rows L2

abbrev mkG (K : PySem.W.Frag) (bx : Bk) (z : Addr → Bool) (n : Nat) (Hs H0s : Hp) : Cfg := ⟨⟨K, bx, z⟩, Hs, H0s, n⟩
structure CalD (P : Program) (w : World) (K : PySem.W.Frag) (mg : Str → Option Value) (base : Heap) (k : Nat) (x : Str) (n : Nat) (F : FD) : Prop where
  ex : ∃ (f : Addr) (fd : FuncData) (ps : List Str), FnOk P w K mg base (L2.CX P w) k f fd ps (spD K n F) ∧ Binds K fd ps [] ∧ mg x = some (.ref f) ∧ PySem.W.keepIn K (.ref f) = true
structure MetD (P : Program) (w : World) (K : PySem.W.Frag) (mg : Str → Option Value) (base : Heap) (k : Nat) (C : Addr) (m : Str) (n : Nat) (F : FD) : Prop where
  ex : ∃ (f : Addr) (fd : FuncData) (ps : List Str), FnOk P w K mg base (L2.CX P w) k f fd ps (spD K n F) ∧ Binds K fd ps [] ∧ Meth K C m f
  cl : Cls K C
section
variable {P : Program} {w : World} {K : PySem.W.Frag} {mg : Str → Option Value} {base : Heap}
/-- a def by its body -/
theorem okB {x qual : Str} {st : Stmt} {f : Addr} {fd : FuncData} {N ps : List Str} {n : Nat} {k : Fs} (F : Fun K x qual st f fd) (S : FnScope N ps (defScope st))
    (hb : ∀ (bx : Bk) (z : Addr → Bool) (n0 : Nat) (Hs H0s : Hp) (W : WX) (cdv : Value) (A : Around) (outer : List Env) (s : Shared) (H : Hp) (E : XK), Takes (cxOf (L2.CX P w) P w K mg base N qual (defScope st) f cdv A outer s H E) W →
      Room n (A.deeper (envOfC qual (defScope st) s.heap.objs.size f cdv)) → PB (cxOf (L2.CX P w) P w K mg base N qual (defScope st) f cdv A outer s H E) (mkG K bx z n0 Hs H0s) W (defBody st) k) :
    FnOk P w K mg base (L2.CX P w) (n + 1) f fd ps (spD K ps.length (runD N.length k)) := by
  refine okD F S fun g W cdv A outer s H E hg tk hr => ?_
  obtain ⟨⟨K', bx, z⟩, Hs, H0s, n0⟩ := g
  have hg : K' = K := hg
  subst hg
  exact hb bx z n0 Hs H0s W cdv A outer s H E tk hr
theorem calD {x qual : Str} {st : Stmt} {f : Addr} {fd : FuncData} {N ps : List Str} {n : Nat} {k : Fs} (F : Fun K x qual st f fd) (S : FnScope N ps (defScope st)) (hm : mg x = some (.ref f)) (b : Binds K fd ps [])
    (hb : ∀ (bx : Bk) (z : Addr → Bool) (n0 : Nat) (Hs H0s : Hp) (W : WX) (cdv : Value) (A : Around) (outer : List Env) (s : Shared) (H : Hp) (E : XK), Takes (cxOf (L2.CX P w) P w K mg base N qual (defScope st) f cdv A outer s H E) W →
      Room n (A.deeper (envOfC qual (defScope st) s.heap.objs.size f cdv)) → PB (cxOf (L2.CX P w) P w K mg base N qual (defScope st) f cdv A outer s H E) (mkG K bx z n0 Hs H0s) W (defBody st) k) :
    CalD P w K mg base (n + 1) x ps.length (runD N.length k) := ⟨⟨f, fd, ps, okB F S hb, b, hm, F.kp⟩⟩
theorem metD {C : Addr} {x qual : Str} {st : Stmt} {f : Addr} {fd : FuncData} {N ps : List Str} {n : Nat} {k : Fs} (c : Cls K C) (F : Fun K x qual st f fd) (S : FnScope N ps (defScope st)) (hm : Meth K C x f) (b : Binds K fd ps [])
    (hb : ∀ (bx : Bk) (z : Addr → Bool) (n0 : Nat) (Hs H0s : Hp) (W : WX) (cdv : Value) (A : Around) (outer : List Env) (s : Shared) (H : Hp) (E : XK), Takes (cxOf (L2.CX P w) P w K mg base N qual (defScope st) f cdv A outer s H E) W →
      Room n (A.deeper (envOfC qual (defScope st) s.heap.objs.size f cdv)) → PB (cxOf (L2.CX P w) P w K mg base N qual (defScope st) f cdv A outer s H E) (mkG K bx z n0 Hs H0s) W (defBody st) k) :
    MetD P w K mg base (n + 1) C x ps.length (runD N.length k) := ⟨⟨f, fd, ps, okB F S hb, b, hm⟩, c⟩
theorem CalD.mono {j k : Nat} {x : Str} {n : Nat} {F : FD} (c : CalD P w K mg base j x n F) (h : j ≤ k) : CalD P w K mg base k x n F := by
  obtain ⟨f, fd, ps, F1, r⟩ := c.ex
  exact ⟨⟨f, fd, ps, F1.mono h, r⟩⟩
end
section
variable {X : Cx} {g : Cfg} {W : WX} {a c e o : Expr} {es : List Expr} {f h j : Fx D} {fl : Fx (List D)} {pos p apos : Pos} {x m : Str} {n k kk : Nat} {F : FD} {C : Addr}
theorem pxc (cl : CalD X.prog X.w X.K X.mg X.base k x n F) (hr : Room kk X.A) (hk : k ≤ kk) (hK : X.K = g.k.K) (tk : Takes X W) (ha : PL X g W (e :: es) fl) (hg : Gl X x := by rfl) (hdb : (x == ("__debug__" : Str)) = false := by decide)
    (he : starEach (e :: es) X.env = (false, eval e X.env) :: starEach es X.env := by rfl) (hpl : (backTo pos (starEach es X.env)).any (·.1) = false := by rfl) : PX X g W (.Call (.Name x p) (e :: es) [] pos) (xCall n F fl) := by
  obtain ⟨f, fd, ps, F1, b, hm, hk'⟩ := cl.ex
  exact px_call F1 (hr.mono hk) hK tk hg hm hk' b ha hdb he hpl
theorem poc (cl : CalD X.prog X.w X.K X.mg X.base k x n F) (hr : Room kk X.A) (hk : k ≤ kk) (hK : X.K = g.k.K) (tk : Takes X W) (ha : PL X g W (e :: es) fl) (hg : Gl X x := by rfl) (hdb : (x == ("__debug__" : Str)) = false := by decide)
    (he : starEach (e :: es) X.env = (false, eval e X.env) :: starEach es X.env := by rfl) (hpl : (backTo pos (starEach es X.env)).any (·.1) = false := by rfl) : PN X g W (.Call (.Name x p) (e :: es) [] pos) (xCallO n F fl) := by
  obtain ⟨f, fd, ps, F1, b, hm, hk'⟩ := cl.ex
  exact po_call F1 (hr.mono hk) hK tk hg hm hk' b ha hdb he hpl
theorem pxm0 {pl : Sem Bool} (cl : MetD X.prog X.w X.K X.mg X.base k C m n F) (hr : Room kk X.A) (hk : k ≤ kk) (hK : X.K = g.k.K) (ho : PX X g W o f)
    (ht : eval (.Call (.Attribute o m apos) [] [] pos) X.env = (do
      let u ← eval o X.env
      standAt apos.atName
      let (f, first) ← holding [u] (getMethod u m pl)
      callWith pos f first (backTo pos (starEach [] X.env)) (backToKw pos (keywordEach [] X.env))) := by rfl) : PX X g W (.Call (.Attribute o m apos) [] [] pos) (xMeth C m n F f xNil) := by
  obtain ⟨f, fd, ps, F1, b, hm⟩ := cl.ex
  exact px_meth0 ho cl.cl hm F1 (hr.mono hk) hK b ht
theorem pxm {pl : Sem Bool} (cl : MetD X.prog X.w X.K X.mg X.base k C m n F) (hr : Room kk X.A) (hk : k ≤ kk) (hK : X.K = g.k.K) (ho : PX X g W o f) (ha : PL X g W (e :: es) fl)
    (hst : starEach (e :: es) X.env = (false, eval e X.env) :: starEach es X.env := by rfl) (hpl : (backTo pos (starEach es X.env)).any (·.1) = false := by rfl)
    (ht : eval (.Call (.Attribute o m apos) (e :: es) [] pos) X.env = (do
      let u ← eval o X.env
      standAt apos.atName
      let (f, first) ← holding [u] (getMethod u m pl)
      callWith pos f first (backTo pos (starEach (e :: es) X.env)) (backToKw pos (keywordEach [] X.env))) := by rfl) : PX X g W (.Call (.Attribute o m apos) (e :: es) [] pos) (xMeth C m n F f fl) := by
  obtain ⟨f, fd, ps, F1, b, hm⟩ := cl.ex
  exact px_meth ho cl.cl hm F1 (hr.mono hk) hK b ha hst hpl ht

theorem tx_chain {r r' : R2} {oo oo' : D → D → Option D} (hr : OpD g.k r oo) (hr' : OpD g.k r' oo') (hb : ∀ x y z, oo x y = some z → ∃ k, z = .bl k) {σ : L2.St} {H : Hp} {Q : VK} (z : TX g W (xChain oo oo' f h j) σ H Q) :
    tChain r r' (TX g W f) (TX g W h) (TX g W j) σ H Q := by
  obtain ⟨ρ, b, H0, G, F⟩ := z
  refine ⟨ρ, b, H0, G, F.bind.mono fun x b1 H01 H1 t1 B1 F1 vx ix => ⟨ρ, b1, H01, G.step t1 B1, F1.bind.mono fun y b2 H02 H2 t2 B2 F2 vy iy => ?_⟩⟩
  cases ho : oo x y with
  | none => simp only [ho] at F2; exact F2.elim
  | some w =>
    obtain ⟨k, rfl⟩ := hb _ _ _ ho
    refine hr H02 H2 x y _ vx vy t2.sub ((G.step t1 B1).step t2 B2).zok (ix.mono t2.ext) iy ho _ fun v H03 H3 t3 iz => ?_
    cases iz
    refine ⟨k, rfl, ?_⟩
    have B3 := B2.keep t3
    simp only [ho] at F2
    cases k with
    | false =>
      refine iteF ?_
      exact F2 H03 H3 t3.weak B3 _ (.bl false)
    | true =>
      refine iteT ?_
      refine ⟨ρ, b2, H03, ((G.step t1 B1).step t2 B2).step t3.weak B3, ?_⟩
      have F3 : Fin g W σ H03 H3 ((j ρ b2).bind fun z b3 => lift (oo' y z) b3) (fun d _ H0' H' => ∀ v, Is g.k H0' d v → Q v H') := Fin.move F2 t3.weak
      refine F3.bind.mono fun z b3 H04 H4 t4 B4 F4 vz iz => ?_
      cases ho2 : oo' y z with
      | none => rw [ho2] at F4; exact F4.elim
      | some w2 =>
        rw [ho2] at F4
        exact hr' H04 H4 y z w2 vy vz t4.sub ((((G.step t1 B1).step t2 B2).step t3.weak B3).step t4 B4).zok ((iy.mono t3.ext).mono t4.ext) iz ho2 Q fun v H0' H' t iz => F4 H0' H' t.weak (B4.keep t) v iz
theorem pq_chain {op op' : CmpOp} {r r' : R2} {oo oo' : D → D → Option D} (ho : OpR X (compareOp op) r) (ho' : OpR X (compareOp op') r') (hr : OpD g.k r oo) (hr' : OpD g.k r' oo') (hb : ∀ x y z, oo x y = some z → ∃ k, z = .bl k) (ha : PX X g W a f) (hc : PX X g W c h) (he : PX X g W e j)
    (hm : lastMarks [op, op'] [c, e] = false := by with_unfolding_all rfl) : PQ X g W (.Compare a [op, op'] [c, e] pos) (xT (xChain oo oo' f h j)) :=
  pt_imp (pt_chain ho ho' ha hc he (hm := hm)) fun _ _ _ => tt_test fun _ _ _ => tx_chain hr hr' hb
theorem px_chain' {op op' : CmpOp} {r r' : R2} {oo oo' : D → D → Option D} (ho : OpR X (compareOp op) r) (ho' : OpR X (compareOp op') r') (hr : OpD g.k r oo) (hr' : OpD g.k r' oo') (hb : ∀ x y z, oo x y = some z → ∃ k, z = .bl k) (ha : PX X g W a f) (hc : PX X g W c h) (he : PX X g W e j)
    (hm : lastMarks [op, op'] [c, e] = false := by with_unfolding_all rfl) : PX X g W (.Compare a [op, op'] [c, e] pos) (xChain oo oo' f h j) :=
  pe_imp (pe_chain ho ho' ha hc he hm) fun _ _ _ => tx_chain hr hr' hb
end
end Fw
set_option Elab.async false
set_option linter.all false
set_option maxRecDepth 100000
set_option maxHeartbeats 1000000
/-! Fw9: the draws' box, an instance that is being made, making. -/
namespace Fw
open PySem PySem.Spec PyProof.Rows L2

section
variable {g : Cfg} {ρ : En} {b b' : Bx} {σ : L2.St} {H H0 H' H0' : Hp}
/-- an object of the box changed -/
theorem Good.inBox (G : Good g ρ b σ H H0) {l : Addr} {o : HO} (i : InB g.bx l) (B : BoxOk g.k H0 (L2.upd H l o) b') : Good g ρ b' σ (L2.upd H l o) H0 := by
  have h0 := (G.box.at i).1
  refine ⟨⟨G.tr.ext, fun a u e => ?_, fun a u e n => ?_, fun a e => ?_, G.tr.new⟩, G.len, fun j => ?_, G.apart, G.mine, B, G.bin, G.zin, G.ln⟩
  · rw [upd_ne (ne_of_none e h0)]; exact G.tr.sub a u e
  · rw [upd_ne (fun q => by subst q; exact n i)]; exact G.tr.keep a u e n
  · by_cases ha : a = l
    · subst ha; rw [upd_same]; simp
    · rw [upd_ne ha]; exact G.tr.there a e
  · refine (G.slot j).mono (Same.refl _) (fun _ _ _ _ h _ => h) fun l' vs hs' hx hl' => ?_
    have ne : l' ≠ l := fun q => by subst q; exact G.notBox (i := j) ⟨hs', hx⟩ i
    rw [upd_ne ne]; exact hl'
def isBox (ρ : En) (i : Nat) : Bool := match ρ[i]? with
  | some (.val .box) => true
  | _ => false
theorem Good.draw (G : Good g ρ b σ H H0) {i : Nat} (h : isBox ρ i = true) : ∃ x y, g.bx = .draw x y ∧ σ[i]? = some (some (.ref x)) ∧ x ≠ y ∧ H0 x = none ∧ H0 y = none ∧ H x = some (.lst [.ref y, .int b.st]) ∧ H y = some (.lst (b.ns.map V.int)) := by
  unfold isBox at h
  split at h
  · rename_i e
    obtain ⟨v, e1, iv⟩ := G.val e
    cases iv with
    | box hb =>
      have B := G.box
      unfold BoxOk at B
      rw [hb] at B
      exact ⟨_, _, hb, e1, B⟩
  · cases h
theorem isBox_of {ρ : En} {i : Nat} (h : ρ[i]? = some (.val .box)) : isBox ρ i = true := by unfold isBox; rw [h]
end

/-! ### reading the draws' box -/
def xBSt (i : Nat) : Fx D := fun ρ b => if isBox ρ i then .ok (.int b.st) b else .bad
def xBHd (i : Nat) : Fx D := fun ρ b => if isBox ρ i then (match b.ns with
  | n :: _ => .ok (.int n) b
  | [] => .bad) else .bad
def xBNil (i : Nat) : Fx D := fun ρ b => if isBox ρ i then .ok (.bl b.ns.isEmpty) b else .bad
def kBSt (i : Nat) (f : Fx D) : Fs := fun ρ b => (f ρ b).out fun d b1 => match isBox ρ i, d with
  | true, .int n => .nx ρ { b1 with st := n }
  | _, _ => .bad
def kBHd (i : Nat) (f : Fx D) : Fs := fun ρ b => (f ρ b).out fun d b1 => match isBox ρ i, d, b1.ns with
  | true, .int n, _ :: r => .nx ρ { b1 with ns := n :: r }
  | _, _, _ => .bad
def kBPop (i : Nat) : Fs := fun ρ b => match isBox ρ i, b.ns with
  | true, _ :: r => .nx ρ { b with ns := r }
  | _, _ => .bad

section
variable {X : Cx} {g : Cfg} {W : WX} {e : Expr} {f : Fx D} {x : Str} {pos p p1 p2 p3 apos : Pos} {j j1 : Nat}
theorem depth_ints : ∀ ns : List Int, PyData.canLayAll0 (ns.map PyData.int) = true
  | [] => rfl
  | n :: ns => by
    show (PyData.canLay0 (.int n) && PyData.canLayAll0 (ns.map PyData.int)) = true
    rw [depth_ints ns]; rfl
theorem eqv_ints_nil (ns : List Int) : PyData.eqv (.list (ns.map PyData.int)) (.list []) = ns.isEmpty := by
  cases ns <;> rfl
theorem px_bSt (i : Nat) (hN : X.N[i]? = some x := by rfl) (hv : Vis X.env.scope x := by first | exact Or.inl rfl | exact Or.inr (Or.inl rfl) | exact Or.inr (Or.inr rfl)) (hd : (x == ("__debug__" : Str)) = false := by decide)
    (hcd : (x == ("__classdict__" : Str)) = false := by decide) : PX X g W (.Subscript (.Name x p) (.Constant (.int 1) j p1) pos) (xBSt i) := by
  refine pe_imp (pe_ix ix_seq (pe_var hN hv hd hcd) pe_int (fun _ _ => rfl)) ?_
  rintro σ H Q ⟨ρ, b, H0, G, F⟩
  unfold xBSt at F
  split at F
  · rename_i hb
    obtain ⟨a, y, e1, e2, e3, e4, e5, e6, e7⟩ := G.draw hb
    exact ⟨_, e2, .inl ⟨a, _, 1, _, rfl, rfl, .inl (.inl e6), rfl, F H0 H (Tr.refl G.sub) G.box _ (.int _)⟩⟩
  · exact F.elim
theorem px_bHd (i : Nat) (hN : X.N[i]? = some x := by rfl) (hv : Vis X.env.scope x := by first | exact Or.inl rfl | exact Or.inr (Or.inl rfl) | exact Or.inr (Or.inr rfl)) (hd : (x == ("__debug__" : Str)) = false := by decide)
    (hcd : (x == ("__classdict__" : Str)) = false := by decide) : PX X g W (.Subscript (.Subscript (.Name x p) (.Constant (.int 0) j p1) p2) (.Constant (.int 0) j1 p3) pos) (xBHd i) := by
  refine pe_imp (pe_ix ix_seq (pe_ix ix_seq (pe_var hN hv hd hcd) pe_int (fun _ _ => rfl)) pe_int (fun _ _ => rfl)) ?_
  rintro σ H Q ⟨ρ, b, H0, G, F⟩
  unfold xBHd at F
  split at F
  · rename_i hb
    obtain ⟨a, y, e1, e2, e3, e4, e5, e6, e7⟩ := G.draw hb
    cases hn : b.ns with
    | nil => simp only [hn] at F; exact F.elim
    | cons n r =>
      simp only [hn] at F
      rw [hn] at e7
      refine ⟨_, e2, .inl ⟨a, _, 0, _, rfl, rfl, .inl (.inl e6), rfl, .inl ⟨y, _, 0, _, rfl, rfl, .inl (.inl e7), ?_, F H0 H (Tr.refl G.sub) G.box _ (.int _)⟩⟩⟩
      show atI (V.int n :: r.map V.int) 0 = some (V.int n)
      simp [atI, ixN]
  · exact F.elim
theorem tx_bNil (i : Nat) {σ : L2.St} {H : Hp} {Q : VK} (zz : TX g W (xBNil i) σ H Q) : tOp (rEqD X.K) (tOp (rIx X.K) (tVar i) (tC (.int 0))) (tLst tNil) σ H Q := by
  revert σ H Q
  rintro σ H Q ⟨ρ, b, H0, G, F⟩
  unfold xBNil at F
  split at F
  · rename_i hb
    obtain ⟨a, y, e1, e2, e3, e4, e5, e6, e7⟩ := G.draw hb
    refine ⟨_, e2, .inl ⟨a, _, 0, _, rfl, rfl, .inl (.inl e6), rfl, by decide, fun q hq => ?_⟩⟩
    have ta := Tr.allocO (o := .lst []) G.sub hq
    refine ⟨.list (b.ns.map PyData.int), .list [], .lst (.inl (.inl (by rw [upd_ne (ne_of_none e7 hq)]; exact e7))) ?_, .lst (.inl (.inl upd_same)) .nil, ?_, by decide, ?_⟩
    · induction b.ns with
      | nil => exact .nil
      | cons n r ih => exact .cons (.int n) ih
    · unfold SeqAt.shaped
      rw [Bool.and_eq_true]
      refine ⟨depth_ints _, decide_eq_true ?_⟩
      have : ∀ ns : List Int, PyData.depthAll (ns.map PyData.int) ≤ 1 := by
        intro ns
        induction ns with
        | nil => simp [PyData.depthAll]
        | cons n r ih => simp only [List.map_cons, PyData.depthAll, PyData.depth]; omega
      have := this b.ns
      simp only [PyData.depth]; omega
    · rw [eqv_ints_nil]
      exact F H0 _ ta.weak (G.box.keep ta) _ (.bl _)
  · exact F.elim
theorem px_bNil (i : Nat) (hu : X.A.units + 64 < cLine) (hN : X.N[i]? = some x := by rfl) (hv : Vis X.env.scope x := by first | exact Or.inl rfl | exact Or.inr (Or.inl rfl) | exact Or.inr (Or.inr rfl)) (hd : (x == ("__debug__" : Str)) = false := by decide)
    (hcd : (x == ("__classdict__" : Str)) = false := by decide) : PX X g W (.Compare (.Subscript (.Name x p) (.Constant (.int 0) j p1) p2) [.Eq] [.List [] p3] pos) (xBNil i) :=
  pe_imp (pe_cmpR (op_eqD hu) (pe_ix ix_seq (pe_var hN hv hd hcd) pe_int (fun _ _ => rfl)) (pe_lst pa_nil) (nomark _)) fun _ _ _ => tx_bNil i
theorem pq_bNil (i : Nat) (hu : X.A.units + 64 < cLine) (hN : X.N[i]? = some x := by rfl) (hv : Vis X.env.scope x := by first | exact Or.inl rfl | exact Or.inr (Or.inl rfl) | exact Or.inr (Or.inr rfl)) (hd : (x == ("__debug__" : Str)) = false := by decide)
    (hcd : (x == ("__classdict__" : Str)) = false := by decide) : PQ X g W (.Compare (.Subscript (.Name x p) (.Constant (.int 0) j p1) p2) [.Eq] [.List [] p3] pos) (xT (xBNil i)) :=
  pt_imp (pt_cmpR (op_eqD hu) (pe_ix ix_seq (pe_var hN hv hd hcd) pe_int (fun _ _ => rfl)) (pe_lst pa_nil) (nomark _)) fun _ _ _ => tt_test fun _ _ _ => tx_bNil i
/-! ### writing the draws' box -/
theorem p1_bSt (i : Nat) (he : PX X g W e f) (hN : X.N[i]? = some x := by rfl) (hv : Vis X.env.scope x := by first | exact Or.inl rfl | exact Or.inr (Or.inl rfl) | exact Or.inr (Or.inr rfl)) (hd : (x == ("__debug__" : Str)) = false := by decide)
    (hcd : (x == ("__classdict__" : Str)) = false := by decide) (hs : swapsWithSole [.Subscript (.Name x p) (.Constant (.int 1) j p1) p2] e pos.line X.env = pure false := by rfl) (hw : swappedStores [.Subscript (.Name x p) (.Constant (.int 1) j p1) p2] e X.env = pure none := by rfl)
    (h1 : (assignEach [.Subscript (.Name x p) (.Constant (.int 1) j p1) p2] X.env).map (·.2) = [assign (.Subscript (.Name x p) (.Constant (.int 1) j p1) p2) X.env] := by rfl)
    (hA : ∀ v, assign (.Subscript (.Name x p) (.Constant (.int 1) j p1) p2) X.env v = (do
      let o1 ← holding [v] (eval (.Name x p) X.env)
      let i1 ← holding [v, o1] (eval (.Constant (.int 1) j p1) X.env)
      standAt p2
      holding [v, o1, i1] (setItem o1 i1 v)
      release [v, o1, i1] []) := by intro _; rfl) : P1 X g W (.Assign [.Subscript (.Name x p) (.Constant (.int 1) j p1) p2] e pos) (kBSt i f) := by
  refine ps_imp (ps_asg he (pg_sub (pe_var hN hv hd hcd) pe_int set_list hA) hs hw h1) ?_
  rintro Dd σ H ⟨ρ, b, H0, G, F⟩
  refine ⟨ρ, b, H0, G, (fin_out G F).mono fun d b1 H01 H1 t1 B1 F1 v iv => ?_⟩
  have G1 := G.step t1 B1
  cases hb : isBox ρ i with
  | false => simp only [hb] at F1; exact F1.elim
  | true =>
    cases iv with
    | int n =>
      simp only [hb] at F1
      obtain ⟨a, y, e1, e2, e3, e4, e5, e6, e7⟩ := G1.draw hb
      refine ⟨_, e2, a, _, 1, _, rfl, rfl, e6, rfl, F1 _ _ _ (G1.inBox (by rw [e1]; exact .inl rfl) ?_) (Same.refl _)⟩
      unfold BoxOk
      rw [show g.k.bx = _ from e1]
      exact ⟨e3, e4, e5, by rw [upd_same]; rfl, by rw [upd_ne (Ne.symm e3)]; exact e7⟩
    | _ => simp only [hb] at F1; exact F1.elim
theorem p1_bHd (i : Nat) (he : PX X g W e f) (hN : X.N[i]? = some x := by rfl) (hv : Vis X.env.scope x := by first | exact Or.inl rfl | exact Or.inr (Or.inl rfl) | exact Or.inr (Or.inr rfl)) (hd : (x == ("__debug__" : Str)) = false := by decide)
    (hcd : (x == ("__classdict__" : Str)) = false := by decide) {q1 q2 : Pos}
    (hs : swapsWithSole [.Subscript (.Subscript (.Name x p) (.Constant (.int 0) j p1) q1) (.Constant (.int 0) j1 q2) p2] e pos.line X.env = pure false := by rfl) (hw : swappedStores [.Subscript (.Subscript (.Name x p) (.Constant (.int 0) j p1) q1) (.Constant (.int 0) j1 q2) p2] e X.env = pure none := by rfl)
    (h1 : (assignEach [.Subscript (.Subscript (.Name x p) (.Constant (.int 0) j p1) q1) (.Constant (.int 0) j1 q2) p2] X.env).map (·.2) = [assign (.Subscript (.Subscript (.Name x p) (.Constant (.int 0) j p1) q1) (.Constant (.int 0) j1 q2) p2) X.env] := by rfl)
    (hA : ∀ v, assign (.Subscript (.Subscript (.Name x p) (.Constant (.int 0) j p1) q1) (.Constant (.int 0) j1 q2) p2) X.env v = (do
      let o1 ← holding [v] (eval (.Subscript (.Name x p) (.Constant (.int 0) j p1) q1) X.env)
      let i1 ← holding [v, o1] (eval (.Constant (.int 0) j1 q2) X.env)
      standAt p2
      holding [v, o1, i1] (setItem o1 i1 v)
      release [v, o1, i1] []) := by intro _; rfl) : P1 X g W (.Assign [.Subscript (.Subscript (.Name x p) (.Constant (.int 0) j p1) q1) (.Constant (.int 0) j1 q2) p2] e pos) (kBHd i f) := by
  refine ps_imp (ps_asg he (pg_sub (pe_ix ix_seq (pe_var hN hv hd hcd) pe_int (fun _ _ => rfl)) pe_int set_list hA) hs hw h1) ?_
  rintro Dd σ H ⟨ρ, b, H0, G, F⟩
  refine ⟨ρ, b, H0, G, (fin_out G F).mono fun d b1 H01 H1 t1 B1 F1 v iv => ?_⟩
  have G1 := G.step t1 B1
  cases hb : isBox ρ i with
  | false => simp only [hb] at F1; exact F1.elim
  | true =>
    cases iv with
    | int n =>
      simp only [hb] at F1
      cases hn : b1.ns with
      | nil => simp only [hn] at F1; exact F1.elim
      | cons m r =>
        simp only [hn] at F1
        obtain ⟨a, y, e1, e2, e3, e4, e5, e6, e7⟩ := G1.draw hb
        rw [hn] at e7
        refine ⟨_, e2, .inl ⟨a, _, 0, _, rfl, rfl, .inl (.inl e6), rfl, y, _, 0, 0, rfl, rfl, e7, by simp [ixN], F1 _ _ _ (G1.inBox (by rw [e1]; exact .inr rfl) ?_) (Same.refl _)⟩⟩
        unfold BoxOk
        rw [show g.k.bx = _ from e1]
        exact ⟨e3, e4, e5, by rw [upd_ne e3]; exact e6, by rw [upd_same]; rfl⟩
    | _ => simp only [hb] at F1; exact F1.elim
theorem p1_bPop (i : Nat) (hN : X.N[i]? = some x := by rfl) (hv : Vis X.env.scope x := by first | exact Or.inl rfl | exact Or.inr (Or.inl rfl) | exact Or.inr (Or.inr rfl)) (hd : (x == ("__debug__" : Str)) = false := by decide)
    (hcd : (x == ("__classdict__" : Str)) = false := by decide) {q1 q2 : Pos}
    (hbase : attributeBase (.Subscript (.Name x p) (.Constant (.int 0) j p1) q1) "pop" X.env (eval (.Subscript (.Name x p) (.Constant (.int 0) j p1) q1) X.env) = eval (.Subscript (.Name x p) (.Constant (.int 0) j p1) q1) X.env := by rfl)
    (hfew : ((backTo p2 (starEach [.Constant (.int 0) j1 q2] X.env)).all (fun x => !x.1) && (backToKw p2 (keywordEach [] X.env)).all (fun x => x.1.isSome) && decide (([.Constant (.int 0) j1 q2] : List Expr).length + ([] : List Keyword).length + (if ([] : List Keyword).isEmpty then 0 else 1) < 30)) = true := by rfl)
    (hline : (apos.endLine == p2.line) = true := by rfl) (hs : starEach [.Constant (.int 0) j1 q2] X.env = (false, eval (.Constant (.int 0) j1 q2) X.env) :: starEach [] X.env := by rfl) (hplain : (backTo p2 (starEach [] X.env)).any (·.1) = false := by rfl)
    (hsw : swapsWith (.Call (.Attribute (.Subscript (.Name x p) (.Constant (.int 0) j p1) q1) "pop" apos) [.Constant (.int 0) j1 q2] [] p2) none pos.line X.env = pure false := by rfl) :
    P1 X g W (.Expr (.Call (.Attribute (.Subscript (.Name x p) (.Constant (.int 0) j p1) q1) "pop" apos) [.Constant (.int 0) j1 q2] [] p2) pos) (kBPop i) := by
  refine ps_imp (ps_expr (pe_bm PySem.F.plainAttrs_list PySem.F.slot_list_pop PySem.F.type_list_pop mt_popAt (pe_ix ix_seq (pe_var hN hv hd hcd) pe_int (fun _ _ => rfl)) (pa_cons pe_int pa_nil hs) hbase hfew hline hs hplain) hsw) ?_
  rintro Dd σ H ⟨ρ, b, H0, G, F⟩
  unfold kBPop at F
  cases hb : isBox ρ i with
  | false => simp only [hb] at F; exact F.elim
  | true =>
    cases hn : b.ns with
    | nil => simp only [hb, hn] at F; exact F.elim
    | cons m r =>
      simp only [hb, hn] at F
      obtain ⟨a, y, e1, e2, e3, e4, e5, e6, e7⟩ := G.draw hb
      rw [hn] at e7
      refine ⟨_, e2, .inl ⟨a, _, 0, _, rfl, rfl, .inl (.inl e6), rfl, .inl ⟨rfl, _, .inl (.inl e7)⟩, y, _, 0, 0, V.int m, rfl, rfl, e7, by decide, by decide, by simp [seqIndex?], rfl, F _ _ _ (G.inBox (by rw [e1]; exact .inr rfl) ?_) (Same.refl _)⟩⟩
      unfold BoxOk
      rw [show g.k.bx = _ from e1]
      exact ⟨e3, e4, e5, by rw [upd_ne e3]; exact e6, by rw [upd_same]; rfl⟩
end
end Fw
set_option Elab.async false
set_option linter.all false
set_option maxRecDepth 100000
set_option maxHeartbeats 1000000
/-! Fw10: an instance that is being made, making one, boxes that are put in. -/
namespace Fw
open PySem PySem.Spec PyProof.Rows L2

/-! ### self.f = e in __init__ -/
def kSelf (i : Nat) (C : Addr) (nm : Str) (f : Fx D) : Fs := fun ρ b => (f ρ b).out fun d b1 => match ρ[i]? with
  | some (.val (.slf C')) => if C' = C ∧ b1.fs.contains nm = false ∧ b1.fs.length < 900 then .nx ρ { b1 with fs := b1.fs ++ [nm], ds := b1.ds ++ [d] } else .bad
  | _ => .bad
theorem putF_new {nm : Str} {v : V} : ∀ {fs : List Str} {vs : List V}, fs.contains nm = false → fs.length = vs.length → putF nm v (fs.zip vs) = (fs ++ [nm]).zip (vs ++ [v])
  | [], [], _, _ => rfl
  | x :: fs, w :: vs, h, hl => by
    simp only [List.contains_cons, Bool.or_eq_false_iff] at h
    have hx : x ≠ nm := fun q => by subst q; simp at h
    show putF nm v ((x, w) :: fs.zip vs) = (x, w) :: (fs ++ [nm]).zip (vs ++ [v])
    rw [← putF_new h.2 (by simpa using hl)]
    simp only [putF, if_neg hx]
section
variable {X : Cx} {g : Cfg} {W : WX} {e : Expr} {es : List Expr} {f : Fx D} {fl : Fx (List D)} {x nm : Str} {pos p p2 : Pos} {C : Addr}
theorem p1_self (i : Nat) (he : PX X g W e f) (hK : X.K = g.k.K) (c : Cls X.K C) (no : NoAttr X.K C nm) (hN : X.N[i]? = some x := by rfl) (hv : Vis X.env.scope x := by first | exact Or.inl rfl | exact Or.inr (Or.inl rfl) | exact Or.inr (Or.inr rfl)) (hd : (x == ("__debug__" : Str)) = false := by decide)
    (hcd : (x == ("__classdict__" : Str)) = false := by decide) (hs : swapsWith e (some (.Attribute (.Name x p) nm p2)) pos.line X.env = pure false := by rfl) : P1 X g W (.Assign [.Attribute (.Name x p) nm p2] e pos) (kSelf i C nm f) := by
  refine ps_imp (ps_fld (pe_var hN hv hd hcd) he hs) ?_
  rintro Dd σ H ⟨ρ, b, H0, G, F⟩
  refine ⟨ρ, b, H0, G, (fin_out G F).mono fun d b1 H01 H1 t1 B1 F1 v iv => ?_⟩
  have G1 := G.step t1 B1
  split at F1
  · rename_i C' hi
    split at F1
    · rename_i hc
      obtain ⟨rfl, hc1, hc2⟩ := hc
      obtain ⟨u, e1, iu⟩ := G1.val hi
      cases iu with
      | slf hb =>
        rename_i a
        have B := G1.box
        unfold BoxOk at B
        rw [hb] at B
        obtain ⟨h0, dx, vs, h1, h2, h3⟩ := B
        refine ⟨_, e1, a, _, dx, _, rfl, h1, c, no, ?_, F1 _ _ _ (G1.inBox (by rw [show g.bx = _ from hb]; exact rfl) ?_) (Same.refl _)⟩
        · rw [List.length_zip]; omega
        · unfold BoxOk
          rw [hb]
          exact ⟨h0, dx, vs ++ [v], by rw [upd_same, putF_new hc1 h2], by rw [List.length_append, List.length_append, h2]; rfl, h3.app (.cons iv .nil)⟩
    · exact F1.elim
  · exact F1.elim

/-! ### making an instance; nothing is raised -/
def mkR (C : Addr) (o : Out) (b1 : Bx) : Res D := match o with
  | .nx _ b2 => if cleanL b2.ds = true then .ok (.ins C b2.fs b2.ds) b1 else .bad
  | _ => .bad
def xMk (C : Addr) (n : Nat) (F : FD) (fl : Fx (List D)) : Fx D := fun ρ b => (fl ρ b).bind fun ds b1 => if ds.length + 1 = n ∧ cleanL ds = true then mkR C (F (.slf C :: ds) { b1 with fs := [], ds := [] }) b1 else .bad
structure MakD (P : Program) (w : World) (K : PySem.W.Frag) (mg : Str → Option Value) (base : Heap) (k : Nat) (x : Str) (C : Addr) (n : Nat) (F : FD) : Prop where
  ex : ∃ (f : Addr) (fd : FuncData) (ps : List Str), Mk K C f ∧ FnOk P w K mg base (L2.CX P w) k f fd ps (spD K n F) ∧ Binds K fd ps [] ∧ mg x = some (.ref C)
variable {k kk n : Nat} {F : FD}
theorem pxk (cl : MakD X.prog X.w X.K X.mg X.base k x C n F) (hr : Room kk X.A) (hk : k + 1 ≤ kk) (hK : X.K = g.k.K) (hpa : PL X g W (e :: es) fl) (hg : Gl X x := by rfl) (hdb : (x == ("__debug__" : Str)) = false := by decide)
    (he : starEach (e :: es) X.env = (false, eval e X.env) :: starEach es X.env := by rfl) (hpl : (backTo pos (starEach es X.env)).any (·.1) = false := by rfl) : PX X g W (.Call (.Name x p) (e :: es) [] pos) (xMk C n F fl) := by
  obtain ⟨fa, fd, ps, M, F1, b, hm⟩ := cl.ex
  refine pe_imp (pe_make M F1 (hr.mono hk) hg hm b .nil passL hpa hdb he hpl) ?_
  rintro σ H Q ⟨ρ, b, H0, G, FF⟩
  obtain ⟨⟨K, bx, z⟩, Hs, H0s, n0⟩ := g
  have hK : X.K = K := hK
  subst hK
  refine ta_call G FF fun ds b1 H01 H1 vs t1 zo B1 il F2 => ?_
  intro a dx ha hdx hne
  split at F2
  · rename_i hc
    obtain ⟨hn, hcl⟩ := hc
    have h0a : H01 a = none := t1.sub.free ha
    have hst : ∀ c o, H1 c = some o → L2.upd (L2.upd H1 dx (.own a)) a (.ins C dx []) c = some o := fun c o q => by rw [upd_ne (ne_of_none q ha), upd_ne (ne_of_none q hdx)]; exact q
    have sb : Same H01 (L2.upd (L2.upd H1 dx (.own a)) a (.ins C dx [])) := fun c o q => hst c o (t1.sub c o q)
    refine ⟨by rw [List.append_nil, List.length_cons, ← il.length]; exact hn, .self a C, z, .slf C :: ds, { b1 with fs := [], ds := [] }, H01, sb, ?_, ?_, ?_, ?_⟩
    · intro c q
      cases hc : H1 c with
      | none => exact absurd hc (zo c q)
      | some o => rw [hst c o hc]; simp
    · exact ⟨h0a, dx, [], by rw [upd_same]; rfl, rfl, .nil⟩
    · rw [List.append_nil]
      exact .cons (.slf rfl) (il.rebox hcl)
    · have fin : ∀ b2 : Bx, Fin (mkG X.K bx z n0 Hs H0s) W σ H01 H1 (if cleanL b2.ds = true then .ok (.ins C b2.fs b2.ds) b1 else .bad) (fun d _ H0' H' => ∀ v, Is ⟨X.K, bx, z⟩ H0' d v → Q v H') → ∀ (H0' H' : Hp), Tr (.self a C) H01 (L2.upd (L2.upd H1 dx (.own a)) a (.ins C dx [])) H0' H' →
          BoxOk ⟨X.K, .self a C, z⟩ H0' H' b2 → Q (.ref a) H' := by
        intro b2 F3 H0' H' t B
        split at F3
        · rename_i hcl2
          obtain ⟨h1, dx', vs', h2, h3, h4⟩ := B
          have e0 : Same H0' (L2.upd H0' a (.ins C dx' (b2.fs.zip vs'))) := fun c o q => by rw [upd_ne (ne_of_none q h1)]; exact q
          have kp : ∀ c o, H1 c = some o → H' c = some o := fun c o q => t.keep c o (hst c o q) fun i => by
            have i : c = a := i
            subst i; rw [ha] at q; cases q
          have nw : ∀ c, H01 c = none → H1 c ≠ none → L2.upd H0' a (.ins C dx' (b2.fs.zip vs')) c = none := fun c q n => by
            cases hc : H1 c with
            | none => exact absurd hc n
            | some o =>
              rw [upd_ne (ne_of_none hc ha)]
              exact t.new c q (by rw [hst c o hc]; simp) fun i => by
                have i : c = a := i
                subst i; rw [ha] at hc; cases hc
          refine F3 (L2.upd H0' a (.ins C dx' (b2.fs.zip vs'))) H' ⟨t.ext.trans e0, fun c o q => ?_, fun c o q _ => kp c o q, fun c n => ?_, fun c q n _ => nw c q n⟩ (B1.move (t.ext.trans e0) (fun c i => nw c (B1.at i).1 (B1.at i).2) fun c o _ q => kp c o q) _ ?_
          · by_cases hca : c = a
            · subst hca; rw [upd_same] at q; rw [h2]; exact q
            · rw [upd_ne hca] at q; exact t.sub c o q
          · cases hc : H1 c with
            | none => exact absurd hc n
            | some o => rw [kp c o hc]; simp
          · exact .ins upd_same h3 ((h4.mono e0).rebox hcl2)
        · exact F3.elim
      unfold mkR at F2
      revert F2
      generalize F (.slf C :: ds) { b1 with fs := [], ds := [] } = oo
      intro F2
      cases oo with
      | nx ρ' b2 => exact fun H0' H' t B => ⟨rfl, fin b2 F2 H0' H' t B⟩
      | _ => exact F2.elim
  · exact F2.elim
end

/-! ### a box put in -/
def cleanS : Sl → Sl
  | .val d => if clean d = true then .val d else .no
  | _ => .no
def cleanE (ρ : En) : En := ρ.map cleanS
theorem Good.rebox {g : Cfg} {ρ : En} {b b' : Bx} {σ : L2.St} {H H0 H2 : Hp} {bx' : Bk} (G : Good g ρ b σ H H0) (T : Tr .no H0 H H0 H2) (B' : BoxOk ⟨g.k.K, bx', g.k.z⟩ H0 H2 b') : Good (mkG g.k.K bx' g.k.z g.n H2 H0) (cleanE ρ) b' σ H2 H0 := by
  have no : ∀ {i l}, ¬ OwnAt (cleanE ρ) σ i l := by
    rintro i l ⟨⟨t, e, eo⟩, _⟩
    unfold cleanE at e
    rw [List.getElem?_map] at e
    cases hr : ρ[i]? with
    | none => rw [hr] at e; cases e
    | some s =>
      rw [hr] at e
      cases s with
      | no => cases e; cases eo
      | own _ => cases e; cases eo
      | odc _ => cases e; cases eo
      | val d =>
        have e : cleanS (.val d) = t := Option.some.inj e
        subst e
        unfold cleanS at eo
        dsimp only at eo
        split at eo <;> cases eo
  refine ⟨Tr.refl T.sub, by unfold cleanE; rw [List.length_map]; exact G.len, fun i => ?_, fun i j l o => (no o).elim, fun i l o => (no o).elim, B', fun a i => (B'.at i).2, fun a q => T.there a (G.zok a q), G.ln⟩
  unfold cleanE
  rw [List.getElem?_map]
  have q := G.slot i
  cases hr : ρ[i]? with
  | none => trivial
  | some s =>
    rw [hr] at q
    cases s with
    | no => trivial
    | own _ => trivial
    | odc _ => trivial
    | val d =>
      show SlOk _ _ _ (some (cleanS (.val d))) _
      unfold cleanS
      dsimp only
      split
      · rename_i hc
        obtain ⟨v, e1, iv⟩ := q
        exact ⟨v, e1, iv.rebox hc⟩
      · trivial
/-- the end of what runs with the box, seen from outside -/
def outBack (b : Bx) : Out → Out
  | .rt d _ => if clean d = true then .rt d b else .bad
  | .rto ds _ => if cleanL ds = true then .rto ds b else .bad
  | _ => .bad
theorem FinS.rebox {g : Cfg} {W W' : WX} {ρ : En} {b : Bx} {σ : L2.St} {H H0 H2 HB HB' : Hp} {bx' : Bk} {o : Out} {Dd : Ends} (G : Good g ρ b σ H H0) (T : Tr .no H0 H H0 H2) (fr : ∀ a, InB bx' a → H a = none) (F : FinS g W HB (outBack b o) Dd) :
    FinS (mkG g.k.K bx' g.k.z g.n H2 H0) W' HB' o Dd := by
  have noN : ∀ a, ¬ InB .no a := fun _ z => z
  have kp : ∀ {H0z Hz : Hp}, Tr bx' H0 H2 H0z Hz → ∀ c u, H c = some u → Hz c = some u := fun t c u q => t.keep c u (T.keep c u q (noN c)) fun i => by rw [fr c i] at q; cases q
  have tr : ∀ {H0z Hz : Hp}, Tr bx' H0 H2 H0z Hz → Tr g.bx g.H0s g.Hs H0z Hz := fun t => G.tr.trans ⟨t.ext, t.sub, fun c u q _ => kp t c u q, fun c n => t.there c (T.there c n), fun c q n _ => t.new c q (T.there c n) fun i => n (fr c i)⟩
  have bk : ∀ {H0z Hz : Hp}, Tr bx' H0 H2 H0z Hz → BoxOk g.k H0z Hz b := fun t => G.box.move t.ext (fun c i => t.new c (G.box.at i).1 (T.there c (G.box.at i).2) fun i2 => (G.box.at i).2 (fr c i2)) fun c u _ q => kp t c u q
  cases o with
  | rt d b2 =>
    have F : FinS g W HB (if clean d = true then .rt d b else .bad) Dd := F
    split at F
    · rename_i hc
      exact fun v Hz H0z t B iv => F v Hz H0z (tr t) (bk t) (iv.rebox hc)
    · exact F.elim
  | rto ds b2 =>
    have F : FinS g W HB (if cleanL ds = true then .rto ds b else .bad) Dd := F
    split at F
    · rename_i hc
      refine fun l vs Hz H0z t B hn h0 hl il => F l vs Hz H0z (tr t) (bk t) ?_ h0 hl (il.rebox hc)
      cases q : g.Hs l with
      | none => rfl
      | some u => exact absurd hn (T.there l (G.tr.there l (by rw [q]; simp)))
    · exact F.elim
  | _ => exact F.elim

/-! ### the law's first line -/
def bx0 : Bx := ⟨[], 0, [], [], [], []⟩
def kBegun (i j : Nat) (F : FD) (kk : Fs) : Fs := fun ρ b => match ρ[j]? with
  | some (.val (.sql ds)) => (match intsOf ds, F [.sql ds] bx0 with
    | some _, .rto [.lst false ns, .int st] _ => (match intsOf ns with
      | some is => outBack b (kk ((cleanE ρ).set i (.val .box)) ⟨is, st, [], [], [], []⟩)
      | none => .bad)
    | _, _ => .bad)
  | _ => .bad
theorem ofInts : ∀ {ds : List D} {ns : List Int}, intsOf ds = some ns → ds = ns.map D.int
  | [], _, h => by cases h; rfl
  | .int i :: ds, ns, h => by
    have h : ((intsOf ds).map fun is => i :: is) = some ns := h
    cases hq : intsOf ds with
    | none => rw [hq] at h; cases h
    | some is => rw [hq] at h; cases h; rw [ofInts hq]; rfl
  | .non :: _, _, h | .bl _ :: _, _, h | .str _ :: _, _, h | .tup _ :: _, _, h | .lst _ _ :: _, _, h | .ins _ _ _ :: _, _, h | .adr _ :: _, _, h | .sql _ :: _, _, h | .exn _ _ _ :: _, _, h | .kd _ _ :: _, _, h | .dls :: _, _, h | .lls :: _, _, h | .rb _ :: _, _, h | .dct _ _ :: _, _, h | .box :: _, _, h | .slf _ :: _, _, h | .mem _ :: _, _, h => by cases h
section
variable {X : Cx} {g : Cfg} {W : WX} {ss : List Stmt} {kk : Fs} {t s : Str} {p1 p2 p3 pos cpos : Pos} {k k2 : Nat} {F : FD}
theorem pb_begun (i j : Nat) (cl : CalD X.prog X.w X.K X.mg X.base k "_law_begun" 1 F) (hr : Room k2 X.A) (hk : k ≤ k2) (hK : X.K = g.k.K) (tk : Takes X W) (hnd : X.N.Nodup) (h : ∀ x y Hs' H0s', PB X (mkG g.k.K (.draw x y) g.k.z g.n Hs' H0s') W ss kk) (hg : Gl X "_law_begun" := by rfl) (hN : X.N[j]? = some s := by rfl) (hNi : X.N[i]? = some t := by rfl)
    (hv : Vis X.env.scope s := by first | exact Or.inl rfl | exact Or.inr (Or.inl rfl) | exact Or.inr (Or.inr rfl)) (hd : (s == ("__debug__" : Str)) = false := by decide) (hcd : (s == ("__classdict__" : Str)) = false := by decide)
    (hx : Loc X.env.scope t := by first | exact Or.inl rfl | exact Or.inr rfl) (hs : swapsWith (.Call (.Name "_law_begun" p1) [.Name s p2] [] cpos) (some (.Name t p3)) pos.line X.env = pure false := by rfl)
    (hf : X.fn t = true ∨ X.env.scope.names.lookup t = some .local := by first | exact .inl rfl | exact .inr rfl | assumption)
    (he : starEach [.Name s p2] X.env = (false, eval (.Name s p2) X.env) :: starEach [] X.env := by rfl) (hpl : (backTo cpos (starEach [] X.env)).any (·.1) = false := by rfl) :
    PB X g W (.Assign [.Name t p3] (.Call (.Name "_law_begun" p1) [.Name s p2] [] cpos) pos :: ss) (kBegun i j F kk) := by
  obtain ⟨fa, fd, ps, F1, b, hm, hk'⟩ := cl.ex
  have hrest : PSs X ss (fun Dd σ H => ∃ x y Hs' H0s', TB (mkG g.k.K (.draw x y) g.k.z g.n Hs' H0s') W kk Dd σ H) := ⟨fun pins s σ H D I ⟨x, y, Hs', H0s', z⟩ => (h x y Hs' H0s').run pins s σ H D I z⟩
  refine pss_imp (pss_cons (ps_set hnd hNi hx (pe_callS F1 (hr.mono hk) hg hm hk' b (fun σ => passAt tk σ) (pa_cons (pe_var hN hv hd hcd) pa_nil he) (by decide) he hpl) hs hf) hrest) ?_
  rintro Dd σ H ⟨ρ, b0, H0, G, F2⟩
  unfold kBegun at F2
  split at F2
  · rename_i ds hj
    split at F2
    · rename_i is0 ns st bb h1 h2
      split at F2
      · rename_i is h3
        obtain ⟨v, e1, iv⟩ := G.val hj
        refine ⟨v, e1, ?_⟩
        cases iv with
        | @sql a vs ds hl il =>
          have hi0 := ofInts h1
          subst hi0
          have hvs := il.ints_inv
          subst hvs
          classical
          let z : Addr → Bool := fun c => decide (H c ≠ none)
          refine ⟨rfl, .no, z, [.sql (is0.map D.int)], bx0, H0, G.sub, fun c q => by simpa [z] using q, trivial, .cons (.sql (hK ▸ hl) (IsL.ints _)) .nil, ?_⟩
          rw [h2]
          intro l us H0' H' tt B hn h0 hH il2
          cases il2 with
          | @cons _ v1 _ vs1 i1 il2 =>
            cases il2 with
            | @cons _ v2 _ vs2 i2 il2 =>
              cases il2
              cases i2
              cases i1 with
              | @lst y ws _ _ hy hz il3 =>
                have hHy : H y = none := by simpa [z] using hz
                have e3 := ofInts h3
                subst e3
                have e4 := il3.ints_inv
                subst e4
                have hly : l ≠ y := fun q => by rw [q, hy] at h0; cases h0
                have T : Tr .no H0 H H0 H' := ⟨Same.refl _, tt.ext.trans tt.sub, tt.keep, tt.there, fun c q _ _ => q⟩
                have fr : ∀ c, InB (.draw l y) c → H c = none := by rintro c (rfl | rfl); exact hn; exact hHy
                have B' : BoxOk ⟨g.k.K, .draw l y, g.k.z⟩ H0 H' ⟨is, st, [], [], [], []⟩ := ⟨hly, G.sub.free hn, G.sub.free hHy, hH, tt.sub _ _ hy⟩
                refine ⟨l, y, H', H0, (cleanE ρ).set i (.val .box), ⟨is, st, [], [], [], []⟩, H0, (G.rebox T B').setV (.box rfl), ?_⟩
                exact FinS.rebox G T fr F2
        
      · exact F2.elim
    · exact F2.elim
  · exact F2.elim
end
end Fw
set_option Elab.async false
set_option linter.all false
set_option maxRecDepth 100000
set_option maxHeartbeats 1000000
/-! Fw11: chains of three, isinstance, text, facts of the module. -/
namespace Fw
open PySem PySem.Spec PyProof.Rows L2

/-! ### a ≤ b ≤ c ≤ d -/
def xChain3 (o1 o2 o3 : D → D → Option D) (f h j l : Fx D) : Fx D := fun ρ b => (f ρ b).bind fun x b1 => (h ρ b1).bind fun y b2 => match o1 x y with
  | some (.bl true) => (j ρ b2).bind fun z b3 => (match o2 y z with
    | some (.bl true) => (l ρ b3).bind fun u b4 => lift (o3 z u) b4
    | some (.bl false) => .ok (.bl false) b3
    | _ => .bad)
  | some (.bl false) => .ok (.bl false) b2
  | _ => .bad
section
variable {X : Cx} {g : Cfg} {W : WX} {a c e v : Expr} {f h j l : Fx D} {pos : Pos}
def tChain3 (r r' r'' : R2) (ta tb tc td : TE) : TE := fun σ H Q => ta σ H fun x H1 => tb σ H1 fun y H2 => r x y H2 fun z H3 => ∃ k, z = .bl k ∧
  (if k = true then tc σ H3 fun x3 H4 => r' y x3 H4 fun z2 H5 => ∃ k2, z2 = .bl k2 ∧ (if k2 = true then td σ H5 fun x4 H6 => r'' x3 x4 H6 Q else Q (.bl false) H5) else Q (.bl false) H3)
theorem pe_chain3 {op op' op'' : CmpOp} {r r' r'' : R2} {ta tb tc td : TE} (ho : OpR X (compareOp op) r) (ho' : OpR X (compareOp op') r') (ho'' : OpR X (compareOp op'') r'') (ha : PE X a ta) (hb : PE X c tb) (hc : PE X e tc) (hd : PE X v td)
    (hm : lastMarks [op, op', op''] [c, e, v] = false := by with_unfolding_all rfl) : PE X (.Compare a [op, op', op''] [c, e, v] pos) (tChain3 r r' r'' ta tb tc td) := by
  refine ⟨fun pins s σ H Q I hh => ?_⟩
  refine Compare_chain (thn (ha.run pins s σ H _ I hh) fun v1 s1 ⟨x, H1, I1, r1, q1⟩ => chain_link (thn (hb.run pins s1 σ H1 _ I1 q1) fun u1 s2 ⟨y, H2, I2, r2, q2⟩ =>
    thn (ho pins s2 σ H2 x y v1 u1 _ I2 r1 r2 q2) fun d1 s3 ⟨z, H3, I3, r3, k, e1, q3⟩ => ?_)) hm
  subst e1
  cases r3
  refine wpAny_truthy_bool ?_
  cases k with
  | false => exact ite_ff ⟨.bl false, H3, I3, rfl, q3⟩
  | true =>
    refine ite_tt (chain_link (thn (hc.run pins s3 σ H3 _ I3 q3) fun w1 s4 ⟨z1, H4, I4, r4, q4⟩ => thn (ho' pins s4 σ H4 y z1 u1 w1 _ I4 r2 r4 q4) fun d2 s5 ⟨z2, H5, I5, r5, k2, e2, q5⟩ => ?_))
    subst e2
    cases r5
    refine wpAny_truthy_bool ?_
    cases k2 with
    | false => exact ite_ff ⟨.bl false, H5, I5, rfl, q5⟩
    | true => exact ite_tt (chain_last (thn (hd.run pins s5 σ H5 _ I5 q5) fun w2 s6 ⟨z3, H6, I6, r6, q6⟩ => ho'' pins s6 σ H6 z1 z3 w1 w2 Q I6 r4 r6 q6))
theorem px_chain3 {op op' op'' : CmpOp} {r r' r'' : R2} {o1 o2 o3 : D → D → Option D} (ho : OpR X (compareOp op) r) (hr : OpD g.k r o1) (ho' : OpR X (compareOp op') r') (hr' : OpD g.k r' o2) (ho'' : OpR X (compareOp op'') r'') (hr'' : OpD g.k r'' o3)
    (hb : ∀ x y z, o1 x y = some z → ∃ k, z = .bl k) (hb' : ∀ x y z, o2 x y = some z → ∃ k, z = .bl k) (ha : PX X g W a f) (hc : PX X g W c h) (he : PX X g W e j) (hv : PX X g W v l)
    (hm : lastMarks [op, op', op''] [c, e, v] = false := by with_unfolding_all rfl) : PX X g W (.Compare a [op, op', op''] [c, e, v] pos) (xChain3 o1 o2 o3 f h j l) := by
  refine pe_imp (pe_chain3 ho ho' ho'' ha hc he hv hm) ?_
  rintro σ H Q ⟨ρ, b, H0, G, F⟩
  refine ⟨ρ, b, H0, G, F.bind.mono fun x b1 H01 H1 t1 B1 F1 vx ix => ⟨ρ, b1, H01, G.step t1 B1, F1.bind.mono fun y b2 H02 H2 t2 B2 F2 vy iy => ?_⟩⟩
  have G2 := (G.step t1 B1).step t2 B2
  cases h1 : o1 x y with
  | none => simp only [h1] at F2; exact F2.elim
  | some w =>
    obtain ⟨k, rfl⟩ := hb _ _ _ h1
    refine hr H02 H2 x y _ vx vy t2.sub G2.zok (ix.mono t2.ext) iy h1 _ fun v H03 H3 t3 iz => ?_
    cases iz
    refine ⟨k, rfl, ?_⟩
    have B3 := B2.keep t3
    have G3 := G2.step t3.weak B3
    simp only [h1] at F2
    cases k with
    | false =>
      refine iteF ?_
      exact F2 H03 H3 t3.weak B3 _ (.bl false)
    | true =>
      refine iteT ?_
      refine ⟨ρ, b2, H03, G3, (Fin.move F2 t3.weak).bind.mono fun z b3 H04 H4 t4 B4 F4 vz iz => ?_⟩
      have G4 := G3.step t4 B4
      have iy4 := (iy.mono t3.ext).mono t4.ext
      cases h2 : o2 y z with
      | none => simp only [h2] at F4; exact F4.elim
      | some w2 =>
        obtain ⟨k2, rfl⟩ := hb' _ _ _ h2
        refine hr' H04 H4 y z _ vy vz t4.sub G4.zok iy4 iz h2 _ fun v H05 H5 t5 iz5 => ?_
        cases iz5
        refine ⟨k2, rfl, ?_⟩
        have B5 := B4.keep t5
        have G5 := G4.step t5.weak B5
        simp only [h2] at F4
        cases k2 with
        | false =>
          refine iteF ?_
          exact F4 H05 H5 t5.weak B5 _ (.bl false)
        | true =>
          refine iteT ?_
          refine ⟨ρ, b3, H05, G5, (Fin.move F4 t5.weak).bind.mono fun u b4 H06 H6 t6 B6 F6 vu iu => ?_⟩
          have G6 := G5.step t6 B6
          cases h3 : o3 z u with
          | none => rw [h3] at F6; exact F6.elim
          | some w3 =>
            rw [h3] at F6
            exact hr'' H06 H6 z u w3 vz vu t6.sub G6.zok ((iz.mono t5.ext).mono t6.ext) iu h3 Q fun v H0' H' t iw => F6 H0' H' t.weak (B6.keep t) v iw

/-! ### isinstance(e, T), T a built-in type -/
def tyD : D → Option String
  | .non => some "NoneType"
  | .bl _ => some "bool"
  | .int _ => some "int"
  | .str _ => some "str"
  | .tup _ => some "tuple"
  | .lst _ _ => some "list"
  | _ => none
def isiD (T : String) (d : D) : Option D := (tyD d).bind fun t => (kitB t T).map D.bl
theorem tyX_of {k : Kx} {H : Hp} {d : D} {v : V} {t : String} (iv : Is k H d v) (h : tyD d = some t) : TyX k.K H v (.type t) := by
  cases iv <;> first | (cases h; done) | skip
  case non => cases h; exact .base .non
  case bl => cases h; exact .base (.bl _)
  case int => cases h; exact .base (.int _)
  case str => cases h; exact .base (.str _)
  case lst hl _ _ => cases h; exact .base (.lst hl)
  case tup hl _ =>
    cases h
    rcases hl with (hl | ⟨o, hl⟩) | ⟨o, its, n, hl, hc, _⟩
    · exact .base (.tup hl)
    · exact .fTuple hl
    · exact .kTuple hl hc
theorem px_isi {T : String} {x : Str} {p p1 : Pos} (hx : bootBuiltins x = some (.type T)) (hK : X.K = g.k.K) (he : PX X g W e f) (hg : Gl X "isinstance") (hm : X.mg "isinstance" = none) (hgx : Gl X x) (hmx : X.mg x = none)
    (hd : (x == ("__debug__" : Str)) = false) (hn : x ≠ "__name__") (hs1 : starEach [e, .Name x p1] X.env = (false, eval e X.env) :: starEach [.Name x p1] X.env := by rfl) (hs2 : starEach [.Name x p1] X.env = (false, eval (.Name x p1) X.env) :: starEach [] X.env := by rfl)
    (hpl : (backTo pos (starEach [.Name x p1] X.env)).any (·.1) = false := by rfl) : PX X g W (.Call (.Name "isinstance" p) [e, .Name x p1] [] pos) (xUn (isiD T) f) := by
  refine pe_imp (pe_callB call_isi hg hm PyProof.Rows.boot_isinstance (pa_cons he (pa_cons (pe_bltn hgx hmx hx (v := .ty T) rfl hn hd) pa_nil hs2) hs1) (by decide) (by decide) hs1 hpl) ?_
  rintro σ H Q ⟨ρ, b, H0, G, F⟩
  refine ⟨ρ, b, H0, G, F.bind.mono fun d b1 H01 H1 t1 B1 F1 v iv => ?_⟩
  unfold isiD at F1
  cases ht : tyD d with
  | none => rw [ht] at F1; exact F1.elim
  | some t =>
    rw [ht] at F1
    have F1 : Fin g W σ H01 H1 (lift ((kitB t T).map D.bl) b1) _ := F1
    cases hk : kitB t T with
    | none => rw [hk] at F1; exact F1.elim
    | some r =>
      rw [hk] at F1
      exact ⟨v, .ty T, .type t, .type T, r, rfl, .ty T, (by rw [hK]; exact tyX_of (iv.mono t1.sub) ht), kit_ty hk, F1 H01 H1 (Tr.refl t1.sub) B1 _ (.bl r)⟩

/-! ### text -/
def str1 : List D → Option D
  | [.int i] => if -1000000 ≤ i ∧ i ≤ 1000000 then some (.str (toString i)) else none
  | _ => none
theorem log_small {i : Int} (h : -1000000 ≤ i ∧ i ≤ 1000000) : i.natAbs.log2 < 1920 := by
  by_cases h0 : i.natAbs = 0
  · rw [h0]; decide
  · refine (Nat.log2_lt h0).2 (Nat.lt_of_lt_of_le (show i.natAbs < 2 ^ 20 by omega) (Nat.pow_le_pow_right (by decide) (by decide)))
theorem cld_str {k : Kx} : ClD k (fun xs H Q => ∃ i, xs = [.int i] ∧ i.natAbs.log2 < 1920 ∧ Q (.str (toString i)) H) str1 := by
  intro H0 H xs z vs e zo il h Q q
  unfold str1 at h
  split at h
  · split at h
    · rename_i hz
      cases h
      cases il with
      | cons i l => cases l; cases i; exact ⟨_, rfl, log_small hz, q _ H0 H (Tr.refl e) (.str _)⟩
    · cases h
  · cases h
def strOf : D → Option Str
  | .str x => some x
  | _ => none
def strsOf : List D → Option (List Str)
  | [] => some []
  | d :: ds => (strOf d).bind fun i => (strsOf ds).map fun is => i :: is
theorem strsOf_is {k : Kx} {H : Hp} : ∀ {ds : List D} {vs : List V} {ns : List Str}, IsL k H ds vs → strsOf ds = some ns → vs = ns.map V.str
  | _, _, _, .nil, h => by cases h; rfl
  | _, _, ns, .cons (d := d) (ds := ds) hi hl, h => by
    have h : ((strOf d).bind fun i => (strsOf ds).map fun is => i :: is) = some ns := h
    cases hi with
    | str i =>
      have h : ((strsOf ds).map fun is => i :: is) = some ns := h
      cases hq : strsOf ds with
      | none => rw [hq] at h; cases h
      | some is => rw [hq] at h; cases h; rw [strsOf_is hl hq]; rfl
    | _ => cases h
def xM1 (o : Str → D → Option D) (f h : Fx D) : Fx D := fun ρ b => (f ρ b).bind fun d b1 => match d with
  | .str a => (h ρ b1).bind fun c b2 => lift (o a c) b2
  | _ => .bad
def joinD (a : Str) : D → Option D
  | .lst _ ds => (strsOf ds).bind fun ys => if (ys.map (·.length)).sum + ys.length * a.length ≤ 1000000 then some (.str (Txt.join a ys)) else none
  | _ => none
theorem px_join {o : Expr} {h : Fx D} {apos : Pos} (hK : X.K = g.k.K) (ho : PX X g W o f) (he : PX X g W e h) (hs : starEach [e] X.env = [(false, eval e X.env)] := by rfl) (hbase : attributeBase o "join" X.env (eval o X.env) = eval o X.env := by rfl) (hline : (apos.endLine == pos.line) = true := by rfl) :
    PX X g W (.Call (.Attribute o "join" apos) [e] [] pos) (xM1 joinD f h) := by
  refine pe_imp (pe_join ho he hs hbase hline) ?_
  rintro σ H Q ⟨ρ, b, H0, G, F⟩
  refine ⟨ρ, b, H0, G, F.bind.mono fun d b1 H01 H1 t1 B1 F1 v iv => ?_⟩
  cases iv with
  | str a =>
    refine ⟨⟨a, rfl⟩, ρ, b1, H01, G.step t1 B1, F1.bind.mono fun c b2 H02 H2 t2 B2 F2 u iu => ?_⟩
    cases iu with
    | lst hl _ il =>
      rename_i l vs ds zz qq
      have F2 : Fin g W σ H02 H2 (lift ((strsOf ds).bind fun ys => if (ys.map (·.length)).sum + ys.length * a.length ≤ 1000000 then some (D.str (Txt.join a ys)) else none) b2) _ := F2
      cases hy : strsOf ds with
      | none => rw [hy] at F2; exact F2.elim
      | some ys =>
        rw [hy] at F2
        have F2 : Fin g W σ H02 H2 (lift (if (ys.map (·.length)).sum + ys.length * a.length ≤ 1000000 then some (D.str (Txt.join a ys)) else none) b2) _ := F2
        split at F2
        · rename_i hz
          have e1 := strsOf_is il hy
          subst e1
          exact ⟨a, l, ys, rfl, rfl, .inl (.inl (.inl (t2.sub _ _ hl))), by omega, F2 H02 H2 (Tr.refl t2.sub) B2 _ (.str _)⟩
        · exact F2.elim
    | _ => exact F2.elim
  | _ => exact F1.elim
def splitD (a : Str) : D → Option (List D)
  | .str b => if (b.length == 0) = false ∧ a.length + 2 ≤ 100000 then some ((Txt.split a b).map .str) else none
  | _ => none
/-- facts of the module that every def may lean on -/
theorem px_gint {x : Str} {n : Int} (hm : ∃ t, X.mg x = some (.int n t)) (hg : Gl X x := by rfl) (hd : (x == ("__debug__" : Str)) = false := by decide) : PX X g W (.Name x pos) (xC (.int n)) := by
  obtain ⟨t, hm⟩ := hm
  exact px_glob (v := .int n) hg hm ⟨t, rfl⟩ (fun _ _ => .int n) hd
theorem op_geD : OpR X (compareOp .GtE) (rI0 fun i j => .bl (decide (j ≤ i))) := op_ge
end
/-- the built-ins' names stand free -/
structure Bi (mg : Str → Option Value) : Prop where
  b_len : mg "len" = none
  b_range : mg "range" = none
  b_enumerate : mg "enumerate" = none
  b_min : mg "min" = none
  b_max : mg "max" = none
  b_int : mg "int" = none
  b_str : mg "str" = none
  b_list : mg "list" = none
  b_tuple : mg "tuple" = none
  b_sum : mg "sum" = none
  b_sorted : mg "sorted" = none
  b_bool : mg "bool" = none
  b_isinstance : mg "isinstance" = none
end Fw
namespace Fw
open PySem PySem.Spec PyProof.Rows L2
section
variable {P : Program} {w : World} {K : PySem.W.Frag} {mg : Str → Option Value} {base : Heap}
/-- of a def that calls itself: at level 0 nothing is promised -/
theorem calD0 {x qual : Str} {st : Stmt} {f : Addr} {fd : FuncData} {N ps : List Str} (F : Fun K x qual st f fd) (S : FnScope N ps (defScope st)) (hm : mg x = some (.ref f)) (b : Binds K fd ps []) : CalD P w K mg base 0 x ps.length (fun _ _ => .bad) :=
  ⟨⟨f, fd, ps, ⟨fun vs H Q E h => h.1, fun A stack s H args us vs Q E hr e b r h => by
    obtain ⟨_, bx, z, ds, bb, H0, _, _, _, _, post⟩ := h
    exact post.elim⟩, b, hm, F.kp⟩⟩
end
end Fw
set_option Elab.async false
set_option linter.all false
set_option maxRecDepth 100000
set_option maxHeartbeats 1000000
/-! Fw12: in, split, a dict of lists. -/
namespace Fw
open PySem PySem.Spec PyProof.Rows L2

/-! ### x in flat items -/
def flatOf : D → Option V
  | .non => some .non
  | .bl b => some (.bl b)
  | .int i => some (.int i)
  | .str x => some (.str x)
  | _ => none
def flatsOf : List D → Option (List V)
  | [] => some []
  | d :: ds => (flatOf d).bind fun v => (flatsOf ds).map fun vs => v :: vs
theorem flatOf_is {k : Kx} {H : Hp} {d : D} {v u : V} (i : Is k H d v) (h : flatOf d = some u) : v = u ∧ flatV u = true := by
  cases i <;> first | (cases h; done) | (cases h; exact ⟨rfl, rfl⟩)
theorem flatsOf_is {k : Kx} {H : Hp} : ∀ {ds : List D} {vs us : List V}, IsL k H ds vs → flatsOf ds = some us → vs = us ∧ us.all flatV = true
  | _, _, _, .nil, h => by cases h; exact ⟨rfl, rfl⟩
  | _, _, us, .cons (d := d) (ds := ds) hi hl, h => by
    have h : ((flatOf d).bind fun v => (flatsOf ds).map fun vs => v :: vs) = some us := h
    cases hd : flatOf d with
    | none => rw [hd] at h; cases h
    | some w =>
      rw [hd] at h
      cases hq : flatsOf ds with
      | none => rw [hq] at h; cases h
      | some ws =>
        rw [hq] at h
        cases h
        obtain ⟨e1, f1⟩ := flatOf_is hi hd
        obtain ⟨e2, f2⟩ := flatsOf_is hl hq
        exact ⟨by rw [e1, e2], by rw [List.all_cons, f1, f2]; rfl⟩
def inF (neg : Bool) (x y : D) : Option D := (match y with
  | .lst _ ys => some ys
  | .tup ys => some ys
  | _ => none).bind fun ys => (flatOf x).bind fun v => (flatsOf ys).map fun vs => .bl (if neg then !inV v vs else inV v vs)
theorem opd_inF {k : Kx} (neg : Bool) : OpD k (rIn k.K neg) (inF neg) := by
  intro H0 H x y z vx vy e zo ix iy h Q q
  have key : ∀ {a : Addr} {ys : List D} {ws : List V}, (SqL k.K H a ws ∨ SqT k.K H a ws) → IsL k H0 ys ws → ((flatOf x).bind fun v => (flatsOf ys).map fun vs => D.bl (if neg then !inV v vs else inV v vs)) = some z → rIn k.K neg vx (.ref a) H Q := by
    intro a ys ws hs il h
    cases hd : flatOf x with
    | none => rw [hd] at h; cases h
    | some w =>
      rw [hd] at h
      cases hq : flatsOf ys with
      | none => rw [hq] at h; cases h
      | some us =>
        rw [hq] at h
        cases h
        obtain ⟨e1, f1⟩ := flatOf_is ix hd
        obtain ⟨e2, f2⟩ := flatsOf_is il hq
        subst e1 e2
        exact ⟨a, ws, rfl, hs, f1, f2, q _ H0 H (Tr.refl e) (.bl _)⟩
  cases iy <;> first | (cases h; done) | skip
  case lst hl _ il => exact key (.inl (.inl (.inl (e _ _ hl)))) il h
  case tup hl il => exact key (.inr (same_t e hl)) il h
/-- a text in a text -/
def inStr (neg : Bool) : D → D → Option D
  | .str i, .str j => some (.bl (if neg then !(!(Builtin.Str.occurrences j i 0 j.length 1).isEmpty) else !(Builtin.Str.occurrences j i 0 j.length 1).isEmpty))
  | _, _ => none
theorem opd_notInStr {k : Kx} : OpD k (fun x y H Q => ∃ i j, x = .str i ∧ y = .str j ∧ Q (.bl (!(!(Builtin.Str.occurrences j i 0 j.length 1).isEmpty))) H) (inStr true) := by
  intro H0 H x y z vx vy e zo ix iy h Q q
  cases ix <;> cases iy <;> first | (cases h; done) | skip
  cases h
  exact ⟨_, _, rfl, rfl, q _ H0 H (Tr.refl e) (.bl _)⟩
/-- int(text) -/
def int2 : List D → Option D
  | [.str a] => if a.length ≤ 640 then (PySem.intText? a).map .int else none
  | _ => none
theorem cld_int2 {k : Kx} : ClD k (fun xs H Q => ∃ a n, xs = [.str a] ∧ PySem.intText? a = some n ∧ a.length ≤ 640 ∧ Q (.int n) H) int2 := by
  intro H0 H xs z vs e zo il h Q q
  unfold int2 at h
  split at h
  · rename_i a
    split at h
    · rename_i hz
      cases hn : PySem.intText? a with
      | none => rw [hn] at h; cases h
      | some n =>
        rw [hn] at h
        cases h
        cases il with
        | cons i l => cases l; cases i; exact ⟨a, n, rfl, hn, hz, q _ H0 H (Tr.refl e) (.int _)⟩
    · cases h
  · cases h

section
variable {X : Cx} {g : Cfg} {W : WX} {e o : Expr} {es : List Expr} {f h : Fx D} {x : Str} {pos p p1 p2 p3 apos cpos : Pos} {ss : List Stmt} {kk : Fs} {j : Nat}
/-- a.split(b): a new list -/
def xSplit (f h : Fx D) : Fx (List D) := fun ρ b => (f ρ b).bind fun d b1 => match d with
  | .str a => (h ρ b1).bind fun c b2 => lift (splitD a c) b2
  | _ => .bad
theorem IsL.strs {k : Kx} {H : Hp} : ∀ (ns : List Str), IsL k H (ns.map D.str) (ns.map V.str)
  | [] => .nil
  | n :: ns => .cons (.str n) (IsL.strs ns)
theorem po_split (ho : PX X g W o f) (he : PX X g W e h) (hs : starEach [e] X.env = [(false, eval e X.env)] := by rfl) (hbase : attributeBase o "split" X.env (eval o X.env) = eval o X.env := by rfl) (hline : (apos.endLine == pos.line) = true := by rfl) :
    PN X g W (.Call (.Attribute o "split" apos) [e] [] pos) (xSplit f h) := by
  refine pe_imp (pe_split ho he hs hbase hline) ?_
  rintro σ H Q ⟨ρ, b, H0, G, F⟩
  refine ⟨ρ, b, H0, G, F.bind.mono fun d b1 H01 H1 t1 B1 F1 v iv => ?_⟩
  cases iv with
  | str a =>
    refine ⟨⟨a, rfl⟩, ρ, b1, H01, G.step t1 B1, F1.bind.mono fun c b2 H02 H2 t2 B2 F2 u iu => ?_⟩
    cases iu with
    | str c =>
      have F2 : Fin g W σ H02 H2 (lift (if (c.length == 0) = false ∧ a.length + 2 ≤ 100000 then some ((Txt.split a c).map D.str) else none) b2) _ := F2
      split at F2
      · rename_i hz
        refine ⟨a, c, rfl, rfl, hz.1, Nat.le_trans hz.2 (by decide), ?_⟩
        intro p hp
        have ta := Tr.allocO (o := .lst ((Txt.split a c).map V.str)) t2.sub hp
        refine F2 _ _ ta.weak (B2.keep ta) p _ ?_ (t2.sub.free hp) upd_same (IsL.strs _)
        cases q : H p with
        | none => rfl
        | some u => exact absurd hp (t2.there p (t1.there p (by rw [q]; simp)))
      · exact F2.elim
    | _ => exact F2.elim
  | _ => exact F1.elim
/-- a tuple of texts of the module -/
def TupC (K : PySem.W.Frag) (mg : Str → Option Value) (x : Str) (ns : List Str) : Prop := ∃ a, mg x = some (.ref a) ∧ ∃ (o : Obj) (its : Array Value) (n : Nat), K.lookup a = some o ∧ o.cls = .type "tuple" ∧ o.dict = none ∧ o.data = .seq its n ∧ its.size ≤ sizeLine ∧ Vals (ns.map V.str) its.toList
theorem px_gtup {ns : List Str} (hm : TupC X.K X.mg x ns) (hK : X.K = g.k.K) (hg : Gl X x := by rfl) (hd : (x == ("__debug__" : Str)) = false := by decide) :
    PX X g W (.Name x pos) (xC (.tup (ns.map .str))) := by
  obtain ⟨a, hm, o, its, n, h1, h2, h3, h4, h5, h6⟩ := hm
  refine pe_imp (pe_glob (v := .ref a) hg hm rfl hd) ?_
  rintro σ H Q ⟨ρ, b, H0, G, F⟩
  exact F H0 H (Tr.refl G.sub) G.box _ (.tup (.inr ⟨o, its, n, hK ▸ h1, h2, h4, h5, h6⟩) (IsL.strs ns))
def xTidx (ns : List Str) (f : Fx D) : Fx D := fun ρ b => (f ρ b).bind fun d b1 => match d with
  | .str z => (match ns.findIdx? (fun y => decide (y = z)) with
    | some j => .ok (.int j) b1
    | none => .bad)
  | _ => .bad
theorem px_tidx {ns : List Str} (hm : TupC X.K X.mg x ns) (he : PX X g W e f) (hg : Gl X x := by rfl) (hd : (x == ("__debug__" : Str)) = false := by decide)
    (hbase : attributeBase (.Name x p) "index" X.env (eval (.Name x p) X.env) = eval (.Name x p) X.env := by rfl)
    (hfew : ((backTo pos (starEach [e] X.env)).all (fun x => !x.1) && (backToKw pos (keywordEach [] X.env)).all (fun x => x.1.isSome) && decide (([e] : List Expr).length + ([] : List Keyword).length + (if ([] : List Keyword).isEmpty then 0 else 1) < 30)) = true := by rfl)
    (hline : (apos.endLine == pos.line) = true := by rfl) (hs : starEach [e] X.env = (false, eval e X.env) :: starEach [] X.env := by rfl) (hplain : (backTo pos (starEach [] X.env)).any (·.1) = false := by rfl) :
    PX X g W (.Call (.Attribute (.Name x p) "index" apos) [e] [] pos) (xTidx ns f) := by
  obtain ⟨a, hm, o, its, n, h1, h2, h3, h4, h5, h6⟩ := hm
  refine pe_imp (pe_bm PySem.F.plainAttrs_tuple PySem.F.slot_tuple_index PySem.F.type_tuple_index mt_tup_index (pe_glob (v := .ref a) hg hm rfl hd) (pa_cons he pa_nil hs) hbase hfew hline hs hplain) ?_
  rintro σ H Q ⟨ρ, b, H0, G, F⟩
  refine ⟨.inr (.inl ⟨rfl, o, h1, h2, h3⟩), ρ, b, H0, G, F.bind.mono fun d b1 H01 H1 t1 B1 F1 v iv => ?_⟩
  cases iv with
  | str z =>
    dsimp only at F1
    cases hj : ns.findIdx? (fun y => decide (y = z)) with
    | none => rw [hj] at F1; exact F1.elim
    | some j =>
      rw [hj] at F1
      obtain ⟨hlt, h7, h8⟩ := List.findIdx?_eq_some_iff_getElem.mp hj
      refine ⟨a, ns, z, j, rfl, rfl, .inr ⟨o, its, n, h1, h2, h4, h5, h6⟩, ?_, fun m hm q => ?_, F1 H01 H1 (Tr.refl t1.sub) B1 _ (.int _)⟩
      · rw [List.getElem?_eq_getElem hlt]; exact congrArg some (of_decide_eq_true h7)
      · have hml : m < ns.length := Nat.lt_trans hm hlt
        rw [List.getElem?_eq_getElem hml] at q
        have := h8 m hm
        simp only [Option.some.inj q, decide_true, Bool.not_true] at this
        exact absurd this (by decide)
  | _ => exact F1.elim
theorem px_gstr {v : Str} (hm : ∃ t, X.mg x = some (.str v t)) (hg : Gl X x := by rfl) (hd : (x == ("__debug__" : Str)) = false := by decide) : PX X g W (.Name x pos) (xC (.str v)) := by
  obtain ⟨t, hm⟩ := hm
  exact px_glob (v := .str v) hg hm ⟨t, rfl⟩ (fun _ _ => .str v) hd
def idxT (x : D) : List D → Option D
  | [.str z] => (match x with
    | .tup ds => (strsOf ds).bind fun ys => (ys.findIdx? (· == z)).map fun j => .int j
    | _ => none)
  | _ => none

/-! ### a dict of three lists that grow -/
def isDls (ρ : En) (i : Nat) : Bool := match ρ[i]? with
  | some (.val .dls) => true
  | _ => false
theorem Good.dls {ρ : En} {b : Bx} {σ : L2.St} {H H0 : Hp} (G : Good g ρ b σ H H0) {i : Nat} (h : isDls ρ i = true) : ∃ a ls, g.bx = .dls a ls ∧ σ[i]? = some (some (.ref a)) ∧ H0 a = none ∧ a ∉ ls ∧ ls.Nodup ∧ b.fs.length = ls.length ∧ H a = some (.dK (kvD b.fs (ls.map V.ref))) ∧ DL g.k H0 H ls b.ls := by
  unfold isDls at h
  split at h
  · rename_i e
    obtain ⟨v, e1, iv⟩ := G.val e
    cases iv with
    | dls hb =>
      have B := G.box
      unfold BoxOk at B
      rw [hb] at B
      exact ⟨_, _, hb, e1, B⟩
  · cases h
def b3 (ks : List Str) : Bx := ⟨[], 0, ks, [], [], [[], [], []]⟩
def kDls (i : Nat) (ks : List Str) (kk : Fs) : Fs := fun ρ b => outBack b (kk ((cleanE ρ).set i (.val .dls)) (b3 ks))
theorem pb_dls3 (i : Nat) {t k1 k2 k3 : Str} {i1 i2 i3 : Nat} {q1 q2 q3 l1 l2 l3 dpos tpos : Pos} (hnd : X.N.Nodup) (hk12 : k1 ≠ k2) (hk13 : k1 ≠ k3) (hk23 : k2 ≠ k3)
    (h : ∀ a ls Hs' H0s', PB X (mkG g.k.K (.dls a ls) g.k.z g.n Hs' H0s') W ss kk) (hNi : X.N[i]? = some t := by rfl) (hx : Loc X.env.scope t := by first | exact Or.inl rfl | exact Or.inr rfl)
    (hs : swapsWith (.Dict [some (.Constant (.str k1) i1 q1), some (.Constant (.str k2) i2 q2), some (.Constant (.str k3) i3 q3)] [.List [] l1, .List [] l2, .List [] l3] dpos) (some (.Name t tpos)) pos.line X.env = pure false := by rfl)
    (hf : X.fn t = true ∨ X.env.scope.names.lookup t = some .local := by first | exact .inl rfl | exact .inr rfl | assumption) :
    PB X g W (.Assign [.Name t tpos] (.Dict [some (.Constant (.str k1) i1 q1), some (.Constant (.str k2) i2 q2), some (.Constant (.str k3) i3 q3)] [.List [] l1, .List [] l2, .List [] l3] dpos) pos :: ss) (kDls i [k1, k2, k3] kk) := by
  have hrest : PSs X ss (fun Dd σ H => ∃ a ls Hs' H0s', TB (mkG g.k.K (.dls a ls) g.k.z g.n Hs' H0s') W kk Dd σ H) := ⟨fun pins s σ H D I ⟨a, ls, Hs', H0s', z⟩ => (h a ls Hs' H0s').run pins s σ H D I z⟩
  refine pss_imp (pss_cons (ps_set hnd hNi hx (pe_disp (pps_cons pe_str (pe_lst pa_nil) (pps_cons pe_str (pe_lst pa_nil) (pps_cons pe_str (pe_lst pa_nil) pps_nil))) rfl rfl (by simp) (by simp)) hs hf) hrest) ?_
  rintro Dd σ H ⟨ρ, b, H0, G, F⟩
  intro a ha
  refine ⟨by decide, fun p1 h1 => ⟨by decide, fun p2 h2 => ⟨by decide, fun p3 h3 => ?_⟩⟩⟩
  have n1 : a ≠ p1 := fun q => by subst q; rw [upd_same] at h1; cases h1
  rw [upd_ne (Ne.symm n1)] at h1
  have n2 : p1 ≠ p2 := fun q => by subst q; rw [upd_same] at h2; cases h2
  have n2' : a ≠ p2 := fun q => by subst q; rw [upd_ne n1, upd_same] at h2; cases h2
  rw [upd_ne (Ne.symm n2), upd_ne (Ne.symm n2')] at h2
  have n3 : p2 ≠ p3 := fun q => by subst q; rw [upd_same] at h3; cases h3
  have n3' : p1 ≠ p3 := fun q => by subst q; rw [upd_ne n2, upd_same] at h3; cases h3
  have n3'' : a ≠ p3 := fun q => by subst q; rw [upd_ne n2', upd_ne n1, upd_same] at h3; cases h3
  rw [upd_ne (Ne.symm n3), upd_ne (Ne.symm n3'), upd_ne (Ne.symm n3'')] at h3
  refine ⟨by rw [upd_ne n3'', upd_ne n2', upd_ne n1, upd_same], [(.inr k1, .ref p1), (.inr k2, .ref p2), (.inr k3, .ref p3)], rfl, by simp, ?_⟩
  have em : mergeK [] [(Sum.inr k1, V.ref p1), (.inr k2, .ref p2), (.inr k3, .ref p3)] = [(.inr k1, V.ref p1), (.inr k2, .ref p2), (.inr k3, .ref p3)] := by
    simp [mergeK, putK, hk12, hk13, hk23]
  rw [em]
  let H2 := L2.upd (L2.upd (L2.upd (L2.upd (L2.upd H a (.dK [])) p1 (.lst [])) p2 (.lst [])) p3 (.lst [])) a (.dK [(.inr k1, V.ref p1), (.inr k2, .ref p2), (.inr k3, .ref p3)])
  have kp : ∀ c u, H c = some u → H2 c = some u := fun c u q => by
    show L2.upd _ _ _ c = _
    rw [upd_ne (ne_of_none q ha), upd_ne (ne_of_none q h3), upd_ne (ne_of_none q h2), upd_ne (ne_of_none q h1), upd_ne (ne_of_none q ha)]; exact q
  have T : Tr .no H0 H H0 H2 := ⟨Same.refl _, fun c u q => kp c u (G.sub c u q), fun c u q _ => kp c u q, fun c n => by
    cases hc : H c with
    | none => exact absurd hc n
    | some u => rw [kp c u hc]; simp, fun c q _ _ => q⟩
  have z0 : ∀ {c}, H c = none → g.k.z c = false := fun q => G.zok.new q
  have B' : BoxOk ⟨g.k.K, .dls a [p1, p2, p3], g.k.z⟩ H0 H2 (b3 [k1, k2, k3]) := by
    refine ⟨G.sub.free ha, by simp [n1, n2', n3''], by simp [n2, n3, n3'], rfl, by show L2.upd _ _ _ a = _; rw [upd_same]; rfl, ⟨z0 h1, G.sub.free h1, [], ?_, .nil⟩, ⟨z0 h2, G.sub.free h2, [], ?_, .nil⟩, ⟨z0 h3, G.sub.free h3, [], ?_, .nil⟩, trivial⟩
    · show L2.upd _ _ _ p1 = _
      rw [upd_ne (Ne.symm n1), upd_ne n3', upd_ne n2, upd_same]
    · show L2.upd _ _ _ p2 = _
      rw [upd_ne (Ne.symm n2'), upd_ne n3, upd_same]
    · show L2.upd _ _ _ p3 = _
      rw [upd_ne (Ne.symm n3''), upd_same]
  have fr : ∀ c, InB (.dls a [p1, p2, p3]) c → H c = none := by
    rintro c (rfl | i)
    · exact ha
    · simp only [List.mem_cons, List.not_mem_nil, or_false] at i
      rcases i with rfl | rfl | rfl <;> assumption
  refine ⟨a, [p1, p2, p3], H2, H0, (cleanE ρ).set i (.val .dls), b3 [k1, k2, k3], H0, (G.rebox T B').setV (.dls rfl), ?_⟩
  exact FinS.rebox G T fr F
end
end Fw
set_option Elab.async false
set_option linter.all false
set_option maxRecDepth 100000
set_option maxHeartbeats 1000000
/-! Fw13: reading and changing a dict of lists; the dict that stands. -/
namespace Fw
open PySem PySem.Spec PyProof.Rows L2

def getL : List Str → List (List D) → Str → Option (List D)
  | f :: fs, ds :: dss, key => if f = key then some ds else getL fs dss key
  | _, _, _ => none
def appL : List Str → List (List D) → Str → D → List (List D)
  | f :: fs, ds :: dss, key, d => if f = key then (ds ++ [d]) :: dss else ds :: appL fs dss key d
  | _, dss, _, _ => dss
theorem DL.out {k : Kx} {H0 H : Hp} {l : Addr} {o : HO} : ∀ {ls : List Addr} {dss : List (List D)}, DL k H0 H ls dss → l ∉ ls → DL k H0 (L2.upd H l o) ls dss := fun {ls dss} h n =>
  h.move (Same.refl _) (fun c hc => (h.there hc).1) fun c u hc e => by rw [upd_ne (fun q => by subst q; exact n hc)]; exact e
theorem DL.pick {k : Kx} {H0 H : Hp} {key : Str} {ds : List D} : ∀ {fs : List Str} {ls : List Addr} {dss : List (List D)}, DL k H0 H ls dss → ls.Nodup → fs.length = ls.length → getL fs dss key = some ds →
    ∃ l vs, l ∈ ls ∧ valV (kvD fs (ls.map V.ref)) (.inr key) = some (.ref l) ∧ H0 l = none ∧ H l = some (.lst vs) ∧ IsL k H0 ds vs ∧ ∀ d v, Is k H0 d v → DL k H0 (L2.upd H l (.lst (vs ++ [v]))) ls (appL fs dss key d)
  | [], _, _, _, _, _, h => by cases h
  | f :: fs, [], _, _, _, hl, _ => by cases hl
  | f :: fs, l :: ls, [], h, _, _, _ => h.elim
  | f :: fs, l :: ls, es :: dss, ⟨⟨hz, h0, vs, h1, h2⟩, r⟩, nd, hl, h => by
    obtain ⟨n1, n2⟩ := List.nodup_cons.mp nd
    unfold getL at h
    by_cases hf : f = key
    · rw [if_pos hf] at h
      cases h
      refine ⟨l, vs, List.mem_cons_self, valV_pos (by show Sum.inr f = Sum.inr key; rw [hf]), h0, h1, h2, fun d v iv => ?_⟩
      unfold appL
      rw [if_pos hf]
      exact ⟨⟨hz, h0, _, upd_same, h2.app (.cons iv .nil)⟩, r.out n1⟩
    · rw [if_neg hf] at h
      obtain ⟨l', vs', m, e1, g0, g1, g2, g3⟩ := DL.pick r n2 (by simpa using hl) h
      refine ⟨l', vs', List.mem_cons_of_mem _ m, ?_, g0, g1, g2, fun d v iv => ?_⟩
      · rw [show kvD (f :: fs) ((l :: ls).map V.ref) = (Sum.inr f, V.ref l) :: kvD fs (ls.map V.ref) from rfl, valV_neg (by show ¬ Sum.inr f = Sum.inr key; intro q; cases q; exact hf rfl)]
        exact e1
      · unfold appL
        rw [if_neg hf]
        have ne : l ≠ l' := fun q => by subst q; exact n1 m
        exact ⟨⟨hz, h0, vs, by rw [upd_ne ne]; exact h1, h2⟩, g3 d v iv⟩
theorem appL_len : ∀ {fs : List Str} {dss : List (List D)} {key : Str} {d : D}, (appL fs dss key d).length = dss.length
  | [], _, _, _ => rfl
  | _ :: _, [], _, _ => rfl
  | f :: fs, ds :: dss, key, d => by
    unfold appL
    split
    · rfl
    · simp [appL_len (fs := fs)]

def xDNil (neg : Bool) (i : Nat) (key : Str) : Fx D := fun ρ b => if isDls ρ i then (match getL b.fs b.ls key with
  | some ds => (match toPys ds with
    | some ps => if SeqAt.shaped (.list ps) = true then .ok (.bl (neg != ds.isEmpty)) b else .bad
    | none => .bad)
  | none => .bad) else .bad
def xDLen (i : Nat) (key : Str) : Fx D := fun ρ b => if isDls ρ i then (match getL b.fs b.ls key with
  | some ds => .ok (.int ds.length) b
  | none => .bad) else .bad
def kDApp (i : Nat) (fk fe : Fx D) : Fs := fun ρ b => if isDls ρ i = true then (fk ρ b).out fun kd b1 => match kd with
  | .str key => (match getL b1.fs b1.ls key with
    | some _ => (fe ρ b1).out fun d b2 => (match getL b2.fs b2.ls key with
      | some ds => if b2.fs = b1.fs ∧ ds.length < 100000 then .nx ρ { b2 with ls := appL b2.fs b2.ls key d } else .bad
      | none => .bad)
    | none => .bad)
  | _ => .bad
  else .bad
theorem eqv_nil : ∀ ps : List PyData, PyData.eqv (.list ps) (.list []) = ps.isEmpty
  | [] => rfl
  | _ :: _ => rfl
theorem toPys_empty : ∀ {ds : List D} {ps : List PyData}, toPys ds = some ps → ps.isEmpty = ds.isEmpty
  | [], _, h => by cases h; rfl
  | d :: ds, ps, h => by
    have h : ((toPy d).bind fun x => (toPys ds).map fun xs => x :: xs) = some ps := h
    cases hq : toPy d with
    | none => rw [hq] at h; cases h
    | some p =>
      rw [hq] at h
      cases hr : toPys ds with
      | none => rw [hr] at h; cases h
      | some qs => rw [hr] at h; cases h; rfl
section
variable {X : Cx} {g : Cfg} {W : WX} {e : Expr} {es : List Expr} {f h : Fx D} {x key : Str} {pos p p1 p2 p3 apos cpos : Pos} {ss : List Stmt} {kk : Fs} {j : Nat}
/-- found[key], the list there -/
theorem dls_get {ρ : En} {b : Bx} {σ : L2.St} {H H0 : Hp} {i : Nat} {ds : List D} (G : Good g ρ b σ H H0) (hi : isDls ρ i = true) (h : getL b.fs b.ls key = some ds) :
    ∃ a l vs, σ[i]? = some (some (.ref a)) ∧ DGet H a (.str key) (some (.ref l)) ∧ InB g.bx l ∧ H0 l = none ∧ H l = some (.lst vs) ∧ IsL g.k H0 ds vs ∧ (∃ ls, g.bx = .dls a ls ∧ valV (kvD b.fs (ls.map V.ref)) (.inr key) = some (.ref l)) ∧ ∀ d v, Is g.k H0 d v → BoxOk g.k H0 (L2.upd H l (.lst (vs ++ [v]))) { b with ls := appL b.fs b.ls key d } := by
  obtain ⟨a, ls, e1, e2, e3, e4, e5, e6, e7, e8⟩ := G.dls hi
  obtain ⟨l, vs, m, v1, h0, h1, h2, h3⟩ := e8.pick e5 e6 h
  refine ⟨a, l, vs, e2, ?_, by rw [e1]; exact .inr m, h0, h1, h2, ⟨ls, e1, v1⟩, fun d v iv => ?_⟩
  · have q := DGet.k (k := Sum.inr key) e7
    rw [v1] at q
    exact q
  · unfold BoxOk
    rw [show g.k.bx = _ from e1]
    have ne : a ≠ l := fun q => by subst q; exact e4 m
    exact ⟨e3, e4, e5, e6, by rw [upd_ne ne]; exact e7, h3 d v iv⟩
theorem tx_dNil {neg : Bool} (i : Nat) (hK : X.K = g.k.K) {r : R2} (hr : ∀ x y H Q, (∃ d c, Dp X.K H x d ∧ Dp X.K H y c ∧ SeqAt.shaped d = true ∧ SeqAt.shaped c = true ∧ Q (.bl (neg != PyData.eqv d c)) H) → r x y H Q) {σ : L2.St} {H : Hp} {Q : VK}
    (zz : TX g W (xDNil neg i key) σ H Q) : tOp r (tDGet (tVar i) (tC (.str key))) (tLst tNil) σ H Q := by
  obtain ⟨ρ, b, H0, G, F⟩ := zz
  unfold xDNil at F
  split at F
  · rename_i hb
    cases hg : getL b.fs b.ls key with
    | none => simp only [hg] at F; exact F.elim
    | some ds =>
      simp only [hg] at F
      cases hp : toPys ds with
      | none => simp only [hp] at F; exact F.elim
      | some ps =>
        simp only [hp] at F
        split at F
        · rename_i hs
          obtain ⟨a, l, vs, e1, e2, e3, e4, e5, e6, _, _⟩ := dls_get G hb hg
          refine ⟨_, e1, a, _, rfl, e2, by decide, fun q hq => ?_⟩
          have ta := Tr.allocO (o := .lst []) G.sub hq
          refine hr _ _ _ _ ⟨.list ps, .list [], .lst (.inl (.inl (by rw [upd_ne (ne_of_none e5 hq)]; exact e5))) ?_, .lst (.inl (.inl upd_same)) .nil, hs, by decide, ?_⟩
          · rw [hK]; exact dps_of (e6.mono ta.sub) hp
          · rw [eqv_nil, toPys_empty hp]
            exact F H0 _ ta.weak (G.box.keep ta) _ (.bl _)
        · exact F.elim
  · exact F.elim
theorem plainC : NoSl (.Constant (.str key) j pos) := fun _ _ => rfl
theorem px_dEq (i : Nat) (hK : X.K = g.k.K) (hu : X.A.units + 64 < cLine) (hN : X.N[i]? = some x := by rfl) (hv : Vis X.env.scope x := by first | exact Or.inl rfl | exact Or.inr (Or.inl rfl) | exact Or.inr (Or.inr rfl)) (hd : (x == ("__debug__" : Str)) = false := by decide)
    (hcd : (x == ("__classdict__" : Str)) = false := by decide) : PQ X g W (.Compare (.Subscript (.Name x p) (.Constant (.str key) j p1) p2) [.Eq] [.List [] p3] pos) (xT (xDNil false i key)) :=
  pt_imp (pt_cmpR (op_eqD hu) (pe_dget (by omega) (pe_var hN hv hd hcd) pe_str plainC) (pe_lst pa_nil) (nomark _)) fun _ _ _ => tt_test fun _ _ _ => tx_dNil i hK fun _ _ _ _ ⟨d, c, h1, h2, h3, h4, q⟩ => ⟨d, c, h1, h2, h3, h4, by rw [Bool.false_bne] at q; exact q⟩
theorem px_dNe (i : Nat) (hK : X.K = g.k.K) (hu : X.A.units + 64 < cLine) (hN : X.N[i]? = some x := by rfl) (hv : Vis X.env.scope x := by first | exact Or.inl rfl | exact Or.inr (Or.inl rfl) | exact Or.inr (Or.inr rfl)) (hd : (x == ("__debug__" : Str)) = false := by decide)
    (hcd : (x == ("__classdict__" : Str)) = false := by decide) : PQ X g W (.Compare (.Subscript (.Name x p) (.Constant (.str key) j p1) p2) [.NotEq] [.List [] p3] pos) (xT (xDNil true i key)) :=
  pt_imp (pt_cmpR (op_neD hu) (pe_dget (by omega) (pe_var hN hv hd hcd) pe_str plainC) (pe_lst pa_nil) (nomark _)) fun _ _ _ => tt_test fun _ _ _ => tx_dNil i hK fun _ _ _ _ ⟨d, c, h1, h2, h3, h4, q⟩ => ⟨d, c, h1, h2, h3, h4, by rw [Bool.true_bne] at q; exact q⟩
theorem px_dLen (i : Nat) (hu : X.A.units + 64 < cLine) (hg : Gl X "len") (hm : X.mg "len" = none) (hN : X.N[i]? = some x := by rfl) (hv : Vis X.env.scope x := by first | exact Or.inl rfl | exact Or.inr (Or.inl rfl) | exact Or.inr (Or.inr rfl)) (hd : (x == ("__debug__" : Str)) = false := by decide)
    (hcd : (x == ("__classdict__" : Str)) = false := by decide) (he : starEach [.Subscript (.Name x p) (.Constant (.str key) j p1) p2] X.env = (false, eval (.Subscript (.Name x p) (.Constant (.str key) j p1) p2) X.env) :: starEach [] X.env := by rfl) (hpl : (backTo pos (starEach [] X.env)).any (·.1) = false := by rfl) :
    PX X g W (.Call (.Name "len" p3) [.Subscript (.Name x p) (.Constant (.str key) j p1) p2] [] pos) (xDLen i key) := by
  refine pe_imp (pe_callB call_len hg hm PySem.boot_len (pa_cons (pe_dget (by omega) (pe_var hN hv hd hcd) pe_str plainC) pa_nil he) (by decide) (by decide) he hpl) ?_
  rintro σ H Q ⟨ρ, b, H0, G, F⟩
  unfold xDLen at F
  split at F
  · rename_i hb
    cases hg2 : getL b.fs b.ls key with
    | none => simp only [hg2] at F; exact F.elim
    | some ds =>
      simp only [hg2] at F
      obtain ⟨a, l, vs, e1, e2, e3, e4, e5, e6, _, _⟩ := dls_get G hb hg2
      exact ⟨_, e1, a, _, rfl, e2, .ref l, ds.length, rfl, .inl ⟨vs, .inl (.inl e5), e6.length⟩, F H0 H (Tr.refl G.sub) G.box _ (.int _)⟩
  · exact F.elim
theorem p1_dApp (i : Nat) {k0 : Expr} (hu : X.A.units + 64 < cLine) (hk0 : NoSl k0) (hkx : PX X g W k0 f) (ha : PX X g W e h) (hN : X.N[i]? = some x := by rfl) (hv : Vis X.env.scope x := by first | exact Or.inl rfl | exact Or.inr (Or.inl rfl) | exact Or.inr (Or.inr rfl)) (hd : (x == ("__debug__" : Str)) = false := by decide)
    (hcd : (x == ("__classdict__" : Str)) = false := by decide)
    (hbase : attributeBase (.Subscript (.Name x p) k0 p1) "append" X.env (eval (.Subscript (.Name x p) k0 p1) X.env) = eval (.Subscript (.Name x p) k0 p1) X.env := by rfl)
    (hfew : ((backTo p2 (starEach [e] X.env)).all (fun x => !x.1) && (backToKw p2 (keywordEach [] X.env)).all (fun x => x.1.isSome) && decide (([e] : List Expr).length + ([] : List Keyword).length + (if ([] : List Keyword).isEmpty then 0 else 1) < 30)) = true := by rfl)
    (hline : (apos.endLine == p2.line) = true := by rfl) (hs : starEach [e] X.env = (false, eval e X.env) :: starEach [] X.env := by rfl) (hplain : (backTo p2 (starEach [] X.env)).any (·.1) = false := by rfl)
    (hsw : swapsWith (.Call (.Attribute (.Subscript (.Name x p) k0 p1) "append" apos) [e] [] p2) none pos.line X.env = pure false := by rfl) :
    P1 X g W (.Expr (.Call (.Attribute (.Subscript (.Name x p) k0 p1) "append" apos) [e] [] p2) pos) (kDApp i f h) := by
  refine ps_imp (ps_expr (pe_bm PySem.F.plainAttrs_list PySem.F.slot_list_append PySem.F.type_list_append mt_append (pe_dget (by omega) (pe_var hN hv hd hcd) hkx hk0) (pa_cons ha pa_nil hs) hbase hfew hline hs hplain) hsw) ?_
  rintro Dd σ H ⟨ρ, b, H0, G, F⟩
  -- the name's value stands whatever comes between
  have hat : ∀ {b1 : Bx} {H01 H1 : Hp}, Good g ρ b1 σ H1 H01 → isDls ρ i = true → ∃ a ls, g.bx = .dls a ls ∧ σ[i]? = some (some (.ref a)) := fun G1 hb => by
    obtain ⟨a, ls, e1, e2, _⟩ := G1.dls hb
    exact ⟨a, ls, e1, e2⟩
  unfold kDApp at F
  split at F
  · rename_i hb
    obtain ⟨a, ls, e1, e2⟩ := hat G hb
    refine ⟨_, e2, ρ, b, H0, G, (fin_out G F).mono fun kd b1 H01 H1 t1 B1 F1 kv ik => ?_⟩
    have G1 := G.step t1 B1
    cases ik with
    | str key =>
      cases hg1 : getL b1.fs b1.ls key with
      | none => simp only [hg1] at F1; exact F1.elim
      | some ds1 =>
        simp only [hg1] at F1
        obtain ⟨a1, l, vs, g1, g2, g3, g4, g5, g6, ⟨la, ga, gv⟩, _⟩ := dls_get G1 hb hg1
        refine ⟨a1, _, by rw [e2] at g1; cases g1; rfl, g2, .inl ⟨rfl, vs, .inl (.inl g5)⟩, ρ, b1, H01, G1, (fin_out G1 F1).mono fun d b2 H02 H2 t2 B2 F2 v iv => ?_⟩
        have G2 := G1.step t2 B2
        cases hg3 : getL b2.fs b2.ls key with
        | none => simp only [hg3] at F2; exact F2.elim
        | some ds =>
          simp only [hg3] at F2
          split at F2
          · rename_i hz
            obtain ⟨a2, l2, vs2, q1, q2, q3, q4, q5, q6, ⟨lb, gb, gw⟩, q7⟩ := dls_get G2 hb hg3
            have el : l2 = l := by
              rw [ga] at gb
              cases gb
              rw [hz.1, gv] at gw
              cases gw
              rfl
            subst el
            exact ⟨l2, vs2, v, rfl, rfl, q5, by rw [← q6.length]; exact Nat.lt_of_lt_of_le hz.2 (by decide), F2 _ _ _ (G2.inBox q3 (q7 d v iv)) (Same.refl _)⟩
          · exact F2.elim
    | _ => exact F1.elim
  · exact F.elim
end
/-! ### data that lean on no marked list -/
mutual
def pureD : D → Bool
  | .lst z xs => !z && pureL xs
  | .tup xs => pureL xs
  | .ins _ _ xs => pureL xs
  | .non => true
  | .bl _ => true
  | .int _ => true
  | .str _ => true
  | .adr _ => true
  | _ => false
def pureL : List D → Bool
  | [] => true
  | d :: ds => pureD d && pureL ds
end
open Classical in
noncomputable def cutH (H : Hp) (M : Addr → Prop) : Hp := fun c => if M c then none else H c
theorem cutH_in {H : Hp} {M : Addr → Prop} {c : Addr} (h : M c) : cutH H M c = none := if_pos h
theorem cutH_out {H : Hp} {M : Addr → Prop} {c : Addr} (h : ¬ M c) : cutH H M c = H c := if_neg h
section
variable {K : PySem.W.Frag} {bx bx' : Bk} {z z' : Addr → Bool} {H : Hp} {M : Addr → Prop}
mutual
theorem Is.cut (hM : ∀ c, M c → (∃ xs, H c = some (.lst xs) ∧ z' c = true) ∨ (∃ kv, H c = some (.dK kv)) ∨ ∃ fs, H c = some (.xd fs)) (hz : ∀ c, z' c = false → z c = false) : ∀ {d : D} {v : V}, pureD d = true → Is ⟨K, bx', z'⟩ H d v → Is ⟨K, bx, z⟩ (cutH H M) d v
  | _, _, _, .non => .non
  | _, _, _, .bl b => .bl b
  | _, _, _, .int b => .int b
  | _, _, _, .str b => .str b
  | _, _, c, .tup (a := a) h l => by
    refine .tup ?_ (IsL.cut hM hz c l)
    rcases h with h | h
    · have nm : ¬ M a := fun m => by
        rcases hM a m with ⟨xs, e, _⟩ | ⟨kv, e⟩ | ⟨kv, e⟩ <;> rcases h with h | ⟨o, h⟩ <;> (rw [e] at h; cases h)
      rcases h with h | ⟨o, h⟩
      · exact .inl (.inl (by rw [cutH_out nm]; exact h))
      · exact .inl (.inr ⟨o, by rw [cutH_out nm]; exact h⟩)
    · exact .inr h
  | _, _, c, .lst (a := a) (z := false) h q l => by
    have c : (true && pureL _) = true := c
    have c := Bool.and_eq_true_iff.mp c
    have q : z' a = false := q
    have nm : ¬ M a := fun m => by
      rcases hM a m with ⟨xs, e, e2⟩ | ⟨kv, e⟩ | ⟨kv, e⟩
      · rw [q] at e2; cases e2
      · rw [e] at h; cases h
      · rw [e] at h; cases h
    exact .lst (by rw [cutH_out nm]; exact h) (hz a q) (IsL.cut hM hz c.2 l)
  | _, _, c, .ins (a := a) h n l => by
    have nm : ¬ M a := fun m => by
      rcases hM a m with ⟨xs, e, _⟩ | ⟨kv, e⟩ | ⟨kv, e⟩ <;> (rw [e] at h; cases h)
    exact .ins (by rw [cutH_out nm]; exact h) n (IsL.cut hM hz c l)
  | _, _, c, .lst (z := true) _ _ _ => nomatch c
  | _, _, _, .adr a => .adr a
  | _, _, c, .sql _ _ => nomatch c
  | _, _, c, .box h => nomatch c
  | _, _, c, .slf h => nomatch c
  | _, _, c, .mem h => nomatch c
  | _, _, c, .dls h => nomatch c
  | _, _, c, .lls h => nomatch c
  | _, _, c, .rb h => nomatch c
  | _, _, c, .dct _ _ _ => nomatch c
  | _, _, c, .kd _ _ _ _ => nomatch c
  | _, _, c, .exn _ _ _ _ => nomatch c
theorem IsL.cut (hM : ∀ c, M c → (∃ xs, H c = some (.lst xs) ∧ z' c = true) ∨ (∃ kv, H c = some (.dK kv)) ∨ ∃ fs, H c = some (.xd fs)) (hz : ∀ c, z' c = false → z c = false) : ∀ {ds : List D} {vs : List V}, pureL ds = true → IsL ⟨K, bx', z'⟩ H ds vs → IsL ⟨K, bx, z⟩ (cutH H M) ds vs
  | _, _, _, .nil => .nil
  | _, _, c, .cons h l => by
    have c := Bool.and_eq_true_iff.mp c
    exact .cons (Is.cut hM hz c.1 h) (IsL.cut hM hz c.2 l)
end
end

/-! ### the dict that stands, behind all changes -/
def xUnD (i : Nat) (f : Fx D) : Fx D := fun ρ b => if isDls ρ i = true ∧ cleanL (b.ls.map (.lst true)) = true then (match f ((ρ.map fun _ => Sl.no).set i (.val (.dct b.fs (b.ls.map (.lst true))))) bx0 with
  | .ok d _ => if pureD d = true then .ok d b else .bad
  | _ => .bad) else .bad
def frzL (H0 H : Hp) (ls : List Addr) : Hp := fun c => if c ∈ ls then H c else H0 c
section
variable {X : Cx} {g : Cfg} {W : WX} {e : Expr} {es : List Expr} {f h : Fx D} {x key : Str} {pos p p1 p2 p3 apos cpos : Pos} {j : Nat}
mutual
/-- other marks, the same where the data stand -/
theorem Is.retag {K : PySem.W.Frag} {bx : Bk} {z z' : Addr → Bool} {H : Hp} (hz : ∀ c, H c ≠ none → z' c = z c) : ∀ {d : D} {v : V}, Is ⟨K, bx, z⟩ H d v → Is ⟨K, bx, z'⟩ H d v
  | _, _, .non => .non
  | _, _, .bl b => .bl b
  | _, _, .int b => .int b
  | _, _, .str b => .str b
  | _, _, .tup h l => .tup h (IsL.retag hz l)
  | _, _, .lst h q l => .lst h (by show z' _ = _; rw [hz _ (by rw [h]; simp)]; exact q) (IsL.retag hz l)
  | _, _, .ins h n l => .ins h n (IsL.retag hz l)
  | _, _, .adr a => .adr a
  | _, _, .sql h l => .sql h (IsL.retag hz l)
  | _, _, .box h => .box h
  | _, _, .slf h => .slf h
  | _, _, .mem h => .mem h
  | _, _, .dls h => .dls h
  | _, _, .lls h => .lls h
  | _, _, .rb h => .rb h
  | _, _, .dct h n l => .dct h n (IsL.retag hz l)
  | _, _, .kd h r l1 l2 => .kd h r (IsL.retag hz l1) (IsL.retag hz l2)
  | _, _, .exn hb h n l => .exn hb h n (IsL.retag hz l)
theorem IsL.retag {K : PySem.W.Frag} {bx : Bk} {z z' : Addr → Bool} {H : Hp} (hz : ∀ c, H c ≠ none → z' c = z c) : ∀ {ds : List D} {vs : List V}, IsL ⟨K, bx, z⟩ H ds vs → IsL ⟨K, bx, z'⟩ H ds vs
  | _, _, .nil => .nil
  | _, _, .cons h l => .cons (Is.retag hz h) (IsL.retag hz l)
end
theorem DL.all {K : PySem.W.Frag} {bx bx' : Bk} {z z' : Addr → Bool} {H0 H H1 : Hp} (e : Same H0 H1) (hz : ∀ c, H0 c ≠ none → z' c = z c) : ∀ {ls : List Addr} {dss : List (List D)}, DL ⟨K, bx, z⟩ H0 H ls dss → cleanL (dss.map (.lst true)) = true → (∀ l, l ∈ ls → z' l = true) →
    (∀ l o, l ∈ ls → H l = some o → H1 l = some o) → IsL ⟨K, bx', z'⟩ H1 (dss.map (.lst true)) (ls.map V.ref)
  | [], [], _, _, _, _ => .nil
  | l :: ls, ds :: dss, ⟨⟨_, h0, vs, h1, h2⟩, r⟩, c, m, q => by
    have c : (cleanL ds && cleanL (dss.map (.lst true))) = true := c
    have c := Bool.and_eq_true_iff.mp c
    exact .cons (.lst (q l _ List.mem_cons_self h1) (m l List.mem_cons_self) (((h2.retag hz).mono e).rebox c.1)) (DL.all e hz r c.2 (fun l hl => m l (List.mem_cons_of_mem _ hl)) fun l o hl => q l o (List.mem_cons_of_mem _ hl))
  | [], _ :: _, h, _, _, _ => h.elim
  | _ :: _, [], h, _, _, _ => h.elim
theorem DL.isLst {k : Kx} {H0 H : Hp} {c : Addr} : ∀ {ls : List Addr} {dss : List (List D)}, DL k H0 H ls dss → c ∈ ls → ∃ vs, H c = some (.lst vs)
  | _ :: _, _ :: _, ⟨⟨_, _, vs, h1, _⟩, r⟩, m => by
    rcases List.mem_cons.mp m with rfl | m
    · exact ⟨vs, h1⟩
    · exact DL.isLst r m
  | [], _, _, m => nomatch m
  | _ :: _, [], h, _ => h.elim
theorem px_unD (i : Nat) (h : ∀ z' Hs' H0s', PX X (mkG g.k.K .no z' g.n Hs' H0s') W e f) : PX X g W e (xUnD i f) := by
  have hrest : PE X e (fun σ H Q => ∃ z' Hs' H0s', TX (mkG g.k.K .no z' g.n Hs' H0s') W f σ H Q) := ⟨fun pins s σ H Q I ⟨z', Hs', H0s', zz⟩ => (h z' Hs' H0s').run pins s σ H Q I zz⟩
  refine pe_imp hrest ?_
  rintro σ H Q ⟨ρ, b, H0, G, F⟩
  unfold xUnD at F
  split at F
  · rename_i hb
    obtain ⟨hb, hcl⟩ := hb
    obtain ⟨a, ls, e1, e2, e3, e4, e5, e6, e7, e8⟩ := G.dls hb
    classical
    let M : Addr → Prop := fun c => c ∈ a :: ls
    let z' : Addr → Bool := fun c => g.k.z c || decide (c ∈ ls)
    let H1 : Hp := frzL H0 H (a :: ls)
    have inM : ∀ {c}, c ∈ a :: ls → H1 c = H c := fun hc => if_pos hc
    have outM : ∀ {c}, c ∉ a :: ls → H1 c = H0 c := fun hc => if_neg hc
    have h0M : ∀ {c}, c ∈ a :: ls → H0 c = none := fun hc => by
      rcases List.mem_cons.mp hc with rfl | hc
      · exact e3
      · exact (e8.there hc).1
    have s01 : Same H0 H1 := fun c u q => by
      have hc : c ∉ a :: ls := fun hc => by rw [h0M hc] at q; cases q
      rw [outM hc]; exact q
    have s1 : Same H1 H := fun c u q => by
      by_cases hc : c ∈ a :: ls
      · rw [inM hc] at q; exact q
      · rw [outM hc] at q; exact G.sub c u q
    have hz0 : ∀ c, H0 c ≠ none → z' c = g.k.z c := fun c n => by
      have hc : c ∉ ls := fun hc => n (h0M (List.mem_cons_of_mem _ hc))
      simp [z', hc]
    have id : Is ⟨g.k.K, .no, z'⟩ H1 (.dct b.fs (b.ls.map (.lst true))) (.ref a) := by
      refine .dct (vs := ls.map V.ref) ?_ (by rw [List.length_map]; exact e6) (DL.all (bx := g.k.bx) (z := g.k.z) s01 hz0 e8 hcl (fun l hl => by simp [z', hl]) fun l o hl q => ?_)
      · rw [inM List.mem_cons_self]; exact e7
      · rw [inM (List.mem_cons_of_mem _ hl)]; exact q
    have zo : ZOk ⟨g.k.K, .no, z'⟩ H := fun c q => by
      have q : (g.k.z c || decide (c ∈ ls)) = true := q
      rcases Bool.or_eq_true_iff.mp q with q | q
      · exact G.zok c q
      · exact (e8.there (of_decide_eq_true q)).2
    let ρ1 : En := ρ.map fun _ => Sl.no
    have G0 : Good (mkG g.k.K .no z' g.n H H1) ρ1 bx0 σ H H1 := by
      have no : ∀ {j s}, ρ1[j]? = some s → s = Sl.no := fun {j s} q => by
        rw [List.getElem?_map] at q
        cases hr : ρ[j]? with
        | none => rw [hr] at q; cases q
        | some s' => rw [hr] at q; exact (Option.some.inj q).symm
      refine ⟨Tr.refl s1, by rw [List.length_map]; exact G.len, fun j => ?_, fun j j' l o => ?_, fun j l o => ?_, trivial, fun _ zz => zz.elim, zo, G.ln⟩
      · cases hr : ρ1[j]? with
        | none => trivial
        | some s => rw [no hr]; trivial
      · obtain ⟨⟨ds, q, qo⟩, _⟩ := o; rw [no q] at qo; cases qo
      · obtain ⟨⟨ds, q, qo⟩, _⟩ := o; rw [no q] at qo; cases qo
    have G1 : Good (mkG g.k.K .no z' g.n H H1) (ρ1.set i (.val (.dct b.fs (b.ls.map (.lst true))))) bx0 σ H H1 := by
      have q := G0.setV (i := i) (v := .ref a) id
      have es : σ.set i (some (V.ref a)) = σ := by
        apply List.ext_getElem?
        intro j
        rw [set_get]
        split
        · rename_i hj; rw [← hj.1, e2]
        · rfl
      rw [es] at q
      exact q
    refine ⟨z', H, H1, _, bx0, H1, G1, ?_⟩
    cases hf : f (ρ1.set i (.val (.dct b.fs (b.ls.map (.lst true))))) bx0 with
    | bad => simp only [ρ1] at hf; simp only [hf] at F; exact F.elim
    | exc xx bb => simp only [ρ1] at hf; simp only [hf] at F; exact F.elim
    | ok d bb =>
      simp only [ρ1] at hf
      simp only [hf] at F
      split at F
      · rename_i hp
        intro H0z Hz t _ v iv
        have hM : ∀ c, M c → (∃ xs, H0z c = some (.lst xs) ∧ z' c = true) ∨ (∃ kv, H0z c = some (.dK kv)) ∨ ∃ fs, H0z c = some (.xd fs) := fun c m => by
          rcases List.mem_cons.mp m with rfl | m
          · exact .inr (.inl ⟨_, t.ext _ _ (by rw [inM List.mem_cons_self]; exact e7)⟩)
          · skip
            obtain ⟨vs, hv⟩ := e8.isLst m
            exact .inl ⟨vs, t.ext _ _ (by rw [inM (List.mem_cons_of_mem _ m)]; exact hv), by simp [z', m]⟩
        have h0z : Same H0 (cutH H0z M) := fun c u q => by
          have hc : ¬ M c := fun hc => by rw [h0M hc] at q; cases q
          rw [cutH_out hc]
          exact t.ext _ _ (s01 _ _ q)
        have kp : ∀ c u, H c = some u → Hz c = some u := fun c u q => t.keep c u q fun zz => zz
        refine F (cutH H0z M) Hz ⟨h0z, fun c u q => ?_, fun c u q _ => kp c u q, t.there, fun c q n ni => ?_⟩ (G.box.move h0z (fun c i => ?_) fun c u _ q => kp c u q) v (iv.cut hM (fun c q => ?_) hp)
        · by_cases hc : M c
          · rw [cutH_in hc] at q; cases q
          · rw [cutH_out hc] at q; exact t.sub c u q
        · have hc : ¬ M c := fun hc => ni (by rw [e1]; rcases List.mem_cons.mp hc with rfl | hc; exact .inl rfl; exact .inr hc)
          rw [cutH_out hc]
          exact t.new c (by rw [outM hc]; exact q) n fun zz => zz
        · have hc : M c := by
            have i : InB g.bx c := i
            rw [e1] at i
            rcases i with rfl | i
            · exact List.mem_cons_self
            · exact List.mem_cons_of_mem _ i
          exact cutH_in hc
        · have q : (g.k.z c || decide (c ∈ ls)) = false := q
          exact (Bool.or_eq_false_iff.mp q).1
      · exact F.elim
  · exact F.elim
def dctD (key : Str) : D → Option D
  | .dct fs xs => fldD fs xs key
  | _ => none
def xDct (f : Fx D) (key : Str) : Fx D := xUn (dctD key) f
theorem valV_kvD {k : Kx} {H : Hp} : ∀ {fs : List Str} {ds : List D} {vs : List V} {d : D}, IsL k H ds vs → fldD fs ds key = some d → ∃ v, valV (kvD fs vs) (.inr key) = some v ∧ Is k H d v
  | [], _, _, _, _, h => by cases h
  | _ :: _, [], _, _, _, h => by cases h
  | n :: ns, c :: ds, _, d, .cons (v := v) (vs := vs) hi hl, h => by
    unfold fldD at h
    by_cases hf : (key == n) = true
    · rw [if_pos hf] at h
      cases h
      exact ⟨v, valV_pos (by show Sum.inr n = Sum.inr key; rw [eq_of_beq hf]), hi⟩
    · rw [if_neg hf] at h
      obtain ⟨u, h1, h2⟩ := valV_kvD (fs := ns) hl h
      refine ⟨u, ?_, h2⟩
      rw [show kvD (n :: ns) (v :: vs) = (Sum.inr n, v) :: kvD ns vs from rfl, valV_neg (by show ¬ Sum.inr n = Sum.inr key; intro q; cases q; exact hf (beq_self_eq_true _))]
      exact h1
theorem px_dct (hu : X.A.units + 64 < cLine) (he : PX X g W e f) : PX X g W (.Subscript e (.Constant (.str key) j p1) p2) (xDct f key) := by
  refine pe_imp (pe_dget (by omega) he pe_str plainC) ?_
  rintro σ H Q ⟨ρ, b, H0, G, F⟩
  refine ⟨ρ, b, H0, G, F.bind.mono fun d b1 H01 H1 t1 B1 F1 v iv => ?_⟩
  cases iv with
  | @dct a fs vs ds hH hn il =>
    have F1 : Fin g W σ H01 H1 (lift (fldD fs ds key) b1) _ := F1
    cases hf : fldD fs ds key with
    | none => rw [hf] at F1; exact F1.elim
    | some c =>
      rw [hf] at F1
      obtain ⟨u, h1, h2⟩ := valV_kvD il hf
      refine ⟨a, u, rfl, ?_, F1 H01 H1 (Tr.refl t1.sub) B1 u h2⟩
      have q := DGet.k (k := Sum.inr key) (t1.sub _ _ hH)
      rw [h1] at q
      exact q
  | _ => exact F1.elim
end
end Fw
set_option Elab.async false
set_option linter.all false
set_option maxRecDepth 100000
set_option maxHeartbeats 1000000
/-! Fw14: own exceptions: their making, raising. -/
namespace Fw
open PySem PySem.Spec PyProof.Rows L2
section
variable {X : Cx} {e0 : Expr} {rest : List Expr} {tg : TA} {q1 q2 qp : Pos} {DE : Addr}
/-- the base's __init__, asked of the class by name -/
structure BaseX (K : PySem.W.Frag) (mg : Str → Option Value) (DE : Addr) : Prop where
  mgB : mg "DockError" = some (.ref DE)
  ga : PySem.W.specialIn K (.ref DE) "__getattribute__" = some (some (.builtin "type.__getattribute__"))
  rd : PySem.W.readsIn K DE (.type "type") = true
  fi : PySem.W.findCls K (.ref DE) (.type "type") "__init__" = some (.val (.builtin "ValueError.__init__"))
theorem pe_base {pl : Sem Bool} (hB : BaseX X.K X.mg DE) (hgl : Gl X "DockError") (hpa : PA X (e0 :: rest) tg)
    (hev : eval (.Call (.Attribute (.Name "DockError" q1) "__init__" q2) (e0 :: rest) [] qp) X.env = (do
      let o9 ← eval (.Name "DockError" q1) X.env
      standAt q2.atName
      let (f9, first9) ← holding [o9] (getMethod o9 "__init__" pl)
      callWith qp f9 first9 (backTo qp (starEach (e0 :: rest) X.env)) (backToKw qp (keywordEach [] X.env))) := by rfl)
    (hse : starEach (e0 :: rest) X.env = (false, eval e0 X.env) :: starEach rest X.env := by rfl) (hpn : (backTo qp (starEach rest X.env)).any (·.1) = false := by rfl) :
    PE X (.Call (.Attribute (.Name "DockError" q1) "__init__" q2) (e0 :: rest) [] qp) (tVeI X.K tg) := by
  refine ⟨fun pins s σ H Q I hh => ?_⟩
  refine PySem.W.methodCall_KW (ld_glob I hgl hB.mgB ?_ (by decide)) hev
  refine PySem.W.method_cls I.kIn hB.ga (PySem.W.cls_value I.kIn hB.rd hB.fi (by decide +kernel) ?_)
  show wpAny _ _ (callWith qp (Value.builtin "ValueError.__init__") [] (backTo qp (starEach (e0 :: rest) X.env)) []) _ _ _
  refine PyProof.Rows.callWith_method1 (thn (hpa.run qp pins _ σ H _ (I.tok _) hh) fun us s1 ⟨vs, H1, I1, r1, a, C, ws, ev, hl, T, ea, q⟩ => ?_) hse hpn
  subst ev
  cases r1 with
  | @cons _ u0 _ ur ra rw9 =>
    obtain rfl : u0 = Value.ref a := ra
    exact oinit_ok T I1 ea (by rw [← Paired.length rw9, sizeLine_eq]; omega) fun s' J => ⟨.non, H1, J, rfl, q⟩
end

/-! ### the promise of such an __init__: it stores its parameters under their names -/
def spX (C : Addr) (ns : List Str) : Sp := fun vs H Q _ => ∃ (a : Addr) (us : List V), vs = .ref a :: us ∧ us.length = ns.length ∧ H a = some (exo a C none) ∧
  ∀ (dx : Addr) (H2 : Hp), H dx = none → dx ≠ a → H2 a = some (exo a C (some dx)) → H2 dx = some (exd dx (ns.reverse.zip us.reverse)) → (∀ c, c ≠ a → c ≠ dx → H2 c = H c) → Q .non H2
structure ExcD (P : Program) (w : World) (K : PySem.W.Frag) (mg : Str → Option Value) (base : Heap) (k : Nat) (x : Str) (C : Addr) (ns : List Str) : Prop where
  ex : ∃ (f : Addr) (fd : FuncData) (ps : List Str), PySem.W.findIn K (.ref C) "__init__" = some (some (.ref f)) ∧ PySem.W.typeIn K (.ref f) = some (.type "function") ∧ FnOk P w K mg base (L2.CX P w) k f fd ps (spX C ns) ∧ Binds K fd ps []
  ox : OexC K C
  mgX : mg x = some (.ref C)
def kRaise (C : Addr) (ns : List Str) (fl : Fx (List D)) : Fs := fun ρ b => (fl ρ b).out fun ds b1 => if ds.length = ns.length ∧ ds.length ≤ 900 then .exc ⟨C, some (ns.reverse, ds.reverse)⟩ b1 else .bad
theorem IsL.rev {k : Kx} {H : Hp} : ∀ {ds : List D} {vs : List V}, IsL k H ds vs → IsL k H ds.reverse vs.reverse
  | _, _, .nil => .nil
  | _, _, .cons h l => by
    rw [List.reverse_cons, List.reverse_cons]
    exact (IsL.rev l).app (.cons h .nil)
section
variable {X : Cx} {g : Cfg} {W : WX} {e : Expr} {es : List Expr} {fl : Fx (List D)} {x : Str} {pos p cpos : Pos} {C : Addr} {ns : List Str} {k kk : Nat}
theorem p1_raise (cl : ExcD X.prog X.w X.K X.mg X.base k x C ns) (hc : X.calm = true) (hr : Room kk X.A) (hk : k + 1 ≤ kk) (tk : Takes X W) (ha : PL X g W (e :: es) fl) (hg : Gl X x := by rfl) (hdb : (x == ("__debug__" : Str)) = false := by decide)
    (he : starEach (e :: es) X.env = (false, eval e X.env) :: starEach es X.env := by rfl) (hpl : (backTo cpos (starEach es X.env)).any (·.1) = false := by rfl) : P1 X g W (.Raise (some (.Call (.Name x p) (e :: es) [] cpos)) none pos) (kRaise C ns fl) := by
  obtain ⟨f, fd, ps, h1, h2, h3, h4⟩ := cl.ex
  refine ps_imp (ps_raise hc tk (pmk_oex cl.ox h1 h2 h3 (hr.mono hk) h4 .nil passL hg cl.mgX ha hdb he hpl)) ?_
  rintro Dd σ H ⟨ρ, b, H0, G, F⟩
  unfold kRaise at F
  have F := fin_out G F
  refine ⟨ρ, b, H0, G, F.mono fun ds b1 H01 H1 t1 B1 F1 vs il => ?_⟩
  split at F1
  · rename_i hn
    refine ⟨by rw [← il.length]; omega, fun a hna => ⟨a, vs, by rw [List.append_nil], by rw [← il.length]; exact hn.1, upd_same, fun dx H2 d1 d2 d3 d4 d5 => ⟨rfl, dx, _, d3, d4, ?_, ?_⟩⟩⟩
    · rw [upd_ne d2] at d1; exact d1
    · rw [upd_ne d2] at d1
      have hd : ∀ c o, H1 c = some o → L2.upd (del H2 a) dx (.xd (ns.reverse.zip vs.reverse)) c = some o := fun c o q => by
        have c1 : c ≠ a := ne_of_none q hna
        have c2 : c ≠ dx := ne_of_none q d1
        rw [upd_ne c2, del_ne c1, d5 c c1 c2, upd_ne c1]; exact q
      have T2 : Tr .no H01 H1 H01 (L2.upd (del H2 a) dx (.xd (ns.reverse.zip vs.reverse))) := ⟨Same.refl _, fun c o q => hd c o (t1.sub c o q), fun c o q _ => hd c o q, fun c n => by
        cases q : H1 c with
        | none => exact absurd q n
        | some o => rw [hd c o q]; simp, fun c q _ _ => q⟩
      refine F1 _ _ σ _ H01 G.ln ((G.trs (b' := b1) t1).trans T2.weak) (B1.keep T2) ⟨rfl, dx, vs.reverse, rfl, t1.sub.free d1, upd_same, ?_, il.rev⟩
      rw [List.length_reverse, List.length_reverse, ← il.length]; exact hn.1.symm
  · exact F1.elim
end
end Fw
set_option Elab.async false
set_option linter.all false
set_option maxRecDepth 100000
set_option maxHeartbeats 1000000
/-! Fw15: try .. except C as e. -/
namespace Fw
open PySem PySem.Spec PyProof.Rows L2
/-- the end of a handler, seen from outside: the name is gone, the box is back -/
def outH (b : Bx) : Out → Out
  | .rt d _ => if pureD d = true then .rt d b else .bad
  | _ => .bad
def kTryAs (i : Nat) (tbl : Addr → Option Bool) (kb kh : Fs) : Fs := fun ρ b => match kb ρ b with
  | .exc x b1 => (match tbl x.cls, x.fs with
    | some true, some (ns, ds) => if cleanL ds = true then outH b1 (kh ((ρ.map fun _ => Sl.no).set i (.val (.exn x.cls ns ds))) bx0) else .bad
    | some false, _ => .exc x b1
    | _, _ => .bad)
  | o => o
/-- what a table of answers must be true of -/
def ExmT (K : PySem.W.Frag) (cv : Value) (tbl : Addr → Option Bool) : Prop := ∀ C b, tbl C = some b → PySem.W.exmOne K (.ref C) cv = some b
section
variable {X : Cx} {g : Cfg} {W : WX} {x n : Str} {cv : Value} {body suite : List Stmt} {b₀ : Stmt} {np pos pos' : Pos} {kb kh : Fs} {tbl : Addr → Option Bool}
theorem no_good {g : Cfg} {b b' : Bx} {ρ : En} {σ τ : L2.St} {H H0 : Hp} {a dd C : Addr} (hl : ρ.length = τ.length) (hn : τ.length = g.n) (s : Same H0 H) (zo : ZOk g.k H) : Good (mkG g.k.K (.exn a dd C) g.k.z g.n H H0) (ρ.map fun _ => Sl.no) b' τ H H0 := by
  have no : ∀ {j s}, (ρ.map fun _ => Sl.no)[j]? = some s → s = Sl.no := fun {j s} q => by
    rw [List.getElem?_map] at q
    cases hr : ρ[j]? with
    | none => rw [hr] at q; cases q
    | some s' => rw [hr] at q; exact (Option.some.inj q).symm
  refine ⟨Tr.refl s, by rw [List.length_map]; exact hl, fun j => ?_, fun j j' l o => ?_, fun j l o => ?_, trivial, fun _ zz => zz.elim, zo, hn⟩
  · cases hr : (ρ.map fun _ => Sl.no)[j]? with
    | none => trivial
    | some s => rw [no hr]; trivial
  · obtain ⟨⟨ds, q, qo⟩, _⟩ := o; rw [no q] at qo; cases qo
  · obtain ⟨⟨ds, q, qo⟩, _⟩ := o; rw [no q] at qo; cases qo
theorem p1_tryAs (i : Nat) (hs : X.stack = X.env :: X.outer) (hf : X.env.frame = some X.env.locals) (hN : X.N.Nodup) (hi : X.N[i]? = some n) (hln : X.env.kindOf n = some .local) (hc : Names X x cv) (tk : Takes X W) (hT : ExmT X.K cv tbl)
    (hb : ∀ (W' : WX) (pn : List (Addr × Obj)) (xe : Value → Shared → Prop), Takes (X.tr pn xe) W' → PB (X.tr pn xe) g W' body kb)
    (hsu : ∀ (a dd C : Addr) (oe : Obj) (pn : List (Addr × Obj)) (Hs H0s : Hp), Zc (.ref C) (some dd) oe → (∃ vs, oe.data = .fields vs) → PB (X.suite a ((a, oe) :: pn)) (mkG g.k.K (.exn a dd C) g.k.z g.n Hs H0s) W0 (b₀ :: suite) kh) :
    P1 X g W (.Try body [.ExceptHandler (some (.Name x np)) (some n) (b₀ :: suite) pos'] [] [] pos) (kTryAs i tbl kb kh) := by
  let ts : Addr → Value → Option Addr → TS := fun a cls d Dd σ H => ∃ dd C : Addr, cls = .ref C ∧ d = some dd ∧ ∃ Hs H0s, TB (mkG g.k.K (.exn a dd C) g.k.z g.n Hs H0s) W0 kh Dd σ H
  refine ps_imp (ps_try_as (tb := fun W' => TB g W' kb) (ts := ts) (Wout := W) (i := i) hs hf hN hi hln hc tk (fun W' pn xe t _ => hb W' pn xe t) fun a oe cls d pn hz hff => ⟨fun pins s σ H D I hh => ?_⟩) ?_
  · obtain ⟨dd, C, rfl, rfl, Hs, H0s, z⟩ := hh
    exact (hsu a dd C oe pn Hs H0s hz hff).run pins s σ H D I z
  · rintro Dd σ H ⟨ρ, b, H0, G, F⟩
    refine ⟨ρ, b, H0, G, ?_⟩
    unfold kTryAs at F
    cases hk : kb ρ b with
    | exc xx b1 =>
      rw [hk] at F
      dsimp only at F
      intro cls dd τ H1 H01 hn T B ex
      obtain ⟨C, fs⟩ := xx
      obtain ⟨rfl, ex⟩ := ex
      dsimp only at F ex
      cases ht : tbl C with
      | none => rw [ht] at F; exact F.elim
      | some r =>
        rw [ht] at F
        refine ⟨r, hT C r ht, fun hr a ha => ?_, fun hr => ?_⟩
        · subst hr
          cases fs with
          | none => exact F.elim
          | some p =>
            obtain ⟨ns, ds⟩ := p
            dsimp only at F ex
            split at F
            · rename_i hcl
              obtain ⟨ad, vs, rfl, h00, h1, h2, h3⟩ := ex
              let H2 : Hp := L2.upd H01 ad (.xd (ns.zip vs))
              have s02 : Same H01 H2 := fun c u q => by
                show L2.upd _ _ _ c = _
                rw [upd_ne (ne_of_none q h00)]; exact q
              have s2 : Same H2 H1 := fun c u q => by
                by_cases hc : c = ad
                · subst hc
                  rw [show H2 c = some (.xd (ns.zip vs)) from upd_same] at q
                  rw [h1]; exact q
                · rw [show H2 c = H01 c from upd_ne hc] at q
                  exact T.sub c u q
              have G1 := no_good (g := g) (b := b) (b' := bx0) (ρ := ρ) (σ := σ) (a := a) (dd := ad) (C := C) (τ := τ) (G.len.trans (G.ln.trans hn.symm)) hn s2 (fun c q => T.there c (G.zin c q))
              have iv : Is (mkG g.k.K (.exn a ad C) g.k.z g.n H1 H2).k H2 (.exn C ns ds) (.ref a) := .exn rfl upd_same h2 ((h3.mono s02).rebox hcl)
              refine ⟨ad, C, rfl, rfl, H1, H2, _, bx0, H2, G1.setV (i := i) iv, ?_⟩
              revert F
              generalize kh ((ρ.map fun _ => Sl.no).set i (.val (.exn C ns ds))) bx0 = oo
              intro F
              cases oo with
              | rt d b2 =>
                have F : FinS g W H0 (if pureD d = true then .rt d b1 else .bad) Dd := F
                split at F
                · rename_i hp
                  intro v Hz H0z t _ iz
                  have hM : ∀ c, (c = ad) → (∃ xs, H0z c = some (.lst xs) ∧ g.k.z c = true) ∨ (∃ kv, H0z c = some (.dK kv)) ∨ ∃ fs, H0z c = some (.xd fs) := fun c m => by
                    subst m
                    exact .inr (.inr ⟨_, t.ext _ _ (show H2 c = _ from upd_same)⟩)
                  have kp : ∀ c u, H1 c = some u → Hz c = some u := fun c u q => t.keep c u q fun z => z
                  have nw : ∀ c, H01 c = none → H1 c ≠ none → cutH H0z (fun c => c = ad) c = none := fun c q n => by
                    by_cases hc : c = ad
                    · exact cutH_in (M := fun c => c = ad) hc
                    · rw [cutH_out (M := fun c => c = ad) hc]
                      exact t.new c (show H2 c = none from (upd_ne hc).trans q) n fun z => z
                  have ext : Same H01 (cutH H0z (fun c => c = ad)) := fun c u q => by
                    have hc : ¬ c = ad := fun hc => by subst hc; rw [h00] at q; cases q
                    rw [cutH_out (M := fun c => c = ad) hc]
                    exact t.ext _ _ (s02 _ _ q)
                  refine F v Hz (cutH H0z (fun c => c = ad)) (T.trans ⟨ext, fun c u q => ?_, fun c u q _ => kp c u q, t.there, fun c q n _ => nw c q n⟩) (B.move ext (fun c i => nw c (B.at i).1 (B.at i).2) fun c u _ q => kp c u q) (iz.cut hM (fun _ q => q) hp)
                  by_cases hc : c = ad
                  · rw [cutH_in (M := fun c => c = ad) hc] at q; cases q
                  · rw [cutH_out (M := fun c => c = ad) hc] at q; exact t.sub c u q
                · exact F.elim
              | _ => exact F.elim
            · exact F.elim
        · subst hr
          cases fs with
          | none => exact F _ _ τ H1 H01 hn T B ⟨rfl, ex⟩
          | some p => exact F _ _ τ H1 H01 hn T B ⟨rfl, ex⟩
    | nx ρ' b' => rw [hk] at F; exact F
    | rt d b' => rw [hk] at F; exact F
    | rto d b' => rw [hk] at F; exact F
    | bk ρ' b' => rw [hk] at F; exact F
    | ct ρ' b' => rw [hk] at F; exact F
    | bad => rw [hk] at F; exact F
end
end Fw
set_option Elab.async false
set_option linter.all false
set_option maxRecDepth 100000
set_option maxHeartbeats 1000000
/-! Fw16: what a handler asks of the exception it holds; making an instance where something may be raised. -/
namespace Fw
open PySem PySem.Spec PyProof.Rows L2
/-- isinstance of a held exception with its own dict -/
def rIsX (K : PySem.W.Frag) (C a dd : Addr) : List V → Hp → VK → Prop := fun xs H Q => ∃ (tv : V) (cv : Value) (r : Bool) (fs : List (Str × V)), xs = [.ref a, tv] ∧ (∀ u, RelV tv u → u = cv) ∧ H dd = some (.xd fs) ∧ ExcC K C ∧
  (PySem.W.clsIn K C).isSome = true ∧ PySem.W.kitOne K (.ref C) cv = some r ∧ Q (.bl r) H
theorem call_isX {X : Cx} {a dd C : Addr} {oe : Obj} {pn : List (Addr × Obj)} (hz : Zc (.ref C) (some dd) oe) (hf : ∃ vs, oe.data = .fields vs) : CallR (X.suite a ((a, oe) :: pn)) (.builtin "isinstance") (rIsX X.K C a dd) := by
  intro pins s σ H ys ws Q I rr hh
  obtain ⟨tv, cv, r, fs, rfl, hcv, hH, E, hcl, hk, q⟩ := hh
  obtain ⟨u1, u2, rfl, r1, r2⟩ := vals2 rr
  cases (show u1 = Value.ref a from r1)
  have e2 := hcv _ r2
  subst e2
  have ho := (I.pin (a, oe) (List.mem_append.mpr (.inl List.mem_cons_self))).1
  obtain ⟨vs, hv⟩ := hf
  obtain ⟨mA, hns, _⟩ := (show ObjOk X.prog X.w H s.heap dd (.xd fs) from I.hok dd _ hH)
  obtain ⟨od, hod, _⟩ := lookIn_ns hns
  have J : PySem.W.InstAt s.heap a oe C (some od) := ⟨ho, hz.1, by unfold PySem.W.notCls; rw [hv] <;> rfl, by rw [hz.2]; exact hod⟩
  exact PySem.W.kia_one (PySem.W.kitx_exc hcl E.hg E.hk E.hs E.ha E.hn E.ht E.hm) I.kIn J hk (fun zz => nomatch zz) fun tk => ⟨.bl r, H, I.tok tk, rfl, q⟩
def IsxT (K : PySem.W.Frag) (cv : Value) (tbl : Addr → Option Bool) : Prop := ∀ C r, tbl C = some r → ExcC K C ∧ (PySem.W.clsIn K C).isSome = true ∧ PySem.W.kitOne K (.ref C) cv = some r
def xIsE (i : Nat) (tbl : Addr → Option Bool) : Fx D := fun ρ b => match ρ[i]? with
  | some (.val (.exn C _ _)) => lift ((tbl C).map D.bl) b
  | _ => .bad
def xExf (i : Nat) (C0 : Addr) (n : Str) : Fx D := fun ρ b => match ρ[i]? with
  | some (.val (.exn C fs ds)) => if C = C0 then lift (fldD fs ds n) b else .bad
  | _ => .bad
section
variable {X : Cx} {bx : Bk} {z : Addr → Bool} {n0 : Nat} {Hs H0s : Hp} {W : WX} {a dd C C0 CT : Addr} {oe : Obj} {pn : List (Addr × Obj)} {tbl : Addr → Option Bool} {x y f : Str} {p p1 p2 pos : Pos}
theorem px_isE (i : Nat) (hz : Zc (.ref C) (some dd) oe) (hf : ∃ vs, oe.data = .fields vs) {tv : V} {cv : Value} (hcv : ∀ u, RelV tv u → u = cv) (hT : IsxT X.K cv tbl) (hy : PE (X.suite a ((a, oe) :: pn)) (.Name y p1) (tC tv)) (hm : X.mg "isinstance" = none) (hg : Gl X "isinstance" := by rfl) (hN : X.N[i]? = some x := by rfl)
    (hv : Vis X.env.scope x := by first | exact Or.inl rfl | exact Or.inr (Or.inl rfl) | exact Or.inr (Or.inr rfl)) (hd : (x == ("__debug__" : Str)) = false := by decide) (hcd : (x == ("__classdict__" : Str)) = false := by decide)
    (h1 : starEach [.Name x p2, .Name y p1] X.env = (false, eval (.Name x p2) X.env) :: starEach [.Name y p1] X.env := by rfl) (h2 : starEach [.Name y p1] X.env = (false, eval (.Name y p1) X.env) :: starEach [] X.env := by rfl)
    (hpl : (backTo pos (starEach [.Name y p1] X.env)).any (·.1) = false := by rfl) : PX (X.suite a ((a, oe) :: pn)) (mkG X.K (.exn a dd C) z n0 Hs H0s) W (.Call (.Name "isinstance" p) [.Name x p2, .Name y p1] [] pos) (xIsE i tbl) := by
  refine pe_imp (pe_callB (call_isX hz hf) hg hm PyProof.Rows.boot_isinstance (pa_cons (pe_var hN hv hd hcd) (pa_cons hy pa_nil h2) h1) (by decide) (by decide) h1 hpl) ?_
  rintro σ H Q ⟨ρ, b, H0, G, F⟩
  unfold xIsE at F
  split at F
  · rename_i C' fs ds hi
    obtain ⟨v, e1, iv⟩ := G.val hi
    cases iv with
    | @exn a' dd' _ _ vs _ hb hH hl il =>
      cases (show Bk.exn a dd C = Bk.exn a' dd' C' from hb)
      refine ⟨_, e1, ?_⟩
      cases ht : tbl C with
      | none => rw [ht] at F; exact F.elim
      | some r =>
        rw [ht] at F
        obtain ⟨q1, q2, q3⟩ := hT C r ht
        exact ⟨tv, cv, r, _, rfl, hcv, G.sub _ _ hH, q1, q2, q3, F H0 H (Tr.refl G.sub) G.box _ (.bl r)⟩
  · exact F.elim
theorem px_exf (i : Nat) (hz : Zc (.ref C) (some dd) oe) (hf : ∃ vs, oe.data = .fields vs) (T : XfC X.K C0) (hno : PySem.W.findIn X.K (.ref C0) f = some none) (hN : X.N[i]? = some x := by rfl)
    (hv : Vis X.env.scope x := by first | exact Or.inl rfl | exact Or.inr (Or.inl rfl) | exact Or.inr (Or.inr rfl)) (hd : (x == ("__debug__" : Str)) = false := by decide) (hcd : (x == ("__classdict__" : Str)) = false := by decide)
    (hb : attributeBase (.Name x p2) f X.env (eval (.Name x p2) X.env) = eval (.Name x p2) X.env := by rfl) : PX (X.suite a ((a, oe) :: pn)) (mkG X.K (.exn a dd C) z n0 Hs H0s) W (.Attribute (.Name x p2) f pos) (xExf i C0 f) := by
  refine pe_imp (pe_xf T hno hz hf (pe_var hN hv hd hcd) hb) ?_
  rintro σ H Q ⟨ρ, b, H0, G, F⟩
  unfold xExf at F
  split at F
  · rename_i C' fs ds hi
    split at F
    · rename_i hC
      subst hC
      obtain ⟨v, e1, iv⟩ := G.val hi
      cases iv with
      | @exn a' dd' _ _ vs _ hb hH hl il =>
        cases (show Bk.exn a dd C = Bk.exn a' dd' C' from hb)
        cases hq : fldD fs ds f with
        | none => rw [hq] at F; exact F.elim
        | some d =>
          rw [hq] at F
          obtain ⟨u, h1, h2⟩ := fldD_get il hq
          exact ⟨_, e1, rfl, rfl, dd, _, u, rfl, G.sub _ _ hH, h1, F H0 H (Tr.refl G.sub) G.box u h2⟩
    · exact F.elim
  · exact F.elim
end
/-! ### making an instance; something may be raised -/
section
variable {X : Cx} {fi CC : Addr} {fdi : FuncData} {pz : List Str} {spi : Sp} {kq : Nat} {EE : L2.St → XK}
theorem run_makeX {pins : List (Addr × Obj)} {τ : L2.St} {HA : Hp} {sh : Shared} {QQ : VK} {ua : List Value} {va : List V} (MM : Mk X.K CC fi) (FF : FnOk X.prog X.w X.K X.mg X.base (L2.CX X.prog X.w) kq fi fdi pz spi) (hroom : Room (kq + 1) X.A) (hbind : Binds X.K fdi pz [])
    (hpass : PassesAt (L2.CX X.prog X.w) X τ (EE τ)) (J : Inv X pins τ HA sh) (rv : Vals va ua)
    (hsp : ∀ o do_, HA o = none → HA do_ = none → do_ ≠ o → spi (.ref o :: va) (L2.upd (L2.upd HA do_ (.own o)) o (.ins CC do_ [])) (fun v H2 => v = .non ∧ QQ (.ref o) H2) (EE τ)) :
    wpAny (model X.prog X.w) X.A (call (.ref CC) ua) (EP X pins τ QQ) X.xe sh := by
  have q0 := hsp (sh.heap.objs.size + 1) sh.heap.objs.size (J.hok.fresh (Nat.le_succ _)) (J.hok.fresh (Nat.le_refl _)) (Nat.ne_of_lt (Nat.lt_succ_self _))
  have J2 := Inv.made (C := CC) J
  have rv2 : Vals (V.ref (sh.heap.objs.size + 1) :: va) (Value.ref (sh.heap.objs.size + 1) :: ua) := .cons rfl rv
  have hlen : (Value.ref (sh.heap.objs.size + 1) :: ua ++ []).length = pz.length := by
    rw [List.append_nil, ← rv2.length]
    exact FF.len _ _ _ _ q0
  have bnd := hbind _ (Value.ref (sh.heap.objs.size + 1) :: ua) J2.kIn hlen
  rw [List.append_nil] at bnd
  refine wpAny_call (make_map (f := fi) J.kIn MM.makes MM.init (beq_iff_eq.mp MM.fn) (codeAny_mono (FF.run _ X.stack _ _ ⟨Value.ref (sh.heap.objs.size + 1) :: ua, []⟩ (Value.ref (sh.heap.objs.size + 1) :: ua) _ _ (EE τ) (hroom.make CC ua []) (J2.env0.make CC ua []) bnd rv2 q0) fun rr s9 h9 => ?_))
  cases rr with
  | error ee => exact hpass _ _ _ _ _ J2 h9
  | ok fl =>
    cases fl with
    | ret uu =>
      obtain ⟨v, H9, J3, r9, ev, q9⟩ := J2.after h9
      subst ev
      exact ⟨r9, ⟨V.ref (sh.heap.objs.size + 1), H9, J3, rfl, q9⟩⟩
    | next => exact False.elim h9
    | brk => exact False.elim h9
    | cont => exact False.elim h9
end
end Fw
set_option Elab.async false
set_option linter.all false
set_option maxRecDepth 100000
set_option maxHeartbeats 1000000
/-! Fw17: C(..) whose __init__ may raise; clear() of lists that nobody leans on. -/
namespace Fw
open PySem PySem.Spec PyProof.Rows L2
def tMakeX (C : Addr) (sp : Sp) (EE : L2.St → XK) (t : TA) : TE := fun σ H Q => t σ H fun vs H1 => ∀ o do_, H1 o = none → H1 do_ = none → do_ ≠ o →
  sp (.ref o :: vs) (L2.upd (L2.upd H1 do_ (.own o)) o (.ins C do_ [])) (fun v H2 => v = .non ∧ Q (.ref o) H2) (EE σ)
def mkRX (C : Addr) (o : Out) (b1 : Bx) : Res D := match o with
  | .nx _ b2 => if cleanL b2.ds = true then .ok (.ins C b2.fs b2.ds) b1 else .bad
  | .exc x _ => (match x.fs with
    | some (_, ds) => if cleanL ds = true then .exc x b1 else .bad
    | none => .exc x b1)
  | _ => .bad
def xMkX (C : Addr) (n : Nat) (F : FD) (fl : Fx (List D)) : Fx D := fun ρ b => (fl ρ b).bind fun ds b1 => if ds.length + 1 = n ∧ cleanL ds = true then mkRX C (F (.slf C :: ds) { b1 with fs := [], ds := [] }) b1 else .bad
section
variable {X : Cx} {g : Cfg} {W : WX} {e : Expr} {es : List Expr} {fl : Fx (List D)} {x : Str} {pos p : Pos} {C : Addr} {k kk n : Nat} {F : FD}
theorem pxkX (cl : MakD X.prog X.w X.K X.mg X.base k x C n F) (hr : Room kk X.A) (hk : k + 1 ≤ kk) (hK : X.K = g.k.K) (tk : Takes X W) (hpa : PL X g W (e :: es) fl) (hg : Gl X x := by rfl) (hdb : (x == ("__debug__" : Str)) = false := by decide)
    (he : starEach (e :: es) X.env = (false, eval e X.env) :: starEach es X.env := by rfl) (hpl : (backTo pos (starEach es X.env)).any (·.1) = false := by rfl) : PX X g W (.Call (.Name x p) (e :: es) [] pos) (xMkX C n F fl) := by
  obtain ⟨fa, fd, ps, M, F1, bb, hm⟩ := cl.ex
  have base : PE X (.Call (.Name x p) (e :: es) [] pos) (tMakeX C (spD X.K n F) (WE W) (TA' g W fl)) := by
    refine ⟨fun pins s σ H Q I hh => ?_⟩
    refine wpAny_Call_Name_kw (ld_glob I hg hm ?_ hdb)
    refine PySem.W.callWith_K (h₀ := X.base) I.ok.mod.kin M.kp (thn (hpa.run pos pins s σ H _ I hh) fun ua s1 ⟨va, HA, J, rv, q⟩ => ⟨J.kIn, ?_⟩) he hpl
    exact run_makeX (EE := WE W) M F1 (hr.mono hk) bb (passAt tk σ) J rv q
  refine pe_imp base ?_
  rintro σ H Q ⟨ρ, b, H0, G, FF⟩
  obtain ⟨⟨K, bx, z⟩, Hs, H0s, n0⟩ := g
  have hK : X.K = K := hK
  subst hK
  refine ta_call G FF fun ds b1 H01 H1 vs t1 zo B1 il F2 => ?_
  intro a dx ha hdx hne
  split at F2
  · rename_i hc
    obtain ⟨hn, hcl⟩ := hc
    have h0a : H01 a = none := t1.sub.free ha
    have hst : ∀ c o, H1 c = some o → L2.upd (L2.upd H1 dx (.own a)) a (.ins C dx []) c = some o := fun c o q => by rw [upd_ne (ne_of_none q ha), upd_ne (ne_of_none q hdx)]; exact q
    have sb : Same H01 (L2.upd (L2.upd H1 dx (.own a)) a (.ins C dx [])) := fun c o q => hst c o (t1.sub c o q)
    refine ⟨by rw [List.length_cons, ← il.length]; exact hn, .self a C, z, .slf C :: ds, { b1 with fs := [], ds := [] }, H01, sb, ?_, ?_, .cons (.slf rfl) (il.rebox hcl), ?_⟩
    · intro c q
      cases hc : H1 c with
      | none => exact absurd hc (zo c q)
      | some o => rw [hst c o hc]; simp
    · exact ⟨h0a, dx, [], by rw [upd_same]; rfl, rfl, .nil⟩
    · have kpa : ∀ {H0' H' : Hp}, Tr (.self a C) H01 (L2.upd (L2.upd H1 dx (.own a)) a (.ins C dx [])) H0' H' → ∀ c o, H1 c = some o → H' c = some o := fun t c o q => t.keep c o (hst c o q) fun i => by
        have i : c = a := i
        subst i; rw [ha] at q; cases q
      have nwa : ∀ {H0' H' : Hp}, Tr (.self a C) H01 (L2.upd (L2.upd H1 dx (.own a)) a (.ins C dx [])) H0' H' → ∀ c, H01 c = none → H1 c ≠ none → H0' c = none := fun t c q n => by
        cases hc : H1 c with
        | none => exact absurd hc n
        | some o => exact t.new c q (by rw [hst c o hc]; simp) fun i => by rw [show c = a from i, ha] at hc; cases hc
      unfold mkRX at F2
      revert F2
      generalize F (.slf C :: ds) { b1 with fs := [], ds := [] } = oo
      intro F2
      cases oo with
      | nx ρ' b2 =>
        intro H0' H' t B
        refine ⟨rfl, ?_⟩
        dsimp only at F2
        split at F2
        · rename_i hcl2
          obtain ⟨h1, dx', vs', h2, h3, h4⟩ := B
          have e0 : Same H0' (L2.upd H0' a (.ins C dx' (b2.fs.zip vs'))) := fun c o q => by rw [upd_ne (ne_of_none q h1)]; exact q
          have nw : ∀ c, H01 c = none → H1 c ≠ none → L2.upd H0' a (.ins C dx' (b2.fs.zip vs')) c = none := fun c q n => by
            have hca : c ≠ a := fun q2 => n (by rw [q2]; exact ha)
            rw [upd_ne hca]; exact nwa t c q n
          refine F2 (L2.upd H0' a (.ins C dx' (b2.fs.zip vs'))) H' ⟨t.ext.trans e0, fun c o q => ?_, fun c o q _ => kpa t c o q, fun c n => ?_, fun c q n _ => nw c q n⟩ (B1.move (t.ext.trans e0) (fun c i => nw c (B1.at i).1 (B1.at i).2) fun c o _ q => kpa t c o q) _ ?_
          · by_cases hca : c = a
            · subst hca; rw [upd_same] at q; rw [h2]; exact q
            · rw [upd_ne hca] at q; exact t.sub c o q
          · cases hc : H1 c with
            | none => exact absurd hc n
            | some o => rw [kpa t c o hc]; simp
          · exact .ins upd_same h3 ((h4.mono e0).rebox hcl2)
        · exact F2.elim
      | exc xx b2 =>
        intro cls dd H0' H' t B ex
        obtain ⟨CE, fs⟩ := xx
        have tt : Tr bx H01 H1 H0' H' := ⟨t.ext, t.sub, fun c o q _ => kpa t c o q, fun c n => by
          cases hc : H1 c with
          | none => exact absurd hc n
          | some o => rw [kpa t c o hc]; simp, fun c q n _ => nwa t c q n⟩
        have BB : BoxOk ⟨X.K, bx, z⟩ H0' H' b1 := B1.move t.ext (fun c i => nwa t c (B1.at i).1 (B1.at i).2) fun c o _ q => kpa t c o q
        cases fs with
        | none => exact F2 H0' H' tt BB cls dd ex
        | some q =>
          obtain ⟨ns, es⟩ := q
          dsimp only at F2
          split at F2
          · rename_i hcl2
            obtain ⟨e1, a1, v1, e2, e3, e4, e5, e6⟩ := ex
            exact F2 H0' H' tt BB cls dd ⟨e1, a1, v1, e2, e3, e4, e5, e6.rebox hcl2⟩
          · exact F2.elim
      | _ => exact F2.elim
  · exact F2.elim
end
end Fw
namespace Fw
open PySem PySem.Spec PyProof.Rows L2
/-- answers by class -/
def tblOf (l : List (Addr × Bool)) : Addr → Option Bool := fun C => (l.find? fun p => decide (p.1 = C)).map (·.2)
theorem tblOf_all {l : List (Addr × Bool)} {P : Addr → Bool → Prop} (h : ∀ p ∈ l, P p.1 p.2) : ∀ C r, tblOf l C = some r → P C r := by
  intro C r q
  unfold tblOf at q
  cases hf : l.find? fun p => decide (p.1 = C) with
  | none => rw [hf] at q; cases q
  | some p =>
    rw [hf] at q
    cases q
    have h1 := List.find?_some hf
    have h2 : p.1 = C := of_decide_eq_true h1
    subst h2
    exact h p (List.mem_of_find?_eq_some hf)
/-- what is asked of an exception class of one's own -/
structure XcT (K : PySem.W.Frag) (C : Addr) : Prop where
  ox : OexC K C
  ec : ExcC K C
  cl : (PySem.W.clsIn K C).isSome = true
  xf : XfC K C
end Fw
namespace Fw
open PySem PySem.Spec PyProof.Rows L2
/-! ### new lists by + and by slices, as own ones -/
def addO : D → D → Option (List D)
  | .lst _ xs, .lst _ ys => lim (xs.length + ys.length) (xs ++ ys)
  | _, _ => none
def xAddO (f h : Fx D) : Fx (List D) := fun ρ b => (f ρ b).bind fun x b1 => (h ρ b1).bind fun y b2 => lift (addO x y) b2
def slcO (d : D) (lo hi : Option Int) : Option (List D) := match d with
  | .lst _ xs => some (cutL xs lo hi)
  | _ => none
def xSlcO (f : Fx D) (l h : Fo) : Fx (List D) := fun ρ b => (f ρ b).bind fun d b1 => (l ρ b1).bind fun lo b2 => (h ρ b2).bind fun hi b3 => lift (slcO d lo hi) b3
section
variable {X : Cx} {g : Cfg} {W : WX} {a c e : Expr} {f h : Fx D} {pos p2 : Pos}
theorem po_addL (ha : PX X g W a f) (hc : PX X g W c h) : PN X g W (.BinOp a .Add c pos) (xAddO f h) := by
  refine pe_imp (pe_op op_cat ha hc) ?_
  rintro σ H Q ⟨ρ, b, H0, G, F⟩
  refine ⟨ρ, b, H0, G, F.bind.mono fun x b1 H01 H1 t1 B1 F1 vx ix => ⟨ρ, b1, H01, G.step t1 B1, F1.bind.mono fun y b2 H02 H2 t2 B2 F2 vy iy => ?_⟩⟩
  have ix2 := ix.mono t2.ext
  cases ho : addO x y with
  | none => rw [ho] at F2; exact F2.elim
  | some zs =>
    rw [ho] at F2
    cases ix2 <;> cases iy <;> first | (cases ho; done) | skip
    case lst.lst a1 vs ds z1 h1 q1 l1 b9 us es z2 h2 q2 l2 =>
      obtain ⟨hz, rfl⟩ := lim_some (show lim (ds.length + es.length) (ds ++ es) = some zs from ho)
      refine ⟨a1, b9, vs, us, rfl, rfl, t2.sub _ _ h1, t2.sub _ _ h2, by rw [← l1.length, ← l2.length]; exact sz_of hz, fun p hp => ?_⟩
      have ta := Tr.allocO (o := .lst (vs ++ us)) t2.sub hp
      refine F2 _ _ ta.weak (B2.keep ta) p _ ?_ (t2.sub.free hp) upd_same (l1.app l2)
      cases q : H p with
      | none => rfl
      | some o => exact absurd hp (t2.there p (t1.there p (by rw [q]; simp)))
theorem po_slcL {lo hi : Option Expr} {l u : Fo} (he : PX X g W e f) (hl : PSl X g W lo l) (hh : PSl X g W hi u) : PN X g W (.Subscript e (.Slice lo hi none p2) pos) (xSlcO f l u) := by
  refine pe_imp (pe_slice sl_list he hl hh) ?_
  rintro σ H Q ⟨ρ, b, H0, G, F⟩
  refine ⟨ρ, b, H0, G, F.bind.mono fun d b1 H01 H1 t1 B1 F1 v iv => ⟨ρ, b1, H01, G.step t1 B1, F1.bind.mono fun lo b2 H02 H2 t2 B2 F2 => ⟨ρ, b2, H02, (G.step t1 B1).step t2 B2, F2.bind.mono fun hi b3 H03 H3 t3 B3 F3 => ?_⟩⟩⟩
  have iv3 := (iv.mono t2.ext).mono t3.ext
  cases iv3 with
  | lst hL _ il =>
    rename_i a9 vs ds z1 q1
    refine ⟨_, _, rfl, .inl (.inl (t3.sub _ _ hL)), fun p hp => ?_⟩
    have ta := Tr.allocO (o := .lst (cutV vs lo hi)) t3.sub hp
    refine F3 _ _ ta.weak (B3.keep ta) p _ ?_ (t3.sub.free hp) upd_same (cutL_is il)
    cases q : H p with
    | none => rfl
    | some o => exact absurd hp (t3.there p (t2.there p (t1.there p (by rw [q]; simp))))
  | _ => exact F3.elim
end
end Fw
set_option Elab.async false
set_option linter.all false
set_option maxRecDepth 100000
set_option maxHeartbeats 1000000
/-! Fw18: own lists lent for a while; clear(); try .. except C without a name. -/
namespace Fw
open PySem PySem.Spec PyProof.Rows L2
def atomD : D → Bool
  | .non => true
  | .bl _ => true
  | .int _ => true
  | .str _ => true
  | _ => false
/-- an own list lent as a value: the answer leans on nothing -/
def xTmp (i : Nat) (f : Fx D) : Fx D := fun ρ b => match f (frz i ρ) b with
  | .ok d b1 => if atomD d = true then .ok d b1 else .bad
  | _ => .bad
def kClr (i : Nat) : Fs := fun ρ b => match ρ[i]? with
  | some (.own _) => .nx (ρ.set i (.own [])) b
  | _ => .bad
def kDropO (f : Fx (List D)) : Fs := fun ρ b => (f ρ b).out fun _ b1 => .nx ρ b1
section
variable {X : Cx} {g : Cfg} {W : WX} {e : Expr} {f : Fx D} {fo : Fx (List D)} {x : Str} {pos p p2 apos : Pos}
theorem px_tmp (i : Nat) (hbx : g.bx = .no ∨ ∃ x y, g.bx = .draw x y) (h : PX X g W e f) : PX X g W e (xTmp i f) := by
  refine pe_imp h ?_
  rintro σ H Q ⟨ρ, b, H0, G, F⟩
  unfold xTmp at F
  obtain ⟨H0', s0, G'⟩ := G.frz i
  refine ⟨_, b, H0', G', ?_⟩
  cases hf : f (frz i ρ) b with
  | bad => rw [hf] at F; exact F.elim
  | exc xx b1 => rw [hf] at F; exact F.elim
  | ok d b1 =>
    rw [hf] at F
    dsimp only at F
    split at F
    · rename_i ha
      intro H0z Hz t B v iv
      refine F H0 Hz ⟨Same.refl _, fun c u q => t.sub c u (t.ext c u (s0 c u q)), t.keep, t.there, fun c q _ _ => q⟩ ?_ v ?_
      · have nn : ∀ c, H0z c = none → H0 c = none := fun c q => by
          cases hc : H0 c with
          | none => rfl
          | some u => rw [t.ext c u (s0 c u hc)] at q; cases q
        unfold BoxOk at B ⊢
        rcases hbx with hb | ⟨x1, y1, hb⟩
        · rw [show g.k.bx = _ from hb]; trivial
        · rw [show g.k.bx = _ from hb] at B ⊢
          obtain ⟨b1, b2, b3, b4, b5⟩ := B
          exact ⟨b1, nn _ b2, nn _ b3, b4, b5⟩
      · cases iv <;> first | (cases ha; done) | skip
        · exact .non
        · exact .bl _
        · exact .int _
        · exact .str _
    · exact F.elim
theorem p1_clr (i : Nat) (hN : X.N[i]? = some x := by rfl) (hv : Vis X.env.scope x := by first | exact Or.inl rfl | exact Or.inr (Or.inl rfl) | exact Or.inr (Or.inr rfl)) (hd : (x == ("__debug__" : Str)) = false := by decide)
    (hcd : (x == ("__classdict__" : Str)) = false := by decide) (hbase : attributeBase (.Name x p) "clear" X.env (eval (.Name x p) X.env) = eval (.Name x p) X.env := by rfl) (hline : (apos.endLine == p2.line) = true := by rfl)
    (hsw : swapsWith (.Call (.Attribute (.Name x p) "clear" apos) [] [] p2) none pos.line X.env = pure false := by rfl) : P1 X g W (.Expr (.Call (.Attribute (.Name x p) "clear" apos) [] [] p2) pos) (kClr i) := by
  refine ps_imp (ps_expr (pe_bm0 PySem.F.plainAttrs_list PySem.F.slot_list_clear PySem.F.type_list_clear mt_clear (pe_var hN hv hd hcd) hbase hline) hsw) ?_
  rintro Dd σ H ⟨ρ, b, H0, G, F⟩
  unfold kClr at F
  split at F
  · rename_i ds hi
    obtain ⟨l, vs, e1, h0, hl, il⟩ := G.own hi
    exact ⟨.ref l, e1, .inl ⟨rfl, vs, .inl (.inl hl)⟩, l, vs, rfl, rfl, hl, F _ _ _ (G.upd hi e1 .nil) (Same.refl _)⟩
  · exact F.elim
theorem p1_clrN (h : PN X g W e fo) (hbase : attributeBase e "clear" X.env (eval e X.env) = eval e X.env := by rfl) (hline : (apos.endLine == p2.line) = true := by rfl)
    (hsw : swapsWith (.Call (.Attribute e "clear" apos) [] [] p2) none pos.line X.env = pure false := by rfl) : P1 X g W (.Expr (.Call (.Attribute e "clear" apos) [] [] p2) pos) (kDropO fo) := by
  refine ps_imp (ps_expr (pe_bm0 PySem.F.plainAttrs_list PySem.F.slot_list_clear PySem.F.type_list_clear mt_clear h hbase hline) hsw) ?_
  rintro Dd σ H ⟨ρ, b, H0, G, F⟩
  refine ⟨ρ, b, H0, G, (fin_out G F).mono fun ds b1 H01 H1 t1 B1 F1 l vs hn h0 hl il => ?_⟩
  have G1 := G.step t1 B1
  have hlb : ¬ InB g.bx l := fun zz => by
    have := (G.box.at zz).2
    exact this hn
  have hHs : g.Hs l = none := by
    cases q : g.Hs l with
    | none => rfl
    | some o => exact absurd hn (G.tr.there l (by rw [q]; simp))
  refine ⟨.inl ⟨rfl, vs, .inl (.inl hl)⟩, l, vs, rfl, rfl, hl, F1 σ _ H01 ?_ (Same.refl _)⟩
  refine ⟨⟨G1.tr.ext, fun c u q => ?_, fun c u q ni => ?_, fun c q => ?_, G1.tr.new⟩, G1.len, fun j => ?_, G1.apart, G1.mine, G1.box.out hlb, G1.bin, G1.zin, G1.ln⟩
  · rw [upd_ne (ne_of_none q h0)]; exact G1.tr.sub c u q
  · rw [upd_ne (ne_of_none q hHs)]; exact G1.tr.keep c u q ni
  · by_cases hc : c = l
    · rw [hc, upd_same]; simp
    · rw [upd_ne hc]; exact G1.tr.there c q
  · refine (G1.slot j).mono (Same.refl _) (fun _ _ _ _ q _ => q) fun l' us ho hx hl' => ?_
    have ne : l' ≠ l := fun q => by
      subst q
      exact (G.held ⟨ho, hx⟩).2 hn
    rw [upd_ne ne]; exact hl'
end
end Fw
namespace Fw
open PySem L2
theorem kit_own {K : PySem.W.Frag} {t : Value} {T : Addr} {r : Bool} (hs : PySem.W.subIn K t t = some true) (ic : PySem.W.isClsIn K T = true) (tc : PySem.W.typeIn K (.ref T) = some (.type "type")) (sb : PySem.W.subIn K t (.ref T) = some r) : PySem.W.kitOne K t (.ref T) = some r := by
  unfold PySem.W.kitOne
  by_cases h : (t == Value.ref T) = true
  · rw [if_pos h]
    have e := eq_of_beq h
    subst e
    rw [hs] at sb
    exact sb
  · rw [if_neg h]
    show (if ((PySem.W.clsIn K T).isSome && PySem.W.typeIn K (.ref T) == some (.type "type")) = true then PySem.W.subIn K t (.ref T) else none) = some r
    have h1 : (PySem.W.clsIn K T).isSome = true := ic
    rw [if_pos (by rw [h1, tc]; rfl)]
    exact sb
theorem kit_ve {K : PySem.W.Frag} {C : Addr} (sb : PySem.W.subIn K (.ref C) (.type "ValueError") = some true) : PySem.W.kitOne K (.ref C) (.type "ValueError") = some true := by
  unfold PySem.W.kitOne
  rw [if_neg (by intro h; have e := eq_of_beq h; cases e)]
  show (if PySem.W.kitMeta "ValueError" = true then PySem.W.subIn K (.ref C) (.type "ValueError") else none) = some true
  rw [if_pos (by decide +kernel)]
  exact sb
end Fw
set_option Elab.async false
set_option linter.all false
set_option maxRecDepth 100000
set_option maxHeartbeats 1000000
/-! Fw19: instances that keep a dict. -/
namespace Fw
open PySem PySem.Spec PyProof.Rows L2

/-- the promise of an __init__ that stores its parameters, and {} -/
def spM (C : Addr) (ns : List Str) (kn : Str) : Sp := fun vs H Q _ => ∃ (a do_ : Addr) (us : List V), vs = .ref a :: us ∧ us.length = ns.length ∧ H a = some (.ins C do_ []) ∧
  ∀ (d : Addr) (H2 : Hp), H d = none → H2 a = some (.ins C do_ ((ns ++ [kn]).zip (us ++ [.ref d]))) → H2 d = some (keyO d []) → (∀ c, c ≠ a → c ≠ d → H2 c = H c) → Q .non H2
structure MemD (P : Program) (w : World) (K : PySem.W.Frag) (mg : Str → Option Value) (base : Heap) (k : Nat) (x : Str) (C : Addr) (ns : List Str) (kn : Str) : Prop where
  ex : ∃ (f : Addr) (fd : FuncData) (ps : List Str), Mk K C f ∧ FnOk P w K mg base (L2.CX P w) k f fd ps (spM C ns kn) ∧ Binds K fd ps [] ∧ mg x = some (.ref C)
def bM (ns : List Str) (kn : Str) (ds : List D) : Bx := ⟨[], 0, ns ++ [kn], ds, [], []⟩
def kMemo (i : Nat) (C : Addr) (ns : List Str) (kn : Str) (fl : Fx (List D)) (kk : Fs) : Fs := fun ρ b => (fl ρ b).out fun ds b1 => if ds.length = ns.length ∧ cleanL ds = true then outBack b1 (kk ((cleanE ρ).set i (.val (.mem C))) (bM ns kn ds)) else .bad
section
variable {X : Cx} {g : Cfg} {W : WX} {e : Expr} {es : List Expr} {f h : Fx D} {fl : Fx (List D)} {x t kn nm : Str} {ns : List Str} {pos p p2 cpos tpos : Pos} {C : Addr} {k k2 : Nat} {ss : List Stmt} {kk : Fs}
theorem pb_memo (i : Nat) (cl : MemD X.prog X.w X.K X.mg X.base k x C ns kn) (hr : Room k2 X.A) (hk : k + 1 ≤ k2) (hK : X.K = g.k.K) (hnd : X.N.Nodup) (hpa : PL X g W (e :: es) fl) (h : ∀ a d Hs' H0s', PB X (mkG g.k.K (.memo a C d) g.k.z g.n Hs' H0s') W ss kk)
    (hg : Gl X x := by rfl) (hNi : X.N[i]? = some t := by rfl) (hx : Loc X.env.scope t := by first | exact Or.inl rfl | exact Or.inr rfl) (hdb : (x == ("__debug__" : Str)) = false := by decide)
    (hs : swapsWith (.Call (.Name x p) (e :: es) [] cpos) (some (.Name t tpos)) pos.line X.env = pure false := by rfl)
    (hf : X.fn t = true ∨ X.env.scope.names.lookup t = some .local := by first | exact .inl rfl | exact .inr rfl | assumption)
    (he : starEach (e :: es) X.env = (false, eval e X.env) :: starEach es X.env := by rfl) (hpl : (backTo cpos (starEach es X.env)).any (·.1) = false := by rfl) :
    PB X g W (.Assign [.Name t tpos] (.Call (.Name x p) (e :: es) [] cpos) pos :: ss) (kMemo i C ns kn fl kk) := by
  have hrest : PSs X ss (fun Dd σ H => ∃ a d Hs' H0s', TB (mkG g.k.K (.memo a C d) g.k.z g.n Hs' H0s') W kk Dd σ H) := ⟨fun pins s σ H D I ⟨a, d, Hs', H0s', z⟩ => (h a d Hs' H0s').run pins s σ H D I z⟩
  obtain ⟨fa, fd, ps, M, F1, bb, hm⟩ := cl.ex
  refine pss_imp (pss_cons (ps_set hnd hNi hx (pe_make M F1 (hr.mono hk) hg hm bb .nil passL hpa hdb he hpl) hs hf) hrest) ?_
  rintro Dd σ H ⟨ρ, b, H0, G, FF⟩
  refine ⟨ρ, b, H0, G, (fin_out G FF).mono fun ds b1 H01 H1 t1 B1 F2 vs il => ?_⟩
  have G1 := G.step t1 B1
  intro o dx ho hdx hne
  split at F2
  · rename_i hc
    obtain ⟨hn, hcl⟩ := hc
    refine ⟨o, dx, vs, by rw [List.append_nil], by rw [← il.length]; exact hn, by rw [upd_same], fun d H2 hd h2 h3 h4 => ⟨rfl, ?_⟩⟩
    have hdo : d ≠ o := fun q => by subst q; rw [upd_same] at hd; cases hd
    rw [upd_ne hdo] at hd
    have hddx : d ≠ dx := fun q => by subst q; rw [upd_same] at hd; cases hd
    rw [upd_ne hddx] at hd
    have kp : ∀ c u, H1 c = some u → H2 c = some u := fun c u q => by
      rw [h4 c (ne_of_none q ho) (ne_of_none q hd), upd_ne (ne_of_none q ho), upd_ne (ne_of_none q hdx)]; exact q
    have T : Tr .no H01 H1 H01 H2 := ⟨Same.refl _, fun c u q => kp c u (t1.sub c u q), fun c u q _ => kp c u q, fun c n => by
      cases hc : H1 c with
      | none => exact absurd hc n
      | some u => rw [kp c u hc]; simp, fun c q _ _ => q⟩
    have B' : BoxOk ⟨g.k.K, .memo o C d, g.k.z⟩ H01 H2 (bM ns kn ds) := by
      refine ⟨t1.sub.free ho, dx, vs, h2, by show (ns ++ [kn]).length = _; rw [List.length_append, ← hn, il.length]; rfl, il.rebox hcl, t1.sub.free hd, Ne.symm hdo, [], h3, .nil⟩
    have fr : ∀ c, InB (.memo o C d) c → H1 c = none := by
      rintro c (rfl | rfl)
      · exact ho
      · exact hd
    refine ⟨o, d, H2, H01, (cleanE ρ).set i (.val (.mem C)), bM ns kn ds, H01, (G1.rebox T B').setV (.mem rfl), ?_⟩
    exact FinS.rebox G1 T fr F2
  · exact F2.elim

/-! ### its fields, its methods -/
def xMFld (C : Addr) (f : Str) (h : Fx D) : Fx D := fun ρ b => (h ρ b).bind fun d b1 => match d with
  | .mem C' => if C' = C then lift (fldD b1.fs b1.ds f) b1 else .bad
  | _ => .bad
theorem fldD_get2 {k : Kx} {H : Hp} : ∀ {ns : List Str} {ds : List D} {vs ws : List V} {f : Str} {d : D}, IsL k H ds vs → fldD ns ds f = some d → ∃ v, (ns.zip (vs ++ ws)).lookup f = some v ∧ Is k H d v
  | [], _, _, _, _, _, _, h => by cases h
  | _ :: _, [], _, _, _, _, _, h => by cases h
  | n :: ns, c :: ds, _, ws, f, d, .cons (v := v) (vs := vs) hi hl, h => by
    unfold fldD at h
    by_cases hf : (f == n) = true
    · rw [if_pos hf] at h
      cases h
      refine ⟨v, ?_, hi⟩
      simp only [List.cons_append, List.zip_cons_cons, List.lookup, hf]
    · rw [if_neg hf] at h
      obtain ⟨u, h1, h2⟩ := fldD_get2 (ns := ns) (ws := ws) hl h
      refine ⟨u, ?_, h2⟩
      have hf : (f == n) = false := by simpa using hf
      simp only [List.cons_append, List.zip_cons_cons, List.lookup, hf]
      exact h1
theorem px_mfld {fn : Str} (h : PX X g W e f) (hK : X.K = g.k.K) (c : Cls X.K C) (no : NoAttr X.K C fn) (hb : attributeBase e fn X.env (eval e X.env) = eval e X.env := by rfl) : PX X g W (.Attribute e fn pos) (xMFld C fn f) := by
  refine pe_imp (pe_fld h hb) ?_
  rintro σ H Q ⟨ρ, b, H0, G, F1⟩
  refine ⟨ρ, b, H0, G, F1.bind.mono fun d b1 H01 H1 t1 B1 F2 v iv => ?_⟩
  cases iv with
  | @mem a C' d hbx =>
    dsimp only at F2
    split at F2
    · rename_i hc
      subst hc
      have B := B1
      unfold BoxOk at B
      rw [hbx] at B
      obtain ⟨h0, dx, vs, h1, h2, h3, _⟩ := B
      cases hf : fldD b1.fs b1.ds fn with
      | none => rw [hf] at F2; exact F2.elim
      | some c' =>
        rw [hf] at F2
        obtain ⟨u, q1, q2⟩ := fldD_get2 (ws := [.ref d]) h3 hf
        exact ⟨_, _, _, _, u, rfl, h1, c, no, q1, F2 H01 H1 (Tr.refl t1.sub) B1 u q2⟩
    · exact F2.elim
  | _ => exact F2.elim
def xMMeth (C : Addr) (m : Str) (n : Nat) (F : FD) (f : Fx D) (fl : Fx (List D)) : Fx D := fun ρ b => (f ρ b).bind fun d b1 => match d with
  | .mem C' => if C' = C ∧ b1.fs.contains m = false then (fl ρ b1).bind fun es b2 => gate n (.mem C' :: es) (noX (valO (F (.mem C' :: es) b2))) else .bad
  | _ => .bad
variable {ff : Addr} {fd : FuncData} {ps : List Str} {F : FD} {o : Expr} {m : Str} {pl : Sem Bool} {apos : Pos} {n : Nat}
theorem px_mmeth (ho : PX X g W o f) (c : Cls X.K C) (hm : Meth X.K C m ff) (G : FnOk X.prog X.w X.K X.mg X.base (L2.CX X.prog X.w) k ff fd ps (spD X.K n F)) (hr : Room k X.A) (hK : X.K = g.k.K) (hb : Binds X.K fd ps []) (ha : PL X g W (e :: es) fl)
    (hst : starEach (e :: es) X.env = (false, eval e X.env) :: starEach es X.env := by rfl) (hpl : (backTo pos (starEach es X.env)).any (·.1) = false := by rfl)
    (ht : eval (.Call (.Attribute o m apos) (e :: es) [] pos) X.env = (do
      let u ← eval o X.env
      standAt apos.atName
      let (f, first) ← holding [u] (getMethod u m pl)
      callWith pos f first (backTo pos (starEach (e :: es) X.env)) (backToKw pos (keywordEach [] X.env))) := by rfl) : PX X g W (.Call (.Attribute o m apos) (e :: es) [] pos) (xMMeth C m n F f fl) := by
  refine pe_imp (pe_meth ho c hm G hr hb .nil passL ha hst hpl ht) ?_
  rintro σ H Q ⟨ρ, b, H0, G, F1⟩
  refine ⟨ρ, b, H0, G, F1.bind.mono fun d b1 H01 H1 t1 B1 F2 v iv => ?_⟩
  cases iv with
  | @mem a C' d hbx =>
    dsimp only at F2
    split at F2
    · rename_i hc
      obtain ⟨rfl, hc⟩ := hc
      have B := B1
      unfold BoxOk at B
      rw [hbx] at B
      obtain ⟨h0, dx, vs0, h1, h2, h3, _⟩ := B
      refine ⟨_, _, _, rfl, h1, lookup_zip_none hc, ?_⟩
      refine ta_call (G.step t1 B1) F2 fun es2 b2 H02 H2 vs t2 zo2 B2 il2 F3 => ?_
      obtain ⟨hz, F4⟩ := fin_gate F3
      refine ⟨?_, g.bx, g.k.z, .mem C' :: es2, b2, H02, t2.sub, hK ▸ zo2, hK ▸ B2, .cons ?_ ?_, ?_⟩
      rotate_left
      · exact .mem hbx
      · rw [List.append_nil]; exact hK ▸ il2
      · rw [hK]
        exact (post_val zo2 B2 (noX_fin F4)).mono fun _ _ _ z => z
      · rw [List.append_nil, List.length_cons, ← il2.length]; exact hz
    · exact F2.elim
  | _ => exact F2.elim
theorem pxmm (cl : MetD X.prog X.w X.K X.mg X.base k C m n F) (hr : Room k2 X.A) (hk : k ≤ k2) (hK : X.K = g.k.K) (ho : PX X g W o f) (ha : PL X g W (e :: es) fl)
    (hst : starEach (e :: es) X.env = (false, eval e X.env) :: starEach es X.env := by rfl) (hpl : (backTo pos (starEach es X.env)).any (·.1) = false := by rfl)
    (ht : eval (.Call (.Attribute o m apos) (e :: es) [] pos) X.env = (do
      let u ← eval o X.env
      standAt apos.atName
      let (f, first) ← holding [u] (getMethod u m pl)
      callWith pos f first (backTo pos (starEach (e :: es) X.env)) (backToKw pos (keywordEach [] X.env))) := by rfl) : PX X g W (.Call (.Attribute o m apos) (e :: es) [] pos) (xMMeth C m n F f fl) := by
  obtain ⟨f, fd, ps, G, b, hm⟩ := cl.ex
  exact px_mmeth ho cl.cl hm G (hr.mono hk) hK b ha hst hpl ht

/-! ### its dict -/
mutual
theorem keyV_of {k : Kx} {H : Hp} : ∀ {d : D} {v : V} {n : NestedKey}, Is k H d v → nkD d = some n → KeyV k.K H n v
  | .non, _, _, i, h => by cases i; cases h; exact .none
  | .int i, _, _, q, h => by cases q; cases h; exact .int i
  | .tup ds, _, _, i, h => by
    cases i with
    | tup ht il =>
      have h : (nkDs ds).map NestedKey.tup = some _ := h
      cases hq : nkDs ds with
      | none => rw [hq] at h; cases h
      | some ks =>
        rw [hq] at h; cases h
        obtain ⟨l, q⟩ := keysV_of il hq
        exact .tup ht l q
  | .bl _, _, _, _, h => nomatch h
  | .str _, _, _, _, h => nomatch h
  | .lst _ _, _, _, _, h => nomatch h
  | .ins _ _ _, _, _, _, h => nomatch h
  | .adr _, _, _, _, h => nomatch h
  | .box, _, _, _, h => nomatch h
  | .sql _, _, _, _, h => nomatch h
  | .slf _, _, _, _, h => nomatch h
  | .mem _, _, _, _, h => nomatch h
  | .dls, _, _, _, h => nomatch h
  | .lls, _, _, _, h => nomatch h
  | .rb _, _, _, _, h => nomatch h
  | .dct _ _, _, _, _, h => nomatch h
  | .kd _ _, _, _, _, h => nomatch h
  | .exn _ _ _, _, _, _, h => nomatch h
theorem keysV_of {k : Kx} {H : Hp} : ∀ {ds : List D} {vs : List V} {ks : List NestedKey}, IsL k H ds vs → nkDs ds = some ks → ks.length = vs.length ∧ ∀ (i : Nat) (n : NestedKey) (v : V), ks[i]? = some n → vs[i]? = some v → KeyV k.K H n v
  | [], _, _, il, h => by
    cases il; cases h
    exact ⟨rfl, fun i n v e _ => by simp at e⟩
  | d :: ds, _, _, il, h => by
    cases il with
    | cons hi hl =>
      have h : ((nkD d).bind fun x => (nkDs ds).map fun xs => x :: xs) = some _ := h
      cases hq : nkD d with
      | none => rw [hq] at h; cases h
      | some n0 =>
        cases hq2 : nkDs ds with
        | none => rw [hq, hq2] at h; cases h
        | some ks =>
          rw [hq, hq2] at h; cases h
          obtain ⟨l, q⟩ := keysV_of hl hq2
          refine ⟨by simp [l], fun i n v e1 e2 => ?_⟩
          cases i with
          | zero => simp at e1 e2; subst e1 e2; exact keyV_of hi hq
          | succ i => simp at e1 e2; exact q i n v e1 e2
end
def lookM (mm : List (D × D)) (n : NestedKey) : Option D := (mm.find? fun p => decide (nkD p.1 = some n)).map (·.2)
def stoM (mm : List (D × D)) (n : NestedKey) (kd vd : D) : List (D × D) := if (lookM mm n).isSome then mm.map (fun p => if nkD p.1 = some n then (p.1, vd) else p) else mm ++ [(kd, vd)]
theorem MM.kall {k : Kx} {H : Hp} {xs : List Ent} {mm : List (D × D)} (h : MM k H xs mm) : KAll k.K H xs := by
  induction h with
  | nil => intro x hx; cases hx
  | cons h1 h2 h3 h4 _ ih =>
    intro x hx
    rcases List.mem_cons.mp hx with rfl | hx
    · exact keyV_of h3 h1
    · exact ih x hx
theorem KAll.mono {K : PySem.W.Frag} {H H' : Hp} {xs : List Ent} (e : Same H H') (h : KAll K H xs) : KAll K H' xs := fun x hx => (h x hx).mono e
theorem MM.look {k : Kx} {H : Hp} {xs : List Ent} {mm : List (D × D)} (h : MM k H xs mm) (n : NestedKey) : (kAt xs n = none ∧ lookM mm n = none) ∨ ∃ a v d, kAt xs n = some (a, v) ∧ lookM mm n = some d ∧ Is k H d v := by
  induction h with
  | nil => exact .inl ⟨rfl, rfl⟩
  | @cons n0 a v kd vd xs mm h1 h2 h3 h4 hm ih =>
    by_cases hk : n0 = n
    · subst hk
      exact .inr ⟨a, v, vd, by simp [kAt], by simp [lookM, h1], h4⟩
    · have hk' : ¬ (nkD kd = some n) := fun q => hk (by rw [h1] at q; exact Option.some.inj q)
      rcases ih with ⟨e1, e2⟩ | ⟨a', v', d', e1, e2, i⟩
      · exact .inl ⟨by simpa [kAt, hk] using e1, by simpa [lookM, hk'] using e2⟩
      · exact .inr ⟨a', v', d', by simpa [kAt, hk] using e1, by simpa [lookM, hk'] using e2, i⟩
theorem MM.put {k : Kx} {H : Hp} {xs : List Ent} {mm : List (D × D)} {n : NestedKey} {kd vd : D} {a : Addr} {v : V} (h : MM k H xs mm) (h1 : nkD kd = some n) (h2 : okK n) (h3 : Is k H kd (.ref a)) (h4 : Is k H vd v) : MM k H (kPut xs n a v) (stoM mm n kd vd) := by
  have e : (kAt xs n).isSome = (lookM mm n).isSome := by
    rcases h.look n with ⟨e1, e2⟩ | ⟨_, _, _, e1, e2, _⟩ <;> rw [e1, e2] <;> rfl
  unfold kPut stoM
  rw [e]
  by_cases hc : (lookM mm n).isSome = true
  · rw [if_pos hc, if_pos hc]
    clear e hc
    induction h with
    | nil => exact .nil
    | @cons n0 a0 v0 kd0 vd0 xs mm q1 q2 q3 q4 hm ih =>
      rw [List.map_cons, List.map_cons]
      by_cases hk : n0 = n
      · subst hk
        rw [if_pos rfl, if_pos q1]
        exact .cons q1 q2 q3 h4 ih
      · rw [if_neg hk, if_neg (fun q => hk (by rw [q1] at q; exact Option.some.inj q))]
        exact .cons q1 q2 q3 q4 ih
  · rw [if_neg hc, if_neg hc]
    clear e hc
    induction h with
    | nil => exact .cons h1 h2 h3 h4 .nil
    | cons q1 q2 q3 q4 hm ih => exact .cons q1 q2 q3 q4 ih
end
end Fw
set_option Elab.async false
set_option linter.all false
set_option maxRecDepth 100000
set_option maxHeartbeats 1000000
/-! Fw20: the kept dict asked, read, stored; while; order of data; sorted. -/
namespace Fw
open PySem PySem.Spec PyProof.Rows L2

def isMem (ρ : En) (i : Nat) (C : Addr) : Bool := match ρ[i]? with
  | some (.val (.mem C')) => decide (C' = C)
  | _ => false
theorem Good.mem {g : Cfg} {ρ : En} {b : Bx} {σ : L2.St} {H H0 : Hp} {i : Nat} {C : Addr} (G : Good g ρ b σ H H0) (h : isMem ρ i C = true) : ∃ a d, g.bx = .memo a C d ∧ σ[i]? = some (some (.ref a)) := by
  unfold isMem at h
  split at h
  · rename_i C' hi
    have h := of_decide_eq_true h
    subst h
    obtain ⟨v, e1, iv⟩ := G.val hi
    cases iv with
    | mem hb => exact ⟨_, _, hb, e1⟩
  · cases h
def knOk (b : Bx) (kn : Str) : Bool := decide (b.fs.getLast? = some kn) && !(b.fs.dropLast.contains kn)
theorem lookup_last {kn : Str} {u : V} : ∀ {fs : List Str} {vs : List V}, fs.length = vs.length + 1 → fs.getLast? = some kn → fs.dropLast.contains kn = false → (fs.zip (vs ++ [u])).lookup kn = some u
  | [], _, l, _, _ => by simp at l
  | [f], [], _, h, _ => by simp at h; subst h; simp [List.lookup]
  | f :: f2 :: fs, v :: vs, l, h, c => by
    rw [List.dropLast_cons₂, List.contains_cons, Bool.or_eq_false_iff] at c
    simp only [List.cons_append, List.zip_cons_cons, List.lookup]
    have hf : (kn == f) = false := c.1
    rw [hf]
    exact lookup_last (fs := f2 :: fs) (by simpa using l) (by simpa using h) c.2
  | [f], _ :: _, l, _, _ => by simp at l
  | _ :: _ :: _, [], l, _, _ => by simp at l
/-- the box of an instance that keeps a dict, opened -/
theorem box_mem {k : Kx} {H0 H : Hp} {b : Bx} {a C d : Addr} {kn : Str} (hb : k.bx = .memo a C d) (B : BoxOk k H0 H b) (hk : knOk b kn = true) :
    ∃ dx vs xs, H a = some (.ins C dx (b.fs.zip (vs ++ [.ref d]))) ∧ (b.fs.zip (vs ++ [.ref d])).lookup kn = some (.ref d) ∧ H d = some (keyO d xs) ∧ MM k H0 xs b.mm ∧ (∀ xs' mm', MM k H0 xs' mm' → BoxOk k H0 (L2.upd H d (keyO d xs')) { b with mm := mm' }) := by
  unfold BoxOk at B
  rw [hb] at B
  obtain ⟨h0, dx, vs, h1, h2, h3, h4, h5, xs, h6, h7⟩ := B
  obtain ⟨k1, k2⟩ := Bool.and_eq_true_iff.mp hk
  refine ⟨dx, vs, xs, h1, lookup_last h2 (of_decide_eq_true k1) (by simpa using k2), h6, h7, fun xs' mm' hm => ?_⟩
  unfold BoxOk
  rw [hb]
  exact ⟨h0, dx, vs, by rw [upd_ne h5]; exact h1, h2, h3, h4, h5, xs', upd_same, hm⟩
def okKb (n : NestedKey) : Bool := plainK n && decide (n.depth ≤ 8)
def keyOf (kd : D) : Option NestedKey := match kd with
  | .tup ks => (nkD (.tup ks)).bind fun n => if okKb n then some n else none
  | _ => none
theorem keyOf_some {kd : D} {n : NestedKey} (h : keyOf kd = some n) : nkD kd = some n ∧ okK n ∧ ∀ {k : Kx} {H : Hp} {v : V}, Is k H kd v → ∃ a, v = .ref a := by
  unfold keyOf at h
  split at h
  · rename_i ks
    cases hq : nkD (.tup ks) with
    | none => rw [hq] at h; cases h
    | some m =>
      rw [hq] at h
      simp only [Option.bind_some] at h
      split at h
      · rename_i ho
        cases h
        obtain ⟨o1, o2⟩ := Bool.and_eq_true_iff.mp ho
        refine ⟨rfl, ⟨o1, of_decide_eq_true o2⟩, fun i => ?_⟩
        cases i
        exact ⟨_, rfl⟩
      · cases h
  · cases h
def xMIn (neg : Bool) (i : Nat) (C : Addr) (kn : Str) (f : Fx D) : Fx D := fun ρ b => (f ρ b).bind fun kd b1 => if isMem ρ i C = true ∧ knOk b1 kn = true then (match keyOf kd with
  | some n => .ok (.bl (neg != (lookM b1.mm n).isSome)) b1
  | none => .bad) else .bad
def xMGet (i : Nat) (C : Addr) (kn : Str) (f : Fx D) : Fx D := fun ρ b => if isMem ρ i C = true ∧ knOk b kn = true then (f ρ b).bind fun kd b1 => (if knOk b1 kn = true then (match keyOf kd with
  | some n => lift (lookM b1.mm n) b1
  | none => .bad) else .bad) else .bad
def kMSet (i : Nat) (C : Addr) (kn : Str) (fe fk : Fx D) : Fs := fun ρ b => (fe ρ b).out fun vd b1 => if isMem ρ i C = true ∧ knOk b1 kn = true then (fk ρ b1).out fun kd b2 => (if knOk b2 kn = true then (match keyOf kd with
  | some n => if (stoM b2.mm n kd vd).length ≤ 10000000 then .nx ρ { b2 with mm := stoM b2.mm n kd vd } else .bad
  | none => .bad) else .bad) else .bad
section
variable {X : Cx} {g : Cfg} {W : WX} {e k0 c : Expr} {f h : Fx D} {x kn : Str} {pos p p1 p2 : Pos} {C : Addr} {ss : List Stmt} {kk : Fs} {t : Fx Bool}
theorem tx_mIn {neg : Bool} (i : Nat) (hK : X.K = g.k.K) (cl : Cls X.K C) (no : NoAttr X.K C kn) {σ : L2.St} {H : Hp} {Q : VK} (z : TX g W (xMIn neg i C kn f) σ H Q) : tOp (rInK neg X.K) (TX g W f) (tFld X.K (tVar i) kn) σ H Q := by
  obtain ⟨ρ, b, H0, G, F⟩ := z
  refine ⟨ρ, b, H0, G, F.bind.mono fun kd b1 H01 H1 t1 B1 F1 v iv => ?_⟩
  have G1 := G.step t1 B1
  split at F1
  · rename_i hc
    obtain ⟨a, d, hb, e1⟩ := G1.mem hc.1
    obtain ⟨dx, vs, xs, h1, h2, h3, h4, _⟩ := box_mem hb B1 hc.2
    cases hk : keyOf kd with
    | none => simp only [hk] at F1; exact F1.elim
    | some n =>
      simp only [hk] at F1
      obtain ⟨n1, n2, n3⟩ := keyOf_some hk
      obtain ⟨ak, rfl⟩ := n3 iv
      have hs : (kAt xs n).isSome = (lookM b1.mm n).isSome := by
        rcases h4.look n with ⟨q1, q2⟩ | ⟨_, _, _, q1, q2, _⟩ <;> rw [q1, q2] <;> rfl
      refine ⟨_, e1, a, C, dx, _, _, rfl, h1, cl, no, h2, d, xs, ak, n, rfl, rfl, h3, hK ▸ h4.kall.mono t1.sub, hK ▸ (keyV_of iv n1).mono t1.sub, n2, ?_⟩
      rw [hs]
      exact F1 _ _ (Tr.refl t1.sub) B1 _ (.bl _)
  · exact F1.elim
theorem px_mIn (i : Nat) (hu : X.A.units + 64 < cLine) (hK : X.K = g.k.K) (cl : Cls X.K C) (no : NoAttr X.K C kn) (hk : PX X g W k0 f) (hN : X.N[i]? = some x := by rfl) (hv : Vis X.env.scope x := by first | exact Or.inl rfl | exact Or.inr (Or.inl rfl) | exact Or.inr (Or.inr rfl)) (hd : (x == ("__debug__" : Str)) = false := by decide)
    (hcd : (x == ("__classdict__" : Str)) = false := by decide) (hb : attributeBase (.Name x p) kn X.env (eval (.Name x p) X.env) = eval (.Name x p) X.env := by rfl) : PQ X g W (.Compare k0 [.In] [.Attribute (.Name x p) kn p1] pos) (xT (xMIn false i C kn f)) :=
  pt_imp (pt_cmpR (op_inK hu) hk (pe_fld (pe_var hN hv hd hcd) hb) (by first | exact nomark _ | rfl)) fun _ _ _ => tt_test fun _ _ _ => tx_mIn i hK cl no
theorem px_mNotIn (i : Nat) (hu : X.A.units + 64 < cLine) (hK : X.K = g.k.K) (cl : Cls X.K C) (no : NoAttr X.K C kn) (hk : PX X g W k0 f) (hN : X.N[i]? = some x := by rfl) (hv : Vis X.env.scope x := by first | exact Or.inl rfl | exact Or.inr (Or.inl rfl) | exact Or.inr (Or.inr rfl)) (hd : (x == ("__debug__" : Str)) = false := by decide)
    (hcd : (x == ("__classdict__" : Str)) = false := by decide) (hb : attributeBase (.Name x p) kn X.env (eval (.Name x p) X.env) = eval (.Name x p) X.env := by rfl) : PQ X g W (.Compare k0 [.NotIn] [.Attribute (.Name x p) kn p1] pos) (xT (xMIn true i C kn f)) :=
  pt_imp (pt_cmpR (op_notInK hu) hk (pe_fld (pe_var hN hv hd hcd) hb) (by first | exact nomark _ | rfl)) fun _ _ _ => tt_test fun _ _ _ => tx_mIn i hK cl no
theorem px_mGet (i : Nat) (hu : X.A.units + 64 < cLine) (hK : X.K = g.k.K) (cl : Cls X.K C) (no : NoAttr X.K C kn) (hk : PX X g W k0 f) (hN : X.N[i]? = some x := by rfl) (hv : Vis X.env.scope x := by first | exact Or.inl rfl | exact Or.inr (Or.inl rfl) | exact Or.inr (Or.inr rfl)) (hd : (x == ("__debug__" : Str)) = false := by decide)
    (hcd : (x == ("__classdict__" : Str)) = false := by decide) (hb : attributeBase (.Name x p) kn X.env (eval (.Name x p) X.env) = eval (.Name x p) X.env := by rfl) (hs : PlainIx k0 := by exact fun _ _ => rfl) : PX X g W (.Subscript (.Attribute (.Name x p) kn p1) k0 pos) (xMGet i C kn f) := by
  refine pe_imp (pe_ix (ix_K hu) (pe_fld (pe_var hN hv hd hcd) hb) hk hs) ?_
  rintro σ H Q ⟨ρ, b, H0, G, F⟩
  unfold xMGet at F
  split at F
  · rename_i hc
    obtain ⟨a, d, hb, e1⟩ := G.mem hc.1
    obtain ⟨dx, vs, xs, h1, h2, _, _, _⟩ := box_mem hb G.box hc.2
    refine ⟨_, e1, a, C, dx, _, _, rfl, h1, cl, no, h2, ρ, b, H0, G, F.bind.mono fun kd b1 H01 H1 t1 B1 F1 v iv => ?_⟩
    split at F1
    · rename_i hc1
      obtain ⟨dx', vs', xs', h1', h2', h3, h4, _⟩ := box_mem hb B1 hc1
      cases hk : keyOf kd with
      | none => simp only [hk] at F1; exact F1.elim
      | some n =>
        simp only [hk] at F1
        obtain ⟨n1, n2, n3⟩ := keyOf_some hk
        obtain ⟨ak, rfl⟩ := n3 iv
        rcases h4.look n with ⟨q1, q2⟩ | ⟨a2, v2, d2, q1, q2, i2⟩
        · rw [q2] at F1; exact F1.elim
        · rw [q2] at F1
          exact ⟨d, xs', ak, n, a2, v2, rfl, rfl, h3, hK ▸ h4.kall.mono t1.sub, hK ▸ (keyV_of iv n1).mono t1.sub, n2, q1, F1 _ _ (Tr.refl t1.sub) B1 _ i2⟩
    · exact F1.elim
  · exact F.elim
theorem p1_mSet (i : Nat) (hu : X.A.units + 64 < cLine) (hK : X.K = g.k.K) (cl : Cls X.K C) (no : NoAttr X.K C kn) (he : PX X g W e f) (hk : PX X g W k0 h) (hN : X.N[i]? = some x := by rfl) (hv : Vis X.env.scope x := by first | exact Or.inl rfl | exact Or.inr (Or.inl rfl) | exact Or.inr (Or.inr rfl)) (hd : (x == ("__debug__" : Str)) = false := by decide)
    (hcd : (x == ("__classdict__" : Str)) = false := by decide) (hb : attributeBase (.Name x p) kn X.env (eval (.Name x p) X.env) = eval (.Name x p) X.env := by rfl)
    (hs : swapsWithSole [.Subscript (.Attribute (.Name x p) kn p1) k0 p2] e pos.line X.env = pure false := by rfl) (hw : swappedStores [.Subscript (.Attribute (.Name x p) kn p1) k0 p2] e X.env = pure none := by rfl)
    (h1 : (assignEach [.Subscript (.Attribute (.Name x p) kn p1) k0 p2] X.env).map (·.2) = [assign (.Subscript (.Attribute (.Name x p) kn p1) k0 p2) X.env] := by rfl)
    (hA : ∀ v, assign (.Subscript (.Attribute (.Name x p) kn p1) k0 p2) X.env v = (do
      let ou ← holding [v] (eval (.Attribute (.Name x p) kn p1) X.env)
      let iw ← holding [v, ou] (eval k0 X.env)
      standAt p2
      holding [v, ou, iw] (setItem ou iw v)
      release [v, ou, iw] []) := by intro _; rfl) : P1 X g W (.Assign [.Subscript (.Attribute (.Name x p) kn p1) k0 p2] e pos) (kMSet i C kn f h) := by
  refine ps_imp (ps_asg he (pg_sub (pe_fld (pe_var hN hv hd hcd) hb) hk (set_K hu) hA) hs hw h1) ?_
  rintro Dd σ H ⟨ρ, b, H0, G, F⟩
  refine ⟨ρ, b, H0, G, (fin_out G F).mono fun vd b1 H01 H1 t1 B1 F1 v iv => ?_⟩
  have G1 := G.step t1 B1
  split at F1
  · rename_i hc
    obtain ⟨a, d, hb, e1⟩ := G1.mem hc.1
    obtain ⟨dx, vs, xs, q1, q2, _, _, _⟩ := box_mem hb B1 hc.2
    refine ⟨_, e1, a, C, dx, _, _, rfl, q1, cl, no, q2, ρ, b1, H01, G1, (fin_out G1 F1).mono fun kd b2 H02 H2 t2 B2 F2 u iu => ?_⟩
    have G2 := G1.step t2 B2
    split at F2
    · rename_i hc1
      obtain ⟨dx', vs', xs', h1', h2', h3, h4, h5⟩ := box_mem hb B2 hc1
      cases hk : keyOf kd with
      | none => simp only [hk] at F2; exact F2.elim
      | some n =>
        simp only [hk] at F2
        obtain ⟨n1, n2, n3⟩ := keyOf_some hk
        obtain ⟨ak, rfl⟩ := n3 iu
        split at F2
        · rename_i hz
          have mp := h4.put n1 n2 iu (iv.mono t2.ext)
          have hl : (kPut xs' n ak v).length = (stoM b2.mm n kd vd).length := by
            clear F2 hz
            generalize stoM b2.mm n kd vd = m2 at mp
            generalize kPut xs' n ak v = x2 at mp
            induction mp with
            | nil => rfl
            | cons _ _ _ _ _ ih => simp [ih]
          exact ⟨d, xs', ak, n, rfl, rfl, h3, hK ▸ h4.kall.mono t2.sub, hK ▸ (keyV_of iu n1).mono t2.sub, n2, by rw [hl]; exact hz, F2 _ _ _ (G2.inBox (by rw [show g.bx = _ from hb]; exact .inr rfl) (h5 _ _ mp)) (Same.refl _)⟩
        · exact F2.elim
    · exact F2.elim
  · exact F1.elim

/-! ### while -/
def whileS (t : Fx Bool) (k : Fs) : Nat → Fs
  | 0, _, _ => .bad
  | n + 1, ρ, b => (t ρ b).out fun c b1 => if c then (match k ρ b1 with
    | .nx ρ2 b2 => whileS t k n ρ2 b2
    | .ct ρ2 b2 => whileS t k n ρ2 b2
    | .bk ρ2 b2 => .nx ρ2 b2
    | o => o) else .nx ρ b1
theorem p1_while (n : Nat) {body : List Stmt} {k : Fs} (hp : PassesOwn (model X.prog X.w) X.A X.env X.xe) (ht : PQ X g W c t) (hb : PB X g W body k) : P1 X g W (.While c body [] pos) (whileS t k n) := by
  refine ps_imp (ps_while hp ht hb) ?_
  rintro Dd σ H ⟨ρ, b, H0, G, F⟩
  refine ⟨fun m σ H => ∃ ρ b H0, Good g ρ b σ H H0 ∧ FinS g W H0 (whileS t k m ρ b) Dd, ⟨n, ρ, b, H0, G, F⟩, ?_⟩
  rintro m σ H ⟨ρ, b, H0, G, F⟩
  cases m with
  | zero => exact F.elim
  | succ m =>
    refine ⟨ρ, b, H0, G, (fin_out G F).mono fun cc b1 H01 H1 t1 B1 F1 => ?_⟩
    cases cc with
    | false => exact F1 σ H1 H01 (G.step t1 B1) (Same.refl _)
    | true =>
      rw [if_pos rfl]
      refine ⟨fun σ H => ∃ ρ b H0, Good g ρ b σ H H0 ∧ FinS g W H0 (whileS t k m ρ b) Dd, fun σ' H' z => ⟨m, Nat.lt_succ_self m, z⟩, ρ, b1, H01, G.step t1 B1, ?_⟩
      rw [if_pos rfl] at F1
      cases hk : k ρ b1 with
      | nx ρ2 b2 => rw [hk] at F1; exact fun σ' H' H0' G' q => ⟨ρ2, b2, H0', G', FinS.base F1 q⟩
      | ct ρ2 b2 => rw [hk] at F1; exact fun σ' H' H0' G' q => ⟨ρ2, b2, H0', G', FinS.base F1 q⟩
      | bk ρ2 b2 => rw [hk] at F1; exact F1
      | rt d b2 => rw [hk] at F1; exact F1
      | rto ds b2 => rw [hk] at F1; exact F1
      | exc x b2 => rw [hk] at F1; exact F1
      | bad => rw [hk] at F1; exact F1
end

/-! ### order of data -/
def nonN : PyData → Bool
  | .none => false
  | _ => true
def cmpP (f : PyData → PyData → Bool) (x y : D) : Option D := match toPy x, toPy y with
  | some p, some q => if PySem.W.alike p q = true ∧ p.depth ≤ 60 ∧ nonN p = true then some (.bl (f p q)) else none
  | _, _ => none
abbrev ltT := cmpP fun d e => PySem.W.dataLt d e
abbrev gtT := cmpP fun d e => PySem.W.dataLt e d
abbrev leT := cmpP fun d e => !PySem.W.dataLt e d
abbrev geT := cmpP fun d e => !PySem.W.dataLt d e
theorem opd_cmpP {k : Kx} {f : PyData → PyData → Bool} : OpD k (rCmpP f k.K) (cmpP f) := by
  intro H0 H x y z vx vy s zo ix iy h Q q
  unfold cmpP at h
  split at h
  · rename_i p r hp hr
    split at h
    · rename_i hc
      cases h
      exact ⟨p, r, dp_of (ix.mono s) hp, dp_of (iy.mono s) hr, hc.1, (fun e => by rw [e] at hc; cases hc.2.2), hc.2.1, q _ H0 H (Tr.refl s) (.bl _)⟩
    · cases h
  · cases h
/-! ### sorted -/
def pyOf (d : D) : PyData := (toPy d).getD .none
def sortB (ps : List PyData) : Bool := (ps.all fun d => match d with
  | .tuple (_ :: _) => true
  | _ => false) || ps.all fun d => match d with
  | .none => false
  | .tuple _ => false
  | _ => true
def alikeA (ps : List PyData) : Bool := ps.all fun x => ps.all fun y => PySem.W.alike x y
def sortDs (ds : List D) : List D := ds.mergeSort (PySem.W.dataLe false pyOf)
def srt1 : List D → Option (List D)
  | [.lst _ ds] => (toPys ds).bind fun ps => if alikeA ps = true ∧ sortB ps = true ∧ PyData.depthAll ps ≤ 60 then some (sortDs ds) else none
  | _ => none
theorem toPys_map : ∀ {ds : List D} {ps : List PyData}, toPys ds = some ps → ps = ds.map pyOf
  | [], _, h => by cases h; rfl
  | d :: ds, _, h => by
    have h : ((toPy d).bind fun x => (toPys ds).map fun xs => x :: xs) = some _ := h
    cases q : toPy d with
    | none => rw [q] at h; cases h
    | some p =>
      cases q2 : toPys ds with
      | none => rw [q, q2] at h; cases h
      | some ps => rw [q, q2] at h; cases h; rw [toPys_map q2, List.map_cons]; show p :: _ = pyOf d :: _; unfold pyOf; rw [q]; rfl
theorem depthAll_mem : ∀ {ps : List PyData} {p : PyData}, p ∈ ps → p.depth ≤ PyData.depthAll ps
  | q :: ps, p, h => by
    show p.depth ≤ max q.depth (PyData.depthAll ps)
    rcases List.mem_cons.mp h with rfl | h
    · omega
    · have := depthAll_mem h
      omega
theorem sortB_ok {ps : List PyData} (h : sortB ps = true) : PySem.W.Sortable ps := by
  rcases Bool.or_eq_true_iff.mp h with h | h
  · refine .inl fun d hd => ?_
    have := List.all_eq_true.mp h d hd
    split at this
    · exact ⟨_, _, rfl⟩
    · cases this
  · refine .inr fun d hd => ⟨fun e => ?_, fun xs e => ?_⟩
    · have := List.all_eq_true.mp h d hd
      rw [e] at this; cases this
    · have := List.all_eq_true.mp h d hd
      rw [e] at this; cases this
theorem alikeA_ok {ps : List PyData} (h : alikeA ps = true) : PySem.W.AllAlike ps := fun d hd d' hd' => List.all_eq_true.mp (List.all_eq_true.mp h d hd) d' hd'
theorem isL_of_zip {k : Kx} {H : Hp} : ∀ {zs : List (D × V)}, (∀ z ∈ zs, Is k H z.1 z.2) → IsL k H (zs.map (·.1)) (zs.map (·.2))
  | [], _ => .nil
  | z :: zs, h => .cons (h z List.mem_cons_self) (isL_of_zip fun q hq => h q (List.mem_cons_of_mem _ hq))
theorem zip_isL {k : Kx} {H : Hp} : ∀ {ds : List D} {vs : List V}, IsL k H ds vs → ∀ z ∈ ds.zip vs, Is k H z.1 z.2
  | _, _, .nil, z, h => by simp at h
  | _, _, .cons h1 l, z, h => by
    rw [List.zip_cons_cons] at h
    rcases List.mem_cons.mp h with rfl | h
    · exact h1
    · exact zip_isL l z h
section
variable {X : Cx} {g : Cfg} {W : WX} {e : Expr} {fl : Fx (List D)} {pos : Pos}
theorem po_sorted (hu : X.A.units + 64 < cLine) (hK : X.K = g.k.K) (hg : Gl X "sorted") (hm : X.mg "sorted" = none) {p3 : Pos} (ha : PL X g W [e] fl) (he : starEach [e] X.env = (false, eval e X.env) :: starEach [] X.env := by rfl) (hpl : (backTo pos (starEach [] X.env)).any (·.1) = false := by rfl) :
    PN X g W (.Call (.Name "sorted" p3) [e] [] pos) (xSrc srt1 fl) := by
  refine pe_imp (pe_callB (cr_sortP hu) hg hm (by decide +kernel) ha (by decide) (by decide) he hpl) ?_
  rintro σ H Q ⟨ρ, b, H0, G, F⟩
  refine ⟨ρ, b, H0, G, F.bind.mono fun xs b1 H01 H1 t1 B1 F1 vs il => ?_⟩
  cases ho : srt1 xs with
  | none => rw [ho] at F1; exact F1.elim
  | some zs =>
    rw [ho] at F1
    unfold srt1 at ho
    split at ho
    · rename_i ds
      cases il with
      | cons i l =>
        cases l
        cases i with
        | @lst a us ds z hl hz il =>
          cases hp : toPys ds with
          | none => rw [hp] at ho; cases ho
          | some ps =>
            rw [hp] at ho
            simp only [Option.bind_some] at ho
            split at ho
            · rename_i hc
              cases ho
              have hps := toPys_map hp
              have hlen := il.length
              let ts := ds.zip us
              let f : D × V → V × PyData := fun z => (z.2, pyOf z.1)
              have e1 : (ts.map f).map (·.1) = us := by
                rw [List.map_map]
                exact List.map_snd_zip (by omega)
              have e2 : (ts.map f).map (·.2) = ps := by
                rw [List.map_map, hps]
                have : ts.map Prod.fst = ds := List.map_fst_zip (by omega)
                conv => rhs; rw [← this, List.map_map]
                rfl
              have e3 : (ts.mergeSort (PySem.W.dataLe false fun z => pyOf z.1)).map f = (ts.map f).mergeSort (PySem.W.dataLe false (·.2)) := List.map_mergeSort fun a _ b _ => rfl
              have e4 : (ts.mergeSort (PySem.W.dataLe false fun z => pyOf z.1)).map Prod.fst = sortDs ds := by
                have : ts.map Prod.fst = ds := List.map_fst_zip (by omega)
                unfold sortDs
                conv => rhs; rw [← this]
                exact List.map_mergeSort fun a _ b _ => rfl
              have i0 := zip_isL il
              refine ⟨a, ts.map f, rfl, ?_, fun b hb => ?_, by rw [e2]; exact alikeA_ok hc.1, by rw [e2]; exact sortB_ok hc.2.1, fun b hb => ?_, fun p hp0 => ?_⟩
              · rw [e1, hK]; exact .inl (.inl (t1.sub _ _ hl))
              · obtain ⟨z, hz, rfl⟩ := List.mem_map.mp hb
                obtain ⟨i, hi⟩ := List.getElem?_of_mem (List.of_mem_zip hz).1
                obtain ⟨q, _, hq⟩ := toPys_get hp hi
                have : pyOf z.1 = q := by unfold pyOf; rw [hq]; rfl
                show Dp X.K H1 z.2 (pyOf z.1)
                rw [this, hK]
                exact dp_of ((i0 z hz).mono t1.sub) hq
              · have hb2 : b.2 ∈ (ts.map f).map (·.2) := List.mem_map.mpr ⟨b, hb, rfl⟩
                rw [e2] at hb2
                exact Nat.le_trans (depthAll_mem hb2) hc.2.2
              · rw [← e3, List.map_map]
                have ta := Tr.allocO (o := .lst ((ts.mergeSort (PySem.W.dataLe false fun z => pyOf z.1)).map ((·.1) ∘ f))) t1.sub hp0
                have i1 : IsL g.k H01 (sortDs ds) ((ts.mergeSort (PySem.W.dataLe false fun z => pyOf z.1)).map ((·.1) ∘ f)) := by
                  rw [← e4]
                  exact isL_of_zip fun z hz => i0 z (List.mem_mergeSort.mp hz)
                refine F1 _ _ ta.weak (B1.keep ta) p _ ?_ (t1.sub.free hp0) upd_same i1
                cases q : H p with
                | none => rfl
                | some o => exact absurd hp0 (t1.there p (by rw [q]; simp))
            · cases ho
    · cases ho
end
end Fw
namespace Fw
open PySem PySem.Spec PyProof.Rows L2
section
variable {P : Program} {w : World} {K : PySem.W.Frag} {mg : Str → Option Value} {base : Heap}
theorem putF_len (f : Str) (v : V) : ∀ fs : List (Str × V), (putF f v fs).length ≤ fs.length + 1
  | [] => Nat.le_refl _
  | (g, u) :: fs => by
    unfold putF
    split
    · simp
    · have := putF_len f v fs; simp; omega
/-- of a method that calls itself: at level 0 nothing is promised -/
theorem metD0 {k : Nat} {C : Addr} {x qual : Str} {st : Stmt} {f : Addr} {fd : FuncData} {N ps : List Str} (c : Cls K C) (F : Fun K x qual st f fd) (S : FnScope N ps (defScope st)) (hm : Meth K C x f) (b : Binds K fd ps []) : MetD P w K mg base k C x ps.length (fun _ _ => .bad) :=
  ⟨⟨f, fd, ps, ⟨fun vs H Q E h => h.1, fun A stack s H args us vs Q E hr e b r h => by
    obtain ⟨_, bx, z, ds, bb, H0, _, _, _, _, post⟩ := h
    exact post.elim⟩, b, hm⟩, c⟩
end
end Fw
set_option Elab.async false
set_option linter.all false
set_option maxRecDepth 100000
set_option maxHeartbeats 1000000
/-! Fw21: try .. except C, no name. -/
namespace Fw
open PySem PySem.Spec PyProof.Rows L2
def kTryOnly (tbl : Addr → Option Bool) (kb kh : Fs) : Fs := fun ρ b => match kb ρ b with
  | .exc x b1 => (match tbl x.cls with
    | some true => (match kh (ρ.map fun _ => Sl.no) b1 with
      | .rt d b2 => .rt d b2
      | _ => .bad)
    | some false => .exc x b1
    | none => .bad)
  | o => o
section
variable {X : Cx} {g : Cfg} {W : WX} {x : Str} {cv : Value} {body suite : List Stmt} {b₀ : Stmt} {np pos pos' : Pos} {kb kh : Fs} {tbl : Addr → Option Bool}
theorem p1_tryOnly (hs : X.stack = X.env :: X.outer) (hf : X.env.frame = some X.env.locals) (hc : Names X x cv) (tk : Takes X W) (hT : ExmT X.K cv tbl)
    (hb : ∀ (W' : WX) (pn : List (Addr × Obj)) (xe : Value → Shared → Prop), Takes (X.tr pn xe) W' → PB (X.tr pn xe) g W' body kb)
    (hsu : ∀ (a : Addr) (oe : Obj) (pn : List (Addr × Obj)), PB (X.suite a ((a, oe) :: pn)) g W0 (b₀ :: suite) kh) :
    P1 X g W (.Try body [.ExceptHandler (some (.Name x np)) none (b₀ :: suite) pos'] [] [] pos) (kTryOnly tbl kb kh) := by
  let ts : Addr → Value → Option Addr → TS := fun a cls d Dd σ H => TB g W0 kh Dd σ H
  refine ps_imp (ps_try_only (tb := fun W' => TB g W' kb) (ts := ts) (Wout := W) hs hf hc tk (fun W' pn xe t _ => hb W' pn xe t) fun a oe cls d pn hz hff => hsu a oe pn) ?_
  rintro Dd σ H ⟨ρ, b, H0, G, F⟩
  refine ⟨ρ, b, H0, G, ?_⟩
  unfold kTryOnly at F
  cases hk : kb ρ b with
  | exc xx b1 =>
    rw [hk] at F
    dsimp only at F
    intro cls dd τ H1 H01 hn T B ex
    have hcls := ex.1
    cases ht : tbl xx.cls with
    | none => rw [ht] at F; exact F.elim
    | some r =>
      rw [ht] at F
      refine ⟨r, by rw [hcls]; exact hT _ r ht, fun hr a ha => ?_, fun hr => ?_⟩
      · subst hr
        dsimp only at F
        have no : ∀ {j s}, (ρ.map fun _ => Sl.no)[j]? = some s → s = Sl.no := fun {j s} q => by
          rw [List.getElem?_map] at q
          cases hr : ρ[j]? with
          | none => rw [hr] at q; cases q
          | some s' => rw [hr] at q; exact (Option.some.inj q).symm
        have G1 : Good g (ρ.map fun _ => Sl.no) b1 τ H1 H01 := by
          refine ⟨T, by rw [List.length_map, G.len, G.ln, hn], fun j => ?_, fun i j l o => ?_, fun i l o => ?_, B, G.bin, G.zin, hn⟩
          · cases hs : (ρ.map fun _ => Sl.no)[j]? with
            | none => trivial
            | some s => rw [no hs]; trivial
          · obtain ⟨⟨ds, e, eo⟩, _⟩ := o
            rw [no e] at eo; cases eo
          · obtain ⟨⟨ds, e, eo⟩, _⟩ := o
            rw [no e] at eo; cases eo
        refine ⟨_, b1, H01, G1, ?_⟩
        revert F
        generalize kh (ρ.map fun _ => Sl.no) b1 = oo
        intro F
        cases oo with
        | rt d b2 => exact F
        | _ => exact F.elim
      · subst hr
        exact F _ _ τ H1 H01 hn T B ex
  | nx ρ' b' => rw [hk] at F; exact F
  | rt d b' => rw [hk] at F; exact F
  | rto d b' => rw [hk] at F; exact F
  | bk ρ' b' => rw [hk] at F; exact F
  | ct ρ' b' => rw [hk] at F; exact F
  | bad => rw [hk] at F; exact F
end
end Fw
set_option Elab.async false
set_option linter.all false
set_option maxRecDepth 100000
set_option maxHeartbeats 1000000
/-! Fw22: the lists that stand are marked; a list that is new behind a mark is cleared. -/
namespace Fw
open PySem PySem.Spec PyProof.Rows L2

mutual
/-- all lists marked -/
def mkT : D → D
  | .tup xs => .tup (mkTs xs)
  | .lst _ xs => .lst true (mkTs xs)
  | .ins C ns xs => .ins C ns (mkTs xs)
  | .sql xs => .sql (mkTs xs)
  | .dct fs xs => .dct fs (mkTs xs)
  | .exn C fs xs => .exn C fs (mkTs xs)
  | .kd ks vs => .kd (mkTs ks) (mkTs vs)
  | .non => .non
  | .bl b => .bl b
  | .int i => .int i
  | .str x => .str x
  | .adr a => .adr a
  | .box => .box
  | .slf C => .slf C
  | .mem C => .mem C
  | .dls => .dls
  | .lls => .lls
  | .rb n => .rb n
def mkTs : List D → List D
  | [] => []
  | d :: ds => mkT d :: mkTs ds
end
mutual
/-- each list in it is marked -/
def oldD : D → Bool
  | .tup xs => oldL xs
  | .lst z xs => z && oldL xs
  | .ins _ _ xs => oldL xs
  | .sql _ => false
  | .dct _ xs => oldL xs
  | .exn _ _ _ => false
  | .kd _ _ => false
  | _ => true
def oldL : List D → Bool
  | [] => true
  | d :: ds => oldD d && oldL ds
end
mutual
theorem nk_mark : ∀ d : D, nkD (mkT d) = nkD d
  | .tup xs => by show (nkDs (mkTs xs)).map NestedKey.tup = _; rw [nks_mark xs]; rfl
  | .lst _ _ => rfl
  | .ins _ _ _ => rfl
  | .sql _ => rfl
  | .dct _ _ => rfl
  | .exn _ _ _ => rfl
  | .kd _ _ => rfl
  | .non => rfl
  | .bl _ => rfl
  | .int _ => rfl
  | .str _ => rfl
  | .adr _ => rfl
  | .box => rfl
  | .slf _ => rfl
  | .mem _ => rfl
  | .dls => rfl
  | .lls => rfl
  | .rb _ => rfl
theorem nks_mark : ∀ ds : List D, nkDs (mkTs ds) = nkDs ds
  | [] => rfl
  | d :: ds => by
    show ((nkD (mkT d)).bind fun x => (nkDs (mkTs ds)).map fun xs => x :: xs) = _
    rw [nk_mark d, nks_mark ds]; rfl
end
theorem ksr_mark {ks : List D} {xs : List Ent} (r : KsR ks xs) : KsR (mkTs ks) xs := by
  refine ⟨?_, r.2⟩
  rw [← r.1]
  clear r
  induction ks with
  | nil => rfl
  | cons d ds ih =>
    show nkD (mkT d) :: (mkTs ds).map nkD = _
    rw [nk_mark, ih]; rfl
section
variable {K : PySem.W.Frag} {bx : Bk} {z z' : Addr → Bool} {H H' : Hp}
mutual
theorem Is.mark (hz : ∀ a vs, H a = some (.lst vs) → z' a = true) : ∀ {d : D} {v : V}, Is ⟨K, bx, z⟩ H d v → Is ⟨K, bx, z'⟩ H (mkT d) v
  | _, _, .non => .non
  | _, _, .bl b => .bl b
  | _, _, .int b => .int b
  | _, _, .str b => .str b
  | _, _, .tup h l => .tup h (IsL.mark hz l)
  | _, _, .lst h q l => .lst h (hz _ _ h) (IsL.mark hz l)
  | _, _, .ins h n l => by
    have e := (IsL.mark hz l).length
    exact .ins h (by have := l.length; omega) (IsL.mark hz l)
  | _, _, .adr a => .adr a
  | _, _, .sql h l => .sql h (IsL.mark hz l)
  | _, _, .box h => .box h
  | _, _, .slf h => .slf h
  | _, _, .mem h => .mem h
  | _, _, .dls h => .dls h
  | _, _, .lls h => .lls h
  | _, _, .rb h => .rb h
  | _, _, .dct h q l => .dct h q (IsL.mark hz l)
  | _, _, .exn hb h q l => .exn hb h q (IsL.mark hz l)
  | _, _, .kd h r l1 l2 => .kd h (ksr_mark r) (IsL.mark hz l1) (IsL.mark hz l2)
theorem IsL.mark (hz : ∀ a vs, H a = some (.lst vs) → z' a = true) : ∀ {ds : List D} {vs : List V}, IsL ⟨K, bx, z⟩ H ds vs → IsL ⟨K, bx, z'⟩ H (mkTs ds) vs
  | _, _, .nil => .nil
  | _, _, .cons h l => .cons (Is.mark hz h) (IsL.mark hz l)
end
mutual
/-- what is old stands in what is left -/
theorem Is.old (h1 : ∀ a u, H a = some u → (∀ vs, u ≠ .lst vs) → H' a = some u) (h2 : ∀ a vs, H a = some (.lst vs) → z a = true → H' a = some (.lst vs) ∧ z' a = true) : ∀ {d : D} {v : V}, oldD d = true → Is ⟨K, bx, z⟩ H d v → Is ⟨K, bx, z'⟩ H' d v
  | _, _, _, .non => .non
  | _, _, _, .bl b => .bl b
  | _, _, _, .int b => .int b
  | _, _, _, .str b => .str b
  | _, _, c, .tup h l => .tup (by
      rcases h with (h | ⟨o, h⟩) | h
      · exact .inl (.inl (h1 _ _ h fun _ e => by cases e))
      · exact .inl (.inr ⟨o, h1 _ _ h fun _ e => by cases e⟩)
      · exact .inr h) (IsL.old h1 h2 c l)
  | .lst zz xs, _, c, .lst h q l => by
    have c : (zz && oldL xs) = true := c
    have c := Bool.and_eq_true_iff.mp c
    have q : z _ = zz := q
    obtain ⟨e1, e2⟩ := h2 _ _ h (q.trans c.1)
    exact .lst e1 (e2.trans c.1.symm) (IsL.old h1 h2 c.2 l)
  | _, _, c, .ins h n l => .ins (h1 _ _ h fun _ e => by cases e) n (IsL.old h1 h2 c l)
  | _, _, _, .adr a => .adr a
  | _, _, c, .sql h l => nomatch c
  | _, _, _, .box h => .box h
  | _, _, _, .slf h => .slf h
  | _, _, _, .mem h => .mem h
  | _, _, _, .dls h => .dls h
  | _, _, _, .lls h => .lls h
  | _, _, _, .rb h => .rb h
  | _, _, c, .dct h q l => .dct (h1 _ _ h fun _ e => by cases e) q (IsL.old h1 h2 c l)
  | _, _, c, .exn hb h q l => nomatch c
  | _, _, c, .kd _ _ _ _ => nomatch c
theorem IsL.old (h1 : ∀ a u, H a = some u → (∀ vs, u ≠ .lst vs) → H' a = some u) (h2 : ∀ a vs, H a = some (.lst vs) → z a = true → H' a = some (.lst vs) ∧ z' a = true) : ∀ {ds : List D} {vs : List V}, oldL ds = true → IsL ⟨K, bx, z⟩ H ds vs → IsL ⟨K, bx, z'⟩ H' ds vs
  | _, _, _, .nil => .nil
  | _, _, c, .cons h l => by
    have c := Bool.and_eq_true_iff.mp c
    exact .cons (Is.old h1 h2 c.1 h) (IsL.old h1 h2 c.2 l)
end
end

/-- what is not marked came behind -/
structure MarkX (g : Cfg) : Prop where
  draw : ∃ x y, g.k.bx = .draw x y
  new : ∀ a, g.k.z a = false → g.Hs a = none
  same : Same g.H0s g.Hs
def markS : Sl → Sl
  | .val d => .val (mkT d)
  | .own ds => .own (mkTs ds)
  | _ => .no
def markE (ρ : En) : En := ρ.map markS
def dropS : Sl → Sl
  | .val d => if oldD d = true then .val d else .no
  | .own ds => if oldL ds = true then .own ds else .no
  | _ => .no
def dropE (ρ : En) : En := ρ.map dropS
theorem own_mark {ρ : En} {σ : L2.St} {i : Nat} {l : Addr} (h : OwnAt (markE ρ) σ i l) : OwnAt ρ σ i l := by
  obtain ⟨⟨t, e, eo⟩, h⟩ := h
  refine ⟨?_, h⟩
  unfold markE at e
  rw [List.getElem?_map] at e
  cases hr : ρ[i]? with
  | none => rw [hr] at e; cases e
  | some s =>
    rw [hr] at e
    cases s with
    | no => cases e; cases eo
    | own xs => exact ⟨_, rfl, rfl⟩
    | odc _ => cases e; cases eo
    | val d => cases e; cases eo
theorem own_drop {ρ : En} {σ : L2.St} {i : Nat} {l : Addr} (h : OwnAt (dropE ρ) σ i l) : OwnAt ρ σ i l := by
  obtain ⟨⟨t, e, eo⟩, h⟩ := h
  refine ⟨?_, h⟩
  unfold dropE at e
  rw [List.getElem?_map] at e
  cases hr : ρ[i]? with
  | none => rw [hr] at e; cases e
  | some s =>
    rw [hr] at e
    cases s with
    | no => cases e; cases eo
    | own xs => exact ⟨_, rfl, rfl⟩
    | odc _ => cases e; cases eo
    | val d =>
      have e : dropS (.val d) = t := Option.some.inj e
      subst e
      unfold dropS at eo
      dsimp only at eo
      split at eo <;> cases eo
/-- the end of what runs behind a mark: a bare value -/
def outAtom : Out → Out
  | .rt d b => if atomD d = true then .rt d b else .bad
  | _ => .bad
def kMark (kk : Fs) : Fs := fun ρ b => outAtom (kk (markE ρ) b)
def kClrV (i : Nat) (kk : Fs) : Fs := fun ρ b => match ρ[i]? with
  | some (.val (.lst false _)) => outAtom (kk (dropE ρ) b)
  | _ => .bad
theorem draw_box {k k' : Kx} {H0 H H0' H' : Hp} {b : Bx} {x y : Addr} (e : k.bx = .draw x y) (e' : k'.bx = .draw x y) (B : BoxOk k H0 H b) (n : ∀ a, H0 a = none → H0' a = none) (q : ∀ a u, H0 a = none → H a = some u → H' a = some u) : BoxOk k' H0' H' b := by
  unfold BoxOk at B ⊢
  rw [e] at B
  rw [e']
  obtain ⟨h1, h2, h3, h4, h5⟩ := B
  exact ⟨h1, n _ h2, n _ h3, q _ _ h2 h4, q _ _ h3 h5⟩
theorem FinS.atom {g : Cfg} {W W' : WX} {H0 H HB HB' : Hp} {z' : Addr → Bool} {o : Out} {Dd : Ends} (hb : ∃ x y, g.k.bx = .draw x y) (T : Tr g.bx g.H0s g.Hs H0 H) (F : FinS g W HB (outAtom o) Dd) :
    FinS (mkG g.k.K g.k.bx z' g.n H H0) W' HB' o Dd := by
  obtain ⟨x, y, hb⟩ := hb
  cases o with
  | rt d b2 =>
    have F : FinS g W HB (if atomD d = true then .rt d b2 else .bad) Dd := F
    split at F
    · rename_i hc
      refine fun v Hz H0z t B iv => F v Hz H0z (T.trans t) (draw_box (k := ⟨g.k.K, g.k.bx, z'⟩) hb hb B (fun _ q => q) fun _ _ _ q => q) ?_
      cases iv <;> first | exact .non | exact .bl _ | exact .int _ | exact .str _ | cases hc
    · exact F.elim
  | _ => exact F.elim
open Classical in
/-- what stands, but for the lists that are held -/
noncomputable def heldOff (ρ : En) (σ : L2.St) (H : Hp) : Hp := fun c => if ∃ i, OwnAt ρ σ i c then none else H c
open Classical in
noncomputable def stands (H : Hp) : Addr → Bool := fun c => decide (H c ≠ none)
theorem stands_t {H : Hp} {a : Addr} (h : H a ≠ none) : stands H a = true := by unfold stands; exact decide_eq_true h
theorem stands_f {H : Hp} {a : Addr} (h : stands H a = false) : H a = none := by
  unfold stands at h
  exact Classical.not_not.mp (of_decide_eq_false h)
theorem held_none {ρ : En} {σ : L2.St} {H : Hp} {i : Nat} {c : Addr} (h : OwnAt ρ σ i c) : heldOff ρ σ H c = none := by
  unfold heldOff
  rw [if_pos ⟨i, h⟩]
theorem held_some {ρ : En} {σ : L2.St} {H : Hp} {c : Addr} {u : HO} (h : heldOff ρ σ H c = some u) : H c = some u := by
  unfold heldOff at h
  split at h
  · cases h
  · exact h
theorem held_of {ρ : En} {σ : L2.St} {H : Hp} {c : Addr} (h : ∀ i, ¬ OwnAt ρ σ i c) : heldOff ρ σ H c = H c := by
  unfold heldOff
  rw [if_neg fun ⟨i, q⟩ => h i q]
/-- all as it is, with what stands marked -/
theorem mk_good {K : PySem.W.Frag} {bx : Bk} {x y : Addr} {n : Nat} {ρ : En} {b : Bx} {σ : L2.St} {H H0 : Hp} (hb : bx = .draw x y) (sm : Same H0 H) (len : ρ.length = σ.length) (ln : σ.length = n)
    (slot : ∀ i : Nat, SlOk ⟨K, bx, stands (heldOff ρ σ H)⟩ H0 H ρ[i]? σ[i]?) (apart : ∀ i j l, OwnAt ρ σ i l → OwnAt ρ σ j l → i = j) (B : BoxOk ⟨K, bx, stands (heldOff ρ σ H)⟩ H0 H b) (nb : ∀ i l, OwnAt ρ σ i l → ¬ InB bx l) :
    Good (mkG K bx (stands (heldOff ρ σ H)) n (heldOff ρ σ H) H0) ρ b σ H H0 ∧ MarkX (mkG K bx (stands (heldOff ρ σ H)) n (heldOff ρ σ H) H0) := by
  have h0 : ∀ i l, OwnAt ρ σ i l → H0 l = none := fun i l ⟨⟨t, e1, eo⟩, e2⟩ => by
    have q := slot i
    rw [e1] at q
    cases t with
    | no => cases eo
    | val d => cases eo
    | own ds =>
      obtain ⟨l', vs, q1, q2, _⟩ := q
      rw [e2] at q1
      cases q1
      exact q2
    | odc mm =>
      obtain ⟨l', vs, q1, q2, _⟩ := q
      rw [e2] at q1
      cases q1
      exact q2
  have s0 : Same H0 (heldOff ρ σ H) := fun c u q => by
    rw [held_of fun i o => by rw [h0 i c o] at q; cases q]
    exact sm c u q
  refine ⟨⟨⟨Same.refl _, sm, fun c u q _ => held_some q, fun c q e => ?_, fun _ q _ _ => q⟩, len, slot, apart, fun i l o => held_none o, B, fun a i => ?_, fun a q => ?_, ln⟩, ⟨x, y, hb⟩, fun a q => stands_f q, s0⟩
  · cases hc : heldOff ρ σ H c with
    | none => exact q hc
    | some u => rw [held_some hc] at e; cases e
  · show heldOff ρ σ H a ≠ none
    rw [held_of fun j o => nb j a o i]
    exact (B.at i).2
  · show heldOff ρ σ H a ≠ none
    intro e
    have q : stands (heldOff ρ σ H) a = true := q
    unfold stands at q
    exact of_decide_eq_true q e
section
variable {X : Cx} {g : Cfg} {W : WX} {ss : List Stmt} {kk : Fs} {x : Str} {p p2 pos apos : Pos}
theorem pb_mark (hb : ∃ x y, g.k.bx = .draw x y) (h : ∀ z' Hs' H0s', MarkX (mkG g.k.K g.k.bx z' g.n Hs' H0s') → PB X (mkG g.k.K g.k.bx z' g.n Hs' H0s') W ss kk) : PB X g W ss (kMark kk) := by
  have hrest : PSs X ss (fun Dd σ H => ∃ z' Hs' H0s', MarkX (mkG g.k.K g.k.bx z' g.n Hs' H0s') ∧ TB (mkG g.k.K g.k.bx z' g.n Hs' H0s') W kk Dd σ H) := ⟨fun pins s σ H D I ⟨z', Hs', H0s', m, z⟩ => (h z' Hs' H0s' m).run pins s σ H D I z⟩
  refine pss_imp hrest ?_
  rintro Dd σ H ⟨ρ, b, H0, G, F⟩
  obtain ⟨x, y, hb'⟩ := hb
  have hz : ∀ a vs, H0 a = some (.lst vs) → stands (heldOff (markE ρ) σ H) a = true := fun a vs e => by
    have no : ∀ i, ¬ OwnAt (markE ρ) σ i a := fun i o => by
      have q2 := (G.held (own_mark o)).1
      rw [e] at q2
      cases q2
    refine stands_t ?_
    rw [held_of no, G.sub a _ e]
    simp
  have hs : ∀ i : Nat, SlOk ⟨g.k.K, g.k.bx, stands (heldOff (markE ρ) σ H)⟩ H0 H (markE ρ)[i]? σ[i]? := fun i => by
    unfold markE
    rw [List.getElem?_map]
    have q := G.slot i
    cases hr : ρ[i]? with
    | none => trivial
    | some s =>
      rw [hr] at q
      cases s with
      | no => trivial
      | odc _ => trivial
      | own ds =>
        obtain ⟨l, vs, e1, h0, hl, il⟩ := q
        exact ⟨l, vs, e1, h0, hl, il.mark hz⟩
      | val d =>
        obtain ⟨v, e1, iv⟩ := q
        exact ⟨v, e1, iv.mark hz⟩
  obtain ⟨G', m⟩ := mk_good (n := g.n) (ρ := markE ρ) (b := b) hb' G.sub (by unfold markE; rw [List.length_map]; exact G.len) G.ln hs (fun i j l o1 o2 => G.apart i j l (own_mark o1) (own_mark o2)) (draw_box hb' hb' G.box (fun _ q => q) fun _ _ _ q => q) (fun i l o => G.notBox (own_mark o))
  have T : Tr g.bx g.H0s g.Hs H0 (heldOff (markE ρ) σ H) := by
    refine ⟨G.tr.ext, m.same, fun c u q ni => ?_, fun c q => ?_, G.tr.new⟩
    · have no : ∀ i, ¬ OwnAt (markE ρ) σ i c := fun i o => by rw [G.mine i c (own_mark o)] at q; cases q
      rw [held_of no]
      exact G.tr.keep c u q ni
    · have no : ∀ i, ¬ OwnAt (markE ρ) σ i c := fun i o => q (G.mine i c (own_mark o))
      rw [held_of no]
      exact G.tr.there c q
  exact ⟨_, _, _, m, markE ρ, b, H0, G', FinS.atom ⟨x, y, hb'⟩ T F⟩
theorem pb_clrV (i : Nat) (m : MarkX g) (h : ∀ z' Hs' H0s', MarkX (mkG g.k.K g.k.bx z' g.n Hs' H0s') → PB X (mkG g.k.K g.k.bx z' g.n Hs' H0s') W ss kk) (hN : X.N[i]? = some x := by rfl) (hv : Vis X.env.scope x := by first | exact Or.inl rfl | exact Or.inr (Or.inl rfl) | exact Or.inr (Or.inr rfl)) (hd : (x == ("__debug__" : Str)) = false := by decide)
    (hcd : (x == ("__classdict__" : Str)) = false := by decide) (hbase : attributeBase (.Name x p) "clear" X.env (eval (.Name x p) X.env) = eval (.Name x p) X.env := by rfl) (hline : (apos.endLine == p2.line) = true := by rfl)
    (hsw : swapsWith (.Call (.Attribute (.Name x p) "clear" apos) [] [] p2) none pos.line X.env = pure false := by rfl) : PB X g W (.Expr (.Call (.Attribute (.Name x p) "clear" apos) [] [] p2) pos :: ss) (kClrV i kk) := by
  have hrest : PSs X ss (fun Dd σ H => ∃ z' Hs' H0s', MarkX (mkG g.k.K g.k.bx z' g.n Hs' H0s') ∧ TB (mkG g.k.K g.k.bx z' g.n Hs' H0s') W kk Dd σ H) := ⟨fun pins s σ H D I ⟨z', Hs', H0s', m, z⟩ => (h z' Hs' H0s' m).run pins s σ H D I z⟩
  refine pss_imp (pss_cons (ps_expr (pe_bm0 PySem.F.plainAttrs_list PySem.F.slot_list_clear PySem.F.type_list_clear mt_clear (pe_var hN hv hd hcd) hbase hline) hsw) hrest) ?_
  rintro Dd σ H ⟨ρ, b, H0, G, F⟩
  unfold kClrV at F
  split at F
  · rename_i ds hi
    obtain ⟨v, e1, iv⟩ := G.val hi
    cases iv with
    | @lst a vs _ _ ha hz il =>
      have hHa : H a = some (.lst vs) := G.sub _ _ ha
      classical
      let H0' : Hp := fun c => if g.k.z c = false ∧ ∃ us, H0 c = some (.lst us) then none else H0 c
      have sm : ∀ c u, H0' c = some u → H0 c = some u ∧ c ≠ a := fun c u q => by
        have q : (if g.k.z c = false ∧ ∃ us, H0 c = some (.lst us) then none else H0 c) = some u := q
        split at q
        · cases q
        · rename_i hn
          exact ⟨q, fun e => hn (by subst e; exact ⟨hz, vs, ha⟩)⟩
      have nn : ∀ c, H0 c = none → H0' c = none := fun c q => by
        show (if _ then none else H0 c) = none
        split
        · rfl
        · exact q
      have k1 : ∀ c u, H0 c = some u → (∀ vs, u ≠ .lst vs) → H0' c = some u := fun c u q n => by
        show (if _ then none else H0 c) = _
        rw [if_neg]
        · exact q
        · rintro ⟨_, us, e⟩
          rw [q] at e
          exact n us (Option.some.inj e)
      have k2 : ∀ c us, H0 c = some (.lst us) → g.k.z c = true → H0' c = some (.lst us) := fun c us q n => by
        show (if _ then none else H0 c) = _
        rw [if_neg]
        · exact q
        · rintro ⟨e, _⟩
          rw [n] at e; cases e
      obtain ⟨x, y, hb'⟩ := m.draw
      have hHs : g.Hs a = none := m.new a hz
      have oa : ∀ i c, OwnAt (dropE ρ) σ i c → c ≠ a := fun i c o e => by
        have q2 := (G.held (own_drop o)).1
        subst e
        rw [ha] at q2; cases q2
      have s1 : Same H0' (upd H a (.lst [])) := fun c u q => by
        obtain ⟨q1, q2⟩ := sm c u q
        rw [upd_ne q2]
        exact G.sub c u q1
      have hz' : ∀ c us, H0 c = some (.lst us) → g.k.z c = true → H0' c = some (.lst us) ∧ stands (heldOff (dropE ρ) σ (upd H a (.lst []))) c = true := fun c us q1 q2 => by
        have q3 := k2 c us q1 q2
        have no : ∀ i, ¬ OwnAt (dropE ρ) σ i c := fun i o => by
          have p2 := (G.held (own_drop o)).1
          rw [q1] at p2
          cases p2
        refine ⟨q3, stands_t ?_⟩
        rw [held_of no, s1 c _ q3]
        simp
      have B' : BoxOk ⟨g.k.K, g.k.bx, stands (heldOff (dropE ρ) σ (upd H a (.lst [])))⟩ H0' (upd H a (.lst [])) b := draw_box hb' hb' G.box nn fun c u q1 q2 => by rw [upd_ne (fun e => by subst e; rw [ha] at q1; cases q1)]; exact q2
      have hs : ∀ i : Nat, SlOk ⟨g.k.K, g.k.bx, stands (heldOff (dropE ρ) σ (upd H a (.lst [])))⟩ H0' (upd H a (.lst [])) (dropE ρ)[i]? σ[i]? := fun i => by
        unfold dropE
        rw [List.getElem?_map]
        have q := G.slot i
        cases hr : ρ[i]? with
        | none => trivial
        | some s =>
          rw [hr] at q
          cases s with
          | no => trivial
          | odc _ => trivial
          | own xs =>
            show SlOk _ _ _ (some (dropS (.own xs))) _
            unfold dropS
            dsimp only
            split
            · rename_i hc
              obtain ⟨l, us, p1, p2, p3, p4⟩ := q
              have hla : l ≠ a := fun e => by subst e; rw [ha] at p2; cases p2
              exact ⟨l, us, p1, nn l p2, by rw [upd_ne hla]; exact p3, p4.old k1 hz' hc⟩
            · trivial
          | val d =>
            show SlOk _ _ _ (some (dropS (.val d))) _
            unfold dropS
            dsimp only
            split
            · rename_i hc
              obtain ⟨v, e1, iv⟩ := q
              exact ⟨v, e1, iv.old k1 hz' hc⟩
            · trivial
      obtain ⟨G', m'⟩ := mk_good (n := g.n) (ρ := dropE ρ) (b := b) hb' s1 (by unfold dropE; rw [List.length_map]; exact G.len) G.ln hs (fun i j l o1 o2 => G.apart i j l (own_drop o1) (own_drop o2)) B' (fun i l o => G.notBox (own_drop o))
      have T : Tr g.bx g.H0s g.Hs H0' (heldOff (dropE ρ) σ (upd H a (.lst []))) := by
        refine ⟨fun c u q => ?_, m'.same, fun c u q ni => ?_, fun c n => ?_, fun c q n ni => nn c (G.tr.new c q n ni)⟩
        · have q1 := G.tr.ext c u q
          have q2 := m.same c u q
          by_cases hc : ∃ us, u = .lst us
          · obtain ⟨us, rfl⟩ := hc
            refine k2 c us q1 ?_
            cases hzc : g.k.z c with
            | true => rfl
            | false => rw [m.new c hzc] at q2; cases q2
          · exact k1 c u q1 fun us e => hc ⟨us, e⟩
        · have no : ∀ i, ¬ OwnAt (dropE ρ) σ i c := fun i o => by rw [G.mine i c (own_drop o)] at q; cases q
          rw [held_of no, upd_ne (ne_of_none q hHs)]
          exact G.tr.keep c u q ni
        · have no : ∀ i, ¬ OwnAt (dropE ρ) σ i c := fun i o => n (G.mine i c (own_drop o))
          rw [held_of no]
          by_cases hc : c = a
          · rw [hc, upd_same]; simp
          · rw [upd_ne hc]; exact G.tr.there c n
      exact ⟨.ref a, e1, .inl ⟨rfl, vs, .inl (.inl hHa)⟩, a, vs, rfl, rfl, hHa, _, _, _, m', dropE ρ, b, H0', G', FinS.atom ⟨x, y, hb'⟩ T F⟩
  · exact F.elim
end
end Fw
set_option Elab.async false
set_option linter.all false
set_option maxRecDepth 100000
set_option maxHeartbeats 1000000
/-! Fw23: x in a list of data. -/
namespace Fw
open PySem PySem.Spec PyProof.Rows L2
theorem opd_inD {k : Kx} : OpD k (rInD k.K) (inD false) := by
  intro H0 H x y z vx vy e zo ix iy h Q q
  unfold inD at h
  split at h
  · rename_i zz ys
    split at h
    · rename_i p qs hp hq
      split at h
      · rename_i hc
        cases h
        have hl : toPy (.lst zz ys) = some (.list qs) := by show (toPys ys).map PyData.list = _; rw [hq]; rfl
        refine ⟨p, qs, dp_of (ix.mono e) hp, dp_of (iy.mono e) hl, hc.1, hc.2, ?_⟩
        exact q _ H0 H (Tr.refl e) (by rw [Bool.false_bne]; exact .bl _)
      · cases h
    · cases h
  · cases h
theorem opd_notInD {k : Kx} : OpD k (rNotInD k.K) (inD true) := by
  intro H0 H x y z vx vy e zo ix iy h Q q
  unfold inD at h
  split at h
  · rename_i zz ys
    split at h
    · rename_i p qs hp hq
      split at h
      · rename_i hc
        cases h
        have hl : toPy (.lst zz ys) = some (.list qs) := by show (toPys ys).map PyData.list = _; rw [hq]; rfl
        refine ⟨p, qs, dp_of (ix.mono e) hp, dp_of (iy.mono e) hl, hc.1, hc.2, ?_⟩
        exact q _ H0 H (Tr.refl e) (by rw [Bool.true_bne]; exact .bl _)
      · cases h
    · cases h
  · cases h
section
variable {X : Cx} {n : Nat}
theorem op_inDr (h : Room n X.A) : OpR X (compareOp .In) (rInD X.K) := op_inD (by have := h.un; omega)
theorem op_notInDr (h : Room n X.A) : OpR X (compareOp .NotIn) (rNotInD X.K) := op_notInD (by have := h.un; omega)
end
end Fw
set_option Elab.async false
set_option linter.all false
set_option maxRecDepth 100000
set_option maxHeartbeats 1000000
/-! Fw24: dicts with tuples as keys, as locals: read, walked, listed, frozen. -/
namespace Fw
open PySem PySem.Spec PyProof.Rows L2

/-! ### a locked dict -/
section
variable {X : Cx} {pins : List (Addr × Obj)} {σ : L2.St} {H : Hp} {s : Shared} {d : Addr} {o : Obj} {xs : List Ent}
theorem frz_kd (I : Inv X pins σ H s) (hd : H d = some (.frz o (keyO d xs))) : (d == sysModules) = false ∧ s.heap.get? d = some o ∧ o.ExactDict ∧ xs.length ≤ 10000000 ∧ ∃ es ep, o.data = .dict es ep ∧ es.size = xs.length ∧ ∀ (i : Nat) (e : Ent), xs[i]? = some e → ∃ en, es[i]? = some en ∧ en.key = .ref e.2.1 := by
  obtain ⟨h0, ⟨q1, q2, q3, q4, us, q5, o', es, ep, ho, hc, hdd, he⟩, _, _⟩ := I.hok d _ hd
  rw [h0] at ho
  cases ho
  have hl : xs.length = us.length := by have := q5.length; simpa using this
  refine ⟨q1, h0, hc, q2, es, ep, hdd, ?_, fun i e hi => ?_⟩
  · rw [← Array.length_toList, he, List.length_map, List.length_zip]
    omega
  · have hil := (List.getElem?_eq_some_iff.mp hi).1
    have hu : us[i]? = some us[i] := List.getElem?_eq_getElem (by omega)
    refine ⟨entR (e, us[i]), ?_, rfl⟩
    rw [← Array.getElem?_toList, he, List.getElem?_map]
    have : (xs.zip us)[i]? = some (e, us[i]) := List.getElem?_zip_eq_some.mpr ⟨hi, hu⟩
    rw [this]; rfl
theorem dictOfH_frz (I : Inv X pins σ H s) (hd : H d = some (.frz o (keyO d xs))) (ka : KAll X.K H xs) :
    (d == sysModules) = false ∧ xs.length ≤ 10000000 ∧ ∃ us, Vals (xs.map (·.2.2)) us ∧ s.heap.DictOfH (nestedKind X.prog X.w) d (rawE xs us) := by
  obtain ⟨h0, ⟨q1, q2, q3, q4, us, q5, o', es, ep, ho, hc, hdd, he⟩, _, _⟩ := I.hok d _ hd
  have hl : xs.length = us.length := by have := q5.length; simpa using this
  refine ⟨q1, q2, us, q5, o', es, ep, ho, hc, hdd, ?_, ?_, ?_⟩
  · rw [he]
    unfold rawE
    rw [List.map_map]
    refine List.map_congr_left fun p hp => ?_
    have hx : p.1 ∈ xs := (List.of_mem_zip hp).1
    show entR p = (⟨NestedKey.hash X.w p.1.1, .ref p.1.2.1, p.2⟩ : DictEntry)
    rw [hsh_eq X.w _ (q4 _ hx).1]
    rfl
  · intro x hx
    obtain ⟨p, hp, rfl⟩ := List.mem_map.mp hx
    have hx : p.1 ∈ xs := (List.of_mem_zip hp).1
    exact ⟨(ka _ hx).nested I rfl, (q4 _ hx).2⟩
  · rw [zip_keys hl]
    exact q3
end
def rIxF (K : PySem.W.Frag) : R2 := fun x y H Q => ∃ d o xs a k b v, x = .ref d ∧ y = .ref a ∧ H d = some (.frz o (keyO d xs)) ∧ KAll K H xs ∧ KeyV K H k (.ref a) ∧ okK k ∧ kAt xs k = some (b, v) ∧ Q v H
section
variable {X : Cx}
theorem ix_F (hu : X.A.units + 64 < cLine) : IxR X (rIxF X.K) := by
  intro value slice pins s σ H x y v u Q I rx ry h hs
  obtain ⟨d, o, xs, a, k, b, z, rfl, rfl, hd, ka, kv, ok, e, q⟩ := h
  cases rx
  cases ry
  obtain ⟨hsy, _, us, r, hm⟩ := dictOfH_frz I hd ka
  rcases atKey_raw k r with ⟨e1, _⟩ | ⟨b', v', u', e1, e2, e3⟩
  · rw [e] at e1; cases e1
  · rw [e] at e1
    cases e1
    exact subscriptTail_builtinR (x := u') hm.typeIs slot_dict_getitem.lookup
      (wpAny_getItem_heap (Q := fun r s' => r = u' ∧ EP X pins σ Q r s') (room8 hu) ⟨kv.nested I rfl, ok.2⟩ hm e2 ⟨rfl, z, H, I.tok _, e3, q⟩) hs
end

/-! ### its keys, walked -/
def Itkd (d : Addr) (o : Obj) (xs : List Ent) : It :=
  ⟨fun i H => H d = some (.frz o (keyO d xs)) ∧ i < xs.length, fun i H x H' => H' = H ∧ ∃ e, xs[i]? = some e ∧ x = .ref e.2.1, fun i H => H d = some (.frz o (keyO d xs)) ∧ xs.length ≤ i⟩
section
variable {P : Program} {w : World} {K : PySem.W.Frag} {tg : Expr} {d : Addr} {o : Obj} {es : Array DictEntry} {ep : Nat}
theorem turn_kd {xs : List Ent} (it : Addr) (hod : o.data = .dict es ep) : Turn P w K tg (Itkd d o xs) [it] it (fun i h => h.IsKeyIter it d i xs.length ep) where
  mem := by simp
  obj := fun i h st b hb => by
    have e : b = it := by simpa using hb
    subst e
    obtain ⟨oi, e, c, dd⟩ := st
    exact ⟨oi, e, fun v z => by rw [dd] at z; cases z⟩
  keep := fun i h h' st k => st.at fun oi e => k it (by simp) oi e
  item := by
    intro X hP hw hK hc i pins s σ H E I hf st hg
    subst hP hw hK
    obtain ⟨hd, hi⟩ := hg
    obtain ⟨f0, f1, f2, f3, f4, f5⟩ := hf it (by simp)
    obtain ⟨hs, hgd, hx, hz, es', ep', hdt, hsz, ent⟩ := frz_kd I hd
    obtain ⟨rfl, rfl⟩ := dict_ep hod hdt
    obtain ⟨e, he⟩ : ∃ p, xs[i]? = some p := ⟨xs[i], List.getElem?_eq_getElem hi⟩
    obtain ⟨en, hen, hkey⟩ := ent i e he
    refine next_key_item st hgd hdt hsz hen fun h' st' sb => ?_
    have I1 : Inv X pins σ H { s with heap := h' } := I.turned (t' := s.toks) (fun b ob hb e => (sb.2 b hb).trans e) f0 f1 f3 f4 f5
    obtain ⟨oi, e1, c, dd⟩ := id st'
    exact ⟨en.key, rfl, go_of (s := { s with heap := h' }) e1 c dd (by decide) ⟨.ref e.2.1, H, I1, hkey, ⟨rfl, e, he, rfl⟩, st', fun b hb => (hf b hb).1⟩⟩
  done := by
    intro X hP hw hK hc i pins s σ H E I hf st hg
    subst hP hw hK
    obtain ⟨hd, hi⟩ := hg
    obtain ⟨f0, f1, f2, f3, f4, f5⟩ := hf it (by simp)
    obtain ⟨hs, hgd, hx, hz, es', ep', hdt, hsz, ent⟩ := frz_kd I hd
    obtain ⟨rfl, rfl⟩ := dict_ep hod hdt
    exact next_key_end (I.ok.hd hc) st hgd hdt hsz hi fun h' eb => ⟨rfl, I.turned (t' := s.toks) (fun b ob hb e => eb b ob hb e) f0 f1 f3 f4 f5⟩
  self := fun A i s Q E st h => by
    refine wpAny_pyIter_slot st.typeIs F.slot_dict_keyiterator_iter (wpAny_call_entry F.slot_dict_keyiterator_iter st.typeIs F.entry_dict_keyiterator_iter ?_ (F.args_dict_keyiterator_iter_1 _))
    show wpAny _ _ (ret (.ref it)) _ _ s
    exact wpAny_pure ⟨_, rfl, "dict_keyiterator", _, st.typeIs, F.slot_dict_keyiterator_next.lookup, h⟩
end
def iKd (td : TE) : TI := fun σ H R => td σ H fun x H1 => ∃ d o xs, x = .ref d ∧ H1 d = some (.frz o (keyO d xs)) ∧ R (Itkd d o xs) H1
section
variable {X : Cx} {tg e : Expr} {td : TE}
theorem pi_kd (he : PE X e td) : PI X tg e (iKd td) := by
  refine ⟨fun pins s σ H R I h => ?_⟩
  refine thn (he.run pins s σ H _ I h) fun u s1 ⟨x, H1, I1, rx, d, o, xs, ex, hd, q⟩ => ?_
  subst ex
  obtain rfl : u = Value.ref d := rx
  obtain ⟨hs, hgd, hx, hz, es, ep, hdt, hsz, ent⟩ := frz_kd I1 hd
  refine iter_keys hs hgd hx hdt (pi_one (tk := s1.toks) I1 _ (turn_kd _ hdt) ⟨_, Heap.get?_push_size _ rfl, rfl, ?_⟩ q)
  rw [hsz] <;> rfl
end
/-! ### list(d) -/
theorem kdl_raw {prog : Program} {w : World} {d : Addr} {es : Array DictEntry} {ep : Nat} (lo : (d == sysModules) = false) : PySem.W.KdlSrc prog w "dict" d d es.size (fun i v => ∃ hi : i < es.size, v = es[i].key) (fun h => h.DictRaw d es ep) where
  type := fun _ hm => hm.typeIs
  there := fun _ hm => by
    obtain ⟨o, ho, _⟩ := hm
    exact ⟨Heap.lt_size ho, Heap.lt_size ho⟩
  keep := fun _ _ hm hk => hm.at fun o e => hk d (.inl rfl) o e
  notList := by decide
  notTuple := by decide
  hint := fun _ _ _ _ hm hq => PySem.W.kdl_hint_dict hm.typeIs hq
  iter := fun _ s hh hm => by
    have hlt : d < s.heap.objs.size := by obtain ⟨o, ho, _⟩ := hm; exact Heap.lt_size ho
    exact ⟨_, _, (fun _ _ hq => wpAny_pyIter_dict_raw lo hm hq), Walks.rawKeys hh _ d (Nat.ne_of_lt hlt) es ep, ⟨⟨_, Heap.get?_push_size _ rfl, rfl, rfl⟩, hm.at fun o e => Heap.get?_push_of_some _ e⟩⟩
section
variable {X : Cx}
theorem call_listK (hcalm : X.calm = true) : CallR X (.type "list") (fun vs H Q => ∃ (a : Addr) (o : Obj) (xs : List Ent), vs = [.ref a] ∧ H a = some (.frz o (keyO a xs)) ∧ xs.length ≤ 100000 ∧ ∀ p, H p = none → Q (.ref p) (upd H p (.lst (xs.map fun e => V.ref e.2.1)))) := by
  intro pins s σ H vs us Q I r q
  obtain ⟨a, o, xs, ex, hd, hz, q⟩ := q
  subst ex
  obtain ⟨u, eu, rx⟩ := vals1 r
  subst eu
  cases rx
  obtain ⟨lo, hgd, hx, _, es, ep, hdt, hsz, ent⟩ := frz_kd I hd
  have hraw : s.heap.DictRaw a es ep := ⟨o, hgd, hx, hdt⟩
  have h16 : xs.length ≤ sizeLine := by rw [sizeLine_eq]; omega
  refine PySem.W.kdl_call (kdl_raw (prog := X.prog) (w := X.w) lo) (I.ok.hd hcalm) hraw (by rw [hsz]; exact h16) fun h' tk acc c' hk hD hacc => ?_
  have hl : acc.toList.length = xs.length := by rw [Array.length_toList, hacc.1, hsz]
  have hv : Vals (xs.map fun e => V.ref e.2.1) acc.toList := by
    have key : ∀ (xs : List Ent) (us : List Value), us.length = xs.length → (∀ (j : Nat) (e : Ent) (v : Value), xs[j]? = some e → us[j]? = some v → v = .ref e.2.1) → Vals (xs.map fun e => V.ref e.2.1) us := by
      intro xs
      induction xs with
      | nil => intro us hl _; cases us with | nil => exact .nil | cons _ _ => cases hl
      | cons x xs ih =>
        intro us hl h
        cases us with
        | nil => cases hl
        | cons u us => exact .cons (h 0 x u rfl rfl) (ih us (by simpa using hl) fun j e v h1 h2 => h (j + 1) e v (by simpa using h1) (by simpa using h2))
    refine key xs _ hl fun j e v h1 h2 => ?_
    obtain ⟨en, e1, e2⟩ := ent j e h1
    obtain ⟨hi, e3⟩ := hacc.2 j v (by rw [← Array.getElem?_toList]; exact h2)
    rw [Array.getElem?_eq_getElem hi] at e1
    rw [e3, Option.some.inj e1, e2]
  refine ⟨.ref s.heap.objs.size, upd H s.heap.objs.size (.lst (xs.map fun e => V.ref e.2.1)), I.laid (t' := tk) hk (Nat.le_refl _)
    (show ObjOk X.prog X.w _ _ _ (.lst (xs.map fun e => V.ref e.2.1)) from ⟨by rw [List.length_map]; exact h16, acc.toList, c', hv, by rw [Array.toArray_toList]; exact hD⟩), rfl, q _ (I.hok.fresh (Nat.le_refl _))⟩
end
end Fw
set_option Elab.async false
set_option linter.all false
set_option maxRecDepth 100000
set_option maxHeartbeats 1000000
/-! Fw25: dicts with tuples as keys, as locals: the rules. -/
namespace Fw
open PySem PySem.Spec PyProof.Rows L2

theorem MM.ks {k : Kx} {H : Hp} {xs : List Ent} {mm : List (D × D)} (h : MM k H xs mm) : KsR (mm.map (·.1)) xs ∧ IsL k H (mm.map (·.1)) (xs.map fun e => V.ref e.2.1) ∧ IsL k H (mm.map (·.2)) (xs.map fun e => e.2.2) := by
  induction h with
  | nil => exact ⟨⟨rfl, fun e he => nomatch he⟩, .nil, .nil⟩
  | @cons n a v kd vd xs mm h1 h2 h3 h4 _ ih =>
    obtain ⟨⟨i1, i2⟩, i3, i4⟩ := ih
    refine ⟨⟨?_, fun e he => ?_⟩, .cons h3 i3, .cons h4 i4⟩
    · rw [List.map_cons, List.map_cons, List.map_cons, i1, h1]
    · rcases List.mem_cons.mp he with rfl | he
      · exact h2
      · exact i2 e he
theorem MM.of {k : Kx} {H : Hp} : ∀ {xs : List Ent} {ks vs : List D}, KsR ks xs → IsL k H ks (xs.map fun e => V.ref e.2.1) → IsL k H vs (xs.map fun e => e.2.2) → MM k H xs (ks.zip vs)
  | [], ks, vs, r, l1, l2 => by
    cases l1
    exact .nil
  | (n, a, v) :: xs, ks, vs, r, l1, l2 => by
    cases l1 with
    | cons i1 l1 =>
      cases l2 with
      | cons i2 l2 =>
        obtain ⟨r1, r2⟩ := r
        rw [List.map_cons, List.map_cons] at r1
        have q1 := (List.cons.inj r1).1
        have q2 := (List.cons.inj r1).2
        exact .cons q1 (r2 _ List.mem_cons_self) i1 i2 (MM.of ⟨q2, fun e he => r2 e (List.mem_cons_of_mem _ he)⟩ l1 l2)
/-- d[k] -/
def idxK (x y : D) : Option D := match x with
  | .kd ks vs => (keyOf y).bind fun n => lookM (ks.zip vs) n
  | _ => none
theorem opd_ixF {k : Kx} : OpD k (rIxF k.K) idxK := by
  intro H0 H x y z vx vy e zo ix iy h Q q
  cases ix <;> first | (cases h; done) | skip
  rename_i a o xs ks vs ha r l1 l2
  have h : (keyOf y).bind (fun n => lookM (ks.zip vs) n) = some z := h
  cases hk : keyOf y with
  | none => rw [hk] at h; cases h
  | some n =>
    rw [hk] at h
    have h : lookM (ks.zip vs) n = some z := h
    obtain ⟨n1, n2, n3⟩ := keyOf_some hk
    obtain ⟨ak, rfl⟩ := n3 iy
    have mm := MM.of r l1 l2
    rcases mm.look n with ⟨q1, q2⟩ | ⟨a2, v2, d2, q1, q2, i2⟩
    · rw [q2] at h; cases h
    · rw [q2] at h
      cases h
      exact ⟨a, o, xs, ak, n, a2, v2, rfl, rfl, e _ _ ha, mm.kall.mono e, (keyV_of iy n1).mono e, n2, q1, q _ H0 H (Tr.refl e) i2⟩
/-! ### its keys -/
theorem yields_kd {k : Kx} {HB : Hp} {a : Addr} {o : Obj} {xs : List Ent} {ks : List D} (hl : HB a = some (.frz o (keyO a xs))) (il : IsL k HB ks (xs.map fun e => V.ref e.2.1)) : Yields k (Itkd a o xs) HB ks := by
  intro H0 H i e0 e1
  have hH := e1 _ _ (e0 _ _ hl)
  have hn : ks.length = xs.length := by have := il.length; simpa using this
  refine ⟨fun d hd => ?_, fun hi => ⟨hH, by omega⟩⟩
  obtain ⟨v, hv, iv⟩ := il.get hd
  have hil := (List.getElem?_eq_some_iff.mp hd).1
  refine ⟨⟨hH, by omega⟩, fun x H' y => ?_⟩
  obtain ⟨rfl, e, he, rfl⟩ := y
  rw [List.getElem?_map, he] at hv
  cases hv
  exact ⟨H0, Tr.refl e1, iv.mono e0⟩
def xKeys (f : Fx D) : Fx (List D) := fun ρ b => (f ρ b).bind fun d b1 => match d with
  | .kd ks _ => .ok ks b1
  | _ => .bad
def lstK : List D → Option (List D)
  | [.kd ks _] => if ks.length ≤ 100000 then some ks else none
  | _ => none
section
variable {X : Cx} {g : Cfg} {W : WX} {tg e c : Expr} {es : List Expr} {f h : Fx D} {fl : Fx (List D)} {pos p p2 : Pos} {x : Str} {ss : List Stmt} {st : Stmt} {kk : Fs}
theorem is_kd (h : PX X g W e f) : PIs X g W tg e (xKeys f) := by
  refine pi_imp (pi_kd h) ?_
  rintro σ H R ⟨ρ, b, H0, G, F⟩
  unfold xKeys at F
  cases hf : f ρ b with
  | bad => rw [hf] at F; exact F.elim
  | exc x b1 =>
    rw [hf] at F
    refine ⟨ρ, b, H0, G, ?_⟩
    rw [hf]
    exact F
  | ok d b1 =>
    rw [hf] at F
    cases d with
    | kd ks vs =>
      refine ⟨ρ, b, H0, G, ?_⟩
      rw [hf]
      intro H01 H1 t1 B1 v iv
      cases iv with
      | kd hl _ il _ => exact ⟨_, _, _, rfl, t1.sub _ _ hl, F H01 H1 t1 B1 _ (yields_kd hl il)⟩
    | _ => exact F.elim
theorem po_listK (hg : Gl X "list") (hm : X.mg "list" = none) (hc : X.calm = true) {p3 : Pos} (ha : PL X g W [e] fl) (he : starEach [e] X.env = (false, eval e X.env) :: starEach [] X.env := by rfl) (hpl : (backTo pos (starEach [] X.env)).any (·.1) = false := by rfl) :
    PN X g W (.Call (.Name "list" p3) [e] [] pos) (xSrc lstK fl) := by
  refine pe_imp (pe_callTy (call_listK hc) hg hm (by decide +kernel) ha (by decide) (by decide) he hpl) ?_
  rintro σ H Q ⟨ρ, b, H0, G, F⟩
  refine ta_call G F fun ds b1 H01 H1 vs t1 zo B1 il F2 => ?_
  cases ho : lstK ds with
  | none => rw [ho] at F2; exact F2.elim
  | some es =>
    rw [ho] at F2
    unfold lstK at ho
    split at ho
    · split at ho
      · rename_i hz
        cases ho
        cases il with
        | cons i l =>
          cases l
          cases i with
          | @kd a o xs _ _ hl r l1 l2 =>
            refine ⟨a, o, xs, rfl, t1.sub _ _ hl, by have := l1.length; simp at this; omega, fun l hn => ?_⟩
            have ta := Tr.allocO (o := .lst (xs.map fun e => V.ref e.2.1)) t1.sub hn
            refine F2 _ _ ta.weak (B1.keep ta) l _ ?_ (t1.sub.free hn) upd_same l1
            cases q : H l with
            | none => rfl
            | some o => exact absurd hn (t1.there l (by rw [q]; simp))
      · cases ho
    · cases ho

/-! ### a dict that is held -/
theorem Good.odc {ρ : En} {b : Bx} {σ : L2.St} {H H0 : Hp} (G : Good g ρ b σ H H0) {i : Nat} {mm : List (D × D)} (h : ρ[i]? = some (.odc mm)) : ∃ l xs, σ[i]? = some (some (.ref l)) ∧ H0 l = none ∧ H l = some (keyO l xs) ∧ MM g.k H0 xs mm := by
  have q := G.slot i
  rw [h] at q
  exact q
/-- a new one -/
theorem Good.setC {ρ : En} {b : Bx} {σ : L2.St} {H H0 : Hp} (G : Good g ρ b σ H H0) {i : Nat} {mm : List (D × D)} {l : Addr} {xs : List Ent} (hs : g.Hs l = none) (h0 : H0 l = none) (hl : H l = some (keyO l xs)) (r : MM g.k H0 xs mm)
    (hn : ∀ j, OwnAt ρ σ j l → j = i) : Good g (ρ.set i (.odc mm)) b (σ.set i (some (.ref l))) H H0 := by
  have own : ∀ {j l'}, OwnAt (ρ.set i (.odc mm)) (σ.set i (some (.ref l))) j l' → (j = i ∧ l' = l) ∨ (j ≠ i ∧ OwnAt ρ σ j l') := by
    rintro j l' ⟨⟨ds', e1, eo⟩, e2⟩
    rw [set_get] at e1 e2
    by_cases hj : i = j
    · subst hj
      left
      refine ⟨rfl, ?_⟩
      by_cases hlt : i < σ.length
      · rw [if_pos ⟨rfl, hlt⟩] at e2
        cases e2; rfl
      · rw [if_neg (fun z => hlt z.2), List.getElem?_eq_none (by omega)] at e2
        cases e2
    · rw [if_neg (fun z => hj z.1)] at e1 e2
      exact .inr ⟨fun z => hj z.symm, ⟨ds', e1, eo⟩, e2⟩
  refine ⟨G.tr, by rw [List.length_set, List.length_set]; exact G.len, fun j => ?_, fun j j' l' o o' => ?_, fun j l' o => ?_, G.box, G.bin, G.zin, by rw [List.length_set]; exact G.ln⟩
  · rw [set_get, set_get, ← G.len]
    split
    · exact ⟨l, xs, rfl, h0, hl, r⟩
    · exact G.slot j
  · rcases own o with ⟨rfl, rfl⟩ | ⟨n1, o1⟩ <;> rcases own o' with ⟨rfl, e⟩ | ⟨n2, o2⟩
    · rfl
    · exact (hn _ o2).symm
    · subst e; exact hn _ o1
    · exact G.apart _ _ _ o1 o2
  · rcases own o with ⟨rfl, rfl⟩ | ⟨n1, o1⟩
    · exact hs
    · exact G.mine _ _ o1
/-- it is changed -/
theorem Good.updC {ρ : En} {b : Bx} {σ : L2.St} {H H0 : Hp} (G : Good g ρ b σ H H0) {i : Nat} {mm mm' : List (D × D)} {l : Addr} {xs' : List Ent} (hi : ρ[i]? = some (.odc mm)) (hl : σ[i]? = some (some (.ref l))) (r : MM g.k H0 xs' mm') :
    Good g (ρ.set i (.odc mm')) b σ (L2.upd H l (keyO l xs')) H0 := by
  have o : OwnAt ρ σ i l := ⟨⟨_, hi, rfl⟩, hl⟩
  obtain ⟨h0, _⟩ := G.held o
  have hlt : i < σ.length := (List.getElem?_eq_some_iff.mp hl).1
  have own : ∀ {j l'}, OwnAt (ρ.set i (.odc mm')) σ j l' → OwnAt ρ σ j l' := by
    rintro j l' ⟨⟨ds', e1, eo⟩, e2⟩
    rw [set_get] at e1
    by_cases hj : i = j
    · subst hj; exact ⟨⟨_, hi, rfl⟩, e2⟩
    · rw [if_neg (fun z => hj z.1)] at e1
      exact ⟨⟨ds', e1, eo⟩, e2⟩
  have hs : g.Hs l = none := G.mine i l o
  have nb : ¬ InB g.bx l := G.notBox o
  refine ⟨⟨G.tr.ext, fun a u e => ?_, fun a u e n => ?_, fun a e => ?_, G.tr.new⟩, by rw [List.length_set]; exact G.len, fun j => ?_, fun j j' l' o1 o2 => G.apart j j' l' (own o1) (own o2), fun j l' o1 => G.mine j l' (own o1), ?_, G.bin, G.zin, G.ln⟩
  · rw [upd_ne (ne_of_none e h0)]; exact G.tr.sub a u e
  · rw [upd_ne (ne_of_none e hs)]; exact G.tr.keep a u e n
  · by_cases ha : a = l
    · subst ha; rw [upd_same]; simp
    · rw [upd_ne ha]; exact G.tr.there a e
  · rw [set_get]
    by_cases hj : i = j
    · subst hj
      rw [if_pos ⟨rfl, by rw [G.len]; exact hlt⟩]
      exact ⟨l, xs', hl, h0, upd_same, r⟩
    · rw [if_neg (fun z => hj z.1)]
      refine (G.slot j).mono (Same.refl _) (fun _ _ _ _ h _ => h) fun l' vs' hs' hx hl' => ?_
      have ne : l' ≠ l := fun e => hj (G.apart i j l o ⟨hs', by rw [hx, e]⟩)
      rw [upd_ne ne]; exact hl'
  · exact G.box.out nb
/-- it becomes a value, and stands from now on -/
theorem Good.freezeC {ρ : En} {b : Bx} {σ : L2.St} {H H0 : Hp} (G : Good g ρ b σ H H0) {i : Nat} {mm : List (D × D)} (hi : ρ[i]? = some (.odc mm)) {l : Addr} {xs : List Ent} (e1 : σ[i]? = some (some (.ref l))) (hH : H l = some (keyO l xs)) (r : MM g.k H0 xs mm) (od : Obj) :
    Same H0 (L2.upd H0 l (.frz od (keyO l xs))) ∧ Good g (ρ.set i (.val (.kd (mm.map (·.1)) (mm.map (·.2))))) b σ (L2.upd H l (.frz od (keyO l xs))) (L2.upd H0 l (.frz od (keyO l xs))) := by
  have o : OwnAt ρ σ i l := ⟨⟨_, hi, rfl⟩, e1⟩
  obtain ⟨h0, _⟩ := G.held o
  have hs := G.mine i l o
  have nb := G.notBox o
  obtain ⟨r1, r2, r3⟩ := r.ks
  have e0 : Same H0 (L2.upd H0 l (.frz od (keyO l xs))) := fun a u e => by rw [upd_ne (ne_of_none e h0)]; exact e
  have own : ∀ {j l'}, OwnAt (ρ.set i (.val (.kd (mm.map (·.1)) (mm.map (·.2))))) σ j l' → j ≠ i ∧ OwnAt ρ σ j l' := by
    rintro j l' ⟨⟨ds', q1, qo⟩, q2⟩
    rw [set_get] at q1
    by_cases hj : i = j
    · subst hj
      rw [if_pos ⟨rfl, by rw [G.len]; exact (List.getElem?_eq_some_iff.mp e1).1⟩] at q1
      cases q1; cases qo
    · rw [if_neg (fun z => hj z.1)] at q1
      exact ⟨fun z => hj z.symm, ⟨ds', q1, qo⟩, q2⟩
  have B1 : BoxOk g.k H0 (L2.upd H l (.frz od (keyO l xs))) b := G.box.out nb
  refine ⟨e0, ⟨G.tr.ext.trans e0, fun a u e => ?_, fun a u e n => ?_, fun a e => ?_, fun a e n i => ?_⟩, by rw [List.length_set]; exact G.len, fun j => ?_, fun j j' l' o1 o2 => G.apart j j' l' (own o1).2 (own o2).2, fun j l' o1 => G.mine j l' (own o1).2, B1.frz h0 nb, G.bin, G.zin, G.ln⟩
  · by_cases ha : a = l
    · subst ha; rw [upd_same] at e ⊢; exact e
    · rw [upd_ne ha] at e ⊢; exact G.tr.sub a u e
  · rw [upd_ne (ne_of_none e hs)]; exact G.tr.keep a u e n
  · by_cases ha : a = l
    · subst ha; rw [upd_same]; simp
    · rw [upd_ne ha]; exact G.tr.there a e
  · have na : a ≠ l := fun z => n (by rw [z]; exact hs)
    rw [upd_ne na]; exact G.tr.new a e n i
  · rw [set_get]
    by_cases hj : i = j
    · subst hj
      rw [if_pos ⟨rfl, by rw [G.len]; exact (List.getElem?_eq_some_iff.mp e1).1⟩]
      exact ⟨_, e1, .kd upd_same r1 (r2.mono e0) (r3.mono e0)⟩
    · rw [if_neg (fun z => hj z.1)]
      have q := G.slot j
      cases hr : ρ[j]? with
      | none => trivial
      | some s =>
        rw [hr] at q
        cases s with
        | no => trivial
        | val d => obtain ⟨v, q1, q2⟩ := q; exact ⟨v, q1, q2.mono e0⟩
        | own ds' =>
          obtain ⟨l', vs', q1, q2, q3, q4⟩ := q
          have ne : l' ≠ l := fun e => hj (G.apart i j l o ⟨⟨_, hr, rfl⟩, by rw [q1, e]⟩)
          exact ⟨l', vs', q1, by rw [upd_ne ne]; exact q2, by rw [upd_ne ne]; exact q3, q4.mono e0⟩
        | odc mm' =>
          obtain ⟨l', vs', q1, q2, q3, q4⟩ := q
          have ne : l' ≠ l := fun e => hj (G.apart i j l o ⟨⟨_, hr, rfl⟩, by rw [q1, e]⟩)
          exact ⟨l', vs', q1, by rw [upd_ne ne]; exact q2, by rw [upd_ne ne]; exact q3, q4.mono e0⟩
def frzC (i : Nat) (ρ : En) : En := match ρ[i]? with
  | some (.odc mm) => ρ.set i (.val (.kd (mm.map (·.1)) (mm.map (·.2))))
  | _ => ρ
def kFrzC (i : Nat) (k : Fs) : Fs := fun ρ b => k (frzC i ρ) b
theorem pb_frzC (i : Nat) (h : PB X g W ss kk) : PB X g W ss (kFrzC i kk) := by
  refine ⟨fun pins s σ H D I ⟨ρ, b, H0, G, F⟩ => ?_⟩
  have F : FinS g W H0 (kk (frzC i ρ) b) D := F
  unfold frzC at F
  split at F
  · rename_i mm hi
    obtain ⟨l, xs, e1, h0, hl, r⟩ := G.odc hi
    obtain ⟨od, I1⟩ := I.lock hl trivial
    obtain ⟨e0, G1⟩ := G.freezeC hi e1 hl r od
    exact h.run pins s σ _ D I1 ⟨_, b, _, G1, F.base e0⟩
  · exact h.run pins s σ H D I ⟨ρ, b, H0, G, F⟩
theorem p1_frzC (i : Nat) (h : P1 X g W st kk) : P1 X g W st (kFrzC i kk) := by
  refine ⟨fun pins s σ H D I ⟨ρ, b, H0, G, F⟩ => ?_⟩
  have F : FinS g W H0 (kk (frzC i ρ) b) D := F
  unfold frzC at F
  split at F
  · rename_i mm hi
    obtain ⟨l, xs, e1, h0, hl, r⟩ := G.odc hi
    obtain ⟨od, I1⟩ := I.lock hl trivial
    obtain ⟨e0, G1⟩ := G.freezeC hi e1 hl r od
    exact h.run pins s σ _ D I1 ⟨_, b, _, G1, F.base e0⟩
  · exact h.run pins s σ H D I ⟨ρ, b, H0, G, F⟩
/-! ### x = {}, x[k] = v -/
def kDNew (i : Nat) : Fs := fun ρ b => .nx (ρ.set i (.odc [])) b
def kDSet (i : Nat) (f h : Fx D) : Fs := fun ρ b => match ρ[i]? with
  | some (.odc mm) => (f ρ b).out fun vd b1 => (h ρ b1).out fun kd b2 => match keyOf kd with
    | some n => if (stoM mm n kd vd).length ≤ 100000 then .nx (ρ.set i (.odc (stoM mm n kd vd))) b2 else .bad
    | none => .bad
  | _ => .bad
theorem p1_dnew {t : Str} (i : Nat) (hN : X.N.Nodup) (hi : X.N[i]? = some t := by rfl) (hx : Loc X.env.scope t := by first | exact Or.inl rfl | exact Or.inr rfl) (hs : swapsWith (.Dict [] [] p) (some (.Name t p2)) pos.line X.env = pure false := by rfl)
    (hf : X.fn t = true ∨ X.env.scope.names.lookup t = some .local := by first | exact .inl rfl | exact .inr rfl | assumption) : P1 X g W (.Assign [.Name t p2] (.Dict [] [] p) pos) (kDNew i) := by
  refine ps_imp (ps_set hN hi hx pe_dnewN hs hf) ?_
  rintro Dd σ H ⟨ρ, b, H0, G, F⟩
  intro l hn
  have ta := Tr.allocO (o := keyO l []) G.sub hn
  have G1 := G.step ta.weak (G.box.keep ta)
  refine F _ _ _ (G1.setC ?_ (G.sub.free hn) upd_same .nil fun j o => ?_) (Same.refl _)
  · cases q : g.Hs l with
    | none => rfl
    | some o => exact absurd hn (G.tr.there l (by rw [q]; simp))
  · exact absurd hn (G.held o).2
theorem p1_dset (i : Nat) (hu : X.A.units + 64 < cLine) (hK : X.K = g.k.K) (he : PX X g W e f) (hj : PX X g W c h) (hN : X.N[i]? = some x := by rfl) (hv : Vis X.env.scope x := by first | exact Or.inl rfl | exact Or.inr (Or.inl rfl) | exact Or.inr (Or.inr rfl)) (hd : (x == ("__debug__" : Str)) = false := by decide)
    (hcd : (x == ("__classdict__" : Str)) = false := by decide) (hs : swapsWithSole [.Subscript (.Name x p) c p2] e pos.line X.env = pure false := by rfl) (hw : swappedStores [.Subscript (.Name x p) c p2] e X.env = pure none := by rfl)
    (h1 : (assignEach [.Subscript (.Name x p) c p2] X.env).map (·.2) = [assign (.Subscript (.Name x p) c p2) X.env] := by rfl)
    (hA : ∀ v, assign (.Subscript (.Name x p) c p2) X.env v = (do
      let ou ← holding [v] (eval (.Name x p) X.env)
      let iw ← holding [v, ou] (eval c X.env)
      standAt p2
      holding [v, ou, iw] (setItem ou iw v)
      release [v, ou, iw] []) := by intro _; rfl) : P1 X g W (.Assign [.Subscript (.Name x p) c p2] e pos) (kDSet i f h) := by
  refine ps_imp (ps_asg he (pg_sub (pe_var hN hv hd hcd) hj (set_K hu) hA) hs hw h1) ?_
  rintro Dd σ H ⟨ρ, b, H0, G, F⟩
  unfold kDSet at F
  split at F
  · rename_i mm hi
    refine ⟨ρ, b, H0, G, (fin_out G F).mono fun d b1 H01 H1 t1 B1 F1 v iv => ?_⟩
    have G1 := G.step t1 B1
    obtain ⟨l, xs0, e1, _⟩ := G1.odc hi
    refine ⟨.ref l, e1, ρ, b1, H01, G1, (fin_out G1 F1).mono fun j b2 H02 H2 t2 B2 F2 u iu => ?_⟩
    have G2 := G1.step t2 B2
    obtain ⟨l', xs, e2, h2, hl, r⟩ := G2.odc hi
    rw [e1] at e2; cases e2
    cases hk : keyOf j with
    | none => rw [hk] at F2; exact F2.elim
    | some n =>
      rw [hk] at F2
      have F2 : FinS g W H02 (if (stoM mm n j d).length ≤ 100000 then .nx (ρ.set i (.odc (stoM mm n j d))) b2 else .bad) Dd := F2
      split at F2
      · rename_i hz
        obtain ⟨n1, n2, n3⟩ := keyOf_some hk
        obtain ⟨ak, rfl⟩ := n3 iu
        have mp := r.put n1 n2 iu (iv.mono t2.ext)
        have hlen : (kPut xs n ak v).length = (stoM mm n j d).length := by
          have := congrArg List.length mp.ks.1.1
          simpa using this.symm
        exact ⟨l, xs, ak, n, rfl, rfl, hl, hK ▸ r.kall.mono G2.sub, hK ▸ (keyV_of iu n1).mono G2.sub, n2, by omega, F2 _ _ _ (G2.updC hi e1 mp) (Same.refl _)⟩
      · exact F2.elim
  · exact F.elim
end
end Fw
set_option Elab.async false
set_option linter.all false
set_option maxRecDepth 100000
set_option maxHeartbeats 1000000
/-! Fw26: range downwards. -/
namespace Fw
open PySem L2
def dnD (hi : Int) (n : Nat) : List D := (List.range n).map fun i : Nat => D.int (hi - (i : Int))
theorem yields_dn {k : Kx} {HB : Hp} {hi : Int} {n : Nat} : Yields k (Itc hi (-1) n) HB (dnD hi n) := by
  intro H0 H i e0 e1
  have hlen : (dnD hi n).length = n := by simp [dnD]
  refine ⟨fun d hd => ?_, fun hi => by rw [hlen] at hi; exact hi⟩
  have hi' : i < n := by have := (List.getElem?_eq_some_iff.mp hd).1; rw [hlen] at this; exact this
  refine ⟨hi', fun x H' y => ?_⟩
  obtain ⟨rfl, rfl⟩ := y
  have e : d = .int (hi - (i : Int)) := by
    have : (dnD hi n)[i]? = some (.int (hi - (i : Int))) := by simp [dnD, hi']
    rw [this] at hd
    exact (Option.some.inj hd).symm
  rw [e, show hi + (i : Int) * (-1) = hi - (i : Int) from by omega]
  exact ⟨H0, Tr.refl e1, .int _⟩
def rng3 : List D → Option (List D)
  | [.int m, .int n, .int c] => if c = -1 ∧ (-100000 ≤ m ∧ m ≤ 100000) ∧ -100000 ≤ n ∧ n ≤ 100000 then some (dnD m (m - n).toNat) else none
  | _ => none
section
variable {X : Cx} {g : Cfg} {W : WX} {tg : Expr} {fl : Fx (List D)} {pos p : Pos}
theorem is_rng3 {a b c : Expr} (hg : Gl X "range") (hm : X.mg "range" = none) (ha : PL X g W [a, b, c] fl) (hs : starEach [a, b, c] X.env = (false, eval a X.env) :: starEach [b, c] X.env := by rfl) (hpl : (backTo pos (starEach [b, c] X.env)).any (·.1) = false := by rfl) :
    PIs X g W tg (.Call (.Name "range" p) [a, b, c] [] pos) (xSrc rng3 fl) := by
  refine pi_imp (pi_range3 hg hm ha hs hpl) ?_
  rintro σ H R ⟨ρ, b, H0, G, F⟩
  refine ⟨ρ, b, H0, G, F.bind.mono fun ds b1 H01 H1 t1 B1 F1 vs is => ?_⟩
  unfold rng3 at F1
  split at F1
  · rename_i m n c
    cases is with
    | cons i l =>
      cases i
      cases l with
      | cons j l =>
        cases j
        cases l with
        | cons q l =>
          cases q; cases l
          split at F1
          · rename_i hn
            obtain ⟨rfl, hn⟩ := hn
            exact ⟨m, n, -1, (m - n).toNat, rfl, RgC.neg (by omega) (by omega) (by omega) (by omega), F1 H01 H1 (Tr.refl t1.sub) B1 _ yields_dn⟩
          · exact F1.elim
  · exact F1.elim
end
end Fw
set_option Elab.async false
set_option linter.all false
set_option maxRecDepth 100000
set_option maxHeartbeats 1000000
/-! Fw27: what is told by an expression is cleared, behind a mark. -/
namespace Fw
open PySem PySem.Spec PyProof.Rows L2
def kClrE (f : Fx D) (kk : Fs) : Fs := fun ρ b => (f ρ b).out fun d b1 => match d with
  | .lst false _ => outAtom (kk (dropE ρ) b1)
  | _ => .bad
section
variable {X : Cx} {g : Cfg} {W : WX} {ss : List Stmt} {kk : Fs} {f : Fx D} {e : Expr} {p p2 pos apos : Pos}
theorem pb_clrE (m : MarkX g) (he : PX X g W e f) (h : ∀ z' Hs' H0s', MarkX (mkG g.k.K g.k.bx z' g.n Hs' H0s') → PB X (mkG g.k.K g.k.bx z' g.n Hs' H0s') W ss kk) (hbase : attributeBase e "clear" X.env (eval e X.env) = eval e X.env := by rfl) (hline : (apos.endLine == p2.line) = true := by rfl)
    (hsw : swapsWith (.Call (.Attribute e "clear" apos) [] [] p2) none pos.line X.env = pure false := by rfl) : PB X g W (.Expr (.Call (.Attribute e "clear" apos) [] [] p2) pos :: ss) (kClrE f kk) := by
  have hrest : PSs X ss (fun Dd σ H => ∃ z' Hs' H0s', MarkX (mkG g.k.K g.k.bx z' g.n Hs' H0s') ∧ TB (mkG g.k.K g.k.bx z' g.n Hs' H0s') W kk Dd σ H) := ⟨fun pins s σ H D I ⟨z', Hs', H0s', m, z⟩ => (h z' Hs' H0s' m).run pins s σ H D I z⟩
  refine pss_imp (pss_cons (ps_expr (pe_bm0 PySem.F.plainAttrs_list PySem.F.slot_list_clear PySem.F.type_list_clear mt_clear he hbase hline) hsw) hrest) ?_
  rintro Dd σ H ⟨ρ, b, H0, G, F⟩
  unfold kClrE at F
  refine ⟨ρ, b, H0, G, (fin_out G F).mono fun d b H0 H t1 B1 F v iv => ?_⟩
  have G := G.step t1 B1
  split at F
  · rename_i ds
    cases iv with
    | @lst a vs _ _ ha hz il =>
      have hHa : H a = some (.lst vs) := G.sub _ _ ha
      classical
      let H0' : Hp := fun c => if g.k.z c = false ∧ ∃ us, H0 c = some (.lst us) then none else H0 c
      have sm : ∀ c u, H0' c = some u → H0 c = some u ∧ c ≠ a := fun c u q => by
        have q : (if g.k.z c = false ∧ ∃ us, H0 c = some (.lst us) then none else H0 c) = some u := q
        split at q
        · cases q
        · rename_i hn
          exact ⟨q, fun e => hn (by subst e; exact ⟨hz, vs, ha⟩)⟩
      have nn : ∀ c, H0 c = none → H0' c = none := fun c q => by
        show (if _ then none else H0 c) = none
        split
        · rfl
        · exact q
      have k1 : ∀ c u, H0 c = some u → (∀ vs, u ≠ .lst vs) → H0' c = some u := fun c u q n => by
        show (if _ then none else H0 c) = _
        rw [if_neg]
        · exact q
        · rintro ⟨_, us, e⟩
          rw [q] at e
          exact n us (Option.some.inj e)
      have k2 : ∀ c us, H0 c = some (.lst us) → g.k.z c = true → H0' c = some (.lst us) := fun c us q n => by
        show (if _ then none else H0 c) = _
        rw [if_neg]
        · exact q
        · rintro ⟨e, _⟩
          rw [n] at e; cases e
      obtain ⟨x, y, hb'⟩ := m.draw
      have hHs : g.Hs a = none := m.new a hz
      have oa : ∀ i c, OwnAt (dropE ρ) σ i c → c ≠ a := fun i c o e => by
        have q2 := (G.held (own_drop o)).1
        subst e
        rw [ha] at q2; cases q2
      have s1 : Same H0' (upd H a (.lst [])) := fun c u q => by
        obtain ⟨q1, q2⟩ := sm c u q
        rw [upd_ne q2]
        exact G.sub c u q1
      have hz' : ∀ c us, H0 c = some (.lst us) → g.k.z c = true → H0' c = some (.lst us) ∧ stands (heldOff (dropE ρ) σ (upd H a (.lst []))) c = true := fun c us q1 q2 => by
        have q3 := k2 c us q1 q2
        have no : ∀ i, ¬ OwnAt (dropE ρ) σ i c := fun i o => by
          have p2 := (G.held (own_drop o)).1
          rw [q1] at p2
          cases p2
        refine ⟨q3, stands_t ?_⟩
        rw [held_of no, s1 c _ q3]
        simp
      have B' : BoxOk ⟨g.k.K, g.k.bx, stands (heldOff (dropE ρ) σ (upd H a (.lst [])))⟩ H0' (upd H a (.lst [])) b := draw_box hb' hb' G.box nn fun c u q1 q2 => by rw [upd_ne (fun e => by subst e; rw [ha] at q1; cases q1)]; exact q2
      have hs : ∀ i : Nat, SlOk ⟨g.k.K, g.k.bx, stands (heldOff (dropE ρ) σ (upd H a (.lst [])))⟩ H0' (upd H a (.lst [])) (dropE ρ)[i]? σ[i]? := fun i => by
        unfold dropE
        rw [List.getElem?_map]
        have q := G.slot i
        cases hr : ρ[i]? with
        | none => trivial
        | some s =>
          rw [hr] at q
          cases s with
          | no => trivial
          | odc _ => trivial
          | own xs =>
            show SlOk _ _ _ (some (dropS (.own xs))) _
            unfold dropS
            dsimp only
            split
            · rename_i hc
              obtain ⟨l, us, p1, p2, p3, p4⟩ := q
              have hla : l ≠ a := fun e => by subst e; rw [ha] at p2; cases p2
              exact ⟨l, us, p1, nn l p2, by rw [upd_ne hla]; exact p3, p4.old k1 hz' hc⟩
            · trivial
          | val d =>
            show SlOk _ _ _ (some (dropS (.val d))) _
            unfold dropS
            dsimp only
            split
            · rename_i hc
              obtain ⟨v, e1, iv⟩ := q
              exact ⟨v, e1, iv.old k1 hz' hc⟩
            · trivial
      obtain ⟨G', m'⟩ := mk_good (n := g.n) (ρ := dropE ρ) (b := b) hb' s1 (by unfold dropE; rw [List.length_map]; exact G.len) G.ln hs (fun i j l o1 o2 => G.apart i j l (own_drop o1) (own_drop o2)) B' (fun i l o => G.notBox (own_drop o))
      have T : Tr g.bx g.H0s g.Hs H0' (heldOff (dropE ρ) σ (upd H a (.lst []))) := by
        refine ⟨fun c u q => ?_, m'.same, fun c u q ni => ?_, fun c n => ?_, fun c q n ni => nn c (G.tr.new c q n ni)⟩
        · have q1 := G.tr.ext c u q
          have q2 := m.same c u q
          by_cases hc : ∃ us, u = .lst us
          · obtain ⟨us, rfl⟩ := hc
            refine k2 c us q1 ?_
            cases hzc : g.k.z c with
            | true => rfl
            | false => rw [m.new c hzc] at q2; cases q2
          · exact k1 c u q1 fun us e => hc ⟨us, e⟩
        · have no : ∀ i, ¬ OwnAt (dropE ρ) σ i c := fun i o => by rw [G.mine i c (own_drop o)] at q; cases q
          rw [held_of no, upd_ne (ne_of_none q hHs)]
          exact G.tr.keep c u q ni
        · have no : ∀ i, ¬ OwnAt (dropE ρ) σ i c := fun i o => n (G.mine i c (own_drop o))
          rw [held_of no]
          by_cases hc : c = a
          · rw [hc, upd_same]; simp
          · rw [upd_ne hc]; exact G.tr.there c n
      exact ⟨.inl ⟨rfl, vs, .inl (.inl hHa)⟩, a, vs, rfl, rfl, hHa, _, _, _, m', dropE ρ, b, H0', G', FinS.atom ⟨x, y, hb'⟩ T F⟩
  · exact F.elim
end
end Fw
set_option Elab.async false
set_option linter.all false
set_option maxRecDepth 100000
set_option maxHeartbeats 1000000
/-! Fw28: an instance that kept a dict stands from now on; a list of lists that grow. -/
namespace Fw
open PySem PySem.Spec PyProof.Rows L2

/-! ### a list of lists that grow -/
def isLls (ρ : En) (i : Nat) : Bool := match ρ[i]? with
  | some (.val .lls) => true
  | _ => false
theorem Good.lls {g : Cfg} {ρ : En} {b : Bx} {σ : L2.St} {H H0 : Hp} (G : Good g ρ b σ H H0) {i : Nat} (h : isLls ρ i = true) : ∃ a ls, g.bx = .lls a ls ∧ σ[i]? = some (some (.ref a)) ∧ H0 a = none ∧ a ∉ ls ∧ ls.Nodup ∧ H a = some (.lst (ls.map V.ref)) ∧ DL g.k H0 H ls b.ls := by
  unfold isLls at h
  split at h
  · rename_i e
    obtain ⟨v, e1, iv⟩ := G.val e
    cases iv with
    | lls hb =>
      have B := G.box
      unfold BoxOk at B
      rw [hb] at B
      exact ⟨_, _, hb, e1, B⟩
  · cases h
theorem DL.len {k : Kx} {H0 H : Hp} : ∀ {ls : List Addr} {dss : List (List D)}, DL k H0 H ls dss → ls.length = dss.length
  | [], [], _ => rfl
  | _ :: _, _ :: _, ⟨_, r⟩ => by simp [DL.len r]
  | [], _ :: _, h => h.elim
  | _ :: _, [], h => h.elim
theorem DL.get {k : Kx} {H0 H : Hp} : ∀ {ls : List Addr} {dss : List (List D)} {j : Nat} {ds : List D}, DL k H0 H ls dss → ls.Nodup → dss[j]? = some ds → ∃ l vs, ls[j]? = some l ∧ l ∈ ls ∧ H0 l = none ∧ H l = some (.lst vs) ∧ IsL k H0 ds vs ∧ ∀ d v, Is k H0 d v → DL k H0 (L2.upd H l (.lst (vs ++ [v]))) ls (dss.set j (ds ++ [d]))
  | [], [], _, _, _, _, h => by simp at h
  | l :: ls, es :: dss, 0, ds, ⟨⟨hz, h0, vs, h1, h2⟩, r⟩, nd, h => by
    cases h
    exact ⟨l, vs, rfl, List.mem_cons_self, h0, h1, h2, fun d v iv => ⟨⟨hz, h0, _, upd_same, h2.app (.cons iv .nil)⟩, r.out (List.nodup_cons.mp nd).1⟩⟩
  | l :: ls, es :: dss, j + 1, ds, ⟨⟨hz, h0, vs, h1, h2⟩, r⟩, nd, h => by
    obtain ⟨n1, n2⟩ := List.nodup_cons.mp nd
    obtain ⟨l', vs', q1, q2, q3, q4, q5, q6⟩ := DL.get (j := j) r n2 (by simpa using h)
    refine ⟨l', vs', by simpa using q1, List.mem_cons_of_mem _ q2, q3, q4, q5, fun d v iv => ⟨⟨hz, h0, vs, ?_, h2⟩, q6 d v iv⟩⟩
    rw [upd_ne (fun q => by subst q; exact n1 q2)]; exact h1
  | [], _ :: _, _, _, h, _, _ => h.elim
  | _ :: _, [], _, _, h, _, _ => h.elim
/-- what is nobody's is changed -/
theorem Good.poke {g : Cfg} {ρ : En} {b : Bx} {σ : L2.St} {H H0 : Hp} {l : Addr} {o : HO} (G : Good g ρ b σ H H0) (h0 : H0 l = none) (hs : g.Hs l = none) (no : ∀ i, ¬ OwnAt ρ σ i l) : Good g ρ b σ (L2.upd H l o) H0 := by
  have nb : ¬ InB g.bx l := fun z => G.bin l z hs
  refine ⟨⟨G.tr.ext, fun a u e => ?_, fun a u e n => ?_, fun a e => ?_, G.tr.new⟩, G.len, fun j => ?_, G.apart, G.mine, G.box.out nb, G.bin, G.zin, G.ln⟩
  · rw [upd_ne (ne_of_none e h0)]; exact G.tr.sub a u e
  · rw [upd_ne (ne_of_none e hs)]; exact G.tr.keep a u e n
  · by_cases ha : a = l
    · subst ha; rw [upd_same]; simp
    · rw [upd_ne ha]; exact G.tr.there a e
  · refine (G.slot j).mono (Same.refl _) (fun _ _ _ _ h _ => h) fun l' us hs' hx hl' => ?_
    rw [upd_ne (fun e => by subst e; exact no j ⟨hs', hx⟩)]; exact hl'
def bL (n : Nat) : Bx := ⟨[], 0, [], [], [], List.replicate n []⟩
def kLls (i : Nat) (fl : Fx (List D)) (kk : Fs) : Fs := fun ρ b => (fl ρ b).out fun ds b1 => if ds.length ≤ 100000 then outBack b1 (kk ((cleanE ρ).set i (.val .lls)) (bL ds.length)) else .bad
def kLApp (i : Nat) (fh fe : Fx D) : Fs := fun ρ b => if isLls ρ i = true then (fh ρ b).out fun hd b1 => match hd with
  | .int h => (match ixN b1.ls.length h with
    | some j => (fe ρ b1).out fun d b2 => (match b2.ls[j]? with
      | some ds => if b2.ls.length = b1.ls.length ∧ ds.length < 100000 then .nx ρ { b2 with ls := b2.ls.set j (ds ++ [d]) } else .bad
      | none => .bad)
    | none => .bad)
  | _ => .bad
  else .bad
/-- the loop of [[] for x in ..] -/
theorem nils_yields {g : Cfg} {is vs : List Nat} {pt : Pat} {J : It} {ds : List D} {ρ : En} {b : Bx} {σ : L2.St} {HA HA0 : Hp} {L : Addr} {Q : VK} (his : ∀ i ∈ is, i ∈ vs) (hpt : ∀ d ρ, ∃ ρ', pt d ρ = some ρ') (Y : Yields g.k J HA0 ds) (hz : ds.length ≤ 100000) (G : Good g ρ b σ HA HA0) (hL : HA L = none)
    (q : ∀ (ls : List Addr) (H' : Hp), ls.length = ds.length → ls.Nodup → L ∉ ls → (∀ l ∈ ls, HA l = none ∧ H' l = some (.lst [])) → H' L = some (.lst (ls.map V.ref)) → (∀ c u, HA c = some u → H' c = some u) → Q (.ref L) H') :
    ∃ Wd : Nat → Nat → Hp → Prop, (∃ m, Wd 0 m (upd HA L (.lst []))) ∧ ∀ i m H, Wd i m H → (J.stop i H ∧ Q (.ref L) H) ∨ (J.go i H ∧ ∃ Nx : Hp → Prop, (∀ H', Nx H' → ∃ m', m' < m ∧ Wd (i + 1) m' H') ∧ ∀ x H', J.yld i H x H' →
      (∃ ρ b H0 d ρ', Good g ρ b (L2.wipe σ vs) H' H0 ∧ Is g.k H0 d x ∧ pt d ρ = some ρ' ∧ ∀ σ2, Good g ρ' b σ2 H' H0 → Wp is (L2.wipe σ vs) σ2 → L2.wipe σ2 vs = L2.wipe σ vs ∧ tYes σ2 H' fun c H3 =>
        if c = true then tLst tNil σ2 H3 fun y H4 => ∃ acc, H4 L = some (.lst acc) ∧ acc.length < sizeLine ∧ Nx (upd H4 L (.lst (acc ++ [y]))) else Nx H3)) := by
  let P : Nat → Hp → Prop := fun i H => ∃ (H0 : Hp) (ls : List Addr), Good g (wipeE ρ vs) b (L2.wipe σ vs) H H0 ∧ Tr g.bx HA0 HA H0 H ∧ H0 L = none ∧ ls.length = i ∧ ls.Nodup ∧ L ∉ ls ∧ (∀ l ∈ ls, HA l = none ∧ H l = some (.lst []) ∧ H0 l = none) ∧ H L = some (.lst (ls.map V.ref)) ∧ ∀ c u, HA c = some u → H c = some u
  have wipe2 : ∀ (τ : L2.St) (us : List Nat), L2.wipe (L2.wipe τ us) us = L2.wipe τ us := by
    intro τ us
    have key : ∀ (us ws : List Nat), (∀ u ∈ ws, u ∈ us) → L2.wipe (L2.wipe τ ws) us = L2.wipe τ us := by
      intro us ws
      induction ws with
      | nil => intro _; rfl
      | cons u ws ih =>
        intro h
        show L2.wipe ((L2.wipe τ ws).set u none) us = _
        rw [wipe_in (h u List.mem_cons_self), ih fun v hv => h v (List.mem_cons_of_mem _ hv)]
    exact key us us fun _ h => h
  have hsL : g.Hs L = none := by
    cases q : g.Hs L with
    | none => rfl
    | some o => exact absurd hL (G.tr.there L (by rw [q]; simp))
  have noL : ∀ j, ¬ OwnAt (wipeE ρ vs) (L2.wipe σ vs) j L := fun j o => absurd hL ((G.wipe vs).held o).2
  refine ⟨fun i m H => m = ds.length - i ∧ i ≤ ds.length ∧ P i H, ⟨_, rfl, Nat.zero_le _, ?_⟩, ?_⟩
  · have ta := Tr.allocO (o := .lst []) G.sub hL
    exact ⟨HA0, [], (G.step ta.weak (G.box.keep ta)).wipe vs, ta.weak, G.sub.free hL, rfl, List.nodup_nil, List.not_mem_nil, (fun l hl => nomatch hl), upd_same, fun c u e => by rw [upd_ne (ne_of_none e hL)]; exact e⟩
  · rintro i m H ⟨rfl, hi, H0, ls, G1, T, h0L, hl, nd, nL, hls, hHL, kp⟩
    obtain ⟨go, stop⟩ := Y H0 H i T.ext G1.sub
    by_cases hlt : i < ds.length
    · have hd : ds[i]? = some ds[i] := List.getElem?_eq_getElem hlt
      obtain ⟨g1, yl⟩ := go _ hd
      refine .inr ⟨g1, P (i + 1), fun H' z => ⟨ds.length - (i + 1), by omega, rfl, hlt, z⟩, fun x H' y => ?_⟩
      obtain ⟨H0', t, iv⟩ := yl x H' y
      have noN : ∀ a, ¬ InB .no a := fun _ z => z
      obtain ⟨ρ1, hp⟩ := hpt ds[i] (wipeE ρ vs)
      have G2 := G1.step t.weak (G1.box.keep t)
      refine ⟨wipeE ρ vs, b, H0', _, ρ1, G2, iv, hp, fun σ2 G3 w2 => ⟨?_, ?_⟩⟩
      · rw [w2 vs his, wipe2]
      · show if true = true then tLst tNil σ2 H' (fun y H4 => ∃ acc, H4 L = some (.lst acc) ∧ acc.length < sizeLine ∧ P (i + 1) (L2.upd H4 L (.lst (acc ++ [y])))) else P (i + 1) H'
        rw [if_pos rfl]
        refine ⟨Nat.zero_le _, fun p hp => ?_⟩
        have L1 : H' L = some (.lst (ls.map V.ref)) := t.keep _ _ hHL (noN _)
        have L0 : H0' L = none := t.new _ h0L (by rw [hHL]; simp) (noN _)
        have npL : L ≠ p := fun e => by subst e; rw [L1] at hp; cases hp
        have ta := Tr.allocO (o := .lst []) G2.sub hp
        have G4 := G2.step ta.weak (G2.box.keep ta)
        have kp' : ∀ c u, H c = some u → H' c = some u := fun c u e => t.keep c u e (noN c)
        have hpH : H p = none := by
          cases e : H p with
          | none => rfl
          | some u => rw [kp' p u e] at hp; cases hp
        have hpA : HA p = none := by
          cases e : HA p with
          | none => rfl
          | some u => rw [kp p u e] at hpH; cases hpH
        refine ⟨ls.map V.ref, by rw [upd_ne npL]; exact L1, by rw [List.length_map, hl]; exact Nat.lt_of_lt_of_le (by omega : i < 100000) (by decide), H0', ls ++ [p], G4.poke L0 hsL noL, ?_, L0, by rw [List.length_append, hl]; rfl, ?_, ?_, fun l hm => ?_, by rw [upd_same, List.map_append]; rfl, fun c u e => ?_⟩
        · have T2 := (T.trans t.weak).trans ta.weak
          refine ⟨T2.ext, fun a u e => ?_, fun a u e n => ?_, fun a e => ?_, T2.new⟩
          · rw [upd_ne (ne_of_none e L0)]; exact T2.sub a u e
          · rw [upd_ne (ne_of_none e hL)]; exact T2.keep a u e n
          · by_cases ha : a = L
            · rw [ha, upd_same]; simp
            · rw [upd_ne ha]; exact T2.there a e
        · rw [List.nodup_append]
          refine ⟨nd, List.nodup_cons.mpr ⟨List.not_mem_nil, List.nodup_nil⟩, fun a ha b hb e => ?_⟩
          rw [List.mem_singleton.mp hb] at e
          subst e
          rw [(hls a ha).2.1] at hpH
          cases hpH
        · intro hm
          rcases List.mem_append.mp hm with hm | hm
          · exact nL hm
          · exact npL (List.mem_singleton.mp hm)
        · rcases List.mem_append.mp hm with hm | hm
          · obtain ⟨a1, a2, a3⟩ := hls l hm
            refine ⟨a1, ?_, t.new l a3 (by rw [a2]; simp) (noN l)⟩
            rw [upd_ne (fun e => by subst e; exact nL hm), upd_ne (fun e => by subst e; rw [a2] at hpH; cases hpH)]
            exact kp' _ _ a2
          · rw [List.mem_singleton.mp hm]
            exact ⟨hpA, by rw [upd_ne (Ne.symm npL), upd_same], G2.sub.free hp⟩
        · rw [upd_ne (ne_of_none e hL), upd_ne (ne_of_none e hpA)]
          exact kp' _ _ (kp c u e)
    · have e : i = ds.length := by omega
      subst e
      exact .inl ⟨stop (Nat.le_refl _), q ls H hl nd nL (fun l hm => ⟨(hls l hm).1, (hls l hm).2.1⟩) hHL kp⟩
section
variable {X : Cx} {g : Cfg} {W : WX} {tg iter e : Expr} {f h : Fx D} {fl : Fx (List D)} {x : Str} {pos p p1 p2 apos cpos tpos lpos spos : Pos} {ss : List Stmt} {kk : Fs} {t : Str} {scope : Scope} {own : List (Str × Nat)} {is : List Nat} {pt : Pat}
theorem pb_lls (i : Nat) (hc : X.calm = true) (hnd : X.N.Nodup) (hNi : X.N[i]? = some t) (hyl : X.env.scope.names.lookup t = some .local)
    (hsw : swapsWith (.ListComp (.List [] lpos) [⟨tg, iter, [], 0⟩] scope cpos) (some (.Name t tpos)) spos.line X.env = pure true) (hi : PIs X g W tg iter fl) (ok : BlkOk X.N X.env.scope scope own) (his : ∀ i ∈ is, i ∈ own.map (·.2)) (hpt : ∀ d ρ, ∃ ρ', pt d ρ = some ρ')
    (hg : ∀ (s : Shared) (H : Hp) (C : Addr) (cl : List (Str × Addr)) (fp : List Addr), PGd (X.blk s H scope (compEnvC scope cl C X.env) fp) g tg is pt)
    (hrest0 : ∀ a ls Hs' H0s', PB X (mkG g.k.K (.lls a ls) g.k.z g.n Hs' H0s') W ss kk)
    (hs : ∀ x, foldedSetIterable iter X.env x = pure x := by intro _; rfl) : PB X g W (.Assign [.Name t tpos] (.ListComp (.List [] lpos) [⟨tg, iter, [], 0⟩] scope cpos) spos :: ss) (kLls i fl kk) := by
  have hrest : PSs X ss (fun Dd σ H => ∃ a ls Hs' H0s', TB (mkG g.k.K (.lls a ls) g.k.z g.n Hs' H0s') W kk Dd σ H) := ⟨fun pins s σ H D I ⟨a, ls, Hs', H0s', z⟩ => (hrest0 a ls Hs' H0s').run pins s σ H D I z⟩
  refine pss_imp (pss_cons (ps_setLc hc hnd hNi hyl hsw hi ok hg (fun _ _ _ _ _ => pts_nil) (fun _ _ _ _ _ => pe_lst pa_nil) hs) hrest) ?_
  rintro Dd σ H ⟨ρ, b, H0, G, F⟩
  refine ⟨ρ, b, H0, G, ?_⟩
  have F := fin_out G F
  refine F.mono fun ds b1 H01 H1 t1 B1 F1 J Y L hL => ?_
  have G1 := G.step t1 B1
  split at F1
  · rename_i hz
    refine nils_yields (Q := fun v H' => ∃ a ls Hs' H0s', TB (mkG g.k.K (.lls a ls) g.k.z g.n Hs' H0s') W kk Dd (σ.set i (some v)) H') his hpt Y hz G1 hL fun ls H' h1 h2 h3 h4 h5 h6 => ?_
    have T : Tr .no H01 H1 H01 H' := ⟨Same.refl _, fun c u q => h6 c u (t1.sub c u q), fun c u q _ => h6 c u q, fun c n => by
      cases hc : H1 c with
      | none => exact absurd hc n
      | some u => rw [h6 c u hc]; simp, fun c q _ _ => q⟩
    have dl : ∀ (ls : List Addr), (∀ l ∈ ls, H1 l = none ∧ H' l = some (.lst [])) → DL ⟨g.k.K, .lls L ls, g.k.z⟩ H01 H' ls (List.replicate ls.length []) → True := fun _ _ _ => trivial
    have dl : ∀ (lz ls : List Addr), (∀ l ∈ ls, H1 l = none ∧ H' l = some (.lst [])) → DL ⟨g.k.K, .lls L lz, g.k.z⟩ H01 H' ls (List.replicate ls.length []) := by
      intro lz ls
      induction ls with
      | nil => intro _; trivial
      | cons l ls ih =>
        intro h
        obtain ⟨a1, a2⟩ := h l List.mem_cons_self
        exact ⟨⟨G1.zok.new a1, t1.sub.free a1, [], a2, .nil⟩, ih fun l hl => h l (List.mem_cons_of_mem _ hl)⟩
    have B' : BoxOk ⟨g.k.K, .lls L ls, g.k.z⟩ H01 H' (bL ds.length) := by
      refine ⟨t1.sub.free hL, h3, h2, h5, ?_⟩
      show DL _ _ _ _ (List.replicate ds.length [])
      rw [← h1]
      exact dl ls ls h4
    have fr : ∀ c, InB (.lls L ls) c → H1 c = none := by
      rintro c (rfl | i)
      · exact hL
      · exact (h4 c i).1
    refine ⟨L, ls, H', H01, (cleanE ρ).set i (.val .lls), bL ds.length, H01, (G1.rebox T B').setV (.lls rfl), ?_⟩
    exact FinS.rebox G1 T fr F1
  · exact F1.elim
/-- x[h].append(e) -/
theorem p1_lApp (i : Nat) {k0 : Expr} (hk0 : PlainIx k0) (hkx : PX X g W k0 f) (ha : PX X g W e h) (hK : X.K = g.k.K) (hN : X.N[i]? = some x := by rfl) (hv : Vis X.env.scope x := by first | exact Or.inl rfl | exact Or.inr (Or.inl rfl) | exact Or.inr (Or.inr rfl)) (hd : (x == ("__debug__" : Str)) = false := by decide)
    (hcd : (x == ("__classdict__" : Str)) = false := by decide)
    (hbase : attributeBase (.Subscript (.Name x p) k0 p1) "append" X.env (eval (.Subscript (.Name x p) k0 p1) X.env) = eval (.Subscript (.Name x p) k0 p1) X.env := by rfl)
    (hfew : ((backTo p2 (starEach [e] X.env)).all (fun x => !x.1) && (backToKw p2 (keywordEach [] X.env)).all (fun x => x.1.isSome) && decide (([e] : List Expr).length + ([] : List Keyword).length + (if ([] : List Keyword).isEmpty then 0 else 1) < 30)) = true := by rfl)
    (hline : (apos.endLine == p2.line) = true := by rfl) (hs : starEach [e] X.env = (false, eval e X.env) :: starEach [] X.env := by rfl) (hplain : (backTo p2 (starEach [] X.env)).any (·.1) = false := by rfl)
    (hsw : swapsWith (.Call (.Attribute (.Subscript (.Name x p) k0 p1) "append" apos) [e] [] p2) none pos.line X.env = pure false := by rfl) :
    P1 X g W (.Expr (.Call (.Attribute (.Subscript (.Name x p) k0 p1) "append" apos) [e] [] p2) pos) (kLApp i f h) := by
  refine ps_imp (ps_expr (pe_bm PySem.F.plainAttrs_list PySem.F.slot_list_append PySem.F.type_list_append mt_append (pe_ix ix_seq (pe_var hN hv hd hcd) hkx hk0) (pa_cons ha pa_nil hs) hbase hfew hline hs hplain) hsw) ?_
  rintro Dd σ H ⟨ρ, b, H0, G, F⟩
  unfold kLApp at F
  split at F
  · rename_i hb
    obtain ⟨a, ls, e1, e2, _⟩ := G.lls hb
    refine ⟨_, e2, ρ, b, H0, G, (fin_out G F).mono fun kd b1 H01 H1 t1 B1 F1 kv ik => ?_⟩
    have G1 := G.step t1 B1
    cases ik with
    | int hh =>
      dsimp only at F1
      cases hj : ixN b1.ls.length hh with
      | none => rw [hj] at F1; exact F1.elim
      | some j =>
        rw [hj] at F1
        obtain ⟨a1, ls1, g1, g2, g3, g4, g5, g6, g7⟩ := G1.lls hb
        have eb : g.bx = .lls a ls := e1
        rw [eb] at g1
        cases g1
        have hlen := g7.len
        obtain ⟨ds1, hd1⟩ : ∃ ds1, b1.ls[j]? = some ds1 := by
          have : j < b1.ls.length := by
            unfold ixN at hj
            split at hj <;> (try split at hj) <;> cases hj <;> omega
          exact ⟨_, List.getElem?_eq_getElem this⟩
        obtain ⟨l, vs, q1, q2, q3, q4, q5, q6⟩ := g7.get g5 hd1
        refine .inl ⟨a, ls.map V.ref, hh, .ref l, rfl, rfl, .inl (.inl g6), ?_, .inl ⟨rfl, vs, .inl (.inl q4)⟩, ρ, b1, H01, G1, (fin_out G1 F1).mono fun d b2 H02 H2 t2 B2 F2 v iv => ?_⟩
        · unfold atI
          rw [List.length_map, hlen, hj]
          simp [q1]
        · have G2 := G1.step t2 B2
          cases hd2 : b2.ls[j]? with
          | none => rw [hd2] at F2; exact F2.elim
          | some ds =>
            rw [hd2] at F2
            dsimp only at F2
            split at F2
            · rename_i hz
              obtain ⟨a2, ls2, k1, k2, k3, k4, k5, k6, k7⟩ := G2.lls hb
              rw [eb] at k1
              cases k1
              obtain ⟨l2, vs2, r1, r2, r3, r4, r5, r6⟩ := k7.get k5 hd2
              rw [q1] at r1
              cases r1
              have inb : InB g.bx l := by rw [eb]; exact .inr q2
              refine ⟨l, vs2, v, rfl, rfl, r4, by rw [← r5.length]; exact Nat.lt_of_lt_of_le hz.2 (by decide), F2 _ _ _ (G2.inBox inb ?_) (Same.refl _)⟩
              unfold BoxOk
              rw [show g.k.bx = _ from eb]
              exact ⟨k3, k4, k5, by rw [upd_ne (fun q => by subst q; exact k4 q2)]; exact k6, r6 d v iv⟩
            · exact F2.elim
    | _ => exact F1.elim
  · exact F.elim
end

/-! ### the lists stand, behind all changes -/
def outPure (b : Bx) : Out → Out
  | .rt d _ => if pureD d = true then .rt d b else .bad
  | .rto ds _ => if pureL ds = true then .rto ds b else .bad
  | _ => .bad
def kUnL (i : Nat) (kk : Fs) : Fs := fun ρ b => if isLls ρ i = true ∧ cleanL (b.ls.map (.lst true)) = true then outPure b (kk ((ρ.map fun _ => Sl.no).set i (.val (.lst true (b.ls.map (.lst true))))) bx0) else .bad
section
variable {X : Cx} {g : Cfg} {W : WX} {ss : List Stmt} {kk : Fs}
theorem pb_unL (i : Nat) (h : ∀ z' Hs' H0s', PB X (mkG g.k.K .no z' g.n Hs' H0s') W ss kk) : PB X g W ss (kUnL i kk) := by
  have hrest : PSs X ss (fun Dd σ H => ∃ z' Hs' H0s', TB (mkG g.k.K .no z' g.n Hs' H0s') W kk Dd σ H) := ⟨fun pins s σ H D I ⟨z', Hs', H0s', zz⟩ => (h z' Hs' H0s').run pins s σ H D I zz⟩
  refine pss_imp hrest ?_
  rintro Dd σ H ⟨ρ, b, H0, G, F⟩
  unfold kUnL at F
  split at F
  · rename_i hb
    obtain ⟨hb, hcl⟩ := hb
    obtain ⟨a, ls, e1, e2, e3, e4, e5, e7, e8⟩ := G.lls hb
    classical
    let M : Addr → Prop := fun c => c ∈ a :: ls
    let z' : Addr → Bool := fun c => g.k.z c || decide (c ∈ a :: ls)
    let H1 : Hp := frzL H0 H (a :: ls)
    have inM : ∀ {c}, c ∈ a :: ls → H1 c = H c := fun hc => if_pos hc
    have outM : ∀ {c}, c ∉ a :: ls → H1 c = H0 c := fun hc => if_neg hc
    have h0M : ∀ {c}, c ∈ a :: ls → H0 c = none := fun hc => by
      rcases List.mem_cons.mp hc with rfl | hc
      · exact e3
      · exact (e8.there hc).1
    have s01 : Same H0 H1 := fun c u q => by
      have hc : c ∉ a :: ls := fun hc => by rw [h0M hc] at q; cases q
      rw [outM hc]; exact q
    have s1 : Same H1 H := fun c u q => by
      by_cases hc : c ∈ a :: ls
      · rw [inM hc] at q; exact q
      · rw [outM hc] at q; exact G.sub c u q
    have hz0 : ∀ c, H0 c ≠ none → z' c = g.k.z c := fun c n => by
      have hc : c ∉ a :: ls := fun hc => n (h0M hc)
      simp only [z', decide_eq_false hc, Bool.or_false]
    have zM : ∀ {c}, c ∈ a :: ls → z' c = true := fun hc => by simp only [z', decide_eq_true hc, Bool.or_true]
    have id : Is ⟨g.k.K, .no, z'⟩ H1 (.lst true (b.ls.map (.lst true))) (.ref a) := by
      refine .lst (vs := ls.map V.ref) ?_ (zM List.mem_cons_self) (DL.all (bx := g.k.bx) (z := g.k.z) s01 hz0 e8 hcl (fun l hl => zM (List.mem_cons_of_mem _ hl)) fun l o hl q => ?_)
      · rw [inM List.mem_cons_self]; exact e7
      · rw [inM (List.mem_cons_of_mem _ hl)]; exact q
    have there : ∀ {c}, c ∈ a :: ls → H c ≠ none := fun hc => by
      rcases List.mem_cons.mp hc with rfl | hc
      · rw [e7]; simp
      · exact (e8.there hc).2
    have zo : ZOk ⟨g.k.K, .no, z'⟩ H := fun c q => by
      have q : (g.k.z c || decide (c ∈ a :: ls)) = true := q
      rcases Bool.or_eq_true_iff.mp q with q | q
      · exact G.zok c q
      · exact there (of_decide_eq_true q)
    let ρ1 : En := ρ.map fun _ => Sl.no
    have G0 : Good (mkG g.k.K .no z' g.n H H1) ρ1 bx0 σ H H1 := by
      have no : ∀ {j s}, ρ1[j]? = some s → s = Sl.no := fun {j s} q => by
        rw [List.getElem?_map] at q
        cases hr : ρ[j]? with
        | none => rw [hr] at q; cases q
        | some s' => rw [hr] at q; exact (Option.some.inj q).symm
      refine ⟨Tr.refl s1, by rw [List.length_map]; exact G.len, fun j => ?_, fun j j' l o => ?_, fun j l o => ?_, trivial, fun _ zz => zz.elim, zo, G.ln⟩
      · cases hr : ρ1[j]? with
        | none => trivial
        | some s => rw [no hr]; trivial
      · obtain ⟨⟨ds, q, qo⟩, _⟩ := o; rw [no q] at qo; cases qo
      · obtain ⟨⟨ds, q, qo⟩, _⟩ := o; rw [no q] at qo; cases qo
    have G1 : Good (mkG g.k.K .no z' g.n H H1) (ρ1.set i (.val (.lst true (b.ls.map (.lst true))))) bx0 σ H H1 := by
      have q := G0.setV (i := i) (v := .ref a) id
      have es : σ.set i (some (V.ref a)) = σ := by
        apply List.ext_getElem?
        intro j
        rw [set_get]
        split
        · rename_i hj; rw [← hj.1, e2]
        · rfl
      rw [es] at q
      exact q
    refine ⟨z', H, H1, _, bx0, H1, G1, ?_⟩
    have hM : ∀ {H0z Hz : Hp}, Tr .no H1 H H0z Hz → ∀ c, M c → (∃ xs, H0z c = some (.lst xs) ∧ z' c = true) ∨ (∃ kv, H0z c = some (.dK kv)) ∨ ∃ fs, H0z c = some (.xd fs) := fun t c m => by
      rcases List.mem_cons.mp m with rfl | m2
      · exact .inl ⟨_, t.ext _ _ (by rw [inM List.mem_cons_self]; exact e7), zM m⟩
      · obtain ⟨vs, hv⟩ := e8.isLst m2
        exact .inl ⟨vs, t.ext _ _ (by rw [inM (List.mem_cons_of_mem _ m2)]; exact hv), zM m⟩
    have hzz : ∀ c, z' c = false → g.k.z c = false := fun c q => by
      have q : (g.k.z c || decide (c ∈ a :: ls)) = false := q
      exact (Bool.or_eq_false_iff.mp q).1
    have bM : ∀ c, InB g.bx c → c ∈ a :: ls := fun c i => by
      rw [e1] at i
      rcases i with rfl | i
      · exact List.mem_cons_self
      · exact List.mem_cons_of_mem _ i
    have h0z : ∀ {H0z Hz : Hp}, Tr .no H1 H H0z Hz → Same H0 (cutH H0z M) := fun t c u q => by
      have hc : ¬ M c := fun hc => by rw [h0M hc] at q; cases q
      rw [cutH_out hc]
      exact t.ext _ _ (s01 _ _ q)
    have kp : ∀ {H0z Hz : Hp}, Tr .no H1 H H0z Hz → ∀ c u, H c = some u → Hz c = some u := fun t c u q => t.keep c u q fun zz => zz
    have tt : ∀ {H0z Hz : Hp}, Tr .no H1 H H0z Hz → Tr g.bx H0 H (cutH H0z M) Hz := fun {H0z Hz} t => by
      refine ⟨h0z t, fun c u q => ?_, fun c u q _ => kp t c u q, t.there, fun c q n ni => ?_⟩
      · by_cases hc : M c
        · rw [cutH_in hc] at q; cases q
        · rw [cutH_out hc] at q; exact t.sub c u q
      · have hc : ¬ M c := fun hc => ni (by rw [e1]; rcases List.mem_cons.mp hc with rfl | hc; exact .inl rfl; exact .inr hc)
        rw [cutH_out hc]
        exact t.new c (by rw [outM hc]; exact q) n fun zz => zz
    have bb : ∀ {H0z Hz : Hp}, Tr .no H1 H H0z Hz → BoxOk g.k (cutH H0z M) Hz b := fun t => G.box.move (h0z t) (fun c i => cutH_in (bM c i)) fun c u _ q => kp t c u q
    generalize kk (ρ1.set i (.val (.lst true (b.ls.map (.lst true))))) bx0 = o at F
    cases o with
    | rt d b2 =>
      have F : FinS g W H0 (if pureD d = true then .rt d b else .bad) Dd := F
      split at F
      · rename_i hp
        exact fun v Hz H0z t _ iv => F v Hz (cutH H0z M) (G.tr.trans (tt t)) (bb t) (iv.cut (hM t) hzz hp)
      · exact F.elim
    | rto ds b2 =>
      have F : FinS g W H0 (if pureL ds = true then .rto ds b else .bad) Dd := F
      split at F
      · rename_i hp
        intro l vs Hz H0z t _ hn h0 hl il
        refine F l vs Hz (cutH H0z M) (G.tr.trans (tt t)) (bb t) ?_ ?_ hl (il.cut (hM t) hzz hp)
        · cases q : g.Hs l with
          | none => rfl
          | some u => exact absurd (show H l = none from hn) (G.tr.there l (by rw [q]; simp))
        · unfold cutH
          split
          · rfl
          · exact h0
      · exact F.elim
    | _ => exact F.elim
  · exact F.elim
end
end Fw
set_option Elab.async false
set_option linter.all false
set_option maxRecDepth 100000
set_option maxHeartbeats 1000000
/-! Fw29: an instance that kept a dict, asked once, stands from now on with its dict. -/
namespace Fw
open PySem PySem.Spec PyProof.Rows L2
def stoodD (C : Addr) (b : Bx) : D := .ins C b.fs (b.ds ++ [.kd (b.mm.map (·.1)) (b.mm.map (·.2))])
def kMemoF (i : Nat) (C : Addr) (ns : List Str) (kn : Str) (fl : Fx (List D)) (k1 kk : Fs) : Fs := fun ρ b => (fl ρ b).out fun ds b1 => if ds.length = ns.length ∧ cleanL ds = true then
    (match k1 ((cleanE ρ).set i (.val (.mem C))) (bM ns kn ds) with
    | .nx ρ2 b2 => if isMem ρ2 i C = true ∧ clean (stoodD C b2) = true then outBack b1 (kk ((cleanE ρ2).set i (.val (stoodD C b2))) bx0) else .bad
    | _ => .bad)
  else .bad
theorem cleanL_app : ∀ {xs ys : List D}, cleanL (xs ++ ys) = true → cleanL xs = true ∧ cleanL ys = true
  | [], _, h => ⟨rfl, h⟩
  | x :: xs, ys, h => by
    have h : (clean x && cleanL (xs ++ ys)) = true := h
    obtain ⟨h1, h2⟩ := Bool.and_eq_true_iff.mp h
    obtain ⟨h3, h4⟩ := cleanL_app h2
    refine ⟨?_, h4⟩
    show (clean x && cleanL xs) = true
    rw [h1, h3]; rfl
section
variable {X : Cx} {g : Cfg} {W : WX} {e : Expr} {es : List Expr} {fl : Fx (List D)} {x t kn : Str} {ns : List Str} {pos p cpos tpos : Pos} {C : Addr} {k k2 : Nat} {s1 : Stmt} {ss : List Stmt} {k1 kk : Fs}
theorem pb_memoF (i : Nat) (cl : MemD X.prog X.w X.K X.mg X.base k x C ns kn) (hr : Room k2 X.A) (hk : k + 1 ≤ k2) (hK : X.K = g.k.K) (hnd : X.N.Nodup) (hpa : PL X g W (e :: es) fl)
    (h1 : ∀ a d Hs' H0s', P1 X (mkG g.k.K (.memo a C d) g.k.z g.n Hs' H0s') W s1 k1) (h2 : ∀ Hs' H0s', PB X (mkG g.k.K .no g.k.z g.n Hs' H0s') W ss kk)
    (hg : Gl X x := by rfl) (hNi : X.N[i]? = some t := by rfl) (hx : Loc X.env.scope t := by first | exact Or.inl rfl | exact Or.inr rfl) (hdb : (x == ("__debug__" : Str)) = false := by decide)
    (hs : swapsWith (.Call (.Name x p) (e :: es) [] cpos) (some (.Name t tpos)) pos.line X.env = pure false := by rfl)
    (hf : X.fn t = true ∨ X.env.scope.names.lookup t = some .local := by first | exact .inl rfl | exact .inr rfl | assumption)
    (he : starEach (e :: es) X.env = (false, eval e X.env) :: starEach es X.env := by rfl) (hpl : (backTo cpos (starEach es X.env)).any (·.1) = false := by rfl) :
    PB X g W (.Assign [.Name t tpos] (.Call (.Name x p) (e :: es) [] cpos) pos :: s1 :: ss) (kMemoF i C ns kn fl k1 kk) := by
  let T2 : TS := fun Dd σ H => ∃ (d : Addr) (u : HO), H d = some u ∧ Mut (some u) ∧ ∀ od, ∃ Hs' H0s', TB (mkG g.k.K .no g.k.z g.n Hs' H0s') W kk Dd σ (L2.upd H d (.frz od u))
  have hrest2 : PSs X ss T2 := ⟨fun pins s σ H D I ⟨d, u, hd, mu, q⟩ => by
    obtain ⟨od, I1⟩ := I.lock hd mu
    obtain ⟨Hs', H0s', z⟩ := q od
    exact (h2 Hs' H0s').run pins s σ _ D I1 z⟩
  have hrest : PSs X (s1 :: ss) (fun Dd σ H => ∃ a d Hs' H0s', TB (mkG g.k.K (.memo a C d) g.k.z g.n Hs' H0s') W k1 { Dd with nx := T2 Dd } σ H) := ⟨fun pins s σ H D I ⟨a, d, Hs', H0s', z⟩ => (pss_cons (h1 a d Hs' H0s') hrest2).run pins s σ H D I z⟩
  obtain ⟨fa, fd, ps, M, F1, bb, hm⟩ := cl.ex
  refine pss_imp (pss_cons (ps_set hnd hNi hx (pe_make M F1 (hr.mono hk) hg hm bb .nil passL hpa hdb he hpl) hs hf) hrest) ?_
  rintro Dd σ H ⟨ρ, b, H0, G, FF⟩
  refine ⟨ρ, b, H0, G, (fin_out G FF).mono fun ds b1 H01 H1 t1 B1 F2 vs il => ?_⟩
  have G1 := G.step t1 B1
  intro o dx ho hdx hne
  split at F2
  · rename_i hc
    obtain ⟨hn, hcl⟩ := hc
    refine ⟨o, dx, vs, by rw [List.append_nil], by rw [← il.length]; exact hn, by rw [upd_same], fun d H2 hd h2 h3 h4 => ⟨rfl, ?_⟩⟩
    have hdo : d ≠ o := fun q => by subst q; rw [upd_same] at hd; cases hd
    rw [upd_ne hdo] at hd
    have hddx : d ≠ dx := fun q => by subst q; rw [upd_same] at hd; cases hd
    rw [upd_ne hddx] at hd
    have kp : ∀ c u, H1 c = some u → H2 c = some u := fun c u q => by
      rw [h4 c (ne_of_none q ho) (ne_of_none q hd), upd_ne (ne_of_none q ho), upd_ne (ne_of_none q hdx)]; exact q
    have T : Tr .no H01 H1 H01 H2 := ⟨Same.refl _, fun c u q => kp c u (t1.sub c u q), fun c u q _ => kp c u q, fun c n => by
      cases hc : H1 c with
      | none => exact absurd hc n
      | some u => rw [kp c u hc]; simp, fun c q _ _ => q⟩
    have B' : BoxOk ⟨g.k.K, .memo o C d, g.k.z⟩ H01 H2 (bM ns kn ds) := by
      refine ⟨t1.sub.free ho, dx, vs, h2, by show (ns ++ [kn]).length = _; rw [List.length_append, ← hn, il.length]; rfl, il.rebox hcl, t1.sub.free hd, Ne.symm hdo, [], h3, .nil⟩
    have fr : ∀ c, InB (.memo o C d) c → H1 c = none := by
      rintro c (rfl | rfl)
      · exact ho
      · exact hd
    refine ⟨o, d, H2, H01, (cleanE ρ).set i (.val (.mem C)), bM ns kn ds, H01, (G1.rebox T B').setV (.mem rfl), ?_⟩
    cases hk1 : k1 ((cleanE ρ).set i (.val (.mem C))) (bM ns kn ds) with
    | nx ρ2 b2 =>
      rw [hk1] at F2
      dsimp only at F2
      split at F2
      · rename_i hc2
        obtain ⟨hmem, hcl2⟩ := hc2
        intro σm Hm H0m Gm _
        obtain ⟨a', d', e1, e2⟩ := Gm.mem hmem
        cases e1
        have Bm := Gm.box
        unfold BoxOk at Bm
        obtain ⟨q0, dx2, vs2, q1, q2, q3, q4, q5, xs, q6, q7⟩ := Bm
        have hcl3 : cleanL (b2.ds ++ [D.kd (b2.mm.map (·.1)) (b2.mm.map (·.2))]) = true := hcl2
        obtain ⟨c1, c2⟩ := cleanL_app hcl3
        have c2 : ((cleanL (b2.mm.map (·.1)) && cleanL (b2.mm.map (·.2))) && true) = true := c2
        rw [Bool.and_true] at c2
        obtain ⟨c3, c4⟩ := Bool.and_eq_true_iff.mp c2
        obtain ⟨r1, r2, r3⟩ := q7.ks
        refine ⟨d, keyO d xs, q6, trivial, fun od => ?_⟩
        let Hp1 : Hp := L2.upd Hm d (.frz od (keyO d xs))
        let H0p : Hp := L2.upd (L2.upd H0m o (.ins C dx2 (b2.fs.zip (vs2 ++ [.ref d])))) d (.frz od (keyO d xs))
        have s0 : Same H0m H0p := fun c u q => by
          show L2.upd _ _ _ c = _
          rw [upd_ne (ne_of_none q q4), upd_ne (ne_of_none q q0)]; exact q
        have sp : Same H0p Hp1 := fun c u q => by
          by_cases hcd : c = d
          · subst hcd
            have q : L2.upd _ c _ c = some u := q
            rw [upd_same] at q
            show L2.upd _ _ _ _ = _
            rw [upd_same]; exact q
          · have q : L2.upd _ d _ c = some u := q
            rw [upd_ne hcd] at q
            show L2.upd _ _ _ _ = _
            rw [upd_ne hcd]
            by_cases hco : c = o
            · subst hco; rw [upd_same] at q; rw [q1]; exact q
            · rw [upd_ne hco] at q; exact Gm.sub c u q
        have no : ∀ {i l}, ¬ OwnAt (cleanE ρ2) σm i l := by
          rintro i l ⟨⟨t, e, eo⟩, _⟩
          unfold cleanE at e
          rw [List.getElem?_map] at e
          cases hr : ρ2[i]? with
          | none => rw [hr] at e; cases e
          | some s =>
            rw [hr] at e
            cases s with
            | no => cases e; cases eo
            | own _ => cases e; cases eo
            | odc _ => cases e; cases eo
            | val d =>
              have e : cleanS (.val d) = t := Option.some.inj e
              subst e
              unfold cleanS at eo
              dsimp only at eo
              split at eo <;> cases eo
        have Gp : Good (mkG g.k.K .no g.k.z g.n Hp1 H0p) (cleanE ρ2) bx0 σm Hp1 H0p := by
          refine ⟨Tr.refl sp, by unfold cleanE; rw [List.length_map]; exact Gm.len, fun j => ?_, fun i j l o => (no o).elim, fun i l o => (no o).elim, trivial, fun _ z => z.elim, fun c q => ?_, Gm.ln⟩
          · unfold cleanE
            rw [List.getElem?_map]
            have q := Gm.slot j
            cases hr : ρ2[j]? with
            | none => trivial
            | some s =>
              rw [hr] at q
              cases s with
              | no => trivial
              | own _ => trivial
              | odc _ => trivial
              | val d =>
                show SlOk _ _ _ (some (cleanS (.val d))) _
                unfold cleanS
                dsimp only
                split
                · rename_i hc
                  obtain ⟨v, e1, iv⟩ := q
                  exact ⟨v, e1, (iv.rebox hc).mono s0⟩
                · trivial
          · show L2.upd _ _ _ c ≠ none
            by_cases hcd : c = d
            · subst hcd; rw [upd_same]; simp
            · rw [upd_ne hcd]; exact Gm.zok c q
        have id : Is ⟨g.k.K, .no, g.k.z⟩ H0p (stoodD C b2) (.ref o) := by
          refine .ins (vs := vs2 ++ [.ref d]) (dx := dx2) ?_ (by rw [List.length_append]; exact q2) (((q3.rebox c1).mono s0).app (.cons (.kd (o := od) (xs := xs) upd_same r1 ((r2.rebox c3).mono s0) ((r3.rebox c4).mono s0)) .nil))
          show L2.upd _ _ _ o = _
          rw [upd_ne q5, upd_same]
        have es : σm.set i (some (V.ref o)) = σm := by
          apply List.ext_getElem?
          intro j
          rw [set_get]
          split
          · rename_i hj; rw [← hj.1, e2]
          · rfl
        have Gq := Gp.setV (i := i) (v := .ref o) id
        rw [es] at Gq
        refine ⟨Hp1, H0p, _, bx0, H0p, Gq, ?_⟩
        -- the end, seen from outside
        have nB : ∀ {c u}, H1 c = some u → ¬ InB (.memo o C d) c := fun {c u} q i => by rw [fr c i] at q; cases q
        have kz : ∀ {H0z Hz : Hp}, Tr .no H0p Hp1 H0z Hz → ∀ c u, H1 c = some u → Hz c = some u := fun t c u q => by
          refine t.keep c u ?_ fun z => z
          show L2.upd _ _ _ c = _
          rw [upd_ne (ne_of_none q hd)]
          exact Gm.tr.keep c u (kp c u q) (nB q)
        have nz : ∀ {H0z Hz : Hp}, Tr .no H0p Hp1 H0z Hz → ∀ c, H01 c = none → H1 c ≠ none → H0z c = none := fun t c q n => by
          obtain ⟨u, hu⟩ : ∃ u, H1 c = some u := by
            cases h : H1 c with
            | none => exact absurd h n
            | some u => exact ⟨u, rfl⟩
          have hm0 : H0m c = none := Gm.tr.new c q (by show H2 c ≠ none; rw [kp c u hu]; simp) (nB hu)
          have hmc : Hm c = some u := Gm.tr.keep c u (kp c u hu) (nB hu)
          refine t.new c ?_ ?_ fun z => z
          · show L2.upd _ _ _ c = _
            rw [upd_ne (ne_of_none hu hd), upd_ne (ne_of_none hu ho)]; exact hm0
          · show L2.upd _ _ _ c ≠ none
            rw [upd_ne (ne_of_none hu hd), hmc]; simp
        have tz : ∀ {H0z Hz : Hp}, Tr .no H0p Hp1 H0z Hz → Tr g.bx H01 H1 H0z Hz := fun t => ⟨fun c u q => t.ext c u (s0 c u (Gm.tr.ext c u q)), t.sub, fun c u q _ => kz t c u q, fun c n => by
          cases h : H1 c with
          | none => exact absurd h n
          | some u => rw [kz t c u h]; simp, fun c q n _ => nz t c q n⟩
        have bz : ∀ {H0z Hz : Hp}, Tr .no H0p Hp1 H0z Hz → BoxOk g.k H0z Hz b1 := fun t => B1.move (tz t).ext (fun c i => nz t c (B1.at i).1 (B1.at i).2) fun c u _ q => kz t c u q
        generalize kk ((cleanE ρ2).set i (.val (stoodD C b2))) bx0 = oo at F2
        cases oo with
        | rt dd b3 =>
          have F2 : FinS g W H01 (if clean dd = true then .rt dd b1 else .bad) Dd := F2
          split at F2
          · rename_i hc
            exact fun v Hz H0z t _ iv => F2 v Hz H0z (G1.tr.trans (tz t)) (bz t) (iv.rebox hc)
          · exact F2.elim
        | rto dd b3 =>
          have F2 : FinS g W H01 (if cleanL dd = true then .rto dd b1 else .bad) Dd := F2
          split at F2
          · rename_i hc
            refine fun l vs Hz H0z t _ hn h0 hl il => F2 l vs Hz H0z (G1.tr.trans (tz t)) (bz t) ?_ h0 hl (il.rebox hc)
            cases q : g.Hs l with
            | none => rfl
            | some u =>
              have w1 := G1.tr.there l (by rw [q]; simp)
              obtain ⟨u1, hu1⟩ : ∃ u, H1 l = some u := by
                cases h : H1 l with
                | none => exact absurd h w1
                | some u => exact ⟨u, rfl⟩
              have w2 : Hm l = some u1 := Gm.tr.keep l u1 (kp l u1 hu1) (nB hu1)
              have w3 : Hp1 l = some u1 := by
                show L2.upd _ _ _ l = _
                rw [upd_ne (ne_of_none hu1 hd)]; exact w2
              have hn : Hp1 l = none := hn
              rw [hn] at w3; cases w3
          · exact F2.elim
        | _ => exact F2.elim
      · exact F2.elim
    | _ => rw [hk1] at F2; exact F2.elim
  · exact F2.elim
end
end Fw
set_option Elab.async false
set_option linter.all false
set_option maxRecDepth 100000
set_option maxHeartbeats 1000000
/-! Fw30: lists that are new behind a mark are spoilt: all of a list cleared, then the list. -/
namespace Fw
open PySem PySem.Spec PyProof.Rows L2
/-- a list that is new behind the mark -/
def NewL (g : Cfg) (H0 : Hp) (c : Addr) : Prop := g.k.z c = false ∧ ∃ us, H0 c = some (.lst us)
/-- what is new may have changed in any way; what leans on it is dropped -/
theorem spoil_good {g : Cfg} {ρ : En} {b : Bx} {σ : L2.St} {H H0 H' : Hp} (G : Good g ρ b σ H H0) (m : MarkX g) (hk : ∀ c, ¬ NewL g H0 c → H' c = H c) (ht : ∀ c, NewL g H0 c → H' c ≠ none) :
    ∃ H0', Good (mkG g.k.K g.k.bx (stands (heldOff (dropE ρ) σ H')) g.n (heldOff (dropE ρ) σ H') H0') (dropE ρ) b σ H' H0' ∧ MarkX (mkG g.k.K g.k.bx (stands (heldOff (dropE ρ) σ H')) g.n (heldOff (dropE ρ) σ H') H0') ∧ Tr g.bx g.H0s g.Hs H0' (heldOff (dropE ρ) σ H') := by
  classical
  let H0' : Hp := fun c => if NewL g H0 c then none else H0 c
  have sm : ∀ c u, H0' c = some u → H0 c = some u ∧ ¬ NewL g H0 c := fun c u q => by
    have q : (if NewL g H0 c then none else H0 c) = some u := q
    split at q
    · cases q
    · rename_i hn
      exact ⟨q, hn⟩
  have nn : ∀ c, H0 c = none → H0' c = none := fun c q => by
    show (if _ then none else H0 c) = none
    split
    · rfl
    · exact q
  have k1 : ∀ c u, H0 c = some u → (∀ vs, u ≠ .lst vs) → H0' c = some u := fun c u q n => by
    show (if _ then none else H0 c) = _
    rw [if_neg]
    · exact q
    · rintro ⟨_, us, e⟩
      rw [q] at e
      exact n us (Option.some.inj e)
  have k2 : ∀ c us, H0 c = some (.lst us) → g.k.z c = true → H0' c = some (.lst us) := fun c us q n => by
    show (if _ then none else H0 c) = _
    rw [if_neg]
    · exact q
    · rintro ⟨e, _⟩
      rw [n] at e; cases e
  have nN : ∀ c, H0 c = none → ¬ NewL g H0 c := fun c q ⟨_, us, e⟩ => by rw [q] at e; cases e
  have hN : ∀ c, NewL g H0 c → g.Hs c = none := fun c ⟨e, _⟩ => m.new c e
  obtain ⟨x, y, hb'⟩ := m.draw
  have s1 : Same H0' H' := fun c u q => by
    obtain ⟨q1, q2⟩ := sm c u q
    rw [hk c q2]
    exact G.sub c u q1
  have hz' : ∀ c us, H0 c = some (.lst us) → g.k.z c = true → H0' c = some (.lst us) ∧ stands (heldOff (dropE ρ) σ H') c = true := fun c us q1 q2 => by
    have q3 := k2 c us q1 q2
    have no : ∀ i, ¬ OwnAt (dropE ρ) σ i c := fun i o => by
      have p2 := (G.held (own_drop o)).1
      rw [q1] at p2
      cases p2
    refine ⟨q3, stands_t ?_⟩
    rw [held_of no, s1 c _ q3]
    simp
  have B' : BoxOk ⟨g.k.K, g.k.bx, stands (heldOff (dropE ρ) σ H')⟩ H0' H' b := draw_box hb' hb' G.box nn fun c u q1 q2 => by rw [hk c (nN c q1)]; exact q2
  have hs : ∀ i : Nat, SlOk ⟨g.k.K, g.k.bx, stands (heldOff (dropE ρ) σ H')⟩ H0' H' (dropE ρ)[i]? σ[i]? := fun i => by
    unfold dropE
    rw [List.getElem?_map]
    have q := G.slot i
    cases hr : ρ[i]? with
    | none => trivial
    | some s =>
      rw [hr] at q
      cases s with
      | no => trivial
      | odc _ => trivial
      | own xs =>
        show SlOk _ _ _ (some (dropS (.own xs))) _
        unfold dropS
        dsimp only
        split
        · rename_i hc
          obtain ⟨l, us, p1, p2, p3, p4⟩ := q
          exact ⟨l, us, p1, nn l p2, by rw [hk l (nN l p2)]; exact p3, p4.old k1 hz' hc⟩
        · trivial
      | val d =>
        show SlOk _ _ _ (some (dropS (.val d))) _
        unfold dropS
        dsimp only
        split
        · rename_i hc
          obtain ⟨v, e1, iv⟩ := q
          exact ⟨v, e1, iv.old k1 hz' hc⟩
        · trivial
  obtain ⟨G', m'⟩ := mk_good (n := g.n) (ρ := dropE ρ) (b := b) hb' s1 (by unfold dropE; rw [List.length_map]; exact G.len) G.ln hs (fun i j l o1 o2 => G.apart i j l (own_drop o1) (own_drop o2)) B' (fun i l o => G.notBox (own_drop o))
  have T : Tr g.bx g.H0s g.Hs H0' (heldOff (dropE ρ) σ H') := by
    refine ⟨fun c u q => ?_, m'.same, fun c u q ni => ?_, fun c n => ?_, fun c q n ni => nn c (G.tr.new c q n ni)⟩
    · have q1 := G.tr.ext c u q
      have q2 := m.same c u q
      by_cases hc : ∃ us, u = .lst us
      · obtain ⟨us, rfl⟩ := hc
        refine k2 c us q1 ?_
        cases hzc : g.k.z c with
        | true => rfl
        | false => rw [m.new c hzc] at q2; cases q2
      · exact k1 c u q1 fun us e => hc ⟨us, e⟩
    · have no : ∀ i, ¬ OwnAt (dropE ρ) σ i c := fun i o => by rw [G.mine i c (own_drop o)] at q; cases q
      rw [held_of no, hk c fun w => by rw [hN c w] at q; cases q]
      exact G.tr.keep c u q ni
    · have no : ∀ i, ¬ OwnAt (dropE ρ) σ i c := fun i o => n (G.mine i c (own_drop o))
      rw [held_of no, hk c fun w => n (hN c w)]
      exact G.tr.there c n
  exact ⟨H0', G', m', T⟩
/-- lists that are new, all of them -/
def newLs : List D → Bool
  | [] => true
  | .lst false _ :: ds => newLs ds
  | _ => false
theorem newLs_get {g : Cfg} {H0 : Hp} : ∀ {ds : List D} {vs : List V} {i : Nat} {v : V}, newLs ds = true → IsL g.k H0 ds vs → vs[i]? = some v → ∃ r, v = .ref r ∧ NewL g H0 r
  | [], _, i, v, _, l, h => by cases l; simp at h
  | d :: ds, _, i, v, n, .cons (v := u) (vs := us) hi hl, h => by
    cases d with
    | lst z xs =>
      cases z with
      | true => cases n
      | false =>
        cases i with
        | zero =>
          simp at h
          subst h
          cases hi with
          | @lst a ws _ _ ha hz _ => exact ⟨a, rfl, hz, ws, ha⟩
        | succ i => exact newLs_get (i := i) (show newLs ds = true from n) hl (by simpa using h)
    | _ => cases n
def kClrLL (i j : Nat) (kk : Fs) : Fs := fun ρ b => match ρ[i]? with
  | some (.val (.lst false ds)) => if newLs ds = true ∧ j < ρ.length ∧ i ≠ j then outAtom (kk (dropE (ρ.set j .no)) b) else .bad
  | _ => .bad
section
variable {X : Cx} {g : Cfg} {W : WX} {ss : List Stmt} {kk : Fs} {x y : Str} {p p2 p3 p4 p5 pos pos2 pos3 cp ap ap2 : Pos}
theorem pb_clrLL (i j : Nat) (m : MarkX g) (hp : PassesOwn (model X.prog X.w) X.A X.env X.xe) (hc : X.calm = true) (hnd : X.N.Nodup) (h : ∀ z' Hs' H0s', MarkX (mkG g.k.K g.k.bx z' g.n Hs' H0s') → PB X (mkG g.k.K g.k.bx z' g.n Hs' H0s') W ss kk) (hK : X.K = g.k.K)
    (hN : X.N[i]? = some x := by rfl) (hM : X.N[j]? = some y := by rfl)
    (hv : Vis X.env.scope x := by first | exact Or.inl rfl | exact Or.inr (Or.inl rfl) | exact Or.inr (Or.inr rfl)) (hd : (x == ("__debug__" : Str)) = false := by decide) (hcd : (x == ("__classdict__" : Str)) = false := by decide)
    (hvy : Vis X.env.scope y := by first | exact Or.inl rfl | exact Or.inr (Or.inl rfl) | exact Or.inr (Or.inr rfl)) (hdy : (y == ("__debug__" : Str)) = false := by decide) (hcdy : (y == ("__classdict__" : Str)) = false := by decide)
    (hly : Loc X.env.scope y := by first | exact Or.inl rfl | exact Or.inr rfl) (hfy : X.fn y = true ∨ X.env.scope.names.lookup y = some .local := by first | exact .inl rfl | exact .inr rfl | assumption)
    (hb1 : attributeBase (.Name y p3) "clear" X.env (eval (.Name y p3) X.env) = eval (.Name y p3) X.env := by rfl) (hl1 : (ap.endLine == p4.line) = true := by rfl)
    (hs1 : swapsWith (.Call (.Attribute (.Name y p3) "clear" ap) [] [] p4) none pos2.line X.env = pure false := by rfl)
    (hb2 : attributeBase (.Name x p5) "clear" X.env (eval (.Name x p5) X.env) = eval (.Name x p5) X.env := by rfl) (hl2 : (ap2.endLine == cp.line) = true := by rfl)
    (hs2 : swapsWith (.Call (.Attribute (.Name x p5) "clear" ap2) [] [] cp) none pos3.line X.env = pure false := by rfl)
    (hs : ∀ z, foldedSetIterable (.Name x p) X.env z = pure z := by intro _; rfl) :
    PB X g W (.For (.Name y p2) (.Name x p) [.Expr (.Call (.Attribute (.Name y p3) "clear" ap) [] [] p4) pos2] [] pos :: .Expr (.Call (.Attribute (.Name x p5) "clear" ap2) [] [] cp) pos3 :: ss) (kClrLL i j kk) := by
  have hrest : PSs X ss (fun Dd σ H => ∃ z' Hs' H0s', MarkX (mkG g.k.K g.k.bx z' g.n Hs' H0s') ∧ TB (mkG g.k.K g.k.bx z' g.n Hs' H0s') W kk Dd σ H) := ⟨fun pins s σ H D I ⟨z', Hs', H0s', m, z⟩ => (h z' Hs' H0s' m).run pins s σ H D I z⟩
  refine pss_imp (pss_cons (ps_for hp hc (pi_list (pe_var hN hv hd hcd)) (pg_name hnd hM hly hfy) (pss_one (ps_expr (pe_bm0 PySem.F.plainAttrs_list PySem.F.slot_list_clear PySem.F.type_list_clear mt_clear (pe_var hM hvy hdy hcdy) hb1 hl1) hs1)) hs)
    (pss_cons (ps_expr (pe_bm0 PySem.F.plainAttrs_list PySem.F.slot_list_clear PySem.F.type_list_clear mt_clear (pe_var hN hv hd hcd) hb2 hl2) hs2) hrest)) ?_
  rintro Dd σ H ⟨ρ, b, H0, G, F⟩
  unfold kClrLL at F
  split at F
  · rename_i ds hi
    split at F
    · rename_i hcnd
      obtain ⟨hnew, hjl, hij⟩ := hcnd
      obtain ⟨v, e1, iv⟩ := G.val hi
      cases iv with
      | @lst a vs _ _ ha hz il =>
        have ua : NewL g H0 a := ⟨hz, vs, ha⟩
        have hjs : j < σ.length := by rw [← G.len]; exact hjl
        have sp : ∀ H' : Hp, (∀ c, ¬ NewL g H0 c → H' c = H c) → (∀ c, NewL g H0 c → ∃ us, H' c = some (.lst us)) → ∀ w, (∃ us, H' a = some (.lst us)) → ∃ z' Hs' H0s', MarkX (mkG g.k.K g.k.bx z' g.n Hs' H0s') ∧ TB (mkG g.k.K g.k.bx z' g.n Hs' H0s') W kk Dd (σ.set j w) (L2.upd H' a (.lst [])) := by
          intro H' h1 h2 w _
          have G1 : Good g (ρ.set j .no) b (σ.set j w) H H0 := G.setN
          obtain ⟨H0', G', m', T⟩ := spoil_good (H' := L2.upd H' a (.lst [])) G1 m (fun c hc => by rw [upd_ne (fun e => by subst e; exact hc ua)]; exact h1 c hc) (fun c hc => by
            by_cases hca : c = a
            · subst hca; rw [upd_same]; simp
            · rw [upd_ne hca]
              obtain ⟨us, e⟩ := h2 c hc
              rw [e]; simp)
          exact ⟨_, _, _, m', dropE (ρ.set j .no), b, H0', G', FinS.atom m.draw T F⟩
        have at_i : ∀ w : Option V, (σ.set j w)[i]? = some (some (.ref a)) := fun w => by rw [List.getElem?_set_ne (Ne.symm hij)]; exact e1
        refine ⟨.ref a, e1, a, rfl, ⟨vs, .inl (.inl (G.sub _ _ ha))⟩, fun k mm σ' H' => mm = vs.length - k ∧ (∃ w, σ' = σ.set j w) ∧ (∀ c, ¬ NewL g H0 c → H' c = H c) ∧ (∀ c, NewL g H0 c → ∃ us, H' c = some (.lst us)) ∧ ((k ≤ vs.length ∧ H' a = some (.lst vs)) ∨ H' a = some (.lst [])), ⟨_, rfl, ⟨(σ[j]?).getD none, ?_⟩, fun c _ => rfl, fun c ⟨_, us, e⟩ => ⟨us, G.sub _ _ e⟩, .inl ⟨Nat.zero_le _, G.sub _ _ ha⟩⟩, ?_⟩
        · rw [List.getElem?_eq_getElem hjs]
          simp
        · rintro k mm σ' H' ⟨rfl, ⟨w, rfl⟩, q1, q2, q3⟩
          have stopc : ∀ us, H' a = some (.lst us) → _ := fun us e => sp H' q1 q2 w ⟨us, e⟩
          rcases q3 with ⟨hkl, hv⟩ | hv
          · by_cases hlt : k < vs.length
            · refine .inr ⟨⟨vs, vs[k], .inl (.inl hv), List.getElem?_eq_getElem hlt⟩, fun σ' H' => (∃ w, σ' = σ.set j w) ∧ (∀ c, ¬ NewL g H0 c → H' c = H c) ∧ (∀ c, NewL g H0 c → ∃ us, H' c = some (.lst us)) ∧ ((k + 1 ≤ vs.length ∧ H' a = some (.lst vs)) ∨ H' a = some (.lst [])), fun σ' H' z => ⟨vs.length - (k + 1), by omega, rfl, z⟩, fun u H2 yy => ?_⟩
              obtain ⟨rfl, yy⟩ := yy
              obtain ⟨r, rfl, ur⟩ := newLs_get hnew il (yy vs (.inl (.inl hv)))
              obtain ⟨us, er⟩ := q2 r ur
              refine ⟨.ref r, by rw [List.set_set, List.getElem?_set_self hjs], .inl ⟨rfl, us, .inl (.inl er)⟩, r, us, rfl, rfl, er, ⟨some (.ref r), by rw [List.set_set]⟩, fun c hc => ?_, fun c hc => ?_, ?_⟩
              · rw [upd_ne (fun e => by subst e; exact hc ur)]; exact q1 c hc
              · by_cases hcr : c = r
                · subst hcr; exact ⟨_, upd_same⟩
                · rw [upd_ne hcr]; exact q2 c hc
              · by_cases har : a = r
                · subst har; exact .inr upd_same
                · rw [upd_ne har]; exact .inl ⟨hlt, hv⟩
            · exact .inl ⟨⟨vs, .inl (.inl hv), by omega⟩, ⟨.ref a, at_i w, .inl ⟨rfl, vs, .inl (.inl hv)⟩, a, vs, rfl, rfl, hv, stopc vs hv⟩⟩
          · exact .inl ⟨⟨[], .inl (.inl hv), Nat.zero_le _⟩, ⟨.ref a, at_i w, .inl ⟨rfl, [], .inl (.inl hv)⟩, a, [], rfl, rfl, hv, stopc [] hv⟩⟩
    · exact F.elim
  · exact F.elim
end
end Fw
set_option Elab.async false
set_option linter.all false
set_option maxRecDepth 100000
set_option maxHeartbeats 1000000
/-! Fw31: asking dicts with tuples as keys: in, not in, get; is True, is False. -/
namespace Fw
open PySem PySem.Spec PyProof.Rows L2

/-! ### is True -/
def isBD (neg : Bool) (x y : D) : Option D := match x, y with
  | .bl a, .bl b => some (.bl (neg != decide (a = b)))
  | _, _ => none
theorem opd_isB {k : Kx} : OpD k (fun x y H Q => ∃ a b, x = .bl a ∧ y = .bl b ∧ Q (.bl (decide (a = b))) H) (isBD false) := by
  intro H0 H x y z vx vy e zo ix iy h Q q
  cases ix <;> cases iy <;> first | (cases h; done) | skip
  cases h
  exact ⟨_, _, rfl, rfl, by rw [← Bool.false_bne (decide _)]; exact q _ H0 H (Tr.refl e) (.bl _)⟩
theorem opd_isnotB {k : Kx} : OpD k (fun x y H Q => ∃ a b, x = .bl a ∧ y = .bl b ∧ Q (.bl (!decide (a = b))) H) (isBD true) := by
  intro H0 H x y z vx vy e zo ix iy h Q q
  cases ix <;> cases iy <;> first | (cases h; done) | skip
  cases h
  exact ⟨_, _, rfl, rfl, by rw [← Bool.true_bne (decide _)]; exact q _ H0 H (Tr.refl e) (.bl _)⟩
/-! ### in -/
def rInZ (neg : Bool) (K : PySem.W.Frag) : R2 := fun x y H Q => ∃ d o xs a k, x = .ref a ∧ y = .ref d ∧ H d = some (.frz o (keyO d xs)) ∧ KAll K H xs ∧ KeyV K H k (.ref a) ∧ okK k ∧ Q (.bl (neg != (kAt xs k).isSome)) H
section
variable {X : Cx}
theorem op_inZ (hu : X.A.units + 64 < cLine) : OpR X (compareOp .In) (rInZ false X.K) := by
  intro pins s σ H x y v u Q I rx ry h
  obtain ⟨d, o, xs, a, k, rfl, rfl, hd, ka, kv, ok, q⟩ := h
  cases rx
  cases ry
  obtain ⟨hs, _, us, r, hm⟩ := dictOfH_frz I hd ka
  refine wpAny_in_heap (room8 hu) ⟨kv.nested I rfl, ok.2⟩ hs hm ⟨.bl _, H, I.tok _, rfl, ?_⟩
  rw [some_raw r]
  rwa [Bool.false_bne] at q
theorem op_notInZ (hu : X.A.units + 64 < cLine) : OpR X (compareOp .NotIn) (rInZ true X.K) := by
  intro pins s σ H x y v u Q I rx ry h
  obtain ⟨d, o, xs, a, k, rfl, rfl, hd, ka, kv, ok, q⟩ := h
  cases rx
  cases ry
  obtain ⟨hs, _, us, r, hm⟩ := dictOfH_frz I hd ka
  show wpAny _ _ (do return Value.bool (!(← contains (.ref d) (.ref a))) : Sem Value) _ _ s
  refine wpAny_bind (wpAny_contains_heap (room8 hu) ⟨kv.nested I rfl, ok.2⟩ hs hm (wpAny_pure ⟨.bl _, H, I.tok _, rfl, ?_⟩))
  rw [some_raw r]
  rwa [Bool.true_bne] at q
end
def inK (neg : Bool) (x y : D) : Option D := match y with
  | .kd ks vs => (keyOf x).map fun n => .bl (neg != (lookM (ks.zip vs) n).isSome)
  | _ => none
theorem opd_inZ {k : Kx} (neg : Bool) : OpD k (rInZ neg k.K) (inK neg) := by
  intro H0 H x y z vx vy e zo ix iy h Q q
  cases iy <;> first | (cases h; done) | skip
  rename_i a o xs ks vs ha r l1 l2
  have h : (keyOf x).map (fun n => D.bl (neg != (lookM (ks.zip vs) n).isSome)) = some z := h
  cases hk : keyOf x with
  | none => rw [hk] at h; cases h
  | some n =>
    rw [hk] at h
    cases h
    obtain ⟨n1, n2, n3⟩ := keyOf_some hk
    obtain ⟨ak, rfl⟩ := n3 ix
    have mm := MM.of r l1 l2
    have hs : (kAt xs n).isSome = (lookM (ks.zip vs) n).isSome := by
      rcases mm.look n with ⟨q1, q2⟩ | ⟨_, _, _, q1, q2, _⟩ <;> rw [q1, q2] <;> rfl
    exact ⟨a, o, xs, ak, n, rfl, rfl, e _ _ ha, mm.kall.mono e, (keyV_of ix n1).mono e, n2, by rw [hs]; exact q _ H0 H (Tr.refl e) (.bl _)⟩
/-- k in x, x a dict that is held -/
def xOIn (neg : Bool) (i : Nat) (f : Fx D) : Fx D := fun ρ b => (f ρ b).bind fun kd b1 => match ρ[i]? with
  | some (.odc mm) => (match keyOf kd with
    | some n => .ok (.bl (neg != (lookM mm n).isSome)) b1
    | none => .bad)
  | _ => .bad
section
variable {X : Cx} {g : Cfg} {W : WX} {e k0 c z : Expr} {f h l : Fx D} {x : Str} {pos p p1 p2 apos cpos : Pos}
theorem px_oIn (i : Nat) (hu : X.A.units + 64 < cLine) (hK : X.K = g.k.K) (hk : PX X g W k0 f) (hN : X.N[i]? = some x := by rfl) (hv : Vis X.env.scope x := by first | exact Or.inl rfl | exact Or.inr (Or.inl rfl) | exact Or.inr (Or.inr rfl)) (hd : (x == ("__debug__" : Str)) = false := by decide)
    (hcd : (x == ("__classdict__" : Str)) = false := by decide) : PQ X g W (.Compare k0 [.In] [.Name x p] pos) (xT (xOIn false i f)) := by
  refine pt_imp (pt_cmpR (op_inK hu) hk (pe_var hN hv hd hcd) (by first | exact nomark _ | rfl)) fun _ _ _ => tt_test fun σ H Q => ?_
  rintro ⟨ρ, b, H0, G, F⟩
  refine ⟨ρ, b, H0, G, F.bind.mono fun kd b1 H01 H1 t1 B1 F1 v iv => ?_⟩
  have G1 := G.step t1 B1
  split at F1
  · rename_i mm hi
    obtain ⟨d, xs, e1, h0, hl, r⟩ := G1.odc hi
    cases hkk : keyOf kd with
    | none => rw [hkk] at F1; exact F1.elim
    | some n =>
      rw [hkk] at F1
      obtain ⟨n1, n2, n3⟩ := keyOf_some hkk
      obtain ⟨ak, rfl⟩ := n3 iv
      have hs : (kAt xs n).isSome = (lookM mm n).isSome := by
        rcases r.look n with ⟨q1, q2⟩ | ⟨_, _, _, q1, q2, _⟩ <;> rw [q1, q2] <;> rfl
      refine ⟨_, e1, d, xs, ak, n, rfl, rfl, hl, hK ▸ r.kall.mono t1.sub, hK ▸ (keyV_of iv n1).mono t1.sub, n2, ?_⟩
      rw [hs]
      exact F1 _ _ (Tr.refl t1.sub) B1 _ (.bl _)
  · exact F1.elim
/-! ### d.get(k, x) -/
def tKGet (td ty tx : TE) : TE := fun σ H Q => td σ H fun x H1 => ∃ d o xs, x = .ref d ∧ H1 d = some (.frz o (keyO d xs)) ∧ ty σ H1 fun y H2 => tx σ H2 fun z H3 => ∃ a k, y = .ref a ∧ H3 d = some (.frz o (keyO d xs)) ∧ KAll X.K H3 xs ∧ KeyV X.K H3 k (.ref a) ∧ okK k ∧ Q (((kAt xs k).map (·.2)).getD z) H3
theorem pe_kget {o e f : Expr} {td ty tx : TE} (hu : X.A.units + 64 < cLine) (ho : PE X o td) (he : PE X e ty) (hf : PE X f tx) (m : M2 X o "get" apos e f cpos) : PE X (.Call (.Attribute o "get" apos) [e, f] [] cpos) (tKGet (X := X) td ty tx) := by
  refine ⟨fun pins s σ H Q I h => ?_⟩
  refine wpAny_Call_method m.base m.few m.line PySem.F.plainAttrs_dict PySem.F.slot_dict_get PySem.F.type_dict_get (thn (ho.run pins s σ H _ I h) fun u s1 ⟨x, H1, I1, rx, d, od, xs, ex, hd, q1⟩ => ?_)
  subst ex
  obtain rfl : u = Value.ref d := rx
  obtain ⟨hs, hgd, hx, hz, es, ep, hdt, hsz, ent⟩ := frz_kd I1 hd
  have hraw : s1.heap.DictRaw d es ep := ⟨od, hgd, hx, hdt⟩
  refine ⟨hraw.typeIs, fun b q => ?_, ?_⟩
  · cases q
    exact ⟨od, hgd, hx.2.1⟩
  rw [m.trees]
  refine Calls.callWith_builtin rfl (Calls.evalArgs_plain (Calls.spliced_cons (thn (he.run pins s1 σ H1 _ I1 q1) fun iv s2 ⟨y, H2, I2, ry, q2⟩ =>
    Calls.spliced_cons (thn (hf.run pins s2 σ H2 _ I2 q2) fun fv s3 ⟨z, H3, I3, rz, a, k, ey, hd3, ka, kv, ok, q3⟩ => Calls.spliced_nil ?_))))
  subst ey
  cases (show iv = Value.ref a from ry)
  obtain ⟨hsy, _, us, r, hm⟩ := dictOfH_frz I3 hd3 ka
  refine call_meetsIn PySem.F.slot_dict_get hm.typeIs PySem.F.entry_dict_get (PySem.F.args_dict_get_3 _ _ _) (meetsH_dict_get_default (nestedKind X.prog X.w) d a hsy fv) ⟨room8 hu, k, _, ⟨kv.nested I3 rfl, ok.2⟩, hm, ⟨_, H3, I3.tok _, ?_, q3⟩⟩
  rcases atKey_raw k r with ⟨e1, e2⟩ | ⟨b', v', u', e1, e2, e3⟩
  · rw [e1, e2]; exact rz
  · rw [e1, e2]; exact e3
def xGetK (f h l : Fx D) : Fx D := fun ρ b => (f ρ b).bind fun x b1 => match x with
  | .kd ks vs => (h ρ b1).bind fun y b2 => (l ρ b2).bind fun z b3 => lift ((keyOf y).map fun n => (lookM (ks.zip vs) n).getD z) b3
  | _ => .bad
theorem px_kget (hu : X.A.units + 64 < cLine) (hK : X.K = g.k.K) (ho : PX X g W e f) (hk : PX X g W k0 h) (hz : PX X g W z l) (m : M2 X e "get" apos k0 z cpos := by exact ⟨rfl, rfl, rfl, rfl⟩) : PX X g W (.Call (.Attribute e "get" apos) [k0, z] [] cpos) (xGetK f h l) := by
  refine pe_imp (pe_kget hu ho hk hz m) ?_
  rintro σ H Q ⟨ρ, b, H0, G, F⟩
  refine ⟨ρ, b, H0, G, F.bind.mono fun x b1 H01 H1 t1 B1 F1 vx ix => ?_⟩
  have G1 := G.step t1 B1
  cases ix with
  | @kd a o xs ks vs ha r l1 l2 =>
    refine ⟨a, o, xs, rfl, t1.sub _ _ ha, ρ, b1, H01, G1, F1.bind.mono fun y b2 H02 H2 t2 B2 F2 vy iy => ⟨ρ, b2, H02, G1.step t2 B2, F2.bind.mono fun zd b3 H03 H3 t3 B3 F3 vz iz => ?_⟩⟩
    have e03 : Same H01 H03 := t2.ext.trans t3.ext
    have iy3 := iy.mono t3.ext
    have F3 : Fin g W σ H03 H3 (lift ((keyOf y).map fun n => (lookM (ks.zip vs) n).getD zd) b3) _ := F3
    cases hkk : keyOf y with
    | none => rw [hkk] at F3; exact F3.elim
    | some n =>
      rw [hkk] at F3
      have F3 : Fin g W σ H03 H3 (lift (some ((lookM (ks.zip vs) n).getD zd)) b3) _ := F3
      obtain ⟨n1, n2, n3⟩ := keyOf_some hkk
      obtain ⟨ak, rfl⟩ := n3 iy
      have mm := (MM.of r l1 l2).mono e03
      refine ⟨ak, n, rfl, t3.sub _ _ (e03 _ _ ha), hK ▸ mm.kall.mono t3.sub, hK ▸ (keyV_of iy3 n1).mono t3.sub, n2, ?_⟩
      rcases mm.look n with ⟨q1, q2⟩ | ⟨a2, v2, d2, q1, q2, i2⟩
      · rw [q1]
        rw [q2] at F3
        exact F3 H03 H3 (Tr.refl t3.sub) B3 _ iz
      · rw [q1]
        rw [q2] at F3
        exact F3 H03 H3 (Tr.refl t3.sub) B3 _ i2
  | _ => exact F1.elim
end
end Fw
set_option Elab.async false
set_option linter.all false
set_option maxRecDepth 100000
set_option maxHeartbeats 1000000
/-! Fw32: what a def tells anew is marked, and what was unmarked ahead of it stays so. -/
namespace Fw
open PySem PySem.Spec PyProof.Rows L2
section
variable {K : PySem.W.Frag} {bx : Bk} {z z' : Addr → Bool} {H : Hp}
mutual
/-- other marks, the same for the lists that stand -/
theorem Is.retagL (hz : ∀ c us, H c = some (.lst us) → z' c = z c) : ∀ {d : D} {v : V}, Is ⟨K, bx, z⟩ H d v → Is ⟨K, bx, z'⟩ H d v
  | _, _, .non => .non
  | _, _, .bl b => .bl b
  | _, _, .int b => .int b
  | _, _, .str b => .str b
  | _, _, .tup h l => .tup h (IsL.retagL hz l)
  | _, _, .lst h q l => .lst h ((hz _ _ h).trans q) (IsL.retagL hz l)
  | _, _, .ins h n l => .ins h n (IsL.retagL hz l)
  | _, _, .adr a => .adr a
  | _, _, .sql h l => .sql h (IsL.retagL hz l)
  | _, _, .box h => .box h
  | _, _, .slf h => .slf h
  | _, _, .mem h => .mem h
  | _, _, .dls h => .dls h
  | _, _, .lls h => .lls h
  | _, _, .rb h => .rb h
  | _, _, .dct h n l => .dct h n (IsL.retagL hz l)
  | _, _, .kd h r l1 l2 => .kd h r (IsL.retagL hz l1) (IsL.retagL hz l2)
  | _, _, .exn hb h n l => .exn hb h n (IsL.retagL hz l)
theorem IsL.retagL (hz : ∀ c us, H c = some (.lst us) → z' c = z c) : ∀ {ds : List D} {vs : List V}, IsL ⟨K, bx, z⟩ H ds vs → IsL ⟨K, bx, z'⟩ H ds vs
  | _, _, .nil => .nil
  | _, _, .cons h l => .cons (Is.retagL hz h) (IsL.retagL hz l)
end
mutual
/-- lists that were not marked are marked -/
theorem Is.fresh (hz : ∀ c us, H c = some (.lst us) → z c = false → z' c = true) : ∀ {d : D} {v : V}, pureD d = true → Is ⟨K, bx, z⟩ H d v → Is ⟨K, bx, z'⟩ H (mkT d) v
  | _, _, _, .non => .non
  | _, _, _, .bl b => .bl b
  | _, _, _, .int b => .int b
  | _, _, _, .str b => .str b
  | _, _, c, .tup h l => .tup h (IsL.fresh hz c l)
  | .lst false xs, _, c, .lst h q l => by
    have c : (true && pureL xs) = true := c
    have c := (Bool.and_eq_true_iff.mp c).2
    exact .lst h (hz _ _ h q) (IsL.fresh hz c l)
  | .lst true _, _, c, .lst _ _ _ => nomatch c
  | _, _, c, .ins h n l => by
    have e := (IsL.fresh hz c l).length
    exact .ins h (by have := l.length; omega) (IsL.fresh hz c l)
  | _, _, _, .adr a => .adr a
  | _, _, c, .sql h l => nomatch c
  | _, _, c, .box h => nomatch c
  | _, _, c, .slf h => nomatch c
  | _, _, c, .mem h => nomatch c
  | _, _, c, .dls h => nomatch c
  | _, _, c, .lls h => nomatch c
  | _, _, c, .rb h => nomatch c
  | _, _, c, .dct h n l => nomatch c
  | _, _, c, .kd h r l1 l2 => nomatch c
  | _, _, c, .exn hb h n l => nomatch c
theorem IsL.fresh (hz : ∀ c us, H c = some (.lst us) → z c = false → z' c = true) : ∀ {ds : List D} {vs : List V}, pureL ds = true → IsL ⟨K, bx, z⟩ H ds vs → IsL ⟨K, bx, z'⟩ H (mkTs ds) vs
  | _, _, _, .nil => .nil
  | _, _, c, .cons h l => by
    have c := Bool.and_eq_true_iff.mp c
    exact .cons (Is.fresh hz c.1 h) (IsL.fresh hz c.2 l)
end
end
def noOdc : Sl → Sl
  | .odc _ => .no
  | s => s
/-- a new value stored, all its lists marked; the others' marks as they were -/
theorem copy_good {g : Cfg} {ρ : En} {b b2 : Bx} {σ : L2.St} {H1 H01 H' H0' : Hp} {i : Nat} {d : D} {v : V} {zc : Addr → Bool} (m : MarkX g) (G1 : Good g ρ b σ H1 H01) (t : Tr g.bx H01 H1 H0' H') (B : BoxOk ⟨g.k.K, g.k.bx, zc⟩ H0' H' b2) (hzc : ∀ c, zc c = false → H1 c = none) (iv : Is ⟨g.k.K, g.k.bx, zc⟩ H0' d v) (hp : pureD d = true) :
    ∃ z2 Hs2 H0s2, Good (mkG g.k.K g.k.bx z2 g.n Hs2 H0s2) ((ρ.map noOdc).set i (.val (mkT d))) b2 (σ.set i (some v)) H' H0' ∧ MarkX (mkG g.k.K g.k.bx z2 g.n Hs2 H0s2) ∧ Tr g.bx g.H0s g.Hs H0s2 Hs2 := by
  classical
  obtain ⟨x, y, hb'⟩ := m.draw
  have Bg : BoxOk g.k H0' H' b2 := draw_box (k := ⟨g.k.K, g.k.bx, zc⟩) hb' hb' B (fun _ q => q) fun _ _ _ q => q
  have G2 := G1.step t Bg
  let U : Addr → Prop := fun c => g.k.z c = false ∧ ∃ us, H01 c = some (.lst us)
  let ρ' : En := (ρ.map noOdc).set i (.val (mkT d))
  let σ' : L2.St := σ.set i (some v)
  have own : ∀ {j l}, OwnAt ρ' σ' j l → OwnAt ρ σ j l := by
    rintro j l ⟨⟨s, e1, eo⟩, e2⟩
    have e1 : ((ρ.map noOdc).set i (.val (mkT d)))[j]? = some s := e1
    have e2 : (σ.set i (some v))[j]? = some (some (.ref l)) := e2
    rw [set_get, List.length_map] at e1
    rw [set_get] at e2
    split at e1
    · cases e1; cases eo
    · rename_i hn
      rw [if_neg (by rw [← G1.len]; exact hn)] at e2
      rw [List.getElem?_map] at e1
      cases hr : ρ[j]? with
      | none => rw [hr] at e1; cases e1
      | some s0 =>
        rw [hr] at e1
        cases s0 with
        | odc _ => cases e1; cases eo
        | no => cases e1; cases eo
        | val _ => cases e1; cases eo
        | own ds => exact ⟨⟨_, hr, rfl⟩, e2⟩
  let Hs2 : Hp := fun c => if U c then none else heldOff ρ' σ' H' c
  let H0s2 : Hp := fun c => if U c then none else H0' c
  have hs2 : ∀ {c}, ¬ U c → (∀ j, ¬ OwnAt ρ' σ' j c) → Hs2 c = H' c := fun {c} hu ho => by
    show (if U c then none else heldOff ρ' σ' H' c) = _
    rw [if_neg hu, held_of ho]
  have hsU : ∀ {c}, U c → Hs2 c = none := fun {c} hu => if_pos hu
  have noOwn0 : ∀ {c u}, H0' c = some u → ∀ j, ¬ OwnAt ρ' σ' j c := fun {c u} q j o => by
    have := (G2.held (own o)).1
    rw [q] at this; cases this
  have nU0 : ∀ {c}, H01 c = none → ¬ U c := fun q ⟨_, us, e⟩ => by rw [q] at e; cases e
  have zl : ∀ c us, H01 c = some (.lst us) → stands Hs2 c = g.k.z c := fun c us q => by
    cases hz : g.k.z c with
    | false =>
      have hu : U c := ⟨hz, us, q⟩
      have : Hs2 c = none := hsU hu
      unfold stands
      rw [this]
      simp
    | true =>
      have hu : ¬ U c := fun w => by rw [w.1] at hz; cases hz
      refine stands_t ?_
      have q' := t.ext c _ q
      rw [hs2 hu (noOwn0 q'), t.sub c _ q']
      simp
  have slots : ∀ j : Nat, SlOk ⟨g.k.K, g.k.bx, stands Hs2⟩ H0' H' ρ'[j]? σ'[j]? := fun j => by
    show SlOk _ _ _ ((ρ.map noOdc).set i (.val (mkT d)))[j]? (σ.set i (some v))[j]?
    rw [set_get, set_get, List.length_map, ← G1.len]
    split
    · refine ⟨v, rfl, iv.fresh (fun c us q hc => ?_) hp⟩
      refine stands_t ?_
      have n1 := hzc c hc
      have hu : ¬ U c := nU0 (G1.sub.free n1)
      rw [hs2 hu (noOwn0 q), t.sub c _ q]
      simp
    · rw [List.getElem?_map]
      have q1 := G1.slot j
      have q2 := G2.slot j
      cases hr : ρ[j]? with
      | none => trivial
      | some s =>
        rw [hr] at q1 q2
        cases s with
        | no => trivial
        | odc _ => trivial
        | val dd =>
          obtain ⟨w, e1, iw⟩ := q1
          exact ⟨w, e1, (iw.retagL zl).mono t.ext⟩
        | own ds =>
          obtain ⟨l, vs, e1, h0, hl, il⟩ := q1
          obtain ⟨l', vs', e1', h0', hl', il'⟩ := q2
          rw [e1] at e1'
          cases e1'
          have hk : H' l = some (.lst vs) := t.keep l _ hl (G1.notBox ⟨⟨_, hr, rfl⟩, e1⟩)
          exact ⟨l, vs, e1, h0', hk, (il.retagL zl).mono t.ext⟩
  have sm : Same H0s2 Hs2 := fun c u q => by
    have q : (if U c then none else H0' c) = some u := q
    split at q
    · cases q
    · rename_i hu
      rw [hs2 hu (noOwn0 q)]
      exact t.sub c u q
  have nb : ∀ c, InB g.k.bx c → Hs2 c ≠ none := fun c i => by
    have b1 := G1.box.at i
    have b2 := Bg.at i
    rw [hs2 (nU0 b1.1) fun j o => G2.notBox (own o) i]
    exact b2.2
  refine ⟨stands Hs2, Hs2, H0s2, ⟨⟨fun c u q => ?_, G2.sub, fun c u q _ => ?_, fun c q e => ?_, fun c q n _ => ?_⟩, ?_, slots, fun j j' l o o' => G1.apart j j' l (own o) (own o'), fun j l o => ?_, draw_box (k := ⟨g.k.K, g.k.bx, zc⟩) hb' hb' B (fun _ q => q) fun _ _ _ q => q, nb, fun a q e => ?_, ?_⟩, ⟨⟨x, y, hb'⟩, fun a q => stands_f q, sm⟩, ?_⟩
  · have q : (if U c then none else H0' c) = some u := q
    split at q
    · cases q
    · exact q
  · have q : (if U c then none else heldOff ρ' σ' H' c) = some u := q
    split at q
    · cases q
    · exact held_some q
  · have q : Hs2 c ≠ none := q
    cases hc : Hs2 c with
    | none => exact q hc
    | some u =>
      have hc : (if U c then none else heldOff ρ' σ' H' c) = some u := hc
      split at hc
      · cases hc
      · rw [held_some hc] at e; cases e
  · have n : Hs2 c ≠ none := n
    have q : (if U c then none else H0' c) = none := q
    split at q
    · rename_i hu; exact absurd (hsU hu) n
    · exact q
  · show ((ρ.map noOdc).set i _).length = (σ.set i _).length
    rw [List.length_set, List.length_set, List.length_map]; exact G1.len
  · show (if U l then none else heldOff ρ' σ' H' l) = none
    split
    · rfl
    · exact held_none o
  · exact of_decide_eq_true (show stands Hs2 a = true from q) e
  · show (σ.set i _).length = g.n
    rw [List.length_set]; exact G1.ln
  · have nUg : ∀ c, g.Hs c ≠ none → ¬ U c := fun c n w => n (m.new c w.1)
    have noO : ∀ c, g.Hs c ≠ none → ∀ j, ¬ OwnAt ρ' σ' j c := fun c n j o => n (G2.mine j c (own o))
    refine ⟨fun c u q => ?_, sm, fun c u q ni => ?_, fun c n => ?_, fun c q n ni => ?_⟩
    · have n : g.Hs c ≠ none := by rw [m.same c u q]; simp
      show (if U c then none else H0' c) = some u
      rw [if_neg (nUg c n)]
      exact G2.tr.ext c u q
    · have n : g.Hs c ≠ none := by rw [q]; simp
      rw [hs2 (nUg c n) (noO c n)]
      exact G2.tr.keep c u q ni
    · rw [hs2 (nUg c n) (noO c n)]
      exact G2.tr.there c n
    · show (if U c then none else H0' c) = none
      rw [if_neg (nUg c n)]
      exact G2.tr.new c q n ni
def kCopy (i n : Nat) (F : FD) (fl : Fx (List D)) (kk : Fs) : Fs := fun ρ b => (fl ρ b).out fun ds b1 => if ds.length = n then (match F (mkTs ds) b1 with
  | .rt d b2 => if pureD d = true then outAtom (kk ((ρ.map noOdc).set i (.val (mkT d))) b2) else .bad
  | .rto xs b2 => if pureL xs = true then outAtom (kk ((ρ.map noOdc).set i (.val (.lst true (mkTs xs)))) b2) else .bad
  | _ => .bad) else .bad
section
variable {X : Cx} {g : Cfg} {W : WX} {e : Expr} {es : List Expr} {fl : Fx (List D)} {x t : Str} {pos p cpos tpos : Pos} {k k2 n : Nat} {ss : List Stmt} {kk : Fs} {F : FD}
theorem pb_copy (i : Nat) (m : MarkX g) (cl : CalD X.prog X.w X.K X.mg X.base k x n F) (hr : Room k2 X.A) (hk : k ≤ k2) (hK : X.K = g.k.K) (tk : Takes X W) (hnd : X.N.Nodup) (hpa : PL X g W (e :: es) fl)
    (h : ∀ z' Hs' H0s', MarkX (mkG g.k.K g.k.bx z' g.n Hs' H0s') → PB X (mkG g.k.K g.k.bx z' g.n Hs' H0s') W ss kk) (hg : Gl X x := by rfl) (hNi : X.N[i]? = some t := by rfl)
    (hx : Loc X.env.scope t := by first | exact Or.inl rfl | exact Or.inr rfl) (hdb : (x == ("__debug__" : Str)) = false := by decide) (hs : swapsWith (.Call (.Name x p) (e :: es) [] cpos) (some (.Name t tpos)) pos.line X.env = pure false := by rfl)
    (hf : X.fn t = true ∨ X.env.scope.names.lookup t = some .local := by first | exact .inl rfl | exact .inr rfl | assumption)
    (he : starEach (e :: es) X.env = (false, eval e X.env) :: starEach es X.env := by rfl) (hpl : (backTo cpos (starEach es X.env)).any (·.1) = false := by rfl) :
    PB X g W (.Assign [.Name t tpos] (.Call (.Name x p) (e :: es) [] cpos) pos :: ss) (kCopy i n F fl kk) := by
  obtain ⟨fa, fd, ps, F1, b, hm, hk'⟩ := cl.ex
  have hrest : PSs X ss (fun Dd σ H => ∃ z' Hs' H0s', MarkX (mkG g.k.K g.k.bx z' g.n Hs' H0s') ∧ TB (mkG g.k.K g.k.bx z' g.n Hs' H0s') W kk Dd σ H) := ⟨fun pins s σ H D I ⟨z', Hs', H0s', m, z⟩ => (h z' Hs' H0s' m).run pins s σ H D I z⟩
  refine pss_imp (pss_cons (ps_set hnd hNi hx (pe_callS F1 (hr.mono hk) hg hm hk' b (fun σ => passAt tk σ) hpa hdb he hpl) hs hf) hrest) ?_
  rintro Dd σ H ⟨ρ, b, H0, G, F2⟩
  refine ⟨ρ, b, H0, G, (fin_out G F2).mono fun ds b1 H01 H1 t1 B1 F3 vs il => ?_⟩
  have G1 := G.step t1 B1
  split at F3
  · rename_i hn
    obtain ⟨bx1, by1, hb'⟩ := m.draw
    have hzc : ∀ c, stands H1 c = false → H1 c = none := fun c q => stands_f q
    refine ⟨by rw [← il.length]; exact hn, g.k.bx, stands H1, mkTs ds, b1, H01, t1.sub, fun c q => of_decide_eq_true q, hK ▸ draw_box hb' hb' B1 (fun _ q => q) (fun _ _ _ q => q), hK ▸ il.mark (fun a us q => stands_t (by rw [t1.sub a _ q]; simp)), ?_⟩
    have fin : ∀ (d : D) (b2 : Bx) (v : V) (H0' H' : Hp), Tr g.bx H01 H1 H0' H' → BoxOk ⟨g.k.K, g.k.bx, stands H1⟩ H0' H' b2 → Is ⟨g.k.K, g.k.bx, stands H1⟩ H0' d v → pureD d = true → FinS g W H01 (outAtom (kk ((ρ.map noOdc).set i (.val (mkT d))) b2)) Dd → ∃ z' Hs' H0s', MarkX (mkG g.k.K g.k.bx z' g.n Hs' H0s') ∧ TB (mkG g.k.K g.k.bx z' g.n Hs' H0s') W kk Dd (σ.set i (some v)) H' := by
      intro d b2 v H0' H' t B iv hp F4
      obtain ⟨z2, Hs2, H0s2, G', m', T⟩ := copy_good (i := i) m G1 t B hzc iv hp
      exact ⟨z2, Hs2, H0s2, m', _, b2, H0', G', FinS.atom m.draw T F4⟩
    cases hF : F (mkTs ds) b1 with
    | rt d b2 =>
      rw [hF] at F3
      have F3 : FinS g W H01 (if pureD d = true then outAtom (kk ((ρ.map noOdc).set i (.val (mkT d))) b2) else .bad) Dd := F3
      split at F3
      · rename_i hp
        intro v H0' H' tt B iv
        rw [hK] at B iv
        exact fin d b2 v H0' H' tt B iv hp F3
      · exact F3.elim
    | rto xs b2 =>
      rw [hF] at F3
      have F3 : FinS g W H01 (if pureL xs = true then outAtom (kk ((ρ.map noOdc).set i (.val (.lst true (mkTs xs)))) b2) else .bad) Dd := F3
      split at F3
      · rename_i hp
        intro l us H0' H' tt B hln h0 hl il2
        rw [hK] at B il2
        have e0 : Same H0' (L2.upd H0' l (.lst us)) := fun a u q => by rw [upd_ne (ne_of_none q h0)]; exact q
        have nbl : ¬ InB g.bx l := fun i => (B1.at i).2 hln
        have tt2 : Tr g.bx H01 H1 (L2.upd H0' l (.lst us)) H' := ⟨tt.ext.trans e0, fun c u q => by
          by_cases hc : c = l
          · subst hc; rw [upd_same] at q; rw [hl]; exact q
          · rw [upd_ne hc] at q; exact tt.sub c u q, tt.keep, tt.there, fun c q n ni => by
          rw [upd_ne (fun e => by subst e; exact n hln)]; exact tt.new c q n ni⟩
        have B2 : BoxOk ⟨g.k.K, g.k.bx, stands H1⟩ (L2.upd H0' l (.lst us)) H' b2 := B.frz h0 nbl
        refine fin (.lst false xs) b2 (.ref l) _ H' tt2 B2 (.lst upd_same ?_ (il2.mono e0)) (by show (true && pureL xs) = true; rw [hp]; rfl) F3
        show stands H1 l = false
        have hln : H1 l = none := hln
        unfold stands
        rw [hln]; simp
      · exact F3.elim
    | nx _ _ => rw [hF] at F3; exact F3.elim
    | bk _ _ => rw [hF] at F3; exact F3.elim
    | ct _ _ => rw [hF] at F3; exact F3.elim
    | exc _ _ => rw [hF] at F3; exact F3.elim
    | bad => rw [hF] at F3; exact F3.elim
  · exact F3.elim
end
end Fw
set_option Elab.async false
set_option linter.all false
set_option maxRecDepth 100000
set_option maxHeartbeats 1000000
/-! Fw33: lists that are new behind a mark, spoilt by appends. -/
namespace Fw
open PySem PySem.Spec PyProof.Rows L2
/-- data that are no lists and hold none that is new -/
def nonL (d : D) : Bool := oldD d && decide (((tyD d).bind fun t => kitB t "list") = some false)
def partOk : D → Bool
  | .lst false qs => decide (qs.length ≤ 100000) && qs.all nonL
  | d => nonL d
def oneOk (n : Nat) : D → Bool
  | .lst false ps => decide (ps.length ≤ 1000) && ps.all partOk && (!decide (ps.length = n) || match ps with
    | p :: _ => nonL p
    | [] => true)
  | _ => false
def spoilOk (ones : List D) : Bool := decide (ones.length ≤ 100) && ones.all (oneOk ones.length)
def kSpoil (i j k : Nat) (kk : Fs) : Fs := fun ρ b => match ρ[i]? with
  | some (.val (.lst false ones)) => if spoilOk ones = true ∧ (j < ρ.length ∧ k < ρ.length) ∧ i ≠ j ∧ i ≠ k ∧ j ≠ k then outAtom (kk (dropE ((ρ.set j .no).set k .no)) b) else .bad
  | _ => .bad
theorem nonL_lst {z : Bool} {xs : List D} (h : nonL (.lst z xs) = true) : False := by
  have h := (Bool.and_eq_true_iff.mp h).2
  have h := of_decide_eq_true h
  have e : kitB "list" "list" = some true := by decide +kernel
  have h : kitB "list" "list" = some false := h
  rw [e] at h; cases h
/-- a list's address bears no other datum -/
theorem no_alias {X : Cx} {pins : List (Addr × Obj)} {σ : L2.St} {H H0 : Hp} {s : Shared} {k : Kx} {a : Addr} {us : List V} {d : D} (I : Inv X pins σ H s) (hK : X.K = k.K) (sm : Same H0 H) (ha : H0 a = some (.lst us)) (hd : Is k H0 d (.ref a)) (hn : nonL d = true) : False := by
  have tyn : ∀ {d : D}, tyD d = none → nonL d = true → False := fun {d} e h => by
    have h := of_decide_eq_true (Bool.and_eq_true_iff.mp h).2
    rw [e] at h; cases h
  cases hd with
  | tup h l =>
    obtain ⟨its, _, ⟨o, e1, c1, _⟩, _⟩ := I.tuple (a := a) (xs := _) (hK ▸ same_t sm h)
    obtain ⟨its', _, ⟨o', n', e2, c2, _⟩, _⟩ := I.list (a := a) (xs := us) (.inl (.inl (sm _ _ ha)))
    rw [e1] at e2
    cases e2
    exact absurd (Value.type.inj (c1.symm.trans c2)) (by decide)
  | lst h _ _ => exact nonL_lst hn
  | ins h _ _ => rw [ha] at h; cases h
  | adr => exact tyn rfl hn
  | sql _ _ => exact tyn rfl hn
  | box _ => exact tyn rfl hn
  | slf _ => exact tyn rfl hn
  | mem _ => exact tyn rfl hn
  | dls _ => exact tyn rfl hn
  | lls _ => exact tyn rfl hn
  | rb _ => exact tyn rfl hn
  | exn _ _ _ _ => exact tyn rfl hn
  | dct _ _ _ => exact tyn rfl hn
  | kd _ _ _ _ => exact tyn rfl hn
section
variable {X : Cx} {g : Cfg} {W : WX} {ss : List Stmt} {kk : Fs} {x y w : Str} {n0 : Int} {j0 j1 : Nat} {p1 p2 p3 p4 p5 p6 p7 p8 p9 p10 p11 p12 p13 p14 p15 p16 p17 p18 p19 ap1 ap2 : Pos}
theorem pb_spoil (i j k : Nat) (m : MarkX g) (hp : PassesOwn (model X.prog X.w) X.A X.env X.xe) (hc : X.calm = true) (hnd : X.N.Nodup) (h : ∀ z' Hs' H0s', MarkX (mkG g.k.K g.k.bx z' g.n Hs' H0s') → PB X (mkG g.k.K g.k.bx z' g.n Hs' H0s') W ss kk) (hK : X.K = g.k.K)
    (hgi : Gl X "isinstance") (hmi : X.mg "isinstance" = none) (hgl : Gl X "list") (hml : X.mg "list" = none)
    (hN : X.N[i]? = some x := by rfl) (hM : X.N[j]? = some y := by rfl) (hO : X.N[k]? = some w := by rfl)
    (hv : Vis X.env.scope x := by first | exact Or.inl rfl | exact Or.inr (Or.inl rfl) | exact Or.inr (Or.inr rfl)) (hd : (x == ("__debug__" : Str)) = false := by decide) (hcd : (x == ("__classdict__" : Str)) = false := by decide)
    (hvy : Vis X.env.scope y := by first | exact Or.inl rfl | exact Or.inr (Or.inl rfl) | exact Or.inr (Or.inr rfl)) (hdy : (y == ("__debug__" : Str)) = false := by decide) (hcdy : (y == ("__classdict__" : Str)) = false := by decide)
    (hvw : Vis X.env.scope w := by first | exact Or.inl rfl | exact Or.inr (Or.inl rfl) | exact Or.inr (Or.inr rfl)) (hdw : (w == ("__debug__" : Str)) = false := by decide) (hcdw : (w == ("__classdict__" : Str)) = false := by decide)
    (hly : Loc X.env.scope y := by first | exact Or.inl rfl | exact Or.inr rfl) (hfy : X.fn y = true ∨ X.env.scope.names.lookup y = some .local := by first | exact .inl rfl | exact .inr rfl | assumption)
    (hlw : Loc X.env.scope w := by first | exact Or.inl rfl | exact Or.inr rfl) (hfw : X.fn w = true ∨ X.env.scope.names.lookup w = some .local := by first | exact .inl rfl | exact .inr rfl | assumption)
    (hs1 : starEach [.Name w p6, .Name "list" p7] X.env = (false, eval (.Name w p6) X.env) :: starEach [.Name "list" p7] X.env := by rfl) (hs2 : starEach [.Name "list" p7] X.env = (false, eval (.Name "list" p7) X.env) :: starEach [] X.env := by rfl) (hpl : (backTo p8 (starEach [.Name "list" p7] X.env)).any (·.1) = false := by rfl)
    (hti : ∀ whole, isTrue (.Call (.Name "isinstance" p5) [.Name w p6, .Name "list" p7] [] p8) X.env whole = (do let v ← whole; standAt (Expr.pos (.Call (.Name "isinstance" p5) [.Name w p6, .Name "list" p7] [] p8)); holding [v] (truthy v)) := by intro _; rfl)
    (hb1 : attributeBase (.Name w p9) "append" X.env (eval (.Name w p9) X.env) = eval (.Name w p9) X.env := by rfl)
    (hf1 : ((backTo p11 (starEach [.Constant (.int n0) j0 p10] X.env)).all (fun x => !x.1) && (backToKw p11 (keywordEach [] X.env)).all (fun x => x.1.isSome) && decide (([.Constant (.int n0) j0 p10] : List Expr).length + ([] : List Keyword).length + (if ([] : List Keyword).isEmpty then 0 else 1) < 30)) = true := by rfl)
    (hl1 : (ap1.endLine == p11.line) = true := by rfl) (hst1 : starEach [.Constant (.int n0) j0 p10] X.env = (false, eval (.Constant (.int n0) j0 p10) X.env) :: starEach [] X.env := by rfl) (hpl1 : (backTo p11 (starEach [] X.env)).any (·.1) = false := by rfl)
    (hsw1 : swapsWith (.Call (.Attribute (.Name w p9) "append" ap1) [.Constant (.int n0) j0 p10] [] p11) none p12.line X.env = pure false := by rfl)
    (hb2 : attributeBase (.Name y p15) "append" X.env (eval (.Name y p15) X.env) = eval (.Name y p15) X.env := by rfl)
    (hf2 : ((backTo p17 (starEach [.Constant (.int n0) j1 p16] X.env)).all (fun x => !x.1) && (backToKw p17 (keywordEach [] X.env)).all (fun x => x.1.isSome) && decide (([.Constant (.int n0) j1 p16] : List Expr).length + ([] : List Keyword).length + (if ([] : List Keyword).isEmpty then 0 else 1) < 30)) = true := by rfl)
    (hl2 : (ap2.endLine == p17.line) = true := by rfl) (hst2 : starEach [.Constant (.int n0) j1 p16] X.env = (false, eval (.Constant (.int n0) j1 p16) X.env) :: starEach [] X.env := by rfl) (hpl2 : (backTo p17 (starEach [] X.env)).any (·.1) = false := by rfl)
    (hsw2 : swapsWith (.Call (.Attribute (.Name y p15) "append" ap2) [.Constant (.int n0) j1 p16] [] p17) none p18.line X.env = pure false := by rfl)
    (hfo1 : ∀ z, foldedSetIterable (.Name x p2) X.env z = pure z := by intro _; rfl) (hfo2 : ∀ z, foldedSetIterable (.Name y p4) X.env z = pure z := by intro _; rfl) :
    PB X g W (.For (.Name y p1) (.Name x p2) [.For (.Name w p3) (.Name y p4) [.If (.Call (.Name "isinstance" p5) [.Name w p6, .Name "list" p7] [] p8) [.Expr (.Call (.Attribute (.Name w p9) "append" ap1) [.Constant (.int n0) j0 p10] [] p11) p12] [] p13] [] p14, .Expr (.Call (.Attribute (.Name y p15) "append" ap2) [.Constant (.int n0) j1 p16] [] p17) p18] [] p19 :: ss) (kSpoil i j k kk) := by
  have hrest : PSs X ss (fun Dd σ H => ∃ z' Hs' H0s', MarkX (mkG g.k.K g.k.bx z' g.n Hs' H0s') ∧ TB (mkG g.k.K g.k.bx z' g.n Hs' H0s') W kk Dd σ H) := ⟨fun pins s σ H D I ⟨z', Hs', H0s', m, z⟩ => (h z' Hs' H0s' m).run pins s σ H D I z⟩
  have appW := ps_expr (pe_bm PySem.F.plainAttrs_list PySem.F.slot_list_append PySem.F.type_list_append mt_append (pe_var (X := X) (pos := p9) hO hvw hdw hcdw) (pa_cons (pe_int (i := n0) (j := j0) (pos := p10)) pa_nil hst1) hb1 hf1 hl1 hst1 hpl1) hsw1
  have appY := ps_expr (pe_bm PySem.F.plainAttrs_list PySem.F.slot_list_append PySem.F.type_list_append mt_append (pe_var (X := X) (pos := p15) hM hvy hdy hcdy) (pa_cons (pe_int (i := n0) (j := j1) (pos := p16)) pa_nil hst2) hb2 hf2 hl2 hst2 hpl2) hsw2
  have isI := pt_val (pe_callB call_isi hgi hmi PyProof.Rows.boot_isinstance (pa_cons (pe_var (X := X) (pos := p6) hO hvw hdw hcdw) (pa_cons (pe_bltn hgl hml (by decide +kernel) (v := .ty "list") rfl (by decide) (by decide)) pa_nil hs2) hs1) (by decide) (by decide) hs1 hpl) hti
  have whole := pss_cons (ps_for (pos := p19) hp hc (pi_list (pe_var (pos := p2) hN hv hd hcd)) (pg_name (pos := p1) hnd hM hly hfy) (pss_cons (ps_for (pos := p14) hp hc (pi_list (pe_var (pos := p4) hM hvy hdy hcdy)) (pg_name (pos := p3) hnd hO hlw hfw) (pss_one (ps_if (pos := p13) isI (pss_one appW) pss_nil)) hfo2) (pss_one appY)) hfo1) hrest
  refine ⟨fun pins s σ H Dd I ⟨ρ, b, H0, G, F⟩ => ?_⟩
  refine whole.run pins s σ H Dd I ?_
  unfold kSpoil at F
  split at F
  · rename_i ones hi
    split at F
    · rename_i hcnd
      obtain ⟨hok, ⟨hjl, hkl⟩, hij, hik, hjk⟩ := hcnd
      obtain ⟨hok1, hok2⟩ := Bool.and_eq_true_iff.mp hok
      have hok1 := of_decide_eq_true hok1
      rw [List.all_eq_true] at hok2
      obtain ⟨v, e1, iv⟩ := G.val hi
      cases iv with
      | @lst T vs _ _ hT hz il =>
        have sm := G.sub
        have uT : NewL g H0 T := ⟨hz, vs, hT⟩
        have hjs : j < σ.length := by rw [← G.len]; exact hjl
        have hks : k < σ.length := by rw [← G.len]; exact hkl
        have hlen := il.length
        -- the addresses differ
        have dOne : ∀ {ps : List D} {c : Addr}, oneOk ones.length (.lst false ps) = true → (∃ q, q ∈ ones) → Is g.k H0 (.lst false ps) (.ref c) → c ≠ T := by
          intro ps c ho hne ic e
          subst e
          cases ic with
          | @lst _ vs' _ _ hc' _ il' =>
            rw [hT] at hc'
            cases hc'
            have hl' := il'.length
            have el : ps.length = ones.length := by omega
            simp only [oneOk, el, decide_true, Bool.not_true, Bool.false_or, Bool.and_eq_true] at ho
            have ho := ho.2
            obtain ⟨q, hq⟩ := hne
            cases ps with
            | nil => rw [← el] at hlen; cases ones with | nil => cases hq | cons _ _ => simp at el
            | cons p ps =>
              have hnp : nonL p = true := ho
              cases ones with
              | nil => cases hq
              | cons o1 os =>
                have o1k := hok2 o1 List.mem_cons_self
                cases o1 with
                | lst zz xs =>
                  cases il with
                  | @cons _ v0 _ vs0 i0 l0 =>
                    cases il' with
                    | cons i0' l0' =>
                      cases i0 with
                      | lst h0 _ _ => exact no_alias I hK sm h0 i0' hnp
                | _ => cases o1k
        have dPart : ∀ {qs : List D} {r : Addr}, partOk (.lst false qs) = true → (∃ q, q ∈ ones) → Is g.k H0 (.lst false qs) (.ref r) → r ≠ T := by
          intro qs r ho hne ir e
          subst e
          cases ir with
          | @lst _ vs' _ _ hc' _ il' =>
            rw [hT] at hc'
            cases hc'
            have hl' := il'.length
            have ho : (decide (qs.length ≤ 100000) && qs.all nonL) = true := ho
            have ho := (Bool.and_eq_true_iff.mp ho).2
            rw [List.all_eq_true] at ho
            obtain ⟨q, hq⟩ := hne
            cases ones with
            | nil => cases hq
            | cons o1 os =>
              have o1k := hok2 o1 List.mem_cons_self
              cases qs with
              | nil => simp at hl' hlen; omega
              | cons q0 qs =>
                cases o1 with
                | lst zz xs =>
                  cases il with
                  | @cons _ v0 _ vs0 i0 l0 =>
                    cases il' with
                    | cons i0' l0' =>
                      cases i0 with
                      | lst h0 _ _ => exact no_alias I hK sm h0 i0' (ho q0 List.mem_cons_self)
                | _ => cases o1k
        have dBoth : ∀ {ps qs : List D} {c r : Addr} {us : List V} {n : Nat}, H0 c = some (.lst us) → IsL g.k H0 ps us → ps[n]? = some (.lst false qs) → us[n]? = some (.ref r) → partOk (.lst false qs) = true → r ≠ c := by
          intro ps qs c r us n hc' il' hp' hu ho e
          subst e
          obtain ⟨v', hv', ir⟩ := il'.get hp'
          rw [hu] at hv'
          cases hv'
          cases ir with
          | @lst _ us' _ _ h2 _ il2 =>
            rw [hc'] at h2
            cases h2
            have ho : (decide (qs.length ≤ 100000) && qs.all nonL) = true := ho
            have ho := (Bool.and_eq_true_iff.mp ho).2
            rw [List.all_eq_true] at ho
            obtain ⟨d2, hd2, i2⟩ := il2.getV hu
            exact no_alias I hK sm hc' i2 (ho d2 (List.mem_of_getElem? hd2))
        classical
        let H0c : Hp := fun c => if NewL g H0 c then none else H0 c
        let Sp : Nat → Hp → Prop := fun n H' => (∀ c, ¬ NewL g H0 c → H' c = H c) ∧ ∀ c us, g.k.z c = false → H0 c = some (.lst us) → ∃ q, q ≤ n ∧ H' c = some (.lst (us ++ List.replicate q (.int n0)))
        have sub0 : ∀ {n H'}, Sp n H' → Same H0c H' := fun {n H'} hS c u q => by
          have q : (if NewL g H0 c then none else H0 c) = some u := q
          split at q
          · cases q
          · rename_i hu
            rw [hS.1 c hu]; exact sm c u q
        have grow : ∀ {n H' c us q}, Sp n H' → g.k.z c = false → H0 c = some (.lst us) → q ≤ n → Sp (n + 1) (L2.upd H' c (.lst (us ++ List.replicate q (.int n0) ++ [.int n0]))) := fun {n H' c us q} hS hz hc hq => by
          refine ⟨fun c' hc' => ?_, fun c' us' hz' hc' => ?_⟩
          · rw [upd_ne (fun e => by subst e; exact hc' ⟨hz, us, hc⟩)]; exact hS.1 c' hc'
          · by_cases e : c' = c
            · subst e
              rw [hc] at hc'
              cases hc'
              exact ⟨q + 1, by omega, by rw [upd_same, List.append_assoc, List.replicate_succ']⟩
            · obtain ⟨q', h1, h2⟩ := hS.2 c' us' hz' hc'
              exact ⟨q', by omega, by rw [upd_ne e]; exact h2⟩
        have big : (sizeLine : Nat) = 16777216 := sizeLine_eq
        have fin : ∀ (wj wk : Option V) (n : Nat) (H' : Hp), Sp n H' → ∃ z' Hs' H0s', MarkX (mkG g.k.K g.k.bx z' g.n Hs' H0s') ∧ TB (mkG g.k.K g.k.bx z' g.n Hs' H0s') W kk Dd ((σ.set j wj).set k wk) H' := by
          intro wj wk n H' hS
          have G1 : Good g ((ρ.set j .no).set k .no) b ((σ.set j wj).set k wk) H H0 := G.setN.setN
          obtain ⟨H0', G', m', T'⟩ := spoil_good (H' := H') G1 m hS.1 (fun c ⟨hz, us, hc⟩ => by
            obtain ⟨q, _, e⟩ := hS.2 c us hz hc
            rw [e]; simp)
          exact ⟨_, _, _, m', dropE ((ρ.set j .no).set k .no), b, H0', G', FinS.atom m.draw T' F⟩
        have at_i : ∀ wj wk : Option V, ((σ.set j wj).set k wk)[i]? = some (some (.ref T)) := fun wj wk => by rw [List.getElem?_set_ne (Ne.symm hik), List.getElem?_set_ne (Ne.symm hij)]; exact e1
        have at_j : ∀ wj wk : Option V, ((σ.set j wj).set k wk)[j]? = some wj := fun wj wk => by rw [List.getElem?_set_ne (Ne.symm hjk), List.getElem?_set_self hjs]
        have at_k : ∀ wj wk : Option V, ((σ.set j wj).set k wk)[k]? = some wk := fun wj wk => by rw [List.getElem?_set_self (by rw [List.length_set]; exact hks)]
        have reJ : ∀ wj wk w2 : Option V, ((σ.set j wj).set k wk).set j w2 = (σ.set j w2).set k wk := fun wj wk w2 => by rw [List.set_comm _ _ (Ne.symm hjk), List.set_set]
        have reK : ∀ wj wk w2 : Option V, ((σ.set j wj).set k wk).set k w2 = (σ.set j wj).set k w2 := fun wj wk w2 => by rw [List.set_set]
        have s0 : σ = (σ.set j ((σ[j]?).getD none)).set k ((σ[k]?).getD none) := by
          rw [List.getElem?_eq_getElem hjs, List.getElem?_eq_getElem hks]
          simp
        refine ⟨.ref T, e1, T, rfl, ⟨vs, .inl (.inl (sm _ _ hT))⟩, fun a mm σ' H' => mm = vs.length - a ∧ a ≤ vs.length ∧ (∃ wj wk, σ' = (σ.set j wj).set k wk) ∧ H' T = some (.lst vs) ∧ ∃ n, n ≤ 1001 * a ∧ Sp n H', ⟨_, rfl, Nat.zero_le _, ⟨_, _, s0⟩, sm _ _ hT, 0, Nat.zero_le _, fun c _ => rfl, fun c us _ hc => ⟨0, Nat.le_refl _, by rw [sm _ _ hc]; simp⟩⟩, ?_⟩
        rintro a mm σ' H' ⟨rfl, ha, ⟨wj, wk, rfl⟩, hT', n, hn, hS⟩
        by_cases hlt : a < vs.length
        · refine .inr ⟨⟨vs, vs[a], .inl (.inl hT'), List.getElem?_eq_getElem hlt⟩, fun σ' H' => (∃ wj wk, σ' = (σ.set j wj).set k wk) ∧ H' T = some (.lst vs) ∧ ∃ n, n ≤ 1001 * (a + 1) ∧ Sp n H', fun σ' H' z => ⟨vs.length - (a + 1), by omega, rfl, hlt, z⟩, fun u H2 yy => ?_⟩
          obtain ⟨rfl, yy⟩ := yy
          obtain ⟨one, ho1, io⟩ := il.getV (yy vs (.inl (.inl hT')))
          have hmem := List.mem_of_getElem? ho1
          have ook := hok2 one hmem
          cases one with
          | lst zo ps =>
            cases zo with
            | true => cases ook
            | false =>
              cases io with
              | @lst c us _ _ hc hzc ilp =>
                have ncT : c ≠ T := dOne ook ⟨_, hmem⟩ (.lst hc hzc ilp)
                have hul := ilp.length
                have ook' := ook
                simp only [oneOk, Bool.and_eq_true, decide_eq_true_eq, List.all_eq_true] at ook'
                obtain ⟨⟨hp1000, hparts⟩, _⟩ := ook'
                obtain ⟨q, hq, hC⟩ := hS.2 c us hzc hc
                have a100 : a < 100 := by omega
                show tFor _ _ _ _ _ _
                rw [reJ]
                refine ⟨.ref c, at_j _ _, c, rfl, ⟨_, .inl (.inl hC)⟩, fun b2 mm σ' H' => mm = (us ++ List.replicate q (V.int n0)).length - b2 ∧ b2 ≤ (us ++ List.replicate q (V.int n0)).length ∧ (∃ wk, σ' = (σ.set j (some (.ref c))).set k wk) ∧ H' T = some (.lst vs) ∧ H' c = some (.lst (us ++ List.replicate q (V.int n0))) ∧ ∃ n2, n2 ≤ n + min b2 us.length ∧ Sp n2 H', ⟨_, rfl, Nat.zero_le _, ⟨wk, rfl⟩, hT', hC, n, by omega, hS⟩, ?_⟩
                rintro b2 mm2 σ2 H3 ⟨rfl, hb2, ⟨wk2, rfl⟩, hT3, hC3, n2, hn2, hS3⟩
                have clen : (us ++ List.replicate q (V.int n0)).length = us.length + q := by simp
                by_cases hb : b2 < (us ++ List.replicate q (V.int n0)).length
                · refine .inr ⟨⟨_, _, .inl (.inl hC3), List.getElem?_eq_getElem hb⟩, fun σ' H' => (∃ wk, σ' = (σ.set j (some (.ref c))).set k wk) ∧ H' T = some (.lst vs) ∧ H' c = some (.lst (us ++ List.replicate q (.int n0))) ∧ ∃ n2, n2 ≤ n + min (b2 + 1) us.length ∧ Sp n2 H', fun σ' H' z => ⟨(us ++ List.replicate q (V.int n0)).length - (b2 + 1), by omega, rfl, hb, z⟩, fun x2 H4 y2 => ?_⟩
                  obtain ⟨rfl, y2⟩ := y2
                  have hx2 := y2 _ (.inl (.inl hC3))
                  show tIfS _ _ _ _ _ _
                  rw [reK]
                  -- the test tells false: on
                  by_cases hno : ∃ t, kitB t "list" = some false ∧ TyX X.K H4 x2 (.type t)
                  · obtain ⟨t, hk, ht⟩ := hno
                    exact ⟨x2, at_k _ _, x2, .ty "list", .type t, .type "list", false, rfl, .ty "list", ht, kit_ty hk, false, rfl, by
                      show (if false = true then _ else _)
                      rw [if_neg Bool.false_ne_true]
                      exact ⟨⟨_, rfl⟩, hT3, hC3, n2, by omega, hS3⟩⟩
                  by_cases hbu : b2 < us.length
                  · rw [List.getElem?_append_left hbu] at hx2
                    obtain ⟨p, hp, ip⟩ := ilp.getV hx2
                    have pok := hparts p (List.mem_of_getElem? hp)
                    have nl : nonL p = true → False := fun hnl => by
                      obtain ⟨h1, h2⟩ := Bool.and_eq_true_iff.mp hnl
                      have h2 := of_decide_eq_true h2
                      cases ht : tyD p with
                      | none => rw [ht] at h2; cases h2
                      | some t =>
                        rw [ht] at h2
                        have ip' : Is g.k H0c p x2 := ip.old (z' := g.k.z) (fun a u e ne => by
                          show (if NewL g H0 a then none else H0 a) = some u
                          rw [if_neg (fun w => by obtain ⟨_, us', e'⟩ := w; rw [e] at e'; exact ne us' (Option.some.inj e'))]
                          exact e) (fun a us' e hz' => ⟨by
                          show (if NewL g H0 a then none else H0 a) = some (.lst us')
                          rw [if_neg (fun w => by rw [w.1] at hz'; cases hz')]
                          exact e, hz'⟩) h1
                        exact hno ⟨t, h2, by rw [hK]; exact tyX_of (ip'.mono (sub0 hS3)) ht⟩
                    cases p with
                    | lst zp qs =>
                      cases zp with
                      | true => exact (nonL_lst (show nonL (.lst true qs) = true from pok)).elim
                      | false =>
                        have pok0 := pok
                        have pok : (decide (qs.length ≤ 100000) && qs.all nonL) = true := pok
                        have hq5 := of_decide_eq_true (Bool.and_eq_true_iff.mp pok).1
                        have ip0 := ip
                        cases ip with
                        | @lst r ur _ _ hr hzr ilr =>
                          have nrc : r ≠ c := dBoth hc ilp hp hx2 pok0
                          have nrT : r ≠ T := dPart pok0 ⟨_, hmem⟩ ip0
                          obtain ⟨qr, hqr, hR⟩ := hS3.2 r ur hzr hr
                          have hrl := ilr.length
                          have hkl : kitB "list" "list" = some true := by decide +kernel
                          refine ⟨.ref r, at_k _ _, .ref r, .ty "list", .type "list", .type "list", true, rfl, .ty "list", .base (.lst hR), kit_ty hkl, true, rfl, ?_⟩
                          show (if true = true then _ else _)
                          rw [if_pos rfl]
                          refine ⟨.ref r, at_k _ _, .inl ⟨rfl, _, .inl (.inl hR)⟩, r, _, .int n0, rfl, rfl, hR, ?_, ⟨_, rfl⟩, by rw [upd_ne (Ne.symm nrT)]; exact hT3, by rw [upd_ne (Ne.symm nrc)]; exact hC3, n2 + 1, by omega, grow hS3 hzr hr hqr⟩
                          rw [List.length_append, List.length_replicate, big]
                          omega
                    | _ => exact (nl pok).elim
                  · have : x2 = .int n0 := by
                      rw [List.getElem?_append_right (by omega), List.getElem?_replicate] at hx2
                      split at hx2
                      · exact (Option.some.inj hx2).symm
                      · cases hx2
                    subst this
                    exact (hno ⟨"int", by decide +kernel, .base (.int n0)⟩).elim
                · refine .inl ⟨⟨_, .inl (.inl hC3), by omega⟩, .ref c, at_j _ _, .inl ⟨rfl, _, .inl (.inl hC3)⟩, c, _, .int n0, rfl, rfl, hC3, ?_, ⟨_, _, rfl⟩, by rw [upd_ne (Ne.symm ncT)]; exact hT3, n2 + 1, by omega, ?_⟩
                  · rw [clen, big]; omega
                  · obtain ⟨q', hq', hC'⟩ := hS3.2 c us hzc hc
                    rw [hC3] at hC'
                    have : us ++ List.replicate q (V.int n0) = us ++ List.replicate q' (V.int n0) := by
                      have := Option.some.inj hC'
                      injection this
                    rw [this]
                    exact grow hS3 hzc hc hq'
          | _ => cases ook
        · exact .inl ⟨⟨vs, .inl (.inl hT'), by omega⟩, fin wj wk n H' hS⟩
    · exact F.elim
  · exact F.elim
end
end Fw
set_option Elab.async false
set_option linter.all false
set_option maxRecDepth 100000
set_option maxHeartbeats 1000000
/-! Fw34: all marks are taken away. -/
namespace Fw
open PySem PySem.Spec PyProof.Rows L2
mutual
/-- no list marked -/
def unT : D → D
  | .tup xs => .tup (unTs xs)
  | .lst _ xs => .lst false (unTs xs)
  | .ins C ns xs => .ins C ns (unTs xs)
  | .sql xs => .sql (unTs xs)
  | .dct fs xs => .dct fs (unTs xs)
  | .exn C fs xs => .exn C fs (unTs xs)
  | .kd ks vs => .kd (unTs ks) (unTs vs)
  | .non => .non
  | .bl b => .bl b
  | .int i => .int i
  | .str x => .str x
  | .adr a => .adr a
  | .box => .box
  | .slf C => .slf C
  | .mem C => .mem C
  | .dls => .dls
  | .lls => .lls
  | .rb n => .rb n
def unTs : List D → List D
  | [] => []
  | d :: ds => unT d :: unTs ds
end
mutual
theorem nk_unm : ∀ d : D, nkD (unT d) = nkD d
  | .tup xs => by show (nkDs (unTs xs)).map NestedKey.tup = _; rw [nks_unm xs]; rfl
  | .lst _ _ => rfl
  | .ins _ _ _ => rfl
  | .sql _ => rfl
  | .dct _ _ => rfl
  | .exn _ _ _ => rfl
  | .kd _ _ => rfl
  | .non => rfl
  | .bl _ => rfl
  | .int _ => rfl
  | .str _ => rfl
  | .adr _ => rfl
  | .box => rfl
  | .slf _ => rfl
  | .mem _ => rfl
  | .dls => rfl
  | .lls => rfl
  | .rb _ => rfl
theorem nks_unm : ∀ ds : List D, nkDs (unTs ds) = nkDs ds
  | [] => rfl
  | d :: ds => by
    show ((nkD (unT d)).bind fun x => (nkDs (unTs ds)).map fun xs => x :: xs) = _
    rw [nk_unm d, nks_unm ds]; rfl
end
theorem ksr_unm {ks : List D} {xs : List Ent} (r : KsR ks xs) : KsR (unTs ks) xs := by
  refine ⟨?_, r.2⟩
  rw [← r.1]
  clear r
  induction ks with
  | nil => rfl
  | cons d ds ih =>
    show nkD (unT d) :: (unTs ds).map nkD = _
    rw [nk_unm, ih]; rfl
section
variable {K : PySem.W.Frag} {bx : Bk} {z z' : Addr → Bool} {H H' : Hp}
mutual
theorem Is.unm : ∀ {d : D} {v : V}, Is ⟨K, bx, z⟩ H d v → Is ⟨K, bx, fun _ => false⟩ H (unT d) v
  | _, _, .non => .non
  | _, _, .bl b => .bl b
  | _, _, .int b => .int b
  | _, _, .str b => .str b
  | _, _, .tup h l => .tup h (IsL.unm l)
  | _, _, .lst h q l => .lst h rfl (IsL.unm l)
  | _, _, .ins h n l => by
    have e := (IsL.unm l).length
    exact .ins h (by have := l.length; omega) (IsL.unm l)
  | _, _, .adr a => .adr a
  | _, _, .sql h l => .sql h (IsL.unm l)
  | _, _, .box h => .box h
  | _, _, .slf h => .slf h
  | _, _, .mem h => .mem h
  | _, _, .dls h => .dls h
  | _, _, .lls h => .lls h
  | _, _, .rb h => .rb h
  | _, _, .dct h q l => .dct h q (IsL.unm l)
  | _, _, .exn hb h q l => .exn hb h q (IsL.unm l)
  | _, _, .kd h r l1 l2 => .kd h (ksr_unm r) (IsL.unm l1) (IsL.unm l2)
theorem IsL.unm : ∀ {ds : List D} {vs : List V}, IsL ⟨K, bx, z⟩ H ds vs → IsL ⟨K, bx, fun _ => false⟩ H (unTs ds) vs
  | _, _, .nil => .nil
  | _, _, .cons h l => .cons (Is.unm h) (IsL.unm l)
end
end
def unmS : Sl → Sl
  | .val d => .val (unT d)
  | .own ds => .own (unTs ds)
  | _ => .no
def unmE (ρ : En) : En := ρ.map unmS
theorem own_unm {ρ : En} {σ : L2.St} {i : Nat} {l : Addr} (h : OwnAt (unmE ρ) σ i l) : OwnAt ρ σ i l := by
  obtain ⟨⟨t, e, eo⟩, h⟩ := h
  refine ⟨?_, h⟩
  unfold unmE at e
  rw [List.getElem?_map] at e
  cases hr : ρ[i]? with
  | none => rw [hr] at e; cases e
  | some s =>
    rw [hr] at e
    cases s with
    | no => cases e; cases eo
    | own xs => exact ⟨_, rfl, rfl⟩
    | odc _ => cases e; cases eo
    | val d => cases e; cases eo
def kUnm (kk : Fs) : Fs := fun ρ b => outAtom (kk (unmE ρ) b)
theorem un_good {K : PySem.W.Frag} {bx : Bk} {x y : Addr} {n : Nat} {ρ : En} {b : Bx} {σ : L2.St} {H H0 : Hp} (hb : bx = .draw x y) (sm : Same H0 H) (len : ρ.length = σ.length) (ln : σ.length = n)
    (slot : ∀ i : Nat, SlOk ⟨K, bx, fun _ => false⟩ H0 H ρ[i]? σ[i]?) (apart : ∀ i j l, OwnAt ρ σ i l → OwnAt ρ σ j l → i = j) (B : BoxOk ⟨K, bx, fun _ => false⟩ H0 H b) (nb : ∀ i l, OwnAt ρ σ i l → ¬ InB bx l) :
    Good (mkG K bx (fun _ => false) n (heldOff ρ σ H) H0) ρ b σ H H0 ∧ Same H0 (heldOff ρ σ H) := by
  have h0 : ∀ i l, OwnAt ρ σ i l → H0 l = none := fun i l ⟨⟨t, e1, eo⟩, e2⟩ => by
    have q := slot i
    rw [e1] at q
    cases t with
    | no => cases eo
    | val d => cases eo
    | own ds =>
      obtain ⟨l', vs, q1, q2, _⟩ := q
      rw [e2] at q1
      cases q1
      exact q2
    | odc mm =>
      obtain ⟨l', vs, q1, q2, _⟩ := q
      rw [e2] at q1
      cases q1
      exact q2
  have s0 : Same H0 (heldOff ρ σ H) := fun c u q => by
    rw [held_of fun i o => by rw [h0 i c o] at q; cases q]
    exact sm c u q
  refine ⟨⟨⟨Same.refl _, sm, fun c u q _ => held_some q, fun c q e => ?_, fun _ q _ _ => q⟩, len, slot, apart, fun i l o => held_none o, B, fun a i => ?_, fun a q => absurd q Bool.false_ne_true, ln⟩, s0⟩
  · cases hc : heldOff ρ σ H c with
    | none => exact q hc
    | some u => rw [held_some hc] at e; cases e
  · show heldOff ρ σ H a ≠ none
    rw [held_of fun j o => nb j a o i]
    exact (B.at i).2
section
variable {X : Cx} {g : Cfg} {W : WX} {ss : List Stmt} {kk : Fs} {x : Str} {p p2 pos apos : Pos}
theorem pb_unm (hb : ∃ x y, g.k.bx = .draw x y) (h : ∀ Hs' H0s', PB X (mkG g.k.K g.k.bx (fun _ => false) g.n Hs' H0s') W ss kk) : PB X g W ss (kUnm kk) := by
  have hrest : PSs X ss (fun Dd σ H => ∃ Hs' H0s', TB (mkG g.k.K g.k.bx (fun _ => false) g.n Hs' H0s') W kk Dd σ H) := ⟨fun pins s σ H D I ⟨Hs', H0s', z⟩ => (h Hs' H0s').run pins s σ H D I z⟩
  refine pss_imp hrest ?_
  rintro Dd σ H ⟨ρ, b, H0, G, F⟩
  obtain ⟨x, y, hb'⟩ := hb
  have hs : ∀ i : Nat, SlOk ⟨g.k.K, g.k.bx, fun _ => false⟩ H0 H (unmE ρ)[i]? σ[i]? := fun i => by
    unfold unmE
    rw [List.getElem?_map]
    have q := G.slot i
    cases hr : ρ[i]? with
    | none => trivial
    | some s =>
      rw [hr] at q
      cases s with
      | no => trivial
      | odc _ => trivial
      | own ds =>
        obtain ⟨l, vs, e1, h0, hl, il⟩ := q
        exact ⟨l, vs, e1, h0, hl, il.unm⟩
      | val d =>
        obtain ⟨v, e1, iv⟩ := q
        exact ⟨v, e1, iv.unm⟩
  obtain ⟨G', sm⟩ := un_good (n := g.n) (ρ := unmE ρ) (b := b) hb' G.sub (by unfold unmE; rw [List.length_map]; exact G.len) G.ln hs (fun i j l o1 o2 => G.apart i j l (own_unm o1) (own_unm o2)) (draw_box hb' hb' G.box (fun _ q => q) fun _ _ _ q => q) (fun i l o => G.notBox (own_unm o))
  have T : Tr g.bx g.H0s g.Hs H0 (heldOff (unmE ρ) σ H) := by
    refine ⟨G.tr.ext, sm, fun c u q ni => ?_, fun c q => ?_, G.tr.new⟩
    · have no : ∀ i, ¬ OwnAt (unmE ρ) σ i c := fun i o => by rw [G.mine i c (own_unm o)] at q; cases q
      rw [held_of no]
      exact G.tr.keep c u q ni
    · have no : ∀ i, ¬ OwnAt (unmE ρ) σ i c := fun i o => q (G.mine i c (own_unm o))
      rw [held_of no]
      exact G.tr.there c q
  exact ⟨_, _, unmE ρ, b, H0, G', FinS.atom ⟨x, y, hb'⟩ T F⟩
end
end Fw
set_option Elab.async false
set_option linter.all false
set_option maxRecDepth 100000
set_option maxHeartbeats 1000000
/-! Fw35: what is new behind a mark is cleared in place; a loop by what follows it; an instance made anew is marked. -/
namespace Fw
open PySem PySem.Spec PyProof.Rows L2
def outRt : Out → Out
  | .rt d b => .rt d b
  | .rto ds b => .rto ds b
  | .exc x b => .exc x b
  | _ => .bad
theorem FinS.ret {g : Cfg} {W : WX} {HB HB' : Hp} {o : Out} {Dd D : Ends} (F : FinS g W HB (outRt o) Dd) (h : Dd.rt = D.rt) : FinS g W HB' o D := by
  cases o with
  | rt d b => exact fun v H H0 t B i => h ▸ (F v H H0 t B i)
  | rto ds b => exact fun l vs H H0 t B a1 a2 a3 i => h ▸ (F l vs H H0 t B a1 a2 a3 i)
  | exc x b => exact F
  | _ => exact False.elim F
theorem FinS.ends {g : Cfg} {W : WX} {HB : Hp} {o : Out} {Dd D : Ends} (F : FinS g W HB o Dd) (h1 : ∀ σ H, Dd.nx σ H → D.nx σ H) (h : Dd.rt = D.rt) (h2 : ∀ σ H, Dd.bk σ H → D.bk σ H) (h3 : ∀ σ H, Dd.ct σ H → D.ct σ H) : FinS g W HB o D := by
  cases o with
  | nx ρ b => exact fun σ H H0 G q => h1 _ _ (F σ H H0 G q)
  | bk ρ b => exact fun σ H H0 G q => h2 _ _ (F σ H H0 G q)
  | ct ρ b => exact fun σ H H0 G q => h3 _ _ (F σ H H0 G q)
  | rt d b => exact fun v H H0 t B i => h ▸ (F v H H0 t B i)
  | rto ds b => exact fun l vs H H0 t B a1 a2 a3 i => h ▸ (F l vs H H0 t B a1 a2 a3 i)
  | exc x b => exact F
  | bad => exact F
/-- what is new may have changed in any way; what leans on it is dropped; all else is as it was told -/
theorem spoil_same {g : Cfg} {ρ : En} {b : Bx} {σ : L2.St} {H H0 H' : Hp} (G : Good g ρ b σ H H0) (m : MarkX g) (hk : ∀ c, ¬ NewL g H0 c → H' c = H c) : ∃ H0', Good g (dropE ρ) b σ H' H0' := by
  classical
  let H0' : Hp := fun c => if NewL g H0 c then none else H0 c
  have sm : ∀ c u, H0' c = some u → H0 c = some u ∧ ¬ NewL g H0 c := fun c u q => by
    have q : (if NewL g H0 c then none else H0 c) = some u := q
    split at q
    · cases q
    · rename_i hn
      exact ⟨q, hn⟩
  have nn : ∀ c, H0 c = none → H0' c = none := fun c q => by
    show (if _ then none else H0 c) = none
    split
    · rfl
    · exact q
  have k1 : ∀ c u, H0 c = some u → (∀ vs, u ≠ .lst vs) → H0' c = some u := fun c u q n => by
    show (if _ then none else H0 c) = _
    rw [if_neg]
    · exact q
    · rintro ⟨_, us, e⟩
      rw [q] at e
      exact n us (Option.some.inj e)
  have k2 : ∀ c us, H0 c = some (.lst us) → g.k.z c = true → H0' c = some (.lst us) := fun c us q n => by
    show (if _ then none else H0 c) = _
    rw [if_neg]
    · exact q
    · rintro ⟨e, _⟩
      rw [n] at e; cases e
  have nN : ∀ c, H0 c = none → ¬ NewL g H0 c := fun c q ⟨_, us, e⟩ => by rw [q] at e; cases e
  have hN : ∀ c, NewL g H0 c → g.Hs c = none := fun c ⟨e, _⟩ => m.new c e
  obtain ⟨x, y, hb'⟩ := m.draw
  have s1 : Same H0' H' := fun c u q => by
    obtain ⟨q1, q2⟩ := sm c u q
    rw [hk c q2]
    exact G.sub c u q1
  have hz' : ∀ c us, H0 c = some (.lst us) → g.k.z c = true → H0' c = some (.lst us) ∧ g.k.z c = true := fun c us q1 q2 => ⟨k2 c us q1 q2, q2⟩
  refine ⟨H0', ⟨⟨fun c u q => ?_, s1, fun c u q ni => ?_, fun c n => ?_, fun c q n ni => nn c (G.tr.new c q n ni)⟩, by unfold dropE; rw [List.length_map]; exact G.len, fun i => ?_, fun i j l o1 o2 => G.apart i j l (own_drop o1) (own_drop o2), fun i l o => G.mine i l (own_drop o), draw_box hb' hb' G.box nn fun c u q1 q2 => by rw [hk c (nN c q1)]; exact q2, G.bin, G.zin, G.ln⟩⟩
  · have q1 := G.tr.ext c u q
    have q2 := m.same c u q
    by_cases hc : ∃ us, u = .lst us
    · obtain ⟨us, rfl⟩ := hc
      refine k2 c us q1 ?_
      cases hzc : g.k.z c with
      | true => rfl
      | false => rw [m.new c hzc] at q2; cases q2
    · exact k1 c u q1 fun us e => hc ⟨us, e⟩
  · rw [hk c fun w => by rw [hN c w] at q; cases q]
    exact G.tr.keep c u q ni
  · rw [hk c fun w => n (hN c w)]
    exact G.tr.there c n
  · unfold dropE
    rw [List.getElem?_map]
    have q := G.slot i
    cases hr : ρ[i]? with
    | none => trivial
    | some s =>
      rw [hr] at q
      cases s with
      | no => trivial
      | odc _ => trivial
      | own xs =>
        show SlOk _ _ _ (some (dropS (.own xs))) _
        unfold dropS
        dsimp only
        split
        · rename_i hc
          obtain ⟨l, us, p1, p2, p3, p4⟩ := q
          exact ⟨l, us, p1, nn l p2, by rw [hk l (nN l p2)]; exact p3, p4.old k1 hz' hc⟩
        · trivial
      | val d =>
        show SlOk _ _ _ (some (dropS (.val d))) _
        unfold dropS
        dsimp only
        split
        · rename_i hc
          obtain ⟨v, e1, iv⟩ := q
          exact ⟨v, e1, iv.old k1 hz' hc⟩
        · trivial
/-- a block whose mirror tells what follows it, too -/
def TK (g : Cfg) (W : WX) (kf : Fs → Fs) : TS := fun D σ H => ∃ kk Dd, (∀ σ H, TB g W kk Dd σ H → D.nx σ H) ∧ Dd.rt = D.rt ∧ (∀ σ H, ¬ Dd.bk σ H) ∧ (∀ σ H, ¬ Dd.ct σ H) ∧ TB g W (kf kk) Dd σ H
def PBK (X : Cx) (g : Cfg) (W : WX) (ss : List Stmt) (kf : Fs → Fs) : Prop := PSs X ss (TK g W kf)
def kClrN (j : Nat) (f : Fx D) (kk : Fs) : Fs := fun ρ b => (f ρ b).out fun d b1 => match d with
  | .lst false ds => if newLs ds = true ∧ j < ρ.length then outRt (kk (dropE (ρ.set j .no)) b1) else .bad
  | _ => .bad
def forC (pt : Pat) (kb : Fs → Fs) : List D → Fs → Fs
  | [], kk => kk
  | d :: ds, kk => fun ρ b => match pt d ρ with
    | none => .bad
    | some ρ1 => kb (forC pt kb ds kk) ρ1 b
def kTurns (n : Nat) (pt : Pat) (kb : Fs → Fs) (kk : Fs) : Fs := fun ρ b => outRt (forC pt kb (rngD 0 n) kk ρ b)
def kCopyMk (i : Nat) (C : Addr) (n : Nat) (F : FD) (fl : Fx (List D)) (kk : Fs) : Fs := fun ρ b => (fl ρ b).out fun ds b1 => if ds.length + 1 = n ∧ cleanL (mkTs ds) = true then (match F (.slf C :: mkTs ds) { b1 with fs := [], ds := [] } with
  | .nx _ b2 => if cleanL b2.ds = true ∧ pureD (.ins C b2.fs b2.ds) = true then outAtom (kk ((ρ.map noOdc).set i (.val (mkT (.ins C b2.fs b2.ds)))) b1) else .bad
  | _ => .bad) else .bad
section
variable {X : Cx} {g : Cfg} {W : WX} {ss : List Stmt} {st : Stmt} {kk k : Fs} {kf kb : Fs → Fs} {x y : Str} {p p2 p3 p4 p5 pos pos2 pos3 cp ap ap2 : Pos} {e : Expr} {f : Fx D}
theorem pbk_cons (h1 : P1 X g W st k) (h2 : PBK X g W ss kf) : PBK X g W (st :: ss) (fun kk => kSeq k (kf kk)) := by
  refine pss_imp (pss_cons h1 h2) ?_
  rintro D σ H ⟨kk, Dd, c1, c2, c3, c4, ρ, b, H0, G, F⟩
  exact ⟨ρ, b, H0, G, (F.seq).ends (fun σ H z => ⟨kk, Dd, c1, c2, c3, c4, z⟩) c2 (fun σ H z => absurd z (c3 σ H)) fun σ H z => absurd z (c4 σ H)⟩
/-- for y in e: y.clear(), all of them new -/
theorem pss_clrN {D : Ends} {σ : L2.St} {H : Hp} {Dd : Ends} {i0 : Nat} (j : Nat) (m : MarkX g) (hM : X.N[j]? = some y) (q : TB g W (kClrN j f kk) Dd σ H) (hnx : ∀ σ H, TB g W kk Dd σ H → D.nx σ H) :
    iList X.K (TX g W f) σ H fun J H1 => ∃ W' : Nat → Nat → L2.St → Hp → Prop, (∃ m, W' 0 m σ H1) ∧ ∀ i m σ H, W' i m σ H →
      (J.stop i H ∧ D.nx σ H) ∨ (J.go i H ∧ ∃ N : L2.St → Hp → Prop, (∀ σ' H', N σ' H' → ∃ m', m' < m ∧ W' (i + 1) m' σ' H') ∧ ∀ x H', J.yld i H x H' → ∃ r us, x = .ref r ∧ j < σ.length ∧ H' r = some (.lst us) ∧ N (σ.set j (some x)) (L2.upd H' r (.lst []))) := by
  obtain ⟨ρ, b, H0, G, F⟩ := q
  refine ⟨ρ, b, H0, G, (fin_out G F).mono fun d b1 H01 H1 t1 B1 F1 v iv => ?_⟩
  have G1 := G.step t1 B1
  split at F1
  · rename_i ds
    split at F1
    · rename_i hcnd
      obtain ⟨hnew, hjl⟩ := hcnd
      cases iv with
      | @lst a vs _ _ ha hz il =>
        have ua : NewL g H01 a := ⟨hz, vs, ha⟩
        have hjs : j < σ.length := by rw [← G.len]; exact hjl
        have sp : ∀ H' : Hp, (∀ c, ¬ NewL g H01 c → H' c = H1 c) → ∀ w, D.nx (σ.set j w) H' := by
          intro H' h1 w
          have G2 : Good g (ρ.set j .no) b1 (σ.set j w) H1 H01 := G1.setN
          obtain ⟨H0', G'⟩ := spoil_same (H' := H') G2 m h1
          exact hnx _ _ ⟨_, b1, H0', G', F1.ret rfl⟩
        refine ⟨a, rfl, ⟨vs, .inl (.inl (G1.sub _ _ ha))⟩, fun k mm σ' H' => mm = vs.length - k ∧ (∃ w, σ' = σ.set j w) ∧ (∀ c, ¬ NewL g H01 c → H' c = H1 c) ∧ (∀ c, NewL g H01 c → ∃ us, H' c = some (.lst us)) ∧ ((k ≤ vs.length ∧ H' a = some (.lst vs)) ∨ H' a = some (.lst [])), ⟨_, rfl, ⟨(σ[j]?).getD none, ?_⟩, fun c _ => rfl, fun c ⟨_, us, e⟩ => ⟨us, G1.sub _ _ e⟩, .inl ⟨Nat.zero_le _, G1.sub _ _ ha⟩⟩, ?_⟩
        · rw [List.getElem?_eq_getElem hjs]
          simp
        · rintro k mm σ' H' ⟨rfl, ⟨w, rfl⟩, q1, q2, q3⟩
          rcases q3 with ⟨hkl, hv⟩ | hv
          · by_cases hlt : k < vs.length
            · refine .inr ⟨⟨vs, vs[k], .inl (.inl hv), List.getElem?_eq_getElem hlt⟩, fun σ' H' => (∃ w, σ' = σ.set j w) ∧ (∀ c, ¬ NewL g H01 c → H' c = H1 c) ∧ (∀ c, NewL g H01 c → ∃ us, H' c = some (.lst us)) ∧ ((k + 1 ≤ vs.length ∧ H' a = some (.lst vs)) ∨ H' a = some (.lst [])), fun σ' H' z => ⟨vs.length - (k + 1), by omega, rfl, z⟩, fun u H2 yy => ?_⟩
              obtain ⟨rfl, yy⟩ := yy
              obtain ⟨r, rfl, ur⟩ := newLs_get hnew il (yy vs (.inl (.inl hv)))
              obtain ⟨us, er⟩ := q2 r ur
              refine ⟨r, us, rfl, by rw [List.length_set]; exact hjs, er, ⟨some (.ref r), by rw [List.set_set]⟩, fun c hc => ?_, fun c hc => ?_, ?_⟩
              · rw [upd_ne (fun e => by subst e; exact hc ur)]; exact q1 c hc
              · by_cases hcr : c = r
                · subst hcr; exact ⟨_, upd_same⟩
                · rw [upd_ne hcr]; exact q2 c hc
              · by_cases har : a = r
                · subst har; exact .inr upd_same
                · rw [upd_ne har]; exact .inl ⟨hlt, hv⟩
            · exact .inl ⟨⟨vs, .inl (.inl hv), by omega⟩, sp H' q1 w⟩
          · exact .inl ⟨⟨[], .inl (.inl hv), Nat.zero_le _⟩, sp H' q1 w⟩
    · exact F1.elim
  · exact F1.elim
theorem ps_clrN (j : Nat) (m : MarkX g) (hp : PassesOwn (model X.prog X.w) X.A X.env X.xe) (hc : X.calm = true) (hnd : X.N.Nodup) (he : PX X g W e f)
    (hM : X.N[j]? = some y := by rfl)
    (hvy : Vis X.env.scope y := by first | exact Or.inl rfl | exact Or.inr (Or.inl rfl) | exact Or.inr (Or.inr rfl)) (hdy : (y == ("__debug__" : Str)) = false := by decide) (hcdy : (y == ("__classdict__" : Str)) = false := by decide)
    (hly : Loc X.env.scope y := by first | exact Or.inl rfl | exact Or.inr rfl) (hfy : X.fn y = true ∨ X.env.scope.names.lookup y = some .local := by first | exact .inl rfl | exact .inr rfl | assumption)
    (hb1 : attributeBase (.Name y p3) "clear" X.env (eval (.Name y p3) X.env) = eval (.Name y p3) X.env := by rfl) (hl1 : (ap.endLine == p4.line) = true := by rfl)
    (hs1 : swapsWith (.Call (.Attribute (.Name y p3) "clear" ap) [] [] p4) none pos2.line X.env = pure false := by rfl)
    (hs : ∀ z, foldedSetIterable e X.env z = pure z := by intro _; rfl) :
    PS X (.For (.Name y p2) e [.Expr (.Call (.Attribute (.Name y p3) "clear" ap) [] [] p4) pos2] [] pos) (fun D σ H => ∃ kk Dd, (∀ σ H, TB g W kk Dd σ H → D.nx σ H) ∧ TB g W (kClrN j f kk) Dd σ H) := by
  refine ps_imp (ps_for hp hc (pi_list he) (pg_name hnd hM hly hfy) (pss_one (ps_expr (pe_bm0 PySem.F.plainAttrs_list PySem.F.slot_list_clear PySem.F.type_list_clear mt_clear (pe_var hM hvy hdy hcdy) hb1 hl1) hs1)) hs) ?_
  rintro D σ H ⟨kk, Dd, hnx, q⟩
  have := pss_clrN (i0 := 0) (X := X) (D := D) j m hM q hnx
  obtain ⟨ρ, b, H0, G, F⟩ := this
  refine ⟨ρ, b, H0, G, F.mono fun d b1 H01 H1 t1 B1 F1 v iv => ?_⟩
  obtain ⟨a, e1, s1, W', w0, step⟩ := F1 v iv
  refine ⟨a, e1, s1, W', w0, fun i m σ H z => ?_⟩
  rcases step i m σ H z with z | ⟨go, N, n1, n2⟩
  · exact .inl z
  · refine .inr ⟨go, N, n1, fun u H' yl => ?_⟩
    obtain ⟨r, us, rfl, hj, hr, hN⟩ := n2 u H' yl
    exact ⟨.ref r, List.getElem?_set_self hj, .inl ⟨rfl, us, .inl (.inl hr)⟩, r, us, rfl, rfl, hr, hN⟩
theorem pbk_clrN (j : Nat) (m : MarkX g) (hp : PassesOwn (model X.prog X.w) X.A X.env X.xe) (hc : X.calm = true) (hnd : X.N.Nodup) (he : PX X g W e f)
    (hM : X.N[j]? = some y := by rfl)
    (hvy : Vis X.env.scope y := by first | exact Or.inl rfl | exact Or.inr (Or.inl rfl) | exact Or.inr (Or.inr rfl)) (hdy : (y == ("__debug__" : Str)) = false := by decide) (hcdy : (y == ("__classdict__" : Str)) = false := by decide)
    (hly : Loc X.env.scope y := by first | exact Or.inl rfl | exact Or.inr rfl) (hfy : X.fn y = true ∨ X.env.scope.names.lookup y = some .local := by first | exact .inl rfl | exact .inr rfl | assumption)
    (hb1 : attributeBase (.Name y p3) "clear" X.env (eval (.Name y p3) X.env) = eval (.Name y p3) X.env := by rfl) (hl1 : (ap.endLine == p4.line) = true := by rfl)
    (hs1 : swapsWith (.Call (.Attribute (.Name y p3) "clear" ap) [] [] p4) none pos2.line X.env = pure false := by rfl)
    (hs : ∀ z, foldedSetIterable e X.env z = pure z := by intro _; rfl) :
    PBK X g W [.For (.Name y p2) e [.Expr (.Call (.Attribute (.Name y p3) "clear" ap) [] [] p4) pos2] [] pos] (kClrN j f) := by
  refine pss_imp (pss_one (ps_clrN j m hp hc hnd he hM hvy hdy hcdy hly hfy hb1 hl1 hs1 hs)) ?_
  rintro D σ H ⟨kk, Dd, c1, _, _, _, z⟩
  exact ⟨kk, Dd, c1, z⟩
theorem pb_clrN (j : Nat) (m : MarkX g) (hp : PassesOwn (model X.prog X.w) X.A X.env X.xe) (hc : X.calm = true) (hnd : X.N.Nodup) (he : PX X g W e f) (h : PB X g W ss kk)
    (hM : X.N[j]? = some y := by rfl)
    (hvy : Vis X.env.scope y := by first | exact Or.inl rfl | exact Or.inr (Or.inl rfl) | exact Or.inr (Or.inr rfl)) (hdy : (y == ("__debug__" : Str)) = false := by decide) (hcdy : (y == ("__classdict__" : Str)) = false := by decide)
    (hly : Loc X.env.scope y := by first | exact Or.inl rfl | exact Or.inr rfl) (hfy : X.fn y = true ∨ X.env.scope.names.lookup y = some .local := by first | exact .inl rfl | exact .inr rfl | assumption)
    (hb1 : attributeBase (.Name y p3) "clear" X.env (eval (.Name y p3) X.env) = eval (.Name y p3) X.env := by rfl) (hl1 : (ap.endLine == p4.line) = true := by rfl)
    (hs1 : swapsWith (.Call (.Attribute (.Name y p3) "clear" ap) [] [] p4) none pos2.line X.env = pure false := by rfl)
    (hs : ∀ z, foldedSetIterable e X.env z = pure z := by intro _; rfl) :
    PB X g W (.For (.Name y p2) e [.Expr (.Call (.Attribute (.Name y p3) "clear" ap) [] [] p4) pos2] [] pos :: ss) (kClrN j f kk) := by
  refine pss_imp (pss_cons (ps_clrN j m hp hc hnd he hM hvy hdy hcdy hly hfy hb1 hl1 hs1 hs) h) ?_
  rintro D σ H z
  exact ⟨kk, D, fun σ H z => z, z⟩
/-- for x in range(n), its body told by what follows -/
theorem pb_turns {is : List Nat} {pt : Pat} {body : List Stmt} {tg : Expr} {n : Nat} {jn : Nat} (hn : n ≤ 1000) (hp : PassesOwn (model X.prog X.w) X.A X.env X.xe) (hc : X.calm = true) (hgr : Gl X "range") (hmr : X.mg "range" = none) (hg : PGd X g tg is pt) (hb : PBK X g W body kb) (h : PB X g W ss kk)
    (hst : starEach [.Constant (.int (n : Int)) jn p2] X.env = [(false, eval (.Constant (.int (n : Int)) jn p2) X.env)] := by rfl) (hs : ∀ x, foldedSetIterable (.Call (.Name "range" p) [.Constant (.int (n : Int)) jn p2] [] pos2) X.env x = pure x := by intro _; rfl) :
    PB X g W (.For tg (.Call (.Name "range" p) [.Constant (.int (n : Int)) jn p2] [] pos2) body [] pos :: ss) (kTurns n pt kb kk) := by
  refine pss_imp (pss_cons (ps_for hp hc (pi_range1 hgr hmr (pa_cons pe_int pa_nil hst) hst) hg hb hs) h) ?_
  rintro D σ H ⟨ρ, b, H0, G, F⟩
  let Dd : Ends := { nx := fun _ _ => False, rt := D.rt }
  have F0 : FinS g W H0 (forC pt kb (rngD 0 n) kk ρ b) Dd := F.ret rfl
  have hlen : (rngD 0 n).length = n := by simp [rngD]
  refine ⟨(n : Int), rfl, by omega, by omega, fun i mm σ H => mm = n - i ∧ i ≤ n ∧ TB g W (forC pt kb ((rngD 0 n).drop i) kk) Dd σ H, ⟨_, rfl, Nat.zero_le _, ρ, b, H0, G, by rw [List.drop_zero]; exact F0⟩, ?_⟩
  rintro i mm σ H ⟨rfl, hi, ρ, b, H0, G, F⟩
  obtain ⟨go, stop⟩ := (yields_rng (k := g.k) (HB := H0) (lo := 0) (n := n)) H0 H i (Same.refl _) G.sub
  by_cases hlt : i < n
  · have hlt' : i < (rngD 0 n).length := by rw [hlen]; exact hlt
    have hd : (rngD 0 n)[i]? = some (rngD 0 n)[i] := List.getElem?_eq_getElem hlt'
    obtain ⟨g1, yl⟩ := go _ hd
    have hdr : (rngD 0 n).drop i = (rngD 0 n)[i] :: (rngD 0 n).drop (i + 1) := List.drop_eq_getElem_cons hlt'
    rw [hdr] at F
    refine .inr ⟨?_, fun σ' H' => TB g W (forC pt kb ((rngD 0 n).drop (i + 1)) kk) Dd σ' H', fun σ' H' z => ⟨n - (i + 1), by omega, rfl, hlt, z⟩, fun x H' y => ?_⟩
    · simpa using g1
    obtain ⟨H0', t, iv⟩ := yl x H' (by simpa using y)
    cases hp : pt (rngD 0 n)[i] ρ with
    | none => simp only [forC, hp] at F; exact F.elim
    | some ρ1 =>
      simp only [forC, hp] at F
      exact ⟨ρ, b, H0', _, ρ1, G.step t.weak (G.box.keep t), iv, hp, fun σ' G' _ => ⟨_, Dd, fun σ H z => z, rfl, fun σ H z => z, fun σ H z => z, ρ1, b, H0', G', F.base t.ext⟩⟩
  · have e : i = n := by omega
    subst e
    have : (rngD 0 i).drop i = [] := by rw [List.drop_eq_nil_iff, hlen]; exact Nat.le_refl _
    rw [this] at F
    refine .inl ⟨by simpa using stop (by rw [hlen]; exact Nat.le_refl _), ρ, b, H0, G, FinS.ends F (fun σ H z => z.elim) rfl (fun σ H z => z.elim) fun σ H z => z.elim⟩
end
section
variable {X : Cx} {g : Cfg} {W : WX} {e : Expr} {es : List Expr} {fl : Fx (List D)} {x t : Str} {pos p cpos tpos : Pos} {C : Addr} {k k2 n : Nat} {ss : List Stmt} {kk : Fs} {F : FD}
theorem pb_copyMk (i : Nat) (m : MarkX g) (cl : MakD X.prog X.w X.K X.mg X.base k x C n F) (hr : Room k2 X.A) (hk : k + 1 ≤ k2) (hK : X.K = g.k.K) (tk : Takes X W) (hnd : X.N.Nodup) (hpa : PL X g W (e :: es) fl)
    (h : ∀ z' Hs' H0s', MarkX (mkG g.k.K g.k.bx z' g.n Hs' H0s') → PB X (mkG g.k.K g.k.bx z' g.n Hs' H0s') W ss kk) (hg : Gl X x := by rfl) (hNi : X.N[i]? = some t := by rfl)
    (hx : Loc X.env.scope t := by first | exact Or.inl rfl | exact Or.inr rfl) (hdb : (x == ("__debug__" : Str)) = false := by decide) (hs : swapsWith (.Call (.Name x p) (e :: es) [] cpos) (some (.Name t tpos)) pos.line X.env = pure false := by rfl)
    (hf : X.fn t = true ∨ X.env.scope.names.lookup t = some .local := by first | exact .inl rfl | exact .inr rfl | assumption)
    (he : starEach (e :: es) X.env = (false, eval e X.env) :: starEach es X.env := by rfl) (hpl : (backTo cpos (starEach es X.env)).any (·.1) = false := by rfl) :
    PB X g W (.Assign [.Name t tpos] (.Call (.Name x p) (e :: es) [] cpos) pos :: ss) (kCopyMk i C n F fl kk) := by
  obtain ⟨fa, fd, ps, M, F1, bb, hm⟩ := cl.ex
  have base : PE X (.Call (.Name x p) (e :: es) [] cpos) (tMakeX C (spD X.K n F) (WE W) (TA' g W fl)) := by
    refine ⟨fun pins s σ H Q I hh => ?_⟩
    refine wpAny_Call_Name_kw (ld_glob I hg hm ?_ hdb)
    refine PySem.W.callWith_K (h₀ := X.base) I.ok.mod.kin M.kp (thn (hpa.run cpos pins s σ H _ I hh) fun ua s1 ⟨va, HA, J, rv, q⟩ => ⟨J.kIn, ?_⟩) he hpl
    exact run_makeX (EE := WE W) M F1 (hr.mono hk) bb (passAt tk σ) J rv q
  have hrest : PSs X ss (fun Dd σ H => ∃ z' Hs' H0s', MarkX (mkG g.k.K g.k.bx z' g.n Hs' H0s') ∧ TB (mkG g.k.K g.k.bx z' g.n Hs' H0s') W kk Dd σ H) := ⟨fun pins s σ H D I ⟨z', Hs', H0s', m, z⟩ => (h z' Hs' H0s' m).run pins s σ H D I z⟩
  refine pss_imp (pss_cons (ps_set hnd hNi hx base hs hf) hrest) ?_
  rintro Dd σ H ⟨ρ, b, H0, G, F2⟩
  obtain ⟨⟨K, bx, z⟩, Hs, H0s, n0⟩ := g
  have hK : X.K = K := hK
  subst hK
  refine ⟨ρ, b, H0, G, (fin_out G F2).mono fun ds b1 H01 H1 t1 B1 F3 vs il => ?_⟩
  intro a dx ha hdx hne
  have G1 := G.step t1 B1
  split at F3
  · rename_i hc
    obtain ⟨hn, hcl⟩ := hc
    obtain ⟨bx1, by1, hb'⟩ := m.draw
    have hb' : bx = .draw bx1 by1 := hb'
    have h0a : H01 a = none := t1.sub.free ha
    have hst : ∀ c o, H1 c = some o → L2.upd (L2.upd H1 dx (.own a)) a (.ins C dx []) c = some o := fun c o q => by rw [upd_ne (ne_of_none q ha), upd_ne (ne_of_none q hdx)]; exact q
    have sb : Same H01 (L2.upd (L2.upd H1 dx (.own a)) a (.ins C dx [])) := fun c o q => hst c o (t1.sub c o q)
    have hzc : ∀ c, stands H1 c = false → H1 c = none := fun c q => stands_f q
    refine ⟨by rw [List.length_cons, ← il.length]; exact hn, .self a C, stands H1, .slf C :: mkTs ds, { b1 with fs := [], ds := [] }, H01, sb, ?_, ?_, .cons (.slf rfl) ((il.mark (fun a us q => stands_t (by rw [t1.sub a _ q]; simp))).rebox hcl), ?_⟩
    · intro c q
      have q : stands H1 c = true := q
      cases hc : H1 c with
      | none => unfold stands at q; rw [hc] at q; simp at q
      | some o => rw [hst c o hc]; simp
    · exact ⟨h0a, dx, [], by rw [upd_same]; rfl, rfl, .nil⟩
    · have kpa : ∀ {H0' H' : Hp}, Tr (.self a C) H01 (L2.upd (L2.upd H1 dx (.own a)) a (.ins C dx [])) H0' H' → ∀ c o, H1 c = some o → H' c = some o := fun t c o q => t.keep c o (hst c o q) fun i => by
        have i : c = a := i
        subst i; rw [ha] at q; cases q
      have nwa : ∀ {H0' H' : Hp}, Tr (.self a C) H01 (L2.upd (L2.upd H1 dx (.own a)) a (.ins C dx [])) H0' H' → ∀ c, H01 c = none → H1 c ≠ none → H0' c = none := fun t c q n => by
        cases hc : H1 c with
        | none => exact absurd hc n
        | some o => exact t.new c q (by rw [hst c o hc]; simp) fun i => by rw [show c = a from i, ha] at hc; cases hc
      revert F3
      generalize F (.slf C :: mkTs ds) { b1 with fs := [], ds := [] } = oo
      intro F3
      cases oo with
      | nx ρ' b2 =>
        intro H0' H' t B
        refine ⟨rfl, ?_⟩
        dsimp only at F3
        split at F3
        · rename_i hcl2
          obtain ⟨hcl2, hpu⟩ := hcl2
          obtain ⟨h1, dx', vs', h2, h3, h4⟩ := B
          have e0 : Same H0' (L2.upd H0' a (.ins C dx' (b2.fs.zip vs'))) := fun c o q => by rw [upd_ne (ne_of_none q h1)]; exact q
          have nw : ∀ c, H01 c = none → H1 c ≠ none → L2.upd H0' a (.ins C dx' (b2.fs.zip vs')) c = none := fun c q n => by
            have hca : c ≠ a := fun q2 => n (by rw [q2]; exact ha)
            rw [upd_ne hca]; exact nwa t c q n
          have tt : Tr bx H01 H1 (L2.upd H0' a (.ins C dx' (b2.fs.zip vs'))) H' := by
            refine ⟨t.ext.trans e0, fun c o q => ?_, fun c o q _ => kpa t c o q, fun c n => ?_, fun c q n _ => nw c q n⟩
            · by_cases hca : c = a
              · subst hca; rw [upd_same] at q; rw [h2]; exact q
              · rw [upd_ne hca] at q; exact t.sub c o q
            · cases hc : H1 c with
              | none => exact absurd hc n
              | some o => rw [kpa t c o hc]; simp
          have BB : BoxOk ⟨X.K, bx, stands H1⟩ (L2.upd H0' a (.ins C dx' (b2.fs.zip vs'))) H' b1 := by
            have B1' : BoxOk ⟨X.K, bx, stands H1⟩ H01 H1 b1 := draw_box (k := ⟨X.K, bx, z⟩) hb' hb' B1 (fun _ q => q) fun _ _ _ q => q
            exact B1'.move (t.ext.trans e0) (fun c i => nw c (B1'.at i).1 (B1'.at i).2) fun c o _ q => kpa t c o q
          obtain ⟨z2, Hs2, H0s2, G', m', T⟩ := copy_good (i := i) (v := .ref a) m G1 tt BB hzc (.ins upd_same h3 ((h4.mono e0).rebox hcl2)) hpu
          exact ⟨z2, Hs2, H0s2, m', _, b1, _, G', FinS.atom m.draw T F3⟩
        · exact F3.elim
      | _ => exact F3.elim
  · exact F3.elim
end
end Fw
set_option Elab.async false
set_option linter.all false
set_option maxRecDepth 100000
set_option maxHeartbeats 1000000
/-! Fw36: the law's def makes lambdas: its code object's table grows; what is handed to a def that calls it. -/
namespace Fw
open PySem PySem.Spec PyProof.Rows L2 LamX
section
variable {k : Kx} {H H' : Hp}
mutual
/-- no datum leans on a table -/
theorem Is.nt (e : ∀ a u, H a = some u → (∀ ps, u ≠ .tbl ps) → H' a = some u) : ∀ {d : D} {v : V}, Is k H d v → Is k H' d v
  | _, _, .non => .non
  | _, _, .bl b => .bl b
  | _, _, .int b => .int b
  | _, _, .str b => .str b
  | _, _, .tup h l => .tup (by
      rcases h with (h | ⟨o, h⟩) | h
      · exact .inl (.inl (e _ _ h fun _ q => by cases q))
      · exact .inl (.inr ⟨o, e _ _ h fun _ q => by cases q⟩)
      · exact .inr h) (IsL.nt e l)
  | _, _, .lst h q l => .lst (e _ _ h fun _ z => by cases z) q (IsL.nt e l)
  | _, _, .ins h n l => .ins (e _ _ h fun _ z => by cases z) n (IsL.nt e l)
  | _, _, .adr a => .adr a
  | _, _, .sql h l => .sql (by
      rcases h with (h | ⟨o, h⟩) | h
      · exact .inl (.inl (e _ _ h fun _ q => by cases q))
      · exact .inl (.inr ⟨o, e _ _ h fun _ q => by cases q⟩)
      · exact .inr h) (IsL.nt e l)
  | _, _, .box h => .box h
  | _, _, .slf h => .slf h
  | _, _, .mem h => .mem h
  | _, _, .dls h => .dls h
  | _, _, .lls h => .lls h
  | _, _, .rb h => .rb h
  | _, _, .dct h q l => .dct (e _ _ h fun _ z => by cases z) q (IsL.nt e l)
  | _, _, .exn hb h q l => .exn hb (e _ _ h fun _ z => by cases z) q (IsL.nt e l)
  | _, _, .kd h r l1 l2 => .kd (e _ _ h fun _ z => by cases z) r (IsL.nt e l1) (IsL.nt e l2)
theorem IsL.nt (e : ∀ a u, H a = some u → (∀ ps, u ≠ .tbl ps) → H' a = some u) : ∀ {ds : List D} {vs : List V}, IsL k H ds vs → IsL k H' ds vs
  | _, _, .nil => .nil
  | _, _, .cons h l => .cons (Is.nt e h) (IsL.nt e l)
end
end
/-- what stands, but for the tables -/
def ntH (H0 : Hp) : Hp := fun c => match H0 c with
  | some (.tbl _) => none
  | o => o
theorem ntH_some {H0 : Hp} {c : Addr} {u : HO} (h : ntH H0 c = some u) : H0 c = some u ∧ ∀ ps, u ≠ .tbl ps := by
  unfold ntH at h
  split at h
  · cases h
  · rename_i hn
    refine ⟨h, fun ps e => ?_⟩
    subst e
    exact hn ps h
theorem ntH_of {H0 : Hp} {c : Addr} {u : HO} (h : H0 c = some u) (n : ∀ ps, u ≠ .tbl ps) : ntH H0 c = some u := by
  unfold ntH
  split
  · rename_i ps e
    rw [h] at e
    exact absurd (Option.some.inj e) (n ps)
  · exact h
theorem ntH_none {H0 : Hp} {c : Addr} (h : H0 c = none) : ntH H0 c = none := by
  unfold ntH
  rw [h]
/-- the tables as the maker's code object has them -/
structure TabX (T : List (Addr × Str)) (g : Cfg) : Prop where
  draw : ∃ x y, g.k.bx = .draw x y
  zf : g.k.z = fun _ => false
  tab : Tabs T g.Hs
  out : ∀ p ∈ T, g.H0s p.1 = none
  box : ∀ c, InB g.k.bx c → ∃ us, g.Hs c = some (.lst us)
theorem codeO_lst {c : Addr} {q : Str} (us : List V) : CodeO c q ≠ .lst us := fun z => by
  unfold CodeO at z
  cases z
section
variable {T : List (Addr × Str)} {g : Cfg} {ρ : En} {b : Bx} {σ : L2.St} {H H0 H1 : Hp}
theorem TabX.now (t : TabX T g) (G : Good g ρ b σ H H0) : Tabs T H ∧ ∀ p ∈ T, H0 p.1 = none := by
  refine ⟨fun p hp => ?_, fun p hp => ?_⟩
  · obtain ⟨ps, h1, h2, h3⟩ := t.tab p hp
    refine ⟨ps, G.tr.keep _ _ h1 fun i => ?_, h2, fun pos cv hc => ?_⟩
    · obtain ⟨us, e⟩ := t.box _ i
      rw [h1] at e; cases e
    · obtain ⟨c, e1, e2⟩ := h3 pos cv hc
      refine ⟨c, e1, G.tr.keep _ _ e2 fun i => ?_⟩
      obtain ⟨us, e⟩ := t.box _ i
      rw [e2] at e
      exact codeO_lst us (Option.some.inj e)
  · obtain ⟨ps, h1, _, _⟩ := t.tab p hp
    refine G.tr.new _ (t.out p hp) (by rw [h1]; simp) fun i => ?_
    obtain ⟨us, e⟩ := t.box _ i
    rw [h1] at e; cases e
theorem box_lst {K : PySem.W.Frag} {x y : Addr} {z : Addr → Bool} (B : BoxOk ⟨K, .draw x y, z⟩ H0 H b) : ∀ c, InB (.draw x y) c → H0 c = none ∧ ∃ us, H c = some (.lst us) := by
  obtain ⟨_, h1, h2, h3, h4⟩ := B
  rintro c (rfl | rfl)
  · exact ⟨h1, _, h3⟩
  · exact ⟨h2, _, h4⟩
/-- behind the making of a lambda -/
theorem re_good (t : TabX T g) (G : Good g ρ b σ H H0) (e : ExtN H H1) (T1 : Tabs T H1) : Good (mkG g.k.K g.k.bx (fun _ => false) g.n (heldOff (ρ.map noOdc) σ H1) (ntH H0)) (ρ.map noOdc) b σ H1 (ntH H0) ∧ TabX T (mkG g.k.K g.k.bx (fun _ => false) g.n (heldOff (ρ.map noOdc) σ H1) (ntH H0)) := by
  obtain ⟨x, y, hb⟩ := t.draw
  obtain ⟨hT, hN⟩ := t.now G
  have own : ∀ {j l}, OwnAt (ρ.map noOdc) σ j l → OwnAt ρ σ j l := by
    rintro j l ⟨⟨s, e1, eo⟩, e2⟩
    rw [List.getElem?_map] at e1
    cases hr : ρ[j]? with
    | none => rw [hr] at e1; cases e1
    | some s0 =>
      rw [hr] at e1
      cases s0 with
      | odc _ => cases e1; cases eo
      | no => cases e1; cases eo
      | val _ => cases e1; cases eo
      | own ds => exact ⟨⟨_, hr, rfl⟩, e2⟩
  have ownL : ∀ {j l}, OwnAt (ρ.map noOdc) σ j l → ∃ us, H l = some (.lst us) := by
    rintro j l ⟨⟨s, e1, eo⟩, e2⟩
    rw [List.getElem?_map] at e1
    cases hr : ρ[j]? with
    | none => rw [hr] at e1; cases e1
    | some s0 =>
      rw [hr] at e1
      cases s0 with
      | odc _ => cases e1; cases eo
      | no => cases e1; cases eo
      | val _ => cases e1; cases eo
      | own ds =>
        have q := G.slot j
        rw [hr] at q
        obtain ⟨l', vs, q1, _, q3, _⟩ := q
        rw [e2] at q1
        cases q1
        exact ⟨vs, q3⟩
  have B0 : BoxOk ⟨g.k.K, .draw x y, g.k.z⟩ H0 H b := by
    have := G.box
    obtain ⟨⟨K, bx, z⟩, Hs, H0s, n⟩ := g
    have hb : bx = .draw x y := hb
    subst hb
    exact this
  have bl := box_lst B0
  have sm : Same (ntH H0) H1 := fun c u q => by
    obtain ⟨q1, q2⟩ := ntH_some q
    exact e c u (G.sub c u q1) q2
  have ie : ∀ a u, H0 a = some u → (∀ ps, u ≠ .tbl ps) → ntH H0 a = some u := fun a u q n => ntH_of q n
  have B1 : BoxOk ⟨g.k.K, g.k.bx, fun _ => false⟩ (ntH H0) H1 b := by
    rw [hb]
    obtain ⟨a1, a2, a3, a4, a5⟩ := B0
    exact ⟨a1, ntH_none a2, ntH_none a3, e _ _ a4 (fun _ z => by cases z), e _ _ a5 (fun _ z => by cases z)⟩
  obtain ⟨G1, s1⟩ := un_good (n := g.n) (ρ := ρ.map noOdc) (b := b) (σ := σ) hb sm (by rw [List.length_map]; exact G.len) G.ln (fun i => by
    have hk : (⟨g.k.K, g.k.bx, fun _ => false⟩ : Kx) = g.k := by rw [← t.zf]
    rw [hk]
    rw [List.getElem?_map]
    have q := G.slot i
    cases hr : ρ[i]? with
    | none => trivial
    | some s =>
      rw [hr] at q
      cases s with
      | no => trivial
      | odc _ => trivial
      | own xs =>
        obtain ⟨l, us, p1, p2, p3, p4⟩ := q
        exact ⟨l, us, p1, ntH_none p2, e _ _ p3 (fun _ z => by cases z), p4.nt ie⟩
      | val d =>
        obtain ⟨v, p1, iv⟩ := q
        exact ⟨v, p1, iv.nt ie⟩) (fun i j l o1 o2 => G.apart i j l (own o1) (own o2)) B1 (fun i l o => G.notBox (own o))
  have ow1 : ∀ {j l}, OwnAt (ρ.map noOdc) σ j l → ∃ us, H1 l = some (.lst us) := fun o => by
    obtain ⟨us, q⟩ := ownL o
    exact ⟨us, e _ _ q (fun _ z => by cases z)⟩
  refine ⟨G1, ⟨x, y, hb⟩, rfl, fun p hp => ?_, fun p hp => ntH_none (hN p hp), fun c i => ?_⟩
  · obtain ⟨ps, h1, h2, h3⟩ := T1 p hp
    refine ⟨ps, ?_, h2, fun pos cv hc => ?_⟩
    · show heldOff _ _ _ _ = _
      rw [held_of fun j o => by obtain ⟨us, q⟩ := ow1 o; rw [h1] at q; cases q]
      exact h1
    · obtain ⟨c, e1, e2⟩ := h3 pos cv hc
      refine ⟨c, e1, ?_⟩
      show heldOff _ _ _ _ = _
      rw [held_of fun j o => by
        obtain ⟨us, q⟩ := ow1 o
        rw [e2] at q
        exact codeO_lst us (Option.some.inj q)]
      exact e2
  · have i' : InB (.draw x y) c := by rw [← hb]; exact i
    obtain ⟨_, us, q⟩ := bl c i'
    refine ⟨us, ?_⟩
    show heldOff _ _ _ _ = _
    rw [held_of fun j o => G.notBox (own o) i]
    exact e _ _ q fun _ z => by cases z
end
/-! ### the law's statements: what it tells is a truth value -/
def OutJ (o : Out) (Dd : Ends) : Prop := match o with
  | .rt (.bl c) _ => ∀ H, Dd.rt (.bl c) H
  | _ => False
def TJ (g : Cfg) (k : Fs) : TS := fun Dd σ H => ∃ ρ b H0, Good g ρ b σ H H0 ∧ OutJ (k ρ b) Dd
def PBJ (X : Cx) (g : Cfg) (ss : List Stmt) (k : Fs) : Prop := PSs X ss (TJ g k)
section
variable {X : Cx} {g : Cfg} {W : WX} {st : Stmt} {ss : List Stmt} {k k' kk : Fs}
theorem pbj_cons (h1 : P1 X g W st k) (h2 : PBJ X g ss k') : PBJ X g (st :: ss) (kSeq k k') := by
  refine pss_imp (pss_cons h1 h2) ?_
  rintro Dd σ H ⟨ρ, b, H0, G, F⟩
  refine ⟨ρ, b, H0, G, ?_⟩
  unfold kSeq at F
  cases hk : k ρ b with
  | nx ρ' b' => rw [hk] at F; exact fun σ' H' H0' G' q => ⟨ρ', b', H0', G', F⟩
  | rt d b' =>
    rw [hk] at F
    intro v H' H0' t B iv
    cases d with
    | bl c => cases iv; exact F H'
    | _ => exact False.elim F
  | _ => rw [hk] at F; exact False.elim F
theorem pbj_frz (i : Nat) (h : PBJ X g ss k) : PBJ X g ss (kFrz i k) := by
  refine pss_imp h ?_
  rintro Dd σ H ⟨ρ, b, H0, G, F⟩
  obtain ⟨H0', q, G'⟩ := G.frz i
  exact ⟨_, b, H0', G', F⟩
end
/-! ### the def that calls what it is handed -/
/-- what is handed, called: the first slot holds it -/
def xThunk (th : Bx → Res D) (f : Addr) : Fx D := fun (ρ : En) (b : Bx) => match ρ[(0 : Nat)]? with
  | some (.val (.adr a)) => if a = f then th b else .bad
  | _ => .bad
abbrev WXE (E : XK) : WX := fun cls d _ H => E cls d H
/-- what such a def makes of it -/
def TTr (K : PySem.W.Frag) (fb : Fx D) (R : (Bx → Res D) → Addr → Bx → Out) : (XK → Hp → VK → Prop) → Hp → VK → Prop := fun tl H Q => ∃ (g' : Cfg) (σ : L2.St) (ρ : En) (b : Bx) (H0 : Hp), g'.k.K = K ∧ g'.k.z = (fun _ => false) ∧ (∃ x y, g'.k.bx = .draw x y) ∧ Good g' ρ b σ H H0 ∧
  (∀ E H' Q', TX g' (WXE E) fb σ H' Q' → tl E H' Q') ∧ ∀ f, PostD g'.k H0 H (R (fun b' => fb ρ b') f b) Q fun _ _ _ => False
abbrev cxR (X : Cx) (Ng : List Str) (x : Str) (sg : Scope) (g : Addr) (cdg : Value) (s : Shared) (H : Hp) : Cx := (cxOf C8.CX0 X.prog X.w X.K X.mg X.base Ng x sg g cdg X.A X.stack s H C8.E0).nox
theorem gives_of {X : Cx} {Ng : List Str} {x a q : Str} {sg : Scope} {g : Addr} {cdg : Value} {bg : List Stmt} {fb : Fx D} {kR : (Bx → Res D) → Addr → Fs} (hlN : 1 ≤ Ng.length)
    (hb : ∀ (s : Shared) (H : Hp) (bx : Bk) (z : Addr → Bool) (n0 : Nat) (Hs H0s : Hp) (th : Bx → Res D) (f : Addr),
      (∀ (W : WX) (pn : List (Addr × Obj)) (xe : Value → Shared → Prop) (p1 p2 pos : Pos), Takes ((cxR X Ng x sg g cdg s H).tr pn xe) W → swapsWith (.Call (.Name a p1) [] [] p2) none pos.line ((cxR X Ng x sg g cdg s H).tr pn xe).env = pure false →
        P1 ((cxR X Ng x sg g cdg s H).tr pn xe) (mkG X.K bx z n0 Hs H0s) W (.Expr (.Call (.Name a p1) [] [] p2) pos) (kDrop (xThunk th f))) →
      PB (cxR X Ng x sg g cdg s H) (mkG X.K bx z n0 Hs H0s) W0 bg (kR th f)) :
    GivesTo X Ng x sg g cdg bg a q (TTr X.K fb fun th f b => runD Ng.length (kR th f) [.adr f] b) := by
  intro f c' s H Q tl act hc ⟨g', σ, ρ, b, H0, hK, hz, ⟨bx1, by1, hbx⟩, G, htl, post⟩
  obtain ⟨⟨K', bx, z⟩, Hs', H0s', n'⟩ := g'
  have hK : K' = X.K := hK
  subst hK
  have hbx2 : bx = .draw bx1 by1 := hbx
  have hz2 : z = fun _ => false := hz
  clear hbx hz
  subst hz2
  have il : IsL ⟨X.K, bx, fun _ => false⟩ H0 [.adr f] [.ref f] := .cons (.adr f) .nil
  have zo : ZOk ⟨X.K, bx, fun _ => false⟩ H := fun c e => absurd e Bool.false_ne_true
  have Gs := good_start (N := Ng) G.sub zo G.box il
  have nIc : ¬ InB bx c' := fun i => by
    have B := G.box
    rw [hbx2] at i
    have B' : BoxOk ⟨X.K, .draw bx1 by1, fun _ => false⟩ H0 H b := by rw [← hbx2]; exact B
    obtain ⟨_, us, e⟩ := box_lst B' c' i
    rw [hc] at e
    exact codeO_lst us (Option.some.inj e)
  refine ⟨_, hb s H bx (fun _ => false) (L2.start Ng [.ref f]).length H H0 (fun b' => fb ρ b') f ?_, startE Ng.length [.adr f], b, H0, Gs, ?_⟩
  · intro W pn xe p1 p2 pos tk hsw
    have tk' : Takes ((cxR X Ng x sg g cdg s H).tr pn xe) fun cls d σ' H' => σ'.length = (L2.start Ng [.ref f]).length → W cls d σ' H' := fun u s' ⟨a1, B, sI, pins, σ1, HI, cls, d, e, I, nb, up, sky, na, os, ag, w⟩ =>
      tk u s' ⟨a1, B, sI, pins, σ1, HI, cls, d, e, I, nb, up, sky, na, os, ag, w (by
        have h1 : σ1.length = Ng.length := I.len
        rw [h1]
        unfold L2.start
        simp
        omega)⟩
    have call := act (fun cls d σ' H' => σ'.length = (L2.start Ng [.ref f]).length → W cls d σ' H') pn xe (fun cls d H' => ∀ σ', σ'.length = (L2.start Ng [.ref f]).length → W cls d σ' H') p1 p2 tk' (fun cls d σ' H' h hl => h σ' hl)
    refine ps_imp (ps_expr call hsw) ?_
    rintro Dd σZ HZ ⟨ρZ, bZ, H0Z, GZ, FZ⟩
    unfold kDrop xThunk at FZ
    have slot0 : σZ[0]? = some (some (.ref f)) ∧ FinS (mkG X.K bx (fun _ => false) (L2.start Ng [.ref f]).length H H0) W H0Z ((fb ρ bZ).out fun _ b1 => .nx ρZ b1) Dd := by
      split at FZ
      · rename_i a0 ha0
        split at FZ
        · rename_i haf
          subst haf
          obtain ⟨v, e1, iv⟩ := GZ.val ha0
          cases iv
          exact ⟨e1, FZ⟩
        · exact FZ.elim
      · exact FZ.elim
    obtain ⟨s0, FZ⟩ := slot0
    have trz : Tr bx H0 H H0Z HZ := GZ.tr
    have Gl := G.step trz GZ.box
    refine ⟨s0, GZ.tr.keep _ _ hc nIc, htl _ _ _ ⟨ρ, bZ, H0Z, Gl, ?_⟩⟩
    cases hf : fb ρ bZ with
    | ok d b1 =>
      rw [hf] at FZ
      intro H0' H' t B v iv
      exact FZ σZ H' H0' (GZ.step t B) t.ext
    | exc xx b1 =>
      rw [hf] at FZ
      intro H0' H' t B cls dd ex σ' hl
      exact FZ cls dd σ' H' H0' hl (GZ.tr.trans t) B ex
    | bad => rw [hf] at FZ; exact FZ.elim
  · have post : PostD ⟨X.K, bx, fun _ => false⟩ H0 H (kR (fun b' => fb ρ b') f (startE Ng.length [.adr f]) b) Q (fun _ _ _ => False) := post f
    cases hk : kR (fun b' => fb ρ b') f (startE Ng.length [.adr f]) b with
    | nx ρ' b' => rw [hk] at post; exact fun σ H' H0' G' _ => post H0' H' G'.tr G'.box
    | rt d b' => rw [hk] at post; exact fun v H' H0' t B' iv => post v H0' H' t B' iv
    | rto es b' => rw [hk] at post; exact fun l us H' H0' t B' h1 h2 h3 il => post l us H0' H' t B' h1 h2 h3 il
    | exc x b' => rw [hk] at post; exact fun cls dd σ H' H0' _ t B' ex => (post cls dd H0' H' t B' ex).elim
    | bk ρ b' => rw [hk] at post; exact post.elim
    | ct ρ b' => rw [hk] at post; exact post.elim
    | bad => rw [hk] at post; exact post.elim
end Fw
set_option Elab.async false
set_option linter.all false
set_option maxRecDepth 100000
set_option maxHeartbeats 1000000
/-! Fw37: a law that hands lambdas to a def. -/
namespace Fw
open PySem PySem.Spec PyProof.Rows L2 LamX
/-- the def that calls what it is handed, and takes what it raises -/
structure RefD (K : PySem.W.Frag) (mg : Str → Option Value) (x a : Str) (R : (Bx → Res D) → Addr → Bx → Out) : Prop where
  ex : ∃ (g : Addr) (pg : Arguments) (bg : List Stmt) (sg : Scope) (dV kV doc pm cdv ct oc : Value) (an od : Option Addr) (osl : Array (Option Value)) (Ng : List Str), mg x = some (.ref g) ∧ PySem.W.keepIn K (.ref g) = true ∧
    K.lookup g = some ⟨oc, od, .func (PySem.W.fnOf x x pg bg sg dV kV doc pm an cdv ct), osl⟩ ∧ PySem.W.codeIn K cdv x = true ∧ Binds K (PySem.W.fnOf x x pg bg sg dV kV doc pm an cdv ct) [a] [] ∧ FnScope Ng [a] sg ∧ Ng[0]? = some a ∧ Vis sg a ∧
    ∀ (X : Cx) (fb : Fx D) (q : Str), X.K = K → X.mg = mg → GivesTo X Ng x sg g cdv bg a q (TTr X.K fb R)
  ind : ∀ th f b, R th f b = R th 0 b
def tW (K : PySem.W.Frag) (fb : Fx D) : XK → TE := fun E σ H Q => ∃ (bx : Bk) (z : Addr → Bool) (n : Nat) (Hs H0s : Hp), TX (mkG K bx z n Hs H0s) (WXE E) fb σ H Q
def tRe (K : PySem.W.Frag) (bx : Bk) (n : Nat) (f2 : Fx D) : TE := fun σ H Q => ∃ Hs' H0s', TX (mkG K bx (fun _ => false) n Hs' H0s') W0 f2 σ H Q
section
variable {X : Cx} {g : Cfg} {W : WX} {ss body2 : List Stmt} {kk : Fs} {x a : Str} {R : (Bx → Res D) → Addr → Bx → Out} {fb f2 : Fx D} {T : List (Addr × Str)} {c Pt : Addr} {k k2 : Nat} {params : Arguments} {body e2 : Expr} {scope : Scope} {p lpos pos cpos pos2 : Pos}
theorem pe_lamR (rd : RefD X.K X.mg x a R) (TB : TabB X.base X.mg c Pt) (hcode : X.env.code = .ref c) (hT : T = [(Pt, X.env.qual ++ "<lambda>")]) (hr : Room k2 X.A) (hk : k + 2 ≤ k2) (L : LamS X.env.scope scope)
    (hbd : ∀ (A : Around) (outer : List Env) (s : Shared) (H : Hp) (E : XK) (f c' : Addr) (bx : Bk) (z : Addr → Bool) (n0 : Nat) (Hs H0s : Hp), Room k (A.deeper (lamEnv X scope s.heap.objs.size f c')) → PX (lamCx X A outer s H E scope f c') (mkG X.K bx z n0 Hs H0s) (WXE E) body fb)
    (hg : Gl X x) (hdef : defaultsOf params X.env = ([], [])) (hbind : ∀ (q : Str) (cl : List (Str × Addr)) (pm cv ctv : Value), bindArgs (PySem.W.kla_fn "<lambda>" q params body scope cl pm cv ctv) ⟨[], []⟩ = pure [])
    (hdb : (x == ("__debug__" : Str)) = false) (hd : (a == ("__debug__" : Str)) = false) (hcd : (a == ("__classdict__" : Str)) = false) :
    PE X (.Call (.Name x p) [.Lambda params body scope lpos] [] pos) (tLam T (TTr X.K fb R) (tW X.K fb)) := by
  obtain ⟨gg, pg, bg, sg, dV, kV, doc, pm, cdv, ct, oc, an, od, osl, Ng, h1, h2, h3, h4, h5, h6, h7, h8, h9⟩ := rd.ex
  subst hT
  exact pe_lamcall hg h1 h2 h3 h4 h5 h6 h7 h8 (h9 X fb _ rfl rfl) TB hcode (List.mem_singleton.mpr rfl) (fun p hp _ => by rw [List.mem_singleton.mp hp]) (hr.mono hk) L hdef hbind
    (fun A outer s H E f c' hr' => ⟨fun pins s' σ H' Q I ⟨bx, z, n0, Hs, H0s, w⟩ => (hbd A outer s H E f c' bx z n0 Hs H0s hr').run pins s' σ H' Q I w⟩) hdb hd hcd
/-- the lambda handed over, what is told compared -/
theorem lam_core {ρ : En} {b b1 b2 : Bx} {σ : L2.St} {H H0 : Hp} {d d2 : D} {v : Bool} {r : R2} {o2 : D → D → Option D} (t : TabX T g) (hK : X.K = g.k.K) (rd : RefD X.K X.mg x a R) (G : Good g ρ b σ H H0) (hop : OpD ⟨g.k.K, g.k.bx, fun _ => false⟩ r o2)
    (hR : valO (R (fun b' => fb (ρ.map noOdc) b') 0 b) = .ok d b1) (h2 : f2 (ρ.map noOdc) b1 = .ok d2 b2) (ho : o2 d d2 = some (.bl v)) {Q : VK}
    (hQ : ∀ Hs' H0s' H' H0', TabX T (mkG g.k.K g.k.bx (fun _ => false) g.n Hs' H0s') → Good (mkG g.k.K g.k.bx (fun _ => false) g.n Hs' H0s') (ρ.map noOdc) b2 σ H' H0' → Q (.bl v) H') :
    tOp r (tLam T (TTr X.K fb R) (tW X.K fb)) (tRe g.k.K g.k.bx g.n f2) σ H Q := by
  obtain ⟨hT, _⟩ := t.now G
  refine ⟨hT, fun H1 eN T1 => ?_⟩
  obtain ⟨G1, t1⟩ := re_good t G eN T1
  generalize heldOff (ρ.map noOdc) σ H1 = Hs1 at G1 t1
  generalize ntH H0 = H01 at G1 t1
  refine ⟨mkG g.k.K g.k.bx (fun _ => false) g.n Hs1 H01, σ, ρ.map noOdc, b, H01, hK.symm, rfl, t.draw, G1, fun E H' Q' z => ⟨g.k.bx, fun _ => false, g.n, Hs1, H01, by rw [hK]; exact z⟩, fun f => ?_⟩
  rw [rd.ind]
  -- behind the call
  have fin : ∀ (w : V) (H2 H02 : Hp), Tr g.k.bx H01 H1 H02 H2 → BoxOk ⟨g.k.K, g.k.bx, fun _ => false⟩ H02 H2 b1 → Is ⟨g.k.K, g.k.bx, fun _ => false⟩ H02 d w → tRe g.k.K g.k.bx g.n f2 σ H2 fun u H3 => r w u H3 Q := by
    intro w H2 H02 tt B iw
    have G2 := G1.step tt B
    refine ⟨Hs1, H01, _, b1, H02, G2, ?_⟩
    rw [h2]
    intro H03 H3 t3 B3 u iu
    have G3 := G2.step t3 B3
    exact hop H03 H3 d d2 (.bl v) w u t3.sub (fun c e => absurd e Bool.false_ne_true) (iw.mono t3.ext) iu ho Q fun y H04 H4 t4 iy => by
      cases iy
      exact hQ _ _ H4 H04 t1 (G3.step t4.weak (B3.keep t4))
  cases hF : R (fun b' => fb (ρ.map noOdc) b') 0 b with
  | rt d' b' =>
    rw [hF] at hR
    cases hR
    exact fun w H02 H2 tt B iw => fin w H2 H02 tt B iw
  | rto xs b' =>
    rw [hF] at hR
    cases hR
    intro l us H02 H2 tt B hln h0 hl il
    have e0 : Same H02 (L2.upd H02 l (.lst us)) := fun a u q => by rw [upd_ne (ne_of_none q h0)]; exact q
    have nbl : ¬ InB g.k.bx l := fun i => (G1.box.at i).2 hln
    exact fin (.ref l) H2 _ (tt.frz1 hln h0 hl) (B.frz h0 nbl) (.lst upd_same rfl (il.mono e0))
  | nx ρ' b' =>
    rw [hF] at hR
    cases hR
    exact fun H02 H2 tt B => fin .non H2 H02 tt B .non
  | _ => rw [hF] at hR; cases hR
def lamV (R : (Bx → Res D) → Addr → Bx → Out) (fb f2 : Fx D) (o2 : D → D → Option D) (ρ : En) (b : Bx) : Option (Bool × Bx) := match valO (R (fun b' => fb (ρ.map noOdc) b') 0 b) with
  | .ok d b1 => (match f2 (ρ.map noOdc) b1 with
    | .ok d2 b2 => (match o2 d d2 with
      | some (.bl v) => some (v, b2)
      | _ => none)
    | _ => none)
  | _ => none
theorem lamV_some {o2 : D → D → Option D} {ρ : En} {b b2 : Bx} {v : Bool} (h : lamV R fb f2 o2 ρ b = some (v, b2)) : ∃ d b1 d2, valO (R (fun b' => fb (ρ.map noOdc) b') 0 b) = .ok d b1 ∧ f2 (ρ.map noOdc) b1 = .ok d2 b2 ∧ o2 d d2 = some (.bl v) := by
  unfold lamV at h
  split at h
  · rename_i d b1 e1
    split at h
    · rename_i d2 b2' e2
      split at h
      · rename_i v' e3
        cases h
        exact ⟨d, b1, d2, e1, e2, e3⟩
      · cases h
    · cases h
  · cases h
/-- if x(lambda: ..) != [..]: return False -/
def kLamIf (R : (Bx → Res D) → Addr → Bx → Out) (fb f2 : Fx D) (kk : Fs) : Fs := fun ρ b => match lamV R fb f2 (eqD true) ρ b with
  | some (false, b2) => kk (ρ.map noOdc) b2
  | _ => .bad
/-- return x(lambda: ..) == [..] -/
def kLamRet (R : (Bx → Res D) → Addr → Bx → Out) (fb f2 : Fx D) : Fs := fun ρ b => match lamV R fb f2 (eqD false) ρ b with
  | some (v, b2) => .rt (.bl v) b2
  | _ => .bad
theorem pbj_lamIf (t : TabX T g) (hK : X.K = g.k.K) (rd : RefD X.K X.mg x a R) (TB : TabB X.base X.mg c Pt) (hcode : X.env.code = .ref c) (hT : T = [(Pt, X.env.qual ++ "<lambda>")]) (hr : Room k2 X.A) (hk : k + 2 ≤ k2) (L : LamS X.env.scope scope)
    (hbd : ∀ (A : Around) (outer : List Env) (s : Shared) (H : Hp) (E : XK) (f c' : Addr) (bx : Bk) (z : Addr → Bool) (n0 : Nat) (Hs H0s : Hp), Room k (A.deeper (lamEnv X scope s.heap.objs.size f c')) → PX (lamCx X A outer s H E scope f c') (mkG X.K bx z n0 Hs H0s) (WXE E) body fb)
    (he2 : ∀ Hs' H0s', PX X (mkG g.k.K g.k.bx (fun _ => false) g.n Hs' H0s') W0 e2 f2)
    (h : ∀ Hs' H0s', TabX T (mkG g.k.K g.k.bx (fun _ => false) g.n Hs' H0s') → PBJ X (mkG g.k.K g.k.bx (fun _ => false) g.n Hs' H0s') ss kk)
    (hg : Gl X x := by rfl) (hdef : defaultsOf params X.env = ([], []) := by rfl) (hbind : ∀ (q : Str) (cl : List (Str × Addr)) (pm cv ctv : Value), bindArgs (PySem.W.kla_fn "<lambda>" q params body scope cl pm cv ctv) ⟨[], []⟩ = pure [] := by intros; rfl)
    (hdb : (x == ("__debug__" : Str)) = false := by decide) (hd : (a == ("__debug__" : Str)) = false := by decide) (hcd : (a == ("__classdict__" : Str)) = false := by decide) (hm : behindInMarks .NotEq e2 = false := by first | exact nomark _ | rfl) :
    PBJ X g (.If (.Compare (.Call (.Name x p) [.Lambda params body scope lpos] [] pos) [.NotEq] [e2] cpos) body2 [] pos2 :: ss) (kLamIf R fb f2 kk) := by
  have lam := pe_lamR (T := T) (p := p) (lpos := lpos) (pos := pos) rd TB hcode hT hr hk L hbd hg hdef hbind hdb hd hcd
  have pe2 : PE X e2 (tRe g.k.K g.k.bx g.n f2) := ⟨fun pins s σ H Q I ⟨Hs', H0s', z⟩ => (he2 Hs' H0s').run pins s σ H Q I z⟩
  have hrest : PSs X ss (fun Dd σ H => ∃ Hs' H0s', TabX T (mkG g.k.K g.k.bx (fun _ => false) g.n Hs' H0s') ∧ TJ (mkG g.k.K g.k.bx (fun _ => false) g.n Hs' H0s') kk Dd σ H) := ⟨fun pins s σ H D I ⟨Hs', H0s', t', z⟩ => (h Hs' H0s' t').run pins s σ H D I z⟩
  have never : PSs X body2 (fun _ _ _ => False) := ⟨fun _ _ _ _ _ _ z => z.elim⟩
  refine pss_imp (pss_cons (ps_if (pt_cmpR (op_neD hr.units) lam pe2 hm) never pss_nil) hrest) ?_
  rintro Dd σ H ⟨ρ, b, H0, G, F⟩
  unfold kLamIf at F
  split at F
  · rename_i b2 hl
    obtain ⟨d, b1, d2, hR, h2, ho⟩ := lamV_some hl
    refine lam_core t hK rd G (by rw [hK]; exact opd_ne) hR h2 ho fun Hs' H0s' H' H0' t' G' => ⟨false, rfl, ?_⟩
    show (if false = true then _ else _)
    rw [if_neg Bool.false_ne_true]
    exact ⟨Hs', H0s', t', _, b2, H0', G', F⟩
  · exact F.elim
theorem pbj_lamRet (t : TabX T g) (hK : X.K = g.k.K) (rd : RefD X.K X.mg x a R) (TB : TabB X.base X.mg c Pt) (hcode : X.env.code = .ref c) (hT : T = [(Pt, X.env.qual ++ "<lambda>")]) (hr : Room k2 X.A) (hk : k + 2 ≤ k2) (L : LamS X.env.scope scope)
    (hbd : ∀ (A : Around) (outer : List Env) (s : Shared) (H : Hp) (E : XK) (f c' : Addr) (bx : Bk) (z : Addr → Bool) (n0 : Nat) (Hs H0s : Hp), Room k (A.deeper (lamEnv X scope s.heap.objs.size f c')) → PX (lamCx X A outer s H E scope f c') (mkG X.K bx z n0 Hs H0s) (WXE E) body fb)
    (he2 : ∀ Hs' H0s', PX X (mkG g.k.K g.k.bx (fun _ => false) g.n Hs' H0s') W0 e2 f2)
    (hg : Gl X x := by rfl) (hdef : defaultsOf params X.env = ([], []) := by rfl) (hbind : ∀ (q : Str) (cl : List (Str × Addr)) (pm cv ctv : Value), bindArgs (PySem.W.kla_fn "<lambda>" q params body scope cl pm cv ctv) ⟨[], []⟩ = pure [] := by intros; rfl)
    (hdb : (x == ("__debug__" : Str)) = false := by decide) (hd : (a == ("__debug__" : Str)) = false := by decide) (hcd : (a == ("__classdict__" : Str)) = false := by decide) (hm : behindInMarks .Eq e2 = false := by first | exact nomark _ | rfl) :
    PBJ X g [.Return (some (.Compare (.Call (.Name x p) [.Lambda params body scope lpos] [] pos) [.Eq] [e2] cpos)) pos2] (kLamRet R fb f2) := by
  have lam := pe_lamR (T := T) (p := p) (lpos := lpos) (pos := pos) rd TB hcode hT hr hk L hbd hg hdef hbind hdb hd hcd
  have pe2 : PE X e2 (tRe g.k.K g.k.bx g.n f2) := ⟨fun pins s σ H Q I ⟨Hs', H0s', z⟩ => (he2 Hs' H0s').run pins s σ H Q I z⟩
  refine pss_imp (pss_one (ps_ret (pe_cmpR (op_eqD hr.units) lam pe2 hm))) ?_
  rintro Dd σ H ⟨ρ, b, H0, G, F⟩
  unfold kLamRet at F
  split at F
  · rename_i v b2 hl
    obtain ⟨d, b1, d2, hR, h2, ho⟩ := lamV_some hl
    exact lam_core t hK rd G (by rw [hK]; exact opd_eq) hR h2 ho fun Hs' H0s' H' H0' t' G' => F H'
  · exact F.elim
end
theorem outJ_back {b : Bx} {o : Out} {Dd : Ends} (F : OutJ (outBack b o) Dd) : OutJ o Dd := by
  cases o with
  | rt d b2 =>
    have F : OutJ (if clean d = true then .rt d b else .bad) Dd := F
    split at F
    · cases d with
      | bl c => exact F
      | _ => exact F.elim
    · exact F.elim
  | rto ds b2 =>
    have F : OutJ (if cleanL ds = true then .rto ds b else .bad) Dd := F
    split at F
    · exact F.elim
    · exact F.elim
  | _ => exact F.elim
section
variable {X : Cx} {g : Cfg} {W : WX} {ss : List Stmt} {kk : Fs} {t s : Str} {p1 p2 p3 pos cpos : Pos} {k k2 : Nat} {F : FD} {T : List (Addr × Str)}
theorem pbj_begun (i j : Nat) (hbx : g.k.bx = .no) (hz : g.k.z = fun _ => false) (htab : Tabs T g.Hs) (hout : ∀ p ∈ T, g.H0s p.1 = none) (cl : CalD X.prog X.w X.K X.mg X.base k "_law_begun" 1 F) (hr : Room k2 X.A) (hk : k ≤ k2) (hK : X.K = g.k.K) (tk : Takes X W) (hnd : X.N.Nodup)
    (h : ∀ x y Hs' H0s', TabX T (mkG g.k.K (.draw x y) (fun _ => false) g.n Hs' H0s') → PBJ X (mkG g.k.K (.draw x y) (fun _ => false) g.n Hs' H0s') ss kk) (hg : Gl X "_law_begun" := by rfl) (hN : X.N[j]? = some s := by rfl) (hNi : X.N[i]? = some t := by rfl)
    (hv : Vis X.env.scope s := by first | exact Or.inl rfl | exact Or.inr (Or.inl rfl) | exact Or.inr (Or.inr rfl)) (hd : (s == ("__debug__" : Str)) = false := by decide) (hcd : (s == ("__classdict__" : Str)) = false := by decide)
    (hx : Loc X.env.scope t := by first | exact Or.inl rfl | exact Or.inr rfl) (hs : swapsWith (.Call (.Name "_law_begun" p1) [.Name s p2] [] cpos) (some (.Name t p3)) pos.line X.env = pure false := by rfl)
    (hf : X.fn t = true ∨ X.env.scope.names.lookup t = some .local := by first | exact .inl rfl | exact .inr rfl | assumption)
    (he : starEach [.Name s p2] X.env = (false, eval (.Name s p2) X.env) :: starEach [] X.env := by rfl) (hpl : (backTo cpos (starEach [] X.env)).any (·.1) = false := by rfl) :
    PBJ X g (.Assign [.Name t p3] (.Call (.Name "_law_begun" p1) [.Name s p2] [] cpos) pos :: ss) (kBegun i j F kk) := by
  obtain ⟨fa, fd, ps, F1, b, hm, hk'⟩ := cl.ex
  have hrest : PSs X ss (fun Dd σ H => ∃ x y Hs' H0s', TabX T (mkG g.k.K (.draw x y) (fun _ => false) g.n Hs' H0s') ∧ TJ (mkG g.k.K (.draw x y) (fun _ => false) g.n Hs' H0s') kk Dd σ H) := ⟨fun pins s σ H D I ⟨x, y, Hs', H0s', t', z⟩ => (h x y Hs' H0s' t').run pins s σ H D I z⟩
  refine pss_imp (pss_cons (ps_set hnd hNi hx (pe_callS F1 (hr.mono hk) hg hm hk' b (fun σ => passAt tk σ) (pa_cons (pe_var hN hv hd hcd) pa_nil he) (by decide) he hpl) hs hf) hrest) ?_
  rintro Dd σ H ⟨ρ, b0, H0, G, F2⟩
  have nI : ∀ c, ¬ InB g.k.bx c := fun c i => by rw [hbx] at i; exact i
  unfold kBegun at F2
  split at F2
  · rename_i ds hj
    split at F2
    · rename_i is0 ns st bb h1 h2
      split at F2
      · rename_i is h3
        obtain ⟨v, e1, iv⟩ := G.val hj
        refine ⟨v, e1, ?_⟩
        cases iv with
        | @sql a vs ds hl il =>
          have hi0 := ofInts h1
          subst hi0
          have hvs := il.ints_inv
          subst hvs
          classical
          let z : Addr → Bool := fun c => decide (H c ≠ none)
          refine ⟨rfl, .no, z, [.sql (is0.map D.int)], bx0, H0, G.sub, fun c q => by simpa [z] using q, trivial, .cons (.sql (hK ▸ hl) (IsL.ints _)) .nil, ?_⟩
          rw [h2]
          intro l us H0' H' tt B hn h0 hH il2
          cases il2 with
          | @cons _ v1 _ vs1 i1 il2 =>
            cases il2 with
            | @cons _ v2 _ vs2 i2 il2 =>
              cases il2
              cases i2
              cases i1 with
              | @lst y ws _ _ hy hz' il3 =>
                have hHy : H y = none := by simpa [z] using hz'
                have e3 := ofInts h3
                subst e3
                have e4 := il3.ints_inv
                subst e4
                have hly : l ≠ y := fun q => by rw [q, hy] at h0; cases h0
                have T1 : Tr .no H0 H H0 H' := ⟨Same.refl _, tt.ext.trans tt.sub, tt.keep, tt.there, fun c q _ _ => q⟩
                have B' : BoxOk ⟨g.k.K, .draw l y, g.k.z⟩ H0 H' ⟨is, st, [], [], [], []⟩ := ⟨hly, G.sub.free hn, G.sub.free hHy, hH, tt.sub _ _ hy⟩
                have kp : ∀ c u, g.Hs c = some u → H' c = some u := fun c u q => tt.keep c u (G.tr.keep c u q (nI c)) fun z => z
                have GG := (G.rebox T1 B').setV (i := i) (d := .box) (v := .ref l) (.box rfl)
                have hzz : g.k.z = fun _ => false := hz
                rw [hzz] at GG
                refine ⟨l, y, H', H0, ⟨⟨l, y, rfl⟩, rfl, fun p hp => ?_, fun p hp => ?_, ?_⟩, (cleanE ρ).set i (.val .box), ⟨is, st, [], [], [], []⟩, H0, GG, outJ_back F2⟩
                · obtain ⟨ps', q1, q2, q3⟩ := htab p hp
                  exact ⟨ps', kp _ _ q1, q2, fun pos cv hc => let ⟨c0, e1, e2⟩ := q3 pos cv hc; ⟨c0, e1, kp _ _ e2⟩⟩
                · obtain ⟨ps', q1, _, _⟩ := htab p hp
                  exact G.tr.new _ (hout p hp) (by rw [q1]; simp) (nI _)
                · rintro c (rfl | rfl)
                  · exact ⟨_, hH⟩
                  · exact ⟨_, tt.sub _ _ hy⟩
      · exact F2.elim
    · exact F2.elim
  · exact F2.elim
end
def spJ (K : PySem.W.Frag) (T : List (Addr × Str)) : Sp := fun vs H Q _ => ∃ (a : Addr) (ns : List Int), vs = [.ref a] ∧ ns.length ≤ 63 ∧ Tabs T H ∧ SqL K H a (ns.map V.int) ∧ ∀ H', Q (.bl true) H'
/-- the law's def -/
theorem okJ {P : Program} {w : World} {K : PySem.W.Frag} {mg : Str → Option Value} {base : Heap} {x qual qT : Str} {st : Stmt} {f c Pt : Addr} {oc kV doc pm ct : Value} {od an : Option Addr} {osl : Array (Option Value)} {N : List Str} {n : Nat} {k : Fs}
    (lk : K.lookup f = some ⟨oc, od, .func (PySem.W.fnOf x qual (defArgs st) (defBody st) (defScope st) .none kV doc pm an (.ref c) ct), osl⟩) (hcd : PySem.W.codeIn K (.ref c) qual = true) (S : FnScope N ["_law_script"] (defScope st))
    (hb : ∀ (n0 : Nat) (Hs H0s : Hp) (A : Around) (outer : List Env) (s : Shared) (H : Hp) (E : XK), Tabs [(Pt, qT)] Hs → (∀ p ∈ [(Pt, qT)], H0s p.1 = none) → Room n (A.deeper (envOfC qual (defScope st) s.heap.objs.size f (.ref c))) →
      PBJ (cxOf (L2.CX P w) P w K mg base N qual (defScope st) f (.ref c) A outer s H E) (mkG K .no (fun _ => false) n0 Hs H0s) (defBody st) k)
    (hres : ∀ ns : List Int, ns.length ≤ 63 → ∃ b', runD N.length k [.sql (ns.map .int)] bx0 = .rt (.bl true) b') :
    FnOk P w K mg base (L2.CX P w) (n + 1) f (PySem.W.fnOf x qual (defArgs st) (defBody st) (defScope st) .none kV doc pm an (.ref c) ct) ["_law_script"] (spJ K [(Pt, qT)]) := by
  refine fn_of lk hcd S (fun vs H Q E h => by obtain ⟨_, _, rfl, _⟩ := h; rfl) fun A outer s H vs Q E hr h => ?_
  obtain ⟨a, ns, rfl, hl, hT, hS, hQ⟩ := h
  obtain ⟨b', e⟩ := hres ns hl
  have sm : Same (ntH H) H := fun c u q => (ntH_some q).1
  have il : IsL ⟨K, .no, fun _ => false⟩ H [.sql (ns.map D.int)] [.ref a] := .cons (.sql hS (IsL.ints ns)) .nil
  have il' := il.nt (H' := ntH H) fun a u q n => ntH_of q n
  have zo : ZOk ⟨K, .no, fun _ => false⟩ H := fun c e => absurd e Bool.false_ne_true
  have G := good_start (N := N) (b := bx0) sm zo trivial il'
  refine ⟨_, hb _ H (ntH H) A outer s H E hT (fun p hp => ?_) hr, startE N.length [.sql (ns.map .int)], bx0, ntH H, G, ?_⟩
  · obtain ⟨ps, q1, _, _⟩ := hT p hp
    unfold ntH
    rw [q1]
  · have e : k (startE N.length [.sql (ns.map .int)]) bx0 = .rt (.bl true) b' := e
    rw [e]
    exact fun H' => hQ H'
end Fw
set_option Elab.async false
set_option linter.all false
set_option maxRecDepth 100000
set_option maxHeartbeats 1000000
/-! Fw38: a list of lists that is made, and lists of it by other names, changed in place. -/
namespace Fw
open PySem PySem.Spec PyProof.Rows L2

/-! ### names of the rows -/
def rwF (s : Nat) : Nat → List D
  | 0 => []
  | n + 1 => .rb (s + 2) :: rwF (s + 1) n
theorem rwF_len : ∀ (n s : Nat), (rwF s n).length = n
  | 0, _ => rfl
  | n + 1, s => by show (rwF (s + 1) n).length + 1 = _; rw [rwF_len n]
theorem rwF_get : ∀ (n s i : Nat), (rwF s n)[i]? = if i < n then some (D.rb (s + i + 2)) else none
  | 0, s, i => by simp [rwF]
  | n + 1, s, 0 => by simp [rwF]
  | n + 1, s, i + 1 => by
    show (rwF (s + 1) n)[i]? = _
    rw [rwF_get n (s + 1) i]
    by_cases h : i < n
    · rw [if_pos h, if_pos (by omega)]; congr 2; omega
    · rw [if_neg h, if_neg (by omega)]
theorem rwF_is {k : Kx} {H : Hp} {x y a : Addr} : ∀ {L2 L1 : List Addr}, k.bx = .drawR x y a (L1 ++ L2) → IsL k H (rwF L1.length L2.length) (L2.map V.ref)
  | [], _, _ => .nil
  | l :: L2, L1, h => by
    refine .cons (.rb ?_) ?_
    · rw [h]
      show (L1 ++ l :: L2)[L1.length]? = some l
      simp
    · have := rwF_is (k := k) (H := H) (x := x) (y := y) (a := a) (L1 := L1 ++ [l]) (L2 := L2) (by rw [h]; simp)
      rw [List.length_append] at this
      exact this
/-- what stands by a number -/
def rbD (b : Bx) : Nat → Option (List D)
  | 0 => none
  | 1 => some (rwF 0 b.ls.length)
  | k + 2 => b.ls[k]?
def rbV (b : Bx) : Option Sl → Option (List D)
  | some (.val (.rb n)) => rbD b n
  | _ => none
/-- one of the lists changed -/
theorem DL.mod {k : Kx} {H0 H : Hp} : ∀ {ls : List Addr} {dss : List (List D)} {j : Nat} {ds : List D}, DL k H0 H ls dss → ls.Nodup → dss[j]? = some ds → ∃ l vs, ls[j]? = some l ∧ l ∈ ls ∧ k.z l = false ∧ H0 l = none ∧ H l = some (.lst vs) ∧ IsL k H0 ds vs ∧ ∀ es us, IsL k H0 es us → DL k H0 (L2.upd H l (.lst us)) ls (dss.set j es)
  | [], [], _, _, _, _, h => by simp at h
  | l :: ls, es :: dss, 0, ds, ⟨⟨hz, h0, vs, h1, h2⟩, r⟩, nd, h => by
    cases h
    exact ⟨l, vs, rfl, List.mem_cons_self, hz, h0, h1, h2, fun es us iu => ⟨⟨hz, h0, _, upd_same, iu⟩, r.out (List.nodup_cons.mp nd).1⟩⟩
  | l :: ls, es :: dss, j + 1, ds, ⟨⟨hz, h0, vs, h1, h2⟩, r⟩, nd, h => by
    obtain ⟨n1, n2⟩ := List.nodup_cons.mp nd
    obtain ⟨l', vs', q1, q2, q0, q3, q4, q5, q6⟩ := DL.mod (j := j) r n2 (by simpa using h)
    refine ⟨l', vs', by simpa using q1, List.mem_cons_of_mem _ q2, q0, q3, q4, q5, fun es us iu => ⟨⟨hz, h0, vs, ?_, h2⟩, q6 es us iu⟩⟩
    rw [upd_ne (fun q => by subst q; exact n1 q2)]; exact h1
  | [], _ :: _, _, _, h, _, _ => h.elim
  | _ :: _, [], _, _, h, _, _ => h.elim
/-- the box as the draws' -/
theorem draw_of {K : PySem.W.Frag} {x y a : Addr} {ls : List Addr} {z : Addr → Bool} {A B : Hp} {b : Bx} (h : BoxOk ⟨K, .drawR x y a ls, z⟩ A B b) (l' : List (List D)) : BoxOk ⟨K, .draw x y, z⟩ A B { b with ls := l' } := h.1
theorem lift_draw {K : PySem.W.Frag} {x y a : Addr} {ls : List Addr} {z : Addr → Bool} {A B A1 B1 : Hp} {b b2 : Bx} (h : BoxOk ⟨K, .drawR x y a ls, z⟩ A B b) (t : Tr (.draw x y) A B A1 B1) (h2 : BoxOk ⟨K, .draw x y, z⟩ A1 B1 b2) : BoxOk ⟨K, .drawR x y a ls, z⟩ A1 B1 { b2 with ls := b.ls } := by
  obtain ⟨h1, ⟨d1, d2, d3, d4⟩, hz, h0, hn, hd, ha, hl⟩ := h
  have na : ¬ InB (.draw x y) a := by rintro (e | e); exact d1 e.symm; exact d2 e.symm
  have nl : ∀ l ∈ ls, ¬ InB (.draw x y) l := fun l m => by
    rintro (e | e)
    · exact d3 (e ▸ m)
    · exact d4 (e ▸ m)
  exact ⟨h2, ⟨d1, d2, d3, d4⟩, hz, t.new a h0 (by rw [ha]; simp) na, hn, hd, t.keep _ _ ha na, hl.move t.ext (fun l m => t.new l (hl.there m).1 (hl.there m).2 (nl l m)) fun l o m q => t.keep _ _ q (nl l m)⟩
theorem tr_drawR {x y a : Addr} {ls : List Addr} {A B A1 B1 : Hp} (t : Tr (.draw x y) A B A1 B1) : Tr (.drawR x y a ls) A B A1 B1 := by
  have i : ∀ c, InB (.draw x y) c → InB (.drawR x y a ls) c := fun c h => h.elim .inl fun h => .inr (.inl h)
  exact ⟨t.ext, t.sub, fun c o q n => t.keep c o q fun h => n (i c h), t.there, fun c q n ni => t.new c q n fun h => ni (i c h)⟩
section
variable {g : Cfg} {ρ : En} {b b' : Bx} {σ : L2.St} {H H0 H' H0' : Hp}
theorem Good.rb (G : Good g ρ b σ H H0) {i n : Nat} (h : ρ[i]? = some (.val (.rb n))) : ∃ l, σ[i]? = some (some (.ref l)) ∧ nmR g.bx n = some l := by
  obtain ⟨v, e1, iv⟩ := G.val h
  cases iv with
  | rb hb => exact ⟨_, e1, hb⟩
theorem nm_box {bx : Bk} {n : Nat} {l : Addr} (h : nmR bx n = some l) : ∃ x y a ls, bx = .drawR x y a ls := by
  cases bx with
  | drawR x y a ls => exact ⟨x, y, a, ls, rfl⟩
  | _ => cases n with
    | zero => cases h
    | succ n => cases n <;> cases h
/-- one of the lists, read -/
theorem Good.rbRead (G : Good g ρ b σ H H0) {n : Nat} {l : Addr} {es : List D} (h : nmR g.bx n = some l) (hd : rbD b n = some es) : H0 l = none ∧ InB g.bx l ∧ g.k.z l = false ∧ ∃ vs, H l = some (.lst vs) ∧ IsL g.k H0 es vs := by
  obtain ⟨x, y, a, ls, hb⟩ := nm_box h
  have B := G.box
  unfold BoxOk at B
  rw [show g.k.bx = _ from hb] at B
  obtain ⟨h1, h2, hz, h0, hn, hnd, ha, hl⟩ := B
  rw [hb] at h
  cases n with
  | zero => cases hd
  | succ n =>
    cases n with
    | zero =>
      cases h; cases hd
      refine ⟨h0, by rw [hb]; exact .inr (.inr (.inl rfl)), hz, _, ha, ?_⟩
      rw [← hl.len]
      exact rwF_is (L1 := []) hb
    | succ k =>
      have h : ls[k]? = some l := h
      obtain ⟨l', vs, q1, q2, q0, q3, q4, q5, _⟩ := hl.mod hnd hd
      rw [h] at q1; cases q1
      exact ⟨q3, by rw [hb]; exact .inr (.inr (.inr q2)), q0, vs, q4, q5⟩
theorem Good.rbFrz (G : Good g ρ b σ H H0) {n : Nat} {l : Addr} {es : List D} (h : nmR g.bx n = some l) (hd : rbD b n = some es) : ∃ HR, Same H0 HR ∧ Same HR H ∧ Is g.k HR (.lst false es) (.ref l) := by
  obtain ⟨h0, ib, hz, vs, hl, il⟩ := G.rbRead h hd
  have e0 : Same H0 (L2.upd H0 l (.lst vs)) := fun a u e => by rw [upd_ne (ne_of_none e h0)]; exact e
  refine ⟨_, e0, fun a u e => ?_, .lst upd_same hz (il.mono e0)⟩
  by_cases ha : a = l
  · subst ha; rw [upd_same] at e; rw [hl]; exact e
  · rw [upd_ne ha] at e; exact G.sub a u e
theorem Tr.unfrz {HR HR' : Hp} (t : Tr .no HR H HR' H') (e : Same H0 HR) : Tr .no H0 H H0 H' :=
  ⟨Same.refl _, (e.trans t.ext).trans t.sub, t.keep, t.there, fun _ q _ _ => q⟩
end
/-! ### reading -/
def xLenR (i : Nat) : Fx D := fun ρ b => match rbV b ρ[i]? with
  | some es => .ok (.int es.length) b
  | none => .bad
def rbI : Option Sl → Option Nat
  | some (.val (.rb n)) => some n
  | _ => none
theorem rbI_of {s : Option Sl} {n : Nat} (h : rbI s = some n) : s = some (.val (.rb n)) := by
  unfold rbI at h
  split at h
  · cases h; rfl
  · cases h
def xIxR (i : Nat) (f : Fx D) : Fx D := fun ρ b => match rbI ρ[i]? with
  | some n => (f ρ b).bind fun y b1 => (match rbD b1 n, y with
    | some es, .int j => lift (atI es j) b1
    | _, _ => .bad)
  | none => .bad
def bareB : D → Bool
  | .bl _ => true
  | _ => false
def xNilR (i : Nat) : Fx D := fun ρ b => match rbV b ρ[i]? with
  | some es => (match eqD false (.lst false es) (.lst false []) with
    | some d => if bareB d = true then .ok d b else .bad
    | none => .bad)
  | none => .bad
def xCallR (n : Nat) (F : FD) (fl : Fx (List D)) : Fx D := fun ρ b => (fl ρ b).bind fun ds b1 => match ds with
  | .rb 0 :: es => if es.length + 1 = n ∧ cleanL es = true then (match F (.box :: es) b1 with
    | .rt d b2 => if clean d = true then .ok d { b2 with ls := b1.ls } else .bad
    | _ => .bad) else .bad
  | _ => .bad
def isRow (ρ : En) (i : Nat) : Option Nat := match ρ[i]? with
  | some (.val (.rb (k + 2))) => some k
  | _ => none
theorem isRow_of {ρ : En} {i k : Nat} (h : isRow ρ i = some k) : ρ[i]? = some (.val (.rb (k + 2))) := by
  unfold isRow at h
  split at h
  · rename_i q; cases h; exact q
  · cases h
def kSetR (i : Nat) (f h : Fx D) : Fs := fun ρ b => match isRow ρ i with
  | some k => (f ρ b).out fun d b1 => (h ρ b1).out fun j b2 => (match j, b2.ls[k]? with
    | .int z, some ds => (match ixN ds.length z with
      | some n => .nx ρ { b2 with ls := b2.ls.set k (ds.set n d) }
      | none => .bad)
    | _, _ => .bad)
  | none => .bad
def kPopR (i : Nat) (h : Fx D) : Fs := fun ρ b => match isRow ρ i with
  | some k => (h ρ b).out fun j b2 => (match j, b2.ls[k]? with
    | .int z, some ds => if 0 ≤ z ∧ z < ds.length ∧ ds.length ≤ 100000 then .nx ρ { b2 with ls := b2.ls.set k (ds.eraseIdx z.toNat) } else .bad
    | _, _ => .bad)
  | none => .bad
def kAppR (i : Nat) (f : Fx D) : Fs := fun ρ b => match isRow ρ i with
  | some k => (f ρ b).out fun d b2 => (match b2.ls[k]? with
    | some ds => if ds.length < 100000 then .nx ρ { b2 with ls := b2.ls.set k (ds ++ [d]) } else .bad
    | none => .bad)
  | none => .bad
section
variable {X : Cx} {g : Cfg} {W : WX} {e c : Expr} {es : List Expr} {f h : Fx D} {fl : Fx (List D)} {x : Str} {pos p p1 p2 p3 apos : Pos}
theorem rbV_of {b : Bx} {s : Option Sl} {es : List D} (h : rbV b s = some es) : ∃ n, s = some (.val (.rb n)) ∧ rbD b n = some es := by
  unfold rbV at h
  split at h
  · exact ⟨_, rfl, h⟩
  · cases h
theorem px_lenR (i : Nat) (hg : Gl X "len") (hm : X.mg "len" = none) {p3 : Pos} (hN : X.N[i]? = some x := by rfl) (hv : Vis X.env.scope x := by first | exact Or.inl rfl | exact Or.inr (Or.inl rfl) | exact Or.inr (Or.inr rfl)) (hd : (x == ("__debug__" : Str)) = false := by decide)
    (hcd : (x == ("__classdict__" : Str)) = false := by decide) (he : starEach [.Name x p] X.env = (false, eval (.Name x p) X.env) :: starEach [] X.env := by rfl) (hpl : (backTo pos (starEach [] X.env)).any (·.1) = false := by rfl) :
    PX X g W (.Call (.Name "len" p3) [.Name x p] [] pos) (xLenR i) := by
  refine pe_imp (pe_callB call_len hg hm PySem.boot_len (pa_cons (pe_var hN hv hd hcd) pa_nil he) (by decide) (by decide) he hpl) ?_
  rintro σ H Q ⟨ρ, b, H0, G, F⟩
  unfold xLenR at F
  cases hq : rbV b ρ[i]? with
  | none => rw [hq] at F; exact F.elim
  | some es =>
    rw [hq] at F
    obtain ⟨n, hs, hn⟩ := rbV_of hq
    obtain ⟨l, e1, e2⟩ := G.rb hs
    obtain ⟨h0, ib, hz, vs, hl, il⟩ := G.rbRead e2 hn
    exact ⟨_, e1, _, es.length, rfl, .inl ⟨vs, .inl (.inl hl), il.length⟩, F H0 H (Tr.refl G.sub) G.box _ (.int _)⟩
theorem px_ixR (i : Nat) (hK : X.K = g.k.K) (hc : PX X g W c f) (hN : X.N[i]? = some x := by rfl) (hv : Vis X.env.scope x := by first | exact Or.inl rfl | exact Or.inr (Or.inl rfl) | exact Or.inr (Or.inr rfl)) (hd : (x == ("__debug__" : Str)) = false := by decide)
    (hcd : (x == ("__classdict__" : Str)) = false := by decide) (hs : PlainIx c := by exact fun _ _ => rfl) : PX X g W (.Subscript (.Name x p) c pos) (xIxR i f) := by
  refine pe_imp (pe_ix ix_seq (pe_var hN hv hd hcd) hc hs) ?_
  rintro σ H Q ⟨ρ, b, H0, G, F⟩
  unfold xIxR at F
  cases hq : rbI ρ[i]? with
  | none => rw [hq] at F; exact F.elim
  | some n =>
    simp only [hq] at F
    obtain ⟨l, e1, e2⟩ := G.rb (rbI_of hq)
    refine ⟨_, e1, ρ, b, H0, G, F.bind.mono fun y b1 H01 H1 t1 B1 F1 vy iy => ?_⟩
    have G1 := G.step t1 B1
    cases hn : rbD b1 n with
    | none => rw [hn] at F1; exact F1.elim
    | some es =>
      rw [hn] at F1
      cases iy with
      | int j =>
        dsimp only at F1
        obtain ⟨h0, ib, hz, vs, hl, il⟩ := G1.rbRead e2 hn
        cases ha : atI es j with
        | none => rw [ha] at F1; exact F1.elim
        | some z =>
          rw [ha] at F1
          obtain ⟨u, hu, iu⟩ := atI_is il ha
          exact .inl ⟨l, vs, j, u, rfl, rfl, .inl (.inl hl), hu, F1 H01 H1 (Tr.refl G1.sub) B1 _ iu⟩
      | _ => exact F1.elim
theorem tx_nilR (i : Nat) {σ : L2.St} {H : Hp} {Q : VK} (hK : X.K = g.k.K) (zz : TX g W (xNilR i) σ H Q) : tOp (rEqD X.K) (tVar i) (TX g W (xLst (xSz xNil))) σ H Q := by
  obtain ⟨ρ, b, H0, G, F⟩ := zz
  unfold xNilR at F
  cases hq : rbV b ρ[i]? with
  | none => rw [hq] at F; exact F.elim
  | some es =>
    rw [hq] at F
    obtain ⟨n, hs, hn⟩ := rbV_of hq
    obtain ⟨l, e1, e2⟩ := G.rb hs
    refine ⟨_, e1, ρ, b, H0, G, ?_⟩
    intro H01 H1 t1 B1 vy iy
    have G1 := G.step t1 B1
    obtain ⟨HR, s1, s2, iv⟩ := G1.rbFrz e2 hn
    cases he : eqD false (.lst false es) (.lst false []) with
    | none => simp only [he] at F; exact F.elim
    | some d =>
      simp only [he] at F
      split at F
      · rename_i hb
        refine hK ▸ opd_eq HR H1 _ _ _ _ _ s2 G1.zok iv (iy.mono s1) he Q fun v H0' H' t iz => ?_
        cases iz with
        | bl c => exact F H01 H' (t1.trans (t.unfrz s1).weak) (B1.keep (t.unfrz s1)) _ (.bl c)
        | _ => cases hb
      · exact F.elim
theorem px_nilR (i : Nat) (hu : X.A.units + 64 < cLine) (hK : X.K = g.k.K) (hN : X.N[i]? = some x := by rfl) (hv : Vis X.env.scope x := by first | exact Or.inl rfl | exact Or.inr (Or.inl rfl) | exact Or.inr (Or.inr rfl)) (hd : (x == ("__debug__" : Str)) = false := by decide)
    (hcd : (x == ("__classdict__" : Str)) = false := by decide) : PX X g W (.Compare (.Name x p) [.Eq] [.List [] p3] pos) (xNilR i) :=
  pe_imp (pe_cmpR (op_eqD hu) (pe_var hN hv hd hcd) (px_fz (po_lst pl_nil)) (nomark _)) fun _ _ _ => tx_nilR i hK
theorem px_callR {ff : Addr} {fd : FuncData} {ps : List Str} {n kk : Nat} {F : FD} (G : FnOk X.prog X.w X.K X.mg X.base (L2.CX X.prog X.w) kk ff fd ps (spD X.K n F)) (hr : Room kk X.A) (hK : X.K = g.k.K) (tk : Takes X W) (hg : Gl X x) (hm : X.mg x = some (.ref ff)) (hk : PySem.W.keepIn X.K (.ref ff) = true) (hb : Binds X.K fd ps [])
    (ha : PL X g W (e :: es) fl) (hdb : (x == ("__debug__" : Str)) = false := by decide) (he : starEach (e :: es) X.env = (false, eval e X.env) :: starEach es X.env := by rfl) (hpl : (backTo pos (starEach es X.env)).any (·.1) = false := by rfl) :
    PX X g W (.Call (.Name x p) (e :: es) [] pos) (xCallR n F fl) := by
  refine pe_imp (pe_callS G hr hg hm hk hb (fun σ => passAt tk σ) ha hdb he hpl) ?_
  rintro σ H Q ⟨ρ, b, H0, G, F1⟩
  refine ta_call G F1 fun ds b1 H01 H1 vs t1 zo B1 il F2 => ?_
  split at F2
  · rename_i es
    split at F2
    · rename_i hc
      obtain ⟨hl, hcl⟩ := hc
      cases il with
      | cons i0 il =>
        rename_i v0 vs
        cases i0 with
        | rb hb0 =>
          obtain ⟨x1, y1, a1, ls1, hbx⟩ := nm_box hb0
          obtain ⟨⟨K, bx, z⟩, Hs, H0s, n0⟩ := g
          have hbx : bx = .drawR x1 y1 a1 ls1 := hbx
          have hK : X.K = K := hK
          subst hbx hK
          cases hb0
          refine ⟨by rw [List.length_cons, ← il.length]; exact hl, .draw _ y1, z, .box :: es, b1, H01, t1.sub, zo, B1.1, .cons (.box rfl) (il.rebox hcl), ?_⟩
          cases hF : F (.box :: es) b1 with
          | rt d b2 =>
            rw [hF] at F2
            intro v H0' H' t B iv
            dsimp only at F2
            split at F2
            · rename_i hd
              exact F2 H0' H' (tr_drawR t) (lift_draw B1 t B) v (iv.rebox hd)
            · exact F2.elim
          | _ => rw [hF] at F2; exact F2.elim
    · exact F2.elim
  · exact F2.elim
/-! ### changing a row -/
theorem Good.row {ρ : En} {b : Bx} {σ : L2.St} {H H0 : Hp} (G : Good g ρ b σ H H0) {i k : Nat} {ds : List D} (hi : ρ[i]? = some (.val (.rb (k + 2)))) (hd : b.ls[k]? = some ds) : ∃ l vs, σ[i]? = some (some (.ref l)) ∧ nmR g.bx (k + 2) = some l ∧ H l = some (.lst vs) ∧ IsL g.k H0 ds vs ∧ ∀ es us, IsL g.k H0 es us → Good g ρ { b with ls := b.ls.set k es } σ (L2.upd H l (.lst us)) H0 := by
  obtain ⟨l, e1, e2⟩ := G.rb hi
  obtain ⟨x, y, a, ls, hb⟩ := nm_box e2
  have B := G.box
  unfold BoxOk at B
  rw [show g.k.bx = _ from hb] at B
  obtain ⟨⟨q1, q2, q3, q4, q5⟩, ⟨d1, d2, d3, d4⟩, hz, h0, hn, hnd, ha, hl⟩ := B
  have hl2 : ls[k]? = some l := by rw [hb] at e2; exact e2
  obtain ⟨l', vs, r1, r2, r0, r3, r4, r5, r6⟩ := hl.mod hnd hd
  rw [hl2] at r1; cases r1
  refine ⟨l, vs, e1, e2, r4, r5, fun es us iu => G.inBox (by rw [hb]; exact .inr (.inr (.inr r2))) ?_⟩
  unfold BoxOk
  rw [show g.k.bx = _ from hb]
  have n1 : x ≠ l := fun q => d3 (q ▸ r2)
  have n2 : y ≠ l := fun q => d4 (q ▸ r2)
  have n3 : a ≠ l := fun q => hn (q ▸ r2)
  exact ⟨⟨q1, q2, q3, by rw [upd_ne n1]; exact q4, by rw [upd_ne n2]; exact q5⟩, ⟨d1, d2, d3, d4⟩, hz, h0, hn, hnd, by rw [upd_ne n3]; exact ha, r6 es us iu⟩
theorem p1_setR (i : Nat) (he : PX X g W e f) (hj : PX X g W c h) (hN : X.N[i]? = some x := by rfl) (hv : Vis X.env.scope x := by first | exact Or.inl rfl | exact Or.inr (Or.inl rfl) | exact Or.inr (Or.inr rfl)) (hd : (x == ("__debug__" : Str)) = false := by decide)
    (hcd : (x == ("__classdict__" : Str)) = false := by decide) (hs : swapsWithSole [.Subscript (.Name x p) c p2] e pos.line X.env = pure false := by rfl) (hw : swappedStores [.Subscript (.Name x p) c p2] e X.env = pure none := by rfl)
    (h1 : (assignEach [.Subscript (.Name x p) c p2] X.env).map (·.2) = [assign (.Subscript (.Name x p) c p2) X.env] := by rfl)
    (hA : ∀ v, assign (.Subscript (.Name x p) c p2) X.env v = (do
      let ou ← holding [v] (eval (.Name x p) X.env)
      let iw ← holding [v, ou] (eval c X.env)
      standAt p2
      holding [v, ou, iw] (setItem ou iw v)
      release [v, ou, iw] []) := by intro _; rfl) : P1 X g W (.Assign [.Subscript (.Name x p) c p2] e pos) (kSetR i f h) := by
  refine ps_imp (ps_asg he (pg_sub (pe_var hN hv hd hcd) hj set_list hA) hs hw h1) ?_
  rintro Dd σ H ⟨ρ, b, H0, G, F⟩
  unfold kSetR at F
  cases hi : isRow ρ i with
  | none => rw [hi] at F; exact F.elim
  | some k =>
    simp only [hi] at F
    have hs := isRow_of hi
    refine ⟨ρ, b, H0, G, (fin_out G F).mono fun d b1 H01 H1 t1 B1 F1 v iv => ?_⟩
    have G1 := G.step t1 B1
    obtain ⟨l, e1, e2⟩ := G1.rb hs
    refine ⟨.ref l, e1, ρ, b1, H01, G1, (fin_out G1 F1).mono fun j b2 H02 H2 t2 B2 F2 u iu => ?_⟩
    have G2 := G1.step t2 B2
    cases hd : b2.ls[k]? with
    | none => rw [hd] at F2; cases iu <;> exact F2.elim
    | some ds =>
      rw [hd] at F2
      cases iu with
      | int z =>
        dsimp only at F2
        obtain ⟨l', vs, q1, q2, q3, q4, q5⟩ := G2.row hs hd
        rw [e1] at q1; cases q1
        cases hx : ixN ds.length z with
        | none => rw [hx] at F2; exact F2.elim
        | some n =>
          rw [hx] at F2
          exact ⟨l, vs, z, n, rfl, rfl, q3, by rw [← q4.length]; exact hx, F2 _ _ _ (q5 _ _ (q4.set (iv.mono t2.ext))) (Same.refl _)⟩
      | _ => exact F2.elim
theorem p1_popR (i : Nat) (hj : PX X g W c h) (hN : X.N[i]? = some x := by rfl) (hv : Vis X.env.scope x := by first | exact Or.inl rfl | exact Or.inr (Or.inl rfl) | exact Or.inr (Or.inr rfl)) (hd : (x == ("__debug__" : Str)) = false := by decide)
    (hcd : (x == ("__classdict__" : Str)) = false := by decide)
    (hbase : attributeBase (.Name x p) "pop" X.env (eval (.Name x p) X.env) = eval (.Name x p) X.env := by rfl)
    (hfew : ((backTo p2 (starEach [c] X.env)).all (fun x => !x.1) && (backToKw p2 (keywordEach [] X.env)).all (fun x => x.1.isSome) && decide (([c] : List Expr).length + ([] : List Keyword).length + (if ([] : List Keyword).isEmpty then 0 else 1) < 30)) = true := by rfl)
    (hline : (apos.endLine == p2.line) = true := by rfl) (hs : starEach [c] X.env = (false, eval c X.env) :: starEach [] X.env := by rfl) (hplain : (backTo p2 (starEach [] X.env)).any (·.1) = false := by rfl)
    (hsw : swapsWith (.Call (.Attribute (.Name x p) "pop" apos) [c] [] p2) none pos.line X.env = pure false := by rfl) :
    P1 X g W (.Expr (.Call (.Attribute (.Name x p) "pop" apos) [c] [] p2) pos) (kPopR i h) := by
  refine ps_imp (ps_expr (pe_bm PySem.F.plainAttrs_list PySem.F.slot_list_pop PySem.F.type_list_pop mt_popAt (pe_var hN hv hd hcd) (pa_cons hj pa_nil hs) hbase hfew hline hs hplain) hsw) ?_
  rintro Dd σ H ⟨ρ, b, H0, G, F⟩
  unfold kPopR at F
  cases hi : isRow ρ i with
  | none => rw [hi] at F; exact F.elim
  | some k =>
    simp only [hi] at F
    have hs := isRow_of hi
    obtain ⟨l, e1, e2⟩ := G.rb hs
    have isl : ∃ vs0, H l = some (.lst vs0) := by
      obtain ⟨x1, y1, a1, ls1, hbx⟩ := nm_box e2
      have B := G.box
      unfold BoxOk at B
      rw [show g.k.bx = _ from hbx] at B
      obtain ⟨_, _, _, _, _, _, _, hl⟩ := B
      have hl2 : ls1[k]? = some l := by rw [hbx] at e2; exact e2
      exact hl.isLst (List.mem_of_getElem? hl2)
    obtain ⟨vs0, hv0⟩ := isl
    refine ⟨.ref l, e1, .inl ⟨rfl, vs0, .inl (.inl hv0)⟩, ρ, b, H0, G, (fin_out G F).mono fun j b2 H02 H2 t2 B2 F2 u iu => ?_⟩
    have G2 := G.step t2 B2
    cases hd : b2.ls[k]? with
    | none => rw [hd] at F2; cases iu <;> exact F2.elim
    | some ds =>
      rw [hd] at F2
      cases iu with
      | int z =>
        dsimp only at F2
        split at F2
        · rename_i hz
          obtain ⟨z0, z1, z2⟩ := hz
          obtain ⟨l', vs, q1, q2, q3, q4, q5⟩ := G2.row hs hd
          rw [e1] at q1; cases q1
          have hlen := q4.length
          have hlt : z.toNat < vs.length := by omega
          refine ⟨l, vs, z, z.toNat, vs[z.toNat], rfl, rfl, q3, by omega, by omega, ?_, List.getElem?_eq_getElem hlt, F2 _ _ _ (q5 _ _ (q4.eraseIdx _)) (Same.refl _)⟩
          unfold seqIndex?
          have n0 : ¬ z < 0 := by omega
          have n1 : (decide (0 ≤ z) && decide (z < (vs.length : Int))) = true := by simp; omega
          simp only [if_neg n0]
          rw [if_pos n1]
        · exact F2.elim
      | _ => exact F2.elim
theorem p1_appR (i : Nat) (ha : PX X g W e f) (hN : X.N[i]? = some x := by rfl) (hv : Vis X.env.scope x := by first | exact Or.inl rfl | exact Or.inr (Or.inl rfl) | exact Or.inr (Or.inr rfl)) (hd : (x == ("__debug__" : Str)) = false := by decide)
    (hcd : (x == ("__classdict__" : Str)) = false := by decide)
    (hbase : attributeBase (.Name x p) "append" X.env (eval (.Name x p) X.env) = eval (.Name x p) X.env := by rfl)
    (hfew : ((backTo p2 (starEach [e] X.env)).all (fun x => !x.1) && (backToKw p2 (keywordEach [] X.env)).all (fun x => x.1.isSome) && decide (([e] : List Expr).length + ([] : List Keyword).length + (if ([] : List Keyword).isEmpty then 0 else 1) < 30)) = true := by rfl)
    (hline : (apos.endLine == p2.line) = true := by rfl) (hs : starEach [e] X.env = (false, eval e X.env) :: starEach [] X.env := by rfl) (hplain : (backTo p2 (starEach [] X.env)).any (·.1) = false := by rfl)
    (hsw : swapsWith (.Call (.Attribute (.Name x p) "append" apos) [e] [] p2) none pos.line X.env = pure false := by rfl) :
    P1 X g W (.Expr (.Call (.Attribute (.Name x p) "append" apos) [e] [] p2) pos) (kAppR i f) := by
  refine ps_imp (ps_expr (pe_bm PySem.F.plainAttrs_list PySem.F.slot_list_append PySem.F.type_list_append mt_append (pe_var hN hv hd hcd) (pa_cons ha pa_nil hs) hbase hfew hline hs hplain) hsw) ?_
  rintro Dd σ H ⟨ρ, b, H0, G, F⟩
  unfold kAppR at F
  cases hi : isRow ρ i with
  | none => rw [hi] at F; exact F.elim
  | some k =>
    simp only [hi] at F
    have hs := isRow_of hi
    obtain ⟨l, e1, e2⟩ := G.rb hs
    have isl : ∃ vs0, H l = some (.lst vs0) := by
      obtain ⟨x1, y1, a1, ls1, hbx⟩ := nm_box e2
      have B := G.box
      unfold BoxOk at B
      rw [show g.k.bx = _ from hbx] at B
      obtain ⟨_, _, _, _, _, _, _, hl⟩ := B
      have hl2 : ls1[k]? = some l := by rw [hbx] at e2; exact e2
      exact hl.isLst (List.mem_of_getElem? hl2)
    obtain ⟨vs0, hv0⟩ := isl
    refine ⟨.ref l, e1, .inl ⟨rfl, vs0, .inl (.inl hv0)⟩, ρ, b, H0, G, (fin_out G F).mono fun d b2 H02 H2 t2 B2 F2 u iu => ?_⟩
    have G2 := G.step t2 B2
    cases hd : b2.ls[k]? with
    | none => rw [hd] at F2; exact F2.elim
    | some ds =>
      rw [hd] at F2
      dsimp only at F2
      split at F2
      · rename_i hz
        obtain ⟨l', vs, q1, q2, q3, q4, q5⟩ := G2.row hs hd
        rw [e1] at q1; cases q1
        exact ⟨l, vs, u, rfl, rfl, q3, by rw [← q4.length]; exact Nat.lt_of_lt_of_le hz (by decide), F2 _ _ _ (q5 _ _ (q4.app (.cons iu .nil))) (Same.refl _)⟩
      · exact F2.elim
end
end Fw
set_option Elab.async false
set_option linter.all false
set_option maxRecDepth 100000
set_option maxHeartbeats 1000000
/-! Fw39: a block with the rows; its ends are told outside of them. -/
namespace Fw
open PySem PySem.Spec PyProof.Rows L2

structure LinkR (g : Cfg) (x y a : Addr) (ls : List Addr) (Hs' H0s' : Hp) : Prop where
  bx : g.k.bx = .draw x y
  tr : Tr g.k.bx g.H0s g.Hs H0s' Hs'
  fr : ∀ c, c = a ∨ c ∈ ls → g.Hs c = none
  bin : ∀ c, InB g.bx c → g.Hs c ≠ none
  zin : ZOk g.k g.Hs
abbrev mkR' (g : Cfg) (x y a : Addr) (ls : List Addr) (Hs' H0s' : Hp) : Cfg := mkG g.k.K (.drawR x y a ls) g.k.z g.n Hs' H0s'
def TR (g : Cfg) (W : WX) (kk : Fs) : TS := fun Dd σ H => ∃ x y a ls Hs' H0s' ρ b H0, LinkR g x y a ls Hs' H0s' ∧ Good (mkR' g x y a ls Hs' H0s') ρ b σ H H0 ∧ FinS g W H0 (kk ρ b) Dd
def PBR (X : Cx) (g : Cfg) (W : WX) (ss : List Stmt) (kk : Fs) : Prop := PSs X ss (TR g W kk)
/-- back: the rows stand, the list of them is held -/
def unS (ls : List (List D)) : Sl → Sl
  | .val (.rb 0) => .val .box
  | .val (.rb 1) => .no
  | .val (.rb (k + 2)) => (match ls[k]? with
    | some ds => .val (.lst false ds)
    | none => .no)
  | .val d => if clean d = true then .val d else .no
  | _ => .no
def unE (i : Nat) (ls : List (List D)) (ρ : En) : En := (ρ.map (unS ls)).set i (.own (ls.map (.lst false)))
def isRb1 : Option Sl → Bool
  | some (.val (.rb 1)) => true
  | _ => false
theorem isRb1_of {s : Option Sl} (h : isRb1 s = true) : s = some (.val (.rb 1)) := by
  unfold isRb1 at h
  split at h
  · rfl
  · cases h
def kUnR (i : Nat) (kk : Fs) : Fs := fun ρ b => if isRb1 ρ[i]? = true ∧ b.ls.all cleanL = true then kk (unE i b.ls ρ) { b with ls := [] } else .bad
def kSeqN (k kk : Fs) : Fs := fun ρ b => match k ρ b with
  | .nx ρ' b' => kk ρ' b'
  | _ => .bad
def kIfR (i : Nat) (p : Fx Bool) (ka kb : Fs) : Fs := fun ρ b => match p ρ b with
  | .ok c b1 => if c = true then kUnR i ka ρ b1 else kb ρ b1
  | _ => .bad
theorem isL_rows {K : PySem.W.Frag} {x y a : Addr} {ls0 : List Addr} {z : Addr → Bool} {H0 H H1 : Hp} (e : Same H0 H1) : ∀ {ls : List Addr} {dss : List (List D)}, DL ⟨K, .drawR x y a ls0, z⟩ H0 H ls dss → dss.all cleanL = true → (∀ l o, l ∈ ls → H l = some o → H1 l = some o) → IsL ⟨K, .draw x y, z⟩ H1 (dss.map (.lst false)) (ls.map V.ref)
  | [], [], _, _, _ => .nil
  | l :: ls, ds :: dss, ⟨⟨hz, h0, vs, h1, h2⟩, r⟩, c, q => by
    have c : (cleanL ds && dss.all cleanL) = true := c
    have c := Bool.and_eq_true_iff.mp c
    exact .cons (.lst (q l _ List.mem_cons_self h1) hz ((h2.mono e).rebox c.1)) (isL_rows e r c.2 fun l o hl => q l o (List.mem_cons_of_mem _ hl))
  | [], _ :: _, h, _, _ => h.elim
  | _ :: _, [], h, _, _ => h.elim
section
variable {X : Cx} {g : Cfg} {W : WX} {st : Stmt} {ss body : List Stmt} {k k1 k2 k3 kk : Fs} {c : Expr} {p : Fx Bool} {pos : Pos} {ρ : En} {b : Bx} {σ : L2.St} {H H0 Hs' H0s' : Hp} {x y a : Addr} {ls : List Addr}
theorem LinkR.go (L : LinkR g x y a ls Hs' H0s') (G : Good (mkR' g x y a ls Hs' H0s') ρ b σ H H0) : Tr g.k.bx g.H0s g.Hs H0 H := by
  have t := G.tr
  have nb : ∀ c, g.Hs c ≠ none → ¬ InB g.k.bx c → ¬ InB (.drawR x y a ls) c := fun c q n i => by
    rcases i with i | i | i | i
    · exact n (by rw [L.bx]; exact .inl i)
    · exact n (by rw [L.bx]; exact .inr i)
    · exact q (L.fr c (.inl i))
    · exact q (L.fr c (.inr i))
  refine ⟨L.tr.ext.trans t.ext, t.sub, fun c o q n => t.keep c o (L.tr.keep c o q n) (nb c (by rw [q]; simp) n), fun c q => t.there c (L.tr.there c q), fun c q n ni => t.new c (L.tr.new c q n ni) (L.tr.there c n) (nb c n ni)⟩
/-- the rows stand from here on -/
theorem un_rows (i : Nat) (L : LinkR g x y a ls Hs' H0s') (G : Good (mkR' g x y a ls Hs' H0s') ρ b σ H H0) (hi : ρ[i]? = some (.val (.rb 1))) (hc : b.ls.all cleanL = true) : ∃ H1, Same H0 H1 ∧ Good g (unE i b.ls ρ) { b with ls := [] } σ H H1 := by
  obtain ⟨⟨K, bx, z⟩, Hs, H0s, n0⟩ := g
  have hbx : bx = .draw x y := L.bx
  subst hbx
  have tr := L.go G
  obtain ⟨⟨q1, q2, q3, q4, q5⟩, ⟨d1, d2, d3, d4⟩, hz, h0, hn, hnd, ha, hl⟩ := G.box
  let H1 : Hp := frzL H0 H ls
  have inM : ∀ {c}, c ∈ ls → H1 c = H c := fun hc => if_pos hc
  have outM : ∀ {c}, c ∉ ls → H1 c = H0 c := fun hc => if_neg hc
  have h0M : ∀ {c}, c ∈ ls → H0 c = none := fun hc => (hl.there hc).1
  have s01 : Same H0 H1 := fun c u q => by
    have hc : c ∉ ls := fun hc => by rw [h0M hc] at q; cases q
    rw [outM hc]; exact q
  have s1 : Same H1 H := fun c u q => by
    by_cases hc : c ∈ ls
    · rw [inM hc] at q; exact q
    · rw [outM hc] at q; exact G.sub c u q
  have tr1 : Tr (.draw x y) H0s Hs H1 H := ⟨tr.ext.trans s01, s1, tr.keep, tr.there, fun c q n ni => by
    have hc : c ∉ ls := fun hc => n (L.fr c (.inr hc))
    rw [outM hc]; exact tr.new c q n ni⟩
  have rows := isL_rows s01 hl hc fun l o hm q => by rw [inM hm]; exact q
  have bo : BoxOk ⟨K, .draw x y, z⟩ H1 H { b with ls := [] } := ⟨q1, by rw [outM d3]; exact q2, by rw [outM d4]; exact q3, q4, q5⟩
  have no : ∀ {j l}, ¬ OwnAt (ρ.map (unS b.ls)) σ j l := by
    rintro j l ⟨⟨t, e, eo⟩, _⟩
    rw [List.getElem?_map] at e
    cases hr : ρ[j]? with
    | none => rw [hr] at e; cases e
    | some s =>
      rw [hr] at e
      have e : unS b.ls s = t := Option.some.inj e
      subst e
      unfold unS at eo
      split at eo
      · cases eo
      · cases eo
      · split at eo <;> cases eo
      · split at eo <;> cases eo
      · cases eo
  have slot : ∀ j, SlOk ⟨K, .draw x y, z⟩ H1 H (ρ.map (unS b.ls))[j]? σ[j]? := fun j => by
    rw [List.getElem?_map]
    have q := G.slot j
    cases hr : ρ[j]? with
    | none => trivial
    | some s =>
      rw [hr] at q
      cases s with
      | no => trivial
      | own _ => trivial
      | odc _ => trivial
      | val d =>
        obtain ⟨v, e1, iv⟩ := q
        show SlOk _ _ _ (some (unS b.ls (.val d))) _
        have gen : clean d = true → SlOk ⟨K, .draw x y, z⟩ H1 H (some (.val d)) σ[j]? := fun hcl => ⟨v, e1, (iv.mono s01).rebox hcl⟩
        cases iv with
        | rb hb =>
          rename_i n l
          cases n with
          | zero => cases hb; exact ⟨_, e1, .box rfl⟩
          | succ n =>
            cases n with
            | zero => trivial
            | succ k =>
              have hb : ls[k]? = some l := hb
              show SlOk _ _ _ (some (match b.ls[k]? with
                | some ds => .val (.lst false ds)
                | none => .no)) _
              cases hd : b.ls[k]? with
              | none => trivial
              | some ds =>
                obtain ⟨u, hu, iu⟩ := rows.get (i := k) (d := .lst false ds) (by rw [List.getElem?_map, hd]; rfl)
                rw [List.getElem?_map, hb] at hu
                cases hu
                exact ⟨_, e1, iu⟩
        | _ =>
          unfold unS
          dsimp only
          split
          · rename_i hcl; exact gen hcl
          · trivial
  have G0 : Good (mkG K (.draw x y) z n0 Hs H0s) (ρ.map (unS b.ls)) { b with ls := [] } σ H H1 :=
    ⟨tr1, by rw [List.length_map]; exact G.len, slot, fun i j l o => (no o).elim, fun i l o => (no o).elim, bo, L.bin, L.zin, G.ln⟩
  obtain ⟨l, e1, e2⟩ := G.rb hi
  cases e2
  have G1 := G0.setO (i := i) (ds := b.ls.map (.lst false)) (L.fr a (.inl rfl)) (by rw [outM hn]; exact h0) ha rows fun j o => (no o).elim
  have es : σ.set i (some (V.ref a)) = σ := by
    apply List.ext_getElem?
    intro j
    rw [set_get]
    split
    · rename_i hj; rw [← hj.1, e1]
    · rfl
  rw [es] at G1
  exact ⟨H1, s01, G1⟩
theorem pbr_cons (h1 : ∀ x y a ls Hs' H0s', P1 X (mkR' g x y a ls Hs' H0s') W st k) (h2 : PBR X g W ss kk) : PBR X g W (st :: ss) (kSeqN k kk) := by
  have h1' : PS X st fun Dd σ H => ∃ x y a ls Hs' H0s', TB (mkR' g x y a ls Hs' H0s') W k Dd σ H := ⟨fun pins s σ H D I ⟨x, y, a, ls, Hs', H0s', z⟩ => (h1 x y a ls Hs' H0s').run pins s σ H D I z⟩
  refine pss_imp (pss_cons h1' h2) ?_
  rintro Dd σ H ⟨x, y, a, ls, Hs', H0s', ρ, b, H0, L, G, F⟩
  refine ⟨x, y, a, ls, Hs', H0s', ρ, b, H0, G, ?_⟩
  unfold kSeqN at F
  cases hk : k ρ b with
  | nx ρ' b' => rw [hk] at F; exact fun σ' H' H0' G' q => ⟨x, y, a, ls, Hs', H0s', ρ', b', H0', L, G', F.base q⟩
  | _ => rw [hk] at F; exact F.elim
theorem pbr_un (i : Nat) (h : PB X g W ss kk) : PBR X g W ss (kUnR i kk) := by
  refine pss_imp h ?_
  rintro Dd σ H ⟨x, y, a, ls, Hs', H0s', ρ, b, H0, L, G, F⟩
  unfold kUnR at F
  split at F
  · rename_i hc
    obtain ⟨H1, s1, G1⟩ := un_rows i L G (isRb1_of hc.1) hc.2
    exact ⟨_, _, H1, G1, F.base s1⟩
  · exact F.elim
/-- if c: body, the rows standing in it and behind it; else on -/
theorem pbr_if (i : Nat) (ht : ∀ x y a ls Hs' H0s', PQ X (mkR' g x y a ls Hs' H0s') W c p) (h1 : PB X g W body k1) (h2 : PB X g W ss k2) (h3 : PBR X g W ss k3) : PBR X g W (.If c body [] pos :: ss) (kIfR i p (kSeq k1 k2) k3) := by
  have ht' : PT X c fun σ H Q => ∃ x y a ls Hs' H0s', TT' (mkR' g x y a ls Hs' H0s') W p σ H Q := ⟨fun pins s σ H Q I ⟨x, y, a, ls, Hs', H0s', z⟩ => (ht x y a ls Hs' H0s').run pins s σ H Q I z⟩
  have hr : PSs X ss fun Dd σ H => TB g W k2 Dd σ H ∨ TR g W k3 Dd σ H := ⟨fun pins s σ H D I z => z.elim (h2.run pins s σ H D I) (h3.run pins s σ H D I)⟩
  refine pss_imp (pss_cons (ps_if ht' h1 pss_nil) hr) ?_
  rintro Dd σ H ⟨x, y, a, ls, Hs', H0s', ρ, b, H0, L, G, F⟩
  refine ⟨x, y, a, ls, Hs', H0s', ρ, b, H0, G, ?_⟩
  unfold kIfR at F
  cases hp : p ρ b with
  | exc _ _ => rw [hp] at F; exact F.elim
  | bad => rw [hp] at F; exact F.elim
  | ok c b1 =>
    rw [hp] at F
    intro H01 H1 t1 B1
    have G1 := G.step t1 B1
    cases c with
    | false =>
      have F : FinS g W H0 (k3 ρ b1) Dd := F
      exact .inr ⟨x, y, a, ls, Hs', H0s', ρ, b1, H01, L, G1, F.base t1.ext⟩
    | true =>
      have F : FinS g W H0 (kUnR i (kSeq k1 k2) ρ b1) Dd := F
      unfold kUnR at F
      split at F
      · rename_i hc
        obtain ⟨H2, s2, G2⟩ := un_rows i L G1 (isRb1_of hc.1) hc.2
        have F1 := ((F.base t1.ext).base s2).seq
        exact ⟨_, _, H2, G2, F1.ends (fun σ H z => .inl z) rfl (fun σ H z => z) fun σ H z => z⟩
      · exact F.elim
end
/-! ### making them -/
def rowsC (pt : Pat) (fe : Fx (List D)) (ρ : En) : List D → Bx → Res (List (List D))
  | [], b => .ok [] b
  | d :: ds, b => match pt d ρ with
    | none => .bad
    | some ρ1 => (fe ρ1 b).bind fun es b1 => (rowsC pt fe ρ ds b1).bind fun r b2 => .ok (es :: r) b2
/-- in the rows' box -/
def inS : Sl → Sl
  | .val .box => .val (.rb 0)
  | .val d => if clean d = true then .val d else .no
  | _ => .no
def noXc {α : Type} : Res α → Res α
  | .exc _ _ => .bad
  | r => r
def kRows (i j : Nat) (vs : List Nat) (fl : Fx (List D)) (pt : Pat) (fe : Fx (List D)) (kk : Fs) : Fs := fun ρ b => (fl ρ b).out fun ds b1 => if isBox ρ j = true ∧ ds.length ≤ 100000 then (match rowsC pt fe (wipeE ρ vs) ds b1 with
  | .ok R b2 => if R.all cleanL = true then kk ((ρ.map inS).set i (.val (.rb 1))) { b2 with ls := R } else .bad
  | _ => .bad) else .bad
theorem DL.rebox {K : PySem.W.Frag} {bx bx' : Bk} {z : Addr → Bool} {H0 H : Hp} : ∀ {ls : List Addr} {dss : List (List D)}, DL ⟨K, bx, z⟩ H0 H ls dss → dss.all cleanL = true → DL ⟨K, bx', z⟩ H0 H ls dss
  | [], [], _, _ => trivial
  | _ :: _, ds :: dss, ⟨⟨hz, h0, vs, h1, h2⟩, r⟩, c => by
    have c : (cleanL ds && dss.all cleanL) = true := c
    have c := Bool.and_eq_true_iff.mp c
    exact ⟨⟨hz, h0, vs, h1, h2.rebox c.1⟩, DL.rebox r c.2⟩
  | [], _ :: _, h, _ => h.elim
  | _ :: _, [], h, _ => h.elim
theorem Good.inR {K : PySem.W.Frag} {x y a : Addr} {ls : List Addr} {z : Addr → Bool} {n : Nat} {Hs H0s : Hp} {ρ : En} {b b' : Bx} {σ : L2.St} {H H0 : Hp} (G : Good (mkG K (.draw x y) z n Hs H0s) ρ b σ H H0) (B' : BoxOk ⟨K, .drawR x y a ls, z⟩ H0 H b') (i : Nat) : Good (mkG K (.drawR x y a ls) z n H H0) ((ρ.map inS).set i (.val (.rb 1))) b' (σ.set i (some (.ref a))) H H0 := by
  have no : ∀ {i l}, ¬ OwnAt (ρ.map inS) σ i l := by
    rintro i l ⟨⟨t, e, eo⟩, _⟩
    rw [List.getElem?_map] at e
    cases hr : ρ[i]? with
    | none => rw [hr] at e; cases e
    | some s =>
      rw [hr] at e
      have e : inS s = t := Option.some.inj e
      subst e
      unfold inS at eo
      split at eo
      · cases eo
      · split at eo <;> cases eo
      · cases eo
  have G0 : Good (mkG K (.drawR x y a ls) z n H H0) (ρ.map inS) b' σ H H0 := by
    refine ⟨Tr.refl G.sub, by rw [List.length_map]; exact G.len, fun i => ?_, fun i j l o => (no o).elim, fun i l o => (no o).elim, B', fun a i => (B'.at i).2, G.zok, G.ln⟩
    rw [List.getElem?_map]
    have q := G.slot i
    cases hr : ρ[i]? with
    | none => trivial
    | some s =>
      rw [hr] at q
      cases s with
      | no => trivial
      | own _ => trivial
      | odc _ => trivial
      | val d =>
        obtain ⟨v, e1, iv⟩ := q
        show SlOk _ _ _ (some (inS (.val d))) _
        have gen : clean d = true → SlOk ⟨K, .drawR x y a ls, z⟩ H0 H (some (.val d)) σ[i]? := fun hcl => ⟨v, e1, iv.rebox hcl⟩
        cases iv with
        | box hb => cases hb; exact ⟨_, e1, .rb rfl⟩
        | _ =>
          unfold inS
          dsimp only
          split
          · rename_i hcl; exact gen hcl
          · trivial
  exact G0.setV (.rb rfl)
theorem DL.app1 {k : Kx} {H0 H : Hp} {l : Addr} {es : List D} {us : List V} (hz : k.z l = false) (h0 : H0 l = none) (hl : H l = some (.lst us)) (iu : IsL k H0 es us) : ∀ {ls : List Addr} {dss : List (List D)}, DL k H0 H ls dss → DL k H0 H (ls ++ [l]) (dss ++ [es])
  | [], [], _ => ⟨⟨hz, h0, us, hl, iu⟩, trivial⟩
  | _ :: _, _ :: _, ⟨a, r⟩ => ⟨a, DL.app1 hz h0 hl iu r⟩
  | [], _ :: _, h => h.elim
  | _ :: _, [], h => h.elim
theorem wipe2 (τ : L2.St) (us : List Nat) : L2.wipe (L2.wipe τ us) us = L2.wipe τ us := by
  have key : ∀ (us ws : List Nat), (∀ u ∈ ws, u ∈ us) → L2.wipe (L2.wipe τ ws) us = L2.wipe τ us := by
    intro us ws
    induction ws with
    | nil => intro _; rfl
    | cons u ws ih =>
      intro h
      show L2.wipe ((L2.wipe τ ws).set u none) us = _
      rw [wipe_in (h u List.mem_cons_self), ih fun v hv => h v (List.mem_cons_of_mem _ hv)]
  exact key us us fun _ h => h
theorem rows_yields {g : Cfg} {is vs : List Nat} {pt : Pat} {fe : Fx (List D)} {J : It} {ds : List D} {ρ : En} {b bF : Bx} {R : List (List D)} {σ : L2.St} {HA HA0 : Hp} {L : Addr} {Q : VK} (his : ∀ i ∈ is, i ∈ vs) (Y : Yields g.k J HA0 ds) (hz : ds.length ≤ 100000) (G : Good g ρ b σ HA HA0) (hL : HA L = none)
    (hC : rowsC pt fe (wipeE ρ vs) ds b = .ok R bF)
    (q : ∀ (ls : List Addr) (H0' H' : Hp), Tr g.bx HA0 HA H0' H' → BoxOk g.k H0' H' bF → ls.Nodup → L ∉ ls → (∀ l ∈ ls, HA l = none) → H0' L = none → H' L = some (.lst (ls.map V.ref)) → DL g.k H0' H' ls R → Q (.ref L) H') :
    ∃ Wd : Nat → Nat → Hp → Prop, (∃ m, Wd 0 m (upd HA L (.lst []))) ∧ ∀ i m H, Wd i m H → (J.stop i H ∧ Q (.ref L) H) ∨ (J.go i H ∧ ∃ Nx : Hp → Prop, (∀ H', Nx H' → ∃ m', m' < m ∧ Wd (i + 1) m' H') ∧ ∀ x H', J.yld i H x H' →
      (∃ ρ b H0 d ρ', Good g ρ b (L2.wipe σ vs) H' H0 ∧ Is g.k H0 d x ∧ pt d ρ = some ρ' ∧ ∀ σ2, Good g ρ' b σ2 H' H0 → Wp is (L2.wipe σ vs) σ2 → L2.wipe σ2 vs = L2.wipe σ vs ∧ tYes σ2 H' fun c H3 =>
        if c = true then TXo g W0 fe σ2 H3 fun y H4 => ∃ acc, H4 L = some (.lst acc) ∧ acc.length < sizeLine ∧ Nx (upd H4 L (.lst (acc ++ [y]))) else Nx H3)) := by
  let P : Nat → Hp → Prop := fun i H => ∃ (H0 : Hp) (ls : List Addr) (b' : Bx) (A B : List (List D)), Good g (wipeE ρ vs) b' (L2.wipe σ vs) H H0 ∧ Tr g.bx HA0 HA H0 H ∧ H0 L = none ∧ ls.length = i ∧ ls.Nodup ∧ L ∉ ls ∧ (∀ l ∈ ls, HA l = none) ∧ H L = some (.lst (ls.map V.ref)) ∧ DL g.k H0 H ls A ∧ rowsC pt fe (wipeE ρ vs) (ds.drop i) b' = .ok B bF ∧ R = A ++ B
  have hsL : g.Hs L = none := by
    cases q : g.Hs L with
    | none => rfl
    | some o => exact absurd hL (G.tr.there L (by rw [q]; simp))
  have nIL : ¬ InB g.bx L := fun i => (G.bin L i) hsL
  have noL : ∀ j, ¬ OwnAt (wipeE ρ vs) (L2.wipe σ vs) j L := fun j o => absurd hL ((G.wipe vs).held o).2
  have newA : ∀ {H0 H : Hp} {l : Addr}, Tr g.bx HA0 HA H0 H → H l = none → HA l = none := fun {H0 H l} T q => by
    cases e : HA l with
    | none => rfl
    | some u => exact absurd q (T.there l (by rw [e]; simp))
  refine ⟨fun i m H => m = ds.length - i ∧ i ≤ ds.length ∧ P i H, ⟨_, rfl, Nat.zero_le _, ?_⟩, ?_⟩
  · have ta := Tr.allocO (o := .lst []) G.sub hL
    exact ⟨HA0, [], b, [], R, (G.step ta.weak (G.box.keep ta)).wipe vs, ta.weak, G.sub.free hL, rfl, List.nodup_nil, List.not_mem_nil, (fun l hl => nomatch hl), upd_same, trivial, hC, rfl⟩
  · rintro i m H ⟨rfl, hi, H0, ls, b', A, B, G1, T, h0L, hl, nd, nL, hls, hHL, dl, hB, hR⟩
    obtain ⟨go, stop⟩ := Y H0 H i T.ext G1.sub
    by_cases hlt : i < ds.length
    · have hd : ds[i]? = some ds[i] := List.getElem?_eq_getElem hlt
      obtain ⟨g1, yl⟩ := go _ hd
      have hdr : ds.drop i = ds[i] :: ds.drop (i + 1) := List.drop_eq_getElem_cons hlt
      rw [hdr] at hB
      unfold rowsC at hB
      cases hp : pt ds[i] (wipeE ρ vs) with
      | none => rw [hp] at hB; cases hB
      | some ρ1 =>
        simp only [hp] at hB
        cases hf : fe ρ1 b' with
        | exc _ _ => rw [hf] at hB; cases hB
        | bad => rw [hf] at hB; cases hB
        | ok es b1 =>
          rw [hf] at hB
          have hB : ((rowsC pt fe (wipeE ρ vs) (ds.drop (i + 1)) b1).bind fun r b2 => .ok (es :: r) b2) = .ok B bF := hB
          cases hr : rowsC pt fe (wipeE ρ vs) (ds.drop (i + 1)) b1 with
          | exc _ _ => rw [hr] at hB; cases hB
          | bad => rw [hr] at hB; cases hB
          | ok r b2 =>
            rw [hr] at hB
            cases hB
            refine .inr ⟨g1, P (i + 1), fun H' z => ⟨ds.length - (i + 1), by omega, rfl, hlt, z⟩, fun x H' y => ?_⟩
            obtain ⟨H0', t, iv⟩ := yl x H' y
            have noN : ∀ a, ¬ InB .no a := fun _ z => z
            have G2 := G1.step t.weak (G1.box.keep t)
            refine ⟨wipeE ρ vs, b', H0', _, ρ1, G2, iv, hp, fun σ2 G3 w2 => ⟨by rw [w2 vs his, wipe2], ?_⟩⟩
            show if true = true then TXo g W0 fe σ2 H' (fun y H4 => ∃ acc, H4 L = some (.lst acc) ∧ acc.length < sizeLine ∧ P (i + 1) (L2.upd H4 L (.lst (acc ++ [y])))) else P (i + 1) H'
            rw [if_pos rfl]
            refine ⟨ρ1, b', H0', G3, ?_⟩
            rw [hf]
            intro H0z Hz tz Bz l us hn h0 hl' il
            have T2 := (T.trans t.weak).trans tz
            have L1 : Hz L = some (.lst (ls.map V.ref)) := tz.keep _ _ (t.keep _ _ hHL (noN _)) nIL
            have L0 : H0z L = none := tz.new _ (t.new _ h0L (by rw [hHL]; simp) (noN _)) (by rw [t.keep _ _ hHL (noN _)]; simp) nIL
            have hA' : HA l = none := newA (T.trans t.weak) hn
            have npL : l ≠ L := fun e => by subst e; rw [t.keep _ _ hHL (noN _)] at hn; cases hn
            have nI : ∀ c ∈ ls, ¬ InB g.bx c := fun c hc i => by
              have := hls c hc
              exact absurd this (G.tr.there c (G.bin c i))
            have dl2 : DL g.k H0z Hz ls A := dl.move (t.ext.trans tz.ext) (fun c hc => tz.new c (t.new c (dl.there hc).1 (dl.there hc).2 (noN c)) (t.there c (dl.there hc).2) (nI c hc)) fun c o hc q => tz.keep c o (t.keep c o q (noN c)) (nI c hc)
            have hzl : g.k.z l = false := G.zok.new hA'
            have G4 : Good g (wipeE ρ vs) b1 (L2.wipe σ vs) Hz H0z := G2.step tz Bz
            have dl3 := DL.app1 hzl h0 hl' il dl2
            have nd2 : l ∉ ls := fun hm => by
              obtain ⟨vs, e⟩ := dl.isLst hm
              rw [t.keep _ _ e (noN _)] at hn
              cases hn
            refine ⟨ls.map V.ref, L1, by rw [List.length_map, hl]; exact Nat.lt_of_lt_of_le (by omega : i < 100000) (by decide), H0z, ls ++ [l], b1, A ++ [es], r, G4.poke L0 hsL noL, ?_, L0, by rw [List.length_append, hl]; rfl, ?_, ?_, fun c hm => ?_, by rw [upd_same, List.map_append]; rfl, ?_, hr, by rw [hR, List.append_assoc]; rfl⟩
            · refine ⟨T2.ext, fun a u e => ?_, fun a u e n => ?_, fun a e => ?_, T2.new⟩
              · rw [upd_ne (ne_of_none e L0)]; exact T2.sub a u e
              · rw [upd_ne (ne_of_none e hL)]; exact T2.keep a u e n
              · by_cases ha : a = L
                · rw [ha, upd_same]; simp
                · rw [upd_ne ha]; exact T2.there a e
            · rw [List.nodup_append]
              refine ⟨nd, List.nodup_cons.mpr ⟨List.not_mem_nil, List.nodup_nil⟩, fun a ha b hb e => ?_⟩
              rw [List.mem_singleton.mp hb] at e
              subst e
              exact nd2 ha
            · intro hm
              rcases List.mem_append.mp hm with hm | hm
              · exact nL hm
              · exact npL (List.mem_singleton.mp hm).symm
            · rcases List.mem_append.mp hm with hm | hm
              · exact hls c hm
              · rw [List.mem_singleton.mp hm]; exact hA'
            · refine dl3.out fun hm => ?_
              rcases List.mem_append.mp hm with hm | hm
              · exact nL hm
              · exact npL (List.mem_singleton.mp hm).symm
    · have e : i = ds.length := by omega
      subst e
      rw [List.drop_length] at hB
      cases hB
      rw [List.append_nil] at hR
      subst hR
      exact .inl ⟨stop (Nat.le_refl _), q ls H0 H T G1.box nd nL hls h0L hHL dl⟩
section
variable {X : Cx} {g : Cfg} {W : WX} {tg iter elt : Expr} {fl fe : Fx (List D)} {pos cpos tpos lpos spos : Pos} {ss : List Stmt} {kk : Fs} {t : Str} {scope : Scope} {own : List (Str × Nat)} {is : List Nat} {pt : Pat}
theorem pb_rows (i j : Nat) (hc : X.calm = true) (hnd : X.N.Nodup) (hNi : X.N[i]? = some t) (hyl : X.env.scope.names.lookup t = some .local)
    (hsw : swapsWith (.ListComp elt [⟨tg, iter, [], 0⟩] scope cpos) (some (.Name t tpos)) spos.line X.env = pure true) (hi : PIs X g W tg iter fl) (ok : BlkOk X.N X.env.scope scope own) (his : ∀ i ∈ is, i ∈ own.map (·.2))
    (hg : ∀ (s : Shared) (H : Hp) (C : Addr) (cl : List (Str × Addr)) (fp : List Addr), PGd (X.blk s H scope (compEnvC scope cl C X.env) fp) g tg is pt)
    (he : ∀ (s : Shared) (H : Hp) (C : Addr) (cl : List (Str × Addr)) (fp : List Addr), PN (X.blk s H scope (compEnvC scope cl C X.env) fp) g W0 elt fe)
    (hrest : PBR X g W ss kk)
    (hs : ∀ x, foldedSetIterable iter X.env x = pure x := by intro _; rfl) : PB X g W (.Assign [.Name t tpos] (.ListComp elt [⟨tg, iter, [], 0⟩] scope cpos) spos :: ss) (kRows i j (own.map (·.2)) fl pt fe kk) := by
  refine pss_imp (pss_cons (ps_setLc hc hnd hNi hyl hsw hi ok hg (fun _ _ _ _ _ => pts_nil) he hs) hrest) ?_
  rintro Dd σ H ⟨ρ, b, H0, G, F⟩
  refine ⟨ρ, b, H0, G, ?_⟩
  have F := fin_out G F
  refine F.mono fun ds b1 H01 H1 t1 B1 F1 J Y L hL => ?_
  have G1 := G.step t1 B1
  split at F1
  · rename_i hz
    obtain ⟨hbj, hz⟩ := hz
    obtain ⟨x, y, hb, _⟩ := G1.draw hbj
    cases hC : rowsC pt fe (wipeE ρ (own.map (·.2))) ds b1 with
    | exc _ _ => rw [hC] at F1; exact F1.elim
    | bad => rw [hC] at F1; exact F1.elim
    | ok R b2 =>
      rw [hC] at F1
      dsimp only at F1
      split at F1
      rotate_left
      · exact F1.elim
      rename_i hcl
      refine rows_yields (Q := fun v H' => TR g W kk Dd (σ.set i (some v)) H') his Y hz G1 hL hC fun ls H0' H' T B nd nL hls h0L hHL dl => ?_
      obtain ⟨⟨K, bx, z⟩, Hs, H0s, n0⟩ := g
      have hb : bx = .draw x y := hb
      subst hb
      have G2 := G1.step T B
      have BA := G1.box
      have nx : H1 x ≠ none := (BA.at (.inl rfl)).2
      have ny : H1 y ≠ none := (BA.at (.inr rfl)).2
      have hzL : z L = false := G1.zok.new hL
      have B' : BoxOk ⟨K, .drawR x y L ls, z⟩ H0' H' { b2 with ls := R } := by
        refine ⟨B, ⟨fun e => nx (e ▸ hL), fun e => ny (e ▸ hL), fun m => nx (hls x m), fun m => ny (hls y m)⟩, hzL, h0L, nL, nd, hHL, ?_⟩
        exact dl.rebox hcl
      refine ⟨x, y, L, ls, H', H0', _, _, H0', ⟨rfl, G2.tr, fun c hc => ?_, G.bin, G.zin⟩, G2.inR B' i, F1.base T.ext⟩
      have hn : H1 c = none := by
        rcases hc with rfl | hc
        · exact hL
        · exact hls c hc
      show Hs c = none
      cases q : Hs c with
      | none => rfl
      | some u => exact absurd hn (G1.tr.there c (by rw [show (mkG K (.draw x y) z n0 Hs H0s).Hs c = some u from q]; simp))
  · exact F1.elim
end
section
variable {X : Cx} {g : Cfg} {W : WX} {e : Expr} {es : List Expr} {fl : Fx (List D)} {pos p p3 : Pos} {x : Str} {n k kk : Nat} {F : FD}
theorem pxcR (cl : CalD X.prog X.w X.K X.mg X.base k x n F) (hr : Room kk X.A) (hk : k ≤ kk) (hK : X.K = g.k.K) (tk : Takes X W) (ha : PL X g W (e :: es) fl) (hg : Gl X x := by rfl) (hdb : (x == ("__debug__" : Str)) = false := by decide)
    (he : starEach (e :: es) X.env = (false, eval e X.env) :: starEach es X.env := by rfl) (hpl : (backTo pos (starEach es X.env)).any (·.1) = false := by rfl) : PX X g W (.Call (.Name x p) (e :: es) [] pos) (xCallR n F fl) := by
  obtain ⟨f, fd, ps, F1, b, hm, hk'⟩ := cl.ex
  exact px_callR F1 (hr.mono hk) hK tk hg hm hk' b ha hdb he hpl
theorem pq_nilR (i : Nat) (hu : X.A.units + 64 < cLine) (hK : X.K = g.k.K) (hN : X.N[i]? = some x := by rfl) (hv : Vis X.env.scope x := by first | exact Or.inl rfl | exact Or.inr (Or.inl rfl) | exact Or.inr (Or.inr rfl)) (hd : (x == ("__debug__" : Str)) = false := by decide)
    (hcd : (x == ("__classdict__" : Str)) = false := by decide) : PQ X g W (.Compare (.Name x p) [.Eq] [.List [] p3] pos) (xT (xNilR i)) :=
  pt_imp (pt_cmpR (op_eqD hu) (pe_var hN hv hd hcd) (px_fz (po_lst pl_nil)) (nomark _)) fun _ _ _ => tt_test fun _ _ _ => tx_nilR i hK
theorem pb_never : ∀ {ss : List Stmt}, PB X g W ss (fun _ _ => .bad)
  | [] => pss_imp pss_nil fun _ _ _ ⟨_, _, _, _, F⟩ => F.elim
  | _ :: _ => pss_imp (pss_cons (ps_never) pb_never) fun _ _ _ ⟨_, _, _, _, F⟩ => F.elim
end
end Fw
set_option Elab.async false
set_option linter.all false
set_option maxRecDepth 100000
set_option maxHeartbeats 1000000
/-! Fw40: lambdas that are kept: their function objects are told of in the heap; a block that knows its maker's slots. -/
namespace Fw
open PySem PySem.Spec PyProof.Rows L2 LamX

/-- at f stands a lambda's function, its code object at cc -/
def FunO (f : Addr) (qn : Str) (pr : Arguments) (bd : Expr) (sco : Scope) (cls : List (Str × Addr)) (cc : Addr) : HO :=
  .ext fun hp => ∃ (md ctx : Value), hp.get? f = some (PySem.W.kla_obj "<lambda>" qn pr bd sco cls md cc ctx)
/-- the heap's tale without f -/
def offH (H : Hp) (f : Addr) : Hp := fun b => if b = f then none else H b
theorem offH_ne {H : Hp} {f b : Addr} (n : b ≠ f) : offH H f b = H b := if_neg n
theorem offH_at {H : Hp} {f : Addr} : offH H f f = none := if_pos rfl
theorem offH_some {H : Hp} {f b : Addr} {u : HO} (e : offH H f b = some u) : H b = some u ∧ b ≠ f := by
  unfold offH at e
  split at e
  · cases e
  · rename_i n; exact ⟨e, n⟩
section
variable {X : Cx} {pins : List (Addr × Obj)} {σ : L2.St} {H : Hp} {s : Shared}
/-- told of no longer -/
theorem inv_off {f : Addr} {pr : Heap → Prop} (I : Inv X pins σ H s) (hf : H f = some (.ext pr)) : Inv X pins σ (offH H f) s := by
  have nf : ∀ {b : Addr} {u : HO}, H b = some u → (∀ q, u ≠ .ext q) → offH H f b = some u := fun {b u} e n => by
    rw [offH_ne (fun z => n pr (by rw [z, hf] at e; exact (Option.some.inj e).symm))]; exact e
  have un : Un X.fs [] H (offH H f) s.heap s.heap := by
    constructor
    · exact fun _ _ e _ _ _ => e
    · exact fun _ o e _ _ _ => ⟨o.slots, e⟩
    · intro b _ _ n _
      unfold offH
      split
      · rfl
      · exact n
    · exact fun _ o e _ => ⟨o, e⟩
    · exact fun _ _ e => nf e (fun _ z => by cases z)
    · exact fun _ _ _ e => nf e (fun _ z => by cases z)
    · exact fun _ ps e => ⟨#[], by rw [nf e (fun _ z => by cases z)]; simp⟩
  have ok : HOk X.prog X.w (offH H f) s.heap := fun b u e => by
    obtain ⟨e1, _⟩ := offH_some e
    exact (I.hok b u e1).stay (fun _ _ _ z => z) (fun _ z => nf z (fun _ q => by cases q)) fun _ _ z => nf z (fun _ q => by cases q)
  exact I.un (t' := s.toks) un ok
/-- what the making of a lambda tells -/
def tLm (T : List (Addr × Str)) (qn : Str) (pr : Arguments) (bd : Expr) (sco : Scope) (cls : List (Str × Addr)) : TE := fun _ H Q => Tabs T H ∧ ∀ (f cc : Addr) (H1 : Hp), H f = none → ExtN H H1 → Tabs T H1 → H1 f = some (FunO f qn pr bd sco cls cc) → H1 cc = some (CodeO cc qn) → Q (.ref f) H1
theorem pe_lm {T : List (Addr × Str)} {co Pt : Addr} {pr : Arguments} {bd : Expr} {sco : Scope} {lp : Pos} (tb : TabB X.base X.mg co Pt) (hco : X.env.code = .ref co) (hT : T = [(Pt, X.env.qual ++ "<lambda>")]) (hdf : defaultsOf pr X.env = ([], [])) (L : LamS X.env.scope sco) :
    PE X (.Lambda pr bd sco lp) (tLm T (X.env.qual ++ "<lambda>") pr bd sco (cloFrom X.env.cells sco.names [])) := by
  subst hT
  constructor
  rintro pn s0 τ HA Q J ⟨hTb, k⟩
  obtain ⟨tps, eP, tri, among⟩ := hTb (Pt, X.env.qual ++ "<lambda>") (List.mem_singleton.mpr rfl)
  have objP : s0.heap.get? Pt = some { cls := .none, data := .fields tps } := J.hok Pt _ eP
  refine PySem.W.kla_eval hdf ?_
  have newF : ∀ (hx : Heap) (md ctx : Value) (cc : Addr) (Hn : Hp) (tk : Tok), Inv X pn τ Hn { s0 with heap := hx, toks := tk } → Inv X pn τ (upd Hn hx.objs.size (FunO hx.objs.size (X.env.qual ++ "<lambda>") pr bd sco (cloFrom X.env.cells sco.names []) cc)) { s0 with heap := hx.push (PySem.W.kla_obj "<lambda>" (X.env.qual ++ "<lambda>") pr bd sco (cloFrom X.env.cells sco.names []) md cc ctx), toks := tk } :=
    fun hx md ctx cc Hn tk J1 => J1.laid (t' := tk) (fun b o e => Heap.get?_push_of_some _ e) (Nat.le_refl _) ⟨⟨md, ctx, Heap.get?_push_size _ rfl⟩, ⟨_, Heap.get?_push_size _ rfl⟩, fun _ _ ⟨md', ctx', e⟩ st => ⟨md', ctx', st _ e⟩⟩
  cases ca : codeAmong lp tps.toList with
  | some cv =>
    obtain ⟨cc, ecv, hcc⟩ := among lp cv ca
    subst ecv
    refine PySem.W.kla_makeFunctionHit (mg := X.mg) (c := co) (P := Pt) (ps := tps) (closure_ok (L.has J.ok)) J.ok.glob (J.mod.glob.keeps J.bk) hco (tb.code.keeps J.bk) objP tri ca (tb.bm.keeps J.bk) fun ctx hx tk kp hsz => ?_
    have J1 : Inv X pn τ HA { s0 with heap := hx, toks := tk } := J.kept kp
    have J2 := newF hx ((X.mg "__name__").getD .none) ctx cc HA tk J1
    have nf : HA hx.objs.size = none := J.hok.fresh hsz
    have ext : ExtN HA (upd HA hx.objs.size (FunO hx.objs.size (X.env.qual ++ "<lambda>") pr bd sco (cloFrom X.env.cells sco.names []) cc)) := fun b o e _ => by
      rw [upd_ne (ne_of_none e nf)]; exact e
    refine ⟨.ref hx.objs.size, _, J2, rfl, k _ cc _ nf ext (fun p hp => ?_) upd_same (ext _ _ hcc codeO_ne)⟩
    exact (hTb p hp).ext fun b o e => by rw [upd_ne (ne_of_none e nf)]; exact e
  | none =>
    refine PySem.W.kla_makeFunction (mg := X.mg) (c := co) (P := Pt) (ps := tps) (closure_ok (L.has J.ok)) J.ok.glob (J.mod.glob.keeps J.bk) hco (tb.code.keeps J.bk) objP tri ca tb.gP (tb.bm.keeps J.bk) fun cc ctx hx tk xb ge lt rc tb' => ?_
    obtain ⟨c2, oc, vs, tq, e2, o1, o2, o3⟩ := rc
    cases e2
    have nC : HA cc = none := J.hok.fresh ge
    have sz : s0.heap.objs.size ≤ hx.objs.size := Nat.le_trans ge (Nat.le_of_lt lt)
    have nf : HA hx.objs.size = none := J.hok.fresh sz
    have J1 := inv_table (t' := tk) (more := #[rawInt lp.line, rawInt lp.col, .ref cc]) (h' := hx) (q := X.env.qual ++ "<lambda>") J eP xb tb' ge ⟨oc, vs, tq, o1, o2, o3⟩
    have J2 := newF hx ((X.mg "__name__").getD .none) ctx cc _ tk J1
    have fc : hx.objs.size ≠ cc := Nat.ne_of_gt lt
    have fP : hx.objs.size ≠ Pt := Nat.ne_of_gt (Nat.lt_of_lt_of_le (Heap.lt_size objP) sz)
    have Pc : Pt ≠ cc := ne_of_none eP nC
    generalize hH1 : upd (upd (upd HA Pt (.tbl (tps ++ #[rawInt lp.line, rawInt lp.col, .ref cc]))) cc (CodeO cc (X.env.qual ++ "<lambda>"))) hx.objs.size (FunO hx.objs.size (X.env.qual ++ "<lambda>") pr bd sco (cloFrom X.env.cells sco.names []) cc) = H1 at J2
    have atf : H1 hx.objs.size = some (FunO hx.objs.size (X.env.qual ++ "<lambda>") pr bd sco (cloFrom X.env.cells sco.names []) cc) := by rw [← hH1, upd_same]
    have atc : H1 cc = some (CodeO cc (X.env.qual ++ "<lambda>")) := by rw [← hH1, upd_ne (Ne.symm fc), upd_same]
    have atP : H1 Pt = some (.tbl (tps ++ #[rawInt lp.line, rawInt lp.col, .ref cc])) := by rw [← hH1, upd_ne (Ne.symm fP), upd_ne Pc, upd_same]
    have ext : ExtN HA H1 := fun b o e n => by
      have bP : b ≠ Pt := fun z => n tps (by rw [z, eP] at e; exact (Option.some.inj e).symm)
      rw [← hH1, upd_ne (ne_of_none e nf), upd_ne (ne_of_none e nC), upd_ne bP]
      exact e
    have tl : (tps ++ #[rawInt lp.line, rawInt lp.col, .ref cc]).toList = tps.toList ++ [rawInt lp.line, rawInt lp.col, .ref cc] := by simp
    refine ⟨.ref hx.objs.size, H1, J2, rfl, k _ cc H1 nf ext (fun p hp => ?_) atf atc⟩
    rw [List.mem_singleton.mp hp]
    refine ⟨_, atP, by rw [tl]; exact PySem.TriplesOk_snoc _ _ _ _ tri, fun p' cv hcv => ?_⟩
    rw [tl] at hcv
    rcases among_app _ tri hcv with z | z
    · obtain ⟨c0, a1, a2⟩ := among p' cv z
      exact ⟨c0, a1, ext _ _ a2 codeO_ne⟩
    · exact ⟨cc, z, atc⟩
end
/-! ### a comprehension whose tests know the maker's slots -/
section
variable {X : Cx}
/-- what holds in a block holds of its maker, too -/
def Back (X : Cx) (pins : List (Addr × Obj)) (σ : L2.St) (Y : Cx) : Prop := ∀ (pb : List (Addr × Obj)) (τ : L2.St) (Hb : Hp) (sb : Shared), Inv Y pb τ Hb sb → Inv X pins σ Hb sb
theorem pe_lcB {ex tgt it : Expr} {tests : List Expr} {sco : Scope} {mine : List (Str × Nat)} {lp : Pos} {wi : TI} {gt : TG} {tt : L2.St → TT} {te : TE} (hcalm : X.calm = true) (hnd : X.N.Nodup) (hit : PI X tgt it wi) (bk : BlkOk X.N X.env.scope sco mine)
    (hgt : ∀ (sx : Shared) (Hx : Hp) (C : Addr) (cs : List (Str × Addr)) (fr : List Addr), PG (X.blk sx Hx sco (compEnvC sco cs C X.env) fr) tgt gt)
    (htt : ∀ (pins : List (Addr × Obj)) (σ : L2.St) (sx : Shared) (Hx : Hp) (C : Addr) (cs : List (Str × Addr)) (fr : List Addr), Back X pins σ (X.blk sx Hx sco (compEnvC sco cs C X.env) fr) → PTs (X.blk sx Hx sco (compEnvC sco cs C X.env) fr) tests (tt σ))
    (hte : ∀ (sx : Shared) (Hx : Hp) (C : Addr) (cs : List (Str × Addr)) (fr : List Addr), PE (X.blk sx Hx sco (compEnvC sco cs C X.env) fr) ex te) (hfs : ∀ x, foldedSetIterable it X.env x = pure x) :
    PE X (.ListComp ex [⟨tgt, it, tests, 0⟩] sco lp) (fun σ H Q => tLc wi gt (tt σ) te (mine.map (·.2)) σ H Q) := by
  constructor
  intro pins s0 σ HA Q J wh
  have cells : ∀ y ∈ sco.names, y.2 = .free → ∃ c, X.env.cells.lookup y.1 = some c := fun y hy e => (bk.free y hy e).elim (fun z => J.ok.has _ (.inl z)) fun z => J.ok.has _ (.inr z)
  rw [eval_ListComp]
  refine wpAny_comprehension_free (use := none) rfl hfs (closure_ok cells) bk.kind (fun y hy e => by rw [bk.uniq y hy, e]) (thn (hit.run pins s0 σ HA _ J wh) fun _ s1 h1 => thn h1 fun _ s2 h2 => ?_)
  obtain ⟨ita, fr, trn, It0, HB, rfl, J2, Tn, t0, fok, kk⟩ := h2
  refine wpAny_newObj_type (newEnv_comp ?_) (by show 0 ≤ sizeLine; decide)
  generalize hacc : s2.heap.objs.size = acc
  obtain ⟨Wd, ⟨n0, w0⟩, turn⟩ := kk acc (J2.hok.fresh (Nat.le_of_eq hacc))
  generalize es3 : ({ s2 with heap := s2.heap.push { cls := .type "list", data := .seq ([] : List Value).toArray } } : Shared) = s3
  have hp3 : s3.heap = s2.heap.push { cls := .type "list", data := .seq ([] : List Value).toArray } := by rw [← es3]
  have J3 : Inv X pins σ (upd HB acc (.lst [])) s3 := by
    rw [← es3]
    exact J2.laid (t' := s2.toks) (fun _ _ e => Heap.get?_push_of_some _ e) (Nat.le_of_eq hacc) ⟨Nat.zero_le _, [], 0, .nil, by rw [← hacc]; exact Heap.get?_push_size _ rfl⟩
  have frOk : ∀ b ∈ fr, FpOk X pins (upd HB acc (.lst [])) b ∧ b < s3.heap.objs.size := fun b hb => by
    obtain ⟨o, e, _⟩ := Tn.obj _ _ t0 b hb
    have q := Heap.lt_size e
    exact ⟨⟨by rw [upd_ne (by rw [← hacc]; exact Nat.ne_of_lt q)]; exact (fok b hb).1, (fok b hb).2⟩, by rw [hp3, Heap.size_push]; exact Nat.lt_succ_of_lt q⟩
  have t3 : trn 0 s3.heap := Tn.keep _ _ _ t0 fun b _ o e => by rw [hp3]; exact Heap.get?_push_of_some _ e
  have J4 := block_start J3 bk hnd frOk
  show codeAny _ _ (.compStart (.ListComp ex [⟨tgt, it, tests, 0⟩] sco lp) 0 (.ref ita) (.ref acc) (compEnvC sco (cellsFrom (s3.heap.objs.size + 1) sco.names (cloFrom X.env.cells sco.names [])) s3.heap.objs.size X.env)) (compPost (model X.prog X.w) X.A X.xe none _ (.ref acc) s3.heap.objs.size) { s3 with heap := pushCells (s3.heap.push { cls := .type "dict", data := .dict #[] }) sco.names }
  generalize eH3 : upd HB acc (.lst []) = H3 at J3 J4 frOk w0
  have pG := hgt s3 H3 s3.heap.objs.size (cellsFrom (s3.heap.objs.size + 1) sco.names (cloFrom X.env.cells sco.names [])) fr
  have pT := htt pins σ s3 H3 s3.heap.objs.size (cellsFrom (s3.heap.objs.size + 1) sco.names (cloFrom X.env.cells sco.names [])) fr
  have pX := hte s3 H3 s3.heap.objs.size (cellsFrom (s3.heap.objs.size + 1) sco.names (cloFrom X.env.cells sco.names [])) fr
  generalize eY : compEnvC sco (cellsFrom (s3.heap.objs.size + 1) sco.names (cloFrom X.env.cells sco.names [])) s3.heap.objs.size X.env = cy at J4 pG pT pX ⊢
  have loc : cy.locals = s3.heap.objs.size := by rw [← eY]; rfl
  have back : Back X pins σ (X.blk s3 H3 sco cy fr) := fun pb τ Hb sb B => J3.call' (ch := fr) B.os B.base B.hok B.bare fun b hb =>
    ⟨(frOk b hb).1.2.2.2.1, (frOk b hb).1.2.1, (frOk b hb).1.2.2.2.2.1, (frOk b hb).1.2.2.2.2.2⟩
  have pT := pT back
  generalize es4 : ({ s3 with heap := pushCells (s3.heap.push { cls := .type "dict", data := .dict #[] }) sco.names } : Shared) = s4 at J4 ⊢
  have t4 : trn 0 s4.heap := Tn.keep _ _ _ t3 fun b _ o e => by rw [← es4]; exact pushCells_keeps _ _ _ _ (Heap.get?_push_of_some _ e)
  have still : ∀ {τ : L2.St} {Hb : Hp} {sb : Shared}, Inv (X.blk s3 H3 sco cy fr) [] τ Hb sb → (∀ b ∈ fr, Hb b = none) → ∀ b ∈ fr, FpOk (X.blk s3 H3 sco cy fr) [] Hb b := fun {τ Hb sb} B z b hb =>
    ⟨z b hb, (B.ok.exf b hb).1, B.ok.exfs b hb, .inl hb, fun x c e => (B.ok.exf b hb).2 x c e, fun p hp => by simp at hp⟩
  refine codeAny_compStart_list ?_ (Tn.self X.A 0 _ _ _ t4 ?_)
  all_goals
    refine compLoop_any (fun n sb => ∃ i Hb, Inv (X.blk s3 H3 sco cy fr) [] (wipe σ (mine.map (·.2))) Hb sb ∧ trn i sb.heap ∧ (∀ b ∈ fr, Hb b = none) ∧ Wd i n Hb) ?_ n0 ⟨0, H3, J4, t4, fun b hb => (frOk b hb).1.1, w0⟩
    rintro n s5 ⟨i, H5, B5, t5, z5, w5⟩
    rcases turn i n H5 w5 with ⟨hstop, hQ⟩ | ⟨hgo, Nx, hNx, step⟩
    · refine thnF (Tn.done (X.blk s3 H3 sco cy fr) rfl rfl rfl hcalm i [] s5 _ H5 (fun _ _ => False) B5 (still B5 z5) t5 hstop) fun r s6 ⟨er, B6⟩ => ?_
      subst er
      have J6 := back [] _ H5 s6 B6
      have free6 : H5 s3.heap.objs.size = none := by rw [← loc]; exact B6.free
      obtain ⟨m6, ns6, _⟩ := B6.loc
      refine ⟨m6, by rw [← loc]; exact ns6, fun hx sb => ?_⟩
      obtain ⟨f0, f1, f2, f3, f4, f5⟩ := J3.fpOk (Nat.le_refl _) free6
      exact ⟨.ref acc, H5, J6.turned (t' := s6.toks) (fun b o hb e => (sb.2 b hb).trans e) f0 f1 f3 f4 f5, rfl, hQ⟩
    · refine thnF (Tn.item (X.blk s3 H3 sco cy fr) rfl rfl rfl hcalm i [] s5 _ H5 (fun _ _ => False) B5 (still B5 z5) t5 hgo) fun r s6 ⟨u, er, h6⟩ => ?_
      subst er
      refine thnF h6 fun _ s7 ⟨x, H7, B7, r7, y7, t7, z7⟩ => ?_
      refine thnF (pG.run _ s7 _ H7 x u _ (B7.pinned (still B7 z7) (Tn.obj _ _ t7)) r7 (step x H7 y7)) fun _ s8 ⟨τ8, H8, B8, e8, q8⟩ => ?_
      refine thnF (pT.run _ s8 τ8 H8 _ B8 q8) fun c s9 ⟨H9, B9, q9⟩ => ?_
      have close : ∀ {sb : Shared} {Hb : Hp}, Inv (X.blk s3 H3 sco cy fr) ([] ++ pinsAt fr s7.heap) τ8 Hb sb → Nx Hb → ∃ m, m < n ∧ ∃ i Hb, Inv (X.blk s3 H3 sco cy fr) [] (wipe σ (mine.map (·.2))) Hb sb ∧ trn i sb.heap ∧ (∀ b ∈ fr, Hb b = none) ∧ Wd i m Hb := fun {sb Hb} B nx => by
        obtain ⟨m, lt, wm⟩ := hNx Hb nx
        have pinned : ∀ b ∈ fr, ∀ o, s7.heap.get? b = some o → sb.heap.get? b = some o ∧ Hb b = none := fun b hb o e =>
          ⟨(B.pin (b, o) (List.mem_append_right _ (List.mem_append_right _ (mem_pinsAt hb e)))).1, (B.pin (b, o) (List.mem_append_right _ (List.mem_append_right _ (mem_pinsAt hb e)))).2.1⟩
        refine ⟨m, lt, i + 1, Hb, (B.unpinned (pins := [])).weak (by rw [← e8, wipe_length]) (fun j v e => (wipe_some (by rw [e8]; exact e)).1), Tn.keep _ _ _ t7 fun b hb o e => (pinned b hb o e).1, fun b hb => ?_, wm⟩
        obtain ⟨o, e, _⟩ := Tn.obj _ _ t7 b hb
        exact (pinned b hb o e).2
      cases c with
      | false =>
        have q9 : Nx H9 := q9
        exact close B9 q9
      | true =>
        have q9 : te τ8 H9 fun y H4 => ∃ ac, H4 acc = some (.lst ac) ∧ ac.length < sizeLine ∧ Nx (upd H4 acc (.lst (ac ++ [y]))) := q9
        refine thnF (pX.run _ s9 τ8 H9 _ B9 q9) fun z s10 ⟨yv, H10, B10, r10, ac, e10, l10, nx⟩ => ?_
        exact app_ok (X := X.blk s3 H3 sco cy fr) B10 e10 l10 r10 fun s11 B11 => close B11 nx
end
end Fw
set_option Elab.async false
set_option linter.all false
set_option maxRecDepth 100000
set_option maxHeartbeats 1000000
/-! Fw41: a lambda that was kept is handed to a def, in a comprehension's test. -/
namespace Fw
open PySem PySem.Spec PyProof.Rows L2 LamX
/-- a lambda that is kept: its text, its reading -/
structure Wk where
  pr : Arguments
  bd : Expr
  sco : Scope
  fb : Fx D
abbrev qLam (X : Cx) : Str := X.env.qual ++ "<lambda>"
structure WkOk (X : Cx) (k : Nat) (w : Wk) : Prop where
  sc : LamS X.env.scope w.sco
  bind : ∀ (q : Str) (cl : List (Str × Addr)) (pm cv ctv : Value), bindArgs (PySem.W.kla_fn "<lambda>" q w.pr w.bd w.sco cl pm cv ctv) ⟨[], []⟩ = pure []
  df : defaultsOf w.pr X.env = ([], [])
  run : ∀ (A : Around) (outer : List Env) (s : Shared) (H : Hp) (E : XK) (f c' : Addr) (bx : Bk) (z : Addr → Bool) (n0 : Nat) (Hs H0s : Hp), Room k (A.deeper (lamEnv X w.sco s.heap.objs.size f c')) → PX (lamCx X A outer s H E w.sco f c') (mkG X.K bx z n0 Hs H0s) (WXE E) w.bd w.fb
abbrev FunW (X : Cx) (w : Wk) (f cc : Addr) : HO := FunO f (qLam X) w.pr w.bd w.sco (cloFrom X.env.cells w.sco.names []) cc
/-- the kept lambda at slot i, handed over: what the def makes of it, in the heap that tells of it no longer -/
def tWk (X : Cx) (k : Nat) (R : (Bx → Res D) → Addr → Bx → Out) (i : Nat) (σ : L2.St) : TE := fun τ H Q => ∃ (f cc : Addr) (w : Wk), τ[i]? = some (some (.ref f)) ∧ H f = some (FunW X w f cc) ∧ H cc = some (CodeO cc (qLam X)) ∧ WkOk X k w ∧
  TTr X.K w.fb R (fun E H' Q' => tW X.K w.fb E σ H' Q') (offH H f) Q
theorem pe_wk {X Y : Cx} {pins : List (Addr × Obj)} {σ : L2.St} {x a wn : Str} {R : (Bx → Res D) → Addr → Bx → Out} {k k2 i : Nat} {p p2 pos : Pos} (rd : RefD X.K X.mg x a R) (back : Back X pins σ Y) (e1 : Y.prog = X.prog) (e2 : Y.w = X.w) (e3 : Y.K = X.K) (e4 : Y.mg = X.mg) (e5 : Y.base = X.base) (e6 : Y.A = X.A) (e7 : Y.stack = X.stack) (hr : Room k2 X.A) (hk : k + 2 ≤ k2)
    (hg : Gl Y x) (hN : Y.N[i]? = some wn) (hv : Vis Y.env.scope wn) (hdw : (wn == ("__debug__" : Str)) = false := by decide) (hcw : (wn == ("__classdict__" : Str)) = false := by decide)
    (hdb : (x == ("__debug__" : Str)) = false := by decide) (hd : (a == ("__debug__" : Str)) = false := by decide) (hcd : (a == ("__classdict__" : Str)) = false := by decide)
    (he : starEach [.Name wn p2] Y.env = (false, eval (.Name wn p2) Y.env) :: starEach [] Y.env := by rfl) (hpl : (backTo pos (starEach [] Y.env)).any (·.1) = false := by rfl) :
    PE Y (.Call (.Name x p) [.Name wn p2] [] pos) (tWk X k R i σ) := by
  obtain ⟨gg, pg, bg, sg, dV, kV, doc, pm, cdv, ct, oc, an, od, osl, Ng, h1, h2, h3, h4, h5, h6, h7, h8, h9⟩ := rd.ex
  constructor
  rintro pb s0 τ HA Q J ⟨f, cc, w, q1, q2, q3, q4, q5⟩
  refine wpAny_Call_Name_kw (ld_glob J hg (by rw [e4]; exact h1) ?_ hdb)
  refine PySem.W.callWith_K (h₀ := Y.base) J.ok.mod.kin (by rw [e3]; exact h2) ?_ he hpl
  show wpAny _ _ (spliced ((false, eval (.Name wn p2) Y.env) :: backTo pos (starEach [] Y.env))) _ _ s0
  refine Calls.spliced_cons (thn ((pe_var (pos := p2) (i := i) hN hv hdw hcw).run pb s0 τ HA (fun v H1 => v = .ref f ∧ H1 = HA) J ⟨.ref f, q1, rfl, rfl⟩) fun u s1 ⟨v, H1, J1, r1, ev, eH⟩ => ?_)
  subst ev eH
  obtain rfl : u = Value.ref f := r1
  obtain ⟨⟨md, ctx, hf⟩, _, _⟩ := J1.hok f _ q2
  have nfr : f ∉ frs X.stack := fun z => by
    have := J1.stkFree f (by rw [e7]; exact z)
    rw [q2] at this; cases this
  have J2 := inv_off J1 q2
  have B2 := back pb τ _ s1 J2
  have fc : cc ≠ f := fun z => by
    rw [z] at q3
    obtain ⟨⟨oc, vs, t, w1, w2, w3⟩, _, _⟩ := J1.hok f _ q3
    obtain ⟨⟨md', ctx', w4⟩, _, _⟩ := J1.hok f _ q2
    rw [w4] at w1
    cases w1
    cases w2
  refine Calls.spliced_nil ⟨J1.kIn, ?_⟩
  have rc : codeAny (model X.prog X.w) X.A (.call (.ref gg) ⟨[.ref f], []⟩) (CR C8.CX0 X.stack X.prog X.w (offH H1 f) s1 Q C8.E0) s1 := by
    refine run_ofS (N := Ng) (ps := [a]) (us := [.ref f]) (vs := [.ref f]) h3 h4 h6 (hr.mono hk) B2.env0 (h5 s1 [.ref f] B2.kIn rfl) (.cons rfl .nil) rfl fun hr' => ?_
    obtain ⟨t', ht', hq'⟩ := h9 X w.fb (qLam X) rfl rfl f cc s1 (offH H1 f) Q (fun E H' Q' => tW X.K w.fb E σ H' Q')
      (fun W pn xe E p1 p2 tk hW => pe_act (i := 0) B2 q4.sc hf offH_at nfr (q4.bind _ _ _ _ _) tk hW hr'
        (fun A outer s H hr2 => ⟨fun pins s' σ' H' Q I ⟨bx, z, n0, Hs, H0s, w'⟩ => (q4.run A outer s H E f cc bx z n0 Hs H0s hr2).run pins s' σ' H' Q I w'⟩) h7 h8 hd hcd) (by rw [offH_ne fc]; exact q3) q5
    exact ⟨t', ht'.nox, hq'⟩
  rw [e1, e2, e6]
  refine wpAny_call (codeAny_mono rc fun r s2 hq => ?_)
  cases r with
  | error e => exact (show False from hq).elim
  | ok fl =>
    cases fl with
    | ret u =>
      obtain ⟨v', H', o1, o2, o3, o4, o5, o6⟩ := hq
      refine ⟨v', H', ?_, o5, o6⟩
      exact J2.call' (ch := []) o1 (by rw [e7]; exact o3) (by rw [e1, e2]; exact o4) o2 fun _ z => nomatch z
    | next => exact False.elim hq
    | brk => exact False.elim hq
    | cont => exact False.elim hq
end Fw
set_option Elab.async false
set_option linter.all false
set_option maxRecDepth 100000
set_option maxHeartbeats 1000000
/-! Fw42: a list of kept lambdas: made, handed on, each called in a comprehension's test. -/
namespace Fw
open PySem PySem.Spec PyProof.Rows L2 LamX

theorem funO_codeO {a cc : Addr} {qn q : Str} {pr : Arguments} {bd : Expr} {sco : Scope} {cls : List (Str × Addr)} {H : Hp} (h1 : H a = some (FunO a qn pr bd sco cls cc)) (h2 : H a = some (CodeO a q)) : False := by
  rw [h1] at h2
  have e := Option.some.inj h2
  unfold FunO CodeO at e
  have e2 := congrFun (HO.ext.inj e) (⟨Array.replicate (a + 1) (PySem.W.kla_obj "<lambda>" qn pr bd sco cls .none cc .none), {}⟩ : Heap)
  have g : (⟨Array.replicate (a + 1) (PySem.W.kla_obj "<lambda>" qn pr bd sco cls .none cc .none), {}⟩ : Heap).get? a = some (PySem.W.kla_obj "<lambda>" qn pr bd sco cls .none cc .none) := by
    simp [Heap.get?, PySem.W.kla_obj]
  have h : (∃ (md ctx : Value), (⟨Array.replicate (a + 1) (PySem.W.kla_obj "<lambda>" qn pr bd sco cls .none cc .none), {}⟩ : Heap).get? a = some (PySem.W.kla_obj "<lambda>" qn pr bd sco cls md cc ctx)) := ⟨_, _, g⟩
  rw [e2] at h
  obtain ⟨oc, vs, t, w1, w2, _⟩ := h
  rw [g] at w1
  cases w1
  cases w2
/-- what is nobody's -/
structure Apt (g : Cfg) (ρ : En) (σ : L2.St) (H0 : Hp) (l : Addr) : Prop where
  frz : H0 l = none
  box : ¬ InB g.k.bx l
  own : ∀ j, ¬ OwnAt ρ σ j l
section
variable {T : List (Addr × Str)} {g : Cfg} {ρ : En} {b : Bx} {σ : L2.St} {H H0 H1 : Hp}
theorem noOdc_own {j : Nat} {l : Addr} (o : OwnAt (ρ.map noOdc) σ j l) : OwnAt ρ σ j l ∧ ∃ ds, ρ[j]? = some (.own ds) := by
  obtain ⟨⟨s, e1, eo⟩, e2⟩ := o
  rw [List.getElem?_map] at e1
  cases hr : ρ[j]? with
  | none => rw [hr] at e1; cases e1
  | some s0 =>
    rw [hr] at e1
    cases s0 with
    | odc _ => cases e1; cases eo
    | no => cases e1; cases eo
    | val _ => cases e1; cases eo
    | own ds => exact ⟨⟨⟨_, hr, rfl⟩, e2⟩, ds, rfl⟩
theorem ntH_no {l : Addr} (h : H0 l = none) : ntH H0 l = none := ntH_none h
/-- a heap in which all that is leant on stands -/
theorem re_good3 (t : TabX T g) (G : Good g ρ b σ H H0) (e : ∀ c u, H c = some u → (∀ ps, u ≠ .tbl ps) → ¬ Apt g ρ σ H0 c → H1 c = some u) (T1 : Tabs T H1) :
    Good (mkG g.k.K g.k.bx (fun _ => false) g.n (heldOff (ρ.map noOdc) σ H1) (ntH H0)) (ρ.map noOdc) b σ H1 (ntH H0) ∧ TabX T (mkG g.k.K g.k.bx (fun _ => false) g.n (heldOff (ρ.map noOdc) σ H1) (ntH H0)) := by
  obtain ⟨x, y, hb⟩ := t.draw
  obtain ⟨hT, hN⟩ := t.now G
  have eo : ∀ {j l u}, OwnAt ρ σ j l → H l = some u → (∀ ps, u ≠ .tbl ps) → H1 l = some u := fun {j l u} o q n => e l u q n fun a => a.own j o
  have ef : ∀ {c u}, H0 c ≠ none → H c = some u → (∀ ps, u ≠ .tbl ps) → H1 c = some u := fun {c u} z q n => e c u q n fun a => z a.frz
  have eb : ∀ {c u}, InB g.k.bx c → H c = some u → (∀ ps, u ≠ .tbl ps) → H1 c = some u := fun {c u} z q n => e c u q n fun a => a.box z
  have B0 : BoxOk ⟨g.k.K, .draw x y, g.k.z⟩ H0 H b := by
    have := G.box
    obtain ⟨⟨K, bx, z⟩, Hs, H0s, n⟩ := g
    have hb : bx = .draw x y := hb
    subst hb
    exact this
  have bl := box_lst B0
  have sm : Same (ntH H0) H1 := fun c u q => by
    obtain ⟨q1, q2⟩ := ntH_some q
    exact ef (by rw [q1]; simp) (G.sub c u q1) q2
  have ie : ∀ a u, H0 a = some u → (∀ ps, u ≠ .tbl ps) → ntH H0 a = some u := fun a u q n => ntH_of q n
  have B1 : BoxOk ⟨g.k.K, g.k.bx, fun _ => false⟩ (ntH H0) H1 b := by
    rw [hb]
    obtain ⟨a1, a2, a3, a4, a5⟩ := B0
    exact ⟨a1, ntH_none a2, ntH_none a3, eb (by rw [hb]; exact .inl rfl) a4 (fun _ z => by cases z), eb (by rw [hb]; exact .inr rfl) a5 (fun _ z => by cases z)⟩
  obtain ⟨G1, s1⟩ := un_good (n := g.n) (ρ := ρ.map noOdc) (b := b) (σ := σ) hb sm (by rw [List.length_map]; exact G.len) G.ln (fun i => by
    have hk : (⟨g.k.K, g.k.bx, fun _ => false⟩ : Kx) = g.k := by rw [← t.zf]
    rw [hk]
    rw [List.getElem?_map]
    have q := G.slot i
    cases hr : ρ[i]? with
    | none => trivial
    | some s =>
      rw [hr] at q
      cases s with
      | no => trivial
      | odc _ => trivial
      | own xs =>
        obtain ⟨l, us, p1, p2, p3, p4⟩ := q
        exact ⟨l, us, p1, ntH_none p2, eo (j := i) ⟨⟨_, hr, rfl⟩, p1⟩ p3 (fun _ z => by cases z), p4.nt ie⟩
      | val d =>
        obtain ⟨v, p1, iv⟩ := q
        exact ⟨v, p1, iv.nt ie⟩) (fun i j l o1 o2 => G.apart i j l (noOdc_own o1).1 (noOdc_own o2).1) B1 (fun i l o => G.notBox (noOdc_own o).1)
  have ow1 : ∀ {j l}, OwnAt (ρ.map noOdc) σ j l → ∃ us, H1 l = some (.lst us) := fun {j l} o => by
    obtain ⟨o1, ds, hd⟩ := noOdc_own o
    have q := G.slot j
    rw [hd] at q
    obtain ⟨l', us, p1, p2, p3, p4⟩ := q
    rw [o1.2] at p1
    cases p1
    exact ⟨us, eo o1 p3 (fun _ z => by cases z)⟩
  refine ⟨G1, ⟨x, y, hb⟩, rfl, fun p hp => ?_, fun p hp => ntH_none (hN p hp), fun c i => ?_⟩
  · obtain ⟨ps, h1, h2, h3⟩ := T1 p hp
    refine ⟨ps, ?_, h2, fun pos cv hc => ?_⟩
    · show heldOff _ _ _ _ = _
      rw [held_of fun j o => by obtain ⟨us, q⟩ := ow1 o; rw [h1] at q; cases q]
      exact h1
    · obtain ⟨c, e1, e2⟩ := h3 pos cv hc
      refine ⟨c, e1, ?_⟩
      show heldOff _ _ _ _ = _
      rw [held_of fun j o => by
        obtain ⟨us, q⟩ := ow1 o
        rw [e2] at q
        exact codeO_lst us (Option.some.inj q)]
      exact e2
  · have i' : InB (.draw x y) c := by rw [← hb]; exact i
    obtain ⟨_, us, q⟩ := bl c i'
    refine ⟨us, ?_⟩
    show heldOff _ _ _ _ = _
    rw [held_of fun j o => G.notBox (noOdc_own o).1 i]
    exact eb i q fun _ z => by cases z
theorem Apt.re (a : Apt g ρ σ H0 l) {K : PySem.W.Frag} {z : Addr → Bool} {n : Nat} {Hs H0s : Hp} : Apt (mkG K g.k.bx z n Hs H0s) (ρ.map noOdc) σ (ntH H0) l := ⟨ntH_none a.frz, a.box, fun j o => a.own j (noOdc_own o).1⟩
theorem noOdc2 (ρ : En) : (ρ.map noOdc).map noOdc = ρ.map noOdc := by
  rw [List.map_map]
  refine List.map_congr_left fun s _ => ?_
  cases s <;> rfl
theorem noOdc_set {ρ : En} (h : ρ.map noOdc = ρ) (i : Nat) : (ρ.set i .no).map noOdc = ρ.set i .no := by
  rw [List.map_set, h]; rfl
/-- tables lean on no list -/
theorem tabs_upd {l : Addr} {vs : List V} {o : HO} (t : Tabs T H) (h : H l = some (.lst vs)) : Tabs T (L2.upd H l o) := fun p hp => by
  obtain ⟨ps, h1, h2, h3⟩ := t p hp
  refine ⟨ps, by rw [upd_ne (fun z => by rw [z, h] at h1; cases h1)]; exact h1, h2, fun pos cv hc => ?_⟩
  obtain ⟨c, e1, e2⟩ := h3 pos cv hc
  exact ⟨c, e1, by rw [upd_ne (fun z => by rw [z, h] at e2; exact codeO_lst vs (Option.some.inj e2).symm)]; exact e2⟩
theorem tabs_off {f cc : Addr} {qn : Str} {pr : Arguments} {bd : Expr} {sco : Scope} {cls : List (Str × Addr)} (t : Tabs T H) (h : H f = some (FunO f qn pr bd sco cls cc)) : Tabs T (offH H f) := fun p hp => by
  obtain ⟨ps, h1, h2, h3⟩ := t p hp
  refine ⟨ps, by rw [offH_ne (fun z => by rw [z, h] at h1; cases h1)]; exact h1, h2, fun pos cv hc => ?_⟩
  obtain ⟨c, e1, e2⟩ := h3 pos cv hc
  exact ⟨c, e1, by rw [offH_ne (fun z => by rw [z] at e2; exact funO_codeO h e2)]; exact e2⟩
/-- a function is leant on by nothing -/
theorem apt_fun (t : TabX T g) (G : Good g ρ b σ H H0) {f cc : Addr} {qn : Str} {pr : Arguments} {bd : Expr} {sco : Scope} {cls : List (Str × Addr)} (h : H f = some (FunO f qn pr bd sco cls cc)) (h0 : H0 f = none) (hρ : ρ.map noOdc = ρ) : Apt g ρ σ H0 f := by
  obtain ⟨x, y, hb⟩ := t.draw
  have B0 : BoxOk ⟨g.k.K, .draw x y, g.k.z⟩ H0 H b := by
    have := G.box
    obtain ⟨⟨K, bx, z⟩, Hs, H0s, n⟩ := g
    have hb : bx = .draw x y := hb
    subst hb
    exact this
  refine ⟨h0, fun i => ?_, fun j o => ?_⟩
  · rw [hb] at i
    obtain ⟨_, us, e⟩ := box_lst B0 f i
    rw [h] at e; cases e
  · rw [← hρ] at o
    obtain ⟨o1, ds, hd⟩ := noOdc_own o
    have q := G.slot j
    rw [hd] at q
    obtain ⟨l', us, p1, p2, p3, p4⟩ := q
    rw [o1.2] at p1
    cases p1
    rw [h] at p3; cases p3
end
/-- the list at slot il keeps the lambdas ws; those from n on are still told of -/
structure KeepW (X : Cx) (il n : Nat) (ws : List Wk) (g : Cfg) (ρ : En) (σ : L2.St) (H H0 : Hp) (l : Addr) (fs : List (Addr × Addr)) : Prop where
  slot : σ[il]? = some (some (.ref l))
  lst : H l = some (.lst (fs.map fun p => V.ref p.1))
  apt : Apt g ρ σ H0 l
  len : fs.length = ws.length
  nd : (fs.map (·.1)).Nodup
  fn : ∀ (j : Nat) (p : Addr × Addr) (w : Wk), n ≤ j → fs[j]? = some p → ws[j]? = some w → H p.1 = some (FunW X w p.1 p.2) ∧ H p.2 = some (CodeO p.2 (qLam X)) ∧ H0 p.1 = none
def TKW (X : Cx) (T : List (Addr × Str)) (K : PySem.W.Frag) (bx : Bk) (n0 k il : Nat) (fbs : List (Fx D)) (kk : Fs) : TS := fun Dd σ H => ∃ (ws : List Wk) (Hs H0s : Hp) (ρ : En) (b : Bx) (H0 : Hp) (l : Addr) (fs : List (Addr × Addr)), ws.map (·.fb) = fbs ∧ (∀ w ∈ ws, WkOk X k w) ∧ TabX T (mkG K bx (fun _ => false) n0 Hs H0s) ∧ Good (mkG K bx (fun _ => false) n0 Hs H0s) ρ b σ H H0 ∧ ρ.map noOdc = ρ ∧
  KeepW X il 0 ws (mkG K bx (fun _ => false) n0 Hs H0s) ρ σ H H0 l fs ∧ OutJ (kk ρ b) Dd
def kLamNew (il : Nat) (kk : Fs) : Fs := fun ρ b => if il < ρ.length then kk ((ρ.map noOdc).set il .no) b else .bad
section
variable {X : Cx} {g : Cfg} {ss : List Stmt} {kk : Fs} {t : Str} {T : List (Addr × Str)} {co Pt : Addr} {k il : Nat} {pr : Arguments} {bd : Expr} {sco : Scope} {fb : Fx D} {fbs : List (Fx D)} {lp lpos tp pos p1 p2 apos : Pos}
/-- t = [lambda: ..] -/
theorem pbj_lamNew (il : Nat) (tx : TabX T g) (tb : TabB X.base X.mg co Pt) (hco : X.env.code = .ref co) (hT : T = [(Pt, X.env.qual ++ "<lambda>")]) (wk : WkOk X k ⟨pr, bd, sco, fb⟩) (hnd : X.N.Nodup) (hrest : PSs X ss (TKW X T g.k.K g.k.bx g.n k il [fb] kk)) (hN : X.N[il]? = some t := by rfl)
    (hx : Loc X.env.scope t := by first | exact Or.inl rfl | exact Or.inr rfl) (hs : swapsWith (.List [.Lambda pr bd sco lp] lpos) (some (.Name t tp)) pos.line X.env = pure false := by rfl)
    (hf : X.fn t = true ∨ X.env.scope.names.lookup t = some .local := by first | exact .inl rfl | exact .inr rfl | assumption)
    (he : starEach [.Lambda pr bd sco lp] X.env = (false, eval (.Lambda pr bd sco lp) X.env) :: starEach [] X.env := by rfl) :
    PBJ X g (.Assign [.Name t tp] (.List [.Lambda pr bd sco lp] lpos) pos :: ss) (kLamNew il kk) := by
  refine pss_imp (pss_cons (ps_set hnd hN hx (pe_lst (pa_cons (pe_lm tb hco hT wk.df wk.sc) pa_nil he)) hs hf) hrest) ?_
  rintro Dd σ H ⟨ρ, b, H0, G, F⟩
  unfold kLamNew at F
  split at F
  rotate_left
  · exact F.elim
  rename_i hil
  obtain ⟨hTb, hN0⟩ := tx.now G
  refine ⟨hTb, fun f cc H1 hf0 eN T1 hF hC => ⟨by show 1 ≤ sizeLine; decide, fun l hl => ?_⟩⟩
  have kp : ∀ c u, H1 c = some u → L2.upd H1 l (.lst [.ref f]) c = some u := fun c u q => by rw [upd_ne (ne_of_none q hl)]; exact q
  obtain ⟨G2, t2⟩ := re_good3 tx G (H1 := L2.upd H1 l (.lst [.ref f])) (fun c u q n _ => kp c u (eN c u q n)) (T1.ext kp)
  have nt : ∀ {c : Addr}, (∀ u, H c = some u → (∀ ps, u ≠ .tbl ps) → False) → ntH H0 c = none := fun {c} z => by
    cases q : ntH H0 c with
    | none => rfl
    | some u =>
      obtain ⟨q1, q2⟩ := ntH_some q
      exact (z u (G.sub c u q1) q2).elim
  have fl : f ≠ l := fun z => by rw [z, hl] at hF; cases hF
  refine ⟨[⟨pr, bd, sco, fb⟩], _, _, _, b, ntH H0, l, [(f, cc)], rfl, fun w hw => by rw [List.mem_singleton.mp hw]; exact wk, t2, G2.setN, noOdc_set (noOdc2 ρ) il, ⟨?_, upd_same, ⟨nt fun u q n => ?_, fun i => ?_, fun j o => ?_⟩, rfl, by simp, fun j p w' _ hp hw => ?_⟩, F⟩
  · rw [List.getElem?_set_self (by rw [← G.len]; exact hil)]
  · have := eN l u q n
    rw [hl] at this; cases this
  · obtain ⟨us, q⟩ := t2.box l i
    have i' : InB g.k.bx l := i
    have hh := (G.box.at i').2
    obtain ⟨us2, q2⟩ := tx.box l i'
    cases q3 : H l with
    | none => exact hh q3
    | some u =>
      by_cases tb : ∃ ps, u = .tbl ps
      · obtain ⟨ps, rfl⟩ := tb
        obtain ⟨x, y, hb⟩ := tx.draw
        have B0 : BoxOk ⟨g.k.K, .draw x y, g.k.z⟩ H0 H b := by
          have := G.box
          obtain ⟨⟨K, bx, z⟩, Hs, H0s, n⟩ := g
          have hb : bx = .draw x y := hb
          subst hb
          exact this
        rw [hb] at i'
        obtain ⟨_, us3, e3⟩ := box_lst B0 l i'
        rw [q3] at e3; cases e3
      · have := eN l u q3 fun ps z => tb ⟨ps, z⟩
        rw [hl] at this; cases this
  · obtain ⟨⟨s, e1, eo⟩, e2⟩ := o
    rw [set_get] at e1 e2
    split at e1
    · cases e1; cases eo
    · rename_i hn
      rw [if_neg (by rw [← G2.len]; exact hn)] at e2
      have o2 : OwnAt (ρ.map noOdc) σ j l := ⟨⟨s, e1, eo⟩, e2⟩
      obtain ⟨o1, ds, hd⟩ := noOdc_own o2
      have q := G.slot j
      rw [hd] at q
      obtain ⟨l', us, p1, p2, p3, p4⟩ := q
      rw [o1.2] at p1
      cases p1
      have := eN l _ p3 fun _ z => by cases z
      rw [hl] at this; cases this
  · cases j with
    | zero =>
      cases hp
      cases hw
      refine ⟨kp _ _ hF, kp _ _ hC, nt fun u q n => ?_⟩
      rw [hf0] at q; cases q
    | succ j => simp at hp
/-- t.append(lambda: ..) -/
theorem pss_lamApp {K : PySem.W.Frag} {bx : Bk} {n0 : Nat} (tb : TabB X.base X.mg co Pt) (hco : X.env.code = .ref co) (hT : T = [(Pt, X.env.qual ++ "<lambda>")]) (wk : WkOk X k ⟨pr, bd, sco, fb⟩) (hw : fbs.length < 1000) (hrest : PSs X ss (TKW X T K bx n0 k il (fbs ++ [fb]) kk)) (hN : X.N[il]? = some t := by rfl)
    (hv : Vis X.env.scope t := by first | exact Or.inl rfl | exact Or.inr (Or.inl rfl) | exact Or.inr (Or.inr rfl)) (hd : (t == ("__debug__" : Str)) = false := by decide) (hcd : (t == ("__classdict__" : Str)) = false := by decide)
    (hbase : attributeBase (.Name t p1) "append" X.env (eval (.Name t p1) X.env) = eval (.Name t p1) X.env := by rfl)
    (hfew : ((backTo p2 (starEach [.Lambda pr bd sco lp] X.env)).all (fun x => !x.1) && (backToKw p2 (keywordEach [] X.env)).all (fun x => x.1.isSome) && decide (([.Lambda pr bd sco lp] : List Expr).length + ([] : List Keyword).length + (if ([] : List Keyword).isEmpty then 0 else 1) < 30)) = true := by rfl)
    (hline : (apos.endLine == p2.line) = true := by rfl) (hs : starEach [.Lambda pr bd sco lp] X.env = (false, eval (.Lambda pr bd sco lp) X.env) :: starEach [] X.env := by rfl) (hplain : (backTo p2 (starEach [] X.env)).any (·.1) = false := by rfl)
    (hsw : swapsWith (.Call (.Attribute (.Name t p1) "append" apos) [.Lambda pr bd sco lp] [] p2) none pos.line X.env = pure false := by rfl) :
    PSs X (.Expr (.Call (.Attribute (.Name t p1) "append" apos) [.Lambda pr bd sco lp] [] p2) pos :: ss) (TKW X T K bx n0 k il fbs kk) := by
  refine pss_imp (pss_cons (ps_expr (pe_bm PySem.F.plainAttrs_list PySem.F.slot_list_append PySem.F.type_list_append mt_append (pe_var hN hv hd hcd) (pa_cons (pe_lm tb hco hT wk.df wk.sc) pa_nil hs) hbase hfew hline hs hplain) hsw) hrest) ?_
  rintro Dd σ H ⟨ws, Hs, H0s, ρ, b, H0, l, fs, rfl, oks, tx, G, hρ, KW, F⟩
  rw [List.length_map] at hw
  obtain ⟨hTb, hN0⟩ := tx.now G
  refine ⟨.ref l, KW.slot, .inl ⟨rfl, _, .inl (.inl KW.lst)⟩, hTb, fun f cc H1 hf0 eN T1 hF hC => ?_⟩
  have l1 : H1 l = some (.lst (fs.map fun p => V.ref p.1)) := eN _ _ KW.lst fun _ z => by cases z
  refine ⟨l, _, .ref f, rfl, rfl, l1, by rw [List.length_map, KW.len]; exact Nat.lt_of_lt_of_le hw (by decide), ?_⟩
  obtain ⟨G2, t2⟩ := re_good3 tx G (H1 := L2.upd H1 l (.lst ((fs.map fun p => V.ref p.1) ++ [.ref f]))) (fun c u q n na => by
    rw [upd_ne (fun z => na (by rw [z]; exact KW.apt))]; exact eN c u q n) (tabs_upd T1 l1)
  have fl : f ≠ l := fun z => by rw [z, KW.lst] at hf0; cases hf0
  have sub : ∀ {c : Addr}, H0 c = none → ntH H0 c = none := fun z => ntH_none z
  rw [hρ] at G2 t2
  refine ⟨ws ++ [⟨pr, bd, sco, fb⟩], _, _, ρ, b, ntH H0, l, fs ++ [(f, cc)], by rw [List.map_append]; rfl, fun w hw => (List.mem_append.mp hw).elim (oks w) fun hw => by rw [List.mem_singleton.mp hw]; exact wk, t2, G2, hρ, ⟨KW.slot, by rw [upd_same, List.map_append]; rfl, ?_, by rw [List.length_append, List.length_append, KW.len]; rfl, ?_, fun j p w' _ hp hw' => ?_⟩, F⟩
  · exact ⟨ntH_none KW.apt.frz, KW.apt.box, KW.apt.own⟩
  · rw [List.map_append, List.nodup_append]
    refine ⟨KW.nd, by simp, fun a ha c hc e => ?_⟩
    simp at hc
    subst hc e
    obtain ⟨p, hp, rfl⟩ := List.mem_map.mp ha
    obtain ⟨j, hj, ej⟩ := List.getElem_of_mem hp
    have := (KW.fn j p (ws[j]'(by rw [← KW.len]; exact hj)) (Nat.zero_le _) (by rw [List.getElem?_eq_getElem hj, ej]) (List.getElem?_eq_getElem (by rw [← KW.len]; exact hj))).1
    rw [hf0] at this; cases this
  · by_cases hj : j < fs.length
    · rw [List.getElem?_append_left hj] at hp
      rw [List.getElem?_append_left (by rw [← KW.len]; exact hj)] at hw'
      obtain ⟨a1, a2, a3⟩ := KW.fn j p w' (Nat.zero_le _) hp hw'
      have b1 := eN _ _ a1 fun _ z => by cases z
      have b2 := eN _ _ a2 codeO_ne
      exact ⟨by rw [upd_ne (fun z => by rw [z, l1] at b1; cases b1)]; exact b1, by rw [upd_ne (fun z => by rw [z, l1] at b2; exact codeO_lst _ (Option.some.inj b2).symm)]; exact b2, ntH_none a3⟩
    · have hj' : fs.length ≤ j := Nat.le_of_not_lt hj
      rw [List.getElem?_append_right hj'] at hp
      rw [List.getElem?_append_right (by rw [← KW.len]; exact hj')] at hw'
      have ej : j - ws.length = j - fs.length := by rw [KW.len]
      rw [ej] at hw'
      cases hn : j - fs.length with
      | zero =>
        rw [hn] at hp hw'
        cases hp
        cases hw'
        exact ⟨by rw [upd_ne fl]; exact hF, by rw [upd_ne (fun z => by have z : cc = l := z; rw [z, l1] at hC; exact codeO_lst _ (Option.some.inj hC).symm)]; exact hC, ntH_none (G.sub.free hf0)⟩
      | succ m => rw [hn] at hp; simp at hp
end
end Fw
set_option Elab.async false
set_option linter.all false
set_option maxRecDepth 100000
set_option maxHeartbeats 1000000
/-! Fw43: each kept lambda is called in a comprehension's test. -/
namespace Fw
open PySem PySem.Spec PyProof.Rows L2 LamX
/-- all kept lambdas handed over, one after the other, none of the tests true -/
def lamAll (R : (Bx → Res D) → Addr → Bx → Out) (f2 : Fx D) (iw : Nat) (ρ : En) : List (Fx D) → Bx → Option Bx
  | [], b => some b
  | fb :: r, b => match valO (R (fun b' => fb ρ b') 0 b) with
    | .ok d b1 => (match f2 ((wipeE ρ [iw]).set iw .no) b1 with
      | .ok d2 b2 => (match eqD true d d2 with
        | some (.bl false) => lamAll R f2 iw ρ r b2
        | _ => none)
      | _ => none)
    | _ => none
theorem lamAll_cons {R : (Bx → Res D) → Addr → Bx → Out} {f2 : Fx D} {iw : Nat} {ρ : En} {fb : Fx D} {r : List (Fx D)} {b bF : Bx} (h : lamAll R f2 iw ρ (fb :: r) b = some bF) : ∃ d b1 d2 b2, valO (R (fun b' => fb ρ b') 0 b) = .ok d b1 ∧ f2 ((wipeE ρ [iw]).set iw .no) b1 = .ok d2 b2 ∧ eqD true d d2 = some (.bl false) ∧ lamAll R f2 iw ρ r b2 = some bF := by
  unfold lamAll at h
  split at h
  · rename_i d b1 e1
    split at h
    · rename_i d2 b2 e2
      split at h
      · rename_i e3
        exact ⟨d, b1, d2, b2, e1, e2, e3, h⟩
      · cases h
    · cases h
  · cases h
/-- if [t for t in list if x(t) != e2] != []: return False -/
def kLamAll (R : (Bx → Res D) → Addr → Bx → Out) (f2 : Fx D) (iw : Nat) (fbs : List (Fx D)) (kk : Fs) : Fs := fun ρ b => if iw < ρ.length then (match lamAll R f2 iw ρ fbs b with
  | some b2 => kk ρ b2
  | none => .bad) else .bad
/-- return [t for t in list if x(t) != e2] == [] -/
def kLamEnd (R : (Bx → Res D) → Addr → Bx → Out) (f2 : Fx D) (iw : Nat) (fbs : List (Fx D)) : Fs := fun ρ b => if iw < ρ.length then (match lamAll R f2 iw ρ fbs b with
  | some b2 => .rt (.bl true) b2
  | none => .bad) else .bad
theorem emp_emp {K : PySem.W.Frag} {H : Hp} {a p : Addr} (h1 : H a = some (.lst [])) (h2 : H p = some (.lst [])) : Dp K H (.ref a) (.list []) ∧ Dp K H (.ref p) (.list []) := ⟨.lst (.inl (.inl h1)) .nil, .lst (.inl (.inl h2)) .nil⟩
section
variable {X : Cx} {K : PySem.W.Frag} {bx : Bk} {n0 il iw k : Nat} {T : List (Addr × Str)} {ws : List Wk} {R : (Bx → Res D) → Addr → Bx → Out} {f2 : Fx D} {x a : Str}
/-- what stands behind the i-th turn -/
def LSt (X : Cx) (T : List (Addr × Str)) (K : PySem.W.Frag) (bx : Bk) (n0 il iw : Nat) (ws : List Wk) (R : (Bx → Res D) → Addr → Bx → Out) (f2 : Fx D) (ρ : En) (σ : L2.St) (l acc : Addr) (fs : List (Addr × Addr)) (bF : Bx) (i : Nat) (H : Hp) : Prop :=
  ∃ Hs H0s b H0, TabX T (mkG K bx (fun _ => false) n0 Hs H0s) ∧ Good (mkG K bx (fun _ => false) n0 Hs H0s) ρ b σ H H0 ∧ KeepW X il i ws (mkG K bx (fun _ => false) n0 Hs H0s) ρ σ H H0 l fs ∧ H acc = some (.lst []) ∧ Apt (mkG K bx (fun _ => false) n0 Hs H0s) ρ σ H0 acc ∧ lamAll R f2 iw ρ ((ws.drop i).map (·.fb)) b = some bF
theorem Apt.tr {g : Cfg} {ρ : En} {σ : L2.St} {H0 H H0' H' : Hp} {l : Addr} (a : Apt g ρ σ H0 l) (t : Tr g.k.bx H0 H H0' H') (h : H l ≠ none) : Apt g ρ σ H0' l := ⟨t.new l a.frz h a.box, a.box, a.own⟩
theorem lam_turn (hK : X.K = K) (rd : RefD X.K X.mg x a R) (ok : ∀ w ∈ ws, WkOk X k w) {ρ : En} {σ : L2.St} {l acc : Addr} {fs : List (Addr × Addr)} {bF : Bx} {i : Nat} {H : Hp} (hρ : ρ.map noOdc = ρ) (hiw : iw < ρ.length) (hi : i < ws.length) (S : LSt X T K bx n0 il iw ws R f2 ρ σ l acc fs bF i H) (p : Addr × Addr) (hp : fs[i]? = some p)
    {Q : Bool → Hp → Prop} (hQ : ∀ H', LSt X T K bx n0 il iw ws R f2 ρ σ l acc fs bF (i + 1) H' → Q false H') :
    tTest (tOp (rNeD X.K) (tWk X k R iw σ) (tRe K bx n0 f2)) ((L2.wipe σ [iw]).set iw (some (.ref p.1))) H Q := by
  obtain ⟨Hs, H0s, b, H0, tx, G, KW, hacc, aacc, hL⟩ := S
  have hw : ws[i]? = some ws[i] := List.getElem?_eq_getElem hi
  have hdr : ws.drop i = ws[i] :: ws.drop (i + 1) := List.drop_eq_getElem_cons hi
  have wok := ok _ (List.getElem_mem hi)
  rw [hdr, List.map_cons] at hL
  generalize ws[i] = w at hw hL wok
  obtain ⟨d, b1, d2, b2, hR, h2, ho, hL'⟩ := lamAll_cons hL
  obtain ⟨hF, hC, hf0⟩ := KW.fn i p w (Nat.le_refl _) hp hw
  have af := apt_fun tx G hF hf0 hρ
  obtain ⟨hTb, hN0⟩ := tx.now G
  obtain ⟨G1, t1⟩ := re_good3 tx G (H1 := offH H p.1) (fun c u q _ na => by rw [offH_ne (fun z => na (by rw [z]; exact af))]; exact q) (tabs_off hTb hF)
  rw [hρ] at G1 t1
  have K1 : ∀ c u, H c = some u → c ≠ p.1 → offH H p.1 c = some u := fun c u q n => by rw [offH_ne n]; exact q
  have lne : l ≠ p.1 := fun z => by have := KW.lst; rw [z, hF] at this; cases this
  have ane : acc ≠ p.1 := fun z => by rw [z, hF] at hacc; cases hacc
  have apt1 : ∀ {c}, Apt (mkG K bx (fun _ => false) n0 Hs H0s) ρ σ H0 c → Apt (mkG K bx (fun _ => false) n0 (heldOff ρ σ (offH H p.1)) (ntH H0)) ρ σ (ntH H0) c := fun q => ⟨ntH_none q.frz, q.box, q.own⟩
  have al := apt1 KW.apt
  have aa := apt1 aacc
  have hfr : ∀ {c}, H0 c = none → ntH H0 c = none := fun q => ntH_none q
  generalize heldOff ρ σ (offH H p.1) = Hs1 at G1 t1 al aa
  generalize ntH H0 = H01 at G1 t1 al aa hfr
  have lenσ : iw < σ.length := by rw [← G.len]; exact hiw
  refine ⟨p.1, p.2, w, ?_, hF, hC, wok, ?_⟩
  · rw [List.getElem?_set_self]
    rw [wipe_length]; exact lenσ
  refine ⟨mkG K bx (fun _ => false) n0 Hs1 H01, σ, ρ, b, H01, hK.symm, rfl, t1.draw, G1, fun E H' Q' z => ⟨bx, fun _ => false, n0, Hs1, H01, by rw [hK]; exact z⟩, fun f => ?_⟩
  rw [rd.ind]
  have fin : ∀ (v : V) (H2 H02 : Hp), Tr bx H01 (offH H p.1) H02 H2 → BoxOk ⟨K, bx, fun _ => false⟩ H02 H2 b1 → Is ⟨K, bx, fun _ => false⟩ H02 d v → tRe K bx n0 f2 ((L2.wipe σ [iw]).set iw (some (.ref p.1))) H2 fun u H3 => rNeD X.K v u H3 fun y H4 => ∃ c, y = .bl c ∧ Q c H4 := by
    intro v H2 H02 tt B iv
    have G2 := G1.step tt B
    have Gτ : Good (mkG K bx (fun _ => false) n0 Hs1 H01) ((wipeE ρ [iw]).set iw .no) b1 ((L2.wipe σ [iw]).set iw (some (.ref p.1))) H2 H02 := (G2.wipe [iw]).setN
    refine ⟨Hs1, H01, _, b1, H02, Gτ, ?_⟩
    rw [h2]
    intro H03 H3 t3 B3 u iu
    have G3 := G2.step t3 B3
    rw [hK]
    refine opd_ne H03 H3 d d2 (.bl false) v u t3.sub (fun c e => absurd e Bool.false_ne_true) (iv.mono t3.ext) iu ho _ fun y H04 H4 t4 iy => ?_
    cases iy
    refine ⟨false, rfl, hQ H4 ?_⟩
    have G4 := G3.step t4.weak (B3.keep t4)
    have t14 : Tr bx H01 (offH H p.1) H04 H4 := (tt.trans t3).trans t4.weak
    have kp : ∀ {c u}, H c = some u → c ≠ p.1 → ¬ InB bx c → H4 c = some u := fun {c u} q n nb => t14.keep c u (K1 c u q n) nb
    refine ⟨Hs1, H01, b2, H04, t1, G4, ⟨KW.slot, kp KW.lst lne KW.apt.box, al.tr (H := offH H p.1) t14 (by rw [K1 _ _ KW.lst lne]; simp), KW.len, KW.nd, fun j q w' hj hq hw' => ?_⟩, kp hacc ane aacc.box, aa.tr (H := offH H p.1) t14 (by rw [K1 _ _ hacc ane]; simp), hL'⟩
    obtain ⟨a1, a2, a3⟩ := KW.fn j q w' (by omega) hq hw'
    have aq := apt_fun tx G a1 a3 hρ
    have qne : q.1 ≠ p.1 := fun z => by
      have e1 : (fs.map (·.1))[i]? = some p.1 := by rw [List.getElem?_map, hp]; rfl
      have e2 : (fs.map (·.1))[j]? = some p.1 := by rw [List.getElem?_map, hq, ← z]; rfl
      obtain ⟨g1, w1⟩ := List.getElem?_eq_some_iff.mp e1
      obtain ⟨g2, w2⟩ := List.getElem?_eq_some_iff.mp e2
      have := (List.getElem_inj KW.nd).mp (w1.trans w2.symm)
      omega
    have cne : q.2 ≠ p.1 := fun z => by rw [z] at a2; exact funO_codeO hF a2
    have cnb : ¬ InB bx q.2 := fun ib => by
      obtain ⟨us, e⟩ : ∃ us, H q.2 = some (.lst us) := by
        obtain ⟨x1, y1, hb⟩ := tx.draw
        have hb : bx = .draw x1 y1 := hb
        subst hb
        have B0 : BoxOk ⟨K, .draw x1 y1, fun _ => false⟩ H0 H b := G.box
        exact (box_lst B0 q.2 ib).2
      rw [a2] at e
      exact codeO_lst us (Option.some.inj e)
    exact ⟨kp a1 qne aq.box, kp a2 cne cnb, t14.new q.1 (hfr a3) (by rw [K1 _ _ a1 qne]; simp) aq.box⟩
  cases hFr : R (fun b' => w.fb ρ b') 0 b with
  | rt d' b' =>
    rw [hFr] at hR
    cases hR
    exact fun v H02 H2 tt B iv => fin v H2 H02 tt B iv
  | rto xs b' =>
    rw [hFr] at hR
    cases hR
    intro r us H02 H2 tt B hln h0 hl il'
    have e0 : Same H02 (L2.upd H02 r (.lst us)) := fun a u q => by rw [upd_ne (ne_of_none q h0)]; exact q
    have nbl : ¬ InB bx r := fun i => (G1.box.at i).2 hln
    exact fin (.ref r) H2 _ (tt.frz1 hln h0 hl) (B.frz h0 nbl) (.lst upd_same rfl (il'.mono e0))
  | nx ρ' b' =>
    rw [hFr] at hR
    cases hR
    exact fun H02 H2 tt B => fin .non H2 H02 tt B .non
  | _ => rw [hFr] at hR; cases hR
/-- the whole comprehension -/
theorem lam_loop (hK : X.K = K) (rd : RefD X.K X.mg x a R) (ok : ∀ w ∈ ws, WkOk X k w) {mine : List (Str × Nat)} (hm : mine.map (·.2) = [iw]) {σ : L2.St} {H : Hp} {r2 : R2} {Q : VK} {v : Bool}
    {Hs H0s : Hp} {ρ : En} {b bF : Bx} {H0 : Hp} {l : Addr} {fs : List (Addr × Addr)} (tx : TabX T (mkG K bx (fun _ => false) n0 Hs H0s)) (G : Good (mkG K bx (fun _ => false) n0 Hs H0s) ρ b σ H H0) (hρ : ρ.map noOdc = ρ) (KW : KeepW X il 0 ws (mkG K bx (fun _ => false) n0 Hs H0s) ρ σ H H0 l fs)
    (hiw : iw < ρ.length) (hL : lamAll R f2 iw ρ (ws.map (·.fb)) b = some bF)
    (hr : ∀ acc p H2, H2 acc = some (.lst []) → H2 p = some (.lst []) → Q (.bl v) H2 → r2 (.ref acc) (.ref p) H2 Q)
    (hQ : ∀ Hs' H0s' H' H0', TabX T (mkG K bx (fun _ => false) n0 Hs' H0s') → Good (mkG K bx (fun _ => false) n0 Hs' H0s') ρ bF σ H' H0' → Q (.bl v) H') :
    (tOp r2 (fun σ H Q => tLc (iList X.K (tVar il)) (gName iw) (tTest (tOp (rNeD X.K) (tWk X k R iw σ) (tRe K bx n0 f2))) (fun _ _ _ => False) (mine.map (·.2)) σ H Q) (tLst tNil)) σ H Q := by
  refine ⟨.ref l, KW.slot, l, rfl, ⟨_, .inl (.inl KW.lst)⟩, fun acc hacc => ?_⟩
  rw [hm]
  refine ⟨fun i m H => m = ws.length - i ∧ i ≤ ws.length ∧ LSt X T K bx n0 il iw ws R f2 ρ σ l acc fs bF i H, ⟨_, rfl, Nat.zero_le _, ?_⟩, ?_⟩
  · have kp : ∀ c u, H c = some u → L2.upd H acc (.lst []) c = some u := fun c u q => by rw [upd_ne (ne_of_none q hacc)]; exact q
    obtain ⟨hTb, _⟩ := tx.now G
    obtain ⟨G1, t1⟩ := re_good3 tx G (H1 := L2.upd H acc (.lst [])) (fun c u q _ _ => kp c u q) (hTb.ext kp)
    rw [hρ] at G1 t1
    refine ⟨_, _, b, ntH H0, t1, G1, ⟨KW.slot, kp _ _ KW.lst, ⟨ntH_none KW.apt.frz, KW.apt.box, KW.apt.own⟩, KW.len, KW.nd, fun j p w hj hp hw => ?_⟩, upd_same, ⟨ntH_none (G.sub.free hacc), fun i => ?_, fun j o => ?_⟩, hL⟩
    · obtain ⟨a1, a2, a3⟩ := KW.fn j p w hj hp hw
      exact ⟨kp _ _ a1, kp _ _ a2, ntH_none a3⟩
    · exact (G.box.at i).2 hacc
    · exact (G.held o).2 hacc
  · rintro i m H5 ⟨rfl, hi, S⟩
    have S0 := S
    obtain ⟨Hs5, H0s5, b5, H05, tx5, G5, KW5, hacc5, aacc5, hL5⟩ := S0
    have hlst : SqL X.K H5 l (fs.map fun p => V.ref p.1) := .inl (.inl KW5.lst)
    by_cases hlt : i < ws.length
    · have hlf : i < fs.length := by rw [KW5.len]; exact hlt
      have hp : fs[i]? = some fs[i] := List.getElem?_eq_getElem hlf
      have hv : (fs.map fun p => V.ref p.1)[i]? = some (.ref fs[i].1) := by rw [List.getElem?_map, hp]; rfl
      refine .inr ⟨⟨_, _, hlst, hv⟩, LSt X T K bx n0 il iw ws R f2 ρ σ l acc fs bF (i + 1), fun H' z => ⟨ws.length - (i + 1), by omega, rfl, hlt, z⟩, ?_⟩
      rintro x' H' ⟨rfl, yy⟩
      have ex : x' = .ref fs[i].1 := by
        have := yy _ hlst
        rw [hv] at this
        exact (Option.some.inj this).symm
      subst ex
      refine ⟨by rw [wipe_in (List.mem_singleton.mpr rfl), wipe2], ?_⟩
      refine lam_turn hK rd ok hρ hiw hlt S fs[i] hp fun H'' S' => ?_
      show (if false = true then _ else _)
      rw [if_neg Bool.false_ne_true]
      exact S'
    · have e : i = ws.length := by omega
      subst e
      refine .inl ⟨⟨_, hlst, by rw [List.length_map, KW5.len]; exact Nat.le_refl _⟩, ⟨Nat.zero_le _, fun p hp => ?_⟩⟩
      rw [List.drop_length] at hL5
      have hL5 : some b5 = some bF := hL5
      cases hL5
      have ta := Tr.allocO (o := .lst []) G5.sub hp
      have G6 := G5.step ta.weak (G5.box.keep ta)
      exact hr acc p _ (by rw [upd_ne (fun z => by rw [z, hp] at hacc5; cases hacc5)]; exact hacc5) upd_same (hQ _ _ _ _ tx5 G6)
theorem emp_ne {K : PySem.W.Frag} {acc p : Addr} {H2 : Hp} {Q : VK} (h1 : H2 acc = some (.lst [])) (h2 : H2 p = some (.lst [])) (q : Q (.bl false) H2) : rNeD K (.ref acc) (.ref p) H2 Q := ⟨_, _, (emp_emp h1 h2).1, (emp_emp h1 h2).2, by decide, by decide, q⟩
theorem emp_eq {K : PySem.W.Frag} {acc p : Addr} {H2 : Hp} {Q : VK} (h1 : H2 acc = some (.lst [])) (h2 : H2 p = some (.lst [])) (q : Q (.bl true) H2) : rEqD K (.ref acc) (.ref p) H2 Q := ⟨_, _, (emp_emp h1 h2).1, (emp_emp h1 h2).2, by decide, by decide, q⟩
variable {fbs : List (Fx D)} {ss body2 : List Stmt} {kk : Fs} {wn t : Str} {sco : Scope} {mine : List (Str × Nat)} {ee : Expr} {k2 : Nat} {q1 q2 q3 q4 q5 p p2 pc cp lcp lp cpos pos2 : Pos}
theorem pe_works (hc : X.calm = true) (hnd : X.N.Nodup) (hr : Room k2 X.A) (bk : BlkOk X.N X.env.scope sco mine) (hNt : X.N[il]? = some t) (hvt : Vis X.env.scope t) (hdt : (t == ("__debug__" : Str)) = false) (hct : (t == ("__classdict__" : Str)) = false)
    (hgt : ∀ (sx : Shared) (Hx : Hp) (C : Addr) (cs : List (Str × Addr)) (fr : List Addr), PG (X.blk sx Hx sco (compEnvC sco cs C X.env) fr) (.Name wn q2) (gName iw))
    (hwk : ∀ (pins : List (Addr × Obj)) (σ : L2.St) (sx : Shared) (Hx : Hp) (C : Addr) (cs : List (Str × Addr)) (fr : List Addr), Back X pins σ (X.blk sx Hx sco (compEnvC sco cs C X.env) fr) → PE (X.blk sx Hx sco (compEnvC sco cs C X.env) fr) (.Call (.Name x p) [.Name wn p2] [] pc) (tWk X k R iw σ))
    (he2 : ∀ (sx : Shared) (Hx : Hp) (C : Addr) (cs : List (Str × Addr)) (fr : List Addr) (Hs H0s : Hp), PX (X.blk sx Hx sco (compEnvC sco cs C X.env) fr) (mkG K bx (fun _ => false) n0 Hs H0s) W0 ee f2)
    (hm2 : behindInMarks .NotEq ee = false) (hfs : ∀ x, foldedSetIterable (.Name t q3) X.env x = pure x) :
    PE X (.ListComp (.Name wn q1) [⟨.Name wn q2, .Name t q3, [.Compare (.Call (.Name x p) [.Name wn p2] [] pc) [.NotEq] [ee] cp], 0⟩] sco lcp) (fun σ H Q => tLc (iList X.K (tVar il)) (gName iw) (tTest (tOp (rNeD X.K) (tWk X k R iw σ) (tRe K bx n0 f2))) (fun _ _ _ => False) (mine.map (·.2)) σ H Q) := by
  refine pe_lcB hc hnd (pi_list (pe_var hNt hvt hdt hct)) bk hgt (fun pins σ sx Hx C cs fr back => pts_one (pt_cmpR (op_neD (X := X.blk sx Hx sco (compEnvC sco cs C X.env) fr) hr.units) (hwk pins σ sx Hx C cs fr back) ?_ hm2)) (fun _ _ _ _ _ => ⟨fun _ _ _ _ _ _ z => z.elim⟩) hfs
  exact ⟨fun pins s σ H Q I ⟨Hs', H0s', z⟩ => (he2 sx Hx C cs fr Hs' H0s').run pins s σ H Q I z⟩
theorem pss_lamIf (hK : X.K = K) (rd : RefD X.K X.mg x a R) (hm : mine.map (·.2) = [iw]) (hc : X.calm = true) (hnd : X.N.Nodup) (hr : Room k2 X.A) (bk : BlkOk X.N X.env.scope sco mine)
    (hgt : ∀ (sx : Shared) (Hx : Hp) (C : Addr) (cs : List (Str × Addr)) (fr : List Addr), PG (X.blk sx Hx sco (compEnvC sco cs C X.env) fr) (.Name wn q2) (gName iw))
    (hwk : ∀ (pins : List (Addr × Obj)) (σ : L2.St) (sx : Shared) (Hx : Hp) (C : Addr) (cs : List (Str × Addr)) (fr : List Addr), Back X pins σ (X.blk sx Hx sco (compEnvC sco cs C X.env) fr) → PE (X.blk sx Hx sco (compEnvC sco cs C X.env) fr) (.Call (.Name x p) [.Name wn p2] [] pc) (tWk X k R iw σ))
    (he2 : ∀ (sx : Shared) (Hx : Hp) (C : Addr) (cs : List (Str × Addr)) (fr : List Addr) (Hs H0s : Hp), PX (X.blk sx Hx sco (compEnvC sco cs C X.env) fr) (mkG K bx (fun _ => false) n0 Hs H0s) W0 ee f2)
    (hrest : ∀ Hs' H0s', TabX T (mkG K bx (fun _ => false) n0 Hs' H0s') → PBJ X (mkG K bx (fun _ => false) n0 Hs' H0s') ss kk)
    (hNt : X.N[il]? = some t := by rfl) (hvt : Vis X.env.scope t := by first | exact Or.inl rfl | exact Or.inr (Or.inl rfl) | exact Or.inr (Or.inr rfl)) (hdt : (t == ("__debug__" : Str)) = false := by decide) (hct : (t == ("__classdict__" : Str)) = false := by decide)
    (hm2 : behindInMarks .NotEq ee = false := by first | exact nomark _ | rfl) (hm1 : behindInMarks .NotEq (.List [] lp) = false := by first | exact nomark _ | rfl) (hfs : ∀ x, foldedSetIterable (.Name t q3) X.env x = pure x := by intro _; rfl) :
    PSs X (.If (.Compare (.ListComp (.Name wn q1) [⟨.Name wn q2, .Name t q3, [.Compare (.Call (.Name x p) [.Name wn p2] [] pc) [.NotEq] [ee] cp], 0⟩] sco lcp) [.NotEq] [.List [] lp] cpos) body2 [] pos2 :: ss) (TKW X T K bx n0 k il fbs (kLamAll R f2 iw fbs kk)) := by
  have pw := pe_works (q1 := q1) (q3 := q3) (cp := cp) (lcp := lcp) hc hnd hr bk hNt hvt hdt hct hgt hwk he2 hm2 hfs
  have hr' : PSs X ss (fun Dd σ H => ∃ Hs' H0s', TabX T (mkG K bx (fun _ => false) n0 Hs' H0s') ∧ TJ (mkG K bx (fun _ => false) n0 Hs' H0s') kk Dd σ H) := ⟨fun pins s σ H D I ⟨Hs', H0s', t', z⟩ => (hrest Hs' H0s' t').run pins s σ H D I z⟩
  have never : PSs X body2 (fun _ _ _ => False) := ⟨fun _ _ _ _ _ _ z => z.elim⟩
  refine pss_imp (pss_cons (ps_if (pt_cmpR (op_neD hr.units) pw (pe_lst pa_nil) hm1) never pss_nil) hr') ?_
  rintro Dd σ H ⟨ws, Hs, H0s, ρ, b, H0, l, fs, rfl, ok, tx, G, hρ, KW, F⟩
  unfold kLamAll at F
  split at F
  rotate_left
  · exact F.elim
  rename_i hiw
  split at F
  · rename_i bF hL
    refine lam_loop (v := false) (r2 := rNeD X.K) hK rd ok hm tx G hρ KW hiw hL (fun acc p H2 h1 h2 q => emp_ne h1 h2 q) fun Hs' H0s' H' H0' t' G' => ⟨false, rfl, ?_⟩
    show (if false = true then _ else _)
    rw [if_neg Bool.false_ne_true]
    exact ⟨Hs', H0s', t', ρ, bF, H0', G', F⟩
  · exact F.elim
theorem pss_lamEnd (hK : X.K = K) (rd : RefD X.K X.mg x a R) (hm : mine.map (·.2) = [iw]) (hc : X.calm = true) (hnd : X.N.Nodup) (hr : Room k2 X.A) (bk : BlkOk X.N X.env.scope sco mine)
    (hgt : ∀ (sx : Shared) (Hx : Hp) (C : Addr) (cs : List (Str × Addr)) (fr : List Addr), PG (X.blk sx Hx sco (compEnvC sco cs C X.env) fr) (.Name wn q2) (gName iw))
    (hwk : ∀ (pins : List (Addr × Obj)) (σ : L2.St) (sx : Shared) (Hx : Hp) (C : Addr) (cs : List (Str × Addr)) (fr : List Addr), Back X pins σ (X.blk sx Hx sco (compEnvC sco cs C X.env) fr) → PE (X.blk sx Hx sco (compEnvC sco cs C X.env) fr) (.Call (.Name x p) [.Name wn p2] [] pc) (tWk X k R iw σ))
    (he2 : ∀ (sx : Shared) (Hx : Hp) (C : Addr) (cs : List (Str × Addr)) (fr : List Addr) (Hs H0s : Hp), PX (X.blk sx Hx sco (compEnvC sco cs C X.env) fr) (mkG K bx (fun _ => false) n0 Hs H0s) W0 ee f2)
    (hNt : X.N[il]? = some t := by rfl) (hvt : Vis X.env.scope t := by first | exact Or.inl rfl | exact Or.inr (Or.inl rfl) | exact Or.inr (Or.inr rfl)) (hdt : (t == ("__debug__" : Str)) = false := by decide) (hct : (t == ("__classdict__" : Str)) = false := by decide)
    (hm2 : behindInMarks .NotEq ee = false := by first | exact nomark _ | rfl) (hm1 : behindInMarks .Eq (.List [] lp) = false := by first | exact nomark _ | rfl) (hfs : ∀ x, foldedSetIterable (.Name t q3) X.env x = pure x := by intro _; rfl) :
    PSs X [.Return (some (.Compare (.ListComp (.Name wn q1) [⟨.Name wn q2, .Name t q3, [.Compare (.Call (.Name x p) [.Name wn p2] [] pc) [.NotEq] [ee] cp], 0⟩] sco lcp) [.Eq] [.List [] lp] cpos)) pos2] (TKW X T K bx n0 k il fbs (kLamEnd R f2 iw fbs)) := by
  have pw := pe_works (q1 := q1) (q3 := q3) (cp := cp) (lcp := lcp) hc hnd hr bk hNt hvt hdt hct hgt hwk he2 hm2 hfs
  refine pss_imp (pss_one (ps_ret (pe_cmpR (op_eqD hr.units) pw (pe_lst pa_nil) hm1))) ?_
  rintro Dd σ H ⟨ws, Hs, H0s, ρ, b, H0, l, fs, rfl, ok, tx, G, hρ, KW, F⟩
  unfold kLamEnd at F
  split at F
  rotate_left
  · exact F.elim
  rename_i hiw
  split at F
  · rename_i bF hL
    exact lam_loop (v := true) (r2 := rEqD X.K) hK rd ok hm tx G hρ KW hiw hL (fun acc p H2 h1 h2 q => emp_eq h1 h2 q) fun Hs' H0s' H' H0' t' G' => F H'
  · exact F.elim
end
end Fw
set_option Elab.async false
set_option linter.all false
set_option maxRecDepth 100000
set_option maxHeartbeats 1000000
/-! Fw44: a new list by *, as an own one. -/
namespace Fw
open PySem PySem.Spec PyProof.Rows L2
def mulO : D → D → Option (List D)
  | .lst _ xs, .int n => if 0 ≤ n ∧ n ≤ 1000 then lim (xs.length * n.toNat) (List.replicate n.toNat xs).flatten else none
  | _, _ => none
def xMulO (f h : Fx D) : Fx (List D) := fun ρ b => (f ρ b).bind fun x b1 => (h ρ b1).bind fun y b2 => lift (mulO x y) b2
theorem wkOk {X : Cx} {k : Nat} {pr : Arguments} {bd : Expr} {sco : Scope} {fb : Fx D} (h1 : LamX.LamS X.env.scope sco) (h2 : ∀ (q : Str) (cl : List (Str × Addr)) (pm cv ctv : Value), bindArgs (PySem.W.kla_fn "<lambda>" q pr bd sco cl pm cv ctv) ⟨[], []⟩ = pure []) (h3 : defaultsOf pr X.env = ([], []))
    (h4 : ∀ (A : Around) (outer : List Env) (s : Shared) (H : Hp) (E : XK) (f c' : Addr) (bx : Bk) (z : Addr → Bool) (n0 : Nat) (Hs H0s : Hp), Room k (A.deeper (LamX.lamEnv X sco s.heap.objs.size f c')) → PX (LamX.lamCx X A outer s H E sco f c') (mkG X.K bx z n0 Hs H0s) (WXE E) bd fb) : WkOk X k ⟨pr, bd, sco, fb⟩ := ⟨h1, h2, h3, h4⟩
section
variable {X : Cx} {g : Cfg} {W : WX} {a c : Expr} {f h : Fx D} {pos : Pos}
theorem po_mulL (ha : PX X g W a f) (hc : PX X g W c h) : PN X g W (.BinOp a .Mult c pos) (xMulO f h) := by
  refine pe_imp (pe_op op_mulU ha hc) ?_
  rintro σ H Q ⟨ρ, b, H0, G, F⟩
  refine ⟨ρ, b, H0, G, F.bind.mono fun x b1 H01 H1 t1 B1 F1 vx ix => ⟨ρ, b1, H01, G.step t1 B1, F1.bind.mono fun y b2 H02 H2 t2 B2 F2 vy iy => ?_⟩⟩
  have ix2 := ix.mono t2.ext
  cases ho : mulO x y with
  | none => rw [ho] at F2; exact F2.elim
  | some zs =>
    rw [ho] at F2
    cases ix2 <;> cases iy <;> first | (cases ho; done) | skip
    rename_i a1 vs ds z1 h1 q1 l1 n
    have ho : (if 0 ≤ n ∧ n ≤ 1000 then lim (ds.length * n.toNat) (List.replicate n.toNat ds).flatten else none) = some zs := ho
    split at ho
    · rename_i hb
      obtain ⟨hz, rfl⟩ := lim_some ho
      refine .inr ⟨a1, n, vs, rfl, rfl, t2.sub _ _ h1, by omega, by omega, by rw [← l1.length]; exact sz_of hz, fun p hp => ?_⟩
      have ta := Tr.allocO (o := .lst (List.replicate n.toNat vs).flatten) t2.sub hp
      refine F2 _ _ ta.weak (B2.keep ta) p _ ?_ (t2.sub.free hp) upd_same (l1.flat _)
      cases q : H p with
      | none => rfl
      | some o => exact absurd hp (t2.there p (t1.there p (by rw [q]; simp)))
    · cases ho
end
end Fw
set_option Elab.async false
set_option linter.all false
set_option maxRecDepth 100000
set_option maxHeartbeats 1000000
/-! Fw45: three names by three values. -/
namespace Fw
open PySem PySem.Spec PyProof.Rows L2
section
variable {X : Cx} {g : Cfg} {W : WX} {e1 e2 e3 : Expr} {fl : Fx (List D)} {pos pt pt2 px py pz : Pos} {kt k2 : Nat} {x y z : Str}
theorem p1_par3 (i j l : Nat) (h : PL X g W [e1, e2, e3] fl) (hc : X.calm = true) (hN : X.N.Nodup) (hd : i ≠ j ∧ i ≠ l ∧ j ≠ l := by decide) (hi : X.N[i]? = some x := by rfl) (hj : X.N[j]? = some y := by rfl) (hl : X.N[l]? = some z := by rfl)
    (hx : X.env.scope.names.lookup x = some .local := by rfl) (hy : X.env.scope.names.lookup y = some .local := by rfl) (hz : X.env.scope.names.lookup z = some .local := by rfl)
    (hw : swappedStores [.Tuple [.Name x px, .Name y py, .Name z pz] kt pt] (.Tuple [e1, e2, e3] k2 pt2) X.env = pure (some [x, y, z]) := by rfl)
    (hs : swapsWithSole [.Tuple [.Name x px, .Name y py, .Name z pz] kt pt] (.Tuple [e1, e2, e3] k2 pt2) pos.line X.env = pure false := by rfl) :
    P1 X g W (.Assign [.Tuple [.Name x px, .Name y py, .Name z pz] kt pt] (.Tuple [e1, e2, e3] k2 pt2) pos) (kAsg (xTup (xSz fl)) (pTup [pName i, pName j, pName l])) := by
  refine ps_imp (ps_par3 hc hN hi hj hl hd.1 hd.2.1 hd.2.2 hx hy hz h hw hs) ?_
  rintro Dd σ H ⟨ρ, b, H0, G, F⟩
  refine ⟨ρ, b, H0, G, (fin_out G F).bind.bind.mono fun xs b1 H01 H1 t1 B1 F1 vs is => ?_⟩
  split at F1
  · have F1 := F1 _ _ (Tr.refl t1.sub) B1
    have F1 := F1 _ _ (Tr.refl t1.sub) B1
    cases is with
    | nil => exact F1.elim
    | cons p q =>
      cases q with
      | nil => exact F1.elim
      | cons p' q' =>
        cases q' with
        | nil => exact F1.elim
        | cons p'' q'' =>
          cases q'' with
          | nil => exact ⟨_, _, _, rfl, F1 _ H1 H01 ((((G.step t1 B1).setV p).setV p').setV p'') (Same.refl _)⟩
          | cons _ _ => exact F1.elim
  · exact F1.elim
end
end Fw
set_option Elab.async false
set_option linter.all false
set_option maxRecDepth 100000
set_option maxHeartbeats 1000000
/-! Fw46: a comprehension whose element may raise. -/
namespace Fw
open PySem PySem.Spec PyProof.Rows L2
theorem noteFrame_same {e : Value} {env env' : Env} (h : env'.frame = env.frame) : noteFrame e env' = noteFrame e env := by
  unfold noteFrame PySem.frameOf
  rw [h]
section
variable {M : Model} {A : Around} {E : Value → Shared → Prop} {s : Shared} {Z : Obj → Prop} {B : Heap} {env : Env} {outer l : List Env} {L a : Addr}
/-- noted, whatever its flight is -/
theorem look_held {fl : Value} {Q : Unit → Shared → Prop} (hZ : HandSPX.Steady Z) (hfr : A.frames = some (env :: outer)) (hf : env.frame = some L) (hkb : B.StaysIn s.heap) (hen : B.get? a = none) (hl : s.heap.FunFrames B (env :: outer)) (ht : HandSPX.TracedZ s.heap B a Z fl)
    (hQ : ∀ h', HandSPX.HeldZ B (env :: outer) a Z L h' → s.heap.UpToSlots h' → Q () { s with heap := h' }) : wpAny M A (noteFrame (.ref a) env) Q E s := by
  by_cases q : (fl == rawInt L) = true
  · have e : fl = rawInt L := eq_of_beq q
    subst e
    exact HandSPX.againZ hf ht (hQ s.heap ⟨hkb, hen, hl, ht⟩ (Heap.UpToSlots.refl _))
  · obtain ⟨oe, vs, T, oT, ts, he, hz, hd, h1, hnT, hTe, hT, hdT, h3⟩ := ht
    unfold noteFrame
    simp only [hf]
    refine wpAny_bind (wpAny_field he hd h1 ?_)
    rw [if_pos (show (Value.ref T != Value.none) = true from by simp)]
    refine wpAny_bind (wpAny_field hT hdT h3 ?_)
    rw [if_neg q]
    refine wpAny_bind (wpAny_setField hT hdT (Array.getElem?_eq_some_iff.mp h3).1 ?_)
    have other : ∀ b, b ≠ T → (s.heap.update T (Obj.mapFields (·.setIfInBounds 3 Value.none))).get? b = s.heap.get? b := fun b hb => Heap.get?_update_other _ _ (Ne.symm hb)
    have plain : ∀ b o, s.heap.get? b = some o → (∀ vs, o.data ≠ .fields vs) → b ≠ T := fun b o hb hnf z => by
      rw [z, hT] at hb; injection hb with hb; subst hb; exact hnf ts hdT
    have stays : B.StaysIn (s.heap.update T (Obj.mapFields (·.setIfInBounds 3 Value.none))) := fun b o hbo => (other b fun z => by rw [z, hnT] at hbo; cases hbo).trans (hkb b o hbo)
    refine HandSPX.wpAny_entryZ hZ hfr (hl.of_keeps fun b o hb hnf => ⟨o, (other b (plain b o hb hnf)).trans hb, rfl⟩) hf ((other a (Ne.symm hTe)).trans he) stays hen hd (Array.getElem?_eq_some_iff.mp h1).1 hz fun h' hN => ?_
    obtain ⟨x1, x2, x3, x4⟩ := hN
    exact hQ h' ⟨x1, hen, x2, x3⟩ fun b o hb hnf => x4 b o ((other b (plain b o hb hnf)).trans hb) hnf
theorem look_sky {C : Addr} {Q : Unit → Shared → Prop} (hZ : HandSPX.Steady Z) (hfr : A.frames = some (env :: outer)) (hf : env.frame = some L) (x : Sky B (env :: outer) a Z C s.heap)
    (hQ : ∀ h', HandSPX.HeldZ B (env :: outer) a Z L h' → s.heap.UpToSlots h' → Q () { s with heap := h' }) : wpAny M A (noteFrame (.ref a) env) Q E s := by
  rcases x with ⟨hB, hn, hl, oe, vs, he, hz, hd, h1⟩ | ⟨k1, k2, k3, k4⟩ | ⟨k1, k2, k3, k4⟩
  · exact HandSPX.look_newZ hZ hfr hl hf he hB hn hd h1 hz hQ
  · exact look_held hZ hfr hf k1 k2 k3 k4 hQ
  · exact look_held hZ hfr hf k1 k2 k3 k4 hQ
end
section
variable {X : Cx} {W : WX} {pins : List (Addr × Obj)} {σ : L2.St} {cy : Env} {sx s' : Shared} {Hx : Hp} {sco : Scope} {fr : List Addr} {u : Value}
/-- it goes out of the block -/
theorem comp_fails (hs : X.stack = X.env :: X.outer) (hf : X.env.frame = some X.env.locals) (tk : Takes X W) (hcf : cy.frame = X.env.frame) (back : Back X pins σ (X.blk sx Hx sco cy fr)) (fpc : ∀ H' : Hp, H' cy.locals = none → FpOk X pins H' cy.locals)
    (x : XE (X.blk sx Hx sco cy fr) (fun c d _ H => W c d σ H) u s') : notedBy (model X.prog X.w) X.A cy (fun e s'' => CompFails (model X.prog X.w) X.A X.xe cy e s'') u s' := by
  obtain ⟨a, B, sI, pb, τ, H', cls, d, rfl, I, nb, up, sky, na, os, ag, w⟩ := x
  have IX := back pb τ H' sI I
  have hfr : X.A.frames = some (X.env :: X.outer) := by rw [IX.ok.frames, hs]
  have nC : cy.locals ∉ frs X.stack := fun hm => by
    obtain ⟨_, o, ho, _⟩ := I.ok.funs.mem hm
    exact absurd (Nat.lt_of_lt_of_le (Heap.lt_size ho) I.ok.above) (Nat.lt_irrefl _)
  obtain ⟨m, hns, _⟩ := I.loc
  have hns : sI.heap.Ns cy.locals m := hns
  obtain ⟨oC, es, ep, hoC, hrC⟩ := hns
  have sky : Sky B (X.env :: X.outer) a (Zc cls d) cy.locals s'.heap := by rw [← hs]; exact sky
  show wpAny _ _ (noteFrame (.ref a) cy) _ _ s'
  rw [noteFrame_same hcf]
  refine look_sky Zc.steady hfr hf sky fun h1 hh up1 => ?_
  obtain ⟨k1, k2, k3, k4⟩ := hh
  have inB : B.get? cy.locals = some oC := nb _ _ hoC nC
  refine ⟨m, ⟨oC, es, ep, k1 _ _ inB, hrC⟩, fun h2 m2 hn2 sb => ?_⟩
  have hb1 : ∀ b, b ≠ cy.locals → h2.get? b = h1.get? b := sb.2
  have aC : a ≠ cy.locals := fun z => by rw [z, inB] at k2; cases k2
  have B2s : ∀ b o, (PySem.W.hideAll B [cy.locals]).get? b = some o → b ≠ cy.locals ∧ B.get? b = some o := fun b o q =>
    ⟨(fun z => by rw [z, PySem.W.hideAll_none _ List.mem_cons_self] at q; cases q), PySem.W.of_hideAll _ q⟩
  have st2 : (PySem.W.hideAll B [cy.locals]).StaysIn h2 := fun b o q => by
    obtain ⟨n, e⟩ := B2s b o q
    rw [hb1 b n]; exact k1 b o e
  have none2 : ∀ b, B.get? b = none → (PySem.W.hideAll B [cy.locals]).get? b = none := fun b q => by
    cases z : (PySem.W.hideAll B [cy.locals]).get? b with
    | none => rfl
    | some o => rw [(B2s b o z).2] at q; cases q
  have tr2 : HandSPX.TracedZ h2 (PySem.W.hideAll B [cy.locals]) a (Zc cls d) (rawInt X.env.locals) := by
    obtain ⟨oe, vs, T, oT, ts, he, hz, hd, q1, hnT, hTe, hT, hdT, q3⟩ := k4
    have TC : T ≠ cy.locals := fun z => by rw [z, inB] at hnT; cases hnT
    exact ⟨oe, vs, T, oT, ts, by rw [hb1 a aC]; exact he, hz, hd, q1, none2 T hnT, hTe, by rw [hb1 T TC]; exact hT, hdT, q3⟩
  have ff2 : ∀ {l : List Env}, (∀ b ∈ frs l, b ≠ cy.locals) → h1.FunFrames B l → h2.FunFrames (PySem.W.hideAll B [cy.locals]) l := by
    intro l
    induction l with
    | nil => intro _ _; trivial
    | cons env l ih =>
      rintro hne ⟨q1, ⟨L, o, q2, q3, q4, q5⟩, q6⟩
      have LC : L ≠ cy.locals := hne L (List.mem_filterMap.mpr ⟨env, List.mem_cons_self, q2⟩)
      exact ⟨q1, ⟨L, o, q2, none2 L q3, by rw [hb1 L LC]; exact q4, q5⟩, ih (fun b hb => by
        obtain ⟨e, he, q⟩ := List.mem_filterMap.mp hb
        exact hne b (List.mem_filterMap.mpr ⟨e, List.mem_cons_of_mem _ he, q⟩)) q6⟩
  have fl2 := ff2 (fun b hb z => nC (by rw [hs, ← z]; exact hb)) k3
  have fC := fpc H' I.free
  have I2 : Inv X pins σ H' { sI with heap := PySem.W.hideAll sI.heap [cy.locals], toks := sI.toks } := IX.turned (t' := sI.toks) (fun b o n e => PySem.W.hideAll_get _ e (by simp [n])) fC.1 fC.2.1 fC.2.2.2.1 (fun x c e => fC.2.2.2.2.1 x c e) fC.2.2.2.2.2
  obtain ⟨oe, vs, T, oT, ts, he, hz, hd, q1, hnT, hTe, hT, hdT, q3⟩ := tr2
  unfold PySem.passOn
  refine wpAny_bind (wpAny_field he hd q1 ?_)
  rw [if_neg (show ¬ ((Value.ref T == Value.none) = true) from by simp)]
  refine wpAny_bind (HandSPX.setFlight_anyZ st2 fl2 ⟨oe, vs, T, oT, ts, he, hz, hd, q1, hnT, hTe, hT, hdT, q3⟩ fun h3 r1 r2 r3 r4 => ?_)
  refine wpAny_throw (tk _ _ ⟨a, PySem.W.hideAll B [cy.locals], { sI with heap := PySem.W.hideAll sI.heap [cy.locals], toks := sI.toks }, pins, σ, H', cls, d, rfl, I2, fun b o e hb => ?_, fun b o e hnf => ?_, ?_, na, os, ag, w⟩)
  · have n : b ≠ cy.locals := fun z => by rw [z, PySem.W.hideAll_none _ List.mem_cons_self] at e; cases e
    exact PySem.W.hideAll_get _ (nb b o (PySem.W.of_hideAll _ e) hb) (by simp [n])
  · have n : b ≠ cy.locals := fun z => by rw [z, PySem.W.hideAll_none _ List.mem_cons_self] at e; cases e
    obtain ⟨s1, e1⟩ := up b o (PySem.W.of_hideAll _ e) hnf
    obtain ⟨s2, e2⟩ := up1 b _ e1 hnf
    obtain ⟨s3, e3⟩ := r4 b _ ((hb1 b n).trans e2) hnf
    exact ⟨s3, e3⟩
  · rw [hcf, hf] at r3
    rw [hs]
    exact .inr (.inr ⟨r1, none2 a k2, r2, r3⟩)
end
end Fw
set_option Elab.async false
set_option linter.all false
set_option maxRecDepth 100000
set_option maxHeartbeats 1000000
/-! Fw47: a comprehension whose element may raise: the rule. -/
namespace Fw
open PySem PySem.Spec PyProof.Rows L2
abbrev blkE (X : Cx) (W : WX) (σ : L2.St) (sx : Shared) (Hx : Hp) (sco : Scope) (cy : Env) (fr : List Addr) : Cx := (X.blk sx Hx sco cy fr).tr [] (XE (X.blk sx Hx sco cy fr) fun c d _ H => W c d σ H)
theorem blkE_in {X : Cx} {W : WX} {σ τ : L2.St} {sx sb : Shared} {Hx Hb : Hp} {sco : Scope} {cy : Env} {fr : List Addr} {pb : List (Addr × Obj)} (I : Inv (X.blk sx Hx sco cy fr) pb τ Hb sb) : Inv (blkE X W σ sx Hx sco cy fr) pb τ Hb sb :=
  ⟨I.ok.toTry _ _, I.os, I.bare, I.base, I.loc, I.cell, I.free, I.freeC, I.pin, I.hok, I.len⟩
theorem blkE_out {X : Cx} {W : WX} {σ τ : L2.St} {sx sb : Shared} {Hx Hb : Hp} {sco : Scope} {cy : Env} {fr : List Addr} {pb : List (Addr × Obj)} (I : Inv (blkE X W σ sx Hx sco cy fr) pb τ Hb sb) : Inv (X.blk sx Hx sco cy fr) pb τ Hb sb :=
  ⟨I.ok.ofTry, I.os, I.bare, I.base, I.loc, I.cell, I.free, I.freeC, I.pin, I.hok, I.len⟩
theorem blkE_takes {X : Cx} {W : WX} {σ : L2.St} {sx : Shared} {Hx : Hp} {sco : Scope} {cy : Env} {fr : List Addr} : Takes (blkE X W σ sx Hx sco cy fr) (fun c d _ H => W c d σ H) := by
  rintro u s' ⟨a, B, sI, pb, τ, H', cls, d, e, I, nb, up, sky, na, os, ag, w⟩
  exact ⟨a, B, sI, pb, τ, H', cls, d, e, blkE_out I, nb, up, sky, na, os, ag, w⟩
section
variable {X : Cx}
theorem pe_lcE {ex tgt it : Expr} {tests : List Expr} {sco : Scope} {mine : List (Str × Nat)} {lp : Pos} {wi : TI} {gt : TG} {tt : TT} {te : L2.St → TE} {W : WX} (hs : X.stack = X.env :: X.outer) (hf : X.env.frame = some X.env.locals) (tk : Takes X W)
    (hcalm : X.calm = true) (hnd : X.N.Nodup) (hit : PI X tgt it wi) (bk : BlkOk X.N X.env.scope sco mine)
    (hgt : ∀ (sx : Shared) (Hx : Hp) (C : Addr) (cs : List (Str × Addr)) (fr : List Addr), PG (X.blk sx Hx sco (compEnvC sco cs C X.env) fr) tgt gt)
    (htt : ∀ (sx : Shared) (Hx : Hp) (C : Addr) (cs : List (Str × Addr)) (fr : List Addr), PTs (X.blk sx Hx sco (compEnvC sco cs C X.env) fr) tests tt)
    (hte : ∀ (σ : L2.St) (sx : Shared) (Hx : Hp) (C : Addr) (cs : List (Str × Addr)) (fr : List Addr), PE (blkE X W σ sx Hx sco (compEnvC sco cs C X.env) fr) ex (te σ)) (hfs : ∀ x, foldedSetIterable it X.env x = pure x) :
    PE X (.ListComp ex [⟨tgt, it, tests, 0⟩] sco lp) (fun σ H Q => tLc wi gt tt (te σ) (mine.map (·.2)) σ H Q) := by
  constructor
  intro pins s0 σ HA Q J wh
  have cells : ∀ y ∈ sco.names, y.2 = .free → ∃ c, X.env.cells.lookup y.1 = some c := fun y hy e => (bk.free y hy e).elim (fun z => J.ok.has _ (.inl z)) fun z => J.ok.has _ (.inr z)
  rw [eval_ListComp]
  refine comprehension_at (use := none) rfl hfs (closure_ok cells) bk.kind (fun y hy e => by rw [bk.uniq y hy, e]) (thn (hit.run pins s0 σ HA _ J wh) fun _ s1 h1 => thn h1 fun _ s2 h2 => ?_)
  obtain ⟨ita, fr, trn, It0, HB, rfl, J2, Tn, t0, fok, kk⟩ := h2
  refine wpAny_newObj_type (newEnv_comp ?_) (by show 0 ≤ sizeLine; decide)
  generalize hacc : s2.heap.objs.size = acc
  obtain ⟨Wd, ⟨n0, w0⟩, turn⟩ := kk acc (J2.hok.fresh (Nat.le_of_eq hacc))
  generalize es3 : ({ s2 with heap := s2.heap.push { cls := .type "list", data := .seq ([] : List Value).toArray } } : Shared) = s3
  have hp3 : s3.heap = s2.heap.push { cls := .type "list", data := .seq ([] : List Value).toArray } := by rw [← es3]
  have J3 : Inv X pins σ (upd HB acc (.lst [])) s3 := by
    rw [← es3]
    exact J2.laid (t' := s2.toks) (fun _ _ e => Heap.get?_push_of_some _ e) (Nat.le_of_eq hacc) ⟨Nat.zero_le _, [], 0, .nil, by rw [← hacc]; exact Heap.get?_push_size _ rfl⟩
  have frOk : ∀ b ∈ fr, FpOk X pins (upd HB acc (.lst [])) b ∧ b < s3.heap.objs.size := fun b hb => by
    obtain ⟨o, e, _⟩ := Tn.obj _ _ t0 b hb
    have q := Heap.lt_size e
    exact ⟨⟨by rw [upd_ne (by rw [← hacc]; exact Nat.ne_of_lt q)]; exact (fok b hb).1, (fok b hb).2⟩, by rw [hp3, Heap.size_push]; exact Nat.lt_succ_of_lt q⟩
  have t3 : trn 0 s3.heap := Tn.keep _ _ _ t0 fun b _ o e => by rw [hp3]; exact Heap.get?_push_of_some _ e
  have J4 := block_start J3 bk hnd frOk
  show codeAny _ _ (.compStart (.ListComp ex [⟨tgt, it, tests, 0⟩] sco lp) 0 (.ref ita) (.ref acc) (compEnvC sco (cellsFrom (s3.heap.objs.size + 1) sco.names (cloFrom X.env.cells sco.names [])) s3.heap.objs.size X.env)) (compEnds (model X.prog X.w) X.A X.xe none _ (.ref acc) (compEnvC sco (cellsFrom (s3.heap.objs.size + 1) sco.names (cloFrom X.env.cells sco.names [])) s3.heap.objs.size X.env)) { s3 with heap := pushCells (s3.heap.push { cls := .type "dict", data := .dict #[] }) sco.names }
  generalize eH3 : upd HB acc (.lst []) = H3 at J3 J4 frOk w0
  have pG := hgt s3 H3 s3.heap.objs.size (cellsFrom (s3.heap.objs.size + 1) sco.names (cloFrom X.env.cells sco.names [])) fr
  have pT := htt s3 H3 s3.heap.objs.size (cellsFrom (s3.heap.objs.size + 1) sco.names (cloFrom X.env.cells sco.names [])) fr
  have pX := hte σ s3 H3 s3.heap.objs.size (cellsFrom (s3.heap.objs.size + 1) sco.names (cloFrom X.env.cells sco.names [])) fr
  generalize eY : compEnvC sco (cellsFrom (s3.heap.objs.size + 1) sco.names (cloFrom X.env.cells sco.names [])) s3.heap.objs.size X.env = cy at J4 pG pT pX ⊢
  have loc : cy.locals = s3.heap.objs.size := by rw [← eY]; rfl
  have cfr : cy.frame = X.env.frame := by rw [← eY]; rfl
  have back : Back X pins σ (X.blk s3 H3 sco cy fr) := fun pb τ Hb sb B => J3.call' (ch := fr) B.os B.base B.hok B.bare fun b hb =>
    ⟨(frOk b hb).1.2.2.2.1, (frOk b hb).1.2.1, (frOk b hb).1.2.2.2.2.1, (frOk b hb).1.2.2.2.2.2⟩
  have fails : ∀ (u : Value) (sb : Shared), XE (X.blk s3 H3 sco cy fr) (fun c d _ H => W c d σ H) u sb → notedBy (model X.prog X.w) X.A cy (fun e s' => CompFails (model X.prog X.w) X.A X.xe cy e s') u sb := fun u sb x =>
    comp_fails hs hf tk cfr back (fun H' q => J3.fpOk (Nat.le_of_eq loc.symm) q) x
  generalize es4 : ({ s3 with heap := pushCells (s3.heap.push { cls := .type "dict", data := .dict #[] }) sco.names } : Shared) = s4 at J4 ⊢
  have t4 : trn 0 s4.heap := Tn.keep _ _ _ t3 fun b _ o e => by rw [← es4]; exact pushCells_keeps _ _ _ _ (Heap.get?_push_of_some _ e)
  have still : ∀ {τ : L2.St} {Hb : Hp} {sb : Shared}, Inv (X.blk s3 H3 sco cy fr) [] τ Hb sb → (∀ b ∈ fr, Hb b = none) → ∀ b ∈ fr, FpOk (X.blk s3 H3 sco cy fr) [] Hb b := fun {τ Hb sb} B z b hb =>
    ⟨z b hb, (B.ok.exf b hb).1, B.ok.exfs b hb, .inl hb, fun x c e => (B.ok.exf b hb).2 x c e, fun p hp => by simp at hp⟩
  refine codeAny_compStart_list ?_ (Tn.self X.A 0 _ _ _ t4 ?_)
  all_goals
    refine compLoop_any (fun n sb => ∃ i Hb, Inv (X.blk s3 H3 sco cy fr) [] (wipe σ (mine.map (·.2))) Hb sb ∧ trn i sb.heap ∧ (∀ b ∈ fr, Hb b = none) ∧ Wd i n Hb) ?_ n0 ⟨0, H3, J4, t4, fun b hb => (frOk b hb).1.1, w0⟩
    rintro n s5 ⟨i, H5, B5, t5, z5, w5⟩
    rcases turn i n H5 w5 with ⟨hstop, hQ⟩ | ⟨hgo, Nx, hNx, step⟩
    · refine thnF (Tn.done (X.blk s3 H3 sco cy fr) rfl rfl rfl hcalm i [] s5 _ H5 (fun _ _ => False) B5 (still B5 z5) t5 hstop) fun r s6 ⟨er, B6⟩ => ?_
      subst er
      have J6 := back [] _ H5 s6 B6
      have free6 : H5 s3.heap.objs.size = none := by rw [← loc]; exact B6.free
      obtain ⟨m6, ns6, _⟩ := B6.loc
      refine ⟨m6, ns6, fun hx sb => ?_⟩
      rw [loc] at sb
      obtain ⟨f0, f1, f2, f3, f4, f5⟩ := J3.fpOk (Nat.le_refl _) free6
      exact ⟨.ref acc, H5, J6.turned (t' := s6.toks) (fun b o hb e => (sb.2 b hb).trans e) f0 f1 f3 f4 f5, rfl, hQ⟩
    · refine thnF (Tn.item (X.blk s3 H3 sco cy fr) rfl rfl rfl hcalm i [] s5 _ H5 (fun _ _ => False) B5 (still B5 z5) t5 hgo) fun r s6 ⟨u, er, h6⟩ => ?_
      subst er
      refine thnF h6 fun _ s7 ⟨x, H7, B7, r7, y7, t7, z7⟩ => ?_
      refine thnF (pG.run _ s7 _ H7 x u _ (B7.pinned (still B7 z7) (Tn.obj _ _ t7)) r7 (step x H7 y7)) fun _ s8 ⟨τ8, H8, B8, e8, q8⟩ => ?_
      refine thnF (pT.run _ s8 τ8 H8 _ B8 q8) fun c s9 ⟨H9, B9, q9⟩ => ?_
      have close : ∀ {sb : Shared} {Hb : Hp}, Inv (X.blk s3 H3 sco cy fr) ([] ++ pinsAt fr s7.heap) τ8 Hb sb → Nx Hb → ∃ m, m < n ∧ ∃ i Hb, Inv (X.blk s3 H3 sco cy fr) [] (wipe σ (mine.map (·.2))) Hb sb ∧ trn i sb.heap ∧ (∀ b ∈ fr, Hb b = none) ∧ Wd i m Hb := fun {sb Hb} B nx => by
        obtain ⟨m, lt, wm⟩ := hNx Hb nx
        have pinned : ∀ b ∈ fr, ∀ o, s7.heap.get? b = some o → sb.heap.get? b = some o ∧ Hb b = none := fun b hb o e =>
          ⟨(B.pin (b, o) (List.mem_append_right _ (List.mem_append_right _ (mem_pinsAt hb e)))).1, (B.pin (b, o) (List.mem_append_right _ (List.mem_append_right _ (mem_pinsAt hb e)))).2.1⟩
        refine ⟨m, lt, i + 1, Hb, (B.unpinned (pins := [])).weak (by rw [← e8, wipe_length]) (fun j v e => (wipe_some (by rw [e8]; exact e)).1), Tn.keep _ _ _ t7 fun b hb o e => (pinned b hb o e).1, fun b hb => ?_, wm⟩
        obtain ⟨o, e, _⟩ := Tn.obj _ _ t7 b hb
        exact (pinned b hb o e).2
      cases c with
      | false =>
        have q9 : Nx H9 := q9
        exact close B9 q9
      | true =>
        have q9 : te σ τ8 H9 fun y H4 => ∃ ac, H4 acc = some (.lst ac) ∧ ac.length < sizeLine ∧ Nx (upd H4 acc (.lst (ac ++ [y]))) := q9
        refine wpAny_mono (pX.run _ s9 τ8 H9 _ (blkE_in B9) q9) (fun z s10 ⟨yv, H10, B10', r10, ac, e10, l10, nx⟩ => ?_) fun u sb x => fails u sb x
        have B10 := blkE_out B10'
        exact app_ok (X := X.blk s3 H3 sco cy fr) B10 e10 l10 r10 fun s11 B11 => close B11 nx
end
def compSE (pt : Pat) (ft : Fx Bool) (fe : Fx D) (ρ : En) : List D → Bx → Res (List D)
  | [], b => .ok [] b
  | d :: ds, b => match pt d ρ with
    | none => .bad
    | some ρ1 => match ft ρ1 b with
      | .ok true b1 => match fe ρ1 b1 with
        | .ok x b2 => (compSE pt ft fe ρ ds b2).bind fun xs b3 => .ok (x :: xs) b3
        | .exc x b2 => .exc x b2
        | .bad => .bad
      | .ok false b1 => compSE pt ft fe ρ ds b1
      | _ => .bad
def xCompE (fl : Fx (List D)) (vs : List Nat) (pt : Pat) (ft : Fx Bool) (fe : Fx D) : Fx (List D) := fun ρ b => (fl ρ b).bind fun ds b1 => if ds.length ≤ 100000 then compSE pt ft fe (wipeE ρ vs) ds b1 else .bad
section
variable {X : Cx} {g : Cfg} {W : WX} {tg : Expr} {fl : Fx (List D)} {pos : Pos}
/-- its loop -/
theorem compE_yields {is vs : List Nat} {pt : Pat} {ft : Fx Bool} {fe : Fx D} {J : It} {ds : List D} {ρ : En} {b : Bx} {σ : L2.St} {HA HA0 : Hp} {L : Addr} {KK : List D → Bx → Hp → Hp → Prop} {Q : VK} (his : ∀ i ∈ is, i ∈ vs) (Y : Yields g.k J HA0 ds) (hz : ds.length ≤ 100000) (G : Good g ρ b σ HA HA0)
    (F : Fin g W σ HA0 HA (compSE pt ft fe (wipeE ρ vs) ds b) fun xs _ H0' H' => ∀ l us, HA l = none → H0' l = none → H' l = some (.lst us) → IsL g.k H0' xs us → Q (.ref l) H') (hL : HA L = none) :
    ∃ Wd : Nat → Nat → Hp → Prop, (∃ m, Wd 0 m (upd HA L (.lst []))) ∧ ∀ i m H, Wd i m H → (J.stop i H ∧ Q (.ref L) H) ∨ (J.go i H ∧ ∃ Nx : Hp → Prop, (∀ H', Nx H' → ∃ m', m' < m ∧ Wd (i + 1) m' H') ∧ ∀ x H', J.yld i H x H' →
      (∃ ρ b H0 d ρ', Good g ρ b (L2.wipe σ vs) H' H0 ∧ Is g.k H0 d x ∧ pt d ρ = some ρ' ∧ ∀ σ2, Good g ρ' b σ2 H' H0 → Wp is (L2.wipe σ vs) σ2 → L2.wipe σ2 vs = L2.wipe σ vs ∧ TT' g W0 ft σ2 H' fun c H3 =>
        if c = true then TX g (fun c d _ H => W c d σ H) fe σ2 H3 fun y H4 => ∃ acc, H4 L = some (.lst acc) ∧ acc.length < sizeLine ∧ Nx (upd H4 L (.lst (acc ++ [y]))) else Nx H3)) := by
  -- behind i items: the list so far at L, and what is left to do
  let P : Nat → Hp → Prop := fun i H => ∃ b H0 accD accV, Good g (wipeE ρ vs) b (L2.wipe σ vs) H H0 ∧ Tr g.bx HA0 HA H0 H ∧ H0 L = none ∧ H L = some (.lst accV) ∧ IsL g.k H0 accD accV ∧ accV.length ≤ i ∧
    Fin g W σ HA0 HA ((compSE pt ft fe (wipeE ρ vs) (ds.drop i) b).bind fun xs b' => .ok (accD ++ xs) b') fun xs _ H0' H' => ∀ l us, HA l = none → H0' l = none → H' l = some (.lst us) → IsL g.k H0' xs us → Q (.ref l) H'
  have nL : ∀ {b : Bx}, BoxOk g.k HA0 HA b → ¬ InB g.bx L := fun B z => (B.at z).2 hL
  have wipe2 : ∀ (τ : L2.St) (us : List Nat), L2.wipe (L2.wipe τ us) us = L2.wipe τ us := by
    intro τ us
    have key : ∀ (us ws : List Nat), (∀ u ∈ ws, u ∈ us) → L2.wipe (L2.wipe τ ws) us = L2.wipe τ us := by
      intro us ws
      induction ws with
      | nil => intro _; rfl
      | cons u ws ih =>
        intro h
        show L2.wipe ((L2.wipe τ ws).set u none) us = _
        rw [wipe_in (h u List.mem_cons_self), ih fun v hv => h v (List.mem_cons_of_mem _ hv)]
    exact key us us fun _ h => h
  refine ⟨fun i m H => m = ds.length - i ∧ i ≤ ds.length ∧ P i H, ⟨_, rfl, Nat.zero_le _, ?_⟩, ?_⟩
  · have ta := Tr.allocO (o := .lst []) G.sub hL
    refine ⟨b, HA0, [], [], (G.step ta.weak (G.box.keep ta)).wipe vs, ta.weak, G.sub.free hL, upd_same, .nil, Nat.le_refl _, ?_⟩
    rw [List.drop_zero]
    cases hc : compSE pt ft fe (wipeE ρ vs) ds b with
    | ok xs b' => rw [hc] at F; exact F
    | exc x b' => rw [hc] at F; exact F
    | bad => rw [hc] at F; exact F
  · rintro i m H ⟨rfl, hi, b, H0, accD, accV, G1, T, h0L, hHL, iL, hlen, F1⟩
    obtain ⟨go, stop⟩ := Y H0 H i T.ext G1.sub
    by_cases hlt : i < ds.length
    · have hd : ds[i]? = some ds[i] := List.getElem?_eq_getElem hlt
      obtain ⟨g1, yl⟩ := go _ hd
      have hdr : ds.drop i = ds[i] :: ds.drop (i + 1) := List.drop_eq_getElem_cons hlt
      rw [hdr] at F1
      refine .inr ⟨g1, P (i + 1), fun H' z => ⟨ds.length - (i + 1), by omega, rfl, hlt, z⟩, fun x H' y => ?_⟩
      obtain ⟨H0', t, iv⟩ := yl x H' y
      have hnb : ¬ InB g.bx L := nL G.box
      have noN : ∀ a, ¬ InB .no a := fun _ z => z
      cases hp : pt ds[i] (wipeE ρ vs) with
      | none => simp only [compSE, hp] at F1; exact F1.elim
      | some ρ1 =>
        simp only [compSE, hp] at F1
        refine ⟨wipeE ρ vs, b, H0', _, ρ1, G1.step t.weak (G1.box.keep t), iv, hp, fun σ2 G2 w2 => ⟨?_, ρ1, b, H0', G2, ?_⟩⟩
        · rw [w2 vs his, wipe2]
        · have L1 : H' L = some (.lst accV) := t.keep _ _ hHL (noN _)
          have L0 : H0' L = none := t.new _ h0L (by rw [hHL]; simp) (noN _)
          cases ht : ft ρ1 b with
          | bad => simp only [ht] at F1; exact F1.elim
          | exc x b1 => simp only [ht] at F1; exact F1.elim
          | ok c b1 =>
            intro H03 H3 t3 B3
            have L3 : H3 L = some (.lst accV) := t3.keep _ _ L1 hnb
            have L03 : H03 L = none := t3.new _ L0 (by rw [L1]; simp) hnb
            have T3 : Tr g.bx HA0 HA H03 H3 := (T.trans t.weak).trans t3
            have G3 := (G1.step t.weak (G1.box.keep t)).step t3 B3
            cases c with
            | false =>
              refine iteF ?_
              simp only [ht] at F1
              exact ⟨b1, H03, accD, accV, G3, T3, L03, L3, iL.mono (t.ext.trans t3.ext), Nat.le_succ_of_le hlen, F1⟩
            | true =>
              refine iteT ?_
              simp only [ht] at F1
              refine ⟨ρ1, b1, H03, G2.step t3 B3, ?_⟩
              cases he : fe ρ1 b1 with
              | bad => simp only [he] at F1; exact F1.elim
              | exc x b2 =>
                simp only [he] at F1
                intro H04 H4 t4 B4 cls dd ex
                exact F1 H04 H4 (T3.trans t4) B4 cls dd ex
              | ok z b2 =>
                simp only [he] at F1
                intro H04 H4 t4 B4 v iz
                have L4 : H4 L = some (.lst accV) := t4.keep _ _ L3 hnb
                have L04 : H04 L = none := t4.new _ L03 (by rw [L3]; simp) hnb
                have T4 : Tr g.bx HA0 HA H04 H4 := T3.trans t4
                have G4 := G3.step t4 B4
                refine ⟨accV, L4, Nat.lt_of_lt_of_le (by omega : accV.length < 100000) (by decide), b2, H04, accD ++ [z], accV ++ [v], ?_, ?_, L04, upd_same, ?_, by rw [List.length_append, List.length_singleton]; omega, ?_⟩
                · -- the new list is nobody's slot
                  have no : ∀ j l, OwnAt (wipeE ρ vs) (L2.wipe σ vs) j l → l ≠ L := fun j l o e => by
                    subst e
                    exact absurd hL ((G.wipe vs).held o).2
                  refine ⟨⟨G4.tr.ext, fun a u e => ?_, fun a u e n => ?_, fun a e => ?_, G4.tr.new⟩, G4.len, fun j => ?_, G4.apart, G4.mine, ?_, G4.bin, G4.zin, G4.ln⟩
                  · rw [upd_ne (ne_of_none e L04)]; exact G4.tr.sub a u e
                  · have hne : a ≠ L := fun q => by
                      have := G.tr.there a (by rw [e]; simp)
                      rw [q, hL] at this; exact this rfl
                    rw [upd_ne hne]; exact G4.tr.keep a u e n
                  · by_cases ha : a = L
                    · rw [ha, upd_same]; simp
                    · rw [upd_ne ha]; exact G4.tr.there a e
                  · refine (G4.slot j).mono (Same.refl _) (fun _ _ _ _ h _ => h) fun l us hs' hx hl' => ?_
                    rw [upd_ne (no j l ⟨hs', hx⟩)]; exact hl'
                  · exact B4.out hnb
                · refine ⟨T4.ext, fun a u e => ?_, fun a u e n => ?_, fun a e => ?_, T4.new⟩
                  · rw [upd_ne (ne_of_none e L04)]; exact T4.sub a u e
                  · rw [upd_ne (ne_of_none e hL)]; exact T4.keep a u e n
                  · by_cases ha : a = L
                    · rw [ha, upd_same]; simp
                    · rw [upd_ne ha]; exact T4.there a e
                · exact (iL.mono (t.ext.trans (t3.ext.trans t4.ext))).app (.cons iz .nil)
                · cases hc : compSE pt ft fe (wipeE ρ vs) (ds.drop (i + 1)) b2 with
                  | bad => rw [hc] at F1; exact F1.elim
                  | exc x b3 => rw [hc] at F1; exact F1
                  | ok xs b3 =>
                    rw [hc] at F1
                    show Fin g W σ HA0 HA (.ok (accD ++ [z] ++ xs) b3) _
                    rw [List.append_assoc]
                    exact F1
    · have e : i = ds.length := by omega
      subst e
      rw [List.drop_length] at F1
      have F1 : Fin g W σ HA0 HA (.ok (accD ++ []) b) _ := F1
      rw [List.append_nil] at F1
      exact .inl ⟨stop (Nat.le_refl _), F1 H0 H T G1.box L accV hL h0L hHL iL⟩
theorem po_compE {elt iter : Expr} {ifs : List Expr} {scope : Scope} {own : List (Str × Nat)} {is : List Nat} {pt : Pat} {ft : Fx Bool} {fe : Fx D} (hsk : X.stack = X.env :: X.outer) (hfr : X.env.frame = some X.env.locals) (tk : Takes X W) (hc : X.calm = true) (hN : X.N.Nodup) (hi : PIs X g W tg iter fl) (ok : BlkOk X.N X.env.scope scope own) (his : ∀ i ∈ is, i ∈ own.map (·.2))
    (hg : ∀ (s : Shared) (H : Hp) (C : Addr) (cl : List (Str × Addr)) (fp : List Addr), PGd (X.blk s H scope (compEnvC scope cl C X.env) fp) g tg is pt)
    (ht : ∀ (s : Shared) (H : Hp) (C : Addr) (cl : List (Str × Addr)) (fp : List Addr), PTq (X.blk s H scope (compEnvC scope cl C X.env) fp) g ifs ft)
    (he : ∀ (σ : L2.St) (s : Shared) (H : Hp) (C : Addr) (cl : List (Str × Addr)) (fp : List Addr), Takes (blkE X W σ s H scope (compEnvC scope cl C X.env) fp) (fun c d _ H => W c d σ H) → PX (blkE X W σ s H scope (compEnvC scope cl C X.env) fp) g (fun c d _ H => W c d σ H) elt fe)
    (hs : ∀ x, foldedSetIterable iter X.env x = pure x := by intro _; rfl) : PN X g W (.ListComp elt [⟨tg, iter, ifs, 0⟩] scope pos) (xCompE fl (own.map (·.2)) pt ft fe) := by
  refine pe_imp (pe_lcE (te := fun σ => TX g (fun c d _ H => W c d σ H) fe) hsk hfr tk hc hN hi ok hg ht (fun σ s H C cl fp => he σ s H C cl fp blkE_takes) hs) ?_
  rintro σ H Q ⟨ρ, b, H0, G, F⟩
  refine ⟨ρ, b, H0, G, ?_⟩
  unfold xCompE at F
  cases hf : fl ρ b with
  | bad => rw [hf] at F; exact F.elim
  | exc x b1 => rw [hf] at F; exact F
  | ok ds b1 =>
    rw [hf] at F
    intro H01 H1 t1 B1 J Y L hL
    have F : Fin g W σ H0 H (if ds.length ≤ 100000 then compSE pt ft fe (wipeE ρ (own.map (·.2))) ds b1 else .bad) _ := F
    split at F
    · rename_i hz
      refine compE_yields (KK := fun _ _ _ _ => True) his Y hz (G.step t1 B1) ((F.move t1).mono fun xs b' H0' H' t B k l us hl h0 hl' il => k l us ?_ h0 hl' il) hL
      cases q : H l with
      | none => rfl
      | some o => exact absurd hl (t1.there l (by rw [q]; simp))
    · exact F.elim
end
end Fw
set_option Elab.async false
set_option linter.all false
set_option maxRecDepth 100000
set_option maxHeartbeats 1000000
/-! Fw48: exceptions out of a box, out of the dict that stands. -/
namespace Fw
open PySem PySem.Spec PyProof.Rows L2
def cleanEx (x : Ex) : Bool := match x.fs with
  | none => true
  | some (_, ds) => cleanL ds
def pureEx (x : Ex) : Bool := match x.fs with
  | none => true
  | some (_, ds) => pureL ds
def outBackE (b : Bx) : Out → Out
  | .rt d _ => if clean d = true then .rt d b else .bad
  | .rto ds _ => if cleanL ds = true then .rto ds b else .bad
  | .exc x _ => if cleanEx x = true then .exc x b else .bad
  | _ => .bad
theorem ExAt.rebox {K : PySem.W.Frag} {bx bx' : Bk} {z : Addr → Bool} {H0 H : Hp} {x : Ex} {cls : Value} {dd : Option Addr} (c : cleanEx x = true) (h : ExAt ⟨K, bx, z⟩ H0 H x cls dd) : ExAt ⟨K, bx', z⟩ H0 H x cls dd := by
  obtain ⟨e, h⟩ := h
  refine ⟨e, ?_⟩
  unfold cleanEx at c
  cases hx : x.fs with
  | none => rw [hx] at h; exact h
  | some p =>
    rw [hx] at h c
    obtain ⟨a, vs, q1, q2, q3, q4, q5⟩ := h
    exact ⟨a, vs, q1, q2, q3, q4, q5.rebox c⟩
theorem FinS.reboxE {g : Cfg} {W : WX} {ρ : En} {b : Bx} {σ : L2.St} {H H0 H2 HB HB' : Hp} {bx' : Bk} {o : Out} {Dd : Ends} (G : Good g ρ b σ H H0) (T : Tr .no H0 H H0 H2) (fr : ∀ a, InB bx' a → H a = none) (F : FinS g W HB (outBackE b o) Dd) :
    FinS (mkG g.k.K bx' g.k.z g.n H2 H0) W HB' o Dd := by
  cases o with
  | exc x b2 =>
    have F : FinS g W HB (if cleanEx x = true then .exc x b else .bad) Dd := F
    split at F
    · rename_i hc
      have noN : ∀ a, ¬ InB .no a := fun _ z => z
      have kp : ∀ {H0z Hz : Hp}, Tr bx' H0 H2 H0z Hz → ∀ c u, H c = some u → Hz c = some u := fun t c u q => t.keep c u (T.keep c u q (noN c)) fun i => by rw [fr c i] at q; cases q
      have tr : ∀ {H0z Hz : Hp}, Tr bx' H0 H2 H0z Hz → Tr g.bx g.H0s g.Hs H0z Hz := fun t => G.tr.trans ⟨t.ext, t.sub, fun c u q _ => kp t c u q, fun c n => t.there c (T.there c n), fun c q n _ => t.new c q (T.there c n) fun i => n (fr c i)⟩
      have bk : ∀ {H0z Hz : Hp}, Tr bx' H0 H2 H0z Hz → BoxOk g.k H0z Hz b := fun t => G.box.move t.ext (fun c i => t.new c (G.box.at i).1 (T.there c (G.box.at i).2) fun i2 => (G.box.at i).2 (fr c i2)) fun c u _ q => kp t c u q
      exact fun cls dd σ' Hz H0z hn t B ex => F cls dd σ' Hz H0z hn (tr t) (bk t) (ex.rebox hc)
    · exact F.elim
  | rt d b2 => exact FinS.rebox G T fr (o := .rt d b2) F
  | rto ds b2 => exact FinS.rebox G T fr (o := .rto ds b2) F
  | _ => exact F.elim
def kDlsE (i : Nat) (ks : List Str) (kk : Fs) : Fs := fun ρ b => outBackE b (kk ((cleanE ρ).set i (.val .dls)) (b3 ks))
def kMemoE (i : Nat) (C : Addr) (ns : List Str) (kn : Str) (fl : Fx (List D)) (kk : Fs) : Fs := fun ρ b => (fl ρ b).out fun ds b1 => if ds.length = ns.length ∧ cleanL ds = true then outBackE b1 (kk ((cleanE ρ).set i (.val (.mem C))) (bM ns kn ds)) else .bad
section
variable {X : Cx} {g : Cfg} {W : WX} {e : Expr} {es : List Expr} {f h : Fx D} {fl : Fx (List D)} {x t kn nm : Str} {ns : List Str} {pos p p2 cpos tpos : Pos} {C : Addr} {k k2 : Nat} {ss : List Stmt} {kk : Fs}
theorem pb_dls3E (i : Nat) {t k1 k2 k3 : Str} {i1 i2 i3 : Nat} {q1 q2 q3 l1 l2 l3 dpos tpos : Pos} (hnd : X.N.Nodup) (hk12 : k1 ≠ k2) (hk13 : k1 ≠ k3) (hk23 : k2 ≠ k3)
    (h : ∀ a ls Hs' H0s', PB X (mkG g.k.K (.dls a ls) g.k.z g.n Hs' H0s') W ss kk) (hNi : X.N[i]? = some t := by rfl) (hx : Loc X.env.scope t := by first | exact Or.inl rfl | exact Or.inr rfl)
    (hs : swapsWith (.Dict [some (.Constant (.str k1) i1 q1), some (.Constant (.str k2) i2 q2), some (.Constant (.str k3) i3 q3)] [.List [] l1, .List [] l2, .List [] l3] dpos) (some (.Name t tpos)) pos.line X.env = pure false := by rfl)
    (hf : X.fn t = true ∨ X.env.scope.names.lookup t = some .local := by first | exact .inl rfl | exact .inr rfl | assumption) :
    PB X g W (.Assign [.Name t tpos] (.Dict [some (.Constant (.str k1) i1 q1), some (.Constant (.str k2) i2 q2), some (.Constant (.str k3) i3 q3)] [.List [] l1, .List [] l2, .List [] l3] dpos) pos :: ss) (kDlsE i [k1, k2, k3] kk) := by
  have hrest : PSs X ss (fun Dd σ H => ∃ a ls Hs' H0s', TB (mkG g.k.K (.dls a ls) g.k.z g.n Hs' H0s') W kk Dd σ H) := ⟨fun pins s σ H D I ⟨a, ls, Hs', H0s', z⟩ => (h a ls Hs' H0s').run pins s σ H D I z⟩
  refine pss_imp (pss_cons (ps_set hnd hNi hx (pe_disp (pps_cons pe_str (pe_lst pa_nil) (pps_cons pe_str (pe_lst pa_nil) (pps_cons pe_str (pe_lst pa_nil) pps_nil))) rfl rfl (by simp) (by simp)) hs hf) hrest) ?_
  rintro Dd σ H ⟨ρ, b, H0, G, F⟩
  intro a ha
  refine ⟨by decide, fun p1 h1 => ⟨by decide, fun p2 h2 => ⟨by decide, fun p3 h3 => ?_⟩⟩⟩
  have n1 : a ≠ p1 := fun q => by subst q; rw [upd_same] at h1; cases h1
  rw [upd_ne (Ne.symm n1)] at h1
  have n2 : p1 ≠ p2 := fun q => by subst q; rw [upd_same] at h2; cases h2
  have n2' : a ≠ p2 := fun q => by subst q; rw [upd_ne n1, upd_same] at h2; cases h2
  rw [upd_ne (Ne.symm n2), upd_ne (Ne.symm n2')] at h2
  have n3 : p2 ≠ p3 := fun q => by subst q; rw [upd_same] at h3; cases h3
  have n3' : p1 ≠ p3 := fun q => by subst q; rw [upd_ne n2, upd_same] at h3; cases h3
  have n3'' : a ≠ p3 := fun q => by subst q; rw [upd_ne n2', upd_ne n1, upd_same] at h3; cases h3
  rw [upd_ne (Ne.symm n3), upd_ne (Ne.symm n3'), upd_ne (Ne.symm n3'')] at h3
  refine ⟨by rw [upd_ne n3'', upd_ne n2', upd_ne n1, upd_same], [(.inr k1, .ref p1), (.inr k2, .ref p2), (.inr k3, .ref p3)], rfl, by simp, ?_⟩
  have em : mergeK [] [(Sum.inr k1, V.ref p1), (.inr k2, .ref p2), (.inr k3, .ref p3)] = [(.inr k1, V.ref p1), (.inr k2, .ref p2), (.inr k3, .ref p3)] := by
    simp [mergeK, putK, hk12, hk13, hk23]
  rw [em]
  let H2 := L2.upd (L2.upd (L2.upd (L2.upd (L2.upd H a (.dK [])) p1 (.lst [])) p2 (.lst [])) p3 (.lst [])) a (.dK [(.inr k1, V.ref p1), (.inr k2, .ref p2), (.inr k3, .ref p3)])
  have kp : ∀ c u, H c = some u → H2 c = some u := fun c u q => by
    show L2.upd _ _ _ c = _
    rw [upd_ne (ne_of_none q ha), upd_ne (ne_of_none q h3), upd_ne (ne_of_none q h2), upd_ne (ne_of_none q h1), upd_ne (ne_of_none q ha)]; exact q
  have T : Tr .no H0 H H0 H2 := ⟨Same.refl _, fun c u q => kp c u (G.sub c u q), fun c u q _ => kp c u q, fun c n => by
    cases hc : H c with
    | none => exact absurd hc n
    | some u => rw [kp c u hc]; simp, fun c q _ _ => q⟩
  have z0 : ∀ {c}, H c = none → g.k.z c = false := fun q => G.zok.new q
  have B' : BoxOk ⟨g.k.K, .dls a [p1, p2, p3], g.k.z⟩ H0 H2 (b3 [k1, k2, k3]) := by
    refine ⟨G.sub.free ha, by simp [n1, n2', n3''], by simp [n2, n3, n3'], rfl, by show L2.upd _ _ _ a = _; rw [upd_same]; rfl, ⟨z0 h1, G.sub.free h1, [], ?_, .nil⟩, ⟨z0 h2, G.sub.free h2, [], ?_, .nil⟩, ⟨z0 h3, G.sub.free h3, [], ?_, .nil⟩, trivial⟩
    · show L2.upd _ _ _ p1 = _
      rw [upd_ne (Ne.symm n1), upd_ne n3', upd_ne n2, upd_same]
    · show L2.upd _ _ _ p2 = _
      rw [upd_ne (Ne.symm n2'), upd_ne n3, upd_same]
    · show L2.upd _ _ _ p3 = _
      rw [upd_ne (Ne.symm n3''), upd_same]
  have fr : ∀ c, InB (.dls a [p1, p2, p3]) c → H c = none := by
    rintro c (rfl | i)
    · exact ha
    · simp only [List.mem_cons, List.not_mem_nil, or_false] at i
      rcases i with rfl | rfl | rfl <;> assumption
  refine ⟨a, [p1, p2, p3], H2, H0, (cleanE ρ).set i (.val .dls), b3 [k1, k2, k3], H0, (G.rebox T B').setV (.dls rfl), ?_⟩
  exact FinS.reboxE G T fr F
theorem pb_memoE (i : Nat) (cl : MemD X.prog X.w X.K X.mg X.base k x C ns kn) (hr : Room k2 X.A) (hk : k + 1 ≤ k2) (hK : X.K = g.k.K) (hnd : X.N.Nodup) (hpa : PL X g W (e :: es) fl) (h : ∀ a d Hs' H0s', PB X (mkG g.k.K (.memo a C d) g.k.z g.n Hs' H0s') W ss kk)
    (hg : Gl X x := by rfl) (hNi : X.N[i]? = some t := by rfl) (hx : Loc X.env.scope t := by first | exact Or.inl rfl | exact Or.inr rfl) (hdb : (x == ("__debug__" : Str)) = false := by decide)
    (hs : swapsWith (.Call (.Name x p) (e :: es) [] cpos) (some (.Name t tpos)) pos.line X.env = pure false := by rfl)
    (hf : X.fn t = true ∨ X.env.scope.names.lookup t = some .local := by first | exact .inl rfl | exact .inr rfl | assumption)
    (he : starEach (e :: es) X.env = (false, eval e X.env) :: starEach es X.env := by rfl) (hpl : (backTo cpos (starEach es X.env)).any (·.1) = false := by rfl) :
    PB X g W (.Assign [.Name t tpos] (.Call (.Name x p) (e :: es) [] cpos) pos :: ss) (kMemoE i C ns kn fl kk) := by
  have hrest : PSs X ss (fun Dd σ H => ∃ a d Hs' H0s', TB (mkG g.k.K (.memo a C d) g.k.z g.n Hs' H0s') W kk Dd σ H) := ⟨fun pins s σ H D I ⟨a, d, Hs', H0s', z⟩ => (h a d Hs' H0s').run pins s σ H D I z⟩
  obtain ⟨fa, fd, ps, M, F1, bb, hm⟩ := cl.ex
  refine pss_imp (pss_cons (ps_set hnd hNi hx (pe_make M F1 (hr.mono hk) hg hm bb .nil passL hpa hdb he hpl) hs hf) hrest) ?_
  rintro Dd σ H ⟨ρ, b, H0, G, FF⟩
  refine ⟨ρ, b, H0, G, (fin_out G FF).mono fun ds b1 H01 H1 t1 B1 F2 vs il => ?_⟩
  have G1 := G.step t1 B1
  intro o dx ho hdx hne
  split at F2
  · rename_i hc
    obtain ⟨hn, hcl⟩ := hc
    refine ⟨o, dx, vs, by rw [List.append_nil], by rw [← il.length]; exact hn, by rw [upd_same], fun d H2 hd h2 h3 h4 => ⟨rfl, ?_⟩⟩
    have hdo : d ≠ o := fun q => by subst q; rw [upd_same] at hd; cases hd
    rw [upd_ne hdo] at hd
    have hddx : d ≠ dx := fun q => by subst q; rw [upd_same] at hd; cases hd
    rw [upd_ne hddx] at hd
    have kp : ∀ c u, H1 c = some u → H2 c = some u := fun c u q => by
      rw [h4 c (ne_of_none q ho) (ne_of_none q hd), upd_ne (ne_of_none q ho), upd_ne (ne_of_none q hdx)]; exact q
    have T : Tr .no H01 H1 H01 H2 := ⟨Same.refl _, fun c u q => kp c u (t1.sub c u q), fun c u q _ => kp c u q, fun c n => by
      cases hc : H1 c with
      | none => exact absurd hc n
      | some u => rw [kp c u hc]; simp, fun c q _ _ => q⟩
    have B' : BoxOk ⟨g.k.K, .memo o C d, g.k.z⟩ H01 H2 (bM ns kn ds) := by
      refine ⟨t1.sub.free ho, dx, vs, h2, by show (ns ++ [kn]).length = _; rw [List.length_append, ← hn, il.length]; rfl, il.rebox hcl, t1.sub.free hd, Ne.symm hdo, [], h3, .nil⟩
    have fr : ∀ c, InB (.memo o C d) c → H1 c = none := by
      rintro c (rfl | rfl)
      · exact ho
      · exact hd
    refine ⟨o, d, H2, H01, (cleanE ρ).set i (.val (.mem C)), bM ns kn ds, H01, (G1.rebox T B').setV (.mem rfl), ?_⟩
    exact FinS.reboxE G1 T fr F2
  · exact F2.elim
end
def xUnDE (i : Nat) (f : Fx D) : Fx D := fun ρ b => if isDls ρ i = true ∧ cleanL (b.ls.map (.lst true)) = true then (match f ((ρ.map fun _ => Sl.no).set i (.val (.dct b.fs (b.ls.map (.lst true))))) bx0 with
  | .ok d _ => if pureD d = true then .ok d b else .bad
  | .exc x _ => if pureEx x = true then .exc x b else .bad
  | _ => .bad) else .bad
theorem ExAt.cut {K : PySem.W.Frag} {bx bx' : Bk} {z z' : Addr → Bool} {H0 H : Hp} {M : Addr → Prop} {x : Ex} {cls : Value} {dd : Option Addr} (h : ExAt ⟨K, bx, z⟩ H0 H x cls dd) (hM : ∀ c, M c → (∃ xs, H0 c = some (.lst xs) ∧ z c = true) ∨ (∃ kv, H0 c = some (.dK kv)) ∨ ∃ fs, H0 c = some (.xd fs)) (hz : ∀ c, z c = false → z' c = false) (c : pureEx x = true) : ExAt ⟨K, bx', z'⟩ (cutH H0 M) H x cls dd := by
  obtain ⟨e, h⟩ := h
  refine ⟨e, ?_⟩
  unfold pureEx at c
  cases hx : x.fs with
  | none => rw [hx] at h; exact h
  | some p =>
    rw [hx] at h c
    obtain ⟨a, vs, q1, q2, q3, q4, q5⟩ := h
    refine ⟨a, vs, q1, ?_, q3, q4, q5.cut hM hz c⟩
    by_cases m : M a
    · exact cutH_in m
    · rw [cutH_out m]; exact q2
section
variable {X : Cx} {g : Cfg} {W : WX} {e : Expr} {f : Fx D}
theorem px_unDE (i : Nat) (h : ∀ z' Hs' H0s', PX X (mkG g.k.K .no z' g.n Hs' H0s') W e f) : PX X g W e (xUnDE i f) := by
  have hrest : PE X e (fun σ H Q => ∃ z' Hs' H0s', TX (mkG g.k.K .no z' g.n Hs' H0s') W f σ H Q) := ⟨fun pins s σ H Q I ⟨z', Hs', H0s', zz⟩ => (h z' Hs' H0s').run pins s σ H Q I zz⟩
  refine pe_imp hrest ?_
  rintro σ H Q ⟨ρ, b, H0, G, F⟩
  unfold xUnDE at F
  split at F
  · rename_i hb
    obtain ⟨hb, hcl⟩ := hb
    obtain ⟨a, ls, e1, e2, e3, e4, e5, e6, e7, e8⟩ := G.dls hb
    classical
    let M : Addr → Prop := fun c => c ∈ a :: ls
    let z' : Addr → Bool := fun c => g.k.z c || decide (c ∈ ls)
    let H1 : Hp := frzL H0 H (a :: ls)
    have inM : ∀ {c}, c ∈ a :: ls → H1 c = H c := fun hc => if_pos hc
    have outM : ∀ {c}, c ∉ a :: ls → H1 c = H0 c := fun hc => if_neg hc
    have h0M : ∀ {c}, c ∈ a :: ls → H0 c = none := fun hc => by
      rcases List.mem_cons.mp hc with rfl | hc
      · exact e3
      · exact (e8.there hc).1
    have s01 : Same H0 H1 := fun c u q => by
      have hc : c ∉ a :: ls := fun hc => by rw [h0M hc] at q; cases q
      rw [outM hc]; exact q
    have s1 : Same H1 H := fun c u q => by
      by_cases hc : c ∈ a :: ls
      · rw [inM hc] at q; exact q
      · rw [outM hc] at q; exact G.sub c u q
    have hz0 : ∀ c, H0 c ≠ none → z' c = g.k.z c := fun c n => by
      have hc : c ∉ ls := fun hc => n (h0M (List.mem_cons_of_mem _ hc))
      simp [z', hc]
    have id : Is ⟨g.k.K, .no, z'⟩ H1 (.dct b.fs (b.ls.map (.lst true))) (.ref a) := by
      refine .dct (vs := ls.map V.ref) ?_ (by rw [List.length_map]; exact e6) (DL.all (bx := g.k.bx) (z := g.k.z) s01 hz0 e8 hcl (fun l hl => by simp [z', hl]) fun l o hl q => ?_)
      · rw [inM List.mem_cons_self]; exact e7
      · rw [inM (List.mem_cons_of_mem _ hl)]; exact q
    have zo : ZOk ⟨g.k.K, .no, z'⟩ H := fun c q => by
      have q : (g.k.z c || decide (c ∈ ls)) = true := q
      rcases Bool.or_eq_true_iff.mp q with q | q
      · exact G.zok c q
      · exact (e8.there (of_decide_eq_true q)).2
    let ρ1 : En := ρ.map fun _ => Sl.no
    have G0 : Good (mkG g.k.K .no z' g.n H H1) ρ1 bx0 σ H H1 := by
      have no : ∀ {j s}, ρ1[j]? = some s → s = Sl.no := fun {j s} q => by
        rw [List.getElem?_map] at q
        cases hr : ρ[j]? with
        | none => rw [hr] at q; cases q
        | some s' => rw [hr] at q; exact (Option.some.inj q).symm
      refine ⟨Tr.refl s1, by rw [List.length_map]; exact G.len, fun j => ?_, fun j j' l o => ?_, fun j l o => ?_, trivial, fun _ zz => zz.elim, zo, G.ln⟩
      · cases hr : ρ1[j]? with
        | none => trivial
        | some s => rw [no hr]; trivial
      · obtain ⟨⟨ds, q, qo⟩, _⟩ := o; rw [no q] at qo; cases qo
      · obtain ⟨⟨ds, q, qo⟩, _⟩ := o; rw [no q] at qo; cases qo
    have G1 : Good (mkG g.k.K .no z' g.n H H1) (ρ1.set i (.val (.dct b.fs (b.ls.map (.lst true))))) bx0 σ H H1 := by
      have q := G0.setV (i := i) (v := .ref a) id
      have es : σ.set i (some (V.ref a)) = σ := by
        apply List.ext_getElem?
        intro j
        rw [set_get]
        split
        · rename_i hj; rw [← hj.1, e2]
        · rfl
      rw [es] at q
      exact q
    refine ⟨z', H, H1, _, bx0, H1, G1, ?_⟩
    cases hf : f (ρ1.set i (.val (.dct b.fs (b.ls.map (.lst true))))) bx0 with
    | bad => simp only [ρ1] at hf; simp only [hf] at F; exact F.elim
    | exc xx bb =>
      simp only [ρ1] at hf
      simp only [hf] at F
      split at F
      · rename_i hp
        intro H0z Hz t _ cls dd ex
        have hM : ∀ c, M c → (∃ xs, H0z c = some (.lst xs) ∧ z' c = true) ∨ (∃ kv, H0z c = some (.dK kv)) ∨ ∃ fs, H0z c = some (.xd fs) := fun c m => by
          rcases List.mem_cons.mp m with rfl | m
          · exact .inr (.inl ⟨_, t.ext _ _ (by rw [inM List.mem_cons_self]; exact e7)⟩)
          · skip
            obtain ⟨vs, hv⟩ := e8.isLst m
            exact .inl ⟨vs, t.ext _ _ (by rw [inM (List.mem_cons_of_mem _ m)]; exact hv), by simp [z', m]⟩
        have h0z : Same H0 (cutH H0z M) := fun c u q => by
          have hc : ¬ M c := fun hc => by rw [h0M hc] at q; cases q
          rw [cutH_out hc]
          exact t.ext _ _ (s01 _ _ q)
        have kp : ∀ c u, H c = some u → Hz c = some u := fun c u q => t.keep c u q fun zz => zz
        refine F (cutH H0z M) Hz ⟨h0z, fun c u q => ?_, fun c u q _ => kp c u q, t.there, fun c q n ni => ?_⟩ (G.box.move h0z (fun c i => ?_) fun c u _ q => kp c u q) cls dd (ex.cut hM (fun c q => ?_) hp)
        · by_cases hc : M c
          · rw [cutH_in hc] at q; cases q
          · rw [cutH_out hc] at q; exact t.sub c u q
        · have hc : ¬ M c := fun hc => ni (by rw [e1]; rcases List.mem_cons.mp hc with rfl | hc; exact .inl rfl; exact .inr hc)
          rw [cutH_out hc]
          exact t.new c (by rw [outM hc]; exact q) n fun zz => zz
        · have hc : M c := by
            have i : InB g.bx c := i
            rw [e1] at i
            rcases i with rfl | i
            · exact List.mem_cons_self
            · exact List.mem_cons_of_mem _ i
          exact cutH_in hc
        · have q : (g.k.z c || decide (c ∈ ls)) = false := q
          exact (Bool.or_eq_false_iff.mp q).1
      · exact F.elim
    | ok d bb =>
      simp only [ρ1] at hf
      simp only [hf] at F
      split at F
      · rename_i hp
        intro H0z Hz t _ v iv
        have hM : ∀ c, M c → (∃ xs, H0z c = some (.lst xs) ∧ z' c = true) ∨ (∃ kv, H0z c = some (.dK kv)) ∨ ∃ fs, H0z c = some (.xd fs) := fun c m => by
          rcases List.mem_cons.mp m with rfl | m
          · exact .inr (.inl ⟨_, t.ext _ _ (by rw [inM List.mem_cons_self]; exact e7)⟩)
          · skip
            obtain ⟨vs, hv⟩ := e8.isLst m
            exact .inl ⟨vs, t.ext _ _ (by rw [inM (List.mem_cons_of_mem _ m)]; exact hv), by simp [z', m]⟩
        have h0z : Same H0 (cutH H0z M) := fun c u q => by
          have hc : ¬ M c := fun hc => by rw [h0M hc] at q; cases q
          rw [cutH_out hc]
          exact t.ext _ _ (s01 _ _ q)
        have kp : ∀ c u, H c = some u → Hz c = some u := fun c u q => t.keep c u q fun zz => zz
        refine F (cutH H0z M) Hz ⟨h0z, fun c u q => ?_, fun c u q _ => kp c u q, t.there, fun c q n ni => ?_⟩ (G.box.move h0z (fun c i => ?_) fun c u _ q => kp c u q) v (iv.cut hM (fun c q => ?_) hp)
        · by_cases hc : M c
          · rw [cutH_in hc] at q; cases q
          · rw [cutH_out hc] at q; exact t.sub c u q
        · have hc : ¬ M c := fun hc => ni (by rw [e1]; rcases List.mem_cons.mp hc with rfl | hc; exact .inl rfl; exact .inr hc)
          rw [cutH_out hc]
          exact t.new c (by rw [outM hc]; exact q) n fun zz => zz
        · have hc : M c := by
            have i : InB g.bx c := i
            rw [e1] at i
            rcases i with rfl | i
            · exact List.mem_cons_self
            · exact List.mem_cons_of_mem _ i
          exact cutH_in hc
        · have q : (g.k.z c || decide (c ∈ ls)) = false := q
          exact (Bool.or_eq_false_iff.mp q).1
      · exact F.elim
  · exact F.elim
end
end Fw
set_option Elab.async false
set_option linter.all false
set_option maxRecDepth 100000
set_option maxHeartbeats 1000000
/-! Fw49: of three classes. -/
namespace Fw
open PySem PySem.Spec PyProof.Rows L2
def rIsX3 (K : PySem.W.Frag) (C a dd : Addr) : List V → Hp → VK → Prop := fun xs H Q => ∃ (tp : Addr) (t1 t2 t3 : V) (c1 c2 c3 : Value) (r : Bool) (fs : List (Str × V)), xs = [.ref a, .ref tp] ∧ H tp = some (.tup [t1, t2, t3]) ∧ (∀ u, RelV t1 u → u = c1) ∧ (∀ u, RelV t2 u → u = c2) ∧ (∀ u, RelV t3 u → u = c3) ∧ H dd = some (.xd fs) ∧ ExcC K C ∧
  (PySem.W.clsIn K C).isSome = true ∧ PySem.W.kitAny K (.ref C) [c1, c2, c3] = some r ∧ Q (.bl r) H
theorem call_isX3 {X : Cx} {a dd C : Addr} {oe : Obj} {pn : List (Addr × Obj)} (hz : Zc (.ref C) (some dd) oe) (hf : ∃ vs, oe.data = .fields vs) : CallR (X.suite a ((a, oe) :: pn)) (.builtin "isinstance") (rIsX3 X.K C a dd) := by
  intro pins s σ H ys ws Q I rr hh
  obtain ⟨tp, t1, t2, t3, c1, c2, c3, r, fs, rfl, hT, h1, h2, h3, hH, E, hcl, hk, q⟩ := hh
  obtain ⟨u1, u2, rfl, r1, r2⟩ := vals2 rr
  cases (show u1 = Value.ref a from r1)
  cases (show u2 = Value.ref tp from r2)
  have ho := (I.pin (a, oe) (List.mem_append.mpr (.inl List.mem_cons_self))).1
  obtain ⟨vs, hv⟩ := hf
  obtain ⟨mA, hns, _⟩ := (show ObjOk X.prog X.w H s.heap dd (.xd fs) from I.hok dd _ hH)
  obtain ⟨od, hod, _⟩ := lookIn_ns hns
  have J : PySem.W.InstAt s.heap a oe C (some od) := ⟨ho, hz.1, by unfold PySem.W.notCls; rw [hv] <;> rfl, by rw [hz.2]; exact hod⟩
  obtain ⟨_, its, rv, o, g1, g2, n, g3⟩ := (show ObjOk X.prog X.w H s.heap tp (.tup [t1, t2, t3]) from I.hok tp _ hT)
  have ei : its = [c1, c2, c3] := by
    cases rv with
    | cons x1 y1 =>
      cases y1 with
      | cons x2 y2 =>
        cases y2 with
        | cons x3 y3 =>
          cases y3
          rw [h1 _ x1, h2 _ x2, h3 _ x3]
  subst ei
  obtain ⟨oc, oda, dt, sl⟩ := o
  simp only at g2 g3
  subst g2 g3
  exact PySem.W.kia_tup (PySem.W.kitx_exc hcl E.hg E.hk E.hs E.ha E.hn E.ht E.hm) I.kIn J g1 hk (fun zz => nomatch zz) fun tk => ⟨.bl r, H, I.tok tk, rfl, q⟩
def xIsE3 (i : Nat) (t1 t2 t3 : Addr → Option Bool) : Fx D := fun ρ b => match ρ[i]? with
  | some (.val (.exn C _ _)) => lift ((t1 C).bind fun x => (t2 C).bind fun y => (t3 C).map fun z => D.bl (x || (y || z))) b
  | _ => .bad
section
variable {X : Cx} {z : Addr → Bool} {n0 : Nat} {Hs H0s : Hp} {W : WX} {a dd C : Addr} {oe : Obj} {pn : List (Addr × Obj)} {l1 l2 l3 : Addr → Option Bool} {x y1 y2 y3 : Str} {p p1 p2 p3 p4 pt pos : Pos} {kt : Nat}
theorem px_isE3 (i : Nat) (hz : Zc (.ref C) (some dd) oe) (hf : ∃ vs, oe.data = .fields vs) {v1 v2 v3 : V} {c1 c2 c3 : Value} (hc1 : ∀ u, RelV v1 u → u = c1) (hc2 : ∀ u, RelV v2 u → u = c2) (hc3 : ∀ u, RelV v3 u → u = c3) (hT1 : IsxT X.K c1 l1) (hT2 : IsxT X.K c2 l2) (hT3 : IsxT X.K c3 l3)
    (hy1 : PE (X.suite a ((a, oe) :: pn)) (.Name y1 p1) (tC v1)) (hy2 : PE (X.suite a ((a, oe) :: pn)) (.Name y2 p3) (tC v2)) (hy3 : PE (X.suite a ((a, oe) :: pn)) (.Name y3 p4) (tC v3)) (hm : X.mg "isinstance" = none) (hg : Gl X "isinstance" := by rfl) (hN : X.N[i]? = some x := by rfl)
    (hv : Vis X.env.scope x := by first | exact Or.inl rfl | exact Or.inr (Or.inl rfl) | exact Or.inr (Or.inr rfl)) (hd : (x == ("__debug__" : Str)) = false := by decide) (hcd : (x == ("__classdict__" : Str)) = false := by decide)
    (s1 : starEach [.Name y1 p1, .Name y2 p3, .Name y3 p4] X.env = (false, eval (.Name y1 p1) X.env) :: starEach [.Name y2 p3, .Name y3 p4] X.env := by rfl) (s2 : starEach [.Name y2 p3, .Name y3 p4] X.env = (false, eval (.Name y2 p3) X.env) :: starEach [.Name y3 p4] X.env := by rfl) (s3 : starEach [.Name y3 p4] X.env = (false, eval (.Name y3 p4) X.env) :: starEach [] X.env := by rfl)
    (h1 : starEach [.Name x p2, .Tuple [.Name y1 p1, .Name y2 p3, .Name y3 p4] kt pt] X.env = (false, eval (.Name x p2) X.env) :: starEach [.Tuple [.Name y1 p1, .Name y2 p3, .Name y3 p4] kt pt] X.env := by rfl) (h2 : starEach [.Tuple [.Name y1 p1, .Name y2 p3, .Name y3 p4] kt pt] X.env = (false, eval (.Tuple [.Name y1 p1, .Name y2 p3, .Name y3 p4] kt pt) X.env) :: starEach [] X.env := by rfl)
    (hpl : (backTo pos (starEach [.Tuple [.Name y1 p1, .Name y2 p3, .Name y3 p4] kt pt] X.env)).any (·.1) = false := by rfl) : PX (X.suite a ((a, oe) :: pn)) (mkG X.K (.exn a dd C) z n0 Hs H0s) W (.Call (.Name "isinstance" p) [.Name x p2, .Tuple [.Name y1 p1, .Name y2 p3, .Name y3 p4] kt pt] [] pos) (xIsE3 i l1 l2 l3) := by
  refine pe_imp (pe_callB (call_isX3 hz hf) hg hm PyProof.Rows.boot_isinstance (pa_cons (pe_var hN hv hd hcd) (pa_cons (pe_tup (pa_cons hy1 (pa_cons hy2 (pa_cons hy3 pa_nil s3) s2) s1)) pa_nil h2) h1) (by decide) (by decide) h1 hpl) ?_
  rintro σ H Q ⟨ρ, b, H0, G, F⟩
  unfold xIsE3 at F
  split at F
  · rename_i C' fs ds hi
    obtain ⟨v, e1, iv⟩ := G.val hi
    cases iv with
    | @exn a' dd' _ _ vs _ hb hH hl il =>
      cases (show Bk.exn a dd C = Bk.exn a' dd' C' from hb)
      refine ⟨_, e1, ?_⟩
      cases q1 : l1 C with
      | none => rw [q1] at F; exact F.elim
      | some r1 =>
        cases q2 : l2 C with
        | none => rw [q1, q2] at F; exact F.elim
        | some r2 =>
          cases q3 : l3 C with
          | none => rw [q1, q2, q3] at F; exact F.elim
          | some r3 =>
            rw [q1, q2, q3] at F
            obtain ⟨k1, k2, k3⟩ := hT1 C r1 q1
            obtain ⟨_, _, k4⟩ := hT2 C r2 q2
            obtain ⟨_, _, k5⟩ := hT3 C r3 q3
            refine ⟨by show (3 : Nat) ≤ _; decide, fun tp htp => ?_⟩
            have ta := Tr.allocO (o := .tup [v1, v2, v3]) G.sub htp
            have ka : PySem.W.kitAny X.K (.ref C) [c1, c2, c3] = some (r1 || (r2 || r3)) := by
              unfold PySem.W.kitAny
              rw [k3]
              cases r1 with
              | true => rfl
              | false =>
                unfold PySem.W.kitAny
                rw [k4]
                cases r2 with
                | true => rfl
                | false =>
                  unfold PySem.W.kitAny
                  rw [k5]
                  cases r3 <;> rfl
            exact ⟨tp, v1, v2, v3, c1, c2, c3, _, _, rfl, upd_same, hc1, hc2, hc3, ta.sub _ _ hH, k1, k2, ka, F _ _ ta.weak (G.box.keep ta) _ (.bl _)⟩
  · exact F.elim
end
end Fw
set_option Elab.async false
set_option linter.all false
set_option maxRecDepth 100000
set_option maxHeartbeats 4000000
namespace Fw
open PySem PySem.Spec PyProof.Rows L2
def top (i : Nat) : Stmt := PySem.Challenge.pw_bikedocks_k14_texts_refused.main.body.getD i (.Pass ⟨0, 0, 0, 0⟩)
structure Cs where
  (DockError BadTown BadDay BadMove NoPlan BadText Town : Addr)
structure Tx (K : PySem.W.Frag) (mg : Str → Option Value) (c : Cs) : Prop where
  cl_Town : Cls K c.Town
  mg_Town : mg "Town" = some (.ref c.Town)
  n_Town_rooms : NoAttr K c.Town "rooms"
  n_Town_first : NoAttr K c.Town "first"
  n_Town_far : NoAttr K c.Town "far"
  n_Town_at : NoAttr K c.Town "at"
  n_Town_cart_room : NoAttr K c.Town "cart_room"
  n_Town_load : NoAttr K c.Town "load"
  z_ValueError : mg "ValueError" = none
  xt_BadText : XcT K c.BadText
  nx_BadText_row : PySem.W.findIn K (.ref c.BadText) "row" = some none
  xt_BadTown : XcT K c.BadTown
  nx_BadTown_word : PySem.W.findIn K (.ref c.BadTown) "word" = some none
  nx_BadTown_number : PySem.W.findIn K (.ref c.BadTown) "number" = some none
  mg_DockError : mg "DockError" = some (.ref c.DockError)
  is_DockError : ∀ p ∈ [(c.BadText, true), (c.BadTown, true)], ExcC K p.1 ∧ (PySem.W.clsIn K p.1).isSome = true ∧ PySem.W.kitOne K (.ref p.1) (.ref c.DockError) = some p.2
  em_DockError : ∀ p ∈ [(c.BadText, true), (c.BadTown, true)], PySem.W.exmOne K (.ref p.1) (.ref c.DockError) = some p.2
  mg_BadTown : mg "BadTown" = some (.ref c.BadTown)
  is_BadTown : ∀ p ∈ [(c.BadText, false), (c.BadTown, true)], ExcC K p.1 ∧ (PySem.W.clsIn K p.1).isSome = true ∧ PySem.W.kitOne K (.ref p.1) (.ref c.BadTown) = some p.2
  em_BadTown : ∀ p ∈ [(c.BadText, false), (c.BadTown, true)], PySem.W.exmOne K (.ref p.1) (.ref c.BadTown) = some p.2
  mg_BadDay : mg "BadDay" = some (.ref c.BadDay)
  is_BadDay : ∀ p ∈ [(c.BadText, false), (c.BadTown, false)], ExcC K p.1 ∧ (PySem.W.clsIn K p.1).isSome = true ∧ PySem.W.kitOne K (.ref p.1) (.ref c.BadDay) = some p.2
  em_BadDay : ∀ p ∈ [(c.BadText, false), (c.BadTown, false)], PySem.W.exmOne K (.ref p.1) (.ref c.BadDay) = some p.2
  mg_BadMove : mg "BadMove" = some (.ref c.BadMove)
  is_BadMove : ∀ p ∈ [(c.BadText, false), (c.BadTown, false)], ExcC K p.1 ∧ (PySem.W.clsIn K p.1).isSome = true ∧ PySem.W.kitOne K (.ref p.1) (.ref c.BadMove) = some p.2
  em_BadMove : ∀ p ∈ [(c.BadText, false), (c.BadTown, false)], PySem.W.exmOne K (.ref p.1) (.ref c.BadMove) = some p.2
  mg_NoPlan : mg "NoPlan" = some (.ref c.NoPlan)
  is_NoPlan : ∀ p ∈ [(c.BadText, false), (c.BadTown, false)], ExcC K p.1 ∧ (PySem.W.clsIn K p.1).isSome = true ∧ PySem.W.kitOne K (.ref p.1) (.ref c.NoPlan) = some p.2
  em_NoPlan : ∀ p ∈ [(c.BadText, false), (c.BadTown, false)], PySem.W.exmOne K (.ref p.1) (.ref c.NoPlan) = some p.2
  mg_BadText : mg "BadText" = some (.ref c.BadText)
  is_BadText : ∀ p ∈ [(c.BadText, true), (c.BadTown, false)], ExcC K p.1 ∧ (PySem.W.clsIn K p.1).isSome = true ∧ PySem.W.kitOne K (.ref p.1) (.ref c.BadText) = some p.2
  em_BadText : ∀ p ∈ [(c.BadText, true), (c.BadTown, false)], PySem.W.exmOne K (.ref p.1) (.ref c.BadText) = some p.2
  is_ValueError : ∀ p ∈ [(c.BadText, true), (c.BadTown, true)], ExcC K p.1 ∧ (PySem.W.clsIn K p.1).isSome = true ∧ PySem.W.kitOne K (.ref p.1) (.type "ValueError") = some p.2
  c_MOST_DOCKS : ∃ t, mg "MOST_DOCKS" = some (.int 4 t)
  c_MOST_ROOM : ∃ t, mg "MOST_ROOM" = some (.int 9 t)
  c_MOST_WAY : ∃ t, mg "MOST_WAY" = some (.int 99 t)
  c_SORTS : TupC K mg "SORTS" ["dock", "way", "cart"]
  c_FIGURES : ∃ t, mg "FIGURES" = some (.str "0123456789" t)
-- BadTown_init
-- BadText_init
def k_must_be (c : Cs) : Fs := (kIf (xNotT (xT (xVar 0))) (kRaise c.BadTown ["word", "number"] (xCons (xVar 1) (xCons (xVar 2) xNil))) kNext)
def F_must_be (c : Cs) : FD := runD 3 (k_must_be c)
def k_Town_many (c : Cs) : Fs := (kRet (xB len1 (xCons (xFld c.Town "rooms" (xVar 0)) xNil)))
def F_Town_many (c : Cs) : FD := runD 1 (k_Town_many c)
def fb1_Town_init (c : Cs) : Fs := (kDrop (xCall 3 (F_must_be c) (xCons (xChain3 leD leD leD (xC (.int 0)) (xBin idxD (xIxV 1 (xVar 5)) (xC (.int 1))) (xBin idxD (xIxV 1 (xVar 5)) (xC (.int 0))) (xC (.int 9))) (xCons (xC (.str "dock")) (xCons (xVar 5) xNil)))))
def fb2_Town_init (c : Cs) : Fs := (kSeq (kDrop (xCall 3 (F_must_be c) (xCons (xAnd (xBin (eqD false) (xB len1 (xCons (xIxV 2 (xVar 5)) xNil)) (xVar 4)) (xBin (eqD false) (xBin idxD (xIxV 2 (xVar 5)) (xVar 5)) (xC (.int 0)))) (xCons (xC (.str "way")) (xCons (xVar 5) xNil))))) (kDrop (xCall 3 (F_must_be c) (xCons (xAnd (xBin geD (xB min1 (xCons (xIxV 2 (xVar 5)) xNil)) (xC (.int 0))) (xBin leD (xB max1 (xCons (xIxV 2 (xVar 5)) xNil)) (xC (.int 99)))) (xCons (xC (.str "way")) (xCons (xVar 5) xNil))))))
def el1_Town_init (c : Cs) : Fx D := (xIxV 9 (xC (.int 0)))
def el2_Town_init (c : Cs) : Fx D := (xIxV 9 (xC (.int 1)))
def el3_Town_init (c : Cs) : Fx D := (xB tup1 (xCons (xVar 10) xNil))
def k_Town_init (c : Cs) : Fs := (kSeq (kAsg (xLenV 1) (pName 4)) (kSeq (kDrop (xCall 3 (F_must_be c) (xCons (xChain leD leD (xC (.int 1)) (xVar 4) (xC (.int 4))) (xCons (xC (.str "docks")) (xCons (xC (.int 0)) xNil))))) (kSeq (kFor (xSrc rng1 (xCons (xVar 4) xNil)) (pName 5) (fb1_Town_init c)) (kSeq (kDrop (xCall 3 (F_must_be c) (xCons (xBin (eqD false) (xLenV 2) (xVar 4)) (xCons (xC (.str "ways")) (xCons (xC (.int 0)) xNil))))) (kSeq (kFor (xSrc rng1 (xCons (xVar 4) xNil)) (pName 5) (fb2_Town_init c)) (kSeq (kAsg (xVar 3) (pTup [(pName 6), (pName 7), (pName 8)])) (kSeq (kDrop (xCall 3 (F_must_be c) (xCons (xAnd (xChain leD ltD (xC (.int 0)) (xVar 6) (xVar 4)) (xChain3 leD leD leD (xC (.int 0)) (xVar 8) (xVar 7) (xC (.int 9)))) (xCons (xC (.str "cart")) (xCons (xC (.int 0)) xNil))))) (kSeq (kSelf 0 c.Town "rooms" (xB tup1 (xCons (xLst (xComp (xSeq (xVar 1)) [9] (pName 9) xYes (el1_Town_init c))) xNil))) (kSeq (kSelf 0 c.Town "first" (xB tup1 (xCons (xLst (xComp (xSeq (xVar 1)) [9] (pName 9) xYes (el2_Town_init c))) xNil))) (kSeq (kSelf 0 c.Town "far" (xLst (xComp (xSeq (xVar 2)) [10] (pName 10) xYes (el3_Town_init c)))) (kSeq (kSelf 0 c.Town "at" (xVar 6)) (kSeq (kSelf 0 c.Town "cart_room" (xVar 7)) (kSelf 0 c.Town "load" (xVar 8))))))))))))))
def F_Town_init (c : Cs) : FD := runD 11 (k_Town_init c)
def k_Town_begin (c : Cs) : Fs := (kRet (xTup (xSz (xCons (xFld c.Town "first" (xVar 0)) (xCons (xFld c.Town "at" (xVar 0)) (xCons (xFld c.Town "load" (xVar 0)) xNil))))))
def F_Town_begin (c : Cs) : FD := runD 1 (k_Town_begin c)
def el1_Town_docks (c : Cs) : Fx D := (xTup (xSz (xCons (xBin idxD (xFld c.Town "rooms" (xVar 0)) (xVar 1)) (xCons (xBin idxD (xFld c.Town "first" (xVar 0)) (xVar 1)) xNil))))
def k_Town_docks (c : Cs) : Fs := (kRetO (xComp (xSrc rng1 (xCons (xMeth c.Town "many" 1 (F_Town_many c) (xVar 0) xNil) xNil)) [1] (pName 1) xYes (el1_Town_docks c)))
def F_Town_docks (c : Cs) : FD := runD 2 (k_Town_docks c)
def el1_Town_ways (c : Cs) : Fx D := (xLst (xSrc lst1 (xCons (xVar 1) xNil)))
def k_Town_ways (c : Cs) : Fs := (kRetO (xComp (xSeq (xFld c.Town "far" (xVar 0))) [1] (pName 1) xYes (el1_Town_ways c)))
def F_Town_ways (c : Cs) : FD := runD 2 (k_Town_ways c)
def k_Town_cart (c : Cs) : Fs := (kRet (xTup (xSz (xCons (xFld c.Town "at" (xVar 0)) (xCons (xFld c.Town "cart_room" (xVar 0)) (xCons (xFld c.Town "load" (xVar 0)) xNil))))))
def F_Town_cart (c : Cs) : FD := runD 1 (k_Town_cart c)
def fb1_number_of (c : Cs) : Fs := (kIf (xT (xBin (inStr true) (xVar 2) (xC (.str "0123456789")))) (kRaise c.BadText ["row"] (xCons (xVar 1) xNil)) kNext)
def k_number_of (c : Cs) : Fs := (kSeq (kIf (xOrT (xNotT (xT (xChain leD leD (xC (.int 1)) (xLenV 0) (xC (.int 2))))) (xAndT (xT (xBin (eqD false) (xLenV 0) (xC (.int 2)))) (xT (xBin (eqD false) (xIxV 0 (xC (.int 0))) (xC (.str "0")))))) (kRaise c.BadText ["row"] (xCons (xVar 1) xNil)) kNext) (kSeq (kFor (xSeq (xVar 0)) (pName 2) (fb1_number_of c)) (kRet (xB int2 (xCons (xVar 0) xNil)))))
def F_number_of (c : Cs) : FD := runD 3 (k_number_of c)
def el1_read (c : Cs) : Fx D := (xCall 2 (F_number_of c) (xCons (xVar 6) (xCons (xVar 4) xNil)))
def fb1_read (c : Cs) : Fs := (kSeq (kAsg (xLst (xSplit (xIxV 1 (xVar 4)) (xC (.str " ")))) (pName 5)) (kSeq (kIf (xOrT (xT (xBin (inF true) (xIxV 5 (xC (.int 0))) (xC (.tup ((["dock", "way", "cart"] : List Str).map .str))))) (xOrT (xT (xBin ltD (xTidx ["dock", "way", "cart"] (xIxV 5 (xC (.int 0)))) (xVar 3))) (xT (xDNil true 2 "cart")))) (kRaise c.BadText ["row"] (xCons (xVar 4) xNil)) kNext) (kSeq (kAsg (xTidx ["dock", "way", "cart"] (xIxV 5 (xC (.int 0)))) (pName 3)) (kSeq (kIf (xOrT (xT (xBin ltD (xLenV 5) (xC (.int 2)))) (xT (xBin (eqD true) (xLenV 5) (xBin idxD (xLst (xSz (xCons (xC (.int 3)) (xCons (xBin addD (xDLen 2 "dock") (xC (.int 1))) (xCons (xC (.int 4)) xNil))))) (xVar 3))))) (kRaise c.BadText ["row"] (xCons (xVar 4) xNil)) kNext) (kDApp 2 (xIxV 5 (xC (.int 0))) (xB tup1 (xCons (xLst (xCompE (xSeq (xSlc (xVar 5) (xSoP (xC (.int 1))) xNoP)) [6] (pName 6) xYes (el1_read c))) xNil)))))))
def el2_read (c : Cs) : Fx D := (xLst (xSrc lst1 (xCons (xVar 4) xNil)))
def k_read (c : Cs) : Fs := (kSeq (kAsg (xLst (xSplit (xVar 0) (xC (.str "\n")))) (pName 1)) (kDlsE 2 ["dock", "way", "cart"] (kSeq (kAsg (xC (.int 0)) (pName 3)) (kSeq (kFor (xSrc rng1 (xCons (xLenV 1) xNil)) (pName 4) (fb1_read c)) (kSeq (kIf (xT (xDNil false 2 "cart")) (kRaise c.BadText ["row"] (xCons (xLenV 1) xNil)) kNext) (kRet (xUnDE 2 (xMkX c.Town 4 (F_Town_init c) (xCons (xDct (xVar 2) "dock") (xCons (xLst (xComp (xSeq (xDct (xVar 2) "way")) [4] (pName 4) xYes (el2_read c))) (xCons (xBin idxD (xDct (xVar 2) "cart") (xC (.int 0))) xNil)))))))))))
def F_read (c : Cs) : FD := runD 7 (k_read c)
def fb1_Lbegun (c : Cs) : Fs := (kAsg (xBin modD (xBin addD (xBin addD (xBin mulD (xVar 1) (xC (.int 48271))) (xBin mulD (xVar 2) (xC (.int 69621)))) (xC (.int 11))) (xC (.int 2147483647))) (pName 1))
def k_Lbegun (c : Cs) : Fs := (kSeq (kAsg (xC (.int 0)) (pName 1)) (kSeq (kFor (xSeq (xVar 0)) (pName 2) (fb1_Lbegun c)) (kRetO (xSz (xCons (xLst (xSrc lst1 (xCons (xVar 0) xNil))) (xCons (xBin mulD (xVar 1) (xB int1 (xCons (xBin gtD (xLenV 0) (xC (.int 2))) xNil))) xNil))))))
def F_Lbegun (c : Cs) : FD := runD 3 (k_Lbegun c)
def k_Ltake (c : Cs) : Fs := (kSeq (kIf (xT (xBNil 0)) (kSeq (kBSt 0 (xBin modD (xBin mulD (xBSt 0) (xC (.int 48271))) (xC (.int 2147483647)))) (kRet (xBin modD (xBin divD (xBSt 0) (xC (.int 7))) (xVar 1)))) kNext) (kSeq (kAsg (xBHd 0) (pName 2)) (kSeq (kBHd 0 (xBin divD (xVar 2) (xVar 1))) (kSeq (kIf (xOrT (xT (xBin (eqD false) (xBHd 0) (xC (.int 0)))) (xT (xBin (eqD false) (xBHd 0) (xUn negD (xC (.int 1)))))) (kBPop 0) kNext) (kRet (xBin modD (xVar 2) (xVar 1)))))))
def F_Ltake (c : Cs) : FD := runD 3 (k_Ltake c)
def fb1_Lalike (c : Cs) (F_Lalike : Cs → FD) : Fs := (kIf (xNotT (xT (xCall 2 (F_Lalike c) (xCons (xIxV 0 (xVar 2)) (xCons (xIxV 1 (xVar 2)) xNil))))) (kRet (xC (.bl false))) kNext)
def k_Lalike (c : Cs) (F_Lalike : Cs → FD) : Fs := (kSeq (kIf (xT (xBin isND (xVar 1) (xC .non))) (kRet (xBin isND (xVar 0) (xC .non))) kNext) (kSeq (kIf (xT (xUn (isiD "bool") (xVar 1))) (kRet (xAnd (xUn (isiD "bool") (xVar 0)) (xBin (eqD false) (xVar 0) (xVar 1)))) kNext) (kSeq (kIf (xT (xUn (isiD "int") (xVar 1))) (kRet (xAnd (xUn (isiD "int") (xVar 0)) (xAnd (xNot (xUn (isiD "bool") (xVar 0))) (xBin (eqD false) (xVar 0) (xVar 1))))) kNext) (kSeq (kIf (xT (xUn (isiD "str") (xVar 1))) (kRet (xAnd (xUn (isiD "str") (xVar 0)) (xBin (eqD false) (xVar 0) (xVar 1)))) kNext) (kSeq (kIf (xOrT (xT (xBin (eqD true) (xUn (isiD "tuple") (xVar 1)) (xUn (isiD "tuple") (xVar 0)))) (xT (xBin (eqD true) (xUn (isiD "list") (xVar 1)) (xUn (isiD "list") (xVar 0))))) (kRet (xC (.bl false))) kNext) (kSeq (kIf (xT (xBin (eqD true) (xLenV 0) (xLenV 1))) (kRet (xC (.bl false))) kNext) (kSeq (kFor (xSrc rng1 (xCons (xLenV 1) xNil)) (pName 2) (fb1_Lalike c F_Lalike)) (kRet (xC (.bl true))))))))))
def F_Lalike : Nat → Cs → FD
  | 0, _ => fun _ _ => .bad
  | m + 1, c => runD 3 (k_Lalike c (F_Lalike m))
def fb1_Ltown (c : Cs) : Fs := (kSeq (kAsg (xCall 2 (F_Ltake c) (xCons (xVar 0) (xCons (xBin addD (xVar 2) (xC (.int 1))) xNil))) (pName 7)) (kApp 5 (xTup (xSz (xCons (xVar 7) (xCons (xCall 2 (F_Ltake c) (xCons (xVar 0) (xCons (xBin addD (xVar 7) (xC (.int 1))) xNil))) xNil))))))
def el1_Ltown (c : Cs) : Fx D := (xBin idxD (xLst (xSz (xCons (xCall 2 (F_Ltake c) (xCons (xVar 0) (xCons (xC (.int 5)) xNil))) (xCons (xCall 2 (F_Ltake c) (xCons (xVar 0) (xCons (xC (.int 100)) xNil))) xNil)))) (xB int1 (xCons (xBin (eqD false) (xCall 2 (F_Ltake c) (xCons (xVar 0) (xCons (xC (.int 6)) xNil))) (xC (.int 1))) xNil)))
def fb2_Ltown (c : Cs) : Fs := (kSeq (kAsgO (xComp (xSrc rng1 (xCons (xVar 4) xNil)) [9] (pName 9) xYes (el1_Ltown c)) 10) (kSeq (kSetI 10 (xC (.int 0)) (xVar 6)) (kFrz 10 (kApp 8 (xVar 10)))))
def k_Ltown (c : Cs) : Fs := (kSeq (kAsg (xBin addD (xC (.int 1)) (xCall 2 (F_Ltake c) (xCons (xVar 0) (xCons (xVar 1) xNil)))) (pName 4)) (kSeq (kAsgO (xSz xNil) 5) (kSeq (kFor (xSrc rng1 (xCons (xVar 4) xNil)) (pName 6) (fb1_Ltown c)) (kSeq (kAsgO (xSz xNil) 8) (kSeq (kFor (xSrc rng1 (xCons (xVar 4) xNil)) (pName 6) (fb2_Ltown c)) (kSeq (kAsg (xCall 2 (F_Ltake c) (xCons (xVar 0) (xCons (xBin addD (xVar 3) (xC (.int 1))) xNil))) (pName 7)) (kFrz 8 (kFrz 5 (kRet (xTup (xSz (xCons (xVar 5) (xCons (xVar 8) (xCons (xTup (xSz (xCons (xCall 2 (F_Ltake c) (xCons (xVar 0) (xCons (xVar 4) xNil))) (xCons (xVar 7) (xCons (xCall 2 (F_Ltake c) (xCons (xVar 0) (xCons (xBin addD (xVar 7) (xC (.int 1))) xNil))) xNil))))) xNil))))))))))))))
def F_Ltown (c : Cs) : FD := runD 11 (k_Ltown c)
def el1_Lday (c : Cs) : Fx D := (xTup (xSz (xCons (xCall 2 (F_Ltake c) (xCons (xVar 0) (xCons (xVar 5) xNil))) (xCons (xCall 2 (F_Ltake c) (xCons (xVar 0) (xCons (xVar 5) xNil))) xNil))))
def fb1_Lday (c : Cs) : Fs := (kSeq (kAsg (xBin idxD (xLst (xSz (xCons (xC (.int 2)) (xCons (xC (.int 4)) (xCons (xC (.int 10)) xNil))))) (xCall 2 (F_Ltake c) (xCons (xVar 0) (xCons (xC (.int 3)) xNil)))) (pName 5)) (kApp 3 (xLst (xComp (xSeq (xIxV 1 (xC (.int 0)))) [6] (pName 6) xYes (el1_Lday c)))))
def k_Lday (c : Cs) : Fs := (kSeq (kAsgO (xSz xNil) 3) (kSeq (kFor (xSrc rng1 (xCons (xBin addD (xC (.int 1)) (xCall 2 (F_Ltake c) (xCons (xVar 0) (xCons (xVar 2) xNil)))) xNil)) (pName 4) (fb1_Lday c)) (kRetV 3)))
def F_Lday (c : Cs) : FD := runD 7 (k_Lday c)
def el1_Lmade (c : Cs) : Fx D := (xLst (xSrc lst1 (xCons (xVar 1) xNil)))
def k_Lmade (c : Cs) : Fs := (kRet (xMkX c.Town 4 (F_Town_init c) (xCons (xLst (xSrc lst1 (xCons (xIxV 0 (xC (.int 0))) xNil))) (xCons (xLst (xComp (xSeq (xIxV 0 (xC (.int 1)))) [1] (pName 1) xYes (el1_Lmade c))) (xCons (xIxV 0 (xC (.int 2))) xNil)))))
def F_Lmade (c : Cs) : FD := runD 2 (k_Lmade c)
def el1_Lfirst (c : Cs) : Fx D := (xIxV 1 (xC (.int 1)))
def k_Lfirst (c : Cs) : Fs := (kRet (xTup (xSz (xCons (xB tup1 (xCons (xLst (xComp (xSeq (xIxV 0 (xC (.int 0)))) [1] (pName 1) xYes (el1_Lfirst c))) xNil)) (xCons (xBin idxD (xIxV 0 (xC (.int 2))) (xC (.int 0))) (xCons (xBin idxD (xIxV 0 (xC (.int 2))) (xC (.int 2))) xNil))))))
def F_Lfirst (c : Cs) : FD := runD 2 (k_Lfirst c)
def el1_Llines (c : Cs) : Fx D := (xBin addD (xBin addD (xBin addD (xC (.str "dock ")) (xB str1 (xCons (xVar 1) xNil))) (xC (.str " "))) (xB str1 (xCons (xVar 2) xNil)))
def el2_Llines (c : Cs) : Fx D := (xB str1 (xCons (xVar 5) xNil))
def fb1_Llines (c : Cs) : Fs := (kApp 3 (xBin addD (xC (.str "way ")) (xM1 joinD (xC (.str " ")) (xLst (xComp (xSeq (xVar 4)) [5] (pName 5) xYes (el2_Llines c))))))
def el3_Llines (c : Cs) : Fx D := (xB str1 (xCons (xVar 6) xNil))
def k_Llines (c : Cs) : Fs := (kSeq (kAsgO (xComp (xSeq (xIxV 0 (xC (.int 0)))) [1, 2] (pTup [(pName 1), (pName 2)]) xYes (el1_Llines c)) 3) (kSeq (kFor (xSeq (xIxV 0 (xC (.int 1)))) (pName 4) (fb1_Llines c)) (kFrz 3 (kRet (xBin addD (xVar 3) (xLst (xSz (xCons (xBin addD (xC (.str "cart ")) (xM1 joinD (xC (.str " ")) (xLst (xComp (xSeq (xIxV 0 (xC (.int 2)))) [6] (pName 6) xYes (el3_Llines c))))) xNil))))))))
def F_Llines (c : Cs) : FD := runD 7 (k_Llines c)
def hd1_Lrefused (c : Cs) : Fs := (kSeq (kIf (xOrT (xT (xIsE3 1 (tblOf [(c.BadText, false), (c.BadTown, false)]) (tblOf [(c.BadText, false), (c.BadTown, false)]) (tblOf [(c.BadText, false), (c.BadTown, false)]))) (xNotT (xT (xIsE 1 (tblOf [(c.BadText, true), (c.BadTown, true)]))))) (kRet (xC (.str "other"))) kNext) (kSeq (kIf (xT (xIsE 1 (tblOf [(c.BadText, true), (c.BadTown, false)]))) (kRet (xIf (xT (xIsE 1 (tblOf [(c.BadText, false), (c.BadTown, true)]))) (xC (.str "other")) (xTup (xSz (xCons (xC (.str "text")) (xCons (xExf 1 c.BadText "row") xNil)))))) kNext) (kRet (xTup (xSz (xCons (xC (.str "town")) (xCons (xExf 1 c.BadTown "word") (xCons (xExf 1 c.BadTown "number") xNil))))))))
def k_Lrefused (c : Cs) : Fs := (kSeq (kTryAs 1 (tblOf [(c.BadText, true), (c.BadTown, true)]) (kDrop (xCall 1 (F_read c) (xCons (xM1 joinD (xC (.str "\n")) (xVar 0)) xNil))) (hd1_Lrefused c)) (kRet (xC (.str "read"))))
def F_Lrefused (c : Cs) : FD := runD 2 (k_Lrefused c)
def k_Lnone (c : Cs) : Fs := (kSeq (kAsg (xLst (xSz (xCons (xC (.str "")) (xCons (xC (.str " ")) (xCons (xC (.str "dock")) (xCons (xC (.str "dock 1")) (xCons (xC (.str "dock 1 1 1")) (xCons (xC (.str "dock 1 01")) (xCons (xC (.str "dock 1 -1")) (xCons (xC (.str "dock 1 100")) (xCons (xC (.str "dock 1 x")) xNil))))))))))) (pName 1)) (kSeq (kAsg (xBin addD (xVar 1) (xLst (xSz (xCons (xC (.str "dock  1 1")) (xCons (xC (.str "dock 1 1 ")) (xCons (xC (.str " dock 1 1")) (xCons (xC (.str "Dock 1 1")) (xCons (xC (.str "docks 1 1")) (xCons (xC (.str "way x")) (xCons (xC (.str "way -1 0")) (xCons (xC (.str "way 100 0")) xNil))))))))))) (pName 1)) (kSeq (kAsg (xBin addD (xVar 1) (xLst (xSz (xCons (xC (.str "way")) (xCons (xC (.str "cart")) (xCons (xC (.str "cart 0 1")) (xCons (xC (.str "cart 0 1 1 1")) (xCons (xC (.str "cart 0 1 x")) (xCons (xC (.str "cart 0 1 001")) (xCons (xC (.str "Cart 0 1 1")) xNil)))))))))) (pName 1)) (kSeq (kAsg (xBin addD (xVar 1) (xLst (xSz (xCons (xC (.str "0 1 1")) (xCons (xC (.str "bike 1 1")) (xCons (xC (.str "dock 1 +1")) (xCons (xC (.str "way +0")) (xCons (xC (.str "cart 0 1 +1")) (xCons (xC (.str "dock +1 0")) xNil))))))))) (pName 1)) (kRet (xIxV 1 (xCall 2 (F_Ltake c) (xCons (xVar 0) (xCons (xC (.int 30)) xNil)))))))))
def F_Lnone (c : Cs) : FD := runD 2 (k_Lnone c)
def k_law (c : Cs) : Fs := (kBegun 1 0 (F_Lbegun c) (kSeq (kAsg (xCall 4 (F_Ltown c) (xCons (xVar 1) (xCons (xC (.int 4)) (xCons (xC (.int 9)) (xCons (xC (.int 9)) xNil))))) (pName 2)) (kSeq (kAsg (xCall 1 (F_Llines c) (xCons (xVar 2) xNil)) (pName 3)) (kSeq (kAsg (xB len1 (xCons (xIxV 2 (xC (.int 0))) xNil)) (pName 4)) (kSeq (kAsg (xBin mulD (xLst (xSz (xCons (xCall 1 (F_Lnone c) (xCons (xVar 1) xNil)) xNil))) (xCall 2 (F_Ltake c) (xCons (xVar 1) (xCons (xC (.int 2)) xNil)))) (pName 5)) (kSeq (kAsg (xCall 2 (F_Ltake c) (xCons (xVar 1) (xCons (xBin addD (xLenV 3) (xC (.int 1))) xNil))) (pName 6)) (kSeq (kAsg (xBin addD (xBin addD (xSlc (xVar 3) xNoP (xSoP (xVar 6))) (xLst (xSz (xCons (xCall 1 (F_Lnone c) (xCons (xVar 1) xNil)) xNil)))) (xSlc (xVar 3) (xSoP (xVar 6)) xNoP)) (pName 7)) (kSeq (kIf (xT (xBin (eqD true) (xCall 1 (F_Lrefused c) (xCons (xBin addD (xVar 7) (xVar 5)) xNil)) (xTup (xSz (xCons (xC (.str "text")) (xCons (xVar 6) xNil)))))) (kRet (xC (.bl false))) kNext) (kSeq (kAsg (xBin addD (xVar 3) (xLst (xSz (xCons (xIxV 3 (xCall 2 (F_Ltake c) (xCons (xVar 1) (xCons (xLenV 3) xNil)))) xNil)))) (pName 7)) (kSeq (kIf (xT (xBin (eqD true) (xCall 1 (F_Lrefused c) (xCons (xBin addD (xVar 7) (xVar 5)) xNil)) (xTup (xSz (xCons (xC (.str "text")) (xCons (xLenV 3) xNil)))))) (kRet (xC (.bl false))) kNext) (kSeq (kIf (xT (xBin (eqD true) (xCall 1 (F_Lrefused c) (xCons (xSlc (xVar 3) xNoP (xSoP (xUn negD (xC (.int 1))))) xNil)) (xTup (xSz (xCons (xC (.str "text")) (xCons (xBin subD (xLenV 3) (xC (.int 1))) xNil)))))) (kRet (xC (.bl false))) kNext) (kSeq (kAsg (xBin addD (xVar 4) (xCall 2 (F_Ltake c) (xCons (xVar 1) (xCons (xVar 4) xNil)))) (pName 8)) (kSeq (kAsg (xBin addD (xBin addD (xSlc (xVar 3) xNoP (xSoP (xVar 8))) (xLst (xSz (xCons (xBin addD (xIxV 3 (xVar 8)) (xC (.str " 0"))) xNil)))) (xSlc (xVar 3) (xSoP (xBin addD (xVar 8) (xC (.int 1)))) xNoP)) (pName 7)) (kSeq (kIf (xT (xBin (eqD true) (xCall 1 (F_Lrefused c) (xCons (xBin addD (xVar 7) (xVar 5)) xNil)) (xTup (xSz (xCons (xC (.str "text")) (xCons (xVar 8) xNil)))))) (kRet (xC (.bl false))) kNext) (kSeq (kAsg (xBin addD (xBin addD (xSlc (xVar 3) xNoP (xSoP (xBin addD (xVar 4) (xC (.int 1))))) (xLst (xSz (xCons (xC (.str "dock 1 1")) xNil)))) (xSlc (xVar 3) (xSoP (xBin addD (xVar 4) (xC (.int 1)))) xNoP)) (pName 7)) (kSeq (kIf (xT (xBin (eqD true) (xCall 1 (F_Lrefused c) (xCons (xVar 7) xNil)) (xTup (xSz (xCons (xC (.str "text")) (xCons (xBin addD (xVar 4) (xC (.int 1))) xNil)))))) (kRet (xC (.bl false))) kNext) (kSeq (kAsgO (xSz (xCons (xTup (xSz (xCons (xLst (xSz (xCons (xC (.str "dock 1 2")) (xCons (xC (.str "way 0")) (xCons (xC (.str "cart 0 1 1")) xNil))))) (xCons (xC (.str "dock")) (xCons (xC (.int 0)) xNil))))) xNil)) 9) (kSeq (kApp 9 (xTup (xSz (xCons (xLst (xSz (xCons (xC (.str "dock 1 1")) (xCons (xC (.str "way 1")) (xCons (xC (.str "cart 0 1 1")) xNil))))) (xCons (xC (.str "way")) (xCons (xC (.int 0)) xNil)))))) (kSeq (kApp 9 (xTup (xSz (xCons (xLst (xSz (xCons (xC (.str "dock 1 1")) (xCons (xC (.str "cart 0 1 1")) xNil)))) (xCons (xC (.str "ways")) (xCons (xC (.int 0)) xNil)))))) (kSeq (kApp 9 (xTup (xSz (xCons (xLst (xSz (xCons (xC (.str "dock 1 1")) (xCons (xC (.str "way 0")) (xCons (xC (.str "cart 0 1 2")) xNil))))) (xCons (xC (.str "cart")) (xCons (xC (.int 0)) xNil)))))) (kSeq (kApp 9 (xTup (xSz (xCons (xBin addD (xBin mulD (xLst (xSz (xCons (xC (.str "dock 1 1")) xNil))) (xC (.int 5))) (xLst (xSz (xCons (xC (.str "cart 0 1 1")) xNil)))) (xCons (xC (.str "docks")) (xCons (xC (.int 0)) xNil)))))) (kSeq (kApp 9 (xTup (xSz (xCons (xLst (xSz (xCons (xC (.str "cart 0 1 1")) xNil))) (xCons (xC (.str "docks")) (xCons (xC (.int 0)) xNil)))))) (kSeq (kAsg (xIxV 9 (xCall 2 (F_Ltake c) (xCons (xVar 1) (xCons (xC (.int 6)) xNil)))) (pTup [(pName 10), (pName 11), (pName 12)])) (kSeq (kIf (xT (xBin (eqD true) (xCall 1 (F_Lrefused c) (xCons (xVar 10) xNil)) (xTup (xSz (xCons (xC (.str "town")) (xCons (xVar 11) (xCons (xVar 12) xNil))))))) (kRet (xC (.bl false))) kNext) (kRet (xBin (eqD false) (xCall 1 (F_Lrefused c) (xCons (xBin addD (xVar 10) (xLst (xSz (xCons (xC (.str "x")) xNil)))) xNil)) (xTup (xSz (xCons (xC (.str "text")) (xCons (xLenV 10) xNil))))))))))))))))))))))))))))))
def F_law (c : Cs) : FD := runD 13 (k_law c)
section
variable {P : Program} {w : World} {K : PySem.W.Frag} {mg : Str → Option Value} {base : Heap} {c : Cs}
abbrev s_BadTown_init : Stmt := inClass (top 3) 0
abbrev N_BadTown_init : List Str := ["self", "word", "number"]
theorem sc_BadTown_init : FnScope N_BadTown_init ["self", "word", "number"] (defScope s_BadTown_init) := ⟨rfl, rfl, rfl, by decide +kernel, rfl, by decide +kernel, by decide +kernel⟩
theorem ok_BadTown_init {f : Addr} {fd : FuncData} (BX : BaseX K mg c.DockError) (T : OexC K c.BadTown) (F : Fun K "__init__" "BadTown.__init__" s_BadTown_init f fd) (n1 : PySem.W.findIn K (.ref c.BadTown) "word" = some none) (n2 : PySem.W.findIn K (.ref c.BadTown) "number" = some none) (hi : PySem.W.findIn K (.ref c.BadTown) "__init__" = some (some (.ref f))) (ti : PySem.W.typeIn K (.ref f) = some (.type "function")) (hm : mg "BadTown" = some (.ref c.BadTown)) (b : Binds K fd ["self", "word", "number"] []) : ExcD P w K mg base 1 "BadTown" c.BadTown ["word", "number"] := by
  refine ⟨⟨f, fd, _, hi, ti, F.okX sc_BadTown_init (fun vs H Q E h => ?_) (fun cdv A outer s H vs Q E hr h => ?_), b⟩, T, hm⟩
  · obtain ⟨a, us, rfl, hl, _⟩ := h
    simpa using hl
  · obtain ⟨a, us, rfl, hl, hH, q⟩ := h
    obtain ⟨v1, v2, rfl⟩ : ∃ v1 v2, us = [v1, v2] := by
      match us, hl with
      | [v1, v2], _ => exact ⟨v1, v2, rfl⟩
    refine ⟨_, pss_cons (ps_expr (pe_base BX rfl (pa_cons (pv 0) (pa_cons (pv 1) pa_nil)))) (pss_cons (ps_ost (pv 0) (pv 1)) (pss_one (ps_ost (pv 0) (pv 2)))), ?_⟩
    refine ⟨_, rfl, _, rfl, a, c.BadTown, _, rfl, by simp, T, hH, _, rfl, _, rfl, a, c.BadTown, rfl, T, n1, .inl ⟨hH, fun dx h1 h2 => ?_⟩⟩
    refine ⟨_, rfl, _, rfl, a, c.BadTown, rfl, T, n2, .inr ⟨dx, _, upd_same, by rw [upd_ne h2, upd_same], by simp, ?_⟩⟩
    exact q dx _ h1 h2 (by rw [upd_ne (Ne.symm h2), upd_same]) (by rw [upd_same]; rfl) fun c n1 n2 => by rw [upd_ne n2, upd_ne n1, upd_ne n2]
abbrev s_BadText_init : Stmt := inClass (top 7) 0
abbrev N_BadText_init : List Str := ["self", "row"]
theorem sc_BadText_init : FnScope N_BadText_init ["self", "row"] (defScope s_BadText_init) := ⟨rfl, rfl, rfl, by decide +kernel, rfl, by decide +kernel, by decide +kernel⟩
theorem ok_BadText_init {f : Addr} {fd : FuncData} (BX : BaseX K mg c.DockError) (T : OexC K c.BadText) (F : Fun K "__init__" "BadText.__init__" s_BadText_init f fd) (n1 : PySem.W.findIn K (.ref c.BadText) "row" = some none) (hi : PySem.W.findIn K (.ref c.BadText) "__init__" = some (some (.ref f))) (ti : PySem.W.typeIn K (.ref f) = some (.type "function")) (hm : mg "BadText" = some (.ref c.BadText)) (b : Binds K fd ["self", "row"] []) : ExcD P w K mg base 1 "BadText" c.BadText ["row"] := by
  refine ⟨⟨f, fd, _, hi, ti, F.okX sc_BadText_init (fun vs H Q E h => ?_) (fun cdv A outer s H vs Q E hr h => ?_), b⟩, T, hm⟩
  · obtain ⟨a, us, rfl, hl, _⟩ := h
    simpa using hl
  · obtain ⟨a, us, rfl, hl, hH, q⟩ := h
    obtain ⟨v1, rfl⟩ : ∃ v1, us = [v1] := by
      match us, hl with
      | [v1], _ => exact ⟨v1, rfl⟩
    refine ⟨_, pss_cons (ps_expr (pe_base BX rfl (pa_cons (pv 0) (pa_cons pe_str pa_nil)))) (pss_one (ps_ost (pv 0) (pv 1))), ?_⟩
    refine ⟨_, rfl, a, c.BadText, _, rfl, by simp, T, hH, _, rfl, _, rfl, a, c.BadText, rfl, T, n1, .inl ⟨hH, fun dx h1 h2 => ?_⟩⟩
    exact q dx _ h1 h2 upd_same (by rw [upd_ne h2, upd_same]; rfl) fun c n1 n2 => by rw [upd_ne n1, upd_ne n2]
abbrev s_must_be : Stmt := top 12
abbrev N_must_be : List Str := ["good", "word", "number"]
theorem sc_must_be : FnScope N_must_be ["good", "word", "number"] (defScope s_must_be) := ⟨rfl, rfl, rfl, by decide +kernel, rfl, by decide +kernel, by decide +kernel⟩
theorem ok_must_be {f : Addr} {fd : FuncData} (B : Bi mg) (TX : Tx K mg c) (F : Fun K "must_be" "must_be" s_must_be f fd) (hm : mg "must_be" = some (.ref f)) (b : Binds K fd ["good", "word", "number"] []) (x_BadTown : ExcD P w K mg base 1 "BadTown" c.BadTown ["word", "number"]) : CalD P w K mg base 3 "must_be" 3 (F_must_be c) :=
  calD (N := N_must_be) (n := 2) (k := k_must_be c) F sc_must_be hm b fun bx z n0 Hs H0s W cdv A outer s H E tk hr => (pb_one (p1_if (pq_not (pq_val (px_var 0))) (pb_one (p1_raise x_BadTown rfl hr (by decide) tk (pl_cons (px_var 1) (pl_cons (px_var 2) pl_nil)))) pb_nil))
abbrev s_Town_many : Stmt := inClass (top 13) 1
abbrev N_Town_many : List Str := ["self"]
theorem sc_Town_many : FnScope N_Town_many ["self"] (defScope s_Town_many) := ⟨rfl, rfl, rfl, by decide +kernel, rfl, by decide +kernel, by decide +kernel⟩
theorem ok_Town_many {f : Addr} {fd : FuncData} (B : Bi mg) (TX : Tx K mg c) (F : Fun K "many" "Town.many" s_Town_many f fd) (hm : Meth K c.Town "many" f) (b : Binds K fd ["self"] [])  : MetD P w K mg base 1 c.Town "many" 1 (F_Town_many c) :=
  metD (N := N_Town_many) (n := 0) (k := k_Town_many c) TX.cl_Town F sc_Town_many hm b fun bx z n0 Hs H0s W cdv A outer s H E tk hr => (pb_one (p1_ret (px_callB call_len cld_len (by rfl) B.b_len PySem.boot_len (pl_cons (px_fld (px_var 0) rfl TX.cl_Town TX.n_Town_rooms) pl_nil))))
abbrev s_Town_init : Stmt := inClass (top 13) 0
abbrev N_Town_init : List Str := ["self", "docks", "ways", "cart", "many", "number", "place", "room", "load", "dock", "row"]
theorem sc_Town_init : FnScope N_Town_init ["self", "docks", "ways", "cart"] (defScope s_Town_init) := ⟨rfl, rfl, rfl, by decide +kernel, rfl, by decide +kernel, by decide +kernel⟩
theorem ok_Town_init {f : Addr} {fd : FuncData} (B : Bi mg) (TX : Tx K mg c) (F : Fun K "__init__" "Town.__init__" s_Town_init f fd) (M : Mk K c.Town f) (hm : mg "Town" = some (.ref c.Town)) (b : Binds K fd ["self", "docks", "ways", "cart"] []) (c_must_be : CalD P w K mg base 3 "must_be" 3 (F_must_be c)) : MakD P w K mg base 4 "Town" c.Town 4 (F_Town_init c) :=
  ⟨⟨f, fd, _, M, okB (N := N_Town_init) (n := 3) (k := k_Town_init c) F sc_Town_init fun bx z n0 Hs H0s W cdv A outer s H E tk hr => (pb_cons (p1_asg (px_lenV 1 (by rfl) (by rfl) B.b_len) (pg_n 4 sc_Town_init.nd)) (pb_cons (p1_drop (pxc c_must_be hr (by decide) rfl tk (pl_cons (px_chain' op_le op_le opd_le opd_le le_bl px_int (px_var 4) (px_gint TX.c_MOST_DOCKS)) (pl_cons px_str (pl_cons px_int pl_nil))))) (pb_cons (p1_for PassesOwn.leaving rfl (is_rng1 (by rfl) B.b_range (pl_cons (px_var 4) pl_nil)) (pg_n 5 sc_Town_init.nd) (pb_one (p1_drop (pxc c_must_be hr (by decide) rfl tk (pl_cons (px_chain3 op_le opd_le op_le opd_le op_le opd_le le_bl le_bl px_int (px_ix ix_seq opd_idx (px_ixV 1 rfl (px_var 5)) px_int) (px_ix ix_seq opd_idx (px_ixV 1 rfl (px_var 5)) px_int) (px_gint TX.c_MOST_ROOM)) (pl_cons px_str (pl_cons (px_var 5) pl_nil))))))) (pb_cons (p1_drop (pxc c_must_be hr (by decide) rfl tk (pl_cons (px_cmp (op_eqD hr.units) opd_eq (px_lenV 2 (by rfl) (by rfl) B.b_len) (px_var 4)) (pl_cons px_str (pl_cons px_int pl_nil))))) (pb_cons (p1_for PassesOwn.leaving rfl (is_rng1 (by rfl) B.b_range (pl_cons (px_var 4) pl_nil)) (pg_n 5 sc_Town_init.nd) (pb_cons (p1_drop (pxc c_must_be hr (by decide) rfl tk (pl_cons (px_and (px_cmp (op_eqD hr.units) opd_eq (px_callB call_len cld_len (by rfl) B.b_len PySem.boot_len (pl_cons (px_ixV 2 rfl (px_var 5)) pl_nil)) (px_var 4)) (px_one (px_cmp (op_eqD hr.units) opd_eq (px_ix ix_seq opd_idx (px_ixV 2 rfl (px_var 5)) (px_var 5)) px_int))) (pl_cons px_str (pl_cons (px_var 5) pl_nil))))) (pb_one (p1_drop (pxc c_must_be hr (by decide) rfl tk (pl_cons (px_and (px_cmp op_ge opd_ge (px_callB (call_minU rfl hr.units) cld_min (by rfl) B.b_min (by decide +kernel) (pl_cons (px_ixV 2 rfl (px_var 5)) pl_nil)) px_int) (px_one (px_cmp op_le opd_le (px_callB (call_maxU rfl hr.units) cld_max (by rfl) B.b_max (by decide +kernel) (pl_cons (px_ixV 2 rfl (px_var 5)) pl_nil)) (px_gint TX.c_MOST_WAY)))) (pl_cons px_str (pl_cons (px_var 5) pl_nil)))))))) (pb_cons (p1_asg (px_var 3) (pg_t rfl rfl (pgs_1 (pg_n 6 sc_Town_init.nd) (pgs_1 (pg_n 7 sc_Town_init.nd) (pgs_1 (pg_n 8 sc_Town_init.nd) pgs_0))))) (pb_cons (p1_drop (pxc c_must_be hr (by decide) rfl tk (pl_cons (px_and (px_chain' op_le op_lt opd_le opd_lt le_bl px_int (px_var 6) (px_var 4)) (px_one (px_chain3 op_le opd_le op_le opd_le op_le opd_le le_bl le_bl px_int (px_var 8) (px_var 7) (px_gint TX.c_MOST_ROOM)))) (pl_cons px_str (pl_cons px_int pl_nil))))) (pb_cons (p1_self 0 (px_callTy call_tuple_of cld_tup (by rfl) B.b_tuple (by decide +kernel) (pl_cons (px_fz (po_comp (own := [("dock", 9)]) (is := [9]) rfl sc_Town_init.nd (is_seq rfl (px_var 1)) (blkOk_by (N := N_Town_init) (sc := defScope s_Town_init) (by decide +kernel)) (by decide) (fun _ _ _ _ _ => (pg_n 9 sc_Town_init.nd)) (fun _ _ _ _ _ => ptq_nil) (fun _ _ _ _ _ => (px_ixV 9 rfl px_int)))) pl_nil)) rfl TX.cl_Town TX.n_Town_rooms) (pb_cons (p1_self 0 (px_callTy call_tuple_of cld_tup (by rfl) B.b_tuple (by decide +kernel) (pl_cons (px_fz (po_comp (own := [("dock", 9)]) (is := [9]) rfl sc_Town_init.nd (is_seq rfl (px_var 1)) (blkOk_by (N := N_Town_init) (sc := defScope s_Town_init) (by decide +kernel)) (by decide) (fun _ _ _ _ _ => (pg_n 9 sc_Town_init.nd)) (fun _ _ _ _ _ => ptq_nil) (fun _ _ _ _ _ => (px_ixV 9 rfl px_int)))) pl_nil)) rfl TX.cl_Town TX.n_Town_first) (pb_cons (p1_self 0 (px_fz (po_comp (own := [("row", 10)]) (is := [10]) rfl sc_Town_init.nd (is_seq rfl (px_var 2)) (blkOk_by (N := N_Town_init) (sc := defScope s_Town_init) (by decide +kernel)) (by decide) (fun _ _ _ _ _ => (pg_n 10 sc_Town_init.nd)) (fun _ _ _ _ _ => ptq_nil) (fun _ _ _ _ _ => (px_callTy call_tuple_of cld_tup (by rfl) B.b_tuple (by decide +kernel) (pl_cons (px_var 10) pl_nil))))) rfl TX.cl_Town TX.n_Town_far) (pb_cons (p1_self 0 (px_var 6) rfl TX.cl_Town TX.n_Town_at) (pb_cons (p1_self 0 (px_var 7) rfl TX.cl_Town TX.n_Town_cart_room) (pb_one (p1_self 0 (px_var 8) rfl TX.cl_Town TX.n_Town_load)))))))))))))), b, hm⟩⟩
abbrev s_number_of : Stmt := top 17
abbrev N_number_of : List Str := ["word", "row", "sign"]
theorem sc_number_of : FnScope N_number_of ["word", "row"] (defScope s_number_of) := ⟨rfl, rfl, rfl, by decide +kernel, rfl, by decide +kernel, by decide +kernel⟩
theorem ok_number_of {f : Addr} {fd : FuncData} (B : Bi mg) (TX : Tx K mg c) (F : Fun K "number_of" "number_of" s_number_of f fd) (hm : mg "number_of" = some (.ref f)) (b : Binds K fd ["word", "row"] []) (x_BadText : ExcD P w K mg base 1 "BadText" c.BadText ["row"]) : CalD P w K mg base 3 "number_of" 2 (F_number_of c) :=
  calD (N := N_number_of) (n := 2) (k := k_number_of c) F sc_number_of hm b fun bx z n0 Hs H0s W cdv A outer s H E tk hr => (pb_cons (p1_if (PWd.toQ (pwd_or (pq_not (pq_chain op_le op_le opd_le opd_le le_bl px_int (px_lenV 0 (by rfl) (by rfl) B.b_len) px_int)) (pwd_or1 (PWd.toQ (pwd_and (pq_cmp (op_eqD hr.units) opd_eq (px_lenV 0 (by rfl) (by rfl) B.b_len) px_int) (pwd_and1 (pq_cmp (op_eqD hr.units) opd_eq (px_ixV 0 rfl px_int) px_str))))))) (pb_one (p1_raise x_BadText rfl hr (by decide) tk (pl_cons (px_var 1) pl_nil))) pb_nil) (pb_cons (p1_for PassesOwn.leaving rfl (is_seq rfl (px_var 0)) (pg_n 2 sc_number_of.nd) (pb_one (p1_if (pq_cmp op_notin_str opd_notInStr (px_var 2) (px_gstr TX.c_FIGURES)) (pb_one (p1_raise x_BadText rfl hr (by decide) tk (pl_cons (px_var 1) pl_nil))) pb_nil))) (pb_one (p1_ret (px_callTy call_int_str cld_int2 (by rfl) B.b_int (by decide +kernel) (pl_cons (px_var 0) pl_nil))))))
abbrev s_read : Stmt := top 18
abbrev N_read : List Str := ["text", "rows", "found", "last", "row", "words", "word"]
theorem sc_read : FnScope N_read ["text"] (defScope s_read) := ⟨rfl, rfl, rfl, by decide +kernel, rfl, by decide +kernel, by decide +kernel⟩
theorem ok_read {f : Addr} {fd : FuncData} (B : Bi mg) (TX : Tx K mg c) (F : Fun K "read" "read" s_read f fd) (hm : mg "read" = some (.ref f)) (b : Binds K fd ["text"] []) (x_BadText : ExcD P w K mg base 1 "BadText" c.BadText ["row"]) (c_number_of : CalD P w K mg base 3 "number_of" 2 (F_number_of c)) (k_Town : MakD P w K mg base 4 "Town" c.Town 4 (F_Town_init c)) : CalD P w K mg base 6 "read" 1 (F_read c) :=
  calD (N := N_read) (n := 5) (k := k_read c) F sc_read hm b fun bx z n0 Hs H0s W cdv A outer s H E tk hr => (pb_cons (p1_asg (px_fz (po_split (px_var 0) px_str)) (pg_n 1 sc_read.nd)) (pb_dls3E 2 sc_read.nd (by decide) (by decide) (by decide) fun a ls Hs H0s => (pb_cons (p1_asg px_int (pg_n 3 sc_read.nd)) (pb_cons (p1_for PassesOwn.leaving rfl (is_rng1 (by rfl) B.b_range (pl_cons (px_lenV 1 (by rfl) (by rfl) B.b_len) pl_nil)) (pg_n 4 sc_read.nd) (pb_cons (p1_asg (px_fz (po_split (px_ixV 1 rfl (px_var 4)) px_str)) (pg_n 5 sc_read.nd)) (pb_cons (p1_if (PWd.toQ (pwd_or (pq_cmp op_notIn_seq (opd_inF true) (px_ixV 5 rfl px_int) (px_gtup TX.c_SORTS (by rfl))) (pwd_or (pq_cmp op_lt opd_lt (px_tidx TX.c_SORTS (px_ixV 5 rfl px_int)) (px_var 3)) (pwd_or1 (px_dNe 2 (by rfl) hr.units))))) (pb_one (p1_raise x_BadText rfl hr (by decide) tk (pl_cons (px_var 4) pl_nil))) pb_nil) (pb_cons (p1_asg (px_tidx TX.c_SORTS (px_ixV 5 rfl px_int)) (pg_n 3 sc_read.nd)) (pb_cons (p1_if (PWd.toQ (pwd_or (pq_cmp op_lt opd_lt (px_lenV 5 (by rfl) (by rfl) B.b_len) px_int) (pwd_or1 (pq_cmp (op_neD hr.units) opd_ne (px_lenV 5 (by rfl) (by rfl) B.b_len) (px_ix ix_seq opd_idx (px_fz (po_lst (pl_cons px_int (pl_cons (px_bin op_addU opd_add (px_dLen 2 hr.units (by rfl) B.b_len) px_int) (pl_cons px_int pl_nil))))) (px_var 3)))))) (pb_one (p1_raise x_BadText rfl hr (by decide) tk (pl_cons (px_var 4) pl_nil))) pb_nil) (pb_one (p1_dApp 2 hr.units (fun _ _ => rfl) (px_ixV 5 rfl px_int) (px_callTy call_tuple_of cld_tup (by rfl) B.b_tuple (by decide +kernel) (pl_cons (px_fz (po_compE (own := [("word", 6)]) (is := [6]) rfl rfl tk rfl sc_read.nd (is_seq rfl (px_slc rfl (px_var 5) (psl_some px_int) psl_none)) (blkOk_by (N := N_read) (sc := defScope s_read) (by decide +kernel)) (by decide) (fun _ _ _ _ _ => (pg_n 6 sc_read.nd)) (fun _ _ _ _ _ => ptq_nil) (fun _ _ _ _ _ _ tkE => (pxc c_number_of hr (by decide) rfl tkE (pl_cons (px_var 6) (pl_cons (px_var 4) pl_nil)))))) pl_nil))))))))) (pb_cons (p1_if (px_dEq 2 (by rfl) hr.units) (pb_one (p1_raise x_BadText rfl hr (by decide) tk (pl_cons (px_lenV 1 (by rfl) (by rfl) B.b_len) pl_nil))) pb_nil) (pb_one (p1_ret (px_unDE 2 fun z Hs H0s => (pxkX k_Town hr (by decide) rfl tk (pl_cons (px_dct hr.units (px_var 2)) (pl_cons (px_fz (po_comp (own := [("row", 4)]) (is := [4]) rfl sc_read.nd (is_seq rfl (px_dct hr.units (px_var 2))) (blkOk_by (N := N_read) (sc := defScope s_read) (by decide +kernel)) (by decide) (fun _ _ _ _ _ => (pg_n 4 sc_read.nd)) (fun _ _ _ _ _ => ptq_nil) (fun _ _ _ _ _ => (px_fz (po_list (by rfl) (by rfl) B.b_list (pl_cons (px_var 4) pl_nil)))))) (pl_cons (px_ix ix_seq opd_idx (px_dct hr.units (px_var 2)) px_int) pl_nil))))))))))))
abbrev s_Lbegun : Stmt := top 20
abbrev N_Lbegun : List Str := ["_law_script", "_law_stirred", "_law_cell"]
theorem sc_Lbegun : FnScope N_Lbegun ["_law_script"] (defScope s_Lbegun) := ⟨rfl, rfl, rfl, by decide +kernel, rfl, by decide +kernel, by decide +kernel⟩
theorem ok_Lbegun {f : Addr} {fd : FuncData} (B : Bi mg) (TX : Tx K mg c) (F : Fun K "_law_begun" "_law_begun" s_Lbegun f fd) (hm : mg "_law_begun" = some (.ref f)) (b : Binds K fd ["_law_script"] [])  : CalD P w K mg base 1 "_law_begun" 1 (F_Lbegun c) :=
  calD (N := N_Lbegun) (n := 0) (k := k_Lbegun c) F sc_Lbegun hm b fun bx z n0 Hs H0s W cdv A outer s H E tk hr => (pb_cons (p1_asg px_int (pg_n 1 sc_Lbegun.nd)) (pb_cons (p1_for PassesOwn.leaving rfl (is_seq rfl (px_var 0)) (pg_n 2 sc_Lbegun.nd) (pb_one (p1_asg (px_bin op_modN opd_mod (px_bin op_addU opd_add (px_bin op_addU opd_add (px_bin op_mulU opd_mul (px_var 1) px_int) (px_bin op_mulU opd_mul (px_var 2) px_int)) px_int) px_int) (pg_n 1 sc_Lbegun.nd)))) (pb_one (p1_retO (po_lst (pl_cons (px_fz (po_list (by rfl) (by rfl) B.b_list (pl_cons (px_var 0) pl_nil))) (pl_cons (px_bin op_mulU opd_mul (px_var 1) (px_callTy call_int1 cld_int (by rfl) B.b_int (by decide +kernel) (pl_cons (px_cmp op_gt opd_gt (px_lenV 0 (by rfl) (by rfl) B.b_len) px_int) pl_nil))) pl_nil)))))))
abbrev s_Ltake : Stmt := top 21
abbrev N_Ltake : List Str := ["_law_box", "_law_many", "_law_number"]
theorem sc_Ltake : FnScope N_Ltake ["_law_box", "_law_many"] (defScope s_Ltake) := ⟨rfl, rfl, rfl, by decide +kernel, rfl, by decide +kernel, by decide +kernel⟩
theorem ok_Ltake {f : Addr} {fd : FuncData} (B : Bi mg) (TX : Tx K mg c) (F : Fun K "_law_take" "_law_take" s_Ltake f fd) (hm : mg "_law_take" = some (.ref f)) (b : Binds K fd ["_law_box", "_law_many"] [])  : CalD P w K mg base 1 "_law_take" 2 (F_Ltake c) :=
  calD (N := N_Ltake) (n := 0) (k := k_Ltake c) F sc_Ltake hm b fun bx z n0 Hs H0s W cdv A outer s H E tk hr => (pb_cons (p1_if (pq_bNil 0 hr.units) (pb_cons (p1_bSt 0 (px_bin op_modN opd_mod (px_bin op_mulU opd_mul (px_bSt 0) px_int) px_int)) (pb_one (p1_ret (px_bin op_modN opd_mod (px_bin op_fdivN opd_div (px_bSt 0) px_int) (px_var 1))))) pb_nil) (pb_cons (p1_asg (px_bHd 0) (pg_n 2 sc_Ltake.nd)) (pb_cons (p1_bHd 0 (px_bin op_fdivN opd_div (px_var 2) (px_var 1))) (pb_cons (p1_if (PWd.toQ (pwd_or (pq_cmp (op_eqD hr.units) opd_eq (px_bHd 0) px_int) (pwd_or1 (pq_cmp (op_eqD hr.units) opd_eq (px_bHd 0) (px_un un_neg und_neg px_int))))) (pb_one (p1_bPop 0)) pb_nil) (pb_one (p1_ret (px_bin op_modN opd_mod (px_var 2) (px_var 1))))))))
abbrev s_Ltown : Stmt := top 23
abbrev N_Ltown : List Str := ["_law_box", "_law_most", "_law_room", "_law_load", "_law_many", "_law_docks", "_law_dock", "_law_space", "_law_ways", "_law_other", "_law_row"]
theorem sc_Ltown : FnScope N_Ltown ["_law_box", "_law_most", "_law_room", "_law_load"] (defScope s_Ltown) := ⟨rfl, rfl, rfl, by decide +kernel, rfl, by decide +kernel, by decide +kernel⟩
theorem ok_Ltown {f : Addr} {fd : FuncData} (B : Bi mg) (TX : Tx K mg c) (F : Fun K "_law_town" "_law_town" s_Ltown f fd) (hm : mg "_law_town" = some (.ref f)) (b : Binds K fd ["_law_box", "_law_most", "_law_room", "_law_load"] []) (c_Ltake : CalD P w K mg base 1 "_law_take" 2 (F_Ltake c)) : CalD P w K mg base 2 "_law_town" 4 (F_Ltown c) :=
  calD (N := N_Ltown) (n := 1) (k := k_Ltown c) F sc_Ltown hm b fun bx z n0 Hs H0s W cdv A outer s H E tk hr => (pb_cons (p1_asg (px_bin op_addU opd_add px_int (pxc c_Ltake hr (by decide) rfl tk (pl_cons (px_var 0) (pl_cons (px_var 1) pl_nil)))) (pg_n 4 sc_Ltown.nd)) (pb_cons (p1_asgO 5 (po_lst pl_nil) sc_Ltown.nd) (pb_cons (p1_for PassesOwn.leaving rfl (is_rng1 (by rfl) B.b_range (pl_cons (px_var 4) pl_nil)) (pg_n 6 sc_Ltown.nd) (pb_cons (p1_asg (pxc c_Ltake hr (by decide) rfl tk (pl_cons (px_var 0) (pl_cons (px_bin op_addU opd_add (px_var 2) px_int) pl_nil))) (pg_n 7 sc_Ltown.nd)) (pb_one (p1_app 5 (px_tup (pl_cons (px_var 7) (pl_cons (pxc c_Ltake hr (by decide) rfl tk (pl_cons (px_var 0) (pl_cons (px_bin op_addU opd_add (px_var 7) px_int) pl_nil))) pl_nil))))))) (pb_cons (p1_asgO 8 (po_lst pl_nil) sc_Ltown.nd) (pb_cons (p1_for PassesOwn.leaving rfl (is_rng1 (by rfl) B.b_range (pl_cons (px_var 4) pl_nil)) (pg_n 6 sc_Ltown.nd) (pb_cons (p1_setComp (own := [("_law_other", 9)]) (is := [9]) 10 rfl sc_Ltown.nd rfl rfl (sw_true rfl rfl rfl (by decide +kernel)) (is_rng1 (by rfl) B.b_range (pl_cons (px_var 4) pl_nil)) (blkOk_by (N := N_Ltown) (sc := defScope s_Ltown) (by decide +kernel)) (by decide) (fun _ _ _ _ _ => (pg_n 9 sc_Ltown.nd)) (fun _ _ _ _ _ => ptq_nil) (fun _ _ _ _ _ => (px_ix ix_seq opd_idx (px_fz (po_lst (pl_cons (pxc c_Ltake hr (by decide) rfl takes0 (pl_cons (px_var 0) (pl_cons px_int pl_nil))) (pl_cons (pxc c_Ltake hr (by decide) rfl takes0 (pl_cons (px_var 0) (pl_cons px_int pl_nil))) pl_nil)))) (px_callTy call_int1 cld_int (by rfl) B.b_int (by decide +kernel) (pl_cons (px_cmp (op_eqD hr.units) opd_eq (pxc c_Ltake hr (by decide) rfl takes0 (pl_cons (px_var 0) (pl_cons px_int pl_nil))) px_int) pl_nil))))) (pb_cons (p1_setI 10 px_int (px_var 6)) (pb_one (p1_frz 10 (p1_app 8 (px_var 10))))))) (pb_cons (p1_asg (pxc c_Ltake hr (by decide) rfl tk (pl_cons (px_var 0) (pl_cons (px_bin op_addU opd_add (px_var 3) px_int) pl_nil))) (pg_n 7 sc_Ltown.nd)) (pb_one (p1_frz 8 (p1_frz 5 (p1_ret (px_tup (pl_cons (px_var 5) (pl_cons (px_var 8) (pl_cons (px_tup (pl_cons (pxc c_Ltake hr (by decide) rfl tk (pl_cons (px_var 0) (pl_cons (px_var 4) pl_nil))) (pl_cons (px_var 7) (pl_cons (pxc c_Ltake hr (by decide) rfl tk (pl_cons (px_var 0) (pl_cons (px_bin op_addU opd_add (px_var 7) px_int) pl_nil))) pl_nil)))) pl_nil))))))))))))))
abbrev s_Llines : Stmt := top 27
abbrev N_Llines : List Str := ["_law_rows", "_law_room", "_law_bikes", "_law_lines_here", "_law_row", "_law_far", "_law_number"]
theorem sc_Llines : FnScope N_Llines ["_law_rows"] (defScope s_Llines) := ⟨rfl, rfl, rfl, by decide +kernel, rfl, by decide +kernel, by decide +kernel⟩
theorem ok_Llines {f : Addr} {fd : FuncData} (B : Bi mg) (TX : Tx K mg c) (F : Fun K "_law_lines" "_law_lines" s_Llines f fd) (hm : mg "_law_lines" = some (.ref f)) (b : Binds K fd ["_law_rows"] [])  : CalD P w K mg base 1 "_law_lines" 1 (F_Llines c) :=
  calD (N := N_Llines) (n := 0) (k := k_Llines c) F sc_Llines hm b fun bx z n0 Hs H0s W cdv A outer s H E tk hr => (pb_cons (p1_setComp (own := [("_law_room", 1), ("_law_bikes", 2)]) (is := [1, 2]) 3 rfl sc_Llines.nd rfl rfl (sw_true rfl rfl rfl (by decide +kernel)) (is_seq rfl (px_ixV 0 rfl px_int)) (blkOk_by (N := N_Llines) (sc := defScope s_Llines) (by decide +kernel)) (by decide) (fun _ _ _ _ _ => (pg_t rfl rfl (pgs_1 (pg_n 1 sc_Llines.nd) (pgs_1 (pg_n 2 sc_Llines.nd) pgs_0)))) (fun _ _ _ _ _ => ptq_nil) (fun _ _ _ _ _ => (px_bin op_addU opd_add (px_bin op_addU opd_add (px_bin op_addU opd_add px_str (px_callTy call_str_int cld_str (by rfl) B.b_str (by decide +kernel) (pl_cons (px_var 1) pl_nil))) px_str) (px_callTy call_str_int cld_str (by rfl) B.b_str (by decide +kernel) (pl_cons (px_var 2) pl_nil))))) (pb_cons (p1_for PassesOwn.leaving rfl (is_seq rfl (px_ixV 0 rfl px_int)) (pg_n 4 sc_Llines.nd) (pb_one (p1_app 3 (px_bin op_addU opd_add px_str (px_join rfl px_str (px_fz (po_comp (own := [("_law_far", 5)]) (is := [5]) rfl sc_Llines.nd (is_seq rfl (px_var 4)) (blkOk_by (N := N_Llines) (sc := defScope s_Llines) (by decide +kernel)) (by decide) (fun _ _ _ _ _ => (pg_n 5 sc_Llines.nd)) (fun _ _ _ _ _ => ptq_nil) (fun _ _ _ _ _ => (px_callTy call_str_int cld_str (by rfl) B.b_str (by decide +kernel) (pl_cons (px_var 5) pl_nil)))))))))) (pb_one (p1_frz 3 (p1_ret (px_bin op_addU opd_add (px_var 3) (px_fz (po_lst (pl_cons (px_bin op_addU opd_add px_str (px_join rfl px_str (px_fz (po_comp (own := [("_law_number", 6)]) (is := [6]) rfl sc_Llines.nd (is_seq rfl (px_ixV 0 rfl px_int)) (blkOk_by (N := N_Llines) (sc := defScope s_Llines) (by decide +kernel)) (by decide) (fun _ _ _ _ _ => (pg_n 6 sc_Llines.nd)) (fun _ _ _ _ _ => ptq_nil) (fun _ _ _ _ _ => (px_callTy call_str_int cld_str (by rfl) B.b_str (by decide +kernel) (pl_cons (px_var 6) pl_nil))))))) pl_nil)))))))))
abbrev s_Lrefused : Stmt := top 28
abbrev N_Lrefused : List Str := ["_law_lines_here", "e"]
theorem sc_Lrefused : FnScope N_Lrefused ["_law_lines_here"] (defScope s_Lrefused) := ⟨rfl, rfl, rfl, by decide +kernel, rfl, by decide +kernel, by decide +kernel⟩
theorem ok_Lrefused {f : Addr} {fd : FuncData} (B : Bi mg) (TX : Tx K mg c) (F : Fun K "_law_refused" "_law_refused" s_Lrefused f fd) (hm : mg "_law_refused" = some (.ref f)) (b : Binds K fd ["_law_lines_here"] []) (c_read : CalD P w K mg base 6 "read" 1 (F_read c)) : CalD P w K mg base 7 "_law_refused" 1 (F_Lrefused c) :=
  calD (N := N_Lrefused) (n := 6) (k := k_Lrefused c) F sc_Lrefused hm b fun bx z n0 Hs H0s W cdv A outer s H E tk hr => (pb_cons (p1_tryAs 1 rfl rfl sc_Lrefused.nd rfl rfl ⟨rfl, by decide, Or.inl TX.mg_DockError⟩ tk (tblOf_all TX.em_DockError) (fun W1 pn xe tk1 => (pb_one (p1_drop (pxc c_read hr (by decide) rfl tk1 (pl_cons (px_join rfl px_str (px_var 0)) pl_nil))))) (fun a dd C oe pn Hs H0s hz hf => (pb_cons (p1_if (PWd.toQ (pwd_or (pq_val (px_isE3 (v1 := .ref c.BadDay) (c1 := .ref c.BadDay) (v2 := .ref c.BadMove) (c2 := .ref c.BadMove) (v3 := .ref c.NoPlan) (c3 := .ref c.NoPlan) 1 hz hf (fun u r => r) (fun u r => r) (fun u r => r) (tblOf_all TX.is_BadDay) (tblOf_all TX.is_BadMove) (tblOf_all TX.is_NoPlan) (pe_glob (v := .ref c.BadDay) (by rfl) TX.mg_BadDay rfl (by decide)) (pe_glob (v := .ref c.BadMove) (by rfl) TX.mg_BadMove rfl (by decide)) (pe_glob (v := .ref c.NoPlan) (by rfl) TX.mg_NoPlan rfl (by decide)) B.b_isinstance)) (pwd_or1 (pq_not (pq_val (px_isE (tv := .ty "ValueError") (cv := .type "ValueError") 1 hz hf (fun u r => r) (tblOf_all TX.is_ValueError) (pe_bltn (v := .ty "ValueError") (by rfl) TX.z_ValueError PyProof.Rows.Boot.«ValueError» rfl (by decide) (by decide)) B.b_isinstance)))))) (pb_one (p1_ret px_str)) pb_nil) (pb_cons (p1_if (pq_val (px_isE (tv := .ref c.BadText) (cv := .ref c.BadText) 1 hz hf (fun u r => r) (tblOf_all TX.is_BadText) (pe_glob (v := .ref c.BadText) (by rfl) TX.mg_BadText rfl (by decide)) B.b_isinstance)) (pb_one (p1_ret (px_if (pq_val (px_isE (tv := .ref c.BadTown) (cv := .ref c.BadTown) 1 hz hf (fun u r => r) (tblOf_all TX.is_BadTown) (pe_glob (v := .ref c.BadTown) (by rfl) TX.mg_BadTown rfl (by decide)) B.b_isinstance)) px_str (px_tup (pl_cons px_str (pl_cons (px_exf 1 hz hf TX.xt_BadText.xf TX.nx_BadText_row) pl_nil)))))) pb_nil) (pb_one (p1_ret (px_tup (pl_cons px_str (pl_cons (px_exf 1 hz hf TX.xt_BadTown.xf TX.nx_BadTown_word) (pl_cons (px_exf 1 hz hf TX.xt_BadTown.xf TX.nx_BadTown_number) pl_nil)))))))))) (pb_one (p1_ret px_str)))
abbrev s_Lnone : Stmt := top 29
abbrev N_Lnone : List Str := ["_law_box", "_law_some"]
theorem sc_Lnone : FnScope N_Lnone ["_law_box"] (defScope s_Lnone) := ⟨rfl, rfl, rfl, by decide +kernel, rfl, by decide +kernel, by decide +kernel⟩
theorem ok_Lnone {f : Addr} {fd : FuncData} (B : Bi mg) (TX : Tx K mg c) (F : Fun K "_law_none" "_law_none" s_Lnone f fd) (hm : mg "_law_none" = some (.ref f)) (b : Binds K fd ["_law_box"] []) (c_Ltake : CalD P w K mg base 1 "_law_take" 2 (F_Ltake c)) : CalD P w K mg base 2 "_law_none" 1 (F_Lnone c) :=
  calD (N := N_Lnone) (n := 1) (k := k_Lnone c) F sc_Lnone hm b fun bx z n0 Hs H0s W cdv A outer s H E tk hr => (pb_cons (p1_asg (px_fz (po_lst (pl_cons px_str (pl_cons px_str (pl_cons px_str (pl_cons px_str (pl_cons px_str (pl_cons px_str (pl_cons px_str (pl_cons px_str (pl_cons px_str pl_nil))))))))))) (pg_n 1 sc_Lnone.nd)) (pb_cons (p1_asg (px_bin op_addU opd_add (px_var 1) (px_fz (po_lst (pl_cons px_str (pl_cons px_str (pl_cons px_str (pl_cons px_str (pl_cons px_str (pl_cons px_str (pl_cons px_str (pl_cons px_str pl_nil))))))))))) (pg_n 1 sc_Lnone.nd)) (pb_cons (p1_asg (px_bin op_addU opd_add (px_var 1) (px_fz (po_lst (pl_cons px_str (pl_cons px_str (pl_cons px_str (pl_cons px_str (pl_cons px_str (pl_cons px_str (pl_cons px_str pl_nil)))))))))) (pg_n 1 sc_Lnone.nd)) (pb_cons (p1_asg (px_bin op_addU opd_add (px_var 1) (px_fz (po_lst (pl_cons px_str (pl_cons px_str (pl_cons px_str (pl_cons px_str (pl_cons px_str (pl_cons px_str pl_nil))))))))) (pg_n 1 sc_Lnone.nd)) (pb_one (p1_ret (px_ixV 1 rfl (pxc c_Ltake hr (by decide) rfl tk (pl_cons (px_var 0) (pl_cons px_int pl_nil))))))))))
abbrev s_law : Stmt := top 30
abbrev N_law : List Str := ["_law_script", "_law_box", "_law_rows", "_law_lines_here", "_law_many", "_law_later", "_law_at", "_law_odd", "_law_k", "_law_ones", "_law_some", "_law_word", "_law_number"]
theorem sc_law : FnScope N_law ["_law_script"] (defScope s_law) := ⟨rfl, rfl, rfl, by decide +kernel, rfl, by decide +kernel, by decide +kernel⟩
theorem ok_law {f : Addr} {fd : FuncData} (B : Bi mg) (TX : Tx K mg c) (F : Fun K "law" "law" s_law f fd) (c_Lbegun : CalD P w K mg base 1 "_law_begun" 1 (F_Lbegun c)) (c_Ltown : CalD P w K mg base 2 "_law_town" 4 (F_Ltown c)) (c_Llines : CalD P w K mg base 1 "_law_lines" 1 (F_Llines c)) (c_Lnone : CalD P w K mg base 2 "_law_none" 1 (F_Lnone c)) (c_Ltake : CalD P w K mg base 1 "_law_take" 2 (F_Ltake c)) (c_Lrefused : CalD P w K mg base 7 "_law_refused" 1 (F_Lrefused c)) : FnOk P w K mg base (L2.CX P w) 8 f fd ["_law_script"] (spD K 1 (F_law c)) :=
  okB (N := N_law) (n := 7) (k := k_law c) F sc_law fun bx z n0 Hs H0s W cdv A outer s H E tk hr => (pb_begun 1 0 c_Lbegun hr (by decide) (by rfl) tk sc_law.nd fun x y Hs H0s => (pb_cons (p1_asg (pxc c_Ltown hr (by decide) rfl tk (pl_cons (px_var 1) (pl_cons px_int (pl_cons px_int (pl_cons px_int pl_nil))))) (pg_n 2 sc_law.nd)) (pb_cons (p1_asg (pxc c_Llines hr (by decide) rfl tk (pl_cons (px_var 2) pl_nil)) (pg_n 3 sc_law.nd)) (pb_cons (p1_asg (px_callB call_len cld_len (by rfl) B.b_len PySem.boot_len (pl_cons (px_ixV 2 rfl px_int) pl_nil)) (pg_n 4 sc_law.nd)) (pb_cons (p1_asg (px_bin op_mulU opd_mul (px_fz (po_lst (pl_cons (pxc c_Lnone hr (by decide) rfl tk (pl_cons (px_var 1) pl_nil)) pl_nil))) (pxc c_Ltake hr (by decide) rfl tk (pl_cons (px_var 1) (pl_cons px_int pl_nil)))) (pg_n 5 sc_law.nd)) (pb_cons (p1_asg (pxc c_Ltake hr (by decide) rfl tk (pl_cons (px_var 1) (pl_cons (px_bin op_addU opd_add (px_lenV 3 (by rfl) (by rfl) B.b_len) px_int) pl_nil))) (pg_n 6 sc_law.nd)) (pb_cons (p1_asg (px_bin op_addU opd_add (px_bin op_addU opd_add (px_slc rfl (px_var 3) psl_none (psl_some (px_var 6))) (px_fz (po_lst (pl_cons (pxc c_Lnone hr (by decide) rfl tk (pl_cons (px_var 1) pl_nil)) pl_nil)))) (px_slc rfl (px_var 3) (psl_some (px_var 6)) psl_none)) (pg_n 7 sc_law.nd)) (pb_cons (p1_if (pq_cmp (op_neD hr.units) opd_ne (pxc c_Lrefused hr (by decide) rfl tk (pl_cons (px_bin op_addU opd_add (px_var 7) (px_var 5)) pl_nil)) (px_tup (pl_cons px_str (pl_cons (px_var 6) pl_nil)))) (pb_one (p1_ret px_bl)) pb_nil) (pb_cons (p1_asg (px_bin op_addU opd_add (px_var 3) (px_fz (po_lst (pl_cons (px_ixV 3 rfl (pxc c_Ltake hr (by decide) rfl tk (pl_cons (px_var 1) (pl_cons (px_lenV 3 (by rfl) (by rfl) B.b_len) pl_nil)))) pl_nil)))) (pg_n 7 sc_law.nd)) (pb_cons (p1_if (pq_cmp (op_neD hr.units) opd_ne (pxc c_Lrefused hr (by decide) rfl tk (pl_cons (px_bin op_addU opd_add (px_var 7) (px_var 5)) pl_nil)) (px_tup (pl_cons px_str (pl_cons (px_lenV 3 (by rfl) (by rfl) B.b_len) pl_nil)))) (pb_one (p1_ret px_bl)) pb_nil) (pb_cons (p1_if (pq_cmp (op_neD hr.units) opd_ne (pxc c_Lrefused hr (by decide) rfl tk (pl_cons (px_slc rfl (px_var 3) psl_none (psl_some (px_un un_neg und_neg px_int))) pl_nil)) (px_tup (pl_cons px_str (pl_cons (px_bin op_sub opd_sub (px_lenV 3 (by rfl) (by rfl) B.b_len) px_int) pl_nil)))) (pb_one (p1_ret px_bl)) pb_nil) (pb_cons (p1_asg (px_bin op_addU opd_add (px_var 4) (pxc c_Ltake hr (by decide) rfl tk (pl_cons (px_var 1) (pl_cons (px_var 4) pl_nil)))) (pg_n 8 sc_law.nd)) (pb_cons (p1_asg (px_bin op_addU opd_add (px_bin op_addU opd_add (px_slc rfl (px_var 3) psl_none (psl_some (px_var 8))) (px_fz (po_lst (pl_cons (px_bin op_addU opd_add (px_ixV 3 rfl (px_var 8)) px_str) pl_nil)))) (px_slc rfl (px_var 3) (psl_some (px_bin op_addU opd_add (px_var 8) px_int)) psl_none)) (pg_n 7 sc_law.nd)) (pb_cons (p1_if (pq_cmp (op_neD hr.units) opd_ne (pxc c_Lrefused hr (by decide) rfl tk (pl_cons (px_bin op_addU opd_add (px_var 7) (px_var 5)) pl_nil)) (px_tup (pl_cons px_str (pl_cons (px_var 8) pl_nil)))) (pb_one (p1_ret px_bl)) pb_nil) (pb_cons (p1_asg (px_bin op_addU opd_add (px_bin op_addU opd_add (px_slc rfl (px_var 3) psl_none (psl_some (px_bin op_addU opd_add (px_var 4) px_int))) (px_fz (po_lst (pl_cons px_str pl_nil)))) (px_slc rfl (px_var 3) (psl_some (px_bin op_addU opd_add (px_var 4) px_int)) psl_none)) (pg_n 7 sc_law.nd)) (pb_cons (p1_if (pq_cmp (op_neD hr.units) opd_ne (pxc c_Lrefused hr (by decide) rfl tk (pl_cons (px_var 7) pl_nil)) (px_tup (pl_cons px_str (pl_cons (px_bin op_addU opd_add (px_var 4) px_int) pl_nil)))) (pb_one (p1_ret px_bl)) pb_nil) (pb_cons (p1_asgO 9 (po_lst (pl_cons (px_tup (pl_cons (px_fz (po_lst (pl_cons px_str (pl_cons px_str (pl_cons px_str pl_nil))))) (pl_cons px_str (pl_cons px_int pl_nil)))) pl_nil)) sc_law.nd) (pb_cons (p1_app 9 (px_tup (pl_cons (px_fz (po_lst (pl_cons px_str (pl_cons px_str (pl_cons px_str pl_nil))))) (pl_cons px_str (pl_cons px_int pl_nil))))) (pb_cons (p1_app 9 (px_tup (pl_cons (px_fz (po_lst (pl_cons px_str (pl_cons px_str pl_nil)))) (pl_cons px_str (pl_cons px_int pl_nil))))) (pb_cons (p1_app 9 (px_tup (pl_cons (px_fz (po_lst (pl_cons px_str (pl_cons px_str (pl_cons px_str pl_nil))))) (pl_cons px_str (pl_cons px_int pl_nil))))) (pb_cons (p1_app 9 (px_tup (pl_cons (px_bin op_addU opd_add (px_bin op_mulU opd_mul (px_fz (po_lst (pl_cons px_str pl_nil))) px_int) (px_fz (po_lst (pl_cons px_str pl_nil)))) (pl_cons px_str (pl_cons px_int pl_nil))))) (pb_cons (p1_app 9 (px_tup (pl_cons (px_fz (po_lst (pl_cons px_str pl_nil))) (pl_cons px_str (pl_cons px_int pl_nil))))) (pb_cons (p1_asg (px_ixV 9 rfl (pxc c_Ltake hr (by decide) rfl tk (pl_cons (px_var 1) (pl_cons px_int pl_nil)))) (pg_t rfl rfl (pgs_1 (pg_n 10 sc_law.nd) (pgs_1 (pg_n 11 sc_law.nd) (pgs_1 (pg_n 12 sc_law.nd) pgs_0))))) (pb_cons (p1_if (pq_cmp (op_neD hr.units) opd_ne (pxc c_Lrefused hr (by decide) rfl tk (pl_cons (px_var 10) pl_nil)) (px_tup (pl_cons px_str (pl_cons (px_var 11) (pl_cons (px_var 12) pl_nil))))) (pb_one (p1_ret px_bl)) pb_nil) (pb_one (p1_ret (px_cmp (op_eqD hr.units) opd_eq (pxc c_Lrefused hr (by decide) rfl tk (pl_cons (px_bin op_addU opd_add (px_var 10) (px_fz (po_lst (pl_cons px_str pl_nil)))) pl_nil)) (px_tup (pl_cons px_str (pl_cons (px_lenV 10 (by rfl) (by rfl) B.b_len) pl_nil))))))))))))))))))))))))))))))
end
end Fw
set_option Elab.async false
set_option linter.all false
set_option maxRecDepth 100000
set_option maxHeartbeats 4000000
/-! S1: the mirrors computed. -/
namespace Fw
open PySem L2

section
variable {α β : Type} {ρ : En} {b b1 : Bx} {f h j l : Fx D} {fl : Fx (List D)} {fb : Fx Bool} {k k' : Fs} {i : Nat} {d : D} {x : Ex} {o : D → D → Option D}
@[simp] theorem bind_ok (a : α) (kk : α → Bx → Res β) : (Res.ok a b).bind kk = kk a b := rfl
@[simp] theorem bind_exc (kk : α → Bx → Res β) : (Res.exc x b).bind kk = .exc x b := rfl
@[simp] theorem bind_bad (kk : α → Bx → Res β) : (Res.bad).bind kk = .bad := rfl
@[simp] theorem out_ok (a : α) (kk : α → Bx → Out) : (Res.ok a b).out kk = kk a b := rfl
@[simp] theorem out_exc (kk : α → Bx → Out) : (Res.exc x b).out kk = .exc x b := rfl
@[simp] theorem out_bad (kk : α → Bx → Out) : (Res.bad).out kk = .bad := rfl
@[simp] theorem lift_some (a : α) : lift (some a) b = .ok a b := rfl
@[simp] theorem lift_none : lift (none : Option α) b = .bad := rfl
@[simp] theorem ev_xVar : xVar i ρ b = (match ρ[i]? with | some (.val d) => .ok d b | _ => .bad) := rfl
@[simp] theorem ev_xC : xC d ρ b = .ok d b := rfl
@[simp] theorem ev_xBin : xBin o f h ρ b = (f ρ b).bind fun x b1 => (h ρ b1).bind fun y b2 => lift (o x y) b2 := rfl
@[simp] theorem ev_xUn {u : D → Option D} : xUn u f ρ b = (f ρ b).bind fun x b1 => lift (u x) b1 := rfl
@[simp] theorem ev_xNil : xNil ρ b = .ok [] b := rfl
@[simp] theorem ev_xCons : xCons f fl ρ b = (f ρ b).bind fun x b1 => (fl ρ b1).bind fun xs b2 => .ok (x :: xs) b2 := rfl
@[simp] theorem ev_xTup : xTup fl ρ b = (fl ρ b).bind fun xs b1 => .ok (.tup xs) b1 := rfl
@[simp] theorem ev_xLst : xLst fl ρ b = (fl ρ b).bind fun xs b1 => .ok (.lst false xs) b1 := rfl
@[simp] theorem ev_xSz : xSz fl ρ b = (fl ρ b).bind fun xs b1 => if xs.length ≤ 100000 then .ok xs b1 else .bad := rfl
@[simp] theorem ev_xT : xT f ρ b = (f ρ b).bind fun x b1 => lift (asB x) b1 := rfl
@[simp] theorem ev_asB (c : Bool) : asB (.bl c) = some c := rfl
@[simp] theorem ev_xAnd : xAnd f h ρ b = (f ρ b).bind fun x b1 => (match x with | .bl true => h ρ b1 | .bl false => .ok (.bl false) b1 | _ => .bad) := rfl
@[simp] theorem ev_xOr : xOr f h ρ b = (f ρ b).bind fun x b1 => (match x with | .bl true => .ok (.bl true) b1 | .bl false => h ρ b1 | _ => .bad) := rfl
@[simp] theorem ev_xNot : xNot f ρ b = (f ρ b).bind fun x b1 => (match x with | .bl c => .ok (.bl (!c)) b1 | _ => .bad) := rfl
@[simp] theorem ev_xAndT {fc : Fx Bool} : xAndT fb fc ρ b = (fb ρ b).bind fun c b1 => if c then fc ρ b1 else .ok false b1 := rfl
@[simp] theorem ev_xOrT {fc : Fx Bool} : xOrT fb fc ρ b = (fb ρ b).bind fun c b1 => if c then .ok true b1 else fc ρ b1 := rfl
@[simp] theorem ev_xNotT : xNotT fb ρ b = (fb ρ b).bind fun c b1 => .ok (!c) b1 := rfl
@[simp] theorem ev_xIf : xIf fb f h ρ b = (fb ρ b).bind fun c b1 => if c then f ρ b1 else h ρ b1 := rfl
@[simp] theorem ev_xB {u : List D → Option D} : xB u fl ρ b = (fl ρ b).bind fun ds b1 => lift (u ds) b1 := rfl
@[simp] theorem ev_xIxV : xIxV i f ρ b = (match slD ρ[i]? with | some x => (f ρ b).bind fun y b1 => lift (idxD x y) b1 | none => .bad) := rfl
@[simp] theorem ev_xLenV : xLenV i ρ b = lift ((slD ρ[i]?).bind lenD) b := rfl
@[simp] theorem slD_val : slD (some (.val d)) = some d := rfl
@[simp] theorem slD_own (ds : List D) : slD (some (.own ds)) = some (.lst false ds) := rfl
@[simp] theorem ev_xCall {n : Nat} {F : FD} : xCall n F fl ρ b = (fl ρ b).bind fun ds b1 => gate n ds (valO (F ds b1)) := rfl
@[simp] theorem ev_xCallO {n : Nat} {F : FD} : xCallO n F fl ρ b = (fl ρ b).bind fun ds b1 => gate n ds (ownO (F ds b1)) := rfl
@[simp] theorem valO_rt : valO (.rt d b) = .ok d b := rfl
@[simp] theorem valO_rto (ds : List D) : valO (.rto ds b) = .ok (.lst false ds) b := rfl
@[simp] theorem valO_nx : valO (.nx ρ b) = .ok .non b := rfl
@[simp] theorem ownO_rto (ds : List D) : ownO (.rto ds b) = .ok ds b := rfl
@[simp] theorem ev_gate {n : Nat} {ds : List D} {r : Res α} : gate n ds r = if ds.length = n then r else .bad := rfl
@[simp] theorem noX_ok (a : α) : noX (Res.ok a b) = .ok a b := rfl
@[simp] theorem ev_kSeq : kSeq k k' ρ b = (match k ρ b with | .nx ρ' b' => k' ρ' b' | o => o) := rfl
@[simp] theorem ev_kNext : kNext ρ b = .nx ρ b := rfl
@[simp] theorem ev_kIf : kIf fb k k' ρ b = (fb ρ b).out fun c b1 => if c then k ρ b1 else k' ρ b1 := rfl
@[simp] theorem ev_kRet : kRet f ρ b = (f ρ b).out fun d b1 => .rt d b1 := rfl
@[simp] theorem ev_kRetO : kRetO fl ρ b = (fl ρ b).out fun d b1 => .rto d b1 := rfl
@[simp] theorem ev_kRetV : kRetV i ρ b = (match ρ[i]? with | some (.own ds) => .rto ds b | some (.val d) => .rt d b | _ => .bad) := rfl
@[simp] theorem ev_kDrop : kDrop f ρ b = (f ρ b).out fun _ b1 => .nx ρ b1 := rfl
@[simp] theorem ev_kAsg {p : Pat} : kAsg f p ρ b = (f ρ b).out fun d b1 => (match p d ρ with | some ρ' => .nx ρ' b1 | none => .bad) := rfl
@[simp] theorem ev_kAsgO : kAsgO fl i ρ b = (fl ρ b).out fun ds b1 => .nx (ρ.set i (.own ds)) b1 := rfl
@[simp] theorem ev_pName : pName i d ρ = some (ρ.set i (.val d)) := rfl
@[simp] theorem ev_pTup {ps : List Pat} (ds : List D) : pTup ps (.tup ds) ρ = pTups ps ds ρ := rfl
@[simp] theorem pTups_nil : pTups [] [] ρ = some ρ := rfl
@[simp] theorem pTups_cons {p : Pat} {ps : List Pat} {ds : List D} : pTups (p :: ps) (d :: ds) ρ = (p d ρ).bind (pTups ps ds) := rfl
@[simp] theorem ev_kFrz : kFrz i k ρ b = k (frz i ρ) b := rfl
@[simp] theorem ev_kFor {p : Pat} : kFor fl p k ρ b = (fl ρ b).out fun ds b1 => forS p k ds ρ b1 := rfl
@[simp] theorem forS_nil {p : Pat} : forS p k [] ρ b = .nx ρ b := by simp only [forS]
theorem forS_cons {p : Pat} {ds : List D} : forS p k (d :: ds) ρ b = (match p d ρ with | none => .bad | some ρ1 => (match k ρ1 b with | .nx ρ2 b2 => forS p k ds ρ2 b2 | .ct ρ2 b2 => forS p k ds ρ2 b2 | .bk ρ2 b2 => .nx ρ2 b2 | o => o)) := by first | (simp only [forS]; rfl) | simp only [forS]
@[simp] theorem ev_xSrc {o : List D → Option (List D)} : xSrc o fl ρ b = (fl ρ b).bind fun ds b1 => lift (o ds) b1 := rfl
@[simp] theorem ev_xSeq : xSeq f ρ b = (f ρ b).bind fun d b1 => lift (seqD d) b1 := rfl
@[simp] theorem seqD_lst (z : Bool) (ds : List D) : seqD (.lst z ds) = some ds := rfl
@[simp] theorem seqD_tup (ds : List D) : seqD (.tup ds) = some ds := rfl
@[simp] theorem seqD_sql (ds : List D) : seqD (.sql ds) = some ds := rfl
@[simp] theorem seqD_str (s : Str) : seqD (.str s) = some (chD s) := rfl
@[simp] theorem ev_runD {n : Nat} (ds : List D) : runD n k ds b = k (startE n ds) b := rfl
@[simp] theorem add_int (a c : Int) : addD (.int a) (.int c) = some (.int (a + c)) := rfl
@[simp] theorem sub_int (a c : Int) : subD (.int a) (.int c) = some (.int (a - c)) := rfl
@[simp] theorem mul_int (a c : Int) : mulD (.int a) (.int c) = if -(2 ^ 64) < c ∧ c < 2 ^ 64 then some (.int (a * c)) else none := rfl
@[simp] theorem div_int (a c : Int) : divD (.int a) (.int c) = if 0 < c ∧ c < 1073741824 then some (.int (a / c)) else none := rfl
@[simp] theorem mod_int (a c : Int) : modD (.int a) (.int c) = if 0 < c then some (.int (a % c)) else none := rfl
@[simp] theorem lt_int (a c : Int) : ltD (.int a) (.int c) = some (.bl (decide (a < c))) := rfl
@[simp] theorem le_int (a c : Int) : leD (.int a) (.int c) = some (.bl (decide (a ≤ c))) := rfl
@[simp] theorem gt_int (a c : Int) : gtD (.int a) (.int c) = some (.bl (decide (c < a))) := rfl
@[simp] theorem ge_int (a c : Int) : geD (.int a) (.int c) = some (.bl (decide (c ≤ a))) := rfl
@[simp] theorem neg_int (a : Int) : negD (.int a) = some (.int (-a)) := rfl
@[simp] theorem eq_int (neg : Bool) (a c : Int) : eqD neg (.int a) (.int c) = some (.bl (neg != (a == c))) := by
  simp [eqD, toPy, SeqAt.shaped, PyData.canLay0, PyData.depth, PyData.eqv]
@[simp] theorem idx_lst (z : Bool) (xs : List D) (a : Int) : idxD (.lst z xs) (.int a) = atI xs a := rfl
@[simp] theorem idx_tup (xs : List D) (a : Int) : idxD (.tup xs) (.int a) = atI xs a := rfl
@[simp] theorem len_lst (z : Bool) (xs : List D) : lenD (.lst z xs) = some (.int xs.length) := rfl
@[simp] theorem len_tup (xs : List D) : lenD (.tup xs) = some (.int xs.length) := rfl
@[simp] theorem len_sql (xs : List D) : lenD (.sql xs) = some (.int xs.length) := rfl
@[simp] theorem len1_eq : len1 [d] = lenD d := rfl
@[simp] theorem int1_int (a : Int) : int1 [.int a] = some (.int a) := rfl
@[simp] theorem int1_bl (a : Bool) : int1 [.bl a] = some (.int (if a then 1 else 0)) := rfl
@[simp] theorem lst1_lst (z : Bool) (xs : List D) : lst1 [.lst z xs] = some xs := rfl
@[simp] theorem lst1_sql (xs : List D) : lst1 [.sql xs] = some xs := rfl
@[simp] theorem lst1_tup (xs : List D) : lst1 [.tup xs] = some xs := rfl
@[simp] theorem tup1_lst (z : Bool) (xs : List D) : tup1 [.lst z xs] = some (.tup xs) := rfl
@[simp] theorem tup1_tup (xs : List D) : tup1 [.tup xs] = some (.tup xs) := rfl
@[simp] theorem rng1_eq (n : Int) : rng1 [.int n] = if -100000 ≤ n ∧ n ≤ 100000 then some (rngD 0 n.toNat) else none := rfl
end
@[simp] theorem start_eq (n : Nat) (ds : List D) : startE n ds = ds.map Sl.val ++ List.replicate (n - ds.length) Sl.no := rfl
theorem atI_zero {α : Type} (x : α) (xs : List α) : atI (x :: xs) 0 = some x := by simp [atI, ixN]
section
variable {ρ : En} {b : Bx} {i : Nat}
@[simp] theorem ev_xBSt : xBSt i ρ b = if isBox ρ i then .ok (.int b.st) b else .bad := rfl
@[simp] theorem ev_xBHd : xBHd i ρ b = if isBox ρ i then (match b.ns with | n :: _ => .ok (.int n) b | [] => .bad) else .bad := rfl
@[simp] theorem ev_xBNil : xBNil i ρ b = if isBox ρ i then .ok (.bl b.ns.isEmpty) b else .bad := rfl
@[simp] theorem ev_kBSt {f : Fx D} : kBSt i f ρ b = (f ρ b).out fun d b1 => (match isBox ρ i, d with | true, .int n => .nx ρ { b1 with st := n } | _, _ => .bad) := rfl
@[simp] theorem ev_kBHd {f : Fx D} : kBHd i f ρ b = (f ρ b).out fun d b1 => (match isBox ρ i, d, b1.ns with | true, .int n, _ :: r => .nx ρ { b1 with ns := n :: r } | _, _, _ => .bad) := rfl
@[simp] theorem ev_kBPop : kBPop i ρ b = (match isBox ρ i, b.ns with | true, _ :: r => .nx ρ { b with ns := r } | _, _ => .bad) := rfl
end

/-! ### a draw -/
theorem take_ok (c : Cs) {m : Int} (h0 : 0 < m) (h1 : m < 1073741824) (b : Bx) : ∃ (r : Int) (b' : Bx), F_Ltake c [.box, .int m] b = .rt (.int r) b' ∧ 0 ≤ r ∧ r < m := by
  unfold F_Ltake k_Ltake
  obtain ⟨ns, st, fs, ds, mm, ls⟩ := b
  cases ns with
  | nil => exact ⟨(st * 48271 % 2147483647) / 7 % m, ⟨[], st * 48271 % 2147483647, fs, ds, mm, ls⟩, by simp [isBox, h0], Int.emod_nonneg _ (by omega), Int.emod_lt_of_pos _ h0⟩
  | cons n r =>
    by_cases hz : n / m = 0
    · exact ⟨n % m, ⟨r, st, fs, ds, mm, ls⟩, by simp [isBox, h0, h1, hz], Int.emod_nonneg _ (by omega), Int.emod_lt_of_pos _ h0⟩
    · by_cases hz2 : n / m = -1
      · exact ⟨n % m, ⟨r, st, fs, ds, mm, ls⟩, by simp [isBox, h0, h1, hz2], Int.emod_nonneg _ (by omega), Int.emod_lt_of_pos _ h0⟩
      · have e2 : (n / m == -1) = false := by simp [hz2]
        exact ⟨n % m, ⟨(n / m) :: r, st, fs, ds, mm, ls⟩, by simp [isBox, h0, h1, hz, e2], Int.emod_nonneg _ (by omega), Int.emod_lt_of_pos _ h0⟩
theorem rngD_len (lo : Int) (n : Nat) : (rngD lo n).length = n := by simp [rngD]
/-- the script's numbers and the stirred one -/
theorem begun_ok (c : Cs) (ns : List Int) (hl : ns.length ≤ 1000) (b : Bx) : ∃ st : Int, F_Lbegun c [.sql (ns.map .int)] b = .rto [.lst false (ns.map .int), .int st] b := by
  unfold F_Lbegun k_Lbegun
  have loop : ∀ (ms : List Int) (s : Int) (x : Sl), ∃ (s' : Int) (x' : Sl), forS (pName 2) (fb1_Lbegun c) (ms.map D.int) [.val (.sql (ns.map .int)), .val (.int s), x] b = .nx [.val (.sql (ns.map .int)), .val (.int s'), x'] b := by
    intro ms
    induction ms with
    | nil => intro s x; exact ⟨s, x, by simp⟩
    | cons m ms ih =>
      intro s x
      obtain ⟨s', x', e⟩ := ih ((s * 48271 + m * 69621 + 11) % 2147483647) (.val (.int m))
      refine ⟨s', x', ?_⟩
      rw [List.map_cons, forS_cons]
      simp [fb1_Lbegun]
      exact e
  obtain ⟨s', x', e⟩ := loop ns 0 .no
  by_cases h : (2 : Int) < ns.length
  · exact ⟨s' * 1, by simp [e, h]⟩
  · exact ⟨s' * 0, by simp [e, h]⟩
end Fw
set_option Elab.async false
set_option linter.all false
set_option maxRecDepth 100000
set_option maxHeartbeats 4000000
/-! S2: loops and comprehensions computed; the drawn town. -/
namespace Fw
open PySem L2
section
variable {ρ : En} {b : Bx} {i : Nat} {f h : Fx D} {fl : Fx (List D)} {d : D} {p : Pat} {k : Fs} {fe : Fx D}
@[simp] theorem ev_kApp : kApp i f ρ b = (match ρ[i]? with | some (.own ds) => (f ρ b).out fun d b1 => if ds.length < 100000 then .nx (ρ.set i (.own (ds ++ [d]))) b1 else .bad | _ => .bad) := rfl
@[simp] theorem ev_kSetI : kSetI i f h ρ b = (match ρ[i]? with | some (.own ds) => (f ρ b).out fun d b1 => (h ρ b1).out fun j b2 => setD ρ i ds d j b2 | _ => .bad) := rfl
@[simp] theorem ev_setD (ds : List D) (z : Int) : setD ρ i ds d (.int z) b = (match ixN ds.length z with | some n => .nx (ρ.set i (.own (ds.set n d))) b | none => .bad) := rfl
@[simp] theorem ev_frz : frz i ρ = (match ρ[i]? with | some (.own ds) => ρ.set i (.val (.lst false ds)) | _ => ρ) := rfl
@[simp] theorem ev_xComp {vs : List Nat} {ft : Fx Bool} : xComp fl vs p ft fe ρ b = (fl ρ b).bind fun ds b1 => if ds.length ≤ 100000 then compS p ft fe (wipeE ρ vs) ds b1 else .bad := rfl
@[simp] theorem wipeE_nil : wipeE ρ [] = ρ := rfl
@[simp] theorem wipeE_cons (v : Nat) (vs : List Nat) : wipeE ρ (v :: vs) = (wipeE ρ vs).set v .no := rfl
@[simp] theorem wipeE_len (vs : List Nat) : (wipeE ρ vs).length = ρ.length := by
  induction vs with
  | nil => rfl
  | cons v vs ih => rw [wipeE_cons, List.length_set, ih]
theorem loop_inv {ds : List D} (I : Nat → En → Bx → Prop) (h : ∀ j d ρ b, ds[j]? = some d → I j ρ b → ∃ ρ1 ρ2 b2, p d ρ = some ρ1 ∧ k ρ1 b = .nx ρ2 b2 ∧ I (j + 1) ρ2 b2) (h0 : I 0 ρ b) : ∃ ρ' b', forS p k ds ρ b = .nx ρ' b' ∧ I ds.length ρ' b' := by
  have key : ∀ (n : Nat) (es : List D) (ρ : En) (b : Bx), (∀ j, es[j]? = ds[n + j]?) → I n ρ b → ∃ ρ' b', forS p k es ρ b = .nx ρ' b' ∧ I (n + es.length) ρ' b' := by
    intro n es
    induction es generalizing n with
    | nil => intro ρ b _ hi; exact ⟨ρ, b, by simp, by simpa using hi⟩
    | cons e es ih =>
      intro ρ b he hi
      obtain ⟨ρ1, ρ2, b2, e1, e2, hi2⟩ := h n e ρ b (by have := he 0; simpa using this.symm) hi
      obtain ⟨ρ', b', e3, hi3⟩ := ih (n + 1) ρ2 b2 (fun j => by have := he (j + 1); rw [show n + 1 + j = n + (j + 1) from by omega]; simpa using this) hi2
      refine ⟨ρ', b', ?_, by rw [List.length_cons, show n + (es.length + 1) = n + 1 + es.length from by omega]; exact hi3⟩
      rw [forS_cons, e1]
      simp only [e2]
      exact e3
  simpa using key 0 ds ρ b (fun j => by rw [Nat.zero_add]) h0
theorem comp_inv {ds : List D} (R : Nat → D → Prop) (h : ∀ j d b, ds[j]? = some d → ∃ ρ1 x b2, p d ρ = some ρ1 ∧ fe ρ1 b = .ok x b2 ∧ R j x) : ∃ xs b', compS p xYes fe ρ ds b = .ok xs b' ∧ xs.length = ds.length ∧ ∀ j x, xs[j]? = some x → R j x := by
  have key : ∀ (n : Nat) (es : List D) (b : Bx), (∀ j, es[j]? = ds[n + j]?) → ∃ xs b', compS p xYes fe ρ es b = .ok xs b' ∧ xs.length = es.length ∧ ∀ j x, xs[j]? = some x → R (n + j) x := by
    intro n es
    induction es generalizing n with
    | nil => intro b _; exact ⟨[], b, by simp [compS], rfl, fun j x q => by simp at q⟩
    | cons e es ih =>
      intro b he
      obtain ⟨ρ1, x, b2, e1, e2, r⟩ := h n e b (by have := he 0; simpa using this.symm)
      obtain ⟨xs, b', e3, hl, hr⟩ := ih (n + 1) b2 (fun j => by have := he (j + 1); rw [show n + 1 + j = n + (j + 1) from by omega]; simpa using this)
      refine ⟨x :: xs, b', ?_, by simp [hl], fun j y q => ?_⟩
      · simp only [compS, e1, xYes, e2, e3]
        rfl
      · cases j with
        | zero => simp at q; subst q; exact r
        | succ j => rw [show n + (j + 1) = n + 1 + j from by omega]; exact hr j y (by simpa using q)
  simpa using key 0 ds b (fun j => by rw [Nat.zero_add])
/-- a comprehension that draws nothing -/
theorem comp_map {ds : List D} (F : D → D) (h : ∀ d ∈ ds, ∃ ρ1, p d ρ = some ρ1 ∧ fe ρ1 b = .ok (F d) b) : compS p xYes fe ρ ds b = .ok (ds.map F) b := by
  induction ds with
  | nil => simp [compS]
  | cons e es ih =>
    obtain ⟨ρ1, e1, e2⟩ := h e List.mem_cons_self
    simp only [compS, e1, xYes, e2, ih fun d hd => h d (List.mem_cons_of_mem _ hd)]
    rfl
end
theorem rngD_get {n j : Nat} {d : D} (h : (rngD 0 n)[j]? = some d) : d = .int j ∧ j < n := by
  have hj : j < n := by have := (List.getElem?_eq_some_iff.mp h).1; rwa [rngD_len] at this
  refine ⟨?_, hj⟩
  simp [rngD, hj] at h
  exact h.symm
theorem ixN_nat {n j : Nat} (h : j < n) : ixN n (j : Int) = some j := by
  simp [ixN]; omega
theorem atI_nat {α : Type} (xs : List α) (j : Nat) : atI xs (j : Int) = xs[j]? := by
  unfold atI
  by_cases h : j < xs.length
  · rw [ixN_nat h]; rfl
  · rw [List.getElem?_eq_none (by omega)]
    have : ixN xs.length (j : Int) = none := by simp [ixN]; omega
    rw [this]; rfl
@[simp] theorem atI_0 {α : Type} (x : α) (xs : List α) : atI (x :: xs) 0 = some x := atI_nat (x :: xs) 0
@[simp] theorem atI_1 {α : Type} (x y : α) (xs : List α) : atI (x :: y :: xs) 1 = some y := atI_nat (x :: y :: xs) 1
@[simp] theorem atI_2 {α : Type} (x y z : α) (xs : List α) : atI (x :: y :: z :: xs) 2 = some z := atI_nat (x :: y :: z :: xs) 2

/-! ### the drawn town -/
structure TD where
  docks : List (Int × Int)
  ways : List (List Int)
  place : Int
  room : Int
  load : Int
def dPair (p : Int × Int) : D := .tup [.int p.1, .int p.2]
/-- whether the lists that are handed about are marked -/
class Mk where
  zr : Bool
namespace Z0
scoped instance z0i : Mk := ⟨false⟩
end Z0
namespace Z1
scoped instance z1i : Mk := ⟨true⟩
end Z1
@[simp] theorem zr0 : @Mk.zr Z0.z0i = false := rfl
@[simp] theorem zr1 : @Mk.zr Z1.z1i = true := rfl
section
variable [Mk]
def dRow (r : List Int) : D := .lst Mk.zr (r.map .int)
def dDocks (t : TD) : D := .lst Mk.zr (t.docks.map dPair)
def dWays (t : TD) : D := .lst Mk.zr (t.ways.map dRow)
def dCart (t : TD) : D := .tup [.int t.place, .int t.room, .int t.load]
def dTown (t : TD) : D := .tup [dDocks t, dWays t, dCart t]
end
structure OkT (most rm ld : Int) (t : TD) : Prop where
  n1 : 1 ≤ t.docks.length
  n4 : (t.docks.length : Int) ≤ most
  dk : ∀ p ∈ t.docks, 0 ≤ p.2 ∧ p.2 ≤ p.1 ∧ p.1 ≤ rm
  wl : t.ways.length = t.docks.length
  wr : ∀ (j : Nat) (r : List Int), t.ways[j]? = some r → r.length = t.docks.length ∧ r[j]? = some 0 ∧ ∀ x ∈ r, 0 ≤ x ∧ x ≤ 99
  pl : 0 ≤ t.place ∧ t.place < t.docks.length
  lr : 0 ≤ t.load ∧ t.load ≤ t.room ∧ t.room ≤ ld
theorem intsD {xs : List D} {P : Int → Prop} (h : ∀ (j : Nat) (x : D), xs[j]? = some x → ∃ i, x = D.int i ∧ P i) : ∃ ns : List Int, xs = ns.map D.int ∧ ∀ i ∈ ns, P i := by
  induction xs with
  | nil => exact ⟨[], rfl, fun i q => nomatch q⟩
  | cons x xs ih =>
    obtain ⟨i, rfl, hi⟩ := h 0 x rfl
    obtain ⟨ns, rfl, hn⟩ := ih fun j x q => h (j + 1) x (by simpa using q)
    exact ⟨i :: ns, rfl, fun y q => by rcases List.mem_cons.mp q with rfl | q; exact hi; exact hn y q⟩
section
open Z0
theorem town_ok (c : Cs) {most rm ld : Int} (h1 : 1 ≤ most ∧ most ≤ 1000) (h2 : 0 ≤ rm ∧ rm ≤ 1000) (h3 : 0 ≤ ld ∧ ld ≤ 1000) (b : Bx) : ∃ (t : TD) (b' : Bx), F_Ltown c [.box, .int most, .int rm, .int ld] b = .rt (dTown t) b' ∧ OkT most rm ld t := by
  unfold F_Ltown k_Ltown
  obtain ⟨r0, b0, e0, g0⟩ := take_ok c (m := most) (by omega) (by omega) b
  obtain ⟨n, hn⟩ : ∃ n : Nat, 1 + r0 = (n : Int) := ⟨(1 + r0).toNat, by omega⟩
  -- the docks
  obtain ⟨ρ1, b1, e1, ds, x6, x7, hρ1, hl1, hd1⟩ := loop_inv (p := pName 6) (k := fb1_Ltown c) (ds := rngD 0 n) (b := b0) (ρ := [.val .box, .val (.int most), .val (.int rm), .val (.int ld), .val (.int n), .own [], .no, .no, .no, .no, .no])
    (fun j ρ b => ∃ (ds : List (Int × Int)) (x6 x7 : Sl), ρ = [.val .box, .val (.int most), .val (.int rm), .val (.int ld), .val (.int n), .own (ds.map dPair), x6, x7, .no, .no, .no] ∧ ds.length = j ∧ ∀ p ∈ ds, 0 ≤ p.2 ∧ p.2 ≤ p.1 ∧ p.1 ≤ rm)
    (by
      rintro j d ρ b hd ⟨ds, x6, x7, rfl, hl, hp⟩
      obtain ⟨rfl, hj⟩ := rngD_get hd
      obtain ⟨r1, b1, e1, g1⟩ := take_ok c (m := rm + 1) (by omega) (by omega) b
      obtain ⟨r2, b2, e2, g2⟩ := take_ok c (m := r1 + 1) (by omega) (by omega) b1
      refine ⟨_, [.val .box, .val (.int most), .val (.int rm), .val (.int ld), .val (.int n), .own ((ds ++ [(r1, r2)]).map dPair), .val (.int j), .val (.int r1), .no, .no, .no], b2, rfl, ?_, ds ++ [(r1, r2)], _, _, rfl, by simp [hl], ?_⟩
      · have : ds.length < 100000 := by omega
        simp [fb1_Ltown, e1, e2, this, dPair]
      · intro p hp2
        rcases List.mem_append.mp hp2 with q | q
        · exact hp p q
        · simp at q; subst q; simp; omega)
    ⟨[], .no, .no, rfl, rfl, fun p q => nomatch q⟩
  subst hρ1
  rw [rngD_len] at hl1
  -- the ways
  obtain ⟨ρ2, b2, e2, ws, y6, y9, y10, hρ2, hl2, hw2⟩ := loop_inv (p := pName 6) (k := fb2_Ltown c) (ds := rngD 0 n) (b := b1) (ρ := [.val .box, .val (.int most), .val (.int rm), .val (.int ld), .val (.int n), .own (ds.map dPair), x6, x7, .own [], .no, .no])
    (fun j ρ b => ∃ (ws : List (List Int)) (y6 y9 y10 : Sl), ρ = [.val .box, .val (.int most), .val (.int rm), .val (.int ld), .val (.int n), .own (ds.map dPair), y6, x7, .own (ws.map dRow), y9, y10] ∧ ws.length = j ∧
      ∀ (i : Nat) (r : List Int), ws[i]? = some r → r.length = n ∧ r[i]? = some 0 ∧ ∀ x ∈ r, 0 ≤ x ∧ x ≤ 99)
    (by
      rintro j d ρ b hd ⟨ws, y6, y9, y10, rfl, hl, hp⟩
      obtain ⟨rfl, hj⟩ := rngD_get hd
      obtain ⟨xs, b3, e3, hl3, hx3⟩ := comp_inv (p := pName 9) (fe := el1_Ltown c) (ds := rngD 0 n) (b := b) (ρ := [.val .box, .val (.int most), .val (.int rm), .val (.int ld), .val (.int n), .own (ds.map dPair), .val (.int j), x7, .own (ws.map dRow), .no, y10])
        (fun _ x => ∃ i, x = D.int i ∧ 0 ≤ i ∧ i ≤ 99)
        (by
          rintro i d b hd
          obtain ⟨r1, b1, e1, g1⟩ := take_ok c (m := 5) (by omega) (by omega) b
          obtain ⟨r2, b2, e2, g2⟩ := take_ok c (m := 100) (by omega) (by omega) b1
          obtain ⟨r3, b3, e3, g3⟩ := take_ok c (m := 6) (by omega) (by omega) b2
          by_cases hr : r3 = 1
          · exact ⟨_, .int r2, b3, rfl, by simp [el1_Ltown, e1, e2, e3, hr], r2, rfl, by omega, by omega⟩
          · exact ⟨_, .int r1, b3, rfl, by simp [el1_Ltown, e1, e2, e3, hr], r1, rfl, by omega, by omega⟩)
      rw [rngD_len] at hl3
      obtain ⟨ns, rfl, hns⟩ := intsD hx3
      rw [List.length_map] at hl3
      refine ⟨_, [.val .box, .val (.int most), .val (.int rm), .val (.int ld), .val (.int n), .own (ds.map dPair), .val (.int j), x7, .own ((ws ++ [ns.set j 0]).map dRow), y9, .val (dRow (ns.set j 0))], b3, rfl, ?_, ws ++ [ns.set j 0], _, _, _, rfl, by simp [hl], ?_⟩
      · have q1 : (-100000 : Int) ≤ n := by omega
        have q2 : (n : Int) ≤ 100000 := by omega
        have q3 : n ≤ 100000 := by omega
        have q4 : ws.length < 100000 := by omega
        have q5 : ixN n (j : Int) = some j := ixN_nat hj
        simp [fb2_Ltown, q1, q2, q3, q4, q5, e3, hl3, rngD_len, dRow]
      · intro i r hr
        rw [List.getElem?_append] at hr
        split at hr
        · exact hp i r hr
        · rename_i hi
          have hi2 : i = j := by
            have := (List.getElem?_eq_some_iff.mp hr).1
            simp at this; omega
          subst hi2
          rw [hl, Nat.sub_self] at hr
          simp at hr
          subst hr
          refine ⟨by rw [List.length_set]; exact hl3, by rw [List.getElem?_set_self (by omega)], fun x hx => ?_⟩
          rcases List.mem_or_eq_of_mem_set hx with q | q
          · exact hns x q
          · subst q; omega)
    ⟨[], x6, .no, .no, rfl, rfl, fun p q h => by simp at h⟩
  subst hρ2
  rw [rngD_len] at hl2
  obtain ⟨r3, b3, e3, g3⟩ := take_ok c (m := ld + 1) (by omega) (by omega) b2
  obtain ⟨r4, b4, e4, g4⟩ := take_ok c (m := (n : Int)) (by omega) (by omega) b3
  obtain ⟨r5, b5, e5, g5⟩ := take_ok c (m := r3 + 1) (by omega) (by omega) b4
  refine ⟨⟨ds, ws, r4, r3, r5⟩, b5, ?_, ?_⟩
  · have q1 : (-100000 : Int) ≤ n := by omega
    have q2 : (n : Int) ≤ 100000 := by omega
    simp [e0, hn, q1, q2, e1, e2, e3, e4, e5, dTown, dDocks, dWays, dCart]
  · exact ⟨by show 1 ≤ ds.length; omega, by show (ds.length : Int) ≤ most; omega, hd1, by show ws.length = ds.length; omega, fun j r h => by rw [show (TD.docks ⟨ds, ws, r4, r3, r5⟩) = ds from rfl, hl1]; exact hw2 j r h, ⟨g4.1, by show r4 < (ds.length : Int); omega⟩, ⟨g5.1, by show r5 ≤ r3; omega, by show r3 ≤ ld; omega⟩⟩
end
end Fw
set_option Elab.async false
set_option linter.all false
set_option maxRecDepth 100000
set_option maxHeartbeats 4000000
/-! S3: a town made, and what it tells. -/
namespace Fw
open PySem L2
section
variable {ρ : En} {b : Bx} {i : Nat} {f : Fx D} {fl : Fx (List D)} {d : D} {p : Pat} {k : Fs} {fe : Fx D}
/-- a comprehension over data that stand for xs -/
theorem comp_of {α : Type} {xs : List α} (g F : α → D) (h : ∀ x ∈ xs, ∃ ρ1, p (g x) ρ = some ρ1 ∧ fe ρ1 b = .ok (F x) b) : compS p xYes fe ρ (xs.map g) b = .ok (xs.map F) b := by
  induction xs with
  | nil => simp [compS]
  | cons e es ih =>
    obtain ⟨ρ1, e1, e2⟩ := h e List.mem_cons_self
    simp only [List.map_cons, compS, e1, xYes, e2, ih fun d hd => h d (List.mem_cons_of_mem _ hd)]
    rfl
@[simp] theorem ev_kSelf {C : Addr} {nm : Str} : kSelf i C nm f ρ b = (f ρ b).out fun d b1 => (match ρ[i]? with | some (.val (.slf C')) => if C' = C ∧ b1.fs.contains nm = false ∧ b1.fs.length < 900 then .nx ρ { b1 with fs := b1.fs ++ [nm], ds := b1.ds ++ [d] } else .bad | _ => .bad) := rfl
@[simp] theorem ev_xMk {C : Addr} {n : Nat} {F : FD} : xMk C n F fl ρ b = (fl ρ b).bind fun ds b1 => if ds.length + 1 = n ∧ cleanL ds = true then mkR C (F (.slf C :: ds) { b1 with fs := [], ds := [] }) b1 else .bad := rfl
@[simp] theorem ev_mkR {C : Addr} {b2 b1 : Bx} : mkR C (.nx ρ b2) b1 = if cleanL b2.ds = true then .ok (.ins C b2.fs b2.ds) b1 else .bad := rfl
theorem ev_xFld {C : Addr} {nm : Str} : xFld C nm f ρ b = (f ρ b).bind fun d b1 => (match d with | .ins C' ns ds => if C' = C then lift (fldD ns ds nm) b1 else .bad | _ => .bad) := rfl
@[simp] theorem ev_fldD {n nm : Str} {ns : List Str} {ds : List D} : fldD (n :: ns) (d :: ds) nm = if nm == n then some d else fldD ns ds nm := rfl
theorem ev_xMeth {C : Addr} {m : Str} {n : Nat} {F : FD} : xMeth C m n F f fl ρ b = (f ρ b).bind fun d b1 => (match d with | .ins C' ns ds => if C' = C ∧ ns.contains m = false then (fl ρ b1).bind fun es b2 => gate n (.ins C' ns ds :: es) (noX (valO (F (.ins C' ns ds :: es) b2))) else .bad | _ => .bad) := rfl
@[simp] theorem ev_xChain {o o' : D → D → Option D} {f h j : Fx D} : xChain o o' f h j ρ b = (f ρ b).bind fun x b1 => (h ρ b1).bind fun y b2 => (match o x y with | some (.bl true) => (j ρ b2).bind fun z b3 => lift (o' y z) b3 | some (.bl false) => .ok (.bl false) b2 | _ => .bad) := rfl
@[simp] theorem ev_xChain3 {o1 o2 o3 : D → D → Option D} {f h j l : Fx D} : xChain3 o1 o2 o3 f h j l ρ b = (f ρ b).bind fun x b1 => (h ρ b1).bind fun y b2 => (match o1 x y with | some (.bl true) => (j ρ b2).bind fun z b3 => (match o2 y z with | some (.bl true) => (l ρ b3).bind fun u b4 => lift (o3 z u) b4 | some (.bl false) => .ok (.bl false) b3 | _ => .bad) | some (.bl false) => .ok (.bl false) b2 | _ => .bad) := rfl
@[simp] theorem cleanL_ints (ns : List Int) : cleanL (ns.map D.int) = true := by
  induction ns with
  | nil => rfl
  | cons n ns ih => simp [cleanL, clean, ih]
theorem cleanL_map {α : Type} {xs : List α} {g : α → D} (h : ∀ x, clean (g x) = true) : cleanL (xs.map g) = true := by
  induction xs with
  | nil => rfl
  | cons n ns ih => simp [cleanL, h, ih]
end
@[simp] theorem sn1 : (("rooms" : Str) = "first") = False := eq_false (by decide +kernel)
@[simp] theorem sn2 : (("rooms" : Str) = "far") = False := eq_false (by decide +kernel)
@[simp] theorem sn3 : (("rooms" : Str) = "at") = False := eq_false (by decide +kernel)
@[simp] theorem sn4 : (("rooms" : Str) = "cart_room") = False := eq_false (by decide +kernel)
@[simp] theorem sn5 : (("rooms" : Str) = "load") = False := eq_false (by decide +kernel)
@[simp] theorem sn6 : (("first" : Str) = "rooms") = False := eq_false (by decide +kernel)
@[simp] theorem sn7 : (("first" : Str) = "far") = False := eq_false (by decide +kernel)
@[simp] theorem sn8 : (("first" : Str) = "at") = False := eq_false (by decide +kernel)
@[simp] theorem sn9 : (("first" : Str) = "cart_room") = False := eq_false (by decide +kernel)
@[simp] theorem sn10 : (("first" : Str) = "load") = False := eq_false (by decide +kernel)
@[simp] theorem sn11 : (("far" : Str) = "rooms") = False := eq_false (by decide +kernel)
@[simp] theorem sn12 : (("far" : Str) = "first") = False := eq_false (by decide +kernel)
@[simp] theorem sn13 : (("far" : Str) = "at") = False := eq_false (by decide +kernel)
@[simp] theorem sn14 : (("far" : Str) = "cart_room") = False := eq_false (by decide +kernel)
@[simp] theorem sn15 : (("far" : Str) = "load") = False := eq_false (by decide +kernel)
@[simp] theorem sn16 : (("at" : Str) = "rooms") = False := eq_false (by decide +kernel)
@[simp] theorem sn17 : (("at" : Str) = "first") = False := eq_false (by decide +kernel)
@[simp] theorem sn18 : (("at" : Str) = "far") = False := eq_false (by decide +kernel)
@[simp] theorem sn19 : (("at" : Str) = "cart_room") = False := eq_false (by decide +kernel)
@[simp] theorem sn20 : (("at" : Str) = "load") = False := eq_false (by decide +kernel)
@[simp] theorem sn21 : (("cart_room" : Str) = "rooms") = False := eq_false (by decide +kernel)
@[simp] theorem sn22 : (("cart_room" : Str) = "first") = False := eq_false (by decide +kernel)
@[simp] theorem sn23 : (("cart_room" : Str) = "far") = False := eq_false (by decide +kernel)
@[simp] theorem sn24 : (("cart_room" : Str) = "at") = False := eq_false (by decide +kernel)
@[simp] theorem sn25 : (("cart_room" : Str) = "load") = False := eq_false (by decide +kernel)
@[simp] theorem sn26 : (("load" : Str) = "rooms") = False := eq_false (by decide +kernel)
@[simp] theorem sn27 : (("load" : Str) = "first") = False := eq_false (by decide +kernel)
@[simp] theorem sn28 : (("load" : Str) = "far") = False := eq_false (by decide +kernel)
@[simp] theorem sn29 : (("load" : Str) = "at") = False := eq_false (by decide +kernel)
@[simp] theorem sn30 : (("load" : Str) = "cart_room") = False := eq_false (by decide +kernel)
@[simp] theorem sn31 : (("docks" : Str) = "rooms") = False := eq_false (by decide +kernel)
@[simp] theorem sn32 : (("docks" : Str) = "first") = False := eq_false (by decide +kernel)
@[simp] theorem sn33 : (("docks" : Str) = "far") = False := eq_false (by decide +kernel)
@[simp] theorem sn34 : (("docks" : Str) = "at") = False := eq_false (by decide +kernel)
@[simp] theorem sn35 : (("docks" : Str) = "cart_room") = False := eq_false (by decide +kernel)
@[simp] theorem sn36 : (("docks" : Str) = "load") = False := eq_false (by decide +kernel)
@[simp] theorem sn37 : (("ways" : Str) = "rooms") = False := eq_false (by decide +kernel)
@[simp] theorem sn38 : (("ways" : Str) = "first") = False := eq_false (by decide +kernel)
@[simp] theorem sn39 : (("ways" : Str) = "far") = False := eq_false (by decide +kernel)
@[simp] theorem sn40 : (("ways" : Str) = "at") = False := eq_false (by decide +kernel)
@[simp] theorem sn41 : (("ways" : Str) = "cart_room") = False := eq_false (by decide +kernel)
@[simp] theorem sn42 : (("ways" : Str) = "load") = False := eq_false (by decide +kernel)
@[simp] theorem sn43 : (("cart" : Str) = "rooms") = False := eq_false (by decide +kernel)
@[simp] theorem sn44 : (("cart" : Str) = "first") = False := eq_false (by decide +kernel)
@[simp] theorem sn45 : (("cart" : Str) = "far") = False := eq_false (by decide +kernel)
@[simp] theorem sn46 : (("cart" : Str) = "at") = False := eq_false (by decide +kernel)
@[simp] theorem sn47 : (("cart" : Str) = "cart_room") = False := eq_false (by decide +kernel)
@[simp] theorem sn48 : (("cart" : Str) = "load") = False := eq_false (by decide +kernel)
@[simp] theorem sn49 : (("many" : Str) = "rooms") = False := eq_false (by decide +kernel)
@[simp] theorem sn50 : (("many" : Str) = "first") = False := eq_false (by decide +kernel)
@[simp] theorem sn51 : (("many" : Str) = "far") = False := eq_false (by decide +kernel)
@[simp] theorem sn52 : (("many" : Str) = "at") = False := eq_false (by decide +kernel)
@[simp] theorem sn53 : (("many" : Str) = "cart_room") = False := eq_false (by decide +kernel)
@[simp] theorem sn54 : (("many" : Str) = "load") = False := eq_false (by decide +kernel)
@[simp] theorem sn55 : (("begin" : Str) = "rooms") = False := eq_false (by decide +kernel)
@[simp] theorem sn56 : (("begin" : Str) = "first") = False := eq_false (by decide +kernel)
@[simp] theorem sn57 : (("begin" : Str) = "far") = False := eq_false (by decide +kernel)
@[simp] theorem sn58 : (("begin" : Str) = "at") = False := eq_false (by decide +kernel)
@[simp] theorem sn59 : (("begin" : Str) = "cart_room") = False := eq_false (by decide +kernel)
@[simp] theorem sn60 : (("begin" : Str) = "load") = False := eq_false (by decide +kernel)
theorem must_ok (c : Cs) (x y : D) (b : Bx) : F_must_be c [.bl true, x, y] b = .nx [.val (.bl true), .val x, .val y] b := by
  simp [F_must_be, k_must_be]
abbrev tNames : List Str := ["rooms", "first", "far", "at", "cart_room", "load"]
def tupR (r : List Int) : D := .tup (r.map .int)
def dRooms (t : TD) : D := .tup (t.docks.map fun p => .int p.1)
def dFirst (t : TD) : D := .tup (t.docks.map fun p => .int p.2)
def dFar [Mk] (t : TD) : D := .lst Mk.zr (t.ways.map tupR)
def dTownI [Mk] (c : Cs) (t : TD) : D := .ins c.Town tNames [dRooms t, dFirst t, dFar t, .int t.place, .int t.room, .int t.load]
theorem min1_ge {r : List Int} {lo : Int} (h0 : r ≠ []) (h : ∀ x ∈ r, lo ≤ x) : ∃ m : Int, min1 [.lst false (r.map .int)] = some (.int m) ∧ lo ≤ m := by
  cases r with
  | nil => exact absurd rfl h0
  | cons x r => exact ⟨r.foldl min x, by simp only [min1, intsOf_map]; rfl, h _ (foldl_min r x).1⟩
theorem max1_le {r : List Int} {hi : Int} (h0 : r ≠ []) (h : ∀ x ∈ r, x ≤ hi) : ∃ m : Int, max1 [.lst false (r.map .int)] = some (.int m) ∧ m ≤ hi := by
  cases r with
  | nil => exact absurd rfl h0
  | cons x r => exact ⟨r.foldl max x, by simp only [max1, intsOf_map]; rfl, h _ (foldl_max r x).1⟩
section
open Z0
theorem init_ok (c : Cs) {t : TD} {rm ld : Int} (T : OkT 4 rm ld t) (hrm : rm ≤ 9) (hld : ld ≤ 9) (z : Bool) (b : Bx) (hf : b.fs = []) (hd : b.ds = []) : ∃ ρ', F_Town_init c [.slf c.Town, .lst z (t.docks.map dPair), dWays t, dCart t] b = .nx ρ' { b with fs := tNames, ds := [dRooms t, dFirst t, dFar t, .int t.place, .int t.room, .int t.load] } := by
  obtain ⟨n1, n4, dk, wl, wr, pl, lr⟩ := T
  obtain ⟨ds, ws, place, room, load⟩ := t
  obtain ⟨ns, st, fs, dd, mm, ls⟩ := b
  simp only at *
  subst hf hd
  generalize hn : ds.length = n at *
  have hnn : n ≤ 4 := by omega
  unfold F_Town_init k_Town_init
  obtain ⟨ρ1, b1, e1, x5, hρ1, hb1⟩ := loop_inv (p := pName 5) (k := fb1_Town_init c) (ds := rngD 0 n) (b := ⟨ns, st, [], [], mm, ls⟩) (ρ := [.val (.slf c.Town), .val (.lst z (ds.map dPair)), .val (dWays ⟨ds, ws, place, room, load⟩), .val (dCart ⟨ds, ws, place, room, load⟩), .val (.int n), .no, .no, .no, .no, .no, .no])
    (fun j ρ b => ∃ x5 : Sl, ρ = [.val (.slf c.Town), .val (.lst z (ds.map dPair)), .val (dWays ⟨ds, ws, place, room, load⟩), .val (dCart ⟨ds, ws, place, room, load⟩), .val (.int n), x5, .no, .no, .no, .no, .no] ∧ b = ⟨ns, st, [], [], mm, ls⟩)
    (by
      rintro j d ρ b hd ⟨x5, rfl, rfl⟩
      obtain ⟨rfl, hj⟩ := rngD_get hd
      refine ⟨_, [.val (.slf c.Town), .val (.lst z (ds.map dPair)), .val (dWays ⟨ds, ws, place, room, load⟩), .val (dCart ⟨ds, ws, place, room, load⟩), .val (.int n), .val (.int j), .no, .no, .no, .no, .no], _, rfl, ?_, _, rfl, rfl⟩
      have hjd : j < ds.length := by omega
      obtain ⟨h1, h2, h3⟩ := dk ds[j] (List.getElem_mem hjd)
      have h9 : ds[j].1 ≤ 9 := by omega
      simp [fb1_Town_init, dDocks, dPair, atI_nat, hjd, h1, h2, h9, must_ok])
    ⟨.no, rfl, rfl⟩
  subst hρ1 hb1
  obtain ⟨ρ2, b2, e2, y5, hρ2, hb2⟩ := loop_inv (p := pName 5) (k := fb2_Town_init c) (ds := rngD 0 n) (b := ⟨ns, st, [], [], mm, ls⟩) (ρ := [.val (.slf c.Town), .val (.lst z (ds.map dPair)), .val (dWays ⟨ds, ws, place, room, load⟩), .val (dCart ⟨ds, ws, place, room, load⟩), .val (.int n), x5, .no, .no, .no, .no, .no])
    (fun j ρ b => ∃ x5 : Sl, ρ = [.val (.slf c.Town), .val (.lst z (ds.map dPair)), .val (dWays ⟨ds, ws, place, room, load⟩), .val (dCart ⟨ds, ws, place, room, load⟩), .val (.int n), x5, .no, .no, .no, .no, .no] ∧ b = ⟨ns, st, [], [], mm, ls⟩)
    (by
      rintro j d ρ b hd ⟨x5, rfl, rfl⟩
      obtain ⟨rfl, hj⟩ := rngD_get hd
      refine ⟨_, [.val (.slf c.Town), .val (.lst z (ds.map dPair)), .val (dWays ⟨ds, ws, place, room, load⟩), .val (dCart ⟨ds, ws, place, room, load⟩), .val (.int n), .val (.int j), .no, .no, .no, .no, .no], _, rfl, ?_, _, rfl, rfl⟩
      have hjw : j < ws.length := by omega
      obtain ⟨h1, h2, h3⟩ := wr j ws[j] (List.getElem?_eq_getElem hjw)
      have hne : ws[j] ≠ [] := fun q => by rw [q] at h1; simp at h1; omega
      obtain ⟨m1, f1, g1⟩ := min1_ge hne fun x hx => (h3 x hx).1
      obtain ⟨m2, f2, g2⟩ := max1_le hne fun x hx => (h3 x hx).2
      simp [fb2_Town_init, dWays, dRow, atI_nat, hjw, h1, h2, f1, f2, g1, g2, must_ok])
    ⟨x5, rfl, rfl⟩
  subst hρ2 hb2
  have f1 : ∀ (ρ : En) (b : Bx), ρ.length = 11 → compS (pName 9) xYes (el1_Town_init c) ρ (ds.map dPair) b = .ok (ds.map fun p => .int p.1) b := fun ρ b hl => comp_of dPair _ fun p _ => ⟨_, rfl, by simp [el1_Town_init, dPair, set_get, hl]⟩
  have f2 : ∀ (ρ : En) (b : Bx), ρ.length = 11 → compS (pName 9) xYes (el2_Town_init c) ρ (ds.map dPair) b = .ok (ds.map fun p => .int p.2) b := fun ρ b hl => comp_of dPair _ fun p _ => ⟨_, rfl, by simp [el2_Town_init, dPair, set_get, hl]⟩
  have f3 : ∀ (ρ : En) (b : Bx), ρ.length = 11 → compS (pName 10) xYes (el3_Town_init c) ρ (ws.map dRow) b = .ok (ws.map tupR) b := fun ρ b hl => comp_of dRow _ fun p _ => ⟨_, rfl, by simp [el3_Town_init, dRow, tupR, set_get, hl]⟩
  have q1 : (1 : Int) ≤ n := by omega
  have q2 : (n : Int) ≤ 4 := by omega
  have q3 : (-100000 : Int) ≤ n := by omega
  have q4 : (n : Int) ≤ 100000 := by omega
  have q5 : n ≤ 100000 := by omega
  have q6 : room ≤ 9 := by omega
  have q7 : place < n := by omega
  have e1' := e1
  have e2' := e2
  simp only [dDocks, dWays, dCart, zr0] at e1' e2'
  refine ⟨[.val (.slf c.Town), .val (.lst z (ds.map dPair)), .val (.lst false (ws.map dRow)), .val (.tup [.int place, .int room, .int load]), .val (.int n), y5, .val (.int place), .val (.int room), .val (.int load), .no, .no], ?_⟩
  simp [dDocks, dWays, dCart, hn, must_ok, q1, q2, q3, q4, q5, q6, q7, e1', e2', wl, pl.1, lr.1, lr.2.1, f1, f2, f3, dRooms, dFirst, dFar]
end
end Fw
set_option Elab.async false
set_option linter.all false
set_option maxRecDepth 100000
set_option maxHeartbeats 4000000
/-! Q4: the drawn day. -/
namespace Fw
open PySem L2
def dPRow [Mk] (r : List (Int × Int)) : D := .lst Mk.zr (r.map dPair)
structure OkDay (n most : Int) (dy : List (List (Int × Int))) : Prop where
  h1 : 1 ≤ dy.length
  hm : (dy.length : Int) ≤ most
  hr : ∀ r ∈ dy, (r.length : Int) = n ∧ ∀ p ∈ r, (0 ≤ p.1 ∧ p.1 ≤ 9) ∧ 0 ≤ p.2 ∧ p.2 ≤ 9
theorem pairsD {xs : List D} {P : Int × Int → Prop} (h : ∀ (j : Nat) (x : D), xs[j]? = some x → ∃ p, x = dPair p ∧ P p) : ∃ ps : List (Int × Int), xs = ps.map dPair ∧ ∀ p ∈ ps, P p := by
  induction xs with
  | nil => exact ⟨[], rfl, fun i q => nomatch q⟩
  | cons x xs ih =>
    obtain ⟨p, rfl, hp⟩ := h 0 x rfl
    obtain ⟨ps, rfl, hn⟩ := ih fun j x q => h (j + 1) x (by simpa using q)
    exact ⟨p :: ps, rfl, fun y q => by rcases List.mem_cons.mp q with rfl | q; exact hp; exact hn y q⟩
section
open Z0
theorem day_ok (c : Cs) {t : TD} (hd : t.docks.length ≤ 100) {most : Int} (h1 : 1 ≤ most ∧ most ≤ 1000) (b : Bx) : ∃ (dy : List (List (Int × Int))) (b' : Bx), F_Lday c [.box, dTown t, .int most] b = .rto (dy.map dPRow) b' ∧ OkDay t.docks.length most dy := by
  unfold F_Lday k_Lday
  obtain ⟨r0, b0, e0, g0⟩ := take_ok c (m := most) (by omega) (by omega) b
  obtain ⟨n, hn⟩ : ∃ n : Nat, 1 + r0 = (n : Int) := ⟨(1 + r0).toNat, by omega⟩
  obtain ⟨ρ1, b1, e1, dy, x4, x5, hρ1, hl1, hd1⟩ := loop_inv (p := pName 4) (k := fb1_Lday c) (ds := rngD 0 n) (b := b0) (ρ := [.val .box, .val (dTown t), .val (.int most), .own [], .no, .no, .no])
    (fun j ρ b => ∃ (dy : List (List (Int × Int))) (x4 x5 : Sl), ρ = [.val .box, .val (dTown t), .val (.int most), .own (dy.map dPRow), x4, x5, .no] ∧ dy.length = j ∧ ∀ r ∈ dy, (r.length : Int) = t.docks.length ∧ ∀ p ∈ r, (0 ≤ p.1 ∧ p.1 ≤ 9) ∧ 0 ≤ p.2 ∧ p.2 ≤ 9)
    (by
      rintro j d ρ b hdd ⟨dy, x4, x5, rfl, hl, hp⟩
      obtain ⟨rfl, hj⟩ := rngD_get hdd
      obtain ⟨r1, b1, e1, g1⟩ := take_ok c (m := 3) (by omega) (by omega) b
      obtain ⟨w, hw, hw2⟩ : ∃ w : Int, atI [D.int 2, D.int 4, D.int 10] r1 = some (.int w) ∧ 1 ≤ w ∧ w ≤ 10 := by
        have : r1 = 0 ∨ r1 = 1 ∨ r1 = 2 := by omega
        rcases this with rfl | rfl | rfl
        · exact ⟨2, by simp, by omega⟩
        · exact ⟨4, by simp, by omega⟩
        · exact ⟨10, by simp, by omega⟩
      obtain ⟨xs, b3, e3, hl3, hx3⟩ := comp_inv (p := pName 6) (fe := el1_Lday c) (ds := t.docks.map dPair) (b := b1) (ρ := [.val .box, .val (dTown t), .val (.int most), .own (dy.map dPRow), .val (.int j), .val (.int w), .no])
        (fun _ x => ∃ p : Int × Int, x = dPair p ∧ (0 ≤ p.1 ∧ p.1 ≤ 9) ∧ 0 ≤ p.2 ∧ p.2 ≤ 9)
        (by
          rintro i d b hd
          obtain ⟨r1, b1, e1, g1⟩ := take_ok c (m := w) (by omega) (by omega) b
          obtain ⟨r2, b2, e2, g2⟩ := take_ok c (m := w) (by omega) (by omega) b1
          exact ⟨_, dPair (r1, r2), b2, rfl, by simp [el1_Lday, e1, e2, dPair], (r1, r2), rfl, ⟨g1.1, by show r1 ≤ 9; omega⟩, g2.1, by show r2 ≤ 9; omega⟩)
      rw [List.length_map] at hl3
      obtain ⟨ps, rfl, hps⟩ := pairsD hx3
      rw [List.length_map] at hl3
      refine ⟨_, [.val .box, .val (dTown t), .val (.int most), .own ((dy ++ [ps]).map dPRow), .val (.int j), .val (.int w), .no], b3, rfl, ?_, dy ++ [ps], _, _, rfl, by simp [hl], ?_⟩
      · have q1 : dy.length < 100000 := by omega
        have q2 : t.docks.length ≤ 100000 := by omega
        simp only [dTown, dDocks, zr0] at e3
        simp [fb1_Lday, e1, hw, dTown, dDocks, q1, q2, e3, dPRow]
      · intro r hr
        rcases List.mem_append.mp hr with q | q
        · exact hp r q
        · rw [List.mem_singleton.mp q]
          exact ⟨by omega, hps⟩)
    ⟨[], .no, .no, rfl, rfl, fun r q => nomatch q⟩
  subst hρ1
  rw [rngD_len] at hl1
  have q1 : (-100000 : Int) ≤ n := by omega
  have q2 : (n : Int) ≤ 100000 := by omega
  exact ⟨dy, b1, by simp [e0, hn, q1, q2, e1], by omega, by omega, hd1⟩
end
end Fw
set_option Elab.async false
set_option linter.all false
set_option maxRecDepth 100000
set_option maxHeartbeats 4000000
/-! S7: likeness. -/
namespace Fw
open PySem L2
@[simp] theorem kit_NoneType_bool : kitB "NoneType" "bool" = some false := by decide +kernel
@[simp] theorem kit_NoneType_int : kitB "NoneType" "int" = some false := by decide +kernel
@[simp] theorem kit_NoneType_str : kitB "NoneType" "str" = some false := by decide +kernel
@[simp] theorem kit_NoneType_tuple : kitB "NoneType" "tuple" = some false := by decide +kernel
@[simp] theorem kit_NoneType_list : kitB "NoneType" "list" = some false := by decide +kernel
@[simp] theorem kit_bool_bool : kitB "bool" "bool" = some true := by decide +kernel
@[simp] theorem kit_bool_int : kitB "bool" "int" = some true := by decide +kernel
@[simp] theorem kit_bool_str : kitB "bool" "str" = some false := by decide +kernel
@[simp] theorem kit_bool_tuple : kitB "bool" "tuple" = some false := by decide +kernel
@[simp] theorem kit_bool_list : kitB "bool" "list" = some false := by decide +kernel
@[simp] theorem kit_int_bool : kitB "int" "bool" = some false := by decide +kernel
@[simp] theorem kit_int_int : kitB "int" "int" = some true := by decide +kernel
@[simp] theorem kit_int_str : kitB "int" "str" = some false := by decide +kernel
@[simp] theorem kit_int_tuple : kitB "int" "tuple" = some false := by decide +kernel
@[simp] theorem kit_int_list : kitB "int" "list" = some false := by decide +kernel
@[simp] theorem kit_str_bool : kitB "str" "bool" = some false := by decide +kernel
@[simp] theorem kit_str_int : kitB "str" "int" = some false := by decide +kernel
@[simp] theorem kit_str_str : kitB "str" "str" = some true := by decide +kernel
@[simp] theorem kit_str_tuple : kitB "str" "tuple" = some false := by decide +kernel
@[simp] theorem kit_str_list : kitB "str" "list" = some false := by decide +kernel
@[simp] theorem kit_tuple_bool : kitB "tuple" "bool" = some false := by decide +kernel
@[simp] theorem kit_tuple_int : kitB "tuple" "int" = some false := by decide +kernel
@[simp] theorem kit_tuple_str : kitB "tuple" "str" = some false := by decide +kernel
@[simp] theorem kit_tuple_tuple : kitB "tuple" "tuple" = some true := by decide +kernel
@[simp] theorem kit_tuple_list : kitB "tuple" "list" = some false := by decide +kernel
@[simp] theorem kit_list_bool : kitB "list" "bool" = some false := by decide +kernel
@[simp] theorem kit_list_int : kitB "list" "int" = some false := by decide +kernel
@[simp] theorem kit_list_str : kitB "list" "str" = some false := by decide +kernel
@[simp] theorem kit_list_tuple : kitB "list" "tuple" = some false := by decide +kernel
@[simp] theorem kit_list_list : kitB "list" "list" = some true := by decide +kernel
theorem eq_str (neg : Bool) {x y : Str} (hx : PyData.strOk x = true) (hy : PyData.strOk y = true) : eqD neg (.str x) (.str y) = some (.bl (neg != (x == y))) := by
  simp [eqD, toPy, SeqAt.shaped, PyData.canLay0, PyData.depth, PyData.eqv, hx, hy]
def okA : Nat → D → Bool
  | 0, _ => false
  | m + 1, d => match d with
    | .non => true
    | .bl _ => true
    | .int _ => true
    | .str x => PyData.strOk x
    | .tup xs => decide (xs.length ≤ 100000) && xs.all (okA m)
    | .lst _ xs => decide (xs.length ≤ 100000) && xs.all (okA m)
    | _ => false
@[simp] theorem isND_non (x : D) : isND x .non = some (.bl (match x with | .non => true | _ => false)) := rfl
theorem eq_bl (neg a b : Bool) : eqD neg (.bl a) (.bl b) = some (.bl (neg != (a == b))) := by
  simp [eqD, toPy, SeqAt.shaped, PyData.canLay0, PyData.depth, PyData.eqv]
theorem alike_refl (c : Cs) : ∀ (m : Nat) (d : D) (b : Bx), okA m d = true → F_Lalike m c [d, d] b = .rt (.bl true) b
  | 0, _, _, h => by cases h
  | m + 1, d, b, h => by
    have go : ∀ (xs : List D) (d : D), (∀ j, idxD d (.int (j : Nat)) = atI xs j) → lenD d = some (.int xs.length) → xs.length ≤ 100000 → (∀ x ∈ xs, okA m x = true) → ∃ x2, forS (pName 2) (fb1_Lalike c (F_Lalike m)) (rngD 0 xs.length) [.val d, .val d, .no] b = .nx [.val d, .val d, x2] b := by
      intro xs d hi hl hz ha
      obtain ⟨ρ', b', e, x2, hρ, hb⟩ := loop_inv (p := pName 2) (k := fb1_Lalike c (F_Lalike m)) (ds := rngD 0 xs.length) (b := b) (ρ := [.val d, .val d, .no])
        (fun _ ρ b1 => ∃ x2 : Sl, ρ = [.val d, .val d, x2] ∧ b1 = b)
        (by
          rintro j e ρ b1 hd ⟨x2, rfl, rfl⟩
          obtain ⟨rfl, hj⟩ := rngD_get hd
          have hx := alike_refl c m xs[j] b1 (ha _ (List.getElem_mem hj))
          refine ⟨_, [.val d, .val d, .val (.int j)], b1, rfl, ?_, _, rfl, rfl⟩
          simp [fb1_Lalike, hi, atI_nat, hj, hx])
        ⟨.no, rfl, rfl⟩
      subst hρ hb
      exact ⟨x2, e⟩
    unfold F_Lalike k_Lalike
    cases d with
    | non => simp
    | bl k => simp [isND, isiD, tyD, eq_bl]
    | int k => simp [isND, isiD, tyD]
    | str k => simp [isND, isiD, tyD, eq_str false h h]
    | tup xs =>
      have h : (decide (xs.length ≤ 100000) && xs.all (okA m)) = true := h
      rw [Bool.and_eq_true, decide_eq_true_eq, List.all_eq_true] at h
      obtain ⟨x2, e⟩ := go xs (.tup xs) (fun _ => rfl) rfl h.1 h.2
      have q1 : (-100000 : Int) ≤ xs.length := by omega
      have q2 : (xs.length : Int) ≤ 100000 := by omega
      simp [isND, isiD, tyD, eq_bl, q1, q2, e]
    | lst z xs =>
      have h : (decide (xs.length ≤ 100000) && xs.all (okA m)) = true := h
      rw [Bool.and_eq_true, decide_eq_true_eq, List.all_eq_true] at h
      obtain ⟨x2, e⟩ := go xs (.lst z xs) (fun _ => rfl) rfl h.1 h.2
      have q1 : (-100000 : Int) ≤ xs.length := by omega
      have q2 : (xs.length : Int) ≤ 100000 := by omega
      simp [isND, isiD, tyD, eq_bl, q1, q2, e]
    | _ => cases h
theorem okA_ints (m : Nat) (r : List Int) : (r.map D.int).all (okA (m + 1)) = true := by
  rw [List.all_eq_true]
  intro x hx
  obtain ⟨i, _, rfl⟩ := List.mem_map.mp hx
  rfl
end Fw
set_option Elab.async false
set_option linter.all false
set_option maxRecDepth 100000
set_option maxHeartbeats 4000000
/-! A6: a town made; states. -/
namespace Fw
open PySem L2
section
variable {ρ : En} {b : Bx} {i : Nat} {f : Fx D} {fl : Fx (List D)}
@[simp] theorem ev_xMkX {C : Addr} {n : Nat} {F : FD} : xMkX C n F fl ρ b = (fl ρ b).bind fun ds b1 => if ds.length + 1 = n ∧ cleanL ds = true then mkRX C (F (.slf C :: ds) { b1 with fs := [], ds := [] }) b1 else .bad := rfl
@[simp] theorem ev_mkRX {C : Addr} {b2 b1 : Bx} : mkRX C (.nx ρ b2) b1 = if cleanL b2.ds = true then .ok (.ins C b2.fs b2.ds) b1 else .bad := rfl
@[simp] theorem ev_xSlc {l u : Fo} : xSlc f l u ρ b = (f ρ b).bind fun d b1 => (l ρ b1).bind fun lo b2 => (u ρ b2).bind fun hi b3 => lift (slcD d lo hi) b3 := rfl
@[simp] theorem ev_xSlcO {l u : Fo} : xSlcO f l u ρ b = (f ρ b).bind fun d b1 => (l ρ b1).bind fun lo b2 => (u ρ b2).bind fun hi b3 => lift (slcO d lo hi) b3 := rfl
@[simp] theorem ev_xSoP : xSoP f ρ b = (f ρ b).bind fun d b1 => lift ((intOf d).map some) b1 := rfl
@[simp] theorem ev_xNoP : xNoP ρ b = .ok none b := rfl
@[simp] theorem intOf_int (n : Int) : intOf (.int n) = some n := rfl
@[simp] theorem slc_lst (z : Bool) (xs : List D) (lo hi : Option Int) : slcD (.lst z xs) lo hi = some (.lst false (cutL xs lo hi)) := rfl
@[simp] theorem slc_tup (xs : List D) (lo hi : Option Int) : slcD (.tup xs) lo hi = some (.tup (cutL xs lo hi)) := rfl
@[simp] theorem slcO_lst (z : Bool) (xs : List D) (lo hi : Option Int) : slcO (.lst z xs) lo hi = some (cutL xs lo hi) := rfl
@[simp] theorem notND_non (x : D) : notND x .non = some (.bl (match x with | .non => false | _ => true)) := rfl
@[simp] theorem valO_exc {x : Ex} : valO (.exc x b) = .exc x b := rfl
@[simp] theorem ev_kRaise {C : Addr} {ns : List Str} : kRaise C ns fl ρ b = (fl ρ b).out fun ds b1 => if ds.length = ns.length ∧ ds.length ≤ 900 then .exc ⟨C, some (ns.reverse, ds.reverse)⟩ b1 else .bad := rfl
@[simp] theorem rng2_eq (m n : Int) : rng2 [.int m, .int n] = if (-100000 ≤ m ∧ m ≤ 100000) ∧ -100000 ≤ n ∧ n ≤ 100000 then some (rngD m (n - m).toNat) else none := rfl
theorem ev_kBegun {j : Nat} {F : FD} {kk : Fs} : kBegun i j F kk ρ b = (match ρ[j]? with
  | some (.val (.sql ds)) => (match intsOf ds, F [.sql ds] bx0 with
    | some _, .rto [.lst false ns, .int st] _ => (match intsOf ns with
      | some is => outBack b (kk ((cleanE ρ).set i (.val .box)) ⟨is, st, [], [], [], []⟩)
      | none => .bad)
    | _, _ => .bad)
  | _ => .bad) := rfl
@[simp] theorem ev_outBack {d : D} {b2 : Bx} : outBack b (.rt d b2) = if clean d = true then .rt d b else .bad := rfl
@[simp] theorem enum1_eq (z : Bool) (ds : List D) : enum1 [.lst z ds] = some (enumD ds 0) := rfl
end
theorem min1_two (i j : Int) : min1 [.int i, .int j] = some (.int (min i j)) := by
  show some (D.int (if j < i then j else i)) = _
  congr 2
  split <;> omega
theorem max1_two (i j : Int) : max1 [.int i, .int j] = some (.int (max i j)) := by
  show some (D.int (if j > i then j else i)) = _
  congr 2
  split <;> omega
theorem add_tup (xs ys : List D) (h : xs.length + ys.length ≤ 100000) : addD (.tup xs) (.tup ys) = some (.tup (xs ++ ys)) := by
  show lim _ _ = _
  unfold lim
  rw [if_pos h]
theorem add_lst (z z' : Bool) (xs ys : List D) (h : xs.length + ys.length ≤ 100000) : addD (.lst z xs) (.lst z' ys) = some (.lst false (xs ++ ys)) := by
  show lim _ _ = _
  unfold lim
  rw [if_pos h]
theorem cut_to {α : Type} (xs : List α) (j : Nat) : cutL xs none (some (j : Int)) = xs.take j := by
  unfold cutL
  rw [show HT.sIx xs.length xs.length (some (j : Int)) = min j xs.length from HT.sIx_nat ..]
  show (xs.drop 0).take _ = _
  rw [List.drop_zero]
  by_cases h : j ≤ xs.length
  · rw [show min j xs.length - HT.sIx xs.length 0 none = j from by show min j xs.length - 0 = j; omega]
  · rw [show min j xs.length - HT.sIx xs.length 0 none = xs.length from by show min j xs.length - 0 = _; omega, List.take_of_length_le (by omega), List.take_of_length_le (by omega)]
theorem cut_from {α : Type} (xs : List α) (j : Nat) : cutL xs (some (j : Int)) none = xs.drop j := by
  unfold cutL
  rw [show HT.sIx xs.length 0 (some (j : Int)) = min j xs.length from HT.sIx_nat ..]
  show (xs.drop (min j xs.length)).take (xs.length - min j xs.length) = _
  by_cases h : j ≤ xs.length
  · rw [show min j xs.length = j from by omega, List.take_of_length_le (by simp)]
  · rw [show min j xs.length = xs.length from by omega]
    simp
    omega
theorem cut_from1 {α : Type} (xs : List α) (j : Nat) : cutL xs (some ((j : Int) + 1)) none = xs.drop (j + 1) := cut_from xs (j + 1)
theorem set_split {α : Type} {xs : List α} {j : Nat} (x : α) (h : j < xs.length) : xs.take j ++ (x :: xs.drop (j + 1)) = xs.set j x := by
  rw [List.set_eq_take_append_cons_drop, if_pos h]
theorem OkT.up {most rm ld : Int} {t : TD} (T : OkT most rm ld t) (h1 : most ≤ 4) (h2 : rm ≤ 9) (h3 : ld ≤ 9) : OkT 4 9 9 t :=
  ⟨T.n1, by have := T.n4; omega, fun p hp => by have := T.dk p hp; omega, T.wl, T.wr, T.pl, by have := T.lr; omega⟩
section
open Z0
theorem made_ok (c : Cs) (b : Bx) {t : TD} (T : OkT 4 9 9 t) : F_Lmade c [dTown t] b = .rt (dTownI c t) b := by
  obtain ⟨ρ', e⟩ := init_ok c T (by decide) (by decide) false { b with fs := [], ds := [] } rfl rfl
  have h4 := T.n4
  have hw : t.ways.length ≤ 100000 := by have := T.wl; omega
  have f1 : ∀ (ρ : En) (b : Bx), ρ.length = 2 → compS (pName 1) xYes (el1_Lmade c) ρ (t.ways.map dRow) b = .ok (t.ways.map dRow) b := fun ρ b hl => comp_of dRow _ fun p _ => ⟨_, rfl, by simp [el1_Lmade, dRow, set_get, hl]⟩
  have c1 : cleanL (t.docks.map dPair) = true := cleanL_map fun _ => rfl
  have c2 : cleanL (t.ways.map dRow) = true := cleanL_map fun r => by simp [dRow, clean]
  have c3 : cleanL (t.docks.map fun p => D.int p.1) = true := cleanL_map fun _ => rfl
  have c4 : cleanL (t.docks.map fun p => D.int p.2) = true := cleanL_map fun _ => rfl
  have c5 : cleanL (t.ways.map tupR) = true := cleanL_map fun r => by simp [tupR, clean]
  simp only [dWays, dCart, zr0] at e
  simp [F_Lmade, k_Lmade, dTown, dDocks, dWays, dCart, f1, hw, e, cleanL, clean, c1, c2, dRooms, dFirst, dFar, c3, c4, c5, dTownI]
end
variable [Mk]
/-! ### a town's fields and methods, the town not opened -/
def fldR (C : Addr) (nm : Str) (d : D) (b1 : Bx) : Res D := match d with
  | .ins C' ns ds => if C' = C then lift (fldD ns ds nm) b1 else .bad
  | _ => .bad
def methR (C : Addr) (m : Str) (n : Nat) (F : FD) (fl : Fx (List D)) (ρ : En) (d : D) (b1 : Bx) : Res D := match d with
  | .ins C' ns ds => if C' = C ∧ ns.contains m = false then (fl ρ b1).bind fun es b2 => gate n (.ins C' ns ds :: es) (noX (valO (F (.ins C' ns ds :: es) b2))) else .bad
  | _ => .bad
section
variable {ρ : En} {b : Bx} {f : Fx D} {fl : Fx (List D)} {c : Cs} {t : TD} {n : Nat} {F : FD}
@[simp] theorem ev_xFldR {C : Addr} {nm : Str} : xFld C nm f ρ b = (f ρ b).bind (fldR C nm) := rfl
@[simp] theorem ev_xMethR {C : Addr} {m : Str} : xMeth C m n F f fl ρ b = (f ρ b).bind (methR C m n F fl ρ) := rfl
@[simp] theorem fldR_rooms : fldR c.Town "rooms" (dTownI c t) b = .ok (dRooms t) b := by simp [fldR, dTownI]
@[simp] theorem fldR_first : fldR c.Town "first" (dTownI c t) b = .ok (dFirst t) b := by simp [fldR, dTownI]
@[simp] theorem fldR_far : fldR c.Town "far" (dTownI c t) b = .ok (dFar t) b := by simp [fldR, dTownI]
@[simp] theorem fldR_at : fldR c.Town "at" (dTownI c t) b = .ok (.int t.place) b := by simp [fldR, dTownI]
@[simp] theorem fldR_cart_room : fldR c.Town "cart_room" (dTownI c t) b = .ok (.int t.room) b := by simp [fldR, dTownI]
@[simp] theorem fldR_load : fldR c.Town "load" (dTownI c t) b = .ok (.int t.load) b := by simp [fldR, dTownI]
theorem methR_town {m : Str} (h : tNames.contains m = false) : methR c.Town m n F fl ρ (dTownI c t) b = (fl ρ b).bind fun es b2 => gate n (dTownI c t :: es) (noX (valO (F (dTownI c t :: es) b2))) := by
  show (if _ then _ else _) = _
  rw [if_pos ⟨rfl, h⟩]
  rfl
@[simp] theorem methR_many : methR c.Town "many" n F fl ρ (dTownI c t) b = (fl ρ b).bind fun es b2 => gate n (dTownI c t :: es) (noX (valO (F (dTownI c t :: es) b2))) := methR_town (by decide +kernel)
@[simp] theorem methR_begin : methR c.Town "begin" n F fl ρ (dTownI c t) b = (fl ρ b).bind fun es b2 => gate n (dTownI c t :: es) (noX (valO (F (dTownI c t :: es) b2))) := methR_town (by decide +kernel)
@[simp] theorem methR_docks : methR c.Town "docks" n F fl ρ (dTownI c t) b = (fl ρ b).bind fun es b2 => gate n (dTownI c t :: es) (noX (valO (F (dTownI c t :: es) b2))) := methR_town (by decide +kernel)
@[simp] theorem methR_ways : methR c.Town "ways" n F fl ρ (dTownI c t) b = (fl ρ b).bind fun es b2 => gate n (dTownI c t :: es) (noX (valO (F (dTownI c t :: es) b2))) := methR_town (by decide +kernel)
@[simp] theorem methR_cart : methR c.Town "cart" n F fl ρ (dTownI c t) b = (fl ρ b).bind fun es b2 => gate n (dTownI c t :: es) (noX (valO (F (dTownI c t :: es) b2))) := methR_town (by decide +kernel)
end
@[simp] theorem many_ok (c : Cs) (t : TD) (b : Bx) : F_Town_many c [dTownI c t] b = .rt (.int t.docks.length) b := by
  simp [F_Town_many, k_Town_many, dRooms]
@[simp] theorem noX_bad {α : Type} : noX (Res.bad : Res α) = .bad := rfl
theorem idx_rooms {t : TD} {j : Nat} (h : j < t.docks.length) : idxD (dRooms t) (.int j) = some (.int t.docks[j].1) := by
  show atI _ _ = _
  rw [atI_nat]
  simp [h]
theorem clean_townI (c : Cs) (t : TD) : clean (dTownI c t) = true := by
  have c3 : cleanL (t.docks.map fun p => D.int p.1) = true := cleanL_map fun _ => rfl
  have c4 : cleanL (t.docks.map fun p => D.int p.2) = true := cleanL_map fun _ => rfl
  have c5 : cleanL (t.ways.map tupR) = true := cleanL_map fun r => by simp [tupR, clean]
  simp [dTownI, clean, cleanL, dRooms, dFirst, dFar, c3, c4, c5]

/-! ### states -/
structure ST where
  bikes : List Int
  place : Int
  load : Int
deriving DecidableEq
def dSt (s : ST) : D := .tup [.tup (s.bikes.map .int), .int s.place, .int s.load]
def firstT (t : TD) : ST := ⟨t.docks.map (·.2), t.place, t.load⟩
structure OkS (t : TD) (s : ST) : Prop where
  len : s.bikes.length = t.docks.length
  rg : ∀ (j : Nat) (x : Int) (p : Int × Int), s.bikes[j]? = some x → t.docks[j]? = some p → 0 ≤ x ∧ x ≤ p.1
  pl : 0 ≤ s.place ∧ s.place < t.docks.length
  ld : 0 ≤ s.load ∧ s.load ≤ t.room
theorem firstT_ok {most rm ld : Int} {t : TD} (T : OkT most rm ld t) : OkS t (firstT t) := by
  refine ⟨by simp [firstT], fun j x p h1 h2 => ?_, T.pl, ⟨T.lr.1, T.lr.2.1⟩⟩
  simp only [firstT, List.getElem?_map, h2, Option.map_some, Option.some.injEq] at h1
  subst h1
  have := T.dk p (List.mem_of_getElem? h2)
  omega
@[simp] theorem begin_ok (c : Cs) (t : TD) (b : Bx) : F_Town_begin c [dTownI c t] b = .rt (dSt (firstT t)) b := by
  simp [F_Town_begin, k_Town_begin, dFirst, dSt, firstT, Function.comp_def]
theorem first_ok (c : Cs) {most rm ld : Int} {t : TD} (T : OkT most rm ld t) (h4 : most ≤ 100) (b : Bx) : F_Lfirst c [dTown t] b = .rt (dSt (firstT t)) b := by
  have := T.n4
  have f1 : ∀ (ρ : En) (b : Bx), ρ.length = 2 → compS (pName 1) xYes (el1_Lfirst c) ρ (t.docks.map dPair) b = .ok (t.docks.map fun p => .int p.2) b := fun ρ b hl => comp_of dPair _ fun p _ => ⟨_, rfl, by simp [el1_Lfirst, dPair, set_get, hl]⟩
  simp [F_Lfirst, k_Lfirst, dTown, dDocks, dCart, show t.docks.length ≤ 100000 from by omega, f1, dSt, firstT, Function.comp_def]
end Fw
set_option Elab.async false
set_option linter.all false
set_option maxRecDepth 100000
set_option maxHeartbeats 4000000
/-! P1: towns made, and refused. -/
namespace Fw
open PySem L2
section
variable {ρ : En} {b : Bx} {i : Nat} {f : Fx D} {fl : Fx (List D)}
@[simp] theorem ev_kTryAs {tbl : Addr → Option Bool} {kb kh : Fs} : kTryAs i tbl kb kh ρ b = (match kb ρ b with
  | .exc x b1 => (match tbl x.cls, x.fs with
    | some true, some (ns, ds) => if cleanL ds = true then outH b1 (kh ((ρ.map fun _ => Sl.no).set i (.val (.exn x.cls ns ds))) bx0) else .bad
    | some false, _ => .exc x b1
    | _, _ => .bad)
  | o => o) := rfl
@[simp] theorem ev_outH {d : D} {b1 b2 : Bx} : outH b1 (.rt d b2) = if pureD d = true then .rt d b1 else .bad := rfl
@[simp] theorem ev_xIsE {tbl : Addr → Option Bool} : xIsE i tbl ρ b = (match ρ[i]? with | some (.val (.exn C _ _)) => lift ((tbl C).map D.bl) b | _ => .bad) := rfl
@[simp] theorem ev_xExf {C0 : Addr} {n : Str} : xExf i C0 n ρ b = (match ρ[i]? with | some (.val (.exn C fs ds)) => if C = C0 then lift (fldD fs ds n) b else .bad | _ => .bad) := rfl
@[simp] theorem tbl_one {C : Addr} {v : Bool} : tblOf [(C, v)] C = some v := by simp [tblOf]
end
theorem true_not_in : inF true (.bl true) (.lst false [.bl false, .bl false, .bl false, .bl false]) = some (.bl true) := by rfl
def badT (C : Addr) (w : Str) (n : Int) : Ex := ⟨C, some (["number", "word"], [.int n, .str w])⟩
theorem must_no (c : Cs) (w : Str) (n : Int) (b : Bx) : F_must_be c [.bl false, .str w, .int n] b = .exc (badT c.BadTown w n) b := by
  simp [F_must_be, k_must_be, badT]
/-- a loop that ends with the first that is not good -/
theorem for_first {n : Nat} {P : Nat → Prop} {k : Fs} {pt : Pat} {mk : Sl → En} {ex : Nat → Ex} {b : Bx} (hp : ∀ x d, pt d (mk x) = some (mk (.val d))) (h : ∀ j, j < n → (P j ∧ k (mk (.val (.int j))) b = .nx (mk (.val (.int j))) b) ∨ (¬ P j ∧ k (mk (.val (.int j))) b = .exc (ex j) b)) (x : Sl) :
    ((∀ j, j < n → P j) → ∃ x', forS pt k (rngD 0 n) (mk x) b = .nx (mk x') b) ∧ ∀ j, j < n → (∀ i, i < j → P i) → ¬ P j → forS pt k (rngD 0 n) (mk x) b = .exc (ex j) b := by
  have key : ∀ (m : Nat) (x : Sl), m ≤ n → ((∀ j, j < n → n - m ≤ j → P j) → ∃ x', forS pt k ((rngD 0 n).drop (n - m)) (mk x) b = .nx (mk x') b) ∧ ∀ j, j < n → n - m ≤ j → (∀ i, i < j → n - m ≤ i → P i) → ¬ P j → forS pt k ((rngD 0 n).drop (n - m)) (mk x) b = .exc (ex j) b := by
    intro m
    induction m with
    | zero =>
      intro x _
      have e : (rngD 0 n).drop n = [] := by rw [List.drop_eq_nil_iff]; simp [rngD]
      refine ⟨fun _ => ⟨x, by rw [Nat.sub_zero, e]; simp⟩, fun j h1 h2 => by omega⟩
    | succ m ih =>
      intro x hm
      have hj : n - (m + 1) < n := by omega
      have hl : n - (m + 1) < (rngD 0 n).length := by simpa [rngD] using hj
      have e : (rngD 0 n).drop (n - (m + 1)) = .int ((n - (m + 1) : Nat) : Int) :: (rngD 0 n).drop (n - m) := by
        rw [List.drop_eq_getElem_cons hl]
        congr 1
        · simp [rngD]
        · rw [show n - (m + 1) + 1 = n - m from by omega]
      have step := h (n - (m + 1)) hj
      rw [e]
      refine ⟨fun hP => ?_, fun j h1 h2 h3 h4 => ?_⟩
      · rcases step with ⟨_, st⟩ | ⟨np, _⟩
        · obtain ⟨x', r⟩ := (ih (.val (.int ((n - (m + 1) : Nat) : Int))) (by omega)).1 fun j q1 q2 => hP j q1 (by omega)
          refine ⟨x', ?_⟩
          rw [forS_cons, hp]
          simp only [st]
          exact r
        · exact absurd (hP _ hj (Nat.le_refl _)) np
      · by_cases hj2 : j = n - (m + 1)
        · subst hj2
          rcases step with ⟨p, _⟩ | ⟨_, st⟩
          · exact absurd p h4
          · rw [forS_cons, hp]
            simp only [st]
        · rcases step with ⟨_, st⟩ | ⟨np, _⟩
          · rw [forS_cons, hp]
            simp only [st]
            exact (ih (.val (.int ((n - (m + 1) : Nat) : Int))) (by omega)).2 j h1 (by omega) (fun i q1 q2 => h3 i q1 (by omega)) h4
          · exact absurd (h3 _ (by omega) (Nat.le_refl _)) np
  have r := key n x (Nat.le_refl _)
  rw [Nat.sub_self, List.drop_zero] at r
  exact ⟨fun hP => r.1 fun j q _ => hP j q, fun j h1 h2 h3 => r.2 j h1 (Nat.zero_le _) (fun i q _ => h2 i q) h3⟩
theorem min1_iff {r : List Int} (h0 : r ≠ []) (z : Bool) : ∃ m : Int, min1 [.lst z (r.map .int)] = some (.int m) ∧ (0 ≤ m ↔ ∀ x ∈ r, 0 ≤ x) := by
  cases r with
  | nil => exact absurd rfl h0
  | cons x r =>
    refine ⟨r.foldl min x, by simp only [min1, intsOf_map]; rfl, fun q y hy => ?_, fun q => q _ (foldl_min r x).1⟩
    have := (foldl_min r x).2 y hy
    omega
theorem max1_iff {r : List Int} (h0 : r ≠ []) (z : Bool) : ∃ m : Int, max1 [.lst z (r.map .int)] = some (.int m) ∧ (m ≤ 99 ↔ ∀ x ∈ r, x ≤ 99) := by
  cases r with
  | nil => exact absurd rfl h0
  | cons x r =>
    refine ⟨r.foldl max x, by simp only [max1, intsOf_map]; rfl, fun q y hy => ?_, fun q => q _ (foldl_max r x).1⟩
    have := (foldl_max r x).2 y hy
    omega
def goodD (p : Int × Int) : Prop := 0 ≤ p.2 ∧ p.2 ≤ p.1 ∧ p.1 ≤ 9
def goodW (n j : Nat) (r : List Int) : Prop := r.length = n ∧ r[j]? = some 0 ∧ ∀ x ∈ r, 0 ≤ x ∧ x ≤ 99
def dksL (z : Bool) (ds : List (Int × Int)) : D := .lst z (ds.map dPair)
def wysL (z z3 : Bool) (ws : List (List Int)) : D := .lst z (ws.map fun r => .lst z3 (r.map .int))
def ctL (p r l : Int) : D := .tup [.int p, .int r, .int l]
section
variable (c : Cs) (b : Bx) (z z2 z3 : Bool) (ds : List (Int × Int)) (ws : List (List Int)) (p r l : Int)
def enI (x : Sl) : En := [.val (.slf c.Town), .val (dksL z ds), .val (wysL z2 z3 ws), .val (ctL p r l), .val (.int ds.length), x, .no, .no, .no, .no, .no]
theorem step1 {j : Nat} (hj : j < ds.length) : (goodD (ds.getD j (0, 0)) ∧ fb1_Town_init c (enI c z z2 z3 ds ws p r l (.val (.int j))) b = .nx (enI c z z2 z3 ds ws p r l (.val (.int j))) b) ∨ (¬ goodD (ds.getD j (0, 0)) ∧ fb1_Town_init c (enI c z z2 z3 ds ws p r l (.val (.int j))) b = .exc (badT c.BadTown "dock" j) b) := by
  have e : ds.getD j (0, 0) = ds[j] := by simp [hj]
  rw [e]
  unfold goodD
  by_cases h1 : 0 ≤ ds[j].2
  · by_cases h2 : ds[j].2 ≤ ds[j].1
    · by_cases h3 : ds[j].1 ≤ 9
      · refine .inl ⟨⟨h1, h2, h3⟩, ?_⟩
        simp [fb1_Town_init, enI, dksL, dPair, atI_nat, hj, h1, h2, h3, must_ok]
      · refine .inr ⟨fun q => h3 q.2.2, ?_⟩
        simp [fb1_Town_init, enI, dksL, dPair, atI_nat, hj, h1, h2, h3, must_no]
    · refine .inr ⟨fun q => h2 q.2.1, ?_⟩
      simp [fb1_Town_init, enI, dksL, dPair, atI_nat, hj, h1, h2, must_no]
  · refine .inr ⟨fun q => h1 q.1, ?_⟩
    simp [fb1_Town_init, enI, dksL, dPair, atI_nat, hj, h1, must_no]
theorem step2 (hw : ws.length = ds.length) {j : Nat} (hj : j < ds.length) (h100 : (ws.getD j []).length ≤ 1000) : (goodW ds.length j (ws.getD j []) ∧ fb2_Town_init c (enI c z z2 z3 ds ws p r l (.val (.int j))) b = .nx (enI c z z2 z3 ds ws p r l (.val (.int j))) b) ∨ (¬ goodW ds.length j (ws.getD j []) ∧ fb2_Town_init c (enI c z z2 z3 ds ws p r l (.val (.int j))) b = .exc (badT c.BadTown "way" j) b) := by
  have hjw : j < ws.length := by omega
  have e : ws.getD j [] = ws[j] := by simp [hjw]
  rw [e] at h100 ⊢
  obtain ⟨row, g⟩ : ∃ row, ws[j] = row := ⟨_, rfl⟩
  rw [g] at h100 ⊢
  unfold goodW
  by_cases h1 : row.length = ds.length
  · have hjr : j < row.length := by omega
    have hne : row ≠ [] := fun q => by rw [q] at hjr; simp at hjr
    obtain ⟨m1, f1, g1⟩ := min1_iff hne z3
    obtain ⟨m2, f2, g2⟩ := max1_iff hne z3
    obtain ⟨v, hv⟩ : ∃ v, row[j]? = some v := ⟨_, List.getElem?_eq_getElem hjr⟩
    by_cases h2 : v = 0
    · by_cases h3 : 0 ≤ m1
      · by_cases h4 : m2 ≤ 99
        · refine .inl ⟨⟨h1, by rw [hv, h2], fun x hx => ⟨g1.mp h3 x hx, g2.mp h4 x hx⟩⟩, ?_⟩
          simp [fb2_Town_init, enI, wysL, atI_nat, hjw, g, hv, h1, h2, f1, f2, h3, h4, must_ok]
        · refine .inr ⟨fun q => h4 (g2.mpr fun x hx => (q.2.2 x hx).2), ?_⟩
          simp [fb2_Town_init, enI, wysL, atI_nat, hjw, g, hv, h1, h2, f1, f2, h3, h4, must_ok, must_no]
      · refine .inr ⟨fun q => h3 (g1.mpr fun x hx => (q.2.2 x hx).1), ?_⟩
        simp [fb2_Town_init, enI, wysL, atI_nat, hjw, g, hv, h1, h2, f1, f2, h3, must_ok, must_no]
    · refine .inr ⟨fun q => h2 (by have := q.2.1; rw [hv] at this; exact Option.some.inj this), ?_⟩
      have hb : (v == 0) = false := beq_eq_false_iff_ne.mpr h2
      simp [hb, fb2_Town_init, enI, wysL, atI_nat, hjw, g, hv, h1, h2, must_no]
  · refine .inr ⟨fun q => h1 q.1, ?_⟩
    have h1' : ((row.length : Int) == ds.length) = false := beq_eq_false_iff_ne.mpr (by omega)
    simp [fb2_Town_init, enI, wysL, atI_nat, hjw, g, h1', must_no]
end
end Fw
set_option Elab.async false
set_option linter.all false
set_option maxRecDepth 100000
set_option maxHeartbeats 4000000
/-! P2: what making a town comes to. -/
namespace Fw
open PySem L2
section
variable (c : Cs) (b : Bx) (z z2 z3 : Bool) (ds : List (Int × Int)) (ws : List (List Int)) (p r l : Int)
theorem loop1 (x : Sl) : ((∀ j, j < ds.length → goodD (ds.getD j (0, 0))) → ∃ x', forS (pName 5) (fb1_Town_init c) (rngD 0 ds.length) (enI c z z2 z3 ds ws p r l x) b = .nx (enI c z z2 z3 ds ws p r l x') b) ∧
    ∀ j, j < ds.length → (∀ i, i < j → goodD (ds.getD i (0, 0))) → ¬ goodD (ds.getD j (0, 0)) → forS (pName 5) (fb1_Town_init c) (rngD 0 ds.length) (enI c z z2 z3 ds ws p r l x) b = .exc (badT c.BadTown "dock" j) b :=
  for_first (P := fun j => goodD (ds.getD j (0, 0))) (mk := enI c z z2 z3 ds ws p r l) (ex := fun j => badT c.BadTown "dock" j) (fun _ _ => rfl) (fun j hj => step1 c b z z2 z3 ds ws p r l hj) x
theorem loop2 (hw : ws.length = ds.length) (h100 : ∀ j, (ws.getD j []).length ≤ 1000) (x : Sl) : ((∀ j, j < ds.length → goodW ds.length j (ws.getD j [])) → ∃ x', forS (pName 5) (fb2_Town_init c) (rngD 0 ds.length) (enI c z z2 z3 ds ws p r l x) b = .nx (enI c z z2 z3 ds ws p r l x') b) ∧
    ∀ j, j < ds.length → (∀ i, i < j → goodW ds.length i (ws.getD i [])) → ¬ goodW ds.length j (ws.getD j []) → forS (pName 5) (fb2_Town_init c) (rngD 0 ds.length) (enI c z z2 z3 ds ws p r l x) b = .exc (badT c.BadTown "way" j) b :=
  for_first (P := fun j => goodW ds.length j (ws.getD j [])) (mk := enI c z z2 z3 ds ws p r l) (ex := fun j => badT c.BadTown "way" j) (fun _ _ => rfl) (fun j hj => step2 c b z z2 z3 ds ws p r l hw hj (h100 j)) x
abbrev inA : List D := [.slf c.Town, dksL z ds, wysL z2 z3 ws, ctL p r l]
/-- what runs behind the count -/
def k_rest1 (c : Cs) : Fs := match k_Town_init c with | k => k
theorem init_docks (h : ¬ (1 ≤ ds.length ∧ ds.length ≤ 4)) : F_Town_init c (inA c z z2 z3 ds ws p r l) b = .exc (badT c.BadTown "docks" 0) b := by
  by_cases h1 : 1 ≤ ds.length
  · have q1 : (1 : Int) ≤ ds.length := by omega
    have q2 : ¬ ((ds.length : Int) ≤ 4) := by omega
    simp [F_Town_init, k_Town_init, dksL, q1, q2, must_no]
  · have q1 : ¬ ((1 : Int) ≤ ds.length) := by omega
    simp [F_Town_init, k_Town_init, dksL, q1, must_no]
theorem enI_eq (x : Sl) : enI c z z2 z3 ds ws p r l x = [.val (.slf c.Town), .val (.lst z (ds.map dPair)), .val (.lst z2 (ws.map fun r => .lst z3 (r.map .int))), .val (.tup [.int p, .int r, .int l]), .val (.int ds.length), x, .no, .no, .no, .no, .no] := rfl
theorem init_dock (h : 1 ≤ ds.length ∧ ds.length ≤ 4) {j : Nat} (hj : j < ds.length) (hg : ∀ i, i < j → goodD (ds.getD i (0, 0))) (hb : ¬ goodD (ds.getD j (0, 0))) : F_Town_init c (inA c z z2 z3 ds ws p r l) b = .exc (badT c.BadTown "dock" j) b := by
  have q1 : (1 : Int) ≤ ds.length := by omega
  have q2 : (ds.length : Int) ≤ 4 := by omega
  have q3 : (-100000 : Int) ≤ ds.length := by omega
  have q4 : (ds.length : Int) ≤ 100000 := by omega
  have e := (loop1 c b z z2 z3 ds ws p r l .no).2 j hj hg hb
  simp only [enI_eq] at e
  simp [F_Town_init, k_Town_init, dksL, wysL, ctL, q1, q2, q3, q4, must_ok, e]
theorem init_ways (h : 1 ≤ ds.length ∧ ds.length ≤ 4) (hg : ∀ j, j < ds.length → goodD (ds.getD j (0, 0))) (hw : ws.length ≠ ds.length) : F_Town_init c (inA c z z2 z3 ds ws p r l) b = .exc (badT c.BadTown "ways" 0) b := by
  have q1 : (1 : Int) ≤ ds.length := by omega
  have q2 : (ds.length : Int) ≤ 4 := by omega
  have q3 : (-100000 : Int) ≤ ds.length := by omega
  have q4 : (ds.length : Int) ≤ 100000 := by omega
  have q5 : ((ws.length : Int) == ds.length) = false := beq_eq_false_iff_ne.mpr (by omega)
  obtain ⟨x', e⟩ := (loop1 c b z z2 z3 ds ws p r l .no).1 hg
  simp only [enI_eq] at e
  simp [F_Town_init, k_Town_init, dksL, wysL, ctL, q1, q2, q3, q4, q5, must_ok, must_no, e]
theorem init_way (h : 1 ≤ ds.length ∧ ds.length ≤ 4) (hg : ∀ j, j < ds.length → goodD (ds.getD j (0, 0))) (hw : ws.length = ds.length) (h100 : ∀ j, (ws.getD j []).length ≤ 1000) {j : Nat} (hj : j < ds.length) (hgw : ∀ i, i < j → goodW ds.length i (ws.getD i [])) (hb : ¬ goodW ds.length j (ws.getD j [])) :
    F_Town_init c (inA c z z2 z3 ds ws p r l) b = .exc (badT c.BadTown "way" j) b := by
  have q1 : (1 : Int) ≤ ds.length := by omega
  have q2 : (ds.length : Int) ≤ 4 := by omega
  have q3 : (-100000 : Int) ≤ ds.length := by omega
  have q4 : (ds.length : Int) ≤ 100000 := by omega
  obtain ⟨x', e⟩ := (loop1 c b z z2 z3 ds ws p r l .no).1 hg
  have e2 := (loop2 c b z z2 z3 ds ws p r l hw h100 x').2 j hj hgw hb
  simp only [enI_eq] at e e2
  simp [F_Town_init, k_Town_init, dksL, wysL, ctL, q1, q2, q3, q4, hw, must_ok, e, e2]
def goodC (n : Nat) (p r l : Int) : Prop := (0 ≤ p ∧ p < n) ∧ 0 ≤ l ∧ l ≤ r ∧ r ≤ 9
theorem init_cart (h : 1 ≤ ds.length ∧ ds.length ≤ 4) (hg : ∀ j, j < ds.length → goodD (ds.getD j (0, 0))) (hw : ws.length = ds.length) (h100 : ∀ j, (ws.getD j []).length ≤ 1000) (hgw : ∀ j, j < ds.length → goodW ds.length j (ws.getD j [])) (hb : ¬ goodC ds.length p r l) :
    F_Town_init c (inA c z z2 z3 ds ws p r l) b = .exc (badT c.BadTown "cart" 0) b := by
  have q1 : (1 : Int) ≤ ds.length := by omega
  have q2 : (ds.length : Int) ≤ 4 := by omega
  have q3 : (-100000 : Int) ≤ ds.length := by omega
  have q4 : (ds.length : Int) ≤ 100000 := by omega
  obtain ⟨x', e⟩ := (loop1 c b z z2 z3 ds ws p r l .no).1 hg
  obtain ⟨x2, e2⟩ := (loop2 c b z z2 z3 ds ws p r l hw h100 x').1 hgw
  simp only [enI_eq] at e e2
  unfold goodC at hb
  by_cases c1 : 0 ≤ p
  · by_cases c2 : p < ds.length
    · by_cases c3 : 0 ≤ l
      · by_cases c4 : l ≤ r
        · have c5 : ¬ (r ≤ 9) := fun q => hb ⟨⟨c1, c2⟩, c3, c4, q⟩
          simp [F_Town_init, k_Town_init, dksL, wysL, ctL, q1, q2, q3, q4, hw, must_ok, must_no, e, e2, c1, c2, c3, c4, c5]
        · simp [F_Town_init, k_Town_init, dksL, wysL, ctL, q1, q2, q3, q4, hw, must_ok, must_no, e, e2, c1, c2, c3, c4]
      · simp [F_Town_init, k_Town_init, dksL, wysL, ctL, q1, q2, q3, q4, hw, must_ok, must_no, e, e2, c1, c2, c3]
    · simp [F_Town_init, k_Town_init, dksL, wysL, ctL, q1, q2, q3, q4, hw, must_ok, must_no, e, e2, c1, c2]
  · simp [F_Town_init, k_Town_init, dksL, wysL, ctL, q1, q2, q3, q4, hw, must_ok, must_no, e, e2, c1]
theorem init_good (h : 1 ≤ ds.length ∧ ds.length ≤ 4) (hg : ∀ j, j < ds.length → goodD (ds.getD j (0, 0))) (hw : ws.length = ds.length) (h100 : ∀ j, (ws.getD j []).length ≤ 1000) (hgw : ∀ j, j < ds.length → goodW ds.length j (ws.getD j [])) (hc : goodC ds.length p r l) (hf : b.fs = []) (hd : b.ds = []) :
    ∃ ρ', F_Town_init c (inA c z z2 z3 ds ws p r l) b = .nx ρ' { b with fs := tNames, ds := [.tup (ds.map fun p => .int p.1), .tup (ds.map fun p => .int p.2), .lst false (ws.map tupR), .int p, .int r, .int l] } := by
  have q1 : (1 : Int) ≤ ds.length := by omega
  have q2 : (ds.length : Int) ≤ 4 := by omega
  have q3 : (-100000 : Int) ≤ ds.length := by omega
  have q4 : (ds.length : Int) ≤ 100000 := by omega
  have q5 : ds.length ≤ 100000 := by omega
  obtain ⟨x', e⟩ := (loop1 c b z z2 z3 ds ws p r l .no).1 hg
  obtain ⟨x2, e2⟩ := (loop2 c b z z2 z3 ds ws p r l hw h100 x').1 hgw
  simp only [enI_eq] at e e2
  obtain ⟨⟨c1, c2⟩, c3, c4, c5⟩ := hc
  have f1 : ∀ (ρ : En) (b : Bx), ρ.length = 11 → compS (pName 9) xYes (el1_Town_init c) ρ (ds.map dPair) b = .ok (ds.map fun p => .int p.1) b := fun ρ b hl => comp_of dPair _ fun p _ => ⟨_, rfl, by simp [el1_Town_init, dPair, set_get, hl]⟩
  have f2 : ∀ (ρ : En) (b : Bx), ρ.length = 11 → compS (pName 9) xYes (el2_Town_init c) ρ (ds.map dPair) b = .ok (ds.map fun p => .int p.2) b := fun ρ b hl => comp_of dPair _ fun p _ => ⟨_, rfl, by simp [el2_Town_init, dPair, set_get, hl]⟩
  have f3 : ∀ (ρ : En) (b : Bx), ρ.length = 11 → compS (pName 10) xYes (el3_Town_init c) ρ (ws.map fun r => .lst z3 (r.map .int)) b = .ok (ws.map tupR) b := fun ρ b hl => comp_of (fun r : List Int => D.lst z3 (r.map .int)) _ fun p _ => ⟨_, rfl, by simp [el3_Town_init, tupR, set_get, hl]⟩
  obtain ⟨ns, st, fs, dd, mm, ls⟩ := b
  simp only at hf hd
  subst hf hd
  refine ⟨[.val (.slf c.Town), .val (.lst z (ds.map dPair)), .val (.lst z2 (ws.map fun r => .lst z3 (r.map .int))), .val (.tup [.int p, .int r, .int l]), .val (.int ds.length), x2, .val (.int p), .val (.int r), .val (.int l), .no, .no], ?_⟩
  simp [F_Town_init, k_Town_init, dksL, wysL, ctL, q1, q2, q3, q4, q5, hw, must_ok, e, e2, c1, c2, c3, c4, c5, f1, f2, f3]
end
end Fw
set_option Elab.async false
set_option linter.all false
set_option maxRecDepth 100000
set_option maxHeartbeats 4000000
/-! S4: numbers and rows as text. -/
namespace Fw
open PySem L2 TL Z0
def strI (i : Int) : Str := toString i
def okNum (i : Int) : Bool := let w := strI i
  decide (1 ≤ w.length ∧ w.length ≤ 2) && (!(decide (w.length = 2) && w.cps.toList[0]? == some 48)) && w.cps.toList.all (fun c => !(Builtin.Str.occurrences "0123456789" ⟨#[c]⟩ 0 10 1).isEmpty && c != 32 && c != 10 && decide (c < 256)) && PySem.intText? w == some i
theorem okNum_all : (List.range 100).all (fun n => okNum (n : Int)) = true := by decide +kernel
theorem okNum_of {i : Int} (h : 0 ≤ i ∧ i ≤ 99) : okNum i = true := by
  have := List.all_eq_true.mp okNum_all i.toNat (List.mem_range.mpr (by omega))
  rwa [Int.toNat_of_nonneg h.1] at this
structure NumT (i : Int) : Prop where
  l1 : 1 ≤ (strI i).length
  l2 : (strI i).length ≤ 2
  z : ¬ ((strI i).length = 2 ∧ (strI i).cps.toList[0]? = some 48)
  fig : ∀ c ∈ (strI i).cps.toList, (Builtin.Str.occurrences "0123456789" ⟨#[c]⟩ 0 10 1).isEmpty = false
  sp : 32 ∉ (strI i).cps.toList
  nl : 10 ∉ (strI i).cps.toList
  ok : ∀ c ∈ (strI i).cps.toList, c < 256
  int : PySem.intText? (strI i) = some i
theorem num_of {i : Int} (h : 0 ≤ i ∧ i ≤ 99) : NumT i := by
  have q := okNum_of h
  unfold okNum at q
  simp only [Bool.and_eq_true, decide_eq_true_eq, Bool.not_eq_true', Bool.and_eq_false_iff, decide_eq_false_iff_not, List.all_eq_true, bne_iff_ne, beq_iff_eq, beq_eq_false_iff_ne] at q
  obtain ⟨⟨⟨h1, h2⟩, h3⟩, h4⟩ := q
  exact ⟨h1.1, h1.2, fun z => h2.elim (fun q => q z.1) fun q => q z.2, fun c hc => (h3 c hc).1.1.1, fun hc => (h3 32 hc).1.1.2 rfl, fun hc => (h3 10 hc).1.2 rfl, fun c hc => (h3 c hc).2, h4⟩
theorem fig_len : ("0123456789" : Str).length = 10 := by decide +kernel
theorem strOk_of {x : Str} (h : ∀ c ∈ x.cps.toList, c < 256) : PyData.strOk x = true := by
  unfold PyData.strOk
  rw [← Array.all_toList, List.all_eq_true]
  intro c hc
  have := h c hc
  exact decide_eq_true (by omega)
theorem len_str {x : Str} (h : x.length ≤ 100000) : lenD (.str x) = some (.int x.length) := if_pos h
theorem number_ok (c : Cs) {i : Int} (h : 0 ≤ i ∧ i ≤ 99) (row : Int) (b : Bx) : F_number_of c [.str (strI i), .int row] b = .rt (.int i) b := by
  have T := num_of h
  have hl := len_tl (strI i)
  have h1 := T.l1
  have h2 := T.l2
  have h640 : (strI i).length ≤ 640 := by omega
  have hlen := len_str (x := strI i) (by omega)
  have hfig := T.fig
  have hz := T.z
  have hint := T.int
  have hok := strOk_of T.ok
  unfold F_number_of k_number_of
  obtain ⟨c1, hw⟩ | ⟨c1, c2, hw⟩ : (∃ c1, tl (strI i) = [c1]) ∨ ∃ c1 c2, tl (strI i) = [c1, c2] := by
    match hq : tl (strI i) with
    | [] => rw [hq] at hl; simp at hl; omega
    | [c1] => exact .inl ⟨c1, rfl⟩
    | [c1, c2] => exact .inr ⟨c1, c2, rfl⟩
    | c1 :: c2 :: c3 :: r => rw [hq] at hl; simp at hl; omega
  · rw [hw] at hl
    have hL : (strI i).length = 1 := by simpa using hl
    have g1 := hfig c1 (by rw [show (strI i).cps.toList = [c1] from hw]; simp)
    have ech : chD (strI i) = [.str ⟨#[c1]⟩] := by unfold chD; rw [show (strI i).cps.toList = [c1] from hw]; rfl
    simp [hlen, hL, ech, forS_cons, fb1_number_of, inStr, fig_len, g1, int2, hint]
  · rw [hw] at hl
    have hL : (strI i).length = 2 := by simpa using hl
    have g1 := hfig c1 (by rw [show (strI i).cps.toList = [c1, c2] from hw]; simp)
    have g2 := hfig c2 (by rw [show (strI i).cps.toList = [c1, c2] from hw]; simp)
    have ech : chD (strI i) = [.str ⟨#[c1]⟩, .str ⟨#[c2]⟩] := by unfold chD; rw [show (strI i).cps.toList = [c1, c2] from hw]; rfl
    have hix : idxD (.str (strI i)) (.int 0) = some (.str ⟨#[c1]⟩) := by
      show (if (strI i).length ≤ 100000 then (atI (strI i).cps.toList 0).map fun c => D.str ⟨#[c]⟩ else none) = _
      rw [if_pos (by omega), show (strI i).cps.toList = [c1, c2] from hw]; rfl
    have hc : c1 ≠ 48 := fun q => hz ⟨hL, by rw [show (strI i).cps.toList = [c1, c2] from hw, q]; rfl⟩
    have he : eqD false (.str ⟨#[c1]⟩) (.str "0") = some (.bl false) := by
      have o1 : PyData.strOk ⟨#[c1]⟩ = true := strOk_of fun c hc => by
        have hc : c ∈ [c1] := hc
        simp at hc; subst hc
        exact T.ok c (by rw [show (strI i).cps.toList = [c, c2] from hw]; simp)
      rw [eq_str false o1 (by decide +kernel)]
      have : ((⟨#[c1]⟩ : Str) == "0") = false := beq_eq_false_iff_ne.mpr fun q => hc (by
        have q2 : tl (⟨#[c1]⟩ : Str) = tl "0" := by rw [q]
        have q3 : tl ("0" : Str) = [48] := by decide +kernel
        rw [q3] at q2
        have q2 : [c1] = [48] := q2
        simpa using q2)
      rw [this]; rfl
    simp [hlen, hL, ech, hix, he, forS_cons, fb1_number_of, inStr, fig_len, g1, g2, int2, hint]
end Fw
set_option Elab.async false
set_option linter.all false
set_option maxRecDepth 100000
set_option maxHeartbeats 4000000
/-! S5: a town's rows of text. -/
namespace Fw
open PySem L2 TL Z0
theorem str_len_app (x y : Str) : (x ++ y).length = x.length + y.length := by rw [len_tl, tl_append, List.length_append, ← len_tl, ← len_tl]
theorem add_str {x y : Str} (h : x.length + y.length ≤ 100000) : addD (.str x) (.str y) = some (.str (x ++ y)) := if_pos h
theorem str1_of {i : Int} (h : 0 ≤ i ∧ i ≤ 99) : str1 [.int i] = some (.str (strI i)) := if_pos (by omega)
theorem strsOf_map : ∀ ns : List Str, strsOf (ns.map D.str) = some ns
  | [] => rfl
  | n :: ns => by simp [strsOf, strOf, strsOf_map ns]
theorem join_cons (s x y : Str) (r : List Str) : Txt.join s (x :: y :: r) = x ++ s ++ Txt.join s (y :: r) := by rw [join_eq, join_eq]; rfl
theorem join_one (s x : Str) : Txt.join s [x] = x := by rw [join_eq]; rfl
theorem join_len (s : Str) : ∀ ys : List Str, (Txt.join s ys).length ≤ (ys.map (·.length)).sum + ys.length * s.length
  | [] => by
    rw [join_eq]
    have : (Str.join s []).length = 0 := rfl
    omega
  | [x] => by rw [join_one]; simp
  | x :: y :: r => by
    have ih := join_len s (y :: r)
    rw [join_cons, str_len_app, str_len_app]
    simp only [List.map_cons, List.sum_cons, List.length_cons] at ih ⊢
    rw [Nat.add_mul]
    omega
theorem join_of {s : Str} {ys : List Str} (h : (ys.map (·.length)).sum + ys.length * s.length ≤ 1000000) (z : Bool) : joinD s (.lst z (ys.map .str)) = some (.str (Txt.join s ys)) := by
  show ((strsOf (ys.map D.str)).bind _) = _
  rw [strsOf_map]
  exact if_pos h
@[simp] theorem ev_xM1 {o : Str → D → Option D} {f h : Fx D} {ρ : En} {b : Bx} : xM1 o f h ρ b = (f ρ b).bind fun d b1 => (match d with | .str a => (h ρ b1).bind fun c b2 => lift (o a c) b2 | _ => .bad) := rfl
def sJoin (r : List Int) : Str := Txt.join " " (r.map strI)
def lineD (p : Int × Int) : Str := ("dock " ++ strI p.1) ++ " " ++ strI p.2
def lineW (r : List Int) : Str := "way " ++ sJoin r
def lineC (t : TD) : Str := "cart " ++ sJoin [t.place, t.room, t.load]
def linesOf (t : TD) : List Str := t.docks.map lineD ++ t.ways.map lineW ++ [lineC t]
theorem sp_len : (" " : Str).length = 1 := by decide +kernel
theorem dock_len : ("dock " : Str).length = 5 := by decide +kernel
theorem way_len : ("way " : Str).length = 4 := by decide +kernel
theorem cart_len : ("cart " : Str).length = 5 := by decide +kernel
theorem nl_len : ("\n" : Str).length = 1 := by decide +kernel
theorem sum_strI {r : List Int} (h : ∀ x ∈ r, 0 ≤ x ∧ x ≤ 99) : ((r.map strI).map (·.length)).sum ≤ 2 * r.length := by
  induction r with
  | nil => simp
  | cons x r ih =>
    have h1 := (num_of (h x List.mem_cons_self)).l2
    have h2 := ih fun y hy => h y (List.mem_cons_of_mem _ hy)
    simp only [List.map_cons, List.sum_cons, List.length_cons]
    omega
theorem sJoin_ok {r : List Int} (h : ∀ x ∈ r, 0 ≤ x ∧ x ≤ 99) (hl : r.length ≤ 100) : joinD " " (.lst false ((r.map strI).map .str)) = some (.str (sJoin r)) ∧ (sJoin r).length ≤ 3 * r.length := by
  have h1 := sum_strI h
  have h2 := join_len " " (r.map strI)
  rw [sp_len] at h2
  simp only [List.length_map] at h2
  exact ⟨join_of (by rw [sp_len, List.length_map]; omega) false, by show (Txt.join " " (r.map strI)).length ≤ _; omega⟩
theorem lineD_len {p : Int × Int} (h1 : 0 ≤ p.1 ∧ p.1 ≤ 99) (h2 : 0 ≤ p.2 ∧ p.2 ≤ 99) : (lineD p).length ≤ 100 := by
  have := (num_of h1).l2
  have := (num_of h2).l2
  unfold lineD
  rw [str_len_app, str_len_app, str_len_app, dock_len, sp_len]
  omega
/-- a text's rows are good -/
structure OkX (t : TD) : Prop where
  n5 : t.docks.length ≤ 5
  w5 : t.ways.length ≤ 5
  dk : ∀ p ∈ t.docks, (0 ≤ p.1 ∧ p.1 ≤ 99) ∧ 0 ≤ p.2 ∧ p.2 ≤ 99
  wr : ∀ r ∈ t.ways, (∀ x ∈ r, 0 ≤ x ∧ x ≤ 99) ∧ r.length = t.docks.length ∧ 1 ≤ r.length
  ct : ∀ x ∈ [t.place, t.room, t.load], 0 ≤ x ∧ x ≤ 99
theorem OkX.of {t : TD} (T : OkT 4 9 9 t) : OkX t := by
  have h4 := T.n4
  have h1 := T.n1
  have hw := T.wl
  refine ⟨by omega, by omega, fun p hp => by have := T.dk p hp; omega, fun r hr => ?_, fun x hx => ?_⟩
  · obtain ⟨i, hi, e⟩ := List.getElem_of_mem hr
    have := T.wr i r (by rw [List.getElem?_eq_getElem hi, e])
    exact ⟨this.2.2, this.1, by omega⟩
  · have h1 := T.pl
    have h2 := T.lr
    simp at hx
    rcases hx with rfl | rfl | rfl <;> omega
section
variable (c : Cs) {t : TD} (T : OkX t)
theorem dk99 (T : OkX t) {p : Int × Int} (hp : p ∈ t.docks) : (0 ≤ p.1 ∧ p.1 ≤ 99) ∧ 0 ≤ p.2 ∧ p.2 ≤ 99 := T.dk p hp
theorem wy99 (T : OkX t) {r : List Int} (hr : r ∈ t.ways) : (∀ x ∈ r, 0 ≤ x ∧ x ≤ 99) ∧ r.length ≤ 5 ∧ 1 ≤ r.length := by
  have := T.wr r hr
  have := T.n5
  exact ⟨(T.wr r hr).1, by omega, (T.wr r hr).2.2⟩
theorem ct99 (T : OkX t) : (∀ x ∈ [t.place, t.room, t.load], 0 ≤ x ∧ x ≤ 99) := T.ct
theorem dockElt {fe : Fx D} (he : fe = (xBin addD (xBin addD (xBin addD (xC (.str "dock ")) (xB str1 (xCons (xVar 1) xNil))) (xC (.str " "))) (xB str1 (xCons (xVar 2) xNil)))) {p : Int × Int} (h1 : 0 ≤ p.1 ∧ p.1 ≤ 99) (h2 : 0 ≤ p.2 ∧ p.2 ≤ 99) {ρ : En} {b : Bx} (hl : 3 ≤ ρ.length) :
    ∃ ρ1, pTup [pName 1, pName 2] (dPair p) ρ = some ρ1 ∧ fe ρ1 b = .ok (.str (lineD p)) b := by
  have n1 := (num_of h1).l2
  have n2 := (num_of h2).l2
  subst he
  refine ⟨_, rfl, ?_⟩
  have g1 : (("dock " : Str) ++ strI p.1).length ≤ 7 := by rw [str_len_app, dock_len]; omega
  have g2 : (("dock " : Str) ++ strI p.1 ++ " ").length ≤ 8 := by rw [str_len_app, sp_len]; omega
  simp [set_get, show 2 < ρ.length from by omega, show 1 < ρ.length from by omega, str1_of h1, str1_of h2, add_str (x := "dock ") (y := strI p.1) (by rw [dock_len]; omega), add_str (x := "dock " ++ strI p.1) (y := " ") (by rw [sp_len]; omega), add_str (x := "dock " ++ strI p.1 ++ " ") (y := strI p.2) (by omega), lineD]
end
end Fw
set_option Elab.async false
set_option linter.all false
set_option maxRecDepth 100000
set_option maxHeartbeats 4000000
/-! S6: what a town tells; its text; likeness. -/
namespace Fw
open PySem L2 TL Z0
section
variable (c : Cs) {t : TD} (T : OkX t) (b : Bx)
/-- the loop over the ways' rows -/
theorem way_row {fb : Fs} {el : Fx D} (hel : el = (xB str1 (xCons (xVar 5) xNil))) (hfb : fb = (kApp 3 (xBin addD (xC (.str "way ")) (xM1 joinD (xC (.str " ")) (xLst (xComp (xSeq (xVar 4)) [5] (pName 5) xYes el)))))) {x0 x1 x2 x5 x6 x4 : Sl} {acc : List Str} {r : List Int} (h : ∀ x ∈ r, 0 ≤ x ∧ x ≤ 99) (hl : r.length ≤ 5) (ha : acc.length < 1000) :
    fb [x0, x1, x2, .own (acc.map .str), .val (dRow r), x5, x6] b = .nx [x0, x1, x2, .own ((acc ++ [lineW r]).map .str), .val (dRow r), x5, x6] b := by
  subst hel hfb
  obtain ⟨j1, j2⟩ := sJoin_ok h (by omega)
  have f1 : compS (pName 5) xYes (xB str1 (xCons (xVar 5) xNil)) [x0, x1, x2, .own (acc.map .str), .val (dRow r), .no, x6] (r.map .int) b = .ok ((r.map strI).map .str) b := by
    rw [List.map_map]
    exact comp_of D.int _ fun x hx => ⟨_, rfl, by simp [str1_of (h x hx)]⟩
  have g1 := add_str (x := "way ") (y := sJoin r) (by rw [way_len]; omega)
  simp only [dRow, zr0] at f1
  rw [List.map_map] at j1 f1
  simp [dRow, show r.length ≤ 100000 from by omega, f1, j1, g1, show acc.length < 100000 from by omega, lineW]
theorem rows_loop {fb : Fs} {el : Fx D} (hel : el = (xB str1 (xCons (xVar 5) xNil))) (hfb : fb = (kApp 3 (xBin addD (xC (.str "way ")) (xM1 joinD (xC (.str " ")) (xLst (xComp (xSeq (xVar 4)) [5] (pName 5) xYes el)))))) {x0 x1 x2 x5 x6 : Sl} {ws : List (List Int)} (h : ∀ r ∈ ws, (∀ x ∈ r, 0 ≤ x ∧ x ≤ 99) ∧ r.length ≤ 5 ∧ 1 ≤ r.length) (hw : ws.length ≤ 5) (x4 : Sl) (acc : List Str) (ha : acc.length ≤ 5) :
    ∃ x4', forS (pName 4) fb (ws.map dRow) [x0, x1, x2, .own (acc.map .str), x4, x5, x6] b = .nx [x0, x1, x2, .own ((acc ++ ws.map lineW).map .str), x4', x5, x6] b := by
  have key : ∀ (ws : List (List Int)) (x4 : Sl) (acc : List Str), (∀ r ∈ ws, (∀ x ∈ r, 0 ≤ x ∧ x ≤ 99) ∧ r.length ≤ 5 ∧ 1 ≤ r.length) → acc.length + ws.length ≤ 10 → ∃ x4', forS (pName 4) fb (ws.map dRow) [x0, x1, x2, .own (acc.map .str), x4, x5, x6] b = .nx [x0, x1, x2, .own ((acc ++ ws.map lineW).map .str), x4', x5, x6] b := by
    intro ws
    induction ws with
    | nil => intro x4 acc _ _; exact ⟨x4, by simp⟩
    | cons r ws ih =>
      intro x4 acc h hl
      obtain ⟨h1, h2, _⟩ := h r List.mem_cons_self
      simp only [List.length_cons] at hl
      obtain ⟨x4', e⟩ := ih (.val (dRow r)) (acc ++ [lineW r]) (fun q hq => h q (List.mem_cons_of_mem _ hq)) (by simp; omega)
      refine ⟨x4', ?_⟩
      rw [List.map_cons, forS_cons]
      have w := way_row b hel hfb (x0 := x0) (x1 := x1) (x2 := x2) (x5 := x5) (x6 := x6) (x4 := x4) (acc := acc) h1 h2 (by omega)
      simp only [ev_pName, List.set_cons_succ, List.set_cons_zero, w, e]
      simp [List.append_assoc]
  exact key ws x4 acc h (by omega)
theorem cart_elt {el : Fx D} (hel : el = (xB str1 (xCons (xVar 6) xNil))) (T : OkX t) {x0 x1 x2 x3 x4 x5 : Sl} : compS (pName 6) xYes el [x0, x1, x2, x3, x4, x5, .no] [.int t.place, .int t.room, .int t.load] b = .ok (([t.place, t.room, t.load].map strI).map .str) b := by
  subst hel
  show compS _ _ _ _ ([t.place, t.room, t.load].map D.int) b = _
  rw [List.map_map]
  exact comp_of D.int _ fun x hx => ⟨_, rfl, by simp [str1_of (ct99 T x hx)]⟩
theorem lines_ok (T : OkX t) : F_Llines c [dTown t] b = .rt (.lst false ((linesOf t).map .str)) b := by
  have h4 := T.n5
  have hwl := T.w5
  have q1 : t.docks.length ≤ 100000 := by omega
  have f1 : ∀ (ρ : En), 3 ≤ ρ.length → compS (pTup [pName 1, pName 2]) xYes (el1_Llines c) ρ (t.docks.map dPair) b = .ok ((t.docks.map lineD).map .str) b := fun ρ hl => by
    rw [List.map_map]
    exact comp_of dPair _ fun p hp => dockElt rfl (dk99 T hp).1 (dk99 T hp).2 hl
  obtain ⟨x4', e⟩ := rows_loop b (fb := fb1_Llines c) (el := el2_Llines c) rfl rfl (x0 := .val (dTown t)) (x1 := .no) (x2 := .no) (x5 := .no) (x6 := .no) (fun r hr => wy99 T hr) (by omega) .no (t.docks.map lineD) (by simp; omega)
  obtain ⟨j1, j2⟩ := sJoin_ok (ct99 T) (by simp)
  have g1 := add_str (x := "cart ") (y := sJoin [t.place, t.room, t.load]) (by rw [cart_len]; simp at j2; omega)
  have f3 := fun x3 => cart_elt b (el := el3_Llines c) rfl T (x0 := .val (dTown t)) (x1 := .no) (x2 := .no) (x3 := x3) (x4 := x4') (x5 := .no)
  have g2 : addD (.lst false ((t.docks.map lineD ++ t.ways.map lineW).map .str)) (.lst false [.str ("cart " ++ sJoin [t.place, t.room, t.load])]) = some (.lst false ((linesOf t).map .str)) := by
    show lim _ _ = _
    unfold lim
    rw [if_pos (by simp; omega)]
    simp [linesOf, lineC]
  have j1' : joinD " " (.lst false [.str (strI t.place), .str (strI t.room), .str (strI t.load)]) = some (.str (sJoin [t.place, t.room, t.load])) := j1
  simp only [List.map_append, List.map_map] at g2
  simp only [dTown, dDocks, dWays, dCart, zr0] at e f3 f1
  simp only [List.map_map] at f1 e f3
  simp [F_Llines, k_Llines, dTown, dDocks, dWays, dCart, q1, f1, e, f3, j1', g1, g2]
/-- a town's text -/
def textOf (t : TD) : Str := Txt.join "\n" (linesOf t)
theorem line_len (T : OkX t) : ∀ l ∈ linesOf t, l.length ≤ 100 := by
  intro l hl
  unfold linesOf at hl
  rcases List.mem_append.mp hl with hl | hl
  · rcases List.mem_append.mp hl with hl | hl
    · obtain ⟨p, hp, rfl⟩ := List.mem_map.mp hl
      exact lineD_len (dk99 T hp).1 (dk99 T hp).2
    · obtain ⟨r, hr, rfl⟩ := List.mem_map.mp hl
      have := wy99 T hr
      have := (sJoin_ok this.1 (by omega)).2
      unfold lineW
      rw [str_len_app, way_len]
      omega
  · rw [List.mem_singleton.mp hl]
    have := (sJoin_ok (ct99 T) (by simp)).2
    unfold lineC
    rw [str_len_app, cart_len]
    simp at this
    omega
theorem lines_len (T : OkX t) : (linesOf t).length ≤ 11 := by
  have h4 := T.n5
  have hwl := T.w5
  unfold linesOf
  simp
  omega
theorem sum_le {xs : List Nat} {m : Nat} (h : ∀ x ∈ xs, x ≤ m) : xs.sum ≤ xs.length * m := by
  induction xs with
  | nil => simp
  | cons x xs ih =>
    have h1 := h x List.mem_cons_self
    have h2 := ih fun y hy => h y (List.mem_cons_of_mem _ hy)
    rw [List.sum_cons, List.length_cons, Nat.add_mul]
    omega
theorem text_sz (T : OkX t) : ((linesOf t).map (·.length)).sum + (linesOf t).length * ("\n" : Str).length ≤ 1200 := by
  have h1 := sum_le (xs := (linesOf t).map (·.length)) (m := 100) fun x hx => by
    obtain ⟨l, hl, rfl⟩ := List.mem_map.mp hx
    exact line_len T l hl
  have h2 := lines_len T
  rw [List.length_map] at h1
  have h3 := Nat.mul_le_mul_right 100 h2
  rw [nl_len]
  omega
end
end Fw
set_option Elab.async false
set_option linter.all false
set_option maxRecDepth 100000
set_option maxHeartbeats 4000000
/-! S8: a text read. -/
namespace Fw
open PySem L2 TL Z0
theorem str_assoc (x y z : Str) : x ++ y ++ z = x ++ (y ++ z) := ext_tl (by rw [tl_append, tl_append, tl_append, tl_append, List.append_assoc])
abbrev Row := Str × List Int
def wordsOf (r : Row) : List Str := r.1 :: r.2.map strI
def lineOf (r : Row) : Str := Txt.join " " (wordsOf r)
def rowsOf (t : TD) : List Row := t.docks.map (fun p => (("dock" : Str), [p.1, p.2])) ++ t.ways.map (fun r => (("way" : Str), r)) ++ [(("cart" : Str), [t.place, t.room, t.load])]
theorem dock_sp : ("dock " : Str) = "dock" ++ " " := by decide +kernel
theorem way_sp : ("way " : Str) = "way" ++ " " := by decide +kernel
theorem cart_sp : ("cart " : Str) = "cart" ++ " " := by decide +kernel
theorem join2 (k : Str) {ns : List Int} (h : ns ≠ []) : lineOf (k, ns) = k ++ " " ++ sJoin ns := by
  cases ns with
  | nil => exact absurd rfl h
  | cons n r => exact join_cons " " k (strI n) (r.map strI)
theorem lines_eq {t : TD} (T : OkX t) : linesOf t = (rowsOf t).map lineOf := by
  have e1 : t.docks.map lineD = t.docks.map (fun p => lineOf (("dock" : Str), [p.1, p.2])) := List.map_congr_left fun p hp => by
    rw [join2 _ (by simp)]
    unfold lineD sJoin
    rw [dock_sp, List.map_cons, List.map_cons, List.map_nil, join_cons, join_one]
    simp only [str_assoc]
  have e2 : t.ways.map lineW = t.ways.map (fun r => lineOf (("way" : Str), r)) := List.map_congr_left fun r hr => by
    have := (wy99 T hr).2.2
    rw [join2 _ (by intro q; rw [q] at this; simp at this)]
    unfold lineW
    rw [way_sp]
  have e3 : lineC t = lineOf (("cart" : Str), [t.place, t.room, t.load]) := by
    rw [join2 _ (by simp)]
    unfold lineC
    rw [cart_sp]
  unfold linesOf rowsOf
  rw [e1, e2, e3]
  simp [List.map_map, Function.comp_def]
theorem mem_joinL {s : Nat} {S : List Nat} : ∀ {ps : List (List Nat)}, s ∈ joinL S ps → s ∈ S ∨ ∃ p ∈ ps, s ∈ p
  | [], h => by cases h
  | [p], h => .inr ⟨p, List.mem_singleton.mpr rfl, h⟩
  | p :: q :: r, h => by
    have h : s ∈ p ++ (S ++ joinL S (q :: r)) := h
    rcases List.mem_append.mp h with h | h
    · exact .inr ⟨p, List.mem_cons_self, h⟩
    · rcases List.mem_append.mp h with h | h
      · exact .inl h
      · rcases mem_joinL h with h | ⟨x, hx, h⟩
        · exact .inl h
        · exact .inr ⟨x, List.mem_cons_of_mem _ hx, h⟩
structure RowOk (r : Row) : Prop where
  key : 32 ∉ tl r.1 ∧ 10 ∉ tl r.1
  num : ∀ x ∈ r.2, 0 ≤ x ∧ x ≤ 99
theorem word_free {r : Row} (h : RowOk r) : ∀ w ∈ wordsOf r, 32 ∉ tl w ∧ 10 ∉ tl w := by
  intro w hw
  rcases List.mem_cons.mp hw with rfl | hw
  · exact h.key
  · obtain ⟨x, hx, rfl⟩ := List.mem_map.mp hw
    have := num_of (h.num x hx)
    exact ⟨this.sp, this.nl⟩
theorem tl_sp : tl (" " : Str) = [32] := by decide +kernel
theorem tl_nl : tl ("\n" : Str) = [10] := by decide +kernel
theorem split_line {r : Row} (h : RowOk r) : Txt.split (lineOf r) " " = wordsOf r :=
  split_join tl_sp (by decide +kernel) (by simp [wordsOf]) fun w hw => (word_free h w hw).1
theorem line_nl {r : Row} (h : RowOk r) : 10 ∉ tl (lineOf r) := by
  unfold lineOf
  rw [join_eq, tl_join]
  intro q
  rcases mem_joinL q with q | ⟨p, hp, q⟩
  · rw [tl_sp] at q; simp at q
  · obtain ⟨w, hw, rfl⟩ := List.mem_map.mp hp
    exact (word_free h w hw).2 q
theorem rows_okT {t : TD} (T : OkX t) : ∀ r ∈ rowsOf t, RowOk r := by
  intro r hr
  unfold rowsOf at hr
  rcases List.mem_append.mp hr with hr | hr
  · rcases List.mem_append.mp hr with hr | hr
    · obtain ⟨p, hp, rfl⟩ := List.mem_map.mp hr
      have := dk99 T hp
      refine ⟨(by decide +kernel : 32 ∉ tl ("dock" : Str) ∧ 10 ∉ tl ("dock" : Str)), fun x hx => ?_⟩
      simp at hx
      rcases hx with rfl | rfl
      · exact this.1
      · exact this.2
    · obtain ⟨q, hq, rfl⟩ := List.mem_map.mp hr
      exact ⟨(by decide +kernel : 32 ∉ tl ("way" : Str) ∧ 10 ∉ tl ("way" : Str)), (wy99 T hq).1⟩
  · rw [List.mem_singleton.mp hr]
    exact ⟨(by decide +kernel : 32 ∉ tl ("cart" : Str) ∧ 10 ∉ tl ("cart" : Str)), ct99 T⟩
theorem split_text {t : TD} (T : OkX t) : Txt.split (textOf t) "\n" = (rowsOf t).map lineOf := by
  unfold textOf
  rw [lines_eq T]
  refine split_join tl_nl (by decide +kernel) (by unfold rowsOf; simp) fun w hw => ?_
  obtain ⟨r, hr, rfl⟩ := List.mem_map.mp hw
  exact line_nl (rows_okT T r hr)
theorem cut1 {α : Type} (x : α) (xs : List α) : cutL (x :: xs) (some 1) none = xs := by
  unfold cutL
  rw [show HT.sIx (x :: xs).length 0 (some 1) = 1 from by rw [show (1 : Int) = ((1 : Nat) : Int) from rfl, HT.sIx_nat]; simp]
  show ((x :: xs).drop 1).take ((x :: xs).length - 1) = xs
  simp

section
variable {ρ : En} {b : Bx} {i : Nat} {f h : Fx D} {fl : Fx (List D)}
@[simp] theorem ev_xSplit : xSplit f h ρ b = (f ρ b).bind fun d b1 => (match d with | .str a => (h ρ b1).bind fun c b2 => lift (splitD a c) b2 | _ => .bad) := rfl
@[simp] theorem ev_xTidx {ns : List Str} : xTidx ns f ρ b = (f ρ b).bind fun d b1 => (match d with | .str z => (match ns.findIdx? (fun y => decide (y = z)) with | some j => .ok (.int j) b1 | none => .bad) | _ => .bad) := rfl
@[simp] theorem ev_xDNil {neg : Bool} {key : Str} : xDNil neg i key ρ b = if isDls ρ i then (match getL b.fs b.ls key with | some ds => (match toPys ds with | some ps => if SeqAt.shaped (.list ps) = true then .ok (.bl (neg != ds.isEmpty)) b else .bad | none => .bad) | none => .bad) else .bad := rfl
@[simp] theorem ev_xDLen {key : Str} : xDLen i key ρ b = if isDls ρ i then (match getL b.fs b.ls key with | some ds => .ok (.int ds.length) b | none => .bad) else .bad := rfl
@[simp] theorem ev_kDApp : kDApp i f h ρ b = if isDls ρ i = true then (f ρ b).out fun kd b1 => (match kd with | .str key => (match getL b1.fs b1.ls key with | some _ => (h ρ b1).out fun d b2 => (match getL b2.fs b2.ls key with | some ds => if b2.fs = b1.fs ∧ ds.length < 100000 then .nx ρ { b2 with ls := appL b2.fs b2.ls key d } else .bad | none => .bad) | none => .bad) | _ => .bad) else .bad := by
  unfold kDApp
  split <;> rfl
@[simp] theorem ev_xCompE {vs : List Nat} {p : Pat} {ft : Fx Bool} {fe : Fx D} : xCompE fl vs p ft fe ρ b = (fl ρ b).bind fun ds b1 => if ds.length ≤ 100000 then compSE p ft fe (wipeE ρ vs) ds b1 else .bad := rfl
theorem compE_of {α : Type} {p : Pat} {fe : Fx D} {xs : List α} (g F : α → D) (h : ∀ x ∈ xs, ∃ ρ1, p (g x) ρ = some ρ1 ∧ fe ρ1 b = .ok (F x) b) : compSE p xYes fe ρ (xs.map g) b = .ok (xs.map F) b := by
  induction xs with
  | nil => rfl
  | cons x xs ih =>
    obtain ⟨ρ1, e1, e2⟩ := h x List.mem_cons_self
    simp only [List.map_cons, compSE, e1, xYes, e2, ih fun y hy => h y (List.mem_cons_of_mem _ hy), bind_ok]
theorem compE_exc {α : Type} {p : Pat} {fe : Fx D} {xs : List α} {y : D} {ys : List D} {x : Ex} (g F : α → D) (h : ∀ x ∈ xs, ∃ ρ1, p (g x) ρ = some ρ1 ∧ fe ρ1 b = .ok (F x) b) {ρ2 : En} (h1 : p y ρ = some ρ2) (h2 : fe ρ2 b = .exc x b) : compSE p xYes fe ρ (xs.map g ++ y :: ys) b = .exc x b := by
  induction xs with
  | nil => simp only [List.map_nil, List.nil_append, compSE, h1, xYes, h2]
  | cons x xs ih =>
    obtain ⟨ρ1, e1, e2⟩ := h x List.mem_cons_self
    simp only [List.map_cons, List.cons_append, compSE, e1, xYes, e2, ih fun y hy => h y (List.mem_cons_of_mem _ hy), bind_exc]
end
theorem sort_dock : inF true (.str "dock") (.tup [.str "dock", .str "way", .str "cart"]) = some (.bl false) := by rfl
theorem sort_way : inF true (.str "way") (.tup [.str "dock", .str "way", .str "cart"]) = some (.bl false) := by rfl
theorem sort_cart : inF true (.str "cart") (.tup [.str "dock", .str "way", .str "cart"]) = some (.bl false) := by rfl
theorem ix_dock : (["dock", "way", "cart"] : List Str).findIdx? (fun y => decide (y = ("dock" : Str))) = some 0 := by decide +kernel
theorem ix_way : (["dock", "way", "cart"] : List Str).findIdx? (fun y => decide (y = ("way" : Str))) = some 1 := by decide +kernel
theorem ix_cart : (["dock", "way", "cart"] : List Str).findIdx? (fun y => decide (y = ("cart" : Str))) = some 2 := by decide +kernel
@[simp] theorem nd1 : (("dock" : Str) = "way") = False := eq_false (by decide +kernel)
@[simp] theorem nd2 : (("dock" : Str) = "cart") = False := eq_false (by decide +kernel)
@[simp] theorem nd3 : (("way" : Str) = "cart") = False := eq_false (by decide +kernel)
@[simp] theorem nd4 : (("way" : Str) = "dock") = False := eq_false (by decide +kernel)
@[simp] theorem nd5 : (("cart" : Str) = "dock") = False := eq_false (by decide +kernel)
@[simp] theorem nd6 : (("cart" : Str) = "way") = False := eq_false (by decide +kernel)
def kinds : List Str := ["dock", "way", "cart"]
/-- the dict box's state -/
def bD (d w k : List D) : Bx := ⟨[], 0, ["dock", "way", "cart"], [], [], [d, w, k]⟩
theorem shaped_nil : SeqAt.shaped (.list []) = true := by decide
theorem sp_ne : ((" " : Str).length == 0) = false := by decide +kernel
/-- one row read -/
theorem row_step (c : Cs) {text : Sl} {ls : List Str} {j : Nat} {r : Row} (hr : ls[j]? = some (lineOf r)) (R : RowOk r) (hz : (lineOf r).length ≤ 1000) (hl : r.2.length ≤ 1000) {last kk : Nat} {d w : List D} {x5 x6 : Sl} {d' w' k' : List D} (hlast : last ≤ kk) (hd : d.length ≤ 1000)
    (h : (r.1 = "dock" ∧ kk = 0 ∧ r.2.length = 2 ∧ d' = d ++ [tupR r.2] ∧ w' = w ∧ k' = []) ∨ (r.1 = "way" ∧ kk = 1 ∧ r.2.length = d.length ∧ 1 ≤ r.2.length ∧ d' = d ∧ w' = w ++ [tupR r.2] ∧ k' = [] ∧ w.length ≤ 1000) ∨ (r.1 = "cart" ∧ kk = 2 ∧ r.2.length = 3 ∧ d' = d ∧ w' = w ∧ k' = [tupR r.2])) :
    ∃ x5' x6', fb1_read c [text, .val (.lst false (ls.map .str)), .val .dls, .val (.int last), .val (.int j), x5, x6] (bD d w []) = .nx [text, .val (.lst false (ls.map .str)), .val .dls, .val (.int kk), .val (.int j), x5', x6'] (bD d' w' k') := by
  have hj : j < ls.length := (List.getElem?_eq_some_iff.mp hr).1
  have hsp : splitD (lineOf r) (.str " ") = some ((wordsOf r).map .str) := by
    show (if _ then _ else _) = _
    rw [if_pos ⟨sp_ne, by omega⟩, split_line R]
  have fe : ∀ (a0 a1 a2 a3 a5 : Sl) (b : Bx), compSE (pName 6) xYes (el1_read c) [a0, a1, a2, a3, .val (.int j), a5, .no] ((r.2.map strI).map .str) b = .ok (r.2.map .int) b := fun a0 a1 a2 a3 a5 b => by
    rw [List.map_map]
    refine compE_of _ D.int fun x hx => ⟨_, rfl, ?_⟩
    simp [el1_read, number_ok c (R.num x hx)]
  refine ⟨.val (.lst false ((wordsOf r).map .str)), x6, ?_⟩
  obtain ⟨key, ns⟩ := r
  simp only at *
  simp only [wordsOf, List.map_cons, List.map_map] at hsp fe ⊢
  rcases h with ⟨rfl, rfl, h3, rfl, rfl, rfl⟩ | ⟨rfl, rfl, h3, h4, rfl, rfl, rfl, h5⟩ | ⟨rfl, rfl, h3, rfl, rfl, rfl⟩
  · have hl0 : last = 0 := by omega
    subst hl0
    simp [fb1_read, atI_nat, hr, hsp, sort_dock, ix_dock, isDls, bD, getL, toPys, shaped_nil, h3, cut1, fe, appL, tupR, show d.length < 100000 from by omega]
  · have hl0 : ¬ ((1 : Int) < last) := by omega
    have hl1 : ¬ ((d'.length : Int) + 1 < 2) := by omega
    simp [fb1_read, atI_nat, hr, hsp, sort_way, ix_way, isDls, bD, getL, toPys, shaped_nil, h3, cut1, fe, appL, tupR, hl0, hl1, show d'.length ≤ 100000 from by omega, show w.length < 100000 from by omega]
  · have hl0 : ¬ ((2 : Int) < last) := by omega
    simp [fb1_read, atI_nat, hr, hsp, sort_cart, ix_cart, isDls, bD, getL, toPys, shaped_nil, h3, cut1, fe, appL, tupR, hl0]
end Fw
set_option Elab.async false
set_option linter.all false
set_option maxRecDepth 100000
set_option maxHeartbeats 4000000
/-! T9: rows that are none. -/
namespace Fw
open PySem L2 TL Z0
def badR (c : Cs) (row : Int) : Ex := ⟨c.BadText, some (["row"], [.int row])⟩
/-- a word that writes no number -/
def NoNum (c : Cs) (w : Str) : Prop := ∀ (row : Int) (b : Bx), F_number_of c [.str w, .int row] b = .exc (badR c row) b
theorem no_len (c : Cs) {w : Str} {n : Nat} (hn : w.length = n) (h : n ≤ 100) (hb : n = 0 ∨ 2 < n) : NoNum c w := fun row b => by
  have hlen := len_str (x := w) (by omega)
  rw [hn] at hlen
  rcases hb with rfl | hb
  · simp [F_number_of, k_number_of, hlen, badR]
  · have n1 : ¬ ((n : Int) ≤ 2) := by omega
    have n0 : (1 : Int) ≤ n := by omega
    have n1' : ¬ (n ≤ 2) := by omega
    have n0' : 1 ≤ n := by omega
    simp [F_number_of, k_number_of, hlen, n0, n1, n1', n0', badR]
theorem no_zero (c : Cs) {w : Str} (hn : w.length = 2) (hi : idxD (.str w) (.int 0) = some (.str "0")) : NoNum c w := fun row b => by
  have hlen := len_str (x := w) (by omega)
  rw [hn] at hlen
  have hlen : lenD (.str w) = some (.int 2) := hlen
  have he : eqD false (.str "0") (.str "0") = some (.bl true) := by
    rw [eq_str false (by decide +kernel) (by decide +kernel)]
    simp
  simp [F_number_of, k_number_of, hlen, hi, he, badR]
theorem no_sign1 (c : Cs) {w : Str} {d : D} (hn : w.length = 1) (hc : chD w = [d]) (hs : inStr true d (.str "0123456789") = some (.bl true)) : NoNum c w := fun row b => by
  have hlen := len_str (x := w) (by omega)
  rw [hn] at hlen
  have hlen : lenD (.str w) = some (.int 1) := hlen
  simp [F_number_of, k_number_of, hlen, hc, forS_cons, fb1_number_of, hs, badR]
theorem no_sign2 (c : Cs) {w : Str} {d e : D} (hn : w.length = 2) (hc : chD w = [d, e]) (hi : idxD (.str w) (.int 0) = some d) (he : eqD false d (.str "0") = some (.bl false)) (hs : inStr true d (.str "0123456789") = some (.bl true)) : NoNum c w := fun row b => by
  have hlen := len_str (x := w) (by omega)
  rw [hn] at hlen
  have hlen : lenD (.str w) = some (.int 2) := hlen
  simp [F_number_of, k_number_of, hlen, hi, he, hc, forS_cons, fb1_number_of, hs, badR]
theorem in_no {w : Str} (h : (Builtin.Str.occurrences "0123456789" w 0 10 1).isEmpty = true) : inStr true (.str w) (.str "0123456789") = some (.bl true) := by
  simp [inStr, fig_len, h]
theorem no_01 (c : Cs) : NoNum c "01" := no_zero c (by decide +kernel) rfl
theorem no_100 (c : Cs) : NoNum c "100" := no_len c (n := 3) (by decide +kernel) (by decide) (by decide)
theorem no_001 (c : Cs) : NoNum c "001" := no_len c (n := 3) (by decide +kernel) (by decide) (by decide)
theorem no_nil (c : Cs) : NoNum c "" := no_len c (n := 0) (by decide +kernel) (by decide) (by decide)
theorem no_x (c : Cs) : NoNum c "x" := no_sign1 c (d := .str "x") (by decide +kernel) rfl (in_no (by decide +kernel))
theorem ne_minus : eqD false (.str "-") (.str "0") = some (.bl false) := by
  rw [eq_str false (by decide +kernel) (by decide +kernel), show (("-" : Str) == "0") = false from by decide +kernel] <;> rfl
theorem ne_plus : eqD false (.str "+") (.str "0") = some (.bl false) := by
  rw [eq_str false (by decide +kernel) (by decide +kernel), show (("+" : Str) == "0") = false from by decide +kernel] <;> rfl
theorem no_m1 (c : Cs) : NoNum c "-1" := no_sign2 c (d := .str "-") (e := .str "1") (by decide +kernel) rfl rfl ne_minus (in_no (by decide +kernel))
theorem no_p1 (c : Cs) : NoNum c "+1" := no_sign2 c (d := .str "+") (e := .str "1") (by decide +kernel) rfl rfl ne_plus (in_no (by decide +kernel))
theorem no_p0 (c : Cs) : NoNum c "+0" := no_sign2 c (d := .str "+") (e := .str "0") (by decide +kernel) rfl rfl ne_plus (in_no (by decide +kernel))
/-- good words, then one that is none -/
def NumBad (c : Cs) (ws : List Str) : Prop := ∃ (gs : List Int) (w : Str) (rest : List Str), ws = gs.map strI ++ w :: rest ∧ (∀ g ∈ gs, 0 ≤ g ∧ g ≤ 99) ∧ NoNum c w
/-- what the carts' list may hold -/
def K3 (k : List D) : Prop := k = [] ∨ (k.isEmpty = false ∧ ∃ ps, toPys k = some ps ∧ SeqAt.shaped (.list ps) = true)
theorem k3_cart (t : TD) : K3 [dCart t] := .inr ⟨rfl, _, rfl, by simp [SeqAt.shaped, PyData.canLay0, PyData.canLayAll0, PyData.depth, PyData.depthAll]⟩
/-- a row that is none, where it stands -/
def BadHere (c : Cs) (last : Nat) (d k : List D) (w0 : Str) (ws : List Str) : Prop :=
  inF true (.str w0) (.tup [.str "dock", .str "way", .str "cart"]) = some (.bl true) ∨
  (w0 = "dock" ∧ (0 < last ∨ k ≠ [] ∨ ws.length ≠ 2 ∨ NumBad c ws)) ∨
  (w0 = "way" ∧ (1 < last ∨ k ≠ [] ∨ ws.length = 0 ∨ ws.length ≠ d.length ∨ NumBad c ws)) ∨
  (w0 = "cart" ∧ (k ≠ [] ∨ ws.length ≠ 3 ∨ NumBad c ws))
theorem row_bad (c : Cs) {text : Sl} {ls : List Str} {j : Nat} {s w0 : Str} {ws : List Str} (hs : ls[j]? = some s) (hsp : splitD s (.str " ") = some ((w0 :: ws).map .str)) (hl : ws.length ≤ 1000) {last : Nat} {d w k : List D} (hk : K3 k) (hd : d.length ≤ 1000) (hla : last ≤ 2) (x5 x6 : Sl)
    (h : BadHere c last d k w0 ws) : fb1_read c [text, .val (.lst false (ls.map .str)), .val .dls, .val (.int last), .val (.int j), x5, x6] (bD d w k) = .exc (badR c j) (bD d w k) := by
  have hj : j < ls.length := (List.getElem?_eq_some_iff.mp hs).1
  have num : NumBad c ws → ∀ (a0 a1 a2 a3 a5 : Sl) (b : Bx), compSE (pName 6) xYes (el1_read c) [a0, a1, a2, a3, .val (.int j), a5, .no] (ws.map .str) b = .exc (badR c j) b := by
    rintro ⟨gs, w, rest, rfl, hg, hw⟩ a0 a1 a2 a3 a5 b
    rw [List.map_append, List.map_cons, List.map_map]
    refine compE_exc (x := badR c j) _ D.int (fun x hx => ⟨_, rfl, ?_⟩) rfl ?_
    · simp [el1_read, number_ok c (hg x hx)]
    · simp [el1_read, hw j b]
  simp only [List.map_cons] at hsp
  rcases h with h | ⟨rfl, h⟩ | ⟨rfl, h⟩ | ⟨rfl, h⟩
  · simp [fb1_read, atI_nat, hs, hsp, h, badR]
  · by_cases c1 : 0 < last
    · have c1' : (0 : Int) < last := by omega
      simp [fb1_read, atI_nat, hs, hsp, sort_dock, ix_dock, c1, c1', badR]
    · have l0 : last = 0 := by omega
      subst l0
      rcases hk with rfl | ⟨ke, ps, k1, k2⟩
      · by_cases c2 : ws.length = 2
        · have nb : NumBad c ws := by
            rcases h with h | h | h | h
            · omega
            · exact absurd rfl h
            · exact absurd c2 h
            · exact h
          have nn := num nb
          simp [fb1_read, atI_nat, hs, hsp, sort_dock, ix_dock, isDls, bD, getL, toPys, shaped_nil, c2, cut1, nn]
        · have c2' : ¬ ((ws.length : Int) + 1 = 3) := by omega
          by_cases c0 : ((ws.length : Int) + 1 < 2)
          · simp [fb1_read, atI_nat, hs, hsp, sort_dock, ix_dock, isDls, bD, getL, toPys, shaped_nil, c0, badR]
          · simp [fb1_read, atI_nat, hs, hsp, sort_dock, ix_dock, isDls, bD, getL, toPys, shaped_nil, c0, c2, c2', badR]
      · simp [fb1_read, atI_nat, hs, hsp, sort_dock, ix_dock, isDls, bD, getL, k1, k2, ke, badR]
  · by_cases c1 : 1 < last
    · have c1' : (1 : Int) < last := by omega
      simp [fb1_read, atI_nat, hs, hsp, sort_way, ix_way, c1, c1', badR]
    · have l0 : ¬ ((1 : Int) < last) := by omega
      rcases hk with rfl | ⟨ke, ps, k1, k2⟩
      · by_cases c0 : ws.length = 0
        · simp [fb1_read, atI_nat, hs, hsp, sort_way, ix_way, l0, isDls, bD, getL, toPys, shaped_nil, c0, badR]
        · have c0' : ¬ ((ws.length : Int) + 1 < 2) := by omega
          by_cases c2 : ws.length = d.length
          · have nb : NumBad c ws := by
              rcases h with h | h | h | h | h
              · omega
              · exact absurd rfl h
              · omega
              · omega
              · exact h
            have nn := num nb
            have c0'' : ¬ ((d.length : Int) + 1 < 2) := by omega
            simp [fb1_read, atI_nat, hs, hsp, sort_way, ix_way, l0, isDls, bD, getL, toPys, shaped_nil, c0, c0', c0'', c2, cut1, nn, show d.length ≤ 100000 from by omega]
          · have c2' : ¬ ((ws.length : Int) + 1 = d.length + 1) := by omega
            have c2'' : ¬ ((ws.length : Int) = d.length) := by omega
            simp [fb1_read, atI_nat, hs, hsp, sort_way, ix_way, l0, isDls, bD, getL, toPys, shaped_nil, c0, c0', c2, c2', c2'', badR]
      · simp [fb1_read, atI_nat, hs, hsp, sort_way, ix_way, l0, isDls, bD, getL, k1, k2, ke, badR]
  · have l0 : ¬ ((2 : Int) < last) := by omega
    rcases hk with rfl | ⟨ke, ps, k1, k2⟩
    · by_cases c2 : ws.length = 3
      · have nb : NumBad c ws := by
          rcases h with h | h | h
          · exact absurd rfl h
          · exact absurd c2 h
          · exact h
        have nn := num nb
        simp [fb1_read, atI_nat, hs, hsp, sort_cart, ix_cart, l0, isDls, bD, getL, toPys, shaped_nil, c2, cut1, nn]
      · have c2' : ¬ ((ws.length : Int) + 1 = 4) := by omega
        by_cases c0 : ((ws.length : Int) + 1 < 2)
        · simp [fb1_read, atI_nat, hs, hsp, sort_cart, ix_cart, l0, isDls, bD, getL, toPys, shaped_nil, c0, badR]
        · simp [fb1_read, atI_nat, hs, hsp, sort_cart, ix_cart, l0, isDls, bD, getL, toPys, shaped_nil, c0, c2, c2', badR]
    · simp [fb1_read, atI_nat, hs, hsp, sort_cart, ix_cart, l0, isDls, bD, getL, k1, k2, ke, badR]
end Fw
set_option Elab.async false
set_option linter.all false
set_option maxRecDepth 100000
set_option maxHeartbeats 4000000
/-! T10: texts read, up to a row that is none. -/
namespace Fw
open PySem L2 TL Z0
theorem ev_xUnDE {i : Nat} {f : Fx D} {ρ : En} {b : Bx} : xUnDE i f ρ b = if isDls ρ i = true ∧ cleanL (b.ls.map (.lst true)) = true then (match f ((ρ.map fun _ => Sl.no).set i (.val (.dct b.fs (b.ls.map (.lst true))))) bx0 with
  | .ok d _ => if pureD d = true then .ok d b else .bad
  | .exc x _ => if pureEx x = true then .exc x b else .bad
  | _ => .bad) else .bad := rfl
@[simp] theorem ev_xDct {f : Fx D} {key : Str} {ρ : En} {b : Bx} : xDct f key ρ b = (f ρ b).bind fun x b1 => lift (dctD key x) b1 := rfl
@[simp] theorem ev_dctD {key : Str} {fs : List Str} {xs : List D} : dctD key (.dct fs xs) = fldD fs xs key := rfl
@[simp] theorem ev_kDlsE {i : Nat} {ks : List Str} {kk : Fs} {ρ : En} {b : Bx} : kDlsE i ks kk ρ b = outBackE b (kk ((cleanE ρ).set i (.val .dls)) (b3 ks)) := rfl
@[simp] theorem ev_outBackE {x : Ex} {b b2 : Bx} : outBackE b (.exc x b2) = if cleanEx x = true then .exc x b else .bad := rfl
theorem cleanL_strs (ns : List Str) : cleanL (ns.map D.str) = true := cleanL_map fun _ => rfl
theorem rows_len (t : TD) : (rowsOf t).length = t.docks.length + t.ways.length + 1 := by simp [rowsOf]; omega
theorem rows_dock {t : TD} {j : Nat} (h : j < t.docks.length) : (rowsOf t)[j]? = some (("dock" : Str), [t.docks[j].1, t.docks[j].2]) := by
  unfold rowsOf
  rw [List.getElem?_append_left (by simp; omega), List.getElem?_append_left (by simpa using h)]
  simp [h]
theorem rows_way {t : TD} {j : Nat} (h : j < t.ways.length) : (rowsOf t)[t.docks.length + j]? = some (("way" : Str), t.ways[j]) := by
  unfold rowsOf
  rw [List.getElem?_append_left (by simp; omega), List.getElem?_append_right (by simp)]
  simp [h]
theorem rows_cart (t : TD) : (rowsOf t)[t.docks.length + t.ways.length]? = some (("cart" : Str), [t.place, t.room, t.load]) := by
  unfold rowsOf
  rw [List.getElem?_append_right (by simp)]
  simp
theorem take_next {α : Type} {xs : List α} {j : Nat} (h : j < xs.length) : xs.take (j + 1) = xs.take j ++ [xs[j]] := by
  rw [List.take_succ, List.getElem?_eq_getElem h]; rfl
theorem loop_ex {ds : List D} (I : Nat → En → Bx → Prop) (E : Out → Prop)
    (h : ∀ j d ρ b, ds[j]? = some d → I j ρ b → ∃ ρ1, p d ρ = some ρ1 ∧ ((∃ ρ2 b2, k ρ1 b = .nx ρ2 b2 ∧ I (j + 1) ρ2 b2) ∨ (∃ d b2, k ρ1 b = .rt d b2 ∧ E (.rt d b2)) ∨ (∃ x b2, k ρ1 b = .exc x b2 ∧ E (.exc x b2)))) (h0 : I 0 ρ b) :
    (∃ ρ' b', forS p k ds ρ b = .nx ρ' b' ∧ I ds.length ρ' b') ∨ (∃ d b2, forS p k ds ρ b = .rt d b2 ∧ E (.rt d b2)) ∨ (∃ x b2, forS p k ds ρ b = .exc x b2 ∧ E (.exc x b2)) := by
  have key : ∀ (n : Nat) (es : List D) (ρ : En) (b : Bx), (∀ j, es[j]? = ds[n + j]?) → I n ρ b → (∃ ρ' b', forS p k es ρ b = .nx ρ' b' ∧ I (n + es.length) ρ' b') ∨ (∃ d b2, forS p k es ρ b = .rt d b2 ∧ E (.rt d b2)) ∨ (∃ x b2, forS p k es ρ b = .exc x b2 ∧ E (.exc x b2)) := by
    intro n es
    induction es generalizing n with
    | nil => intro ρ b _ hi; exact .inl ⟨ρ, b, by simp, by simpa using hi⟩
    | cons e es ih =>
      intro ρ b he hi
      obtain ⟨ρ1, e1, q⟩ := h n e ρ b (by have := he 0; simpa using this.symm) hi
      rcases q with ⟨ρ2, b2, e2, hi2⟩ | ⟨d, b2, e2, hE⟩ | ⟨x, b2, e2, hE⟩
      · rcases ih (n + 1) ρ2 b2 (fun j => by have := he (j + 1); rw [show n + 1 + j = n + (j + 1) from by omega]; simpa using this) hi2 with ⟨ρ', b', e3, hi3⟩ | ⟨d, b', e3, hE⟩ | ⟨x, b', e3, hE⟩
        · refine .inl ⟨ρ', b', ?_, by rw [List.length_cons, show n + (es.length + 1) = n + 1 + es.length from by omega]; exact hi3⟩
          rw [forS_cons, e1]; simp only [e2]; exact e3
        · refine .inr (.inl ⟨d, b', ?_, hE⟩)
          rw [forS_cons, e1]; simp only [e2]; exact e3
        · refine .inr (.inr ⟨x, b', ?_, hE⟩)
          rw [forS_cons, e1]; simp only [e2]; exact e3
      · refine .inr (.inl ⟨d, b2, ?_, hE⟩)
        rw [forS_cons, e1]; simp only [e2]
      · refine .inr (.inr ⟨x, b2, ?_, hE⟩)
        rw [forS_cons, e1]; simp only [e2]
  simpa using key 0 ds ρ b (fun j => by rw [Nat.zero_add]) h0
/-- behind j good rows -/
def AtR (t : TD) (j last : Nat) (d w k : List D) : Prop :=
  (j ≤ t.docks.length ∧ last = 0 ∧ d = (t.docks.map dPair).take j ∧ w = [] ∧ k = []) ∨
  (t.docks.length < j ∧ j ≤ t.docks.length + t.ways.length ∧ last = 1 ∧ d = t.docks.map dPair ∧ w = (t.ways.map tupR).take (j - t.docks.length) ∧ k = []) ∨
  (j = t.docks.length + t.ways.length + 1 ∧ last = 2 ∧ d = t.docks.map dPair ∧ w = t.ways.map tupR ∧ k = [dCart t])
theorem AtR.k3 {t : TD} {j last : Nat} {d w k : List D} (h : AtR t j last d w k) : K3 k := by
  rcases h with ⟨_, _, _, _, rfl⟩ | ⟨_, _, _, _, _, rfl⟩ | ⟨_, _, _, _, rfl⟩
  · exact .inl rfl
  · exact .inl rfl
  · exact k3_cart t
theorem AtR.la {t : TD} {j last : Nat} {d w k : List D} (h : AtR t j last d w k) : last ≤ 2 := by
  rcases h with ⟨_, rfl, _⟩ | ⟨_, _, rfl, _⟩ | ⟨_, rfl, _⟩ <;> omega
theorem AtR.dl {t : TD} (T : OkX t) {j last : Nat} {d w k : List D} (h : AtR t j last d w k) : d.length ≤ 1000 := by
  have := T.n5
  rcases h with ⟨_, _, rfl, _⟩ | ⟨_, _, _, rfl, _⟩ | ⟨_, _, rfl, _⟩ <;> simp <;> omega
theorem good_row (c : Cs) {t : TD} (T : OkX t) {L : List Str} {j : Nat} (hj : j < (rowsOf t).length) (hL : L[j]? = ((rowsOf t).map lineOf)[j]?) {text x5 x6 : Sl} {last : Nat} {d w k : List D} (h : AtR t j last d w k) :
    ∃ x5' x6' last' d' w' k', fb1_read c [text, .val (.lst false (L.map .str)), .val .dls, .val (.int last), .val (.int j), x5, x6] (bD d w k) = .nx [text, .val (.lst false (L.map .str)), .val .dls, .val (.int (last' : Nat)), .val (.int j), x5', x6'] (bD d' w' k') ∧ AtR t (j + 1) last' d' w' k' := by
  have h4 := T.n5
  have hwl := T.w5
  rw [rows_len] at hj
  have lz : ∀ {r : Row}, r ∈ rowsOf t → (lineOf r).length ≤ 1000 := fun {r} hr => Nat.le_trans (line_len T _ (by rw [lines_eq T]; exact List.mem_map.mpr ⟨r, hr, rfl⟩)) (by decide)
  by_cases c1 : j < t.docks.length
  · have hr := rows_dock c1
    have hm := List.mem_of_getElem? hr
    obtain ⟨rfl, rfl, rfl, rfl⟩ : last = 0 ∧ d = (t.docks.map dPair).take j ∧ w = [] ∧ k = [] := by
      rcases h with ⟨q1, q2, q3, q4, q5⟩ | ⟨q1, _⟩ | ⟨q1, _⟩
      · exact ⟨q2, q3, q4, q5⟩
      · omega
      · omega
    obtain ⟨x5', x6', e⟩ := row_step c (text := text) (ls := L) (j := j) (r := (("dock" : Str), [t.docks[j].1, t.docks[j].2])) (by rw [hL, List.getElem?_map, hr]; rfl) (rows_okT T _ hm) (lz hm) (by simp) (last := 0) (kk := 0) (d := (t.docks.map dPair).take j) (w := []) (x5 := x5) (x6 := x6)
      (d' := (t.docks.map dPair).take (j + 1)) (w' := []) (k' := []) (Nat.le_refl _) (by simp; omega) (.inl ⟨rfl, rfl, rfl, by rw [take_next (by simpa using c1)]; simp [tupR, dPair], rfl, rfl⟩)
    exact ⟨_, _, 0, _, _, _, e, .inl ⟨by omega, rfl, rfl, rfl, rfl⟩⟩
  · by_cases c2 : j < t.docks.length + t.ways.length
    · obtain ⟨i, rfl⟩ : ∃ i, j = t.docks.length + i := ⟨j - t.docks.length, by omega⟩
      have hi : i < t.ways.length := by omega
      have hr := rows_way hi
      have hm := List.mem_of_getElem? hr
      have hw := T.wr _ (List.getElem_mem hi)
      obtain ⟨hla, rfl, rfl, rfl⟩ : last ≤ 1 ∧ d = t.docks.map dPair ∧ w = (t.ways.map tupR).take i ∧ k = [] := by
        rcases h with ⟨q1, q2, q3, q4, q5⟩ | ⟨q1, q0, q2, q3, q4, q5⟩ | ⟨q1, _⟩
        · have h0 : i = 0 := by omega
          subst h0
          exact ⟨by omega, by rw [q3, List.take_of_length_le (by simp)], q4, q5⟩
        · exact ⟨by omega, q3, by rw [q4, show t.docks.length + i - t.docks.length = i from by omega], q5⟩
        · omega
      obtain ⟨x5', x6', e⟩ := row_step c (text := text) (ls := L) (j := t.docks.length + i) (r := (("way" : Str), t.ways[i])) (by rw [hL, List.getElem?_map, hr]; rfl) (rows_okT T _ hm) (lz hm) (by show t.ways[i].length ≤ 1000; omega) (last := last) (kk := 1) (d := t.docks.map dPair) (w := (t.ways.map tupR).take i) (x5 := x5) (x6 := x6)
        (d' := t.docks.map dPair) (w' := (t.ways.map tupR).take (i + 1)) (k' := []) hla (by simp; omega) (.inr (.inl ⟨rfl, rfl, by simpa using hw.2.1, hw.2.2, rfl, by rw [take_next (by simpa using hi)]; simp, rfl, by simp; omega⟩))
      exact ⟨_, _, 1, _, _, _, e, .inr (.inl ⟨by omega, by omega, rfl, rfl, by rw [show t.docks.length + i + 1 - t.docks.length = i + 1 from by omega], rfl⟩)⟩
    · have hj2 : j = t.docks.length + t.ways.length := by omega
      subst hj2
      have hr := rows_cart t
      have hm := List.mem_of_getElem? hr
      obtain ⟨hla, rfl, rfl, rfl⟩ : last ≤ 1 ∧ d = t.docks.map dPair ∧ w = t.ways.map tupR ∧ k = [] := by
        rcases h with ⟨q1, q2, q3, q4, q5⟩ | ⟨q1, q0, q2, q3, q4, q5⟩ | ⟨q1, _⟩
        · have h0 : t.ways.length = 0 := by omega
          have h1 : t.ways = [] := List.length_eq_zero_iff.mp h0
          exact ⟨by omega, by rw [q3, List.take_of_length_le (by simp)], by rw [q4, h1]; rfl, q5⟩
        · exact ⟨by omega, q3, by rw [q4, List.take_of_length_le (by simp)], q5⟩
        · omega
      obtain ⟨x5', x6', e⟩ := row_step c (text := text) (ls := L) (j := t.docks.length + t.ways.length) (r := (("cart" : Str), [t.place, t.room, t.load])) (by rw [hL, List.getElem?_map, hr]; rfl) (rows_okT T _ hm) (lz hm) (by simp) (last := last) (kk := 2) (d := t.docks.map dPair) (w := t.ways.map tupR) (x5 := x5) (x6 := x6)
        (d' := t.docks.map dPair) (w' := t.ways.map tupR) (k' := [dCart t]) (by omega) (by simp; omega) (.inr (.inr ⟨rfl, rfl, rfl, rfl, rfl, rfl⟩))
      exact ⟨_, _, 2, _, _, _, e, .inr (.inr ⟨rfl, rfl, rfl, rfl, rfl⟩)⟩
theorem read_pre (c : Cs) {t : TD} (T : OkX t) {L : List Str} {n : Nat} (hn : n ≤ (rowsOf t).length) (hl : n ≤ L.length) (hL : ∀ j, j < n → L[j]? = ((rowsOf t).map lineOf)[j]?) {text : Sl}
    (bad : n < L.length → ∀ (last : Nat) (d w k : List D) (x5 x6 : Sl), AtR t n last d w k → fb1_read c [text, .val (.lst false (L.map .str)), .val .dls, .val (.int last), .val (.int n), x5, x6] (bD d w k) = .exc (badR c n) (bD d w k)) :
    (n < L.length ∧ ∃ b1, forS (pName 4) (fb1_read c) (rngD 0 L.length) [text, .val (.lst false (L.map .str)), .val .dls, .val (.int 0), .no, .no, .no] (bD [] [] []) = .exc (badR c n) b1) ∨
    (n = L.length ∧ ∃ (last : Nat) (d w k : List D) (x4 x5 x6 : Sl), AtR t n last d w k ∧ forS (pName 4) (fb1_read c) (rngD 0 L.length) [text, .val (.lst false (L.map .str)), .val .dls, .val (.int 0), .no, .no, .no] (bD [] [] []) = .nx [text, .val (.lst false (L.map .str)), .val .dls, .val (.int last), x4, x5, x6] (bD d w k)) := by
  have Q := loop_ex (p := pName 4) (k := fb1_read c) (ds := rngD 0 L.length) (b := bD [] [] []) (ρ := [text, .val (.lst false (L.map .str)), .val .dls, .val (.int 0), .no, .no, .no])
    (fun j ρ b => j ≤ n ∧ ∃ (last : Nat) (d w k : List D) (x4 x5 x6 : Sl), ρ = [text, .val (.lst false (L.map .str)), .val .dls, .val (.int last), x4, x5, x6] ∧ b = bD d w k ∧ AtR t j last d w k)
    (fun o => n < L.length ∧ ∃ b1, o = .exc (badR c n) b1)
    (by
      rintro j dd ρ b hd ⟨hjn, last, d, w, k, x4, x5, x6, rfl, rfl, hA⟩
      obtain ⟨rfl, hj⟩ := rngD_get hd
      refine ⟨_, rfl, ?_⟩
      by_cases hlt : j < n
      · obtain ⟨x5', x6', last', d', w', k', e, hA'⟩ := good_row c T (j := j) (by omega) (hL j hlt) (text := text) (x5 := x5) (x6 := x6) hA
        exact .inl ⟨_, _, e, hlt, last', d', w', k', _, _, _, rfl, rfl, hA'⟩
      · have e : j = n := by omega
        subst e
        exact .inr (.inr ⟨_, _, bad hj last d w k x5 x6 hA, hj, _, rfl⟩))
    ⟨Nat.zero_le _, 0, [], [], [], .no, .no, .no, rfl, rfl, .inl ⟨Nat.zero_le _, rfl, by simp, rfl, rfl⟩⟩
  rcases Q with ⟨ρ', b', e, hln, last, d, w, k, x4, x5, x6, rfl, rfl, hA⟩ | ⟨d, b2, e, _, b1, hc⟩ | ⟨x, b2, e, hlt, b1, hc⟩
  · rw [rngD_len] at hln hA
    have hnl : n = L.length := by omega
    rw [← hnl] at hA
    exact .inr ⟨hnl, last, d, w, k, x4, x5, x6, hA, e⟩
  · cases hc
  · cases hc
    exact .inl ⟨hlt, _, e⟩
theorem nl_ne : (("\n" : Str).length == 0) = false := by decide +kernel
structure TextOf (x : Str) (L : List Str) : Prop where
  sp : splitD x (.str "\n") = some (L.map .str)
  z : L.length ≤ 1000
theorem read_bad (c : Cs) {t : TD} (T : OkX t) {x : Str} {L : List Str} (X : TextOf x L) {n : Nat} (hn : n ≤ (rowsOf t).length) (hl : n < L.length) (hL : ∀ j, j < n → L[j]? = ((rowsOf t).map lineOf)[j]?)
    (bad : ∀ (last : Nat) (d w k : List D) (x5 x6 : Sl), AtR t n last d w k → fb1_read c [.val (.str x), .val (.lst false (L.map .str)), .val .dls, .val (.int last), .val (.int n), x5, x6] (bD d w k) = .exc (badR c n) (bD d w k)) (b : Bx) : F_read c [.str x] b = .exc (badR c n) b := by
  have hz := X.z
  have q1 : (L.length : Int) ≤ 100000 := by omega
  have q2 : (-100000 : Int) ≤ (L.length : Int) := by omega
  have cs := cleanL_strs L
  have sp := X.sp
  have ce : cleanEx (badR c n) = true := rfl
  rcases read_pre c T hn (by omega) hL (text := .val (.str x)) (fun _ => bad) with ⟨_, b1, e⟩ | ⟨h, _⟩
  · have ll : (L.map D.str).length = L.length := List.length_map ..
    generalize L.map D.str = LD at *
    simp only [bD] at e
    simp [F_read, k_read, sp, cleanE, cleanS, clean, cs, b3, ll, q1, q2, e, ce]
  · omega
theorem read_nocart (c : Cs) {t : TD} (T : OkX t) {x : Str} {L : List Str} (X : TextOf x L) (hl : L.length ≤ t.docks.length + t.ways.length) (hL : ∀ j, j < L.length → L[j]? = ((rowsOf t).map lineOf)[j]?) (b : Bx) : F_read c [.str x] b = .exc (badR c L.length) b := by
  have hz := X.z
  have q1 : (L.length : Int) ≤ 100000 := by omega
  have q2 : (-100000 : Int) ≤ (L.length : Int) := by omega
  have cs := cleanL_strs L
  have sp := X.sp
  rcases read_pre c T (n := L.length) (by rw [rows_len]; omega) (Nat.le_refl _) hL (text := .val (.str x)) (fun h => absurd h (Nat.lt_irrefl _)) with ⟨h, _⟩ | ⟨_, last, d, w, k, x4, x5, x6, hA, e⟩
  · exact absurd h (Nat.lt_irrefl _)
  · have hk : k = [] := by
      rcases hA with ⟨_, _, _, _, q⟩ | ⟨_, _, _, _, _, q⟩ | ⟨q, _⟩
      · exact q
      · exact q
      · omega
    subst hk
    have ce : cleanEx (badR c L.length) = true := rfl
    have ll : (L.map D.str).length = L.length := List.length_map ..
    generalize L.map D.str = LD at *
    simp only [bD] at e
    simp [F_read, k_read, sp, cleanE, cleanS, clean, cs, b3, ll, q1, q2, e, isDls, getL, toPys, shaped_nil, cleanEx, cleanL, badR]
theorem read_town (c : Cs) {t : TD} (T : OkX t) {x : Str} {L : List Str} (X : TextOf x L) (hl : L.length = t.docks.length + t.ways.length + 1) (hL : ∀ j, j < L.length → L[j]? = ((rowsOf t).map lineOf)[j]?) {w0 : Str} {m : Int} (hi : F_Town_init c (inA c true false false t.docks t.ways t.place t.room t.load) bx0 = .exc (badT c.BadTown w0 m) bx0) (b : Bx) : F_read c [.str x] b = .exc (badT c.BadTown w0 m) b := by
  have hz := X.z
  have q1 : (L.length : Int) ≤ 100000 := by omega
  have q2 : (-100000 : Int) ≤ (L.length : Int) := by omega
  have cs := cleanL_strs L
  have sp := X.sp
  rcases read_pre c T (n := L.length) (by rw [rows_len]; omega) (Nat.le_refl _) hL (text := .val (.str x)) (fun h => absurd h (Nat.lt_irrefl _)) with ⟨h, _⟩ | ⟨_, last, d, w, k, x4, x5, x6, hA, e⟩
  · exact absurd h (Nat.lt_irrefl _)
  · obtain ⟨rfl, rfl, rfl⟩ : d = t.docks.map dPair ∧ w = t.ways.map tupR ∧ k = [dCart t] := by
      rcases hA with ⟨q, _⟩ | ⟨_, q, _⟩ | ⟨_, _, q3, q4, q5⟩
      · omega
      · omega
      · exact ⟨q3, q4, q5⟩
    have c1 : cleanL (t.docks.map dPair) = true := cleanL_map fun _ => rfl
    have c2 : cleanL (t.ways.map fun r => D.lst false (r.map .int)) = true := cleanL_map fun r => by simp [clean]
    have c5 : cleanL (t.ways.map tupR) = true := cleanL_map fun r => by simp [tupR, clean]
    have cd : clean (dCart t) = true := rfl
    have hw5 := T.w5
    have hw : t.ways.length ≤ 100000 := by omega
    have fw : ∀ (a0 a1 a2 a3 a5 a6 : Sl) (b : Bx), compS (pName 4) xYes (el2_read c) [a0, a1, a2, a3, .no, a5, a6] (t.ways.map tupR) b = .ok (t.ways.map fun r => D.lst false (r.map .int)) b := fun a0 a1 a2 a3 a5 a6 b => comp_of tupR (fun r => D.lst false (r.map .int)) fun r _ => ⟨_, rfl, by simp [el2_read, tupR]⟩
    obtain ⟨ps, hp1, hp2⟩ : ∃ ps, toPys [dCart t] = some ps ∧ SeqAt.shaped (.list ps) = true := ⟨_, rfl, by simp [SeqAt.shaped, PyData.canLay0, PyData.canLayAll0, PyData.depth, PyData.depthAll]⟩
    have ll : (L.map D.str).length = L.length := List.length_map ..
    have lw : (t.ways.map tupR).length = t.ways.length := List.length_map ..
    have hi : F_Town_init c [.slf c.Town, .lst true (t.docks.map dPair), .lst false (t.ways.map fun r => D.lst false (r.map .int)), dCart t] bx0 = .exc (badT c.BadTown w0 m) bx0 := hi
    have hi : F_Town_init c [.slf c.Town, .lst true (t.docks.map dPair), .lst false (t.ways.map fun r => D.lst false (r.map .int)), dCart t] { bx0 with fs := [], ds := [] } = .exc (badT c.BadTown w0 m) { bx0 with fs := [], ds := [] } := hi
    generalize (t.ways.map fun r => D.lst false (r.map .int)) = WD at *
    generalize t.ways.map tupR = WT at *
    generalize t.docks.map dPair = DD at *
    generalize dCart t = CT at *
    generalize L.map D.str = LD at *
    simp only [bD] at e
    have bf : (badT c.BadTown w0 m).fs = some ((["number", "word"] : List Str), [D.int m, D.str w0]) := rfl
    have cb : cleanL [D.int m, D.str w0] = true := rfl
    have pe : pureEx (badT c.BadTown w0 m) = true := rfl
    have ce : cleanEx (badT c.BadTown w0 m) = true := rfl
    simp only [bx0] at hi
    simp [F_read, k_read, sp, cleanE, cleanS, clean, cs, b3, ll, q1, q2, e, isDls, getL, hp1, hp2, ev_xUnDE, cleanL, c1, c2, c5, cd, lw, hw, fw, bx0, hi, mkRX, bf, cb, pe, ce]
end Fw
set_option Elab.async false
set_option linter.all false
set_option maxRecDepth 100000
set_option maxHeartbeats 4000000
/-! T11: the thirty that are none; what refused tells. -/
namespace Fw
open PySem L2 TL Z0
/-! ### x == x -/
mutual
theorem lay_of : ∀ (m : Nat) (d : D), okA m d = true → ∃ p, toPy d = some p ∧ p.canLay0 = true ∧ p.depth ≤ m
  | 0, _, h => nomatch h
  | m + 1, .non, _ => ⟨.none, rfl, rfl, Nat.zero_le _⟩
  | m + 1, .bl b, _ => ⟨.bool b, rfl, rfl, Nat.zero_le _⟩
  | m + 1, .int i, _ => ⟨.int i, rfl, rfl, Nat.zero_le _⟩
  | m + 1, .str x, h => ⟨.str x, rfl, h, Nat.zero_le _⟩
  | m + 1, .tup xs, h => by
    have h : (decide (xs.length ≤ 100000) && xs.all (okA m)) = true := h
    obtain ⟨ps, e, l, d⟩ := lays_of m xs (Bool.and_eq_true_iff.mp h).2
    exact ⟨.tuple ps, by show (toPys xs).map PyData.tuple = _; rw [e]; rfl, l, by show PyData.depthAll ps + 1 ≤ _; omega⟩
  | m + 1, .lst _ xs, h => by
    have h : (decide (xs.length ≤ 100000) && xs.all (okA m)) = true := h
    obtain ⟨ps, e, l, d⟩ := lays_of m xs (Bool.and_eq_true_iff.mp h).2
    exact ⟨.list ps, by show (toPys xs).map PyData.list = _; rw [e]; rfl, l, by show PyData.depthAll ps + 1 ≤ _; omega⟩
theorem lays_of : ∀ (m : Nat) (ds : List D), ds.all (okA m) = true → ∃ ps, toPys ds = some ps ∧ PyData.canLayAll0 ps = true ∧ PyData.depthAll ps ≤ m
  | m, [], _ => ⟨[], rfl, rfl, Nat.zero_le _⟩
  | m, d :: ds, h => by
    rw [List.all_cons, Bool.and_eq_true] at h
    obtain ⟨p, e1, l1, d1⟩ := lay_of m d h.1
    obtain ⟨ps, e2, l2, d2⟩ := lays_of m ds h.2
    refine ⟨p :: ps, by show ((toPy d).bind fun x => (toPys ds).map fun xs => x :: xs) = _; rw [e1, e2]; rfl, ?_, ?_⟩
    · show (p.canLay0 && PyData.canLayAll0 ps) = true
      rw [l1, l2]; rfl
    · show max p.depth (PyData.depthAll ps) ≤ m
      omega
end
theorem eqD_refl {m : Nat} (hm : m ≤ 60) {d : D} (h : okA m d = true) (neg : Bool) : eqD neg d d = some (.bl (!neg)) := by
  obtain ⟨p, e, l, dp⟩ := lay_of m d h
  have s : SeqAt.shaped p = true := by
    unfold SeqAt.shaped
    rw [l, Bool.true_and, decide_eq_true_eq]; omega
  unfold eqD
  rw [e]
  simp only [s, and_self, if_true, PySem.SeqAt.eqv_refl p l]
  cases neg <;> rfl
theorem mul_single (x : D) (n : Nat) (h : n ≤ 1000) : mulD (.lst false [x]) (.int n) = some (.lst false (List.replicate n x)) := by
  show (if (0 : Int) ≤ n ∧ (n : Int) ≤ 1000 then lim (1 * (n : Int).toNat) (D.lst false (List.replicate (n : Int).toNat [x]).flatten) else none) = _
  rw [if_pos ⟨by omega, by omega⟩, Int.toNat_natCast, List.flatten_replicate_singleton]
  unfold lim
  rw [if_pos (by omega)]
/-- a row that is none, wherever it stands -/
structure Odd (c : Cs) (s : Str) : Prop where
  ex : ∃ (w0 : Str) (ws : List Str), Txt.split s " " = w0 :: ws ∧ ws.length ≤ 1000 ∧ ∀ (last : Nat) (d k : List D), BadHere c last d k w0 ws
  nl : 10 ∉ tl s
  z : s.length ≤ 110
theorem odd_of {c : Cs} {s w0 : Str} {ws : List Str} (h : Txt.split s " " = w0 :: ws) (hz : s.length ≤ 110) (hl : ws.length ≤ 1000) (hn : 10 ∉ tl s) (hb : ∀ (last : Nat) (d k : List D), BadHere c last d k w0 ws) : Odd c s := ⟨⟨w0, ws, h, hl, hb⟩, hn, hz⟩
theorem split_sp {s : Str} {ws : List Str} (h : Txt.split s " " = ws) (hz : s.length ≤ 1000) : splitD s (.str " ") = some (ws.map .str) := by
  show (if _ then _ else _) = _
  rw [if_pos ⟨sp_ne, by omega⟩, h]
def thirty : List Str := ["", " ", "dock", "dock 1", "dock 1 1 1", "dock 1 01", "dock 1 -1", "dock 1 100", "dock 1 x", "dock  1 1", "dock 1 1 ", " dock 1 1", "Dock 1 1", "docks 1 1", "way x", "way -1 0", "way 100 0", "way", "cart", "cart 0 1", "cart 0 1 1 1", "cart 0 1 x", "cart 0 1 001", "Cart 0 1 1", "0 1 1", "bike 1 1", "dock 1 +1", "way +0", "cart 0 1 +1", "dock +1 0"]
theorem odd_0 (c : Cs) : Odd c "" := odd_of (w0 := "") (ws := []) (by decide +kernel) (by decide +kernel) (by decide) (by decide +kernel) fun _ _ _ => .inl (by rfl)
theorem odd_1 (c : Cs) : Odd c " " := odd_of (w0 := "") (ws := [""]) (by decide +kernel) (by decide +kernel) (by decide) (by decide +kernel) fun _ _ _ => .inl (by rfl)
theorem odd_2 (c : Cs) : Odd c "dock" := odd_of (w0 := "dock") (ws := []) (by decide +kernel) (by decide +kernel) (by decide) (by decide +kernel) fun _ _ _ => .inr (.inl ⟨rfl, .inr (.inr (.inl (by decide)))⟩)
theorem odd_3 (c : Cs) : Odd c "dock 1" := odd_of (w0 := "dock") (ws := ["1"]) (by decide +kernel) (by decide +kernel) (by decide) (by decide +kernel) fun _ _ _ => .inr (.inl ⟨rfl, .inr (.inr (.inl (by decide)))⟩)
theorem odd_4 (c : Cs) : Odd c "dock 1 1 1" := odd_of (w0 := "dock") (ws := ["1", "1", "1"]) (by decide +kernel) (by decide +kernel) (by decide) (by decide +kernel) fun _ _ _ => .inr (.inl ⟨rfl, .inr (.inr (.inl (by decide)))⟩)
theorem odd_5 (c : Cs) : Odd c "dock 1 01" := odd_of (w0 := "dock") (ws := ["1", "01"]) (by decide +kernel) (by decide +kernel) (by decide) (by decide +kernel) fun _ _ _ => .inr (.inl ⟨rfl, .inr (.inr (.inr ⟨[1], "01", [], by decide +kernel, by decide, no_01 c⟩))⟩)
theorem odd_6 (c : Cs) : Odd c "dock 1 -1" := odd_of (w0 := "dock") (ws := ["1", "-1"]) (by decide +kernel) (by decide +kernel) (by decide) (by decide +kernel) fun _ _ _ => .inr (.inl ⟨rfl, .inr (.inr (.inr ⟨[1], "-1", [], by decide +kernel, by decide, no_m1 c⟩))⟩)
theorem odd_7 (c : Cs) : Odd c "dock 1 100" := odd_of (w0 := "dock") (ws := ["1", "100"]) (by decide +kernel) (by decide +kernel) (by decide) (by decide +kernel) fun _ _ _ => .inr (.inl ⟨rfl, .inr (.inr (.inr ⟨[1], "100", [], by decide +kernel, by decide, no_100 c⟩))⟩)
theorem odd_8 (c : Cs) : Odd c "dock 1 x" := odd_of (w0 := "dock") (ws := ["1", "x"]) (by decide +kernel) (by decide +kernel) (by decide) (by decide +kernel) fun _ _ _ => .inr (.inl ⟨rfl, .inr (.inr (.inr ⟨[1], "x", [], by decide +kernel, by decide, no_x c⟩))⟩)
theorem odd_9 (c : Cs) : Odd c "dock  1 1" := odd_of (w0 := "dock") (ws := ["", "1", "1"]) (by decide +kernel) (by decide +kernel) (by decide) (by decide +kernel) fun _ _ _ => .inr (.inl ⟨rfl, .inr (.inr (.inl (by decide)))⟩)
theorem odd_10 (c : Cs) : Odd c "dock 1 1 " := odd_of (w0 := "dock") (ws := ["1", "1", ""]) (by decide +kernel) (by decide +kernel) (by decide) (by decide +kernel) fun _ _ _ => .inr (.inl ⟨rfl, .inr (.inr (.inl (by decide)))⟩)
theorem odd_11 (c : Cs) : Odd c " dock 1 1" := odd_of (w0 := "") (ws := ["dock", "1", "1"]) (by decide +kernel) (by decide +kernel) (by decide) (by decide +kernel) fun _ _ _ => .inl (by rfl)
theorem odd_12 (c : Cs) : Odd c "Dock 1 1" := odd_of (w0 := "Dock") (ws := ["1", "1"]) (by decide +kernel) (by decide +kernel) (by decide) (by decide +kernel) fun _ _ _ => .inl (by rfl)
theorem odd_13 (c : Cs) : Odd c "docks 1 1" := odd_of (w0 := "docks") (ws := ["1", "1"]) (by decide +kernel) (by decide +kernel) (by decide) (by decide +kernel) fun _ _ _ => .inl (by rfl)
theorem odd_14 (c : Cs) : Odd c "way x" := odd_of (w0 := "way") (ws := ["x"]) (by decide +kernel) (by decide +kernel) (by decide) (by decide +kernel) fun _ _ _ => .inr (.inr (.inl ⟨rfl, .inr (.inr (.inr (.inr ⟨[], "x", [], by decide +kernel, by decide, no_x c⟩)))⟩))
theorem odd_15 (c : Cs) : Odd c "way -1 0" := odd_of (w0 := "way") (ws := ["-1", "0"]) (by decide +kernel) (by decide +kernel) (by decide) (by decide +kernel) fun _ _ _ => .inr (.inr (.inl ⟨rfl, .inr (.inr (.inr (.inr ⟨[], "-1", ["0"], by decide +kernel, by decide, no_m1 c⟩)))⟩))
theorem odd_16 (c : Cs) : Odd c "way 100 0" := odd_of (w0 := "way") (ws := ["100", "0"]) (by decide +kernel) (by decide +kernel) (by decide) (by decide +kernel) fun _ _ _ => .inr (.inr (.inl ⟨rfl, .inr (.inr (.inr (.inr ⟨[], "100", ["0"], by decide +kernel, by decide, no_100 c⟩)))⟩))
theorem odd_17 (c : Cs) : Odd c "way" := odd_of (w0 := "way") (ws := []) (by decide +kernel) (by decide +kernel) (by decide) (by decide +kernel) fun _ _ _ => .inr (.inr (.inl ⟨rfl, .inr (.inr (.inl rfl))⟩))
theorem odd_18 (c : Cs) : Odd c "cart" := odd_of (w0 := "cart") (ws := []) (by decide +kernel) (by decide +kernel) (by decide) (by decide +kernel) fun _ _ _ => .inr (.inr (.inr ⟨rfl, .inr (.inl (by decide))⟩))
theorem odd_19 (c : Cs) : Odd c "cart 0 1" := odd_of (w0 := "cart") (ws := ["0", "1"]) (by decide +kernel) (by decide +kernel) (by decide) (by decide +kernel) fun _ _ _ => .inr (.inr (.inr ⟨rfl, .inr (.inl (by decide))⟩))
theorem odd_20 (c : Cs) : Odd c "cart 0 1 1 1" := odd_of (w0 := "cart") (ws := ["0", "1", "1", "1"]) (by decide +kernel) (by decide +kernel) (by decide) (by decide +kernel) fun _ _ _ => .inr (.inr (.inr ⟨rfl, .inr (.inl (by decide))⟩))
theorem odd_21 (c : Cs) : Odd c "cart 0 1 x" := odd_of (w0 := "cart") (ws := ["0", "1", "x"]) (by decide +kernel) (by decide +kernel) (by decide) (by decide +kernel) fun _ _ _ => .inr (.inr (.inr ⟨rfl, .inr (.inr ⟨[0, 1], "x", [], by decide +kernel, by decide, no_x c⟩)⟩))
theorem odd_22 (c : Cs) : Odd c "cart 0 1 001" := odd_of (w0 := "cart") (ws := ["0", "1", "001"]) (by decide +kernel) (by decide +kernel) (by decide) (by decide +kernel) fun _ _ _ => .inr (.inr (.inr ⟨rfl, .inr (.inr ⟨[0, 1], "001", [], by decide +kernel, by decide, no_001 c⟩)⟩))
theorem odd_23 (c : Cs) : Odd c "Cart 0 1 1" := odd_of (w0 := "Cart") (ws := ["0", "1", "1"]) (by decide +kernel) (by decide +kernel) (by decide) (by decide +kernel) fun _ _ _ => .inl (by rfl)
theorem odd_24 (c : Cs) : Odd c "0 1 1" := odd_of (w0 := "0") (ws := ["1", "1"]) (by decide +kernel) (by decide +kernel) (by decide) (by decide +kernel) fun _ _ _ => .inl (by rfl)
theorem odd_25 (c : Cs) : Odd c "bike 1 1" := odd_of (w0 := "bike") (ws := ["1", "1"]) (by decide +kernel) (by decide +kernel) (by decide) (by decide +kernel) fun _ _ _ => .inl (by rfl)
theorem odd_26 (c : Cs) : Odd c "dock 1 +1" := odd_of (w0 := "dock") (ws := ["1", "+1"]) (by decide +kernel) (by decide +kernel) (by decide) (by decide +kernel) fun _ _ _ => .inr (.inl ⟨rfl, .inr (.inr (.inr ⟨[1], "+1", [], by decide +kernel, by decide, no_p1 c⟩))⟩)
theorem odd_27 (c : Cs) : Odd c "way +0" := odd_of (w0 := "way") (ws := ["+0"]) (by decide +kernel) (by decide +kernel) (by decide) (by decide +kernel) fun _ _ _ => .inr (.inr (.inl ⟨rfl, .inr (.inr (.inr (.inr ⟨[], "+0", [], by decide +kernel, by decide, no_p0 c⟩)))⟩))
theorem odd_28 (c : Cs) : Odd c "cart 0 1 +1" := odd_of (w0 := "cart") (ws := ["0", "1", "+1"]) (by decide +kernel) (by decide +kernel) (by decide) (by decide +kernel) fun _ _ _ => .inr (.inr (.inr ⟨rfl, .inr (.inr ⟨[0, 1], "+1", [], by decide +kernel, by decide, no_p1 c⟩)⟩))
theorem odd_29 (c : Cs) : Odd c "dock +1 0" := odd_of (w0 := "dock") (ws := ["+1", "0"]) (by decide +kernel) (by decide +kernel) (by decide) (by decide +kernel) fun _ _ _ => .inr (.inl ⟨rfl, .inr (.inr (.inr ⟨[], "+1", ["0"], by decide +kernel, by decide, no_p1 c⟩))⟩)
theorem odd_all (c : Cs) : ∀ s ∈ thirty, Odd c s := by
  intro s hs
  simp only [thirty, List.mem_cons, List.not_mem_nil, or_false] at hs
  rcases hs with rfl | rfl | rfl | rfl | rfl | rfl | rfl | rfl | rfl | rfl | rfl | rfl | rfl | rfl | rfl | rfl | rfl | rfl | rfl | rfl | rfl | rfl | rfl | rfl | rfl | rfl | rfl | rfl | rfl | rfl
  · exact odd_0 c
  · exact odd_1 c
  · exact odd_2 c
  · exact odd_3 c
  · exact odd_4 c
  · exact odd_5 c
  · exact odd_6 c
  · exact odd_7 c
  · exact odd_8 c
  · exact odd_9 c
  · exact odd_10 c
  · exact odd_11 c
  · exact odd_12 c
  · exact odd_13 c
  · exact odd_14 c
  · exact odd_15 c
  · exact odd_16 c
  · exact odd_17 c
  · exact odd_18 c
  · exact odd_19 c
  · exact odd_20 c
  · exact odd_21 c
  · exact odd_22 c
  · exact odd_23 c
  · exact odd_24 c
  · exact odd_25 c
  · exact odd_26 c
  · exact odd_27 c
  · exact odd_28 c
  · exact odd_29 c
theorem none_ok (c : Cs) (b : Bx) : ∃ (s : Str) (b' : Bx), F_Lnone c [.box] b = .rt (.str s) b' ∧ Odd c s := by
  obtain ⟨r, b', e, g⟩ := take_ok c (m := 30) (by decide) (by decide) b
  obtain ⟨n, rfl⟩ : ∃ n : Nat, r = n := ⟨r.toNat, by omega⟩
  have hn : n < thirty.length := by show n < 30; omega
  have es : atI (thirty.map D.str) (n : Int) = some (.str thirty[n]) := by
    rw [atI_nat, List.getElem?_map, List.getElem?_eq_getElem hn]; rfl
  refine ⟨thirty[n], b', ?_, odd_all c _ (List.getElem_mem hn)⟩
  generalize thirty[n] = s at es
  simp only [thirty, List.map_cons, List.map_nil] at es
  simp [F_Lnone, k_Lnone, add_lst, e, es]
/-! ### refused -/
theorem tbl_a {A B : Addr} {x y : Bool} : tblOf [(A, x), (B, y)] A = some x := by simp [tblOf]
theorem tbl_b {A B : Addr} {x y : Bool} (h : A ≠ B) : tblOf [(A, x), (B, y)] B = some y := by simp [tblOf, h]
theorem ev_xIsE3 {i : Nat} {t1 t2 t3 : Addr → Option Bool} {ρ : En} {b : Bx} : xIsE3 i t1 t2 t3 ρ b = (match ρ[i]? with
  | some (.val (.exn C _ _)) => lift ((t1 C).bind fun x => (t2 C).bind fun y => (t3 C).map fun z => D.bl (x || (y || z))) b
  | _ => .bad) := rfl
theorem split_nl {L : List Str} (h0 : L ≠ []) (hn : ∀ l ∈ L, 10 ∉ tl l) : Txt.split (Txt.join "\n" L) "\n" = L := split_join tl_nl (by decide +kernel) h0 hn
theorem sum_le' {L : List Str} {m : Nat} (h : ∀ l ∈ L, l.length ≤ m) : (L.map (·.length)).sum ≤ L.length * m := by
  have := sum_le (xs := L.map (·.length)) (m := m) fun x hx => by
    obtain ⟨l, hl, rfl⟩ := List.mem_map.mp hx
    exact h l hl
  rwa [List.length_map] at this
structure OkL (L : List Str) : Prop where
  h0 : L ≠ []
  n : L.length ≤ 30
  nl : ∀ l ∈ L, 10 ∉ tl l
  z : ∀ l ∈ L, l.length ≤ 120
theorem OkL.join {L : List Str} (O : OkL L) (z : Bool) : joinD "\n" (.lst z (L.map .str)) = some (.str (Txt.join "\n" L)) ∧ TextOf (Txt.join "\n" L) L := by
  have h1 := sum_le' O.z
  have h2 := O.n
  have h3 := Nat.mul_le_mul_right 120 h2
  have h4 : (L.map (·.length)).sum + L.length * ("\n" : Str).length ≤ 4000 := by rw [nl_len]; omega
  have h5 := Nat.le_trans (join_len "\n" L) h4
  refine ⟨join_of (by omega) z, ⟨?_, by omega⟩⟩
  show (if _ then _ else _) = _
  rw [if_pos ⟨nl_ne, by omega⟩, split_nl O.h0 O.nl]
section
variable (c : Cs) (hne : c.BadText ≠ c.BadTown) {L : List Str} (b : Bx)
theorem ref_text (O : OkL L) {n : Int} (z : Bool) (h : F_read c [.str (Txt.join "\n" L)] b = .exc (badR c n) b) : F_Lrefused c [.lst z (L.map .str)] b = .rt (.tup [.str "text", .int n]) b := by
  have hj := (O.join z).1
  generalize L.map D.str = LD at *
  generalize Txt.join "\n" L = x at *
  simp [F_Lrefused, k_Lrefused, hj, h, badR, hd1_Lrefused, tbl_a, ev_xIsE3, cleanL, clean, pureD, pureL]
theorem ref_town (hne : c.BadText ≠ c.BadTown) (O : OkL L) {w : Str} {n : Int} (z : Bool) (h : F_read c [.str (Txt.join "\n" L)] b = .exc (badT c.BadTown w n) b) : F_Lrefused c [.lst z (L.map .str)] b = .rt (.tup [.str "town", .str w, .int n]) b := by
  have hj := (O.join z).1
  have sw : (("word" : Str) = "number") = False := eq_false (by decide +kernel)
  generalize L.map D.str = LD at *
  generalize Txt.join "\n" L = x at *
  simp [F_Lrefused, k_Lrefused, hj, h, badT, hd1_Lrefused, tbl_b hne, ev_xIsE3, sw, cleanL, clean, pureD, pureL]
end
end Fw
set_option Elab.async false
set_option linter.all false
set_option maxRecDepth 100000
set_option maxHeartbeats 4000000
/-! T12: texts refused, one by one. -/
namespace Fw
open PySem L2 TL Z0
theorem key_of {t : TD} (T : OkX t) {r : Row} (h : r ∈ rowsOf t) : (r.1 = "dock" ∨ r.1 = "way" ∨ r.1 = "cart") ∧ r.2.length ≤ 5 := by
  unfold rowsOf at h
  rcases List.mem_append.mp h with h | h
  · rcases List.mem_append.mp h with h | h
    · obtain ⟨p, hp, rfl⟩ := List.mem_map.mp h
      exact ⟨.inl rfl, by simp⟩
    · obtain ⟨q, hq, rfl⟩ := List.mem_map.mp h
      exact ⟨.inr (.inl rfl), (wy99 T hq).2.1⟩
  · rw [List.mem_singleton.mp h]
    exact ⟨.inr (.inr rfl), by simp⟩
abbrev rL (t : TD) : List Str := (rowsOf t).map lineOf
theorem rL_free {t : TD} (T : OkX t) : ∀ l ∈ rL t, 10 ∉ tl l ∧ l.length ≤ 100 := by
  intro l hl
  refine ⟨?_, line_len T l (by rw [lines_eq T]; exact hl)⟩
  obtain ⟨r, hr, rfl⟩ := List.mem_map.mp hl
  exact line_nl (rows_okT T r hr)
theorem rL_len (t : TD) : (rL t).length = t.docks.length + t.ways.length + 1 := by rw [List.length_map, rows_len]
section
variable (c : Cs) {t : TD} (b : Bx)
theorem ref_at (T : OkX t) {L : List Str} (O : OkL L) {m : Nat} (hm : m ≤ (rL t).length) (hml : m < L.length) (hL : ∀ j, j < m → L[j]? = (rL t)[j]?) {s w0 : Str} {ws : List Str} (hs : L[m]? = some s) (hsp : Txt.split s " " = w0 :: ws) (hl : ws.length ≤ 1000)
    (hb : ∀ (last : Nat) (d w k : List D), AtR t m last d w k → BadHere c last d k w0 ws) (z : Bool) : F_Lrefused c [.lst z (L.map .str)] b = .rt (.tup [.str "text", .int m]) b := by
  have hz := O.z s (List.mem_of_getElem? hs)
  refine ref_text c b O z (read_bad c T (O.join z).2 (by rw [← List.length_map]; exact hm) hml hL (fun last d w k x5 x6 hA => ?_) b)
  exact row_bad c hs (split_sp hsp (by omega)) hl hA.k3 (hA.dl T) hA.la x5 x6 (hb last d w k hA)
theorem getElem_put {R X : List Str} {m j : Nat} (hm : m ≤ R.length) (hj : j < m) : (R.take m ++ X)[j]? = R[j]? := by
  rw [List.getElem?_append_left (by rw [List.length_take]; omega), List.getElem?_take_of_lt hj]
theorem getElem_put2 {R X : List Str} {s : Str} {m : Nat} (hm : m ≤ R.length) : (R.take m ++ s :: X)[m]? = some s := by
  rw [List.getElem?_append_right (by rw [List.length_take]; omega), List.length_take, Nat.min_eq_left hm, Nat.sub_self]
  rfl
theorem okL_of (T : OkX t) {L : List Str} (h0 : L ≠ []) (hn : L.length ≤ 30) (h : ∀ l ∈ L, l ∈ rL t ∨ (10 ∉ tl l ∧ l.length ≤ 120)) : OkL L := by
  refine ⟨h0, hn, fun l hl => ?_, fun l hl => ?_⟩
  · rcases h l hl with q | q
    · exact (rL_free T l q).1
    · exact q.1
  · rcases h l hl with q | q
    · have := (rL_free T l q).2; omega
    · exact q.2
/-- a row put in -/
theorem ref_put (T : OkX t) {m : Nat} (hm : m ≤ (rL t).length) {s w0 : Str} {ws X : List Str} (hX : X.length ≤ 15) (hXm : ∀ l ∈ X, l ∈ rL t ∨ (10 ∉ tl l ∧ l.length ≤ 120)) (hs : 10 ∉ tl s ∧ s.length ≤ 120) (hsp : Txt.split s " " = w0 :: ws) (hl : ws.length ≤ 1000)
    (hb : ∀ (last : Nat) (d w k : List D), AtR t m last d w k → BadHere c last d k w0 ws) (z : Bool) : F_Lrefused c [.lst z (((rL t).take m ++ s :: X).map .str)] b = .rt (.tup [.str "text", .int m]) b := by
  have hR := rL_len t
  have h5 := T.n5
  have w5 := T.w5
  have hlen : ((rL t).take m ++ s :: X).length = m + (X.length + 1) := by rw [List.length_append, List.length_take, List.length_cons]; omega
  refine ref_at c b T (okL_of T (by simp) (by omega) fun l hl => ?_) hm (by omega) (fun j hj => getElem_put hm hj) (getElem_put2 hm) hsp hl hb z
  rcases List.mem_append.mp hl with q | q
  · exact .inl (List.mem_of_mem_take q)
  · rcases List.mem_cons.mp q with rfl | q
    · exact .inr hs
    · exact hXm l q
theorem mem_drop {R : List Str} {n : Nat} : ∀ l ∈ R.drop n, l ∈ R := fun l h => List.mem_of_mem_drop h
/-- one of the thirty put in -/
theorem ref_odd (T : OkX t) {m : Nat} (hm : m ≤ (rL t).length) {s : Str} (S : Odd c s) {Y : List Str} (hY : Y.length ≤ 1) (hYm : ∀ l ∈ Y, Odd c l) (z : Bool) : F_Lrefused c [.lst z (((rL t).take m ++ s :: ((rL t).drop m ++ Y)).map .str)] b = .rt (.tup [.str "text", .int m]) b := by
  obtain ⟨w0, ws, h1, h2, h3⟩ := S.ex
  have hR := rL_len t
  have h5 := T.n5
  have w5 := T.w5
  refine ref_put c b T hm (by rw [List.length_append, List.length_drop]; omega) (fun l hl => ?_) ⟨S.nl, by have := S.z; omega⟩ h1 h2 (fun last d w k _ => h3 last d k) z
  rcases List.mem_append.mp hl with q | q
  · exact .inl (mem_drop l q)
  · exact .inr ⟨(hYm l q).nl, by have := (hYm l q).z; omega⟩
/-- a row behind the cart's -/
theorem ref_again (T : OkX t) {s : Str} (hs : s ∈ rL t) {Y : List Str} (hY : Y.length ≤ 1) (hYm : ∀ l ∈ Y, Odd c l) (z : Bool) : F_Lrefused c [.lst z ((rL t ++ s :: Y).map .str)] b = .rt (.tup [.str "text", .int ((rL t).length : Nat)]) b := by
  have hf := rL_free T s hs
  obtain ⟨r, hr, rfl⟩ := List.mem_map.mp hs
  obtain ⟨hk, h5⟩ := key_of T hr
  have q := ref_put c b T (m := (rL t).length) (Nat.le_refl _) (s := lineOf r) (w0 := r.1) (ws := r.2.map strI) (X := Y) (by omega) (fun l hl => .inr ⟨(hYm l hl).nl, by have := (hYm l hl).z; omega⟩) ⟨hf.1, by omega⟩ (split_line (rows_okT T r hr)) (by rw [List.length_map]; omega) (fun last d w k hA => ?_) z
  · rw [List.take_length] at q
    exact q
  · have hkk : k ≠ [] := by
      rw [rL_len] at hA
      rcases hA with ⟨q, _⟩ | ⟨_, q, _⟩ | ⟨_, _, _, _, rfl⟩
      · omega
      · omega
      · simp
    rcases hk with e | e | e
    · exact .inr (.inl ⟨e, .inr (.inl hkk)⟩)
    · exact .inr (.inr (.inl ⟨e, .inr (.inl hkk)⟩))
    · exact .inr (.inr (.inr ⟨e, .inl hkk⟩))
/-- no cart -/
theorem ref_nocart (T : OkX t) (h1 : 1 ≤ t.docks.length) (z : Bool) : F_Lrefused c [.lst z (((rL t).take ((rL t).length - 1)).map .str)] b = .rt (.tup [.str "text", .int (((rL t).length - 1 : Nat) : Int)]) b := by
  have hR := rL_len t
  have h5 := T.n5
  have w5 := T.w5
  have hlen : ((rL t).take ((rL t).length - 1)).length = (rL t).length - 1 := by rw [List.length_take]; omega
  have O : OkL ((rL t).take ((rL t).length - 1)) := okL_of T (fun q => by
    have q2 := congrArg List.length q
    rw [hlen] at q2
    have q2 : (rL t).length - 1 = 0 := q2
    omega) (by omega) fun l hl => .inl (List.mem_of_mem_take hl)
  have q := ref_text c b O z (n := (((rL t).take ((rL t).length - 1)).length : Nat)) (read_nocart c T (O.join z).2 (by rw [hlen]; omega) (fun j hj => List.getElem?_take_of_lt (by omega)) b)
  rw [hlen] at q
  exact q
theorem join_snoc (s x : Str) : ∀ {ws : List Str}, ws ≠ [] → Txt.join s (ws ++ [x]) = Txt.join s ws ++ s ++ x
  | [], h => absurd rfl h
  | [a], _ => by
    show Txt.join s [a, x] = _
    rw [join_cons, join_one, join_one]
  | a :: b :: r, _ => by
    show Txt.join s (a :: b :: (r ++ [x])) = _
    rw [join_cons, join_cons]
    have ih := join_snoc s x (ws := b :: r) (by simp)
    have ih : Txt.join s (b :: (r ++ [x])) = _ := ih
    rw [ih]
    simp only [str_assoc]
theorem sp0 : (" 0" : Str) = " " ++ "0" := by decide +kernel
theorem line_more (r : Row) : lineOf r ++ " 0" = lineOf (r.1, r.2 ++ [0]) := by
  unfold lineOf wordsOf
  rw [List.map_append, ← List.cons_append]
  have e : [(0 : Int)].map strI = (["0"] : List Str) := by decide +kernel
  rw [e, join_snoc _ _ (by simp), sp0, str_assoc]
/-- a way of one more -/
theorem ref_way (T : OkX t) (h1 : 1 ≤ t.docks.length) {i : Nat} (hi : i < t.ways.length) {Y : List Str} (hY : Y.length ≤ 1) (hYm : ∀ l ∈ Y, Odd c l) (z : Bool) :
    (rL t)[t.docks.length + i]? = some (lineOf (("way" : Str), t.ways[i])) ∧ (lineOf (("way" : Str), t.ways[i]) ++ " 0").length ≤ 110 ∧ F_Lrefused c [.lst z (((rL t).take (t.docks.length + i) ++ (lineOf (("way" : Str), t.ways[i]) ++ " 0") :: ((rL t).drop (t.docks.length + i + 1) ++ Y)).map .str)] b = .rt (.tup [.str "text", .int ((t.docks.length + i : Nat) : Int)]) b := by
  have hR := rL_len t
  have h5 := T.n5
  have w5 := T.w5
  have hr := rows_way hi
  have hm := List.mem_of_getElem? hr
  have e : (rL t)[t.docks.length + i]? = some (lineOf (("way" : Str), t.ways[i])) := by rw [List.getElem?_map, hr]; rfl
  have hw := T.wr _ (List.getElem_mem hi)
  have hf := rL_free T _ (List.mem_of_getElem? e)
  have hz : (lineOf (("way" : Str), t.ways[i]) ++ " 0").length ≤ 110 := by
    rw [str_len_app]
    have : (" 0" : Str).length = 2 := by decide +kernel
    omega
  have RO : RowOk (("way" : Str), t.ways[i] ++ [0]) := ⟨(by decide +kernel : 32 ∉ tl ("way" : Str) ∧ 10 ∉ tl ("way" : Str)), fun x hx => by
    rcases List.mem_append.mp hx with q | q
    · exact hw.1 x q
    · rw [List.mem_singleton.mp q]; decide⟩
  have em := line_more (("way" : Str), t.ways[i])
  refine ⟨e, hz, ?_⟩
  refine ref_put c b T (by omega) (by rw [List.length_append, List.length_drop]; omega) (fun l hl => ?_) ⟨by rw [em]; exact line_nl RO, by omega⟩ (w0 := "way") (ws := (t.ways[i] ++ [0]).map strI) (by rw [em]; exact split_line RO) (by rw [List.length_map, List.length_append]; simp; omega) (fun last d w k hA => ?_) z
  · rcases List.mem_append.mp hl with q | q
    · exact .inl (mem_drop l q)
    · exact .inr ⟨(hYm l q).nl, by have := (hYm l q).z; omega⟩
  · have hd : d.length = t.docks.length := by
      rcases hA with ⟨q, _, rfl, _⟩ | ⟨_, _, _, rfl, _⟩ | ⟨q, _⟩
      · rw [List.length_take, List.length_map]; omega
      · rw [List.length_map]
      · omega
    exact .inr (.inr (.inl ⟨rfl, .inr (.inr (.inr (.inl (by rw [List.length_map, List.length_append, hd, hw.2.1]; simp))))⟩))
theorem d11 : Txt.split ("dock 1 1" : Str) " " = (["dock", "1", "1"] : List Str) := by decide +kernel
/-- a dock behind a way -/
theorem ref_late (T : OkX t) (h1 : 1 ≤ t.docks.length) (hw : t.ways.length = t.docks.length) (z : Bool) : F_Lrefused c [.lst z (((rL t).take (t.docks.length + 1) ++ ("dock 1 1" : Str) :: (rL t).drop (t.docks.length + 1)).map .str)] b = .rt (.tup [.str "text", .int ((t.docks.length + 1 : Nat) : Int)]) b := by
  have hR := rL_len t
  have h5 := T.n5
  refine ref_put c b T (by omega) (by rw [List.length_drop]; omega) (fun l hl => .inl (mem_drop l hl)) (by decide +kernel) d11 (by decide) (fun last d w k hA => .inr (.inl ⟨rfl, .inl ?_⟩)) z
  rcases hA with ⟨q, _⟩ | ⟨_, _, rfl, _⟩ | ⟨_, rfl, _⟩
  · omega
  · decide
  · decide
end
/-- a text that is good, of a town that cannot be -/
structure One (c : Cs) (L : List Str) (w : Str) : Prop where
  ex : ∃ t : TD, OkX t ∧ L = rL t ∧ F_Town_init c (inA c true false false t.docks t.ways t.place t.room t.load) bx0 = .exc (badT c.BadTown w 0) bx0
theorem ref_one (c : Cs) (hne : c.BadText ≠ c.BadTown) {L : List Str} {w : Str} (O : One c L w) (b : Bx) (z : Bool) : F_Lrefused c [.lst z (L.map .str)] b = .rt (.tup [.str "town", .str w, .int 0]) b := by
  obtain ⟨t, T, rfl, hi⟩ := O.ex
  have hR := rL_len t
  have h5 := T.n5
  have w5 := T.w5
  have O : OkL (rL t) := okL_of T (fun q => by rw [q] at hR; simp at hR) (by omega) fun l hl => .inl hl
  exact ref_town c b hne O z (read_town c T (O.join z).2 hR (fun j _ => rfl) hi b)
theorem x_split : Txt.split ("x" : Str) " " = (["x"] : List Str) := by decide +kernel
theorem ref_onex (c : Cs) {L : List Str} {w : Str} (O : One c L w) (b : Bx) (z : Bool) : F_Lrefused c [.lst z ((L ++ ([("x" : Str)])).map .str)] b = .rt (.tup [.str "text", .int (L.length : Nat)]) b := by
  obtain ⟨t, T, rfl, _⟩ := O.ex
  have q := ref_put c b T (m := (rL t).length) (Nat.le_refl _) (s := "x") (w0 := "x") (ws := []) (X := []) (by decide) (fun l hl => nomatch hl) (by decide +kernel) x_split (by decide) (fun last d w k _ => .inl (by rfl)) z
  rw [List.take_length] at q
  exact q
theorem one_1 (c : Cs) : One c ["dock 1 2", "way 0", "cart 0 1 1"] "dock" := ⟨⟨[(1, 2)], [[0]], 0, 1, 1⟩, ⟨by decide, by decide, by decide, by decide, by decide⟩, by decide +kernel, init_dock c bx0 true false false _ _ _ _ _ (by decide) (j := 0) (by decide) (fun i hi => absurd hi (Nat.not_lt_zero i)) (by unfold goodD; decide)⟩
theorem g11 : ∀ j, j < ([(1, 1)] : List (Int × Int)).length → goodD (([(1, 1)] : List (Int × Int)).getD j (0, 0)) := by
  intro j hj
  have : j = 0 := by simp at hj; exact hj
  subst this
  unfold goodD
  decide
theorem one_2 (c : Cs) : One c ["dock 1 1", "way 1", "cart 0 1 1"] "way" := ⟨⟨[(1, 1)], [[1]], 0, 1, 1⟩, ⟨by decide, by decide, by decide, by decide, by decide⟩, by decide +kernel, init_way c bx0 true false false _ _ _ _ _ (by decide) g11 rfl (fun j => by rcases j with _ | j <;> simp) (j := 0) (by decide) (fun i hi => absurd hi (Nat.not_lt_zero i)) (by unfold goodW; decide)⟩
theorem one_3 (c : Cs) : One c ["dock 1 1", "cart 0 1 1"] "ways" := ⟨⟨[(1, 1)], [], 0, 1, 1⟩, ⟨by decide, by decide, by decide, by decide, by decide⟩, by decide +kernel, init_ways c bx0 true false false _ _ _ _ _ (by decide) g11 (by decide)⟩
theorem one_4 (c : Cs) : One c ["dock 1 1", "way 0", "cart 0 1 2"] "cart" := ⟨⟨[(1, 1)], [[0]], 0, 1, 2⟩, ⟨by decide, by decide, by decide, by decide, by decide⟩, by decide +kernel, init_cart c bx0 true false false _ _ _ _ _ (by decide) g11 rfl (fun j => by rcases j with _ | j <;> simp) (fun j hj => by
  have : j = 0 := by simp at hj; exact hj
  subst this
  unfold goodW
  decide) (by unfold goodC; decide)⟩
theorem one_5 (c : Cs) : One c ["dock 1 1", "dock 1 1", "dock 1 1", "dock 1 1", "dock 1 1", "cart 0 1 1"] "docks" := ⟨⟨[(1, 1), (1, 1), (1, 1), (1, 1), (1, 1)], [], 0, 1, 1⟩, ⟨by decide, by decide, by decide, by decide, by decide⟩, by decide +kernel, init_docks c bx0 true false false _ _ _ _ _ (by decide)⟩
theorem one_6 (c : Cs) : One c ["cart 0 1 1"] "docks" := ⟨⟨[], [], 0, 1, 1⟩, ⟨by decide, by decide, by decide, by decide, by decide⟩, by decide +kernel, init_docks c bx0 true false false _ _ _ _ _ (by decide)⟩
end Fw
set_option Elab.async false
set_option linter.all false
set_option maxRecDepth 100000
set_option maxHeartbeats 4000000
/-! L14: the law k14. -/
namespace Fw
open PySem L2 TL Z0
theorem et_text (neg : Bool) (n : Int) : eqD neg (.tup [.str "text", .int n]) (.tup [.str "text", .int n]) = some (.bl (!neg)) :=
  eqD_refl (m := 3) (by decide) (d := .tup [.str "text", .int n]) (by
    have : PyData.strOk ("text" : Str) = true := by decide +kernel
    simp [okA, this]) neg
theorem et_town (neg : Bool) {w : Str} (hw : PyData.strOk w = true) : eqD neg (.tup [.str "town", .str w, .int 0]) (.tup [.str "town", .str w, .int 0]) = some (.bl (!neg)) :=
  eqD_refl (m := 3) (by decide) (d := .tup [.str "town", .str w, .int 0]) (by
    have : PyData.strOk ("town" : Str) = true := by decide +kernel
    simp [okA, this, hw]) neg
theorem cut_last {α : Type} (xs : List α) (h : 1 ≤ xs.length) : cutL xs none (some (-1)) = xs.take (xs.length - 1) := by
  unfold cutL
  have e : HT.sIx xs.length xs.length (some (-1)) = xs.length - 1 := by
    show (if (-1 : Int) < 0 then ((-1 : Int) + (xs.length : Int)).toNat else min (-1 : Int).toNat xs.length) = _
    rw [if_pos (by decide)]
    omega
  rw [e]
  show (xs.drop 0).take (xs.length - 1 - 0) = _
  rw [List.drop_zero, Nat.sub_zero]
theorem law_holds (c : Cs) (hne : c.BadText ≠ c.BadTown) (ns : List Int) (hl : ns.length ≤ 1000) : ∃ b', F_law c [.sql (ns.map .int)] bx0 = .rt (.bl true) b' := by
  obtain ⟨st, e0⟩ := begun_ok c ns hl bx0
  have cq : clean (.sql (ns.map .int)) = true := cleanL_ints ns
  obtain ⟨t, b1, e1, T⟩ := town_ok c (most := 4) (rm := 9) (ld := 9) (by decide) (by decide) (by decide) ⟨ns, st, [], [], [], []⟩
  have X := OkX.of T
  have h1 := T.n1
  have h4 := T.n4
  have hw := T.wl
  have hR := rL_len t
  have f1 := lines_ok c b1 X
  rw [lines_eq X] at f1
  have id0 : idxD (dTown t) (.int 0) = some (dDocks t) := rfl
  have ldk : lenD (dDocks t) = some (.int t.docks.length) := by simp [dDocks]
  obtain ⟨s0, b2, e2, S0⟩ := none_ok c b1
  obtain ⟨r, b3, e3, g3⟩ := take_ok c (m := 2) (by decide) (by decide) b2
  obtain ⟨y, rfl⟩ : ∃ y : Nat, r = y := ⟨r.toNat, by omega⟩
  obtain ⟨Y, hY⟩ : ∃ Y : List Str, Y = List.replicate y s0 := ⟨_, rfl⟩
  have hYl : Y.length ≤ 1 := by rw [hY, List.length_replicate]; omega
  have hYm : ∀ l ∈ Y, Odd c l := fun l h => by rw [hY] at h; rw [List.eq_of_mem_replicate h]; exact S0
  have m1 : mulD (.lst false [.str s0]) (.int y) = some (.lst false (Y.map .str)) := by
    rw [mul_single _ _ (by omega), hY, List.map_replicate]
  obtain ⟨a, b4, e4, g4⟩ := take_ok c (m := ((rL t).length : Int) + 1) (by omega) (by omega) b3
  obtain ⟨m, rfl⟩ : ∃ m : Nat, a = m := ⟨a.toNat, by omega⟩
  have hm : m ≤ (rL t).length := by omega
  obtain ⟨s1, b5, e5, S1⟩ := none_ok c b4
  have q1 := ref_odd c b5 X hm S1 hYl hYm false
  obtain ⟨i, b6, e6, g6⟩ := take_ok c (m := ((rL t).length : Int)) (by omega) (by omega) b5
  obtain ⟨i, rfl⟩ : ∃ j : Nat, i = j := ⟨i.toNat, by omega⟩
  have hi : i < (rL t).length := by omega
  have q2 := ref_again c b6 X (List.getElem_mem hi) hYl hYm false
  have q3 := ref_nocart c b6 X h1 false
  have en : (((rL t).length - 1 : Nat) : Int) = ((rL t).length : Int) - 1 := by omega
  rw [en] at q3
  obtain ⟨i2, b7, e7, g7⟩ := take_ok c (m := (t.docks.length : Int)) (by omega) (by omega) b6
  obtain ⟨i2, rfl⟩ : ∃ j : Nat, i2 = j := ⟨i2.toNat, by omega⟩
  have hi2 : i2 < t.ways.length := by omega
  obtain ⟨w1, w2, q4⟩ := ref_way c b7 X h1 hi2 hYl hYm false
  have en2 : ((t.docks.length + i2 : Nat) : Int) = (t.docks.length : Int) + i2 := by omega
  rw [en2] at q4
  have q5 := ref_late c b7 X h1 hw false
  have en3 : ((t.docks.length + 1 : Nat) : Int) = (t.docks.length : Int) + 1 := by omega
  rw [en3] at q5
  obtain ⟨o, b8, e8, g8⟩ := take_ok c (m := 6) (by decide) (by decide) b7
  obtain ⟨L, w, ow, O, eo⟩ : ∃ (L : List Str) (w : Str), PyData.strOk w = true ∧ One c L w ∧ atI [D.tup [.lst false [.str "dock 1 2", .str "way 0", .str "cart 0 1 1"], .str "dock", .int 0], D.tup [.lst false [.str "dock 1 1", .str "way 1", .str "cart 0 1 1"], .str "way", .int 0], D.tup [.lst false [.str "dock 1 1", .str "cart 0 1 1"], .str "ways", .int 0], D.tup [.lst false [.str "dock 1 1", .str "way 0", .str "cart 0 1 2"], .str "cart", .int 0], D.tup [.lst false [.str "dock 1 1", .str "dock 1 1", .str "dock 1 1", .str "dock 1 1", .str "dock 1 1", .str "cart 0 1 1"], .str "docks", .int 0], D.tup [.lst false [.str "cart 0 1 1"], .str "docks", .int 0]] o = some (.tup [.lst false (L.map .str), .str w, .int 0]) := by
    have : o = 0 ∨ o = 1 ∨ o = 2 ∨ o = 3 ∨ o = 4 ∨ o = 5 := by omega
    rcases this with rfl | rfl | rfl | rfl | rfl | rfl
    · exact ⟨_, _, by decide +kernel, one_1 c, rfl⟩
    · exact ⟨_, _, by decide +kernel, one_2 c, rfl⟩
    · exact ⟨_, _, by decide +kernel, one_3 c, rfl⟩
    · exact ⟨_, _, by decide +kernel, one_4 c, rfl⟩
    · exact ⟨_, _, by decide +kernel, one_5 c, rfl⟩
    · exact ⟨_, _, by decide +kernel, one_6 c, rfl⟩
  have q6 := ref_one c hne O b8 false
  have q7 := ref_onex c O b8 false
  have m5 : mulD (.lst false [.str "dock 1 1"]) (.int 5) = some (.lst false [.str "dock 1 1", .str "dock 1 1", .str "dock 1 1", .str "dock 1 1", .str "dock 1 1"]) := mul_single _ 5 (by decide)
  have a5 : addD (.lst false [.str "dock 1 1", .str "dock 1 1", .str "dock 1 1", .str "dock 1 1", .str "dock 1 1"]) (.lst false [.str "cart 0 1 1"]) = some (.lst false [.str "dock 1 1", .str "dock 1 1", .str "dock 1 1", .str "dock 1 1", .str "dock 1 1", .str "cart 0 1 1"]) := add_lst _ _ _ _ (by decide)
  -- the lists, by names
  have ad : ∀ (P Q : List Str), P.length + Q.length ≤ 1000 → addD (.lst false (P.map .str)) (.lst false (Q.map .str)) = some (.lst false ((P ++ Q).map .str)) := fun P Q h => by
    rw [add_lst _ _ _ _ (by rw [List.length_map, List.length_map]; omega), List.map_append]
  have lt : ∀ n, ((rL t).take n).length ≤ 9 := fun n => by rw [List.length_take]; omega
  have ld : ∀ n, ((rL t).drop n).length ≤ 9 := fun n => by rw [List.length_drop]; omega
  obtain ⟨RD, hRD⟩ : ∃ RD, RD = (rL t).map D.str := ⟨_, rfl⟩
  have lRD : RD.length = (rL t).length := by rw [hRD, List.length_map]
  have ct : ∀ n : Nat, cutL RD none (some (n : Int)) = ((rL t).take n).map .str := fun n => by rw [hRD, cut_to, List.map_take]
  have cf : ∀ n : Nat, cutL RD (some (n : Int)) none = ((rL t).drop n).map .str := fun n => by rw [hRD, cut_from, List.map_drop]
  obtain ⟨YD, hYD⟩ : ∃ YD, YD = Y.map D.str := ⟨_, rfl⟩
  -- a row put in
  obtain ⟨A1, hA1⟩ : ∃ A, A = ((rL t).take m).map D.str := ⟨_, rfl⟩
  obtain ⟨A2, hA2⟩ : ∃ A, A = ((rL t).take m ++ [s1]).map D.str := ⟨_, rfl⟩
  obtain ⟨A3, hA3⟩ : ∃ A, A = ((rL t).drop m).map D.str := ⟨_, rfl⟩
  obtain ⟨A4, hA4⟩ : ∃ A, A = ((rL t).take m ++ [s1] ++ (rL t).drop m).map D.str := ⟨_, rfl⟩
  obtain ⟨A5, hA5⟩ : ∃ A, A = ((rL t).take m ++ s1 :: ((rL t).drop m ++ Y)).map D.str := ⟨_, rfl⟩
  have u1 : cutL RD none (some (m : Int)) = A1 := by rw [hA1, ct]
  have u2 : addD (.lst false A1) (.lst false [.str s1]) = some (.lst false A2) := by
    rw [hA1, hA2]; exact ad _ [s1] (by have := lt m; simp; omega)
  have u3 : cutL RD (some (m : Int)) none = A3 := by rw [hA3, cf]
  have u4 : addD (.lst false A2) (.lst false A3) = some (.lst false A4) := by
    rw [hA2, hA3, hA4]; exact ad _ _ (by have := lt m; have := ld m; rw [List.length_append]; simp only [List.length_cons, List.length_nil]; omega)
  have u5 : addD (.lst false A4) (.lst false YD) = some (.lst false A5) := by
    rw [hA4, hYD, hA5, ad _ _ (by have := lt m; have := ld m; rw [List.length_append, List.length_append]; simp only [List.length_cons, List.length_nil]; omega)]
    simp only [List.append_assoc, List.cons_append, List.nil_append]
  rw [← hA5] at q1
  -- a row again
  obtain ⟨ri, hri⟩ : ∃ x, x = (rL t)[i] := ⟨_, rfl⟩
  rw [← hri] at q2
  obtain ⟨B1, hB1⟩ : ∃ A, A = (rL t ++ [ri]).map D.str := ⟨_, rfl⟩
  obtain ⟨B2, hB2⟩ : ∃ A, A = (rL t ++ ri :: Y).map D.str := ⟨_, rfl⟩
  have v1 : atI RD (i : Int) = some (.str ri) := by rw [hRD, atI_nat, List.getElem?_map, List.getElem?_eq_getElem hi, hri]; rfl
  have v2 : addD (.lst false RD) (.lst false [.str ri]) = some (.lst false B1) := by
    rw [hRD, hB1]; exact ad _ [ri] (by simp only [List.length_cons, List.length_nil]; omega)
  have v3 : addD (.lst false B1) (.lst false YD) = some (.lst false B2) := by
    rw [hB1, hYD, hB2, ad _ _ (by rw [List.length_append]; simp only [List.length_cons, List.length_nil]; omega)]
    simp only [List.append_assoc, List.cons_append, List.nil_append]
  rw [← hB2] at q2
  -- no cart
  obtain ⟨C1, hC1⟩ : ∃ A, A = ((rL t).take ((rL t).length - 1)).map D.str := ⟨_, rfl⟩
  have x1 : cutL RD none (some (-1)) = C1 := by rw [cut_last _ (by omega), hC1, lRD, hRD, List.map_take]
  rw [← hC1] at q3
  -- a way
  obtain ⟨wl, hwl⟩ : ∃ x, x = lineOf (("way" : Str), t.ways[i2]) := ⟨_, rfl⟩
  rw [← hwl] at w1 w2 q4
  obtain ⟨E1, hE1⟩ : ∃ A, A = ((rL t).take (t.docks.length + i2)).map D.str := ⟨_, rfl⟩
  obtain ⟨E2, hE2⟩ : ∃ A, A = ((rL t).take (t.docks.length + i2) ++ [wl ++ " 0"]).map D.str := ⟨_, rfl⟩
  obtain ⟨E3, hE3⟩ : ∃ A, A = ((rL t).drop (t.docks.length + i2 + 1)).map D.str := ⟨_, rfl⟩
  obtain ⟨E4, hE4⟩ : ∃ A, A = ((rL t).take (t.docks.length + i2) ++ [wl ++ " 0"] ++ (rL t).drop (t.docks.length + i2 + 1)).map D.str := ⟨_, rfl⟩
  obtain ⟨E5, hE5⟩ : ∃ A, A = ((rL t).take (t.docks.length + i2) ++ (wl ++ " 0") :: ((rL t).drop (t.docks.length + i2 + 1) ++ Y)).map D.str := ⟨_, rfl⟩
  have y1 : cutL RD none (some ((t.docks.length : Int) + i2)) = E1 := by rw [← en2, hE1, ct]
  have y0 : atI RD ((t.docks.length : Int) + i2) = some (.str wl) := by rw [← en2, hRD, atI_nat, List.getElem?_map, w1]; rfl
  have ys : addD (.str wl) (.str " 0") = some (.str (wl ++ " 0")) := add_str (by rw [← str_len_app]; omega)
  have y2 : addD (.lst false E1) (.lst false [.str (wl ++ " 0")]) = some (.lst false E2) := by
    rw [hE1, hE2]; exact ad _ [wl ++ " 0"] (by have := lt (t.docks.length + i2); simp only [List.length_cons, List.length_nil]; omega)
  have y3 : cutL RD (some ((t.docks.length : Int) + i2 + 1)) none = E3 := by
    rw [hE3, ← cf]
    congr 2
  have y4 : addD (.lst false E2) (.lst false E3) = some (.lst false E4) := by
    rw [hE2, hE3, hE4]; exact ad _ _ (by have := lt (t.docks.length + i2); have := ld (t.docks.length + i2 + 1); rw [List.length_append]; simp only [List.length_cons, List.length_nil]; omega)
  have y5 : addD (.lst false E4) (.lst false YD) = some (.lst false E5) := by
    rw [hE4, hYD, hE5, ad _ _ (by have := lt (t.docks.length + i2); have := ld (t.docks.length + i2 + 1); rw [List.length_append, List.length_append]; simp only [List.length_cons, List.length_nil]; omega)]
    simp only [List.append_assoc, List.cons_append, List.nil_append]
  rw [← hE5] at q4
  obtain ⟨wz, hwz⟩ : ∃ x, x = wl ++ " 0" := ⟨_, rfl⟩
  rw [← hwz] at ys y2
  -- a dock late
  obtain ⟨G1, hG1⟩ : ∃ A, A = ((rL t).take (t.docks.length + 1)).map D.str := ⟨_, rfl⟩
  obtain ⟨G2, hG2⟩ : ∃ A, A = ((rL t).take (t.docks.length + 1) ++ [("dock 1 1" : Str)]).map D.str := ⟨_, rfl⟩
  obtain ⟨G3, hG3⟩ : ∃ A, A = ((rL t).drop (t.docks.length + 1)).map D.str := ⟨_, rfl⟩
  obtain ⟨G5, hG5⟩ : ∃ A, A = ((rL t).take (t.docks.length + 1) ++ ("dock 1 1" : Str) :: (rL t).drop (t.docks.length + 1)).map D.str := ⟨_, rfl⟩
  have z1 : cutL RD none (some ((t.docks.length : Int) + 1)) = G1 := by rw [← en3, hG1, ct]
  have z2 : addD (.lst false G1) (.lst false [.str "dock 1 1"]) = some (.lst false G2) := by
    rw [hG1, hG2]; exact ad _ [("dock 1 1" : Str)] (by have := lt (t.docks.length + 1); simp only [List.length_cons, List.length_nil]; omega)
  have z3 : cutL RD (some ((t.docks.length : Int) + 1)) none = G3 := by rw [← en3, hG3, cf]
  have z4 : addD (.lst false G2) (.lst false G3) = some (.lst false G5) := by
    rw [hG2, hG3, hG5, ad _ _ (by have := lt (t.docks.length + 1); have := ld (t.docks.length + 1); rw [List.length_append]; simp only [List.length_cons, List.length_nil]; omega)]
    simp only [List.append_assoc, List.cons_append, List.nil_append]
  rw [← hG5] at q5
  -- towns that cannot be
  obtain ⟨LD, hLD⟩ : ∃ A, A = L.map D.str := ⟨_, rfl⟩
  obtain ⟨LX, hLX⟩ : ∃ A, A = (L ++ [("x" : Str)]).map D.str := ⟨_, rfl⟩
  have lLD : LD.length = L.length := by rw [hLD, List.length_map]
  have lL : L.length ≤ 100 := by
    obtain ⟨t', T', rfl, _⟩ := O.ex
    have := T'.n5
    have := T'.w5
    rw [rL_len]; omega
  have k1 : addD (.lst false LD) (.lst false [.str "x"]) = some (.lst false LX) := by
    rw [hLD, hLX]; exact ad _ [("x" : Str)] (by simp only [List.length_cons, List.length_nil]; omega)
  rw [← hLD] at q6 eo
  rw [← hLX] at q7
  rw [← hRD] at f1
  rw [← hYD] at m1
  have et := et_town true ow
  have er := et_text
  refine ⟨bx0, ?_⟩
  clear hRD hYD hA1 hA2 hA3 hA4 hA5 hB1 hB2 hC1 hE1 hE2 hE3 hE4 hE5 hG1 hG2 hG3 hG5 hLD hLX ct cf ad lt ld
  generalize rL t = RR at *
  simp [F_law, k_law, ev_kBegun, intsOf_map, e0, cleanE, cleanS, cq, e1, f1, id0, ldk, e2, e3, m1, lRD, e4, slcD, u1, e5, u2, u3, u4, u5, q1, er, e6, v1, v2, v3, q2, x1, q3, e7, y1, y0, ys, y2, y3, y4, y5, q4, z1, z2, z3, z4, q5, m5, a5, e8, eo, q6, et, k1, q7, lLD, clean, -List.drop_one]
end Fw
set_option Elab.async false
set_option linter.all false
set_option maxRecDepth 100000
set_option maxHeartbeats 4000000
namespace Fw
open PySem PySem.Spec PyProof.Rows L2
def spL (K : PySem.W.Frag) : Sp := fun vs H Q _ => ∃ (a : Addr) (ns : List Int), vs = [.ref a] ∧ ns.length ≤ 63 ∧ SqL K H a (ns.map V.int) ∧ ∀ H', Q (.bl true) H'
theorem spL_imp (K : PySem.W.Frag) (c : Cs) (hne : c.BadText ≠ c.BadTown) (vs : List V) (H : Hp) (Q : VK) (E : XK) (h : spL K vs H Q E) : spD K 1 (F_law c) vs H Q E := by
  obtain ⟨a, ns, rfl, hl, hS, q⟩ := h
  obtain ⟨b', e⟩ := law_holds c hne ns (by omega)
  refine ⟨rfl, .no, fun _ => false, [.sql (ns.map .int)], bx0, H, Same.refl _, fun _ z => (Bool.false_ne_true z).elim, trivial, .cons (.sql hS (IsL.ints ns)) .nil, ?_⟩
  rw [e]
  intro v H0' H' t B iv
  cases iv
  exact q H'
theorem all_mk {l : PySem.W.OpenLaw} {w : World} {K : PySem.W.Frag} {h : Heap} {mg : Str → Option Value} {fa C_Town C_DockError C_BadTown C_BadDay C_BadMove C_NoPlan C_BadText f_BadTown_init f_BadText_init f_must_be f_Town_many f_Town_init f_number_of f_read f_Lbegun f_Ltake f_Ltown f_Llines f_Lrefused f_Lnone f_law q_SORTS : Addr} (X : K.In h) (G : h.Ns mainGlobals mg) (hfa : mg "law" = some (.ref fa))
    {nm_BadText q_BadText : Str} {N_BadText : Addr} {bs_BadText : List Value} {sn_BadText : List Str} {sub_BadText : List Value} {ab_BadText : Bool} {col_BadText : Option Bool} {dd_BadText : Option Addr} {m0_BadText m1_BadText m2_BadText m3_BadText m5_BadText : Option Value}
    {nm_BadTown q_BadTown : Str} {N_BadTown : Addr} {bs_BadTown : List Value} {sn_BadTown : List Str} {sub_BadTown : List Value} {ab_BadTown : Bool} {col_BadTown : Option Bool} {dd_BadTown : Option Addr} {m0_BadTown m1_BadTown m2_BadTown m3_BadTown m5_BadTown : Option Value}
    {od_BadTown_init an_BadTown_init : Option Addr} {sl_BadTown_init : Array (Option Value)} {oc_BadTown_init kV_BadTown_init dc_BadTown_init pm_BadTown_init cd_BadTown_init ct_BadTown_init : Value}
    {od_BadText_init an_BadText_init : Option Addr} {sl_BadText_init : Array (Option Value)} {oc_BadText_init kV_BadText_init dc_BadText_init pm_BadText_init cd_BadText_init ct_BadText_init : Value}
    {od_must_be an_must_be : Option Addr} {sl_must_be : Array (Option Value)} {oc_must_be kV_must_be dc_must_be pm_must_be cd_must_be ct_must_be : Value}
    {od_Town_many an_Town_many : Option Addr} {sl_Town_many : Array (Option Value)} {oc_Town_many kV_Town_many dc_Town_many pm_Town_many cd_Town_many ct_Town_many : Value}
    {od_Town_init an_Town_init : Option Addr} {sl_Town_init : Array (Option Value)} {oc_Town_init kV_Town_init dc_Town_init pm_Town_init cd_Town_init ct_Town_init : Value}
    {od_number_of an_number_of : Option Addr} {sl_number_of : Array (Option Value)} {oc_number_of kV_number_of dc_number_of pm_number_of cd_number_of ct_number_of : Value}
    {od_read an_read : Option Addr} {sl_read : Array (Option Value)} {oc_read kV_read dc_read pm_read cd_read ct_read : Value}
    {od_Lbegun an_Lbegun : Option Addr} {sl_Lbegun : Array (Option Value)} {oc_Lbegun kV_Lbegun dc_Lbegun pm_Lbegun cd_Lbegun ct_Lbegun : Value}
    {od_Ltake an_Ltake : Option Addr} {sl_Ltake : Array (Option Value)} {oc_Ltake kV_Ltake dc_Ltake pm_Ltake cd_Ltake ct_Ltake : Value}
    {od_Ltown an_Ltown : Option Addr} {sl_Ltown : Array (Option Value)} {oc_Ltown kV_Ltown dc_Ltown pm_Ltown cd_Ltown ct_Ltown : Value}
    {od_Llines an_Llines : Option Addr} {sl_Llines : Array (Option Value)} {oc_Llines kV_Llines dc_Llines pm_Llines cd_Llines ct_Llines : Value}
    {od_Lrefused an_Lrefused : Option Addr} {sl_Lrefused : Array (Option Value)} {oc_Lrefused kV_Lrefused dc_Lrefused pm_Lrefused cd_Lrefused ct_Lrefused : Value}
    {od_Lnone an_Lnone : Option Addr} {sl_Lnone : Array (Option Value)} {oc_Lnone kV_Lnone dc_Lnone pm_Lnone cd_Lnone ct_Lnone : Value}
    {od_law an_law : Option Addr} {sl_law : Array (Option Value)} {oc_law kV_law dc_law pm_law cd_law ct_law : Value}
    {t_MOST_DOCKS : Tok}
    {t_MOST_ROOM : Tok}
    {t_MOST_WAY : Tok}
    {t0_SORTS t1_SORTS t2_SORTS : Tok} {n_SORTS : Nat} {sl_SORTS : Array (Option Value)}
    {t_FIGURES : Tok}
    (aC_Town : PySem.W.nsIn K mainGlobals "Town" = some (some (.ref C_Town)))
    (pg_Town : PySem.W.plainGet K C_Town Str.empty = true)
    (hd_Town : PySem.W.hasDictIn K C_Town = true)
    (po_Town : PySem.W.plainOver K C_Town = true)
    (sa_Town : PySem.W.findIn K (.ref C_Town) "__setattr__" = some (some (.builtin "object.__setattr__")))
    (mk_Town : PySem.W.makesIn K C_Town = true)
    (kc_Town : PySem.W.keepIn K (.ref C_Town) = true)
    (n_Town_rooms : PySem.W.findIn K (.ref C_Town) "rooms" = some none)
    (n_Town_first : PySem.W.findIn K (.ref C_Town) "first" = some none)
    (n_Town_far : PySem.W.findIn K (.ref C_Town) "far" = some none)
    (n_Town_at : PySem.W.findIn K (.ref C_Town) "at" = some none)
    (n_Town_cart_room : PySem.W.findIn K (.ref C_Town) "cart_room" = some none)
    (n_Town_load : PySem.W.findIn K (.ref C_Town) "load" = some none)
    (aC_DockError : PySem.W.nsIn K mainGlobals "DockError" = some (some (.ref C_DockError)))
    (tT_DockError : PySem.W.typeIn K (.ref C_DockError) = some (.type "type"))
    (iT_DockError : PySem.W.isClsIn K C_DockError = true)
    (eT_DockError : PySem.W.subIn K (.ref C_DockError) (.type "BaseException") = some true)
    (hT_DockError : PySem.W.hasDictIn K C_DockError = true)
    (aC_BadTown : PySem.W.nsIn K mainGlobals "BadTown" = some (some (.ref C_BadTown)))
    (tT_BadTown : PySem.W.typeIn K (.ref C_BadTown) = some (.type "type"))
    (iT_BadTown : PySem.W.isClsIn K C_BadTown = true)
    (eT_BadTown : PySem.W.subIn K (.ref C_BadTown) (.type "BaseException") = some true)
    (hT_BadTown : PySem.W.hasDictIn K C_BadTown = true)
    (aC_BadDay : PySem.W.nsIn K mainGlobals "BadDay" = some (some (.ref C_BadDay)))
    (tT_BadDay : PySem.W.typeIn K (.ref C_BadDay) = some (.type "type"))
    (iT_BadDay : PySem.W.isClsIn K C_BadDay = true)
    (eT_BadDay : PySem.W.subIn K (.ref C_BadDay) (.type "BaseException") = some true)
    (hT_BadDay : PySem.W.hasDictIn K C_BadDay = true)
    (aC_BadMove : PySem.W.nsIn K mainGlobals "BadMove" = some (some (.ref C_BadMove)))
    (tT_BadMove : PySem.W.typeIn K (.ref C_BadMove) = some (.type "type"))
    (iT_BadMove : PySem.W.isClsIn K C_BadMove = true)
    (eT_BadMove : PySem.W.subIn K (.ref C_BadMove) (.type "BaseException") = some true)
    (hT_BadMove : PySem.W.hasDictIn K C_BadMove = true)
    (aC_NoPlan : PySem.W.nsIn K mainGlobals "NoPlan" = some (some (.ref C_NoPlan)))
    (tT_NoPlan : PySem.W.typeIn K (.ref C_NoPlan) = some (.type "type"))
    (iT_NoPlan : PySem.W.isClsIn K C_NoPlan = true)
    (eT_NoPlan : PySem.W.subIn K (.ref C_NoPlan) (.type "BaseException") = some true)
    (hT_NoPlan : PySem.W.hasDictIn K C_NoPlan = true)
    (aC_BadText : PySem.W.nsIn K mainGlobals "BadText" = some (some (.ref C_BadText)))
    (tT_BadText : PySem.W.typeIn K (.ref C_BadText) = some (.type "type"))
    (iT_BadText : PySem.W.isClsIn K C_BadText = true)
    (eT_BadText : PySem.W.subIn K (.ref C_BadText) (.type "BaseException") = some true)
    (hT_BadText : PySem.W.hasDictIn K C_BadText = true)
    (z_ValueError : PySem.W.nsIn K mainGlobals "ValueError" = some none)
    (bx_ga : PySem.W.specialIn K (.ref C_DockError) "__getattribute__" = some (some (.builtin "type.__getattribute__")))
    (bx_rd : PySem.W.readsIn K C_DockError (.type "type") = true)
    (bx_fi : PySem.W.findCls K (.ref C_DockError) (.type "type") "__init__" = some (.val (.builtin "ValueError.__init__")))
    (oc_hn : PySem.W.specialIn K (.builtin "object.__class__") "__get__" = some (some (.builtin "getset_descriptor.__get__")))
    (oc_ht : PySem.W.takesIn K (.builtin "object.__class__") = some true)
    (xL_BadText : K.lookup C_BadText = some (excClassObj nm_BadText q_BadText C_BadText N_BadText bs_BadText [.ref C_DockError, .type "ValueError", .type "Exception", .type "BaseException", .type "object"] true sn_BadText sub_BadText ab_BadText col_BadText dd_BadText m0_BadText m1_BadText m2_BadText m3_BadText m5_BadText "ValueError.__new__"))
    (xsa_BadText : PySem.W.findIn K (.ref C_BadText) "__setattr__" = some (some (.builtin "object.__setattr__")))
    (xeC_BadText : PySem.W.subIn K (.ref C_BadText) (.type "BaseException") = some true)
    (xtC_BadText : PySem.W.typeIn K (.ref C_BadText) = some (.type "type"))
    (xkC_BadText : PySem.W.keepIn K (.ref C_BadText) = true)
    (xga_BadText : PySem.W.findIn K (.ref C_BadText) "__getattribute__" = some (some (.builtin "BaseException.__getattribute__")))
    (xgg_BadText : PySem.W.findIn K (.ref C_BadText) "__getattr__" = some none)
    (xhd_BadText : PySem.W.hasDictIn K C_BadText = true)
    (xhc_BadText : PySem.W.findIn K (.ref C_BadText) "__class__" = some (some (.builtin "object.__class__")))
    (xhm_BadText : PySem.W.mroIn K C_BadText (.type "object") = some true)
    (xic_BadText : PySem.W.isClsIn K C_BadText = true)
    (xf_row_BadText : PySem.W.findIn K (.ref C_BadText) "row" = some none)
    (xsb_DockError_BadText : PySem.W.subIn K (.ref C_BadText) (.ref C_DockError) = some true)
    (xsb_BadTown_BadText : PySem.W.subIn K (.ref C_BadText) (.ref C_BadTown) = some false)
    (xsb_BadDay_BadText : PySem.W.subIn K (.ref C_BadText) (.ref C_BadDay) = some false)
    (xsb_BadMove_BadText : PySem.W.subIn K (.ref C_BadText) (.ref C_BadMove) = some false)
    (xsb_NoPlan_BadText : PySem.W.subIn K (.ref C_BadText) (.ref C_NoPlan) = some false)
    (xsb_BadText_BadText : PySem.W.subIn K (.ref C_BadText) (.ref C_BadText) = some true)
    (xsb_ValueError_BadText : PySem.W.subIn K (.ref C_BadText) (.type "ValueError") = some true)
    (xL_BadTown : K.lookup C_BadTown = some (excClassObj nm_BadTown q_BadTown C_BadTown N_BadTown bs_BadTown [.ref C_DockError, .type "ValueError", .type "Exception", .type "BaseException", .type "object"] true sn_BadTown sub_BadTown ab_BadTown col_BadTown dd_BadTown m0_BadTown m1_BadTown m2_BadTown m3_BadTown m5_BadTown "ValueError.__new__"))
    (xsa_BadTown : PySem.W.findIn K (.ref C_BadTown) "__setattr__" = some (some (.builtin "object.__setattr__")))
    (xeC_BadTown : PySem.W.subIn K (.ref C_BadTown) (.type "BaseException") = some true)
    (xtC_BadTown : PySem.W.typeIn K (.ref C_BadTown) = some (.type "type"))
    (xkC_BadTown : PySem.W.keepIn K (.ref C_BadTown) = true)
    (xga_BadTown : PySem.W.findIn K (.ref C_BadTown) "__getattribute__" = some (some (.builtin "BaseException.__getattribute__")))
    (xgg_BadTown : PySem.W.findIn K (.ref C_BadTown) "__getattr__" = some none)
    (xhd_BadTown : PySem.W.hasDictIn K C_BadTown = true)
    (xhc_BadTown : PySem.W.findIn K (.ref C_BadTown) "__class__" = some (some (.builtin "object.__class__")))
    (xhm_BadTown : PySem.W.mroIn K C_BadTown (.type "object") = some true)
    (xic_BadTown : PySem.W.isClsIn K C_BadTown = true)
    (xf_word_BadTown : PySem.W.findIn K (.ref C_BadTown) "word" = some none)
    (xf_number_BadTown : PySem.W.findIn K (.ref C_BadTown) "number" = some none)
    (xsb_DockError_BadTown : PySem.W.subIn K (.ref C_BadTown) (.ref C_DockError) = some true)
    (xsb_BadTown_BadTown : PySem.W.subIn K (.ref C_BadTown) (.ref C_BadTown) = some true)
    (xsb_BadDay_BadTown : PySem.W.subIn K (.ref C_BadTown) (.ref C_BadDay) = some false)
    (xsb_BadMove_BadTown : PySem.W.subIn K (.ref C_BadTown) (.ref C_BadMove) = some false)
    (xsb_NoPlan_BadTown : PySem.W.subIn K (.ref C_BadTown) (.ref C_NoPlan) = some false)
    (xsb_BadText_BadTown : PySem.W.subIn K (.ref C_BadTown) (.ref C_BadText) = some false)
    (xsb_ValueError_BadTown : PySem.W.subIn K (.ref C_BadTown) (.type "ValueError") = some true)
    (a_BadTown_init : PySem.W.findIn K (.ref C_BadTown) "__init__" = some (some (.ref f_BadTown_init)))
    (i_BadTown_init : PySem.W.typeIn K (.ref f_BadTown_init) = some (.type "function"))
    (l_BadTown_init : K.lookup f_BadTown_init = some ⟨oc_BadTown_init, od_BadTown_init, .func (PySem.W.fnOf "__init__" "BadTown.__init__" (defArgs s_BadTown_init) (defBody s_BadTown_init) (defScope s_BadTown_init) .none kV_BadTown_init dc_BadTown_init pm_BadTown_init an_BadTown_init cd_BadTown_init ct_BadTown_init), sl_BadTown_init⟩)
    (c_BadTown_init : PySem.W.codeIn K cd_BadTown_init "BadTown.__init__" = true)
    (k_BadTown_init : PySem.W.keepIn K (.ref f_BadTown_init) = true)
    (a_BadText_init : PySem.W.findIn K (.ref C_BadText) "__init__" = some (some (.ref f_BadText_init)))
    (i_BadText_init : PySem.W.typeIn K (.ref f_BadText_init) = some (.type "function"))
    (l_BadText_init : K.lookup f_BadText_init = some ⟨oc_BadText_init, od_BadText_init, .func (PySem.W.fnOf "__init__" "BadText.__init__" (defArgs s_BadText_init) (defBody s_BadText_init) (defScope s_BadText_init) .none kV_BadText_init dc_BadText_init pm_BadText_init an_BadText_init cd_BadText_init ct_BadText_init), sl_BadText_init⟩)
    (c_BadText_init : PySem.W.codeIn K cd_BadText_init "BadText.__init__" = true)
    (k_BadText_init : PySem.W.keepIn K (.ref f_BadText_init) = true)
    (a_must_be : PySem.W.nsIn K mainGlobals "must_be" = some (some (.ref f_must_be)))
    (l_must_be : K.lookup f_must_be = some ⟨oc_must_be, od_must_be, .func (PySem.W.fnOf "must_be" "must_be" (defArgs s_must_be) (defBody s_must_be) (defScope s_must_be) .none kV_must_be dc_must_be pm_must_be an_must_be cd_must_be ct_must_be), sl_must_be⟩)
    (c_must_be : PySem.W.codeIn K cd_must_be "must_be" = true)
    (k_must_be : PySem.W.keepIn K (.ref f_must_be) = true)
    (a_Town_many : PySem.W.findIn K (.ref C_Town) "many" = some (some (.ref f_Town_many)))
    (i_Town_many : PySem.W.isFn K (.ref f_Town_many) = true)
    (l_Town_many : K.lookup f_Town_many = some ⟨oc_Town_many, od_Town_many, .func (PySem.W.fnOf "many" "Town.many" (defArgs s_Town_many) (defBody s_Town_many) (defScope s_Town_many) .none kV_Town_many dc_Town_many pm_Town_many an_Town_many cd_Town_many ct_Town_many), sl_Town_many⟩)
    (c_Town_many : PySem.W.codeIn K cd_Town_many "Town.many" = true)
    (k_Town_many : PySem.W.keepIn K (.ref f_Town_many) = true)
    (a_Town_init : PySem.W.findIn K (.ref C_Town) "__init__" = some (some (.ref f_Town_init)))
    (i_Town_init : PySem.W.isFn K (.ref f_Town_init) = true)
    (l_Town_init : K.lookup f_Town_init = some ⟨oc_Town_init, od_Town_init, .func (PySem.W.fnOf "__init__" "Town.__init__" (defArgs s_Town_init) (defBody s_Town_init) (defScope s_Town_init) .none kV_Town_init dc_Town_init pm_Town_init an_Town_init cd_Town_init ct_Town_init), sl_Town_init⟩)
    (c_Town_init : PySem.W.codeIn K cd_Town_init "Town.__init__" = true)
    (k_Town_init : PySem.W.keepIn K (.ref f_Town_init) = true)
    (a_number_of : PySem.W.nsIn K mainGlobals "number_of" = some (some (.ref f_number_of)))
    (l_number_of : K.lookup f_number_of = some ⟨oc_number_of, od_number_of, .func (PySem.W.fnOf "number_of" "number_of" (defArgs s_number_of) (defBody s_number_of) (defScope s_number_of) .none kV_number_of dc_number_of pm_number_of an_number_of cd_number_of ct_number_of), sl_number_of⟩)
    (c_number_of : PySem.W.codeIn K cd_number_of "number_of" = true)
    (k_number_of : PySem.W.keepIn K (.ref f_number_of) = true)
    (a_read : PySem.W.nsIn K mainGlobals "read" = some (some (.ref f_read)))
    (l_read : K.lookup f_read = some ⟨oc_read, od_read, .func (PySem.W.fnOf "read" "read" (defArgs s_read) (defBody s_read) (defScope s_read) .none kV_read dc_read pm_read an_read cd_read ct_read), sl_read⟩)
    (c_read : PySem.W.codeIn K cd_read "read" = true)
    (k_read : PySem.W.keepIn K (.ref f_read) = true)
    (a_Lbegun : PySem.W.nsIn K mainGlobals "_law_begun" = some (some (.ref f_Lbegun)))
    (l_Lbegun : K.lookup f_Lbegun = some ⟨oc_Lbegun, od_Lbegun, .func (PySem.W.fnOf "_law_begun" "_law_begun" (defArgs s_Lbegun) (defBody s_Lbegun) (defScope s_Lbegun) .none kV_Lbegun dc_Lbegun pm_Lbegun an_Lbegun cd_Lbegun ct_Lbegun), sl_Lbegun⟩)
    (c_Lbegun : PySem.W.codeIn K cd_Lbegun "_law_begun" = true)
    (k_Lbegun : PySem.W.keepIn K (.ref f_Lbegun) = true)
    (a_Ltake : PySem.W.nsIn K mainGlobals "_law_take" = some (some (.ref f_Ltake)))
    (l_Ltake : K.lookup f_Ltake = some ⟨oc_Ltake, od_Ltake, .func (PySem.W.fnOf "_law_take" "_law_take" (defArgs s_Ltake) (defBody s_Ltake) (defScope s_Ltake) .none kV_Ltake dc_Ltake pm_Ltake an_Ltake cd_Ltake ct_Ltake), sl_Ltake⟩)
    (c_Ltake : PySem.W.codeIn K cd_Ltake "_law_take" = true)
    (k_Ltake : PySem.W.keepIn K (.ref f_Ltake) = true)
    (a_Ltown : PySem.W.nsIn K mainGlobals "_law_town" = some (some (.ref f_Ltown)))
    (l_Ltown : K.lookup f_Ltown = some ⟨oc_Ltown, od_Ltown, .func (PySem.W.fnOf "_law_town" "_law_town" (defArgs s_Ltown) (defBody s_Ltown) (defScope s_Ltown) .none kV_Ltown dc_Ltown pm_Ltown an_Ltown cd_Ltown ct_Ltown), sl_Ltown⟩)
    (c_Ltown : PySem.W.codeIn K cd_Ltown "_law_town" = true)
    (k_Ltown : PySem.W.keepIn K (.ref f_Ltown) = true)
    (a_Llines : PySem.W.nsIn K mainGlobals "_law_lines" = some (some (.ref f_Llines)))
    (l_Llines : K.lookup f_Llines = some ⟨oc_Llines, od_Llines, .func (PySem.W.fnOf "_law_lines" "_law_lines" (defArgs s_Llines) (defBody s_Llines) (defScope s_Llines) .none kV_Llines dc_Llines pm_Llines an_Llines cd_Llines ct_Llines), sl_Llines⟩)
    (c_Llines : PySem.W.codeIn K cd_Llines "_law_lines" = true)
    (k_Llines : PySem.W.keepIn K (.ref f_Llines) = true)
    (a_Lrefused : PySem.W.nsIn K mainGlobals "_law_refused" = some (some (.ref f_Lrefused)))
    (l_Lrefused : K.lookup f_Lrefused = some ⟨oc_Lrefused, od_Lrefused, .func (PySem.W.fnOf "_law_refused" "_law_refused" (defArgs s_Lrefused) (defBody s_Lrefused) (defScope s_Lrefused) .none kV_Lrefused dc_Lrefused pm_Lrefused an_Lrefused cd_Lrefused ct_Lrefused), sl_Lrefused⟩)
    (c_Lrefused : PySem.W.codeIn K cd_Lrefused "_law_refused" = true)
    (k_Lrefused : PySem.W.keepIn K (.ref f_Lrefused) = true)
    (a_Lnone : PySem.W.nsIn K mainGlobals "_law_none" = some (some (.ref f_Lnone)))
    (l_Lnone : K.lookup f_Lnone = some ⟨oc_Lnone, od_Lnone, .func (PySem.W.fnOf "_law_none" "_law_none" (defArgs s_Lnone) (defBody s_Lnone) (defScope s_Lnone) .none kV_Lnone dc_Lnone pm_Lnone an_Lnone cd_Lnone ct_Lnone), sl_Lnone⟩)
    (c_Lnone : PySem.W.codeIn K cd_Lnone "_law_none" = true)
    (k_Lnone : PySem.W.keepIn K (.ref f_Lnone) = true)
    (a_law : PySem.W.nsIn K mainGlobals "law" = some (some (.ref f_law)))
    (l_law : K.lookup f_law = some ⟨oc_law, od_law, .func (PySem.W.fnOf "law" "law" (defArgs s_law) (defBody s_law) (defScope s_law) .none kV_law dc_law pm_law an_law cd_law ct_law), sl_law⟩)
    (c_law : PySem.W.codeIn K cd_law "law" = true)
    (k_law : PySem.W.keepIn K (.ref f_law) = true)
    (z_len : PySem.W.nsIn K mainGlobals "len" = some none)
    (z_range : PySem.W.nsIn K mainGlobals "range" = some none)
    (z_enumerate : PySem.W.nsIn K mainGlobals "enumerate" = some none)
    (z_min : PySem.W.nsIn K mainGlobals "min" = some none)
    (z_max : PySem.W.nsIn K mainGlobals "max" = some none)
    (z_int : PySem.W.nsIn K mainGlobals "int" = some none)
    (z_str : PySem.W.nsIn K mainGlobals "str" = some none)
    (z_list : PySem.W.nsIn K mainGlobals "list" = some none)
    (z_tuple : PySem.W.nsIn K mainGlobals "tuple" = some none)
    (z_sum : PySem.W.nsIn K mainGlobals "sum" = some none)
    (z_sorted : PySem.W.nsIn K mainGlobals "sorted" = some none)
    (z_bool : PySem.W.nsIn K mainGlobals "bool" = some none)
    (z_isinstance : PySem.W.nsIn K mainGlobals "isinstance" = some none)
    (g_MOST_DOCKS : PySem.W.nsIn K mainGlobals "MOST_DOCKS" = some (some (.int 4 t_MOST_DOCKS)))
    (g_MOST_ROOM : PySem.W.nsIn K mainGlobals "MOST_ROOM" = some (some (.int 9 t_MOST_ROOM)))
    (g_MOST_WAY : PySem.W.nsIn K mainGlobals "MOST_WAY" = some (some (.int 99 t_MOST_WAY)))
    (g_SORTS : PySem.W.nsIn K mainGlobals "SORTS" = some (some (.ref q_SORTS)))
    (h_SORTS : K.lookup q_SORTS = some ⟨.type "tuple", none, .seq #[.str "dock" t0_SORTS, .str "way" t1_SORTS, .str "cart" t2_SORTS] n_SORTS, sl_SORTS⟩)
    (g_FIGURES : PySem.W.nsIn K mainGlobals "FIGURES" = some (some (.str "0123456789" t_FIGURES))) :
    ∃ fd : FuncData, (∀ (s : Shared) (v : Value), BindsTo s fd ⟨[v], []⟩ [("_law_script", v)]) ∧ ∀ base : Heap, K.In base → base.Ns mainGlobals mg → FnOk l.prog w K mg base (L2.CX l.prog w) 8 fa fd ["_law_script"] (spL K) := by
  have e := hfa.symm.trans (PySem.W.mg_of X G a_law)
  cases e
  let c : Cs := { DockError := C_DockError, BadTown := C_BadTown, BadDay := C_BadDay, BadMove := C_BadMove, NoPlan := C_NoPlan, BadText := C_BadText, Town := C_Town }
  have B : Bi mg := { b_len := PySem.W.mg_none_of X G z_len, b_range := PySem.W.mg_none_of X G z_range, b_enumerate := PySem.W.mg_none_of X G z_enumerate, b_min := PySem.W.mg_none_of X G z_min, b_max := PySem.W.mg_none_of X G z_max, b_int := PySem.W.mg_none_of X G z_int, b_str := PySem.W.mg_none_of X G z_str, b_list := PySem.W.mg_none_of X G z_list, b_tuple := PySem.W.mg_none_of X G z_tuple, b_sum := PySem.W.mg_none_of X G z_sum, b_sorted := PySem.W.mg_none_of X G z_sorted, b_bool := PySem.W.mg_none_of X G z_bool, b_isinstance := PySem.W.mg_none_of X G z_isinstance }
  have BX : BaseX K mg C_DockError := ⟨PySem.W.mg_of X G aC_DockError, bx_ga, bx_rd, bx_fi⟩
  have XT_BadText : XcT K C_BadText := ⟨⟨⟨nm_BadText, q_BadText, N_BadText, bs_BadText, _, sn_BadText, sub_BadText, ab_BadText, col_BadText, dd_BadText, m0_BadText, m1_BadText, m2_BadText, m3_BadText, m5_BadText, xL_BadText, by rfl⟩, xsa_BadText, xeC_BadText, xtC_BadText, xkC_BadText⟩, ⟨xga_BadText, xgg_BadText, xeC_BadText, xhd_BadText, xhc_BadText, oc_hn, oc_ht, xhm_BadText⟩, xic_BadText, ⟨xga_BadText, xgg_BadText, xeC_BadText, xhd_BadText⟩⟩
  have XT_BadTown : XcT K C_BadTown := ⟨⟨⟨nm_BadTown, q_BadTown, N_BadTown, bs_BadTown, _, sn_BadTown, sub_BadTown, ab_BadTown, col_BadTown, dd_BadTown, m0_BadTown, m1_BadTown, m2_BadTown, m3_BadTown, m5_BadTown, xL_BadTown, by rfl⟩, xsa_BadTown, xeC_BadTown, xtC_BadTown, xkC_BadTown⟩, ⟨xga_BadTown, xgg_BadTown, xeC_BadTown, xhd_BadTown, xhc_BadTown, oc_hn, oc_ht, xhm_BadTown⟩, xic_BadTown, ⟨xga_BadTown, xgg_BadTown, xeC_BadTown, xhd_BadTown⟩⟩
  have TX : Tx K mg c := { cl_Town := ⟨pg_Town, hd_Town, po_Town, sa_Town⟩, mg_Town := PySem.W.mg_of X G aC_Town, n_Town_rooms := n_Town_rooms, n_Town_first := n_Town_first, n_Town_far := n_Town_far, n_Town_at := n_Town_at, n_Town_cart_room := n_Town_cart_room, n_Town_load := n_Town_load, xt_BadText := XT_BadText, nx_BadText_row := xf_row_BadText, xt_BadTown := XT_BadTown, nx_BadTown_word := xf_word_BadTown, nx_BadTown_number := xf_number_BadTown, z_ValueError := PySem.W.mg_none_of X G z_ValueError, mg_DockError := PySem.W.mg_of X G aC_DockError, em_DockError := (by intro p hp; simp only [List.mem_cons, List.not_mem_nil, or_false] at hp; rcases hp with rfl | rfl; exact PySem.W.exm_ref eT_DockError hT_DockError tT_DockError xsb_DockError_BadText; exact PySem.W.exm_ref eT_DockError hT_DockError tT_DockError xsb_DockError_BadTown), is_DockError := (by intro p hp; simp only [List.mem_cons, List.not_mem_nil, or_false] at hp; rcases hp with rfl | rfl; exact ⟨XT_BadText.ec, XT_BadText.cl, kit_own xsb_BadText_BadText iT_DockError tT_DockError xsb_DockError_BadText⟩; exact ⟨XT_BadTown.ec, XT_BadTown.cl, kit_own xsb_BadTown_BadTown iT_DockError tT_DockError xsb_DockError_BadTown⟩), mg_BadTown := PySem.W.mg_of X G aC_BadTown, em_BadTown := (by intro p hp; simp only [List.mem_cons, List.not_mem_nil, or_false] at hp; rcases hp with rfl | rfl; exact PySem.W.exm_ref eT_BadTown hT_BadTown tT_BadTown xsb_BadTown_BadText; exact PySem.W.exm_ref eT_BadTown hT_BadTown tT_BadTown xsb_BadTown_BadTown), is_BadTown := (by intro p hp; simp only [List.mem_cons, List.not_mem_nil, or_false] at hp; rcases hp with rfl | rfl; exact ⟨XT_BadText.ec, XT_BadText.cl, kit_own xsb_BadText_BadText iT_BadTown tT_BadTown xsb_BadTown_BadText⟩; exact ⟨XT_BadTown.ec, XT_BadTown.cl, kit_own xsb_BadTown_BadTown iT_BadTown tT_BadTown xsb_BadTown_BadTown⟩), mg_BadDay := PySem.W.mg_of X G aC_BadDay, em_BadDay := (by intro p hp; simp only [List.mem_cons, List.not_mem_nil, or_false] at hp; rcases hp with rfl | rfl; exact PySem.W.exm_ref eT_BadDay hT_BadDay tT_BadDay xsb_BadDay_BadText; exact PySem.W.exm_ref eT_BadDay hT_BadDay tT_BadDay xsb_BadDay_BadTown), is_BadDay := (by intro p hp; simp only [List.mem_cons, List.not_mem_nil, or_false] at hp; rcases hp with rfl | rfl; exact ⟨XT_BadText.ec, XT_BadText.cl, kit_own xsb_BadText_BadText iT_BadDay tT_BadDay xsb_BadDay_BadText⟩; exact ⟨XT_BadTown.ec, XT_BadTown.cl, kit_own xsb_BadTown_BadTown iT_BadDay tT_BadDay xsb_BadDay_BadTown⟩), mg_BadMove := PySem.W.mg_of X G aC_BadMove, em_BadMove := (by intro p hp; simp only [List.mem_cons, List.not_mem_nil, or_false] at hp; rcases hp with rfl | rfl; exact PySem.W.exm_ref eT_BadMove hT_BadMove tT_BadMove xsb_BadMove_BadText; exact PySem.W.exm_ref eT_BadMove hT_BadMove tT_BadMove xsb_BadMove_BadTown), is_BadMove := (by intro p hp; simp only [List.mem_cons, List.not_mem_nil, or_false] at hp; rcases hp with rfl | rfl; exact ⟨XT_BadText.ec, XT_BadText.cl, kit_own xsb_BadText_BadText iT_BadMove tT_BadMove xsb_BadMove_BadText⟩; exact ⟨XT_BadTown.ec, XT_BadTown.cl, kit_own xsb_BadTown_BadTown iT_BadMove tT_BadMove xsb_BadMove_BadTown⟩), mg_NoPlan := PySem.W.mg_of X G aC_NoPlan, em_NoPlan := (by intro p hp; simp only [List.mem_cons, List.not_mem_nil, or_false] at hp; rcases hp with rfl | rfl; exact PySem.W.exm_ref eT_NoPlan hT_NoPlan tT_NoPlan xsb_NoPlan_BadText; exact PySem.W.exm_ref eT_NoPlan hT_NoPlan tT_NoPlan xsb_NoPlan_BadTown), is_NoPlan := (by intro p hp; simp only [List.mem_cons, List.not_mem_nil, or_false] at hp; rcases hp with rfl | rfl; exact ⟨XT_BadText.ec, XT_BadText.cl, kit_own xsb_BadText_BadText iT_NoPlan tT_NoPlan xsb_NoPlan_BadText⟩; exact ⟨XT_BadTown.ec, XT_BadTown.cl, kit_own xsb_BadTown_BadTown iT_NoPlan tT_NoPlan xsb_NoPlan_BadTown⟩), mg_BadText := PySem.W.mg_of X G aC_BadText, em_BadText := (by intro p hp; simp only [List.mem_cons, List.not_mem_nil, or_false] at hp; rcases hp with rfl | rfl; exact PySem.W.exm_ref eT_BadText hT_BadText tT_BadText xsb_BadText_BadText; exact PySem.W.exm_ref eT_BadText hT_BadText tT_BadText xsb_BadText_BadTown), is_BadText := (by intro p hp; simp only [List.mem_cons, List.not_mem_nil, or_false] at hp; rcases hp with rfl | rfl; exact ⟨XT_BadText.ec, XT_BadText.cl, kit_own xsb_BadText_BadText iT_BadText tT_BadText xsb_BadText_BadText⟩; exact ⟨XT_BadTown.ec, XT_BadTown.cl, kit_own xsb_BadTown_BadTown iT_BadText tT_BadText xsb_BadText_BadTown⟩), is_ValueError := (by intro p hp; simp only [List.mem_cons, List.not_mem_nil, or_false] at hp; rcases hp with rfl | rfl; exact ⟨XT_BadText.ec, XT_BadText.cl, kit_ve xsb_ValueError_BadText⟩; exact ⟨XT_BadTown.ec, XT_BadTown.cl, kit_ve xsb_ValueError_BadTown⟩), c_MOST_DOCKS := ⟨_, PySem.W.mg_of X G g_MOST_DOCKS⟩, c_MOST_ROOM := ⟨_, PySem.W.mg_of X G g_MOST_ROOM⟩, c_MOST_WAY := ⟨_, PySem.W.mg_of X G g_MOST_WAY⟩, c_SORTS := ⟨_, PySem.W.mg_of X G g_SORTS, _, _, _, h_SORTS, rfl, rfl, rfl, by show 3 ≤ sizeLine; decide, (.cons ⟨_, rfl⟩ (.cons ⟨_, rfl⟩ (.cons ⟨_, rfl⟩ .nil)))⟩, c_FIGURES := ⟨_, PySem.W.mg_of X G g_FIGURES⟩ }
  have F_BadTown_init := fun_mk (st := s_BadTown_init) l_BadTown_init c_BadTown_init k_BadTown_init
  have b_BadTown_init := F_BadTown_init.binds (ps := ["self", "word", "number"]) fun _ _ _ _ _ _ us hl => match us, hl with | [_, _, _], _ => rfl
  have F_BadText_init := fun_mk (st := s_BadText_init) l_BadText_init c_BadText_init k_BadText_init
  have b_BadText_init := F_BadText_init.binds (ps := ["self", "row"]) fun _ _ _ _ _ _ us hl => match us, hl with | [_, _], _ => rfl
  have F_must_be := fun_mk (st := s_must_be) l_must_be c_must_be k_must_be
  have b_must_be := F_must_be.binds (ps := ["good", "word", "number"]) fun _ _ _ _ _ _ us hl => match us, hl with | [_, _, _], _ => rfl
  have F_Town_many := fun_mk (st := s_Town_many) l_Town_many c_Town_many k_Town_many
  have b_Town_many := F_Town_many.binds (ps := ["self"]) fun _ _ _ _ _ _ us hl => match us, hl with | [_], _ => rfl
  have F_Town_init := fun_mk (st := s_Town_init) l_Town_init c_Town_init k_Town_init
  have b_Town_init := F_Town_init.binds (ps := ["self", "docks", "ways", "cart"]) fun _ _ _ _ _ _ us hl => match us, hl with | [_, _, _, _], _ => rfl
  have F_number_of := fun_mk (st := s_number_of) l_number_of c_number_of k_number_of
  have b_number_of := F_number_of.binds (ps := ["word", "row"]) fun _ _ _ _ _ _ us hl => match us, hl with | [_, _], _ => rfl
  have F_read := fun_mk (st := s_read) l_read c_read k_read
  have b_read := F_read.binds (ps := ["text"]) fun _ _ _ _ _ _ us hl => match us, hl with | [_], _ => rfl
  have F_Lbegun := fun_mk (st := s_Lbegun) l_Lbegun c_Lbegun k_Lbegun
  have b_Lbegun := F_Lbegun.binds (ps := ["_law_script"]) fun _ _ _ _ _ _ us hl => match us, hl with | [_], _ => rfl
  have F_Ltake := fun_mk (st := s_Ltake) l_Ltake c_Ltake k_Ltake
  have b_Ltake := F_Ltake.binds (ps := ["_law_box", "_law_many"]) fun _ _ _ _ _ _ us hl => match us, hl with | [_, _], _ => rfl
  have F_Ltown := fun_mk (st := s_Ltown) l_Ltown c_Ltown k_Ltown
  have b_Ltown := F_Ltown.binds (ps := ["_law_box", "_law_most", "_law_room", "_law_load"]) fun _ _ _ _ _ _ us hl => match us, hl with | [_, _, _, _], _ => rfl
  have F_Llines := fun_mk (st := s_Llines) l_Llines c_Llines k_Llines
  have b_Llines := F_Llines.binds (ps := ["_law_rows"]) fun _ _ _ _ _ _ us hl => match us, hl with | [_], _ => rfl
  have F_Lrefused := fun_mk (st := s_Lrefused) l_Lrefused c_Lrefused k_Lrefused
  have b_Lrefused := F_Lrefused.binds (ps := ["_law_lines_here"]) fun _ _ _ _ _ _ us hl => match us, hl with | [_], _ => rfl
  have F_Lnone := fun_mk (st := s_Lnone) l_Lnone c_Lnone k_Lnone
  have b_Lnone := F_Lnone.binds (ps := ["_law_box"]) fun _ _ _ _ _ _ us hl => match us, hl with | [_], _ => rfl
  have F_law := fun_mk (st := s_law) l_law c_law k_law
  refine ⟨PySem.W.fnOf "law" "law" (defArgs s_law) (defBody s_law) (defScope s_law) .none kV_law dc_law pm_law an_law cd_law ct_law, fun s v => .of_eq rfl, fun base _ _ => ?_⟩
  have ex_BadTown := ok_BadTown_init (P := l.prog) (w := w) (base := base) (c := c) BX XT_BadTown.ox F_BadTown_init xf_word_BadTown xf_number_BadTown a_BadTown_init i_BadTown_init (PySem.W.mg_of X G aC_BadTown) b_BadTown_init
  have ex_BadText := ok_BadText_init (P := l.prog) (w := w) (base := base) (c := c) BX XT_BadText.ox F_BadText_init xf_row_BadText a_BadText_init i_BadText_init (PySem.W.mg_of X G aC_BadText) b_BadText_init
  have ec_must_be := ok_must_be (P := l.prog) (w := w) (base := base) (c := c) B TX F_must_be (PySem.W.mg_of X G a_must_be) b_must_be ex_BadTown
  have ec_Town_many := ok_Town_many (P := l.prog) (w := w) (base := base) (c := c) B TX F_Town_many ⟨a_Town_many, i_Town_many, k_Town_many⟩ b_Town_many 
  have ek_Town := ok_Town_init (P := l.prog) (w := w) (base := base) (c := c) B TX F_Town_init ⟨mk_Town, a_Town_init, i_Town_init, kc_Town⟩ TX.mg_Town b_Town_init ec_must_be
  have ec_number_of := ok_number_of (P := l.prog) (w := w) (base := base) (c := c) B TX F_number_of (PySem.W.mg_of X G a_number_of) b_number_of ex_BadText
  have ec_read := ok_read (P := l.prog) (w := w) (base := base) (c := c) B TX F_read (PySem.W.mg_of X G a_read) b_read ex_BadText ec_number_of ek_Town
  have ec_Lbegun := ok_Lbegun (P := l.prog) (w := w) (base := base) (c := c) B TX F_Lbegun (PySem.W.mg_of X G a_Lbegun) b_Lbegun 
  have ec_Ltake := ok_Ltake (P := l.prog) (w := w) (base := base) (c := c) B TX F_Ltake (PySem.W.mg_of X G a_Ltake) b_Ltake 
  have ec_Ltown := ok_Ltown (P := l.prog) (w := w) (base := base) (c := c) B TX F_Ltown (PySem.W.mg_of X G a_Ltown) b_Ltown ec_Ltake
  have ec_Llines := ok_Llines (P := l.prog) (w := w) (base := base) (c := c) B TX F_Llines (PySem.W.mg_of X G a_Llines) b_Llines 
  have ec_Lrefused := ok_Lrefused (P := l.prog) (w := w) (base := base) (c := c) B TX F_Lrefused (PySem.W.mg_of X G a_Lrefused) b_Lrefused ec_read
  have ec_Lnone := ok_Lnone (P := l.prog) (w := w) (base := base) (c := c) B TX F_Lnone (PySem.W.mg_of X G a_Lnone) b_Lnone ec_Ltake
  have hne : c.BadText ≠ c.BadTown := fun q => by
    have a : PySem.W.kitOne K (.ref c.BadText) (.ref c.BadTown) = some false := (TX.is_BadTown (c.BadText, false) List.mem_cons_self).2.2
    have b : PySem.W.kitOne K (.ref c.BadTown) (.ref c.BadTown) = some true := (TX.is_BadTown (c.BadTown, true) (List.mem_cons_of_mem _ List.mem_cons_self)).2.2
    rw [q, b] at a
    cases a
  exact (ok_law (c := c) B TX F_law ec_Lbegun ec_Ltown ec_Llines ec_Lnone ec_Ltake ec_Lrefused).imp (spL_imp K c hne)
theorem walk {l : PySem.W.OpenLaw} {q : Program} {loose : List Str} {XP : (Str → Option Value) → Heap → Prop} {YP : World → Heap → Prop} {d : DefRec} {K : Params → PySem.W.Frag} (hn : l.most = some 63) (hdf : d.params.defaults = [])
    (hY : ∀ (w : World) (h : Heap), YP w h → (K w.params).In h)
    (F : ∀ (w : World) (mg : Str → Option Value) (fa : Addr) (h : Heap), (K w.params).In h → h.Ns mainGlobals mg → mg d.name = some (.ref fa) →
      ∃ fd : FuncData, (∀ (s : Shared) (u : Value), BindsTo s fd ⟨[u], []⟩ [("_law_script", u)]) ∧ ∀ base : Heap, (K w.params).In base → base.Ns mainGlobals mg → FnOk l.prog w (K w.params) mg base (L2.CX l.prog w) 8 fa fd ["_law_script"] (spL (K w.params))) :
    PySem.W.WalkO q loose XP YP l.row.toRowW d [] (fun f vs => PySem.call f vs) :=
  L2.walk_of (n := 63) (k := 8) (x := "_law_script") (CX := fun w => L2.CX l.prog w) (sp := fun w => spL (K w.params)) hn (by decide) hdf ⟨rfl, by decide, by decide⟩ hY F (fun _ _ a ns hl _ hS => ⟨a, ns, rfl, hl, hS, fun _ => rfl⟩) fun _ _ _ _ _ h => by
    obtain ⟨_, _, _, _, _, _, _, _, _, _, _, _, z⟩ := h
    exact z.elim
end Fw
open PySem PySem.W PyProof.Rows
set_option maxRecDepth 100000 in
set_option maxHeartbeats 0 in
theorem PySem.Challenge.cw_bikedocks_k14_texts_refused_holds : PySem.Challenge.rw_bikedocks_k14_texts_refused.Holds := by
  w_on; o_law; k_head; (case hw => w_witness2)
  k_fill
  refine Fw.walk (l := PySem.Challenge.rw_bikedocks_k14_texts_refused) rfl rfl (fun w h Y => PySem.W.kIn_of Y) ?F
  case F =>
    intro w mg fa h KX G hmg
    refine' Fw.all_mk KX G hmg ?aC_Town ?pg_Town ?hd_Town ?po_Town ?sa_Town ?mk_Town ?kc_Town ?n_Town_rooms ?n_Town_first ?n_Town_far ?n_Town_at ?n_Town_cart_room ?n_Town_load ?aC_DockError ?tT_DockError ?iT_DockError ?eT_DockError ?hT_DockError ?aC_BadTown ?tT_BadTown ?iT_BadTown ?eT_BadTown ?hT_BadTown ?aC_BadDay ?tT_BadDay ?iT_BadDay ?eT_BadDay ?hT_BadDay ?aC_BadMove ?tT_BadMove ?iT_BadMove ?eT_BadMove ?hT_BadMove ?aC_NoPlan ?tT_NoPlan ?iT_NoPlan ?eT_NoPlan ?hT_NoPlan ?aC_BadText ?tT_BadText ?iT_BadText ?eT_BadText ?hT_BadText ?z_ValueError ?bx_ga ?bx_rd ?bx_fi ?oc_hn ?oc_ht ?xL_BadText ?xsa_BadText ?xeC_BadText ?xtC_BadText ?xkC_BadText ?xga_BadText ?xgg_BadText ?xhd_BadText ?xhc_BadText ?xhm_BadText ?xic_BadText ?xf_row_BadText ?xsb_DockError_BadText ?xsb_BadTown_BadText ?xsb_BadDay_BadText ?xsb_BadMove_BadText ?xsb_NoPlan_BadText ?xsb_BadText_BadText ?xsb_ValueError_BadText ?xL_BadTown ?xsa_BadTown ?xeC_BadTown ?xtC_BadTown ?xkC_BadTown ?xga_BadTown ?xgg_BadTown ?xhd_BadTown ?xhc_BadTown ?xhm_BadTown ?xic_BadTown ?xf_word_BadTown ?xf_number_BadTown ?xsb_DockError_BadTown ?xsb_BadTown_BadTown ?xsb_BadDay_BadTown ?xsb_BadMove_BadTown ?xsb_NoPlan_BadTown ?xsb_BadText_BadTown ?xsb_ValueError_BadTown ?a_BadTown_init ?i_BadTown_init ?l_BadTown_init ?c_BadTown_init ?k_BadTown_init ?a_BadText_init ?i_BadText_init ?l_BadText_init ?c_BadText_init ?k_BadText_init ?a_must_be ?l_must_be ?c_must_be ?k_must_be ?a_Town_many ?i_Town_many ?l_Town_many ?c_Town_many ?k_Town_many ?a_Town_init ?i_Town_init ?l_Town_init ?c_Town_init ?k_Town_init ?a_number_of ?l_number_of ?c_number_of ?k_number_of ?a_read ?l_read ?c_read ?k_read ?a_Lbegun ?l_Lbegun ?c_Lbegun ?k_Lbegun ?a_Ltake ?l_Ltake ?c_Ltake ?k_Ltake ?a_Ltown ?l_Ltown ?c_Ltown ?k_Ltown ?a_Llines ?l_Llines ?c_Llines ?k_Llines ?a_Lrefused ?l_Lrefused ?c_Lrefused ?k_Lrefused ?a_Lnone ?l_Lnone ?c_Lnone ?k_Lnone ?a_law ?l_law ?c_law ?k_law ?z_len ?z_range ?z_enumerate ?z_min ?z_max ?z_int ?z_str ?z_list ?z_tuple ?z_sum ?z_sorted ?z_bool ?z_isinstance ?g_MOST_DOCKS ?g_MOST_ROOM ?g_MOST_WAY ?g_SORTS ?h_SORTS ?g_FIGURES
    (case aC_Town => k_is)
    (case pg_Town => k_is)
    (case hd_Town => k_is)
    (case po_Town => k_is)
    (case sa_Town => k_is)
    (case mk_Town => k_is)
    (case kc_Town => k_is)
    (case n_Town_rooms => k_is)
    (case n_Town_first => k_is)
    (case n_Town_far => k_is)
    (case n_Town_at => k_is)
    (case n_Town_cart_room => k_is)
    (case n_Town_load => k_is)
    (case aC_DockError => k_is)
    (case tT_DockError => k_is)
    (case iT_DockError => k_is)
    (case eT_DockError => k_is)
    (case hT_DockError => k_is)
    (case aC_BadTown => k_is)
    (case tT_BadTown => k_is)
    (case iT_BadTown => k_is)
    (case eT_BadTown => k_is)
    (case hT_BadTown => k_is)
    (case aC_BadDay => k_is)
    (case tT_BadDay => k_is)
    (case iT_BadDay => k_is)
    (case eT_BadDay => k_is)
    (case hT_BadDay => k_is)
    (case aC_BadMove => k_is)
    (case tT_BadMove => k_is)
    (case iT_BadMove => k_is)
    (case eT_BadMove => k_is)
    (case hT_BadMove => k_is)
    (case aC_NoPlan => k_is)
    (case tT_NoPlan => k_is)
    (case iT_NoPlan => k_is)
    (case eT_NoPlan => k_is)
    (case hT_NoPlan => k_is)
    (case aC_BadText => k_is)
    (case tT_BadText => k_is)
    (case iT_BadText => k_is)
    (case eT_BadText => k_is)
    (case hT_BadText => k_is)
    (case z_ValueError => k_is)
    (case bx_ga => k_is)
    (case bx_rd => k_is)
    (case bx_fi => k_is)
    (case oc_hn => k_is)
    (case oc_ht => k_is)
    (case xL_BadText => k_is)
    (case xsa_BadText => k_is)
    (case xeC_BadText => k_is)
    (case xtC_BadText => k_is)
    (case xkC_BadText => k_is)
    (case xga_BadText => k_is)
    (case xgg_BadText => k_is)
    (case xhd_BadText => k_is)
    (case xhc_BadText => k_is)
    (case xhm_BadText => k_is)
    (case xic_BadText => k_is)
    (case xf_row_BadText => k_is)
    (case xsb_DockError_BadText => first | k_is | rfl)
    (case xsb_BadTown_BadText => first | k_is | rfl)
    (case xsb_BadDay_BadText => first | k_is | rfl)
    (case xsb_BadMove_BadText => first | k_is | rfl)
    (case xsb_NoPlan_BadText => first | k_is | rfl)
    (case xsb_BadText_BadText => first | k_is | rfl)
    (case xsb_ValueError_BadText => first | k_is | rfl)
    (case xL_BadTown => k_is)
    (case xsa_BadTown => k_is)
    (case xeC_BadTown => k_is)
    (case xtC_BadTown => k_is)
    (case xkC_BadTown => k_is)
    (case xga_BadTown => k_is)
    (case xgg_BadTown => k_is)
    (case xhd_BadTown => k_is)
    (case xhc_BadTown => k_is)
    (case xhm_BadTown => k_is)
    (case xic_BadTown => k_is)
    (case xf_word_BadTown => k_is)
    (case xf_number_BadTown => k_is)
    (case xsb_DockError_BadTown => first | k_is | rfl)
    (case xsb_BadTown_BadTown => first | k_is | rfl)
    (case xsb_BadDay_BadTown => first | k_is | rfl)
    (case xsb_BadMove_BadTown => first | k_is | rfl)
    (case xsb_NoPlan_BadTown => first | k_is | rfl)
    (case xsb_BadText_BadTown => first | k_is | rfl)
    (case xsb_ValueError_BadTown => first | k_is | rfl)
    (case a_BadTown_init => k_is)
    (case i_BadTown_init => k_is)
    (case l_BadTown_init => k_is)
    (case c_BadTown_init => k_is)
    (case k_BadTown_init => k_is)
    (case a_BadText_init => k_is)
    (case i_BadText_init => k_is)
    (case l_BadText_init => k_is)
    (case c_BadText_init => k_is)
    (case k_BadText_init => k_is)
    (case a_must_be => k_is)
    (case l_must_be => k_is)
    (case c_must_be => k_is)
    (case k_must_be => k_is)
    (case a_Town_many => k_is)
    (case i_Town_many => k_is)
    (case l_Town_many => k_is)
    (case c_Town_many => k_is)
    (case k_Town_many => k_is)
    (case a_Town_init => k_is)
    (case i_Town_init => k_is)
    (case l_Town_init => k_is)
    (case c_Town_init => k_is)
    (case k_Town_init => k_is)
    (case a_number_of => k_is)
    (case l_number_of => k_is)
    (case c_number_of => k_is)
    (case k_number_of => k_is)
    (case a_read => k_is)
    (case l_read => k_is)
    (case c_read => k_is)
    (case k_read => k_is)
    (case a_Lbegun => k_is)
    (case l_Lbegun => k_is)
    (case c_Lbegun => k_is)
    (case k_Lbegun => k_is)
    (case a_Ltake => k_is)
    (case l_Ltake => k_is)
    (case c_Ltake => k_is)
    (case k_Ltake => k_is)
    (case a_Ltown => k_is)
    (case l_Ltown => k_is)
    (case c_Ltown => k_is)
    (case k_Ltown => k_is)
    (case a_Llines => k_is)
    (case l_Llines => k_is)
    (case c_Llines => k_is)
    (case k_Llines => k_is)
    (case a_Lrefused => k_is)
    (case l_Lrefused => k_is)
    (case c_Lrefused => k_is)
    (case k_Lrefused => k_is)
    (case a_Lnone => k_is)
    (case l_Lnone => k_is)
    (case c_Lnone => k_is)
    (case k_Lnone => k_is)
    (case a_law => k_is)
    (case l_law => k_is)
    (case c_law => k_is)
    (case k_law => k_is)
    (case z_len => k_is)
    (case z_range => k_is)
    (case z_enumerate => k_is)
    (case z_min => k_is)
    (case z_max => k_is)
    (case z_int => k_is)
    (case z_str => k_is)
    (case z_list => k_is)
    (case z_tuple => k_is)
    (case z_sum => k_is)
    (case z_sorted => k_is)
    (case z_bool => k_is)
    (case z_isinstance => k_is)
    (case g_MOST_DOCKS => k_is)
    (case g_MOST_ROOM => k_is)
    (case g_MOST_WAY => k_is)
    (case g_SORTS => k_is)
    (case h_SORTS => k_is)
    (case g_FIGURES => k_is)
#print axioms PySem.Challenge.cw_bikedocks_k14_texts_refused_holds
