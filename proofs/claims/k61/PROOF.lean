import PyProof.Rows.All
import Wide.All
import OpenK.AllK
import Wide.FinOn
import HandS.ForMost
import HandS.Deep
import HandS.Style
import HandS.IsInst
import HandS.TupAny
import HandS.Codes
import KE.SortData
import HandS.DictComp
import HandS.TupLen
import KE.KDictKeyed
import HandS.NoneIn
import HandS.Strs
import HandS.Defaults
import PySem.Challenge.RW_treeshed_k61_sums_and_cells
set_option Elab.async false
set_option linter.all false
set_option maxRecDepth 100000
set_option maxHeartbeats 4000000
namespace Sh
open PySem PySem.Spec PyProof.Rows L2
/-! ### rules of my own over the hand layer -/
section
variable {X : Cx}
def rInDT (K : PySem.W.Frag) : R2 := fun x y H Q => ∃ d ds, Dp K H x d ∧ Dp K H y (.tuple ds) ∧ SeqAt.shaped d = true ∧ SeqAt.shaped (.tuple ds) = true ∧ Q (.bl (ds.any fun z => PyData.eqv z d)) H
def rNotInDT (K : PySem.W.Frag) : R2 := fun x y H Q => ∃ d ds, Dp K H x d ∧ Dp K H y (.tuple ds) ∧ SeqAt.shaped d = true ∧ SeqAt.shaped (.tuple ds) = true ∧ Q (.bl (!ds.any fun z => PyData.eqv z d)) H
theorem op_inDT (hu : X.A.units + 65 < cLine) : OpR X (compareOp .In) (rInDT X.K) := by
  intro pins s σ H x y v u Q I rx ry h
  obtain ⟨d, ds, hd, he, sd, se, q⟩ := h
  obtain ⟨as, r1⟩ := Dp.reads I d x v hd rx
  obtain ⟨bs, r2⟩ := Dp.reads I (.tuple ds) y u he ry
  exact SeqAt.in_tuple_reads r2 r1 (SeqAt.canLay_of_shaped se) (SeqAt.canLay_of_shaped sd) (room_in_shaped sd hu) ⟨.bl _, H, I, rfl, q⟩
theorem op_notInDT (hu : X.A.units + 65 < cLine) : OpR X (compareOp .NotIn) (rNotInDT X.K) := by
  intro pins s σ H x y v u Q I rx ry h
  obtain ⟨d, ds, hd, he, sd, se, q⟩ := h
  obtain ⟨as, r1⟩ := Dp.reads I d x v hd rx
  obtain ⟨bs, r2⟩ := Dp.reads I (.tuple ds) y u he ry
  exact SeqAt.notIn_tuple_reads r2 r1 (SeqAt.canLay_of_shaped se) (SeqAt.canLay_of_shaped sd) (room_in_shaped sd hu) ⟨.bl _, H, I, rfl, q⟩
/-! sorted of a list that reads as data -/
def sortPairs (xs : List V) (ds : List PyData) : List (V × PyData) := (xs.zip ds).mergeSort (PySem.W.dataLe false Prod.snd)
def rSortedDD (K : PySem.W.Frag) : List V → Hp → VK → Prop := fun vs H Q => ∃ (a : Addr) (xs : List V) (ds : List PyData), vs = [V.ref a] ∧ SqL K H a xs ∧ DpAll K H xs ds ∧ PySem.W.AllAlike ds ∧ PySem.W.Sortable ds ∧ (∀ d ∈ ds, d.depth ≤ 60) ∧
  ∀ p, H p = none → Q (.ref p) (upd H p (.lst ((sortPairs xs ds).map Prod.fst)))
theorem DpAll.len {K : PySem.W.Frag} {H : Hp} : ∀ {xs : List V} {ds : List PyData}, DpAll K H xs ds → xs.length = ds.length
  | _, _, .nil => rfl
  | _, _, .cons _ t => by
    show _ + 1 = _ + 1
    rw [DpAll.len t]
theorem zip_snd {α β : Type} : ∀ {xs : List α} {ds : List β}, xs.length = ds.length → (xs.zip ds).map Prod.snd = ds
  | [], [], _ => rfl
  | x :: xs, d :: ds, h => by
    show d :: (xs.zip ds).map Prod.snd = d :: ds
    rw [zip_snd (Nat.succ.inj h)]
theorem each_rel {K : PySem.W.Frag} {H : Hp} : ∀ {xs : List V} {ds : List PyData} {its : List Value}, Vals xs its → xs.length = ds.length → PySem.W.EachIs (fun (v : Value) (b : V × PyData) => RelV b.1 v) its (xs.zip ds)
  | [], [], _, .nil, _ => .nil
  | _ :: _, _ :: _, _, .cons r t, h => .cons r (each_rel (K := K) (H := H) t (Nat.succ.inj h))
theorem each_reads {pins : List (Addr × Obj)} {σ : L2.St} {H : Hp} {s : Shared} (I : L2.Inv X pins σ H s) : ∀ {xs : List V} {ds : List PyData} {its : List Value}, Vals xs its → DpAll X.K H xs ds → PySem.W.EachIs (fun (v : Value) (b : V × PyData) => ∃ as, Reads s.heap v b.2 as) its (xs.zip ds)
  | [], [], _, .nil, _ => .nil
  | _ :: _, _ :: _, _, .cons r t, .cons h hs => .cons (Dp.reads I _ _ _ h r) (each_reads I t hs)
theorem vals_of_each : ∀ {out : List Value} {bs : List (V × PyData)}, PySem.W.EachIs (fun (v : Value) (b : V × PyData) => RelV b.1 v) out bs → Vals (bs.map Prod.fst) out
  | _, _, .nil => .nil
  | _, _, .cons r t => .cons r (vals_of_each t)
theorem cr_sortedDD (hu : X.A.units + 65 < cLine) : CallR X (.builtin "sorted") (rSortedDD X.K) := by
  intro pins s σ H vs us Q I r h
  obtain ⟨a, xs, ds, rfl, hs, hd, hal, hk, hdp, q⟩ := h
  obtain ⟨its, rv, hl, hz⟩ := I.list hs
  rw [Vals.ref1 r]
  have el := DpAll.len hd
  have ez : (xs.zip ds).map Prod.snd = ds := zip_snd el
  have elz : (xs.zip ds).length = xs.length := by rw [List.length_zip, el, Nat.min_self]
  refine PySem.W.sorted_data (enc := Prod.snd) (bs := xs.zip ds) hl.isList (each_rel (K := X.K) (H := H) rv el) (each_reads I rv hd) (by rw [ez]; exact hal) (by rw [ez]; exact hk) (by rw [elz]; exact hz) (fun b hb => ?_) fun out ho eo => ?_
  · have hm : b.2 ∈ ds := by
      rw [← ez]
      exact List.mem_map.mpr ⟨b, hb, rfl⟩
    have := hdp _ hm
    omega
  · obtain ⟨ep, he'⟩ := PyProof.Rows.sortedAll_at s.heap its out.toArray
    have hlen : ((sortPairs xs ds).map Prod.fst).length ≤ sizeLine := by
      rw [List.length_map, sortPairs, List.length_mergeSort, elz]
      exact hz
    refine ⟨.ref _, upd H (s.heap.objs.size + 1) (.lst ((sortPairs xs ds).map Prod.fst)), I.laid (t' := s.toks) (fun _ _ => PyProof.Rows.sortedAll_old) (Nat.le_succ _) ⟨hlen, out, ep, vals_of_each eo, he'⟩, rfl, q _ (I.hok.fresh (Nat.le_succ _))⟩
end
/-! ### heaps -/
/-- all that was tracked is as it was, but for d -/
def Kp (d : Addr) (H H' : Hp) : Prop := ∀ b o, H b = some o → b ≠ d → H' b = some o
theorem Kp.refl (d : Addr) (H : Hp) : Kp d H H := fun _ _ h _ => h
theorem Kp.trans {d : Addr} {H H1 H2 : Hp} (a : Kp d H H1) (b : Kp d H1 H2) : Kp d H H2 := fun c o h n => b c o (a c o h n) n
theorem same_upd {H : Hp} {p : Addr} {o : HO} (h : H p = none) : Same H (upd H p o) := fun b x e => by
  rw [upd_ne (ne_of_none e h)]
  exact e
theorem Same.kp {d : Addr} {H H' : Hp} (s : Same H H') : Kp d H H' := fun b o h _ => s b o h
theorem kp_new {d : Addr} {H : Hp} {p : Addr} {o : HO} (h : H p = none) : Kp d H (upd H p o) := Same.kp (same_upd h)
theorem kp_put {d : Addr} {H : Hp} {o : HO} : Kp d H (upd H d o) := fun b x e n => by
  rw [upd_ne n]
  exact e
/-- a place that was free stays apart -/
theorem Kp.free {d : Addr} {H H' : Hp} (e : Kp d H H') {o : HO} (hd : H' d = some o) {l : Addr} (h : H' l = none) : H l = none := by
  cases q : H l with
  | none => rfl
  | some u =>
    by_cases hl : l = d
    · subst hl
      rw [hd] at h
      cases h
    · rw [e l u q hl] at h
      cases h
mutual
theorem dp_keep {K : PySem.W.Frag} {H H' : Hp} (k : ∀ a u, Rd H a u → (∃ xs, u = .lst xs ∨ u = .tup xs) → Rd H' a u) : ∀ (d : PyData) (v : V), Dp K H v d → Dp K H' v d
  | .none, _, h => by cases h; exact .non
  | .bool b, _, h => by cases h; exact .bl b
  | .int i, _, h => by cases h; exact .int i
  | .str x, _, h => by cases h; exact .str x
  | .list ds, _, h => by
    cases h with
    | lst h1 h2 =>
      refine .lst ?_ (dpAll_keep k ds _ h2)
      rcases h1 with h1 | h1
      · exact .inl (k _ _ h1 ⟨_, .inl rfl⟩)
      · exact .inr h1
  | .tuple ds, _, h => by
    cases h with
    | tup h1 h2 =>
      refine .tup ?_ (dpAll_keep k ds _ h2)
      rcases h1 with h1 | h1
      · exact .inl (k _ _ h1 ⟨_, .inr rfl⟩)
      · exact .inr h1
theorem dpAll_keep {K : PySem.W.Frag} {H H' : Hp} (k : ∀ a u, Rd H a u → (∃ xs, u = .lst xs ∨ u = .tup xs) → Rd H' a u) : ∀ (ds : List PyData) (vs : List V), DpAll K H vs ds → DpAll K H' vs ds
  | [], _, h => by cases h; exact .nil
  | d :: ds, _, h => by
    cases h with
    | cons h1 h2 => exact .cons (dp_keep k d _ h1) (dpAll_keep k ds _ h2)
end
/-! ### loops -/
theorem for_enum {K : PySem.W.Frag} {a : Addr} {xs : List V} {g : TG} {tb : TS} {D : Ends} {σ : L2.St} {H : Hp} (Pv : Nat → L2.St → Hp → Prop) (h0 : Pv 0 σ H) (hl : ∀ i σ H, i ≤ xs.length → Pv i σ H → SqL K H a xs)
    (hs : ∀ (i : Nat) (x : V) (σ : L2.St) (H : Hp) (T : Addr), xs[i]? = some x → H T = none → Pv i σ H → g (.ref T) σ (upd H T (.tup [.int (i : Nat), x])) fun σ2 H2 => tb { D with nx := Pv (i + 1), ct := Pv (i + 1), bk := D.nx } σ2 H2) (hd : ∀ σ H, Pv xs.length σ H → D.nx σ H) :
    ∃ W : Nat → Nat → L2.St → Hp → Prop, (∃ m, W 0 m σ H) ∧ ∀ i m σ H, W i m σ H →
      ((Ite K a).stop i H ∧ D.nx σ H) ∨ ((Ite K a).go i H ∧ ∃ N : L2.St → Hp → Prop, (∀ σ' H', N σ' H' → ∃ m', m' < m ∧ W (i + 1) m' σ' H') ∧ ∀ x H', (Ite K a).yld i H x H' → g x σ H' fun σ2 H2 => tb { D with nx := N, ct := N, bk := D.nx } σ2 H2) := by
  refine ⟨fun i m σ H => m = xs.length - i ∧ i ≤ xs.length ∧ Pv i σ H, ⟨xs.length, by simp, Nat.zero_le _, h0⟩, ?_⟩
  rintro i m σ H ⟨rfl, hi, p⟩
  have q := hl i σ H hi p
  by_cases hlt : i < xs.length
  · refine .inr ⟨⟨xs, xs[i], q, by simp [hlt]⟩, Pv (i + 1), fun σ' H' p' => ⟨xs.length - (i + 1), by omega, rfl, hlt, p'⟩, fun x H' y => ?_⟩
    obtain ⟨T, x, rfl, nT, rfl, y⟩ := y
    exact hs i x σ _ T (y xs q) nT p
  · have e : i = xs.length := by omega
    subst e
    exact .inl ⟨⟨xs, q, Nat.le_refl _⟩, hd σ H p⟩
/-- a cut: what is known of the value that is stored -/
theorem asgW {te : TE} {g : TG} {D : Ends} {σ : L2.St} {H : Hp} (W : VK) (h1 : ∀ R : VK, (∀ v H2, W v H2 → R v H2) → te σ H R) (h2 : ∀ v H2, W v H2 → g v σ H2 D.nx) : tAsg te g D σ H := h1 _ h2
theorem asgS {te : TE} {g : TG} {u : TS} {D : Ends} {σ : L2.St} {H : Hp} (W : VK) (h1 : ∀ R : VK, (∀ v H2, W v H2 → R v H2) → te σ H R) (h2 : ∀ v H2, W v H2 → g v σ H2 (u D)) : tSeq (tAsg te g) u D σ H := h1 _ h2
/-- a cut behind a statement -/
theorem seqW {t u : TS} {D : Ends} {σ : L2.St} {H : Hp} (W : L2.St → Hp → Prop) (h1 : ∀ N : L2.St → Hp → Prop, (∀ σ' H', W σ' H' → N σ' H') → t { D with nx := N } σ H) (h2 : ∀ σ' H', W σ' H' → u D σ' H') : tSeq t u D σ H := h1 _ h2
theorem nextS {D : Ends} {σ : L2.St} {H : Hp} (h : D.nx σ H) : tNext D σ H := h
theorem yes_ite {σ : L2.St} {H : Hp} {A B : Hp → Prop} (h : A H) : tYes σ H fun b H3 => if b = true then A H3 else B H3 := (iteT h : if true = true then A H else B H)
/-- a new object: the heap behind it by what is known of it -/
theorem newW {G : VK} {H : Hp} {o : HO} (h : ∀ p H1, H p = none → Same H H1 → H1 p = some o → G (.ref p) H1) : ∀ p, H p = none → G (.ref p) (upd H p o) := fun p hp => h p _ hp (same_upd hp) upd_same
theorem seqT {K : PySem.W.Frag} {H H' : Hp} {a : Addr} {xs : List V} (e : Same H H') (h : SqT K H a xs) : SqT K H' a xs := by
  rcases h with (h | ⟨o, h⟩) | h
  · exact .inl (.inl (e _ _ h))
  · exact .inl (.inr ⟨o, e _ _ h⟩)
  · exact .inr h
end Sh
set_option Elab.async false
set_option linter.all false
set_option maxRecDepth 100000
set_option maxHeartbeats 4000000
namespace Sh
open PySem PySem.Spec PyProof.Rows L2
/-! ### dicts whose keys are tuples of None, bools, ints, texts -/
def leafV : V → Bool
  | .non => true
  | .bl _ => true
  | .int _ => true
  | .str _ => true
  | _ => false
def nkV : V → NestedKey
  | .bl b => .num (if b = true then 1 else 0)
  | .int i => .num i
  | .str x => .text x
  | _ => .none
/-- the tuple at b is the key k -/
def KeyAt (K : PySem.W.Frag) (H : Hp) (k : NestedKey) (b : Addr) : Prop := ∃ vs, SqT K H b vs ∧ vs.all leafV = true ∧ k = .tup (vs.map nkV)
def DNo (P : Program) (w : World) (a : Addr) (xs : List (NestedKey × Addr × V)) : HO := .ext fun h => xs.length ≤ sizeLine ∧ (a == sysModules) = false ∧
  ∃ ys : List (NestedKey × Addr × Value), Paired (fun (p : NestedKey × Addr × V) (q : NestedKey × Addr × Value) => p.1 = q.1 ∧ p.2.1 = q.2.1 ∧ RelV p.2.2 q.2.2) xs ys ∧
    ∃ o es ep, h.get? a = some o ∧ o.ExactDict ∧ o.data = .dict es ep ∧ es.toList = ys.map (entryOfKey (nestedKind P w)) ∧ (ys.map (·.1)).Nodup
def kvN (xs : List (NestedKey × Addr × V)) : List (NestedKey × V) := xs.map fun x => (x.1, x.2.2)
/-- at a stands a dict with these keys and values, in their order -/
def DN (P : Program) (w : World) (K : PySem.W.Frag) (H : Hp) (a : Addr) (kvs : List (NestedKey × V)) : Prop := ∃ xs, H a = some (DNo P w a xs) ∧ kvN xs = kvs ∧ ∀ x ∈ xs, KeyAt K H x.1 x.2.1
theorem KeyAt.mono {K : PySem.W.Frag} {H H' : Hp} {k : NestedKey} {b : Addr} (s : ∀ c u, Rd H c (.tup u) → Rd H' c (.tup u)) (h : KeyAt K H k b) : KeyAt K H' k b := by
  obtain ⟨vs, h1, h2, h3⟩ := h
  refine ⟨vs, ?_, h2, h3⟩
  rcases h1 with h1 | h1
  · exact .inl (s _ _ h1)
  · exact .inr h1
theorem nested_all {h : Heap} : ∀ {vs : List V} {its : List Value}, Vals vs its → vs.all leafV = true → NestedAll h (vs.map nkV) its
  | _, _, .nil, _ => .nil
  | v :: vs, _, .cons r t, e => by
    rw [List.all_cons, Bool.and_eq_true] at e
    refine .cons ?_ (nested_all t e.2)
    cases v with
    | non => cases r; exact .none
    | bl b => cases r; exact .bool rfl
    | int i => obtain ⟨k, rfl⟩ := r; exact .int i k
    | str x => obtain ⟨k, rfl⟩ := r; exact .text x k
    | byt _ => cases e.1
    | flt _ => cases e.1
    | ref _ => cases e.1
    | ty _ => cases e.1
theorem nk_depth : ∀ vs : List V, NestedKey.depthAll (vs.map nkV) = 0
  | [] => rfl
  | v :: vs => by
    rw [List.map_cons, NestedKey.depthAll, nk_depth vs]
    cases v <;> rfl
section
variable {X : Cx} {pins : List (Addr × Obj)} {σ : L2.St} {H : Hp} {s : Shared}
theorem KeyAt.is {k : NestedKey} {b : Addr} (I : L2.Inv X pins σ H s) (h : KeyAt X.K H k b) : (nestedKind X.prog X.w).is s.heap k b := by
  obtain ⟨vs, h1, h2, rfl⟩ := h
  obtain ⟨its, rv, ⟨o, g, c, n, d⟩, _⟩ := I.tuple h1
  refine ⟨.tup g c d (by simpa using nested_all rv h2), ?_⟩
  show NestedKey.depthAll (vs.map nkV) + 1 ≤ 8
  rw [nk_depth]
  decide
abbrev RN : NestedKey × Addr × V → NestedKey × Addr × Value → Prop := fun p q => p.1 = q.1 ∧ p.2.1 = q.2.1 ∧ RelV p.2.2 q.2.2
theorem pair_mem : ∀ {xs : List (NestedKey × Addr × V)} {ys : List (NestedKey × Addr × Value)} {y : NestedKey × Addr × Value}, Paired RN xs ys → y ∈ ys → ∃ x ∈ xs, RN x y
  | _, _, _, .nil, h => by simp at h
  | _, _, _, .cons r t, h => by
    rcases List.mem_cons.mp h with rfl | h
    · exact ⟨_, List.mem_cons_self, r⟩
    · obtain ⟨x, hx, r'⟩ := pair_mem t h
      exact ⟨x, List.mem_cons_of_mem _ hx, r'⟩
theorem pair_app {v : V} {u : Value} {k : NestedKey} {b : Addr} (r : RelV v u) : ∀ {xs : List (NestedKey × Addr × V)} {ys : List (NestedKey × Addr × Value)}, Paired RN xs ys → Paired RN (xs ++ [(k, b, v)]) (ys ++ [(k, b, u)])
  | _, _, .nil => .cons ⟨rfl, rfl, r⟩ .nil
  | _, _, .cons r' t => .cons r' (pair_app r t)
theorem pair_set {v : V} {u : Value} {k : NestedKey} (r : RelV v u) : ∀ {xs : List (NestedKey × Addr × V)} {ys : List (NestedKey × Addr × Value)}, Paired RN xs ys → Paired RN (xs.map (fun x => if x.1 = k then (x.1, x.2.1, v) else x)) (ys.map (putAt k u))
  | _, _, .nil => .nil
  | p :: _, q :: _, .cons r' t => by
    rw [List.map_cons, List.map_cons]
    refine .cons ?_ (pair_set r t)
    obtain ⟨r1, r2, r3⟩ := r'
    unfold putAt
    by_cases h : p.1 = k
    · rw [if_pos h, if_pos (r1 ▸ h)]
      exact ⟨r1, r2, r⟩
    · rw [if_neg h, if_neg (r1 ▸ h)]
      exact ⟨r1, r2, r3⟩
/-- what the library's rules ask of such a dict -/
theorem DN.raw {a : Addr} {kvs : List (NestedKey × V)} (I : L2.Inv X pins σ H s) (h : DN X.prog X.w X.K H a kvs) : ∃ xs ys, H a = some (DNo X.prog X.w a xs) ∧ kvN xs = kvs ∧ (∀ x ∈ xs, KeyAt X.K H x.1 x.2.1) ∧ xs.length ≤ sizeLine ∧ (a == sysModules) = false ∧ Paired RN xs ys ∧ s.heap.DictOfH (nestedKind X.prog X.w) a ys := by
  obtain ⟨xs, h1, h2, h3⟩ := h
  obtain ⟨⟨z, nd, ys, pr, o, es, ep, g1, g2, g3, g4, g5⟩, _, _⟩ := (show ObjOk X.prog X.w H s.heap a (DNo X.prog X.w a xs) from I.hok a _ h1)
  refine ⟨xs, ys, h1, h2, h3, z, nd, pr, o, es, ep, g1, g2, g3, g4, fun y hy => ?_, g5⟩
  obtain ⟨x, hx, e1, e2, _⟩ := pair_mem pr hy
  rw [← e1, ← e2]
  exact (h3 x hx).is I
theorem at_val {xs : List (NestedKey × Addr × V)} {ys : List (NestedKey × Addr × Value)} (pr : Paired RN xs ys) (k : NestedKey) : RelO (valV (kvN xs) k) ((atKey ys k).map (·.2)) := by
  induction pr with
  | nil => exact trivial
  | @cons p q ps qs r t ih =>
    obtain ⟨r1, r2, r3⟩ := r
    by_cases e : p.1 = k
    · have e2 : q.1 = k := r1 ▸ e
      rw [show kvN (p :: ps) = (p.1, p.2.2) :: kvN ps from rfl, valV_pos e]
      have : atKey (q :: qs) k = some q.2 := by simp [atKey, e2]
      rw [this]
      exact r3
    · have e2 : ¬ q.1 = k := r1 ▸ e
      rw [show kvN (p :: ps) = (p.1, p.2.2) :: kvN ps from rfl, valV_neg e]
      have : atKey (q :: qs) k = atKey qs k := by simp [atKey, List.find?_cons, e2]
      rw [this]
      exact ih
/-- put: in its place, or at the end -/
def putN (xs : List (NestedKey × Addr × V)) (k : NestedKey) (b : Addr) (v : V) : List (NestedKey × Addr × V) :=
  if (xs.any fun x => decide (x.1 = k)) = true then xs.map (fun x => if x.1 = k then (x.1, x.2.1, v) else x) else xs ++ [(k, b, v)]
theorem kvN_put (xs : List (NestedKey × Addr × V)) (k : NestedKey) (b : Addr) (v : V) : kvN (putN xs k b v) = putK (kvN xs) k v := by
  unfold putN putK
  have e : ((kvN xs).any fun kv => decide (kv.1 = k)) = xs.any fun x => decide (x.1 = k) := by
    unfold kvN
    rw [List.any_map]
    rfl
  rw [e]
  split
  · unfold kvN
    rw [List.map_map, List.map_map]
    refine List.map_congr_left fun x _ => ?_
    by_cases h : x.1 = k <;> simp [h]
  · simp [kvN]
theorem any_pair {xs : List (NestedKey × Addr × V)} {ys : List (NestedKey × Addr × Value)} (pr : Paired RN xs ys) (k : NestedKey) : (xs.any fun x => decide (x.1 = k)) = (atKey ys k).isSome := by
  have h := (at_val pr k).isSome_eq
  rw [Option.isSome_map] at h
  rw [← h, ← valV_any]
  unfold kvN
  rw [List.any_map]
  rfl
theorem put_pair {xs : List (NestedKey × Addr × V)} {ys : List (NestedKey × Addr × Value)} (pr : Paired RN xs ys) (k : NestedKey) (b : Addr) {v : V} {u : Value} (r : RelV v u) : Paired RN (putN xs k b v) (storedH ys k b u) := by
  unfold putN storedH
  rw [any_pair pr k]
  split
  · exact pair_set r pr
  · exact pair_app r pr
theorem len_putN (xs : List (NestedKey × Addr × V)) (k : NestedKey) (b : Addr) (v : V) : (putN xs k b v).length ≤ xs.length + 1 := by
  unfold putN
  split
  · rw [List.length_map]
    omega
  · simp
theorem mem_putN {xs : List (NestedKey × Addr × V)} {k : NestedKey} {b : Addr} {v : V} {x : NestedKey × Addr × V} (h : x ∈ putN xs k b v) : (∃ y ∈ xs, x.1 = y.1 ∧ x.2.1 = y.2.1) ∨ (x.1 = k ∧ x.2.1 = b) := by
  unfold putN at h
  split at h
  · obtain ⟨y, hy, rfl⟩ := List.mem_map.mp h
    by_cases e : y.1 = k
    · rw [if_pos e]
      exact .inl ⟨y, hy, rfl, rfl⟩
    · rw [if_neg e]
      exact .inl ⟨y, hy, rfl, rfl⟩
  · rcases List.mem_append.mp h with h | h
    · exact .inl ⟨x, h, rfl, rfl⟩
    · simp only [List.mem_singleton] at h
      subst h
      exact .inr ⟨rfl, rfl⟩
/-- a dict of this sort is laid, written -/
theorem dno_ok {P : Program} {w : World} {H' : Hp} {h : Heap} {a : Addr} {xs : List (NestedKey × Addr × V)} {ys : List (NestedKey × Addr × Value)} (z : xs.length ≤ sizeLine) (nd : (a == sysModules) = false) (pr : Paired RN xs ys) (d : h.DictOfH (nestedKind P w) a ys) : ObjOk P w H' h a (DNo P w a xs) := by
  obtain ⟨o, es, ep, g1, g2, g3, g4, _, g5⟩ := d
  refine ⟨⟨z, nd, ys, pr, o, es, ep, g1, g2, g3, g4, g5⟩, ⟨o, g1⟩, ?_⟩
  rintro h1 h2 ⟨z', nd', ys', pr', o', es', ep', g1', g2', g3', g4', g5'⟩ k
  exact ⟨z', nd', ys', pr', o', es', ep', k _ g1', g2', g3', g4', g5'⟩
theorem dno_mut {P : Program} {w : World} {a : Addr} {xs : List (NestedKey × Addr × V)} (h : H a = some (DNo P w a xs)) : Mut (H a) := by
  rw [h]
  exact True.intro
theorem dno_tup {P : Program} {w : World} {a : Addr} {xs : List (NestedKey × Addr × V)} {us : List V} : HO.tup us ≠ DNo P w a xs := fun z => by
  unfold DNo at z
  cases z
theorem KeyAt.put {K : PySem.W.Frag} {P : Program} {w : World} {a b : Addr} {xs : List (NestedKey × Addr × V)} {k : NestedKey} {o : HO} (ha : H a = some (DNo P w a xs)) (h : KeyAt K H k b) : KeyAt K (upd H a o) k b := h.mono fun c u r => by
  rcases r with r | ⟨ob, r⟩
  · exact .inl (by rw [upd_ne (ne_of r ha dno_tup)]; exact r)
  · exact .inr ⟨ob, by rw [upd_ne (ne_of r ha (fun z => by unfold DNo at z; cases z))]; exact r⟩
theorem room8 {A : Around} (hu : A.units + 65 < cLine) : (nestedKind X.prog X.w).room A.in1 := by
  show A.units + 1 + 8 < cLine
  omega
/-- d[k] = v, by values -/
theorem dn_set {A : Around} {E : Value → Shared → Prop} {a b : Addr} {kvs : List (NestedKey × V)} {k : NestedKey} {v : V} {u : Value} {Q : Unit → Shared → Prop} (hu : A.units + 65 < cLine) (I : L2.Inv X pins σ H s) (hd : DN X.prog X.w X.K H a kvs) (hk : KeyAt X.K H k b) (hz : kvs.length < sizeLine) (rv : RelV v u)
    (h : ∀ o s', L2.Inv X pins σ (upd H a o) s' → DN X.prog X.w X.K (upd H a o) a (putK kvs k v) → Q () s') : wpAny (model X.prog X.w) A (setItem (.ref a) (.ref b) u) Q E s := by
  obtain ⟨xs, ys, h1, rfl, h3, z, nd, pr, dd⟩ := hd.raw I
  have hzy : ys.length ≤ sizeLine := by rw [← Paired.length pr]; exact z
  have hzx : xs.length < sizeLine := by
    have : (kvN xs).length = xs.length := by unfold kvN; rw [List.length_map]
    omega
  refine wpAny_setItem_heap (hsz := hzy) (room8 hu) (hk.is I) dd fun h' dd' hs => ?_
  have he : ∃ q, h'.get? a = some q := let ⟨q, _, _, hq, _⟩ := dd'; ⟨q, hq⟩
  have hl : (putN xs k b v).length ≤ sizeLine := by have := len_putN xs k b v; omega
  refine h (DNo X.prog X.w a (putN xs k b v)) _ (d_write I (dno_mut h1) hs he (dno_ok hl nd (put_pair pr k b rv) dd')) ⟨_, upd_same, kvN_put _ _ _ _, fun x hx => ?_⟩
  rcases mem_putN hx with ⟨y, hy, e1, e2⟩ | ⟨e1, e2⟩
  · rw [e1, e2]
    exact (h3 y hy).put h1
  · rw [e1, e2]
    exact hk.put h1
theorem dn_setRaw {E : Value → Shared → Prop} {a b : Addr} {kvs : List (NestedKey × V)} {k : NestedKey} {v : V} {u : Value} {Q : Unit → Shared → Prop} (hu : X.A.units + 65 < cLine) (I : L2.Inv X pins σ H s) (hd : DN X.prog X.w X.K H a kvs) (hk : KeyAt X.K H k b) (hz : kvs.length < sizeLine) (rv : RelV v u)
    (h : ∀ o s', L2.Inv X pins σ (upd H a o) s' → DN X.prog X.w X.K (upd H a o) a (putK kvs k v) → Q () s') : wpAny (model X.prog X.w) X.A (dictSet a (.ref b) u) Q E s := by
  obtain ⟨xs, ys, h1, rfl, h3, z, nd, pr, dd⟩ := hd.raw I
  have hzy : ys.length ≤ sizeLine := by rw [← Paired.length pr]; exact z
  have hzx : xs.length < sizeLine := by
    have : (kvN xs).length = xs.length := by unfold kvN; rw [List.length_map]
    omega
  refine wpAny_dictSet_heap (hsz := hzy) (show (nestedKind X.prog X.w).room X.A by show X.A.units + 8 < cLine; omega) (hk.is I) dd fun h' dd' hs => ?_
  have he : ∃ q, h'.get? a = some q := let ⟨q, _, _, hq, _⟩ := dd'; ⟨q, hq⟩
  have hl : (putN xs k b v).length ≤ sizeLine := by have := len_putN xs k b v; omega
  refine h (DNo X.prog X.w a (putN xs k b v)) _ (d_write I (dno_mut h1) hs he (dno_ok hl nd (put_pair pr k b rv) dd')) ⟨_, upd_same, kvN_put _ _ _ _, fun x hx => ?_⟩
  rcases mem_putN hx with ⟨y, hy, e1, e2⟩ | ⟨e1, e2⟩
  · rw [e1, e2]
    exact (h3 y hy).put h1
  · rw [e1, e2]
    exact hk.put h1
end
section
variable {X : Cx} {o i value : Expr} {pos pos' : Pos} {td ty tv : TE}
def tDNewN (P : Program) (w : World) (K : PySem.W.Frag) : TE := fun _ H Q => ∀ p o, H p = none → DN P w K (upd H p o) p [] → Q (.ref p) (upd H p o)
theorem pe_dnewN : PE X (.Dict [] [] pos) (tDNewN X.prog X.w X.K) := ⟨fun pins s σ H Q I h =>
  wpAny_Dict_empty ⟨.ref s.heap.objs.size, upd H s.heap.objs.size (DNo X.prog X.w s.heap.objs.size []), I.laid (t' := s.toks) (fun _ _ q => Heap.get?_push_of_some _ q) (Nat.le_refl _)
      (dno_ok (Nat.zero_le _) (beq_eq_false_iff_ne.mpr (Ne.symm (Nat.ne_of_lt I.big))) .nil (Heap.DictOfH.new s.heap)), rfl,
    h _ _ (I.hok.fresh (Nat.le_refl _)) ⟨[], upd_same, rfl, fun _ z => nomatch z⟩⟩⟩
def tDGetN (P : Program) (w : World) (K : PySem.W.Frag) (td ty : TE) : TE := fun σ H Q => td σ H fun x H1 => ty σ H1 fun y H2 => ∃ a b kvs k v, x = .ref a ∧ y = .ref b ∧ DN P w K H2 a kvs ∧ KeyAt K H2 k b ∧ valV kvs k = some v ∧ Q v H2
theorem pe_dgetN (hu : X.A.units + 65 < cLine) (ho : PE X o td) (hi : PE X i ty) (hs : NoSl i) : PE X (.Subscript o i pos) (tDGetN X.prog X.w X.K td ty) := by
  refine ⟨fun pins s σ H Q I h => ?_⟩
  refine subD_of PySem.F.slot_dict_getitem.lookup hs (thn (ho.run pins s σ H _ I h) fun u s1 ⟨x, H1, I1, rx, q1⟩ => thn (hi.run pins s1 σ H1 _ I1 q1) fun iv s2 ⟨y, H2, I2, ry, a, b, kvs, k, v, ex, ey, hd, hk, hv, q2⟩ => ?_)
  subst ex ey
  obtain rfl : u = Value.ref a := rx
  obtain rfl : iv = Value.ref b := ry
  obtain ⟨xs, ys, h1, rfl, h3, z, nd, pr, dd⟩ := hd.raw I2
  refine ⟨dd.typeIs, ?_⟩
  obtain ⟨w', hw, rw'⟩ := RelO.some_of (v := v) (o := (atKey ys k).map (·.2)) (by rw [← hv]; exact at_val pr k)
  obtain ⟨p, hp, rfl⟩ := Option.map_eq_some_iff.mp hw
  exact wpAny_getItem_heap (room8 hu) (hk.is I2) dd hp ⟨v, H2, I2.tok _, rw', q2⟩
def rDInN (P : Program) (w : World) (K : PySem.W.Frag) : R2 := fun y x H Q => ∃ a b kvs k, x = .ref a ∧ y = .ref b ∧ DN P w K H a kvs ∧ KeyAt K H k b ∧ Q (.bl (valV kvs k).isSome) H
theorem op_dinN (hu : X.A.units + 65 < cLine) : OpR X (compareOp .In) (rDInN X.prog X.w X.K) := by
  intro pins s σ H y x iv u Q I ry rx h
  obtain ⟨a, b, kvs, k, rfl, rfl, hd, hk, q⟩ := h
  obtain rfl : u = Value.ref a := rx
  obtain rfl : iv = Value.ref b := ry
  obtain ⟨xs, ys, h1, rfl, h3, z, nd, pr, dd⟩ := hd.raw I
  refine wpAny_in_heap (room8 hu) (hk.is I) nd dd ⟨.bl _, H, I.tok _, ?_, q⟩
  have := (at_val pr k).isSome_eq
  rw [Option.isSome_map] at this
  rw [this]
  rfl
def sDPutN (P : Program) (w : World) (K : PySem.W.Frag) (td ty tv : TE) : TS := fun D σ H => tv σ H fun v H1 => td σ H1 fun x H2 => ty σ H2 fun y H3 => ∃ a b kvs k, x = .ref a ∧ y = .ref b ∧ DN P w K H3 a kvs ∧ KeyAt K H3 k b ∧ kvs.length < sizeLine ∧ ∀ o, DN P w K (upd H3 a o) a (putK kvs k v) → D.nx σ (upd H3 a o)
theorem ps_dputN (hu : X.A.units + 65 < cLine) (ho : PE X o td) (hi : PE X i ty) (hv : PE X value tv) (hs : swapsWith value (some (.Subscript o i pos')) pos.line X.env = pure false) : PS X (.Assign [.Subscript o i pos'] value pos) (sDPutN X.prog X.w X.K td ty tv) := by
  refine ⟨fun pins s σ H D I h => ?_⟩
  refine wpAny_Assign_Subscript (thn (hv.run pins s σ H _ I h) fun r s1 ⟨v, H1, I1, rv, q1⟩ => thn (ho.run pins s1 σ H1 _ I1 q1) fun u s2 ⟨x, H2, I2, rx, q2⟩ => thn (hi.run pins s2 σ H2 _ I2 q2) fun iv s3 ⟨y, H3, I3, ry, a, b, kvs, k, ex, ey, hd, hk, hz, q3⟩ => ?_) hs
  subst ex ey
  obtain rfl : u = Value.ref a := rx
  obtain rfl : iv = Value.ref b := ry
  exact dn_set hu I3 hd hk hz rv fun o' s4 I4 d4 => ⟨σ, _, I4, q3 o' d4⟩
/-- len(d) -/
theorem call_lenN : CallR X (.builtin "len") (fun xs H Q => ∃ a kvs, xs = [.ref a] ∧ DN X.prog X.w X.K H a kvs ∧ Q (.int kvs.length) H) := by
  intro pins s σ H xs us Q I r h
  obtain ⟨a, kvs, rfl, hd, q⟩ := h
  obtain ⟨u, rfl, r1⟩ := vals1 r
  obtain rfl : u = Value.ref a := r1
  obtain ⟨xs, ys, h1, rfl, h3, z, nd, pr, dd⟩ := hd.raw I
  have e : (kvN xs).length = ys.length := by
    unfold kvN
    rw [List.length_map]
    exact Paired.length pr
  rw [e] at q
  exact call_len_dictH nd dd (by rw [← Paired.length pr]; rw [sizeLine_eq] at z; omega) ⟨.int _, H, I.tok _, ⟨_, rfl⟩, q⟩
/-- isinstance(d, c) -/
theorem call_isiN : CallR X (.builtin "isinstance") (fun xs H Q => ∃ (a : Addr) (kvs : List (NestedKey × V)) (c : V) (u : Value) (b : Bool), xs = [.ref a, c] ∧ DN X.prog X.w X.K H a kvs ∧ ClsV c u ∧ PySem.W.kitOne X.K (.type "dict") u = some b ∧ Q (.bl b) H) := by
  intro pins s σ H xs us Q I r h
  obtain ⟨a, kvs, c, u, b, rfl, hd, k, e, q⟩ := h
  obtain ⟨u1, u2, rfl, r1, r2⟩ := vals2 r
  have e2 := k.eq r2
  subst e2
  obtain rfl : u1 = Value.ref a := r1
  obtain ⟨xs, ys, h1, rfl, h3, z, nd, pr, o, es, ep, g1, g2, _⟩ := hd.raw I
  exact PySem.W.kia_one PySem.W.kitx_dict I.kIn ⟨o, g1, g2.1⟩ e (fun z => nomatch z) fun tk => ⟨.bl b, H, I.tok tk, rfl, q⟩
end
end Sh
set_option Elab.async false
set_option linter.all false
set_option maxRecDepth 100000
set_option maxHeartbeats 4000000
namespace Sh
open PySem PySem.Spec PyProof.Rows L2
/-! ### {k: v for ..} with keys that are tuples -/
section
variable {X : Cx}
/-- one turn of the walk J, the dict at D; T: what becomes of the heap -/
def dcTurn (P : Program) (w : World) (K : PySem.W.Frag) (g : TG) (tt : TT) (tk tv : TE) (vs : List Nat) (σ : L2.St) (D : Addr) (T : Hp → Prop) (x : V) (H' : Hp) : Prop :=
  g x (wipe σ vs) H' fun σ2 H2 => wipe σ2 vs = wipe σ vs ∧ tt σ2 H2 fun b H3 =>
    if b = true then tk σ2 H3 fun y H4 => tv σ2 H4 fun z H5 => ∃ kvs k c, y = .ref c ∧ DN P w K H5 D kvs ∧ KeyAt K H5 k c ∧ kvs.length < sizeLine ∧ ∀ o, DN P w K (upd H5 D o) D (putK kvs k z) → T (upd H5 D o)
    else T H3
def tDcN (P : Program) (w : World) (K : PySem.W.Frag) (wi : TI) (g : TG) (tt : TT) (tk tv : TE) (vs : List Nat) : TE := fun σ H Q => wi σ H fun J H1 => ∀ D o, H1 D = none → DN P w K (upd H1 D o) D [] →
  ∃ W : Nat → Nat → Hp → Prop, (∃ m, W 0 m (upd H1 D o)) ∧ ∀ i m H, W i m H → (J.stop i H ∧ Q (.ref D) H) ∨ (J.go i H ∧ ∃ T : Hp → Prop, (∀ H', T H' → ∃ m', m' < m ∧ W (i + 1) m' H') ∧ ∀ x H', J.yld i H x H' → dcTurn P w K g tt tk tv vs σ D T x H')
theorem dcN_core {pins : List (Addr × Obj)} {s : Shared} {σ : L2.St} {H : Hp} {Q : VK} {kx vx tg iter : Expr} {ifs : List Expr} {scope : Scope} {own : List (Str × Nat)} {pos pos' : Pos} {wi : TI} {g : TG} {tt : TT} {tk tv : TE} {use : Option (Value → Sem Unit)} {Qf : Value → Shared → Prop}
    (hu : X.A.units + 65 < cLine) (calm : X.calm = true) (nodup : X.N.Nodup) (I : L2.Inv X pins σ H s) (walk : PI X tg iter wi) (blk : BlkOk X.N X.env.scope scope own)
    (ptg : ∀ s H C cl fp, PG (X.blk s H scope (compEnvC scope cl C X.env) fp) tg g) (pif : ∀ s H C cl fp, PTs (X.blk s H scope (compEnvC scope cl C X.env) fp) ifs tt)
    (pkx : ∀ s H C cl fp, PE (X.blk s H scope (compEnvC scope cl C X.env) fp) kx tk) (pvx : ∀ s H C cl fp, PE (X.blk s H scope (compEnvC scope cl C X.env) fp) vx tv)
    (folded : ∀ x, foldedSetIterable iter X.env x = pure x) (read : tDcN X.prog X.w X.K wi g tt tk tv (own.map (·.2)) σ H Q)
    (done : ∀ D C s' m H', L2.Inv X pins σ H' s' → Q (.ref D) H' → s'.heap.Ns C m → FpOk X pins H' C → compPost (model X.prog X.w) X.A X.xe use Qf (.ref D) C (.ok .next) s') :
    wpAny (model X.prog X.w) X.A (comprehension (.DictComp kx vx [⟨tg, iter, ifs, 0⟩] scope pos) scope X.env pos' newDict false (eval iter X.env) use) Qf X.xe s := by
  have frees : ∀ y ∈ scope.names, y.2 = .free → ∃ c, X.env.cells.lookup y.1 = some c := fun y hy e =>
    (blk.free y hy e).elim (fun k => I.ok.has _ (.inl k)) fun k => I.ok.has _ (.inr k)
  refine wpAny_comprehension_free (use := use) rfl folded (closure_ok frees) blk.kind (fun y hy e => by rw [blk.uniq y hy, e]) (thn (walk.run pins s σ H _ I read) fun xv s1 hx => thn hx fun itv s2 h2 => ?_)
  obtain ⟨it, fp, tn, J, H2, rfl, I2, T, st2, f2, q⟩ := h2
  refine wpAny_newObj_type (newEnv_comp ?_)
  -- the new dict at D
  obtain ⟨D, hD⟩ : ∃ D, s2.heap.objs.size = D := ⟨_, rfl⟩
  have freeD : H2 D = none := I2.hok.fresh (Nat.le_of_eq hD)
  have laidD : L2.Inv X pins σ (upd H2 D (DNo X.prog X.w D [])) { s2 with heap := s2.heap.push { cls := .type "dict", data := .dict #[] } } := by
    refine I2.laid (t' := s2.toks) (fun b o e => Heap.get?_push_of_some _ e) (Nat.le_of_eq hD) ?_
    rw [← hD]
    exact dno_ok (Nat.zero_le _) (beq_eq_false_iff_ne.mpr (Ne.symm (Nat.ne_of_lt I2.big))) .nil (Heap.DictOfH.new s2.heap)
  obtain ⟨W, ⟨m0, w0⟩, turn⟩ := q D (DNo X.prog X.w D []) freeD ⟨[], upd_same, rfl, fun _ z => nomatch z⟩
  rw [hD]
  obtain ⟨H3, eH3⟩ : ∃ H3, upd H2 D (DNo X.prog X.w D []) = H3 := ⟨_, rfl⟩
  obtain ⟨s3, es3⟩ : ∃ s3 : Shared, { s2 with heap := s2.heap.push { cls := .type "dict", data := .dict #[] } } = s3 := ⟨_, rfl⟩
  have heap3 : s3.heap = s2.heap.push { cls := .type "dict", data := .dict #[] } := by rw [← es3]
  have small : ∀ b ∈ fp, b < s2.heap.objs.size := fun b hb => by
    obtain ⟨o, e, _⟩ := T.obj _ _ st2 b hb
    exact Heap.lt_size e
  have f3 : ∀ b ∈ fp, FpOk X pins H3 b ∧ b < s3.heap.objs.size := fun b hb => by
    have lt := small b hb
    refine ⟨⟨?_, (f2 b hb).2⟩, by rw [heap3, Heap.size_push]; exact Nat.lt_succ_of_lt lt⟩
    rw [← eH3, upd_ne (by rw [← hD]; exact Nat.ne_of_lt lt)]
    exact (f2 b hb).1
  have st3 : tn 0 s3.heap := T.keep _ _ _ st2 fun b _ o e => by rw [heap3]; exact Heap.get?_push_of_some _ e
  rw [eH3] at w0 laidD
  rw [es3] at laidD
  have I4 := block_start laidD blk nodup f3
  -- the block's own environment
  obtain ⟨ce, hce⟩ : ∃ ce, compEnvC scope (cellsFrom (s3.heap.objs.size + 1) scope.names (cloFrom X.env.cells scope.names [])) s3.heap.objs.size X.env = ce := ⟨_, rfl⟩
  have pg := ptg s3 H3 s3.heap.objs.size (cellsFrom (s3.heap.objs.size + 1) scope.names (cloFrom X.env.cells scope.names [])) fp
  have pt := pif s3 H3 s3.heap.objs.size (cellsFrom (s3.heap.objs.size + 1) scope.names (cloFrom X.env.cells scope.names [])) fp
  have pk := pkx s3 H3 s3.heap.objs.size (cellsFrom (s3.heap.objs.size + 1) scope.names (cloFrom X.env.cells scope.names [])) fp
  have pv := pvx s3 H3 s3.heap.objs.size (cellsFrom (s3.heap.objs.size + 1) scope.names (cloFrom X.env.cells scope.names [])) fp
  rw [hce] at I4 pg pt pk pv
  have ceL : ce.locals = s3.heap.objs.size := by rw [← hce]; rfl
  obtain ⟨s4, es4⟩ : ∃ s4 : Shared, { s3 with heap := pushCells (s3.heap.push { cls := .type "dict", data := .dict #[] }) scope.names } = s4 := ⟨_, rfl⟩
  rw [es4] at I4
  have st4 : tn 0 s4.heap := T.keep _ _ _ st3 fun b _ o e => by rw [← es4]; exact pushCells_keeps _ _ _ _ (Heap.get?_push_of_some _ e)
  have nfp : ∀ b ∈ fp, H3 b = none := fun b hb => (f3 b hb).1.1
  have stat : ∀ {σ' : L2.St} {H' : Hp} {s' : Shared}, L2.Inv (X.blk s3 H3 scope ce fp) [] σ' H' s' → (∀ b ∈ fp, H' b = none) → ∀ b ∈ fp, FpOk (X.blk s3 H3 scope ce fp) [] H' b := fun {σ' H' s'} J' hn b hb =>
    ⟨hn b hb, (J'.ok.exf b hb).1, J'.ok.exfs b hb, .inl hb, fun x c e => (J'.ok.exf b hb).2 x c e, fun p hp => by simp at hp⟩
  have loop : codeAny (model X.prog X.w) X.A (.compLoop (.DictComp kx vx [⟨tg, iter, ifs, 0⟩] scope pos) 0 (.ref it) (.ref D) ce) (compPost (model X.prog X.w) X.A X.xe use Qf (.ref D) s3.heap.objs.size) s4 := by
    refine compLoop_anyD (fun n s' => ∃ i H', L2.Inv (X.blk s3 H3 scope ce fp) [] (wipe σ (own.map (·.2))) H' s' ∧ tn i s'.heap ∧ (∀ b ∈ fp, H' b = none) ∧ W i n H') ?_ m0 ⟨0, H3, I4, st4, nfp, w0⟩
    rintro n s5 ⟨i, H5, I5, st5, n5, w5⟩
    rcases turn i n H5 w5 with ⟨stop, qq⟩ | ⟨go, Nx, hNx, step⟩
    · refine thnF (T.done (X.blk s3 H3 scope ce fp) rfl rfl rfl calm i [] s5 _ H5 (fun _ _ => False) I5 (stat I5 n5) st5 stop) fun r s6 ⟨hr, I6⟩ => ?_
      subst hr
      have I7 : L2.Inv X pins σ H5 s6 := laidD.call' (ch := fp) I6.os I6.base I6.hok I6.bare fun b hb => ⟨(f3 b hb).1.2.2.2.1, (f3 b hb).1.2.1, (f3 b hb).1.2.2.2.2.1, (f3 b hb).1.2.2.2.2.2⟩
      have nC : H5 s3.heap.objs.size = none := ceL ▸ (show H5 ce.locals = none from I6.free)
      obtain ⟨m, hn, _⟩ := I6.loc
      exact done D s3.heap.objs.size s6 m H5 I7 qq (ceL ▸ (show s6.heap.Ns ce.locals m from hn)) (laidD.fpOk (Nat.le_refl _) nC)
    · refine thnF (T.item (X.blk s3 H3 scope ce fp) rfl rfl rfl calm i [] s5 _ H5 (fun _ _ => False) I5 (stat I5 n5) st5 go) fun r s6 ⟨u, hr, h6⟩ => ?_
      subst hr
      refine thnF h6 fun _ s7 ⟨x, H7, I7, r7, y7, st7, n7⟩ => ?_
      refine thnF (pg.run _ s7 _ H7 x u _ (I7.pinned (stat I7 n7) (T.obj _ _ st7)) r7 (step x H7 y7)) fun _ s8 ⟨σ8, H8, I8, hw8, q8⟩ => ?_
      refine thnF (pt.run _ s8 σ8 H8 _ I8 q8) fun b s9 ⟨H9, I9, q9⟩ => ?_
      have again : ∀ {s' : Shared} {H' : Hp}, L2.Inv (X.blk s3 H3 scope ce fp) ([] ++ pinsAt fp s7.heap) σ8 H' s' → Nx H' → ∃ m, m < n ∧ ∃ i H', L2.Inv (X.blk s3 H3 scope ce fp) [] (wipe σ (own.map (·.2))) H' s' ∧ tn i s'.heap ∧ (∀ b ∈ fp, H' b = none) ∧ W i m H' := fun {s' H'} J' nx => by
        obtain ⟨m', hm, w'⟩ := hNx H' nx
        have pin' : ∀ b ∈ fp, ∀ o, s7.heap.get? b = some o → s'.heap.get? b = some o ∧ H' b = none := fun b hb o e =>
          let z := J'.pin (b, o) (List.mem_append_right _ (List.mem_append_right _ (mem_pinsAt hb e)))
          ⟨z.1, z.2.1⟩
        refine ⟨m', hm, i + 1, H', (J'.unpinned (pins := [])).weak (by rw [← hw8, wipe_length]) (fun j v e => ?_), T.keep _ _ _ st7 fun b hb o e => (pin' b hb o e).1, fun b hb => ?_, w'⟩
        · rw [← hw8] at e
          exact (wipe_some e).1
        · obtain ⟨o, e, _⟩ := T.obj _ _ st7 b hb
          exact (pin' b hb o e).2
      cases b with
      | false =>
        simp only [Bool.false_eq_true, if_false] at q9 ⊢
        exact again I9 q9
      | true =>
        simp only [if_true] at q9 ⊢
        refine thnF (pk.run _ s9 σ8 H9 _ I9 q9) fun z s10 ⟨yk, H10, I10, r10, q10⟩ => ?_
        refine thnF (pv.run _ s10 σ8 H10 _ I10 q10) fun z2 s11 ⟨yv, H11, I11, r11, kvs, k, c, ek, hD11, hk11, hz11, nx⟩ => ?_
        subst ek
        obtain rfl : z = Value.ref c := r10
        exact dn_setRaw (X := X.blk s3 H3 scope ce fp) hu I11 hD11 hk11 hz11 r11 fun o s12 I12 d12 => again I12 (nx o d12)
  have fin := codeAny_compStart_dict loop (T.self X.A 0 _ _ _ st4 loop)
  rw [es3]
  subst es4 hce
  exact fin
theorem pe_dcN {kx vx tg iter : Expr} {ifs : List Expr} {scope : Scope} {own : List (Str × Nat)} {pos : Pos} {wi : TI} {g : TG} {tt : TT} {tk tv : TE} (hu : X.A.units + 65 < cLine) (calm : X.calm = true) (nodup : X.N.Nodup) (walk : PI X tg iter wi) (blk : BlkOk X.N X.env.scope scope own)
    (ptg : ∀ s H C cl fp, PG (X.blk s H scope (compEnvC scope cl C X.env) fp) tg g) (pif : ∀ s H C cl fp, PTs (X.blk s H scope (compEnvC scope cl C X.env) fp) ifs tt)
    (pkx : ∀ s H C cl fp, PE (X.blk s H scope (compEnvC scope cl C X.env) fp) kx tk) (pvx : ∀ s H C cl fp, PE (X.blk s H scope (compEnvC scope cl C X.env) fp) vx tv)
    (folded : ∀ x, foldedSetIterable iter X.env x = pure x := by intro _; rfl) : PE X (.DictComp kx vx [⟨tg, iter, ifs, 0⟩] scope pos) (tDcN X.prog X.w X.K wi g tt tk tv (own.map (·.2))) := by
  refine ⟨fun pins s σ H Q I h => ?_⟩
  rw [arm_eval_DictComp]
  refine dcN_core hu calm nodup I walk blk ptg pif pkx pvx folded h fun D C s' m H' I' q hn f => ⟨m, hn, fun h'' sb => ?_⟩
  obtain ⟨f0, f1, f2, f3, f4, f5⟩ := f
  exact ⟨.ref D, H', I'.turned (t' := s'.toks) (fun b o hb e => (sb.2 b hb).trans e) f0 f1 f3 f4 f5, rfl, q⟩
end
end Sh
set_option Elab.async false
set_option linter.all false
set_option maxRecDepth 100000
set_option maxHeartbeats 4000000
namespace Toy
open PySem L2 Sh
def top (i : Nat) : Stmt := PySem.Challenge.pw_treeshed_k61_sums_and_cells.main.body.getD i (.Pass ⟨0, 0, 0, 0⟩)
abbrev s_way_of : Stmt := top 6
abbrev N_way_of : List Str := ["plan", "base", "one", "other"]
theorem sc_way_of : FnScope ["plan", "base", "one", "other"] ["plan", "base", "one", "other"] (defScope s_way_of) := ⟨rfl, rfl, rfl, by decide +kernel, rfl, by decide +kernel, by decide +kernel⟩
abbrev s_cells_met : Stmt := top 7
abbrev N_cells_met : List Str := ["plan", "cells", "base", "gone"]
theorem sc_cells_met : FnScope ["plan", "cells", "base", "gone"] ["plan", "cells"] (defScope s_cells_met) := ⟨rfl, rfl, rfl, by decide +kernel, rfl, by decide +kernel, by decide +kernel⟩
abbrev s_cell_merged : Stmt := top 8
abbrev N_cell_merged : List Str := ["plan", "cells", "base", "one", "other", "flag"]
theorem sc_cell_merged : FnScope ["plan", "cells", "base", "one", "other", "flag"] ["plan", "cells"] (defScope s_cell_merged) := ⟨rfl, rfl, rfl, by decide +kernel, rfl, by decide +kernel, by decide +kernel⟩
abbrev s_due_values : Stmt := top 9
abbrev N_due_values : List Str := ["was", "left", "right"]
theorem sc_due_values : FnScope ["was", "left", "right"] ["was", "left", "right"] (defScope s_due_values) := ⟨rfl, rfl, rfl, by decide +kernel, rfl, by decide +kernel, by decide +kernel⟩
abbrev s_empty_sum : Stmt := top 13
abbrev N_empty_sum : List Str := []
theorem sc_empty_sum : FnScope [] [] (defScope s_empty_sum) := ⟨rfl, rfl, rfl, by decide +kernel, rfl, by decide +kernel, by decide +kernel⟩
abbrev s_added : Stmt := top 14
abbrev N_added : List Str := ["total", "part", "outcome", "worst"]
theorem sc_added : FnScope ["total", "part", "outcome", "worst"] ["total", "part"] (defScope s_added) := ⟨rfl, rfl, rfl, by decide +kernel, rfl, by decide +kernel, by decide +kernel⟩
abbrev s_is_let_here : Stmt := top 15
abbrev N_is_let_here : List Str := ["kinds", "cell", "children"]
theorem sc_is_let_here : FnScope ["kinds", "cell", "children"] ["kinds", "cell", "children"] (defScope s_is_let_here) := ⟨rfl, rfl, rfl, by decide +kernel, rfl, by decide +kernel, by decide +kernel⟩
abbrev s_outcome_on : Stmt := top 18
abbrev N_outcome_on : List Str := ["plan", "kinds", "total", "cells", "root", "met", "value", "flag", "was", "left", "right", "cell"]
theorem sc_outcome_on : FnScope ["plan", "kinds", "total", "cells", "root", "met", "value", "flag", "was", "left", "right", "cell"] ["plan", "kinds", "total", "cells", "root"] (defScope s_outcome_on) := ⟨rfl, rfl, rfl, by decide +kernel, rfl, by decide +kernel, by decide +kernel⟩
abbrev s_case_made : Stmt := top 17
abbrev N_case_made : List Str := ["plan", "kinds", "total", "cells", "root", "base", "one", "other", "was", "left", "right", "same", "alike", "both", "numbers", "way", "outcome", "cell"]
theorem sc_case_made : FnScope ["plan", "kinds", "total", "cells", "root", "base", "one", "other", "was", "left", "right", "same", "alike", "both", "numbers", "way", "outcome", "cell"] ["plan", "kinds", "total", "cells", "root"] (defScope s_case_made) := ⟨rfl, rfl, rfl, by decide +kernel, rfl, by decide +kernel, by decide +kernel⟩
abbrev s_closed : Stmt := top 16
abbrev N_closed : List Str := ["plan", "rule", "total", "cells", "root", "kinds", "missing", "cell", "k"]
theorem sc_closed : FnScope ["plan", "rule", "total", "cells", "root", "kinds", "missing", "cell", "k"] ["plan", "rule", "total", "cells", "root"] (defScope s_closed) := ⟨rfl, rfl, rfl, by decide +kernel, rfl, by decide +kernel, by decide +kernel⟩
abbrev s_is_kind : Stmt := top 20
abbrev N_is_kind : List Str := ["kind", "kept", "flag", "children"]
theorem sc_is_kind : FnScope ["kind", "kept", "flag", "children"] ["kind"] (defScope s_is_kind) := ⟨rfl, rfl, rfl, by decide +kernel, rfl, by decide +kernel, by decide +kernel⟩
abbrev s_kinds_of : Stmt := top 21
abbrev N_kinds_of : List Str := ["side", "kinds", "found", "number", "kind"]
theorem sc_kinds_of : FnScope ["side", "kinds", "found", "number", "kind"] ["side", "kinds"] (defScope s_kinds_of) := ⟨rfl, rfl, rfl, by decide +kernel, rfl, by decide +kernel, by decide +kernel⟩
abbrev s_Rule_init : Stmt := inClass (top 22) 0
abbrev N_Rule_init : List Str := ["self", "root", "others"]
theorem sc_Rule_init : FnScope ["self", "root", "others"] ["self", "root", "others"] (defScope s_Rule_init) := ⟨rfl, rfl, rfl, by decide +kernel, rfl, by decide +kernel, by decide +kernel⟩
abbrev s_is_one_of : Stmt := top 28
abbrev N_is_one_of : List Str := ["value", "names"]
theorem sc_is_one_of : FnScope ["value", "names"] ["value", "names"] (defScope s_is_one_of) := ⟨rfl, rfl, rfl, by decide +kernel, rfl, by decide +kernel, by decide +kernel⟩
abbrev s_are_flags : Stmt := top 29
abbrev N_are_flags : List Str := ["flags", "key"]
theorem sc_are_flags : FnScope ["flags", "key"] ["flags"] (defScope s_are_flags) := ⟨rfl, rfl, rfl, by decide +kernel, rfl, by decide +kernel, by decide +kernel⟩
abbrev s_Plan_init : Stmt := inClass (top 30) 0
abbrev N_Plan_init : List Str := ["self", "gone", "alike", "unlike", "tidy", "flags", "key"]
theorem sc_Plan_init : FnScope ["self", "gone", "alike", "unlike", "tidy", "flags", "key"] ["self", "gone", "alike", "unlike", "tidy", "flags"] (defScope s_Plan_init) := ⟨rfl, rfl, rfl, by decide +kernel, rfl, by decide +kernel, by decide +kernel⟩
abbrev s_l_pen_of : Stmt := top 32
abbrev N_l_pen_of : List Str := ["_law_script"]
theorem sc_l_pen_of : FnScope ["_law_script"] ["_law_script"] (defScope s_l_pen_of) := ⟨rfl, rfl, rfl, by decide +kernel, rfl, by decide +kernel, by decide +kernel⟩
abbrev s_l_draw : Stmt := top 33
abbrev N_l_draw : List Str := ["_law_pen", "_law_many", "_law_digit", "_law_index", "_law_size", "_law_cell", "_law_mixed"]
theorem sc_l_draw : FnScope ["_law_pen", "_law_many", "_law_digit", "_law_index", "_law_size", "_law_cell", "_law_mixed"] ["_law_pen", "_law_many"] (defScope s_l_draw) := ⟨rfl, rfl, rfl, by decide +kernel, rfl, by decide +kernel, by decide +kernel⟩
abbrev s_l_pick : Stmt := top 34
abbrev N_l_pick : List Str := ["_law_pen", "_law_items"]
theorem sc_l_pick : FnScope ["_law_pen", "_law_items"] ["_law_pen", "_law_items"] (defScope s_l_pick) := ⟨rfl, rfl, rfl, by decide +kernel, rfl, by decide +kernel, by decide +kernel⟩
abbrev s_l_plan : Stmt := top 35
abbrev N_l_plan : List Str := ["_law_pen", "_law_gone", "_law_alike", "_law_unlike", "_law_tidy", "_law_flags", "_law_root", "_law_kept", "_law_children"]
theorem sc_l_plan : FnScope ["_law_pen", "_law_gone", "_law_alike", "_law_unlike", "_law_tidy", "_law_flags", "_law_root", "_law_kept", "_law_children"] ["_law_pen"] (defScope s_l_plan) := ⟨rfl, rfl, rfl, by decide +kernel, rfl, by decide +kernel, by decide +kernel⟩
abbrev s_l_made : Stmt := top 36
abbrev N_l_made : List Str := ["_law_plan_here"]
theorem sc_l_made : FnScope ["_law_plan_here"] ["_law_plan_here"] (defScope s_l_made) := ⟨rfl, rfl, rfl, by decide +kernel, rfl, by decide +kernel, by decide +kernel⟩
abbrev s_l_case : Stmt := top 37
abbrev N_l_case : List Str := ["_law_pen", "_law_bools", "_law_turn"]
theorem sc_l_case : FnScope ["_law_pen", "_law_bools", "_law_turn"] ["_law_pen"] (defScope s_l_case) := ⟨rfl, rfl, rfl, by decide +kernel, rfl, by decide +kernel, by decide +kernel⟩
abbrev s_l_sum_of : Stmt := top 38
abbrev N_l_sum_of : List Str := ["_law_cases", "_law_outcomes", "_law_there", "_law_counts", "_law_same", "_law_some", "_law_worst", "_law_outcome_here", "_law_case_here", "_law_at"]
theorem sc_l_sum_of : FnScope ["_law_cases", "_law_outcomes", "_law_there", "_law_counts", "_law_same", "_law_some", "_law_worst", "_law_outcome_here", "_law_case_here", "_law_at"] ["_law_cases"] (defScope s_l_sum_of) := ⟨rfl, rfl, rfl, by decide +kernel, rfl, by decide +kernel, by decide +kernel⟩
abbrev s_l_kinds : Stmt := top 39
abbrev N_l_kinds : List Str := ["_law_pen", "_law_kinds_here", "_law_most", "_law_kept", "_law_flag", "_law_many"]
theorem sc_l_kinds : FnScope ["_law_pen", "_law_kinds_here", "_law_most", "_law_kept", "_law_flag", "_law_many"] ["_law_pen"] (defScope s_l_kinds) := ⟨rfl, rfl, rfl, by decide +kernel, rfl, by decide +kernel, by decide +kernel⟩
abbrev s_l_some_cells : Stmt := top 40
abbrev N_l_some_cells : List Str := ["_law_pen", "_law_total", "_law_cells", "_law_at", "_law_cell"]
theorem sc_l_some_cells : FnScope ["_law_pen", "_law_total", "_law_cells", "_law_at", "_law_cell"] ["_law_pen", "_law_total"] (defScope s_l_some_cells) := ⟨rfl, rfl, rfl, by decide +kernel, rfl, by decide +kernel, by decide +kernel⟩
abbrev s_l_value : Stmt := top 41
abbrev N_l_value : List Str := ["_law_cell"]
theorem sc_l_value : FnScope ["_law_cell"] ["_law_cell"] (defScope s_l_value) := ⟨rfl, rfl, rfl, by decide +kernel, rfl, by decide +kernel, by decide +kernel⟩
abbrev s_l_merged_value : Stmt := top 42
abbrev N_l_merged_value : List Str := ["_law_plan_here", "_law_base", "_law_one", "_law_other"]
theorem sc_l_merged_value : FnScope ["_law_plan_here", "_law_base", "_law_one", "_law_other"] ["_law_plan_here", "_law_base", "_law_one", "_law_other"] (defScope s_l_merged_value) := ⟨rfl, rfl, rfl, by decide +kernel, rfl, by decide +kernel, by decide +kernel⟩
abbrev s_l_due : Stmt := top 43
abbrev N_l_due : List Str := ["_law_base", "_law_one", "_law_other"]
theorem sc_l_due : FnScope ["_law_base", "_law_one", "_law_other"] ["_law_base", "_law_one", "_law_other"] (defScope s_l_due) := ⟨rfl, rfl, rfl, by decide +kernel, rfl, by decide +kernel, by decide +kernel⟩
abbrev s_l_outcome : Stmt := top 44
abbrev N_l_outcome : List Str := ["_law_plan_here", "_law_kinds_here", "_law_total", "_law_cells", "_law_same", "_law_alike", "_law_at_root", "_law_base", "_law_one", "_law_other", "_law_was", "_law_lacking", "_law_left", "_law_right", "_law_value_here", "_law_clashes", "_law_flag"]
theorem sc_l_outcome : FnScope ["_law_plan_here", "_law_kinds_here", "_law_total", "_law_cells", "_law_same", "_law_alike", "_law_at_root", "_law_base", "_law_one", "_law_other", "_law_was", "_law_lacking", "_law_left", "_law_right", "_law_value_here", "_law_clashes", "_law_flag"] ["_law_plan_here", "_law_kinds_here", "_law_total", "_law_cells", "_law_same", "_law_alike", "_law_at_root"] (defScope s_l_outcome) := ⟨rfl, rfl, rfl, by decide +kernel, rfl, by decide +kernel, by decide +kernel⟩
abbrev s_l_closed : Stmt := top 45
abbrev N_l_closed : List Str := ["_law_plan_here", "_law_kinds_here", "_law_total", "_law_cells", "_law_at_root", "_law_lacking", "_law_at", "_law_base", "_law_one", "_law_other", "_law_same", "_law_was", "_law_left", "_law_right", "_law_alike", "_law_both", "_law_outcome_here", "_law_cell"]
theorem sc_l_closed : FnScope ["_law_plan_here", "_law_kinds_here", "_law_total", "_law_cells", "_law_at_root", "_law_lacking", "_law_at", "_law_base", "_law_one", "_law_other", "_law_same", "_law_was", "_law_left", "_law_right", "_law_alike", "_law_both", "_law_outcome_here", "_law_cell"] ["_law_plan_here", "_law_kinds_here", "_law_total", "_law_cells", "_law_at_root"] (defScope s_l_closed) := ⟨rfl, rfl, rfl, by decide +kernel, rfl, by decide +kernel, by decide +kernel⟩
abbrev s_l_kinds_right : Stmt := top 46
abbrev N_l_kinds_right : List Str := ["_law_told", "_law_ways", "_law_each"]
theorem sc_l_kinds_right : FnScope ["_law_told", "_law_ways", "_law_each"] ["_law_told", "_law_ways"] (defScope s_l_kinds_right) := ⟨rfl, rfl, rfl, by decide +kernel, rfl, by decide +kernel, by decide +kernel⟩
abbrev s_l_sums_so : Stmt := top 47
abbrev N_l_sums_so : List Str := ["_law_pen", "_law_cases", "_law_total", "_law_many"]
theorem sc_l_sums_so : FnScope ["_law_pen", "_law_cases", "_law_total", "_law_many"] ["_law_pen", "_law_cases"] (defScope s_l_sums_so) := ⟨rfl, rfl, rfl, by decide +kernel, rfl, by decide +kernel, by decide +kernel⟩
abbrev s_law : Stmt := top 48
abbrev N_law : List Str := ["_law_script", "_law_pen", "_law_turn", "_law_cases", "_law_total", "_law_plan_here", "_law_root", "_law_others", "_law_made_here", "_law_rule", "_law_way", "_law_cells", "_law_at_root", "_law_due_here", "_law_told", "_law_case_here"]
theorem sc_law : FnScope ["_law_script", "_law_pen", "_law_turn", "_law_cases", "_law_total", "_law_plan_here", "_law_root", "_law_others", "_law_made_here", "_law_rule", "_law_way", "_law_cells", "_law_at_root", "_law_due_here", "_law_told", "_law_case_here"] ["_law_script"] (defScope s_law) := ⟨rfl, rfl, rfl, by decide +kernel, rfl, by decide +kernel, by decide +kernel⟩
structure Tx (K : PySem.W.Frag) (mg : Str → Option Value) where
  b_len : mg "len" = none
  b_min : mg "min" = none
  b_isinstance : mg "isinstance" = none
  b_bool : mg "bool" = none
  b_int : mg "int" = none
  b_list : mg "list" = none
  b_tuple : mg "tuple" = none
  b_enumerate : mg "enumerate" = none
  b_sorted : mg "sorted" = none
  b_abs : mg "abs" = none
  b_any : mg "any" = none
  b_all : mg "all" = none
  b_range : mg "range" = none
  b_str : mg "str" = none
  b_dict : mg "dict" = none
  c_Rule : Addr
  m_Rule : mg "Rule" = some (.ref c_Rule)
  cl_Rule : Cls K c_Rule
  na_Rule_root : NoAttr K c_Rule "root"
  na_Rule_others : NoAttr K c_Rule "others"
  c_Plan : Addr
  m_Plan : mg "Plan" = some (.ref c_Plan)
  cl_Plan : Cls K c_Plan
  na_Plan_gone : NoAttr K c_Plan "gone"
  na_Plan_alike : NoAttr K c_Plan "alike"
  na_Plan_unlike : NoAttr K c_Plan "unlike"
  na_Plan_tidy : NoAttr K c_Plan "tidy"
  na_Plan_by_kind : NoAttr K c_Plan "by_kind"
  g_WORST : Addr
  m_WORST : mg "WORST" = some (.ref g_WORST)
  y_WORST : ∃ o, K.lookup g_WORST = some o ∧ o.cls = .type "tuple" ∧ o.dict = none
  q_WORST : ∀ H, SqT K H g_WORST [.str "right", .str "rule", .str "words", .str "clash"]
  g_RESULTS : Addr
  m_RESULTS : mg "RESULTS" = some (.ref g_RESULTS)
  y_RESULTS : ∃ o, K.lookup g_RESULTS = some o ∧ o.cls = .type "tuple" ∧ o.dict = none
  q_RESULTS : ∀ H, SqT K H g_RESULTS [.str "tree", .str "rule", .str "words"]
  g_GONE : Addr
  m_GONE : mg "GONE" = some (.ref g_GONE)
  y_GONE : ∃ o, K.lookup g_GONE = some o ∧ o.cls = .type "tuple" ∧ o.dict = none
  q_GONE : ∀ H, SqT K H g_GONE [.str "clash", .str "kept", .str "bare", .str "base"]
  g_ALIKE : Addr
  m_ALIKE : mg "ALIKE" = some (.ref g_ALIKE)
  y_ALIKE : ∃ o, K.lookup g_ALIKE = some o ∧ o.cls = .type "tuple" ∧ o.dict = none
  q_ALIKE : ∀ H, SqT K H g_ALIKE [.str "take", .str "clash"]
  g_UNLIKE : Addr
  m_UNLIKE : mg "UNLIKE" = some (.ref g_UNLIKE)
  y_UNLIKE : ∃ o, K.lookup g_UNLIKE = some o ∧ o.cls = .type "tuple" ∧ o.dict = none
  q_UNLIKE : ∀ H, SqT K H g_UNLIKE [.str "clash", .str "one", .str "other"]
  g_KEYS_0 : Addr
  q_KEYS_0 : ∀ H, SqT K H g_KEYS_0 [.bl true, .bl true, .int 0]
  g_KEYS_1 : Addr
  q_KEYS_1 : ∀ H, SqT K H g_KEYS_1 [.bl true, .bl true, .int 1]
  g_KEYS_2 : Addr
  q_KEYS_2 : ∀ H, SqT K H g_KEYS_2 [.bl true, .bl true, .int 2]
  g_KEYS_3 : Addr
  q_KEYS_3 : ∀ H, SqT K H g_KEYS_3 [.bl true, .bl false, .int 0]
  g_KEYS_4 : Addr
  q_KEYS_4 : ∀ H, SqT K H g_KEYS_4 [.bl true, .bl false, .int 1]
  g_KEYS_5 : Addr
  q_KEYS_5 : ∀ H, SqT K H g_KEYS_5 [.bl true, .bl false, .int 2]
  g_KEYS_6 : Addr
  q_KEYS_6 : ∀ H, SqT K H g_KEYS_6 [.bl false, .bl true, .int 0]
  g_KEYS_7 : Addr
  q_KEYS_7 : ∀ H, SqT K H g_KEYS_7 [.bl false, .bl true, .int 1]
  g_KEYS_8 : Addr
  q_KEYS_8 : ∀ H, SqT K H g_KEYS_8 [.bl false, .bl true, .int 2]
  g_KEYS_9 : Addr
  q_KEYS_9 : ∀ H, SqT K H g_KEYS_9 [.bl false, .bl false, .int 0]
  g_KEYS_10 : Addr
  q_KEYS_10 : ∀ H, SqT K H g_KEYS_10 [.bl false, .bl false, .int 1]
  g_KEYS_11 : Addr
  q_KEYS_11 : ∀ H, SqT K H g_KEYS_11 [.bl false, .bl false, .int 2]
  g_KEYS : Addr
  m_KEYS : mg "KEYS" = some (.ref g_KEYS)
  y_KEYS : ∃ o, K.lookup g_KEYS = some o ∧ o.cls = .type "tuple" ∧ o.dict = none
  q_KEYS : ∀ H, SqT K H g_KEYS [.ref g_KEYS_0, .ref g_KEYS_1, .ref g_KEYS_2, .ref g_KEYS_3, .ref g_KEYS_4, .ref g_KEYS_5, .ref g_KEYS_6, .ref g_KEYS_7, .ref g_KEYS_8, .ref g_KEYS_9, .ref g_KEYS_10, .ref g_KEYS_11]
  a_way_of : Addr
  fd_way_of : FuncData
  F_way_of : Fun K "way_of" "way_of" s_way_of a_way_of fd_way_of
  bi_way_of : Binds K fd_way_of ["plan", "base", "one", "other"] []
  m_way_of : mg "way_of" = some (.ref a_way_of)
  a_cells_met : Addr
  fd_cells_met : FuncData
  F_cells_met : Fun K "cells_met" "cells_met" s_cells_met a_cells_met fd_cells_met
  bi_cells_met : Binds K fd_cells_met ["plan", "cells"] []
  m_cells_met : mg "cells_met" = some (.ref a_cells_met)
  a_cell_merged : Addr
  fd_cell_merged : FuncData
  F_cell_merged : Fun K "cell_merged" "cell_merged" s_cell_merged a_cell_merged fd_cell_merged
  bi_cell_merged : Binds K fd_cell_merged ["plan", "cells"] []
  m_cell_merged : mg "cell_merged" = some (.ref a_cell_merged)
  a_due_values : Addr
  fd_due_values : FuncData
  F_due_values : Fun K "due_values" "due_values" s_due_values a_due_values fd_due_values
  bi_due_values : Binds K fd_due_values ["was", "left", "right"] []
  m_due_values : mg "due_values" = some (.ref a_due_values)
  a_empty_sum : Addr
  fd_empty_sum : FuncData
  F_empty_sum : Fun K "empty_sum" "empty_sum" s_empty_sum a_empty_sum fd_empty_sum
  bi_empty_sum : Binds K fd_empty_sum [] []
  m_empty_sum : mg "empty_sum" = some (.ref a_empty_sum)
  a_added : Addr
  fd_added : FuncData
  F_added : Fun K "added" "added" s_added a_added fd_added
  bi_added : Binds K fd_added ["total", "part"] []
  m_added : mg "added" = some (.ref a_added)
  a_is_let_here : Addr
  fd_is_let_here : FuncData
  F_is_let_here : Fun K "is_let_here" "is_let_here" s_is_let_here a_is_let_here fd_is_let_here
  bi_is_let_here : Binds K fd_is_let_here ["kinds", "cell", "children"] []
  m_is_let_here : mg "is_let_here" = some (.ref a_is_let_here)
  a_outcome_on : Addr
  fd_outcome_on : FuncData
  F_outcome_on : Fun K "outcome_on" "outcome_on" s_outcome_on a_outcome_on fd_outcome_on
  bi_outcome_on : Binds K fd_outcome_on ["plan", "kinds", "total", "cells", "root"] []
  m_outcome_on : mg "outcome_on" = some (.ref a_outcome_on)
  a_case_made : Addr
  fd_case_made : FuncData
  F_case_made : Fun K "case_made" "case_made" s_case_made a_case_made fd_case_made
  bi_case_made : Binds K fd_case_made ["plan", "kinds", "total", "cells", "root"] []
  m_case_made : mg "case_made" = some (.ref a_case_made)
  a_closed : Addr
  fd_closed : FuncData
  F_closed : FunD K "closed" "closed" (defArgs s_closed) (defBody s_closed) (defScope s_closed) [.bl false] [] a_closed fd_closed
  bd1_closed : ∃ ds, Vals [.bl false] ds ∧ Binds K fd_closed ["plan", "rule", "total", "cells", "root"] ds
  bi_closed : Binds K fd_closed ["plan", "rule", "total", "cells", "root"] []
  m_closed : mg "closed" = some (.ref a_closed)
  a_is_kind : Addr
  fd_is_kind : FuncData
  F_is_kind : Fun K "is_kind" "is_kind" s_is_kind a_is_kind fd_is_kind
  bi_is_kind : Binds K fd_is_kind ["kind"] []
  m_is_kind : mg "is_kind" = some (.ref a_is_kind)
  a_kinds_of : Addr
  fd_kinds_of : FuncData
  F_kinds_of : Fun K "kinds_of" "kinds_of" s_kinds_of a_kinds_of fd_kinds_of
  bi_kinds_of : Binds K fd_kinds_of ["side", "kinds"] []
  m_kinds_of : mg "kinds_of" = some (.ref a_kinds_of)
  a_Rule_init : Addr
  fd_Rule_init : FuncData
  F_Rule_init : Fun K "__init__" "Rule.__init__" s_Rule_init a_Rule_init fd_Rule_init
  bi_Rule_init : Binds K fd_Rule_init ["self", "root", "others"] []
  mk_Rule : Mk K c_Rule a_Rule_init
  a_is_one_of : Addr
  fd_is_one_of : FuncData
  F_is_one_of : Fun K "is_one_of" "is_one_of" s_is_one_of a_is_one_of fd_is_one_of
  bi_is_one_of : Binds K fd_is_one_of ["value", "names"] []
  m_is_one_of : mg "is_one_of" = some (.ref a_is_one_of)
  a_are_flags : Addr
  fd_are_flags : FuncData
  F_are_flags : Fun K "are_flags" "are_flags" s_are_flags a_are_flags fd_are_flags
  bi_are_flags : Binds K fd_are_flags ["flags"] []
  m_are_flags : mg "are_flags" = some (.ref a_are_flags)
  a_Plan_init : Addr
  fd_Plan_init : FuncData
  F_Plan_init : FunD K "__init__" "Plan.__init__" (defArgs s_Plan_init) (defBody s_Plan_init) (defScope s_Plan_init) [.non] [] a_Plan_init fd_Plan_init
  bd1_Plan_init : ∃ ds, Vals [.non] ds ∧ Binds K fd_Plan_init ["self", "gone", "alike", "unlike", "tidy", "flags"] ds
  bi_Plan_init : Binds K fd_Plan_init ["self", "gone", "alike", "unlike", "tidy", "flags"] []
  mk_Plan : Mk K c_Plan a_Plan_init
  a_l_pen_of : Addr
  fd_l_pen_of : FuncData
  F_l_pen_of : Fun K "_law_pen_of" "_law_pen_of" s_l_pen_of a_l_pen_of fd_l_pen_of
  bi_l_pen_of : Binds K fd_l_pen_of ["_law_script"] []
  m_l_pen_of : mg "_law_pen_of" = some (.ref a_l_pen_of)
  a_l_draw : Addr
  fd_l_draw : FuncData
  F_l_draw : Fun K "_law_draw" "_law_draw" s_l_draw a_l_draw fd_l_draw
  bi_l_draw : Binds K fd_l_draw ["_law_pen", "_law_many"] []
  m_l_draw : mg "_law_draw" = some (.ref a_l_draw)
  a_l_pick : Addr
  fd_l_pick : FuncData
  F_l_pick : Fun K "_law_pick" "_law_pick" s_l_pick a_l_pick fd_l_pick
  bi_l_pick : Binds K fd_l_pick ["_law_pen", "_law_items"] []
  m_l_pick : mg "_law_pick" = some (.ref a_l_pick)
  a_l_plan : Addr
  fd_l_plan : FuncData
  F_l_plan : Fun K "_law_plan" "_law_plan" s_l_plan a_l_plan fd_l_plan
  bi_l_plan : Binds K fd_l_plan ["_law_pen"] []
  m_l_plan : mg "_law_plan" = some (.ref a_l_plan)
  a_l_made : Addr
  fd_l_made : FuncData
  F_l_made : Fun K "_law_made" "_law_made" s_l_made a_l_made fd_l_made
  bi_l_made : Binds K fd_l_made ["_law_plan_here"] []
  m_l_made : mg "_law_made" = some (.ref a_l_made)
  a_l_case : Addr
  fd_l_case : FuncData
  F_l_case : Fun K "_law_case" "_law_case" s_l_case a_l_case fd_l_case
  bi_l_case : Binds K fd_l_case ["_law_pen"] []
  m_l_case : mg "_law_case" = some (.ref a_l_case)
  a_l_sum_of : Addr
  fd_l_sum_of : FuncData
  F_l_sum_of : Fun K "_law_sum_of" "_law_sum_of" s_l_sum_of a_l_sum_of fd_l_sum_of
  bi_l_sum_of : Binds K fd_l_sum_of ["_law_cases"] []
  m_l_sum_of : mg "_law_sum_of" = some (.ref a_l_sum_of)
  a_l_kinds : Addr
  fd_l_kinds : FuncData
  F_l_kinds : Fun K "_law_kinds" "_law_kinds" s_l_kinds a_l_kinds fd_l_kinds
  bi_l_kinds : Binds K fd_l_kinds ["_law_pen"] []
  m_l_kinds : mg "_law_kinds" = some (.ref a_l_kinds)
  a_l_some_cells : Addr
  fd_l_some_cells : FuncData
  F_l_some_cells : Fun K "_law_some_cells" "_law_some_cells" s_l_some_cells a_l_some_cells fd_l_some_cells
  bi_l_some_cells : Binds K fd_l_some_cells ["_law_pen", "_law_total"] []
  m_l_some_cells : mg "_law_some_cells" = some (.ref a_l_some_cells)
  a_l_value : Addr
  fd_l_value : FuncData
  F_l_value : Fun K "_law_value" "_law_value" s_l_value a_l_value fd_l_value
  bi_l_value : Binds K fd_l_value ["_law_cell"] []
  m_l_value : mg "_law_value" = some (.ref a_l_value)
  a_l_merged_value : Addr
  fd_l_merged_value : FuncData
  F_l_merged_value : Fun K "_law_merged_value" "_law_merged_value" s_l_merged_value a_l_merged_value fd_l_merged_value
  bi_l_merged_value : Binds K fd_l_merged_value ["_law_plan_here", "_law_base", "_law_one", "_law_other"] []
  m_l_merged_value : mg "_law_merged_value" = some (.ref a_l_merged_value)
  a_l_due : Addr
  fd_l_due : FuncData
  F_l_due : Fun K "_law_due" "_law_due" s_l_due a_l_due fd_l_due
  bi_l_due : Binds K fd_l_due ["_law_base", "_law_one", "_law_other"] []
  m_l_due : mg "_law_due" = some (.ref a_l_due)
  a_l_outcome : Addr
  fd_l_outcome : FuncData
  F_l_outcome : Fun K "_law_outcome" "_law_outcome" s_l_outcome a_l_outcome fd_l_outcome
  bi_l_outcome : Binds K fd_l_outcome ["_law_plan_here", "_law_kinds_here", "_law_total", "_law_cells", "_law_same", "_law_alike", "_law_at_root"] []
  m_l_outcome : mg "_law_outcome" = some (.ref a_l_outcome)
  a_l_closed : Addr
  fd_l_closed : FuncData
  F_l_closed : Fun K "_law_closed" "_law_closed" s_l_closed a_l_closed fd_l_closed
  bi_l_closed : Binds K fd_l_closed ["_law_plan_here", "_law_kinds_here", "_law_total", "_law_cells", "_law_at_root"] []
  m_l_closed : mg "_law_closed" = some (.ref a_l_closed)
  a_l_kinds_right : Addr
  fd_l_kinds_right : FuncData
  F_l_kinds_right : Fun K "_law_kinds_right" "_law_kinds_right" s_l_kinds_right a_l_kinds_right fd_l_kinds_right
  bi_l_kinds_right : Binds K fd_l_kinds_right ["_law_told", "_law_ways"] []
  m_l_kinds_right : mg "_law_kinds_right" = some (.ref a_l_kinds_right)
  a_l_sums_so : Addr
  fd_l_sums_so : FuncData
  F_l_sums_so : Fun K "_law_sums_so" "_law_sums_so" s_l_sums_so a_l_sums_so fd_l_sums_so
  bi_l_sums_so : Binds K fd_l_sums_so ["_law_pen", "_law_cases"] []
  m_l_sums_so : mg "_law_sums_so" = some (.ref a_l_sums_so)
  a_law : Addr
  fd_law : FuncData
  F_law : Fun K "law" "law" s_law a_law fd_law
  bi_law : Binds K fd_law ["_law_script"] []
  m_law : mg "law" = some (.ref a_law)
theorem hu65_of {A : Around} {k : Nat} (hr : Room k A) : A.units + 65 < cLine := by have := hr.un; omega
theorem sqT_k {K : PySem.W.Frag} {a : Addr} {dd : Option Addr} {its : Array Value} {n : Nat} {sl : Array (Option Value)} {xs : List V} (l : K.lookup a = some ⟨.type "tuple", dd, .seq its n, sl⟩) (z : its.size ≤ sizeLine) (v : Vals xs its.toList) : ∀ H, SqT K H a xs :=
  fun _ => .inr ⟨_, its, n, l, rfl, rfl, z, v⟩
theorem funD_mk {K : PySem.W.Frag} {x qual : Str} {st : Stmt} {f T : Addr} {oc kV doc pm cdv ct : Value} {od an dd : Option Addr} {osl sl : Array (Option Value)} {its : Array Value} {n : Nat} {dvs : List V} (hne : dvs ≠ [])
    (l : K.lookup f = some ⟨oc, od, .func (PySem.W.fnOf x qual (defArgs st) (defBody st) (defScope st) (.ref T) kV doc pm an cdv ct), osl⟩) (c : PySem.W.codeIn K cdv qual = true) (k : PySem.W.keepIn K (.ref f) = true)
    (lT : K.lookup T = some ⟨.type "tuple", dd, .seq its n, sl⟩) (v : Vals dvs its.toList) : FunD K x qual (defArgs st) (defBody st) (defScope st) dvs [] f (PySem.W.fnOf x qual (defArgs st) (defBody st) (defScope st) (.ref T) kV doc pm an cdv ct) :=
  ⟨⟨oc, od, .ref T, kV, doc, pm, an, cdv, ct, osl, rfl, l, c, .inr ⟨hne, T, _, its.toList, n, rfl, lT, by simp, v⟩, .inl rfl⟩, k⟩
theorem nil_binds {K : PySem.W.Frag} {fd : FuncData} {ps : List Str} (h : ∃ ds, Vals [] ds ∧ Binds K fd ps ds) : Binds K fd ps [] := by
  obtain ⟨ds, v, b⟩ := h
  cases v
  exact b
def tx_mk {K : PySem.W.Frag} {h : Heap} {mg : Str → Option Value} {C_Rule C_Plan g_WORST g_RESULTS g_GONE g_ALIKE g_UNLIKE g_KEYS_0 g_KEYS_1 g_KEYS_2 g_KEYS_3 g_KEYS_4 g_KEYS_5 g_KEYS_6 g_KEYS_7 g_KEYS_8 g_KEYS_9 g_KEYS_10 g_KEYS_11 g_KEYS f_way_of f_cells_met f_cell_merged f_due_values f_empty_sum f_added f_is_let_here f_outcome_on f_case_made f_closed dT_closed f_is_kind f_kinds_of f_Rule_init f_is_one_of f_are_flags f_Plan_init dT_Plan_init f_l_pen_of f_l_draw f_l_pick f_l_plan f_l_made f_l_case f_l_sum_of f_l_kinds f_l_some_cells f_l_value f_l_merged_value f_l_due f_l_outcome f_l_closed f_l_kinds_right f_l_sums_so f_law : Addr} {oc_way_of kV_way_of dc_way_of pm_way_of cd_way_of ct_way_of : Value} {od_way_of an_way_of : Option Addr} {sl_way_of : Array (Option Value)} {oc_cells_met kV_cells_met dc_cells_met pm_cells_met cd_cells_met ct_cells_met : Value} {od_cells_met an_cells_met : Option Addr} {sl_cells_met : Array (Option Value)} {oc_cell_merged kV_cell_merged dc_cell_merged pm_cell_merged cd_cell_merged ct_cell_merged : Value} {od_cell_merged an_cell_merged : Option Addr} {sl_cell_merged : Array (Option Value)} {oc_due_values kV_due_values dc_due_values pm_due_values cd_due_values ct_due_values : Value} {od_due_values an_due_values : Option Addr} {sl_due_values : Array (Option Value)} {oc_empty_sum kV_empty_sum dc_empty_sum pm_empty_sum cd_empty_sum ct_empty_sum : Value} {od_empty_sum an_empty_sum : Option Addr} {sl_empty_sum : Array (Option Value)} {oc_added kV_added dc_added pm_added cd_added ct_added : Value} {od_added an_added : Option Addr} {sl_added : Array (Option Value)} {oc_is_let_here kV_is_let_here dc_is_let_here pm_is_let_here cd_is_let_here ct_is_let_here : Value} {od_is_let_here an_is_let_here : Option Addr} {sl_is_let_here : Array (Option Value)} {oc_outcome_on kV_outcome_on dc_outcome_on pm_outcome_on cd_outcome_on ct_outcome_on : Value} {od_outcome_on an_outcome_on : Option Addr} {sl_outcome_on : Array (Option Value)} {oc_case_made kV_case_made dc_case_made pm_case_made cd_case_made ct_case_made : Value} {od_case_made an_case_made : Option Addr} {sl_case_made : Array (Option Value)} {oc_closed kV_closed dc_closed pm_closed cd_closed ct_closed : Value} {od_closed an_closed : Option Addr} {sl_closed : Array (Option Value)} {oc_is_kind kV_is_kind dc_is_kind pm_is_kind cd_is_kind ct_is_kind : Value} {od_is_kind an_is_kind : Option Addr} {sl_is_kind : Array (Option Value)} {oc_kinds_of kV_kinds_of dc_kinds_of pm_kinds_of cd_kinds_of ct_kinds_of : Value} {od_kinds_of an_kinds_of : Option Addr} {sl_kinds_of : Array (Option Value)} {oc_Rule_init kV_Rule_init dc_Rule_init pm_Rule_init cd_Rule_init ct_Rule_init : Value} {od_Rule_init an_Rule_init : Option Addr} {sl_Rule_init : Array (Option Value)} {oc_is_one_of kV_is_one_of dc_is_one_of pm_is_one_of cd_is_one_of ct_is_one_of : Value} {od_is_one_of an_is_one_of : Option Addr} {sl_is_one_of : Array (Option Value)} {oc_are_flags kV_are_flags dc_are_flags pm_are_flags cd_are_flags ct_are_flags : Value} {od_are_flags an_are_flags : Option Addr} {sl_are_flags : Array (Option Value)} {oc_Plan_init kV_Plan_init dc_Plan_init pm_Plan_init cd_Plan_init ct_Plan_init : Value} {od_Plan_init an_Plan_init : Option Addr} {sl_Plan_init : Array (Option Value)} {oc_l_pen_of kV_l_pen_of dc_l_pen_of pm_l_pen_of cd_l_pen_of ct_l_pen_of : Value} {od_l_pen_of an_l_pen_of : Option Addr} {sl_l_pen_of : Array (Option Value)} {oc_l_draw kV_l_draw dc_l_draw pm_l_draw cd_l_draw ct_l_draw : Value} {od_l_draw an_l_draw : Option Addr} {sl_l_draw : Array (Option Value)} {oc_l_pick kV_l_pick dc_l_pick pm_l_pick cd_l_pick ct_l_pick : Value} {od_l_pick an_l_pick : Option Addr} {sl_l_pick : Array (Option Value)} {oc_l_plan kV_l_plan dc_l_plan pm_l_plan cd_l_plan ct_l_plan : Value} {od_l_plan an_l_plan : Option Addr} {sl_l_plan : Array (Option Value)} {oc_l_made kV_l_made dc_l_made pm_l_made cd_l_made ct_l_made : Value} {od_l_made an_l_made : Option Addr} {sl_l_made : Array (Option Value)} {oc_l_case kV_l_case dc_l_case pm_l_case cd_l_case ct_l_case : Value} {od_l_case an_l_case : Option Addr} {sl_l_case : Array (Option Value)} {oc_l_sum_of kV_l_sum_of dc_l_sum_of pm_l_sum_of cd_l_sum_of ct_l_sum_of : Value} {od_l_sum_of an_l_sum_of : Option Addr} {sl_l_sum_of : Array (Option Value)} {oc_l_kinds kV_l_kinds dc_l_kinds pm_l_kinds cd_l_kinds ct_l_kinds : Value} {od_l_kinds an_l_kinds : Option Addr} {sl_l_kinds : Array (Option Value)} {oc_l_some_cells kV_l_some_cells dc_l_some_cells pm_l_some_cells cd_l_some_cells ct_l_some_cells : Value} {od_l_some_cells an_l_some_cells : Option Addr} {sl_l_some_cells : Array (Option Value)} {oc_l_value kV_l_value dc_l_value pm_l_value cd_l_value ct_l_value : Value} {od_l_value an_l_value : Option Addr} {sl_l_value : Array (Option Value)} {oc_l_merged_value kV_l_merged_value dc_l_merged_value pm_l_merged_value cd_l_merged_value ct_l_merged_value : Value} {od_l_merged_value an_l_merged_value : Option Addr} {sl_l_merged_value : Array (Option Value)} {oc_l_due kV_l_due dc_l_due pm_l_due cd_l_due ct_l_due : Value} {od_l_due an_l_due : Option Addr} {sl_l_due : Array (Option Value)} {oc_l_outcome kV_l_outcome dc_l_outcome pm_l_outcome cd_l_outcome ct_l_outcome : Value} {od_l_outcome an_l_outcome : Option Addr} {sl_l_outcome : Array (Option Value)} {oc_l_closed kV_l_closed dc_l_closed pm_l_closed cd_l_closed ct_l_closed : Value} {od_l_closed an_l_closed : Option Addr} {sl_l_closed : Array (Option Value)} {oc_l_kinds_right kV_l_kinds_right dc_l_kinds_right pm_l_kinds_right cd_l_kinds_right ct_l_kinds_right : Value} {od_l_kinds_right an_l_kinds_right : Option Addr} {sl_l_kinds_right : Array (Option Value)} {oc_l_sums_so kV_l_sums_so dc_l_sums_so pm_l_sums_so cd_l_sums_so ct_l_sums_so : Value} {od_l_sums_so an_l_sums_so : Option Addr} {sl_l_sums_so : Array (Option Value)} {oc_law kV_law dc_law pm_law cd_law ct_law : Value} {od_law an_law : Option Addr} {sl_law : Array (Option Value)} {n_WORST : Nat} {sl_WORST : Array (Option Value)} {t_WORST_0 t_WORST_1 t_WORST_2 t_WORST_3 : Tok} {n_RESULTS : Nat} {sl_RESULTS : Array (Option Value)} {t_RESULTS_0 t_RESULTS_1 t_RESULTS_2 : Tok} {n_GONE : Nat} {sl_GONE : Array (Option Value)} {t_GONE_0 t_GONE_1 t_GONE_2 t_GONE_3 : Tok} {n_ALIKE : Nat} {sl_ALIKE : Array (Option Value)} {t_ALIKE_0 t_ALIKE_1 : Tok} {n_UNLIKE : Nat} {sl_UNLIKE : Array (Option Value)} {t_UNLIKE_0 t_UNLIKE_1 t_UNLIKE_2 : Tok} {n_KEYS_0 : Nat} {sl_KEYS_0 : Array (Option Value)} {t_KEYS_0_2 : Tok} {n_KEYS_1 : Nat} {sl_KEYS_1 : Array (Option Value)} {t_KEYS_1_2 : Tok} {n_KEYS_2 : Nat} {sl_KEYS_2 : Array (Option Value)} {t_KEYS_2_2 : Tok} {n_KEYS_3 : Nat} {sl_KEYS_3 : Array (Option Value)} {t_KEYS_3_2 : Tok} {n_KEYS_4 : Nat} {sl_KEYS_4 : Array (Option Value)} {t_KEYS_4_2 : Tok} {n_KEYS_5 : Nat} {sl_KEYS_5 : Array (Option Value)} {t_KEYS_5_2 : Tok} {n_KEYS_6 : Nat} {sl_KEYS_6 : Array (Option Value)} {t_KEYS_6_2 : Tok} {n_KEYS_7 : Nat} {sl_KEYS_7 : Array (Option Value)} {t_KEYS_7_2 : Tok} {n_KEYS_8 : Nat} {sl_KEYS_8 : Array (Option Value)} {t_KEYS_8_2 : Tok} {n_KEYS_9 : Nat} {sl_KEYS_9 : Array (Option Value)} {t_KEYS_9_2 : Tok} {n_KEYS_10 : Nat} {sl_KEYS_10 : Array (Option Value)} {t_KEYS_10_2 : Tok} {n_KEYS_11 : Nat} {sl_KEYS_11 : Array (Option Value)} {t_KEYS_11_2 : Tok} {n_KEYS : Nat} {sl_KEYS : Array (Option Value)} {dd_closed : Option Addr} {dn_closed : Nat} {dsl_closed : Array (Option Value)} {dd_Plan_init : Option Addr} {dn_Plan_init : Nat} {dsl_Plan_init : Array (Option Value)} (X : K.In h) (G : h.Ns mainGlobals mg)
  (aC_Rule : PySem.W.nsIn K mainGlobals "Rule" = some (some (.ref C_Rule)))
  (pg_Rule : PySem.W.plainGet K C_Rule Str.empty = true) (hd_Rule : PySem.W.hasDictIn K C_Rule = true) (po_Rule : PySem.W.plainOver K C_Rule = true) (sa_Rule : PySem.W.findIn K (.ref C_Rule) "__setattr__" = some (some (.builtin "object.__setattr__"))) (mk_Rule : PySem.W.makesIn K C_Rule = true) (kc_Rule : PySem.W.keepIn K (.ref C_Rule) = true)
  (na_Rule_root : PySem.W.findIn K (.ref C_Rule) "root" = some none)
  (na_Rule_others : PySem.W.findIn K (.ref C_Rule) "others" = some none)
  (aC_Plan : PySem.W.nsIn K mainGlobals "Plan" = some (some (.ref C_Plan)))
  (pg_Plan : PySem.W.plainGet K C_Plan Str.empty = true) (hd_Plan : PySem.W.hasDictIn K C_Plan = true) (po_Plan : PySem.W.plainOver K C_Plan = true) (sa_Plan : PySem.W.findIn K (.ref C_Plan) "__setattr__" = some (some (.builtin "object.__setattr__"))) (mk_Plan : PySem.W.makesIn K C_Plan = true) (kc_Plan : PySem.W.keepIn K (.ref C_Plan) = true)
  (na_Plan_gone : PySem.W.findIn K (.ref C_Plan) "gone" = some none)
  (na_Plan_alike : PySem.W.findIn K (.ref C_Plan) "alike" = some none)
  (na_Plan_unlike : PySem.W.findIn K (.ref C_Plan) "unlike" = some none)
  (na_Plan_tidy : PySem.W.findIn K (.ref C_Plan) "tidy" = some none)
  (na_Plan_by_kind : PySem.W.findIn K (.ref C_Plan) "by_kind" = some none)
  (aG_WORST : PySem.W.nsIn K mainGlobals "WORST" = some (some (.ref g_WORST)))
  (aG_RESULTS : PySem.W.nsIn K mainGlobals "RESULTS" = some (some (.ref g_RESULTS)))
  (aG_GONE : PySem.W.nsIn K mainGlobals "GONE" = some (some (.ref g_GONE)))
  (aG_ALIKE : PySem.W.nsIn K mainGlobals "ALIKE" = some (some (.ref g_ALIKE)))
  (aG_UNLIKE : PySem.W.nsIn K mainGlobals "UNLIKE" = some (some (.ref g_UNLIKE)))
  (aG_KEYS : PySem.W.nsIn K mainGlobals "KEYS" = some (some (.ref g_KEYS)))
  (lG_KEYS : K.lookup g_KEYS = some ⟨.type "tuple", none, .seq #[.ref g_KEYS_0, .ref g_KEYS_1, .ref g_KEYS_2, .ref g_KEYS_3, .ref g_KEYS_4, .ref g_KEYS_5, .ref g_KEYS_6, .ref g_KEYS_7, .ref g_KEYS_8, .ref g_KEYS_9, .ref g_KEYS_10, .ref g_KEYS_11] n_KEYS, sl_KEYS⟩)
  (lG_KEYS_11 : K.lookup g_KEYS_11 = some ⟨.type "tuple", none, .seq #[.bool false, .bool false, .int 2 t_KEYS_11_2] n_KEYS_11, sl_KEYS_11⟩)
  (lG_KEYS_10 : K.lookup g_KEYS_10 = some ⟨.type "tuple", none, .seq #[.bool false, .bool false, .int 1 t_KEYS_10_2] n_KEYS_10, sl_KEYS_10⟩)
  (lG_KEYS_9 : K.lookup g_KEYS_9 = some ⟨.type "tuple", none, .seq #[.bool false, .bool false, .int 0 t_KEYS_9_2] n_KEYS_9, sl_KEYS_9⟩)
  (lG_KEYS_8 : K.lookup g_KEYS_8 = some ⟨.type "tuple", none, .seq #[.bool false, .bool true, .int 2 t_KEYS_8_2] n_KEYS_8, sl_KEYS_8⟩)
  (lG_KEYS_7 : K.lookup g_KEYS_7 = some ⟨.type "tuple", none, .seq #[.bool false, .bool true, .int 1 t_KEYS_7_2] n_KEYS_7, sl_KEYS_7⟩)
  (lG_KEYS_6 : K.lookup g_KEYS_6 = some ⟨.type "tuple", none, .seq #[.bool false, .bool true, .int 0 t_KEYS_6_2] n_KEYS_6, sl_KEYS_6⟩)
  (lG_KEYS_5 : K.lookup g_KEYS_5 = some ⟨.type "tuple", none, .seq #[.bool true, .bool false, .int 2 t_KEYS_5_2] n_KEYS_5, sl_KEYS_5⟩)
  (lG_KEYS_4 : K.lookup g_KEYS_4 = some ⟨.type "tuple", none, .seq #[.bool true, .bool false, .int 1 t_KEYS_4_2] n_KEYS_4, sl_KEYS_4⟩)
  (lG_KEYS_3 : K.lookup g_KEYS_3 = some ⟨.type "tuple", none, .seq #[.bool true, .bool false, .int 0 t_KEYS_3_2] n_KEYS_3, sl_KEYS_3⟩)
  (lG_KEYS_2 : K.lookup g_KEYS_2 = some ⟨.type "tuple", none, .seq #[.bool true, .bool true, .int 2 t_KEYS_2_2] n_KEYS_2, sl_KEYS_2⟩)
  (lG_KEYS_1 : K.lookup g_KEYS_1 = some ⟨.type "tuple", none, .seq #[.bool true, .bool true, .int 1 t_KEYS_1_2] n_KEYS_1, sl_KEYS_1⟩)
  (lG_KEYS_0 : K.lookup g_KEYS_0 = some ⟨.type "tuple", none, .seq #[.bool true, .bool true, .int 0 t_KEYS_0_2] n_KEYS_0, sl_KEYS_0⟩)
  (lG_UNLIKE : K.lookup g_UNLIKE = some ⟨.type "tuple", none, .seq #[.str "clash" t_UNLIKE_0, .str "one" t_UNLIKE_1, .str "other" t_UNLIKE_2] n_UNLIKE, sl_UNLIKE⟩)
  (lG_ALIKE : K.lookup g_ALIKE = some ⟨.type "tuple", none, .seq #[.str "take" t_ALIKE_0, .str "clash" t_ALIKE_1] n_ALIKE, sl_ALIKE⟩)
  (lG_GONE : K.lookup g_GONE = some ⟨.type "tuple", none, .seq #[.str "clash" t_GONE_0, .str "kept" t_GONE_1, .str "bare" t_GONE_2, .str "base" t_GONE_3] n_GONE, sl_GONE⟩)
  (lG_RESULTS : K.lookup g_RESULTS = some ⟨.type "tuple", none, .seq #[.str "tree" t_RESULTS_0, .str "rule" t_RESULTS_1, .str "words" t_RESULTS_2] n_RESULTS, sl_RESULTS⟩)
  (lG_WORST : K.lookup g_WORST = some ⟨.type "tuple", none, .seq #[.str "right" t_WORST_0, .str "rule" t_WORST_1, .str "words" t_WORST_2, .str "clash" t_WORST_3] n_WORST, sl_WORST⟩)
  (z_len : PySem.W.nsIn K mainGlobals "len" = some none)
  (z_min : PySem.W.nsIn K mainGlobals "min" = some none)
  (z_isinstance : PySem.W.nsIn K mainGlobals "isinstance" = some none)
  (z_bool : PySem.W.nsIn K mainGlobals "bool" = some none)
  (z_int : PySem.W.nsIn K mainGlobals "int" = some none)
  (z_list : PySem.W.nsIn K mainGlobals "list" = some none)
  (z_tuple : PySem.W.nsIn K mainGlobals "tuple" = some none)
  (z_enumerate : PySem.W.nsIn K mainGlobals "enumerate" = some none)
  (z_sorted : PySem.W.nsIn K mainGlobals "sorted" = some none)
  (z_abs : PySem.W.nsIn K mainGlobals "abs" = some none)
  (z_any : PySem.W.nsIn K mainGlobals "any" = some none)
  (z_all : PySem.W.nsIn K mainGlobals "all" = some none)
  (z_range : PySem.W.nsIn K mainGlobals "range" = some none)
  (z_str : PySem.W.nsIn K mainGlobals "str" = some none)
  (z_dict : PySem.W.nsIn K mainGlobals "dict" = some none)
  (a_way_of : PySem.W.nsIn K mainGlobals "way_of" = some (some (.ref f_way_of)))
  (l_way_of : K.lookup f_way_of = some ⟨oc_way_of, od_way_of, .func (PySem.W.fnOf "way_of" "way_of" (defArgs s_way_of) (defBody s_way_of) (defScope s_way_of) .none kV_way_of dc_way_of pm_way_of an_way_of cd_way_of ct_way_of), sl_way_of⟩) (c_way_of : PySem.W.codeIn K cd_way_of "way_of" = true) (k_way_of : PySem.W.keepIn K (.ref f_way_of) = true)
  (a_cells_met : PySem.W.nsIn K mainGlobals "cells_met" = some (some (.ref f_cells_met)))
  (l_cells_met : K.lookup f_cells_met = some ⟨oc_cells_met, od_cells_met, .func (PySem.W.fnOf "cells_met" "cells_met" (defArgs s_cells_met) (defBody s_cells_met) (defScope s_cells_met) .none kV_cells_met dc_cells_met pm_cells_met an_cells_met cd_cells_met ct_cells_met), sl_cells_met⟩) (c_cells_met : PySem.W.codeIn K cd_cells_met "cells_met" = true) (k_cells_met : PySem.W.keepIn K (.ref f_cells_met) = true)
  (a_cell_merged : PySem.W.nsIn K mainGlobals "cell_merged" = some (some (.ref f_cell_merged)))
  (l_cell_merged : K.lookup f_cell_merged = some ⟨oc_cell_merged, od_cell_merged, .func (PySem.W.fnOf "cell_merged" "cell_merged" (defArgs s_cell_merged) (defBody s_cell_merged) (defScope s_cell_merged) .none kV_cell_merged dc_cell_merged pm_cell_merged an_cell_merged cd_cell_merged ct_cell_merged), sl_cell_merged⟩) (c_cell_merged : PySem.W.codeIn K cd_cell_merged "cell_merged" = true) (k_cell_merged : PySem.W.keepIn K (.ref f_cell_merged) = true)
  (a_due_values : PySem.W.nsIn K mainGlobals "due_values" = some (some (.ref f_due_values)))
  (l_due_values : K.lookup f_due_values = some ⟨oc_due_values, od_due_values, .func (PySem.W.fnOf "due_values" "due_values" (defArgs s_due_values) (defBody s_due_values) (defScope s_due_values) .none kV_due_values dc_due_values pm_due_values an_due_values cd_due_values ct_due_values), sl_due_values⟩) (c_due_values : PySem.W.codeIn K cd_due_values "due_values" = true) (k_due_values : PySem.W.keepIn K (.ref f_due_values) = true)
  (a_empty_sum : PySem.W.nsIn K mainGlobals "empty_sum" = some (some (.ref f_empty_sum)))
  (l_empty_sum : K.lookup f_empty_sum = some ⟨oc_empty_sum, od_empty_sum, .func (PySem.W.fnOf "empty_sum" "empty_sum" (defArgs s_empty_sum) (defBody s_empty_sum) (defScope s_empty_sum) .none kV_empty_sum dc_empty_sum pm_empty_sum an_empty_sum cd_empty_sum ct_empty_sum), sl_empty_sum⟩) (c_empty_sum : PySem.W.codeIn K cd_empty_sum "empty_sum" = true) (k_empty_sum : PySem.W.keepIn K (.ref f_empty_sum) = true)
  (a_added : PySem.W.nsIn K mainGlobals "added" = some (some (.ref f_added)))
  (l_added : K.lookup f_added = some ⟨oc_added, od_added, .func (PySem.W.fnOf "added" "added" (defArgs s_added) (defBody s_added) (defScope s_added) .none kV_added dc_added pm_added an_added cd_added ct_added), sl_added⟩) (c_added : PySem.W.codeIn K cd_added "added" = true) (k_added : PySem.W.keepIn K (.ref f_added) = true)
  (a_is_let_here : PySem.W.nsIn K mainGlobals "is_let_here" = some (some (.ref f_is_let_here)))
  (l_is_let_here : K.lookup f_is_let_here = some ⟨oc_is_let_here, od_is_let_here, .func (PySem.W.fnOf "is_let_here" "is_let_here" (defArgs s_is_let_here) (defBody s_is_let_here) (defScope s_is_let_here) .none kV_is_let_here dc_is_let_here pm_is_let_here an_is_let_here cd_is_let_here ct_is_let_here), sl_is_let_here⟩) (c_is_let_here : PySem.W.codeIn K cd_is_let_here "is_let_here" = true) (k_is_let_here : PySem.W.keepIn K (.ref f_is_let_here) = true)
  (a_outcome_on : PySem.W.nsIn K mainGlobals "outcome_on" = some (some (.ref f_outcome_on)))
  (l_outcome_on : K.lookup f_outcome_on = some ⟨oc_outcome_on, od_outcome_on, .func (PySem.W.fnOf "outcome_on" "outcome_on" (defArgs s_outcome_on) (defBody s_outcome_on) (defScope s_outcome_on) .none kV_outcome_on dc_outcome_on pm_outcome_on an_outcome_on cd_outcome_on ct_outcome_on), sl_outcome_on⟩) (c_outcome_on : PySem.W.codeIn K cd_outcome_on "outcome_on" = true) (k_outcome_on : PySem.W.keepIn K (.ref f_outcome_on) = true)
  (a_case_made : PySem.W.nsIn K mainGlobals "case_made" = some (some (.ref f_case_made)))
  (l_case_made : K.lookup f_case_made = some ⟨oc_case_made, od_case_made, .func (PySem.W.fnOf "case_made" "case_made" (defArgs s_case_made) (defBody s_case_made) (defScope s_case_made) .none kV_case_made dc_case_made pm_case_made an_case_made cd_case_made ct_case_made), sl_case_made⟩) (c_case_made : PySem.W.codeIn K cd_case_made "case_made" = true) (k_case_made : PySem.W.keepIn K (.ref f_case_made) = true)
  (a_closed : PySem.W.nsIn K mainGlobals "closed" = some (some (.ref f_closed)))
  (l_closed : K.lookup f_closed = some ⟨oc_closed, od_closed, .func (PySem.W.fnOf "closed" "closed" (defArgs s_closed) (defBody s_closed) (defScope s_closed) (.ref dT_closed) kV_closed dc_closed pm_closed an_closed cd_closed ct_closed), sl_closed⟩) (c_closed : PySem.W.codeIn K cd_closed "closed" = true) (k_closed : PySem.W.keepIn K (.ref f_closed) = true) (lD_closed : K.lookup dT_closed = some ⟨.type "tuple", dd_closed, .seq #[.bool false] dn_closed, dsl_closed⟩)
  (a_is_kind : PySem.W.nsIn K mainGlobals "is_kind" = some (some (.ref f_is_kind)))
  (l_is_kind : K.lookup f_is_kind = some ⟨oc_is_kind, od_is_kind, .func (PySem.W.fnOf "is_kind" "is_kind" (defArgs s_is_kind) (defBody s_is_kind) (defScope s_is_kind) .none kV_is_kind dc_is_kind pm_is_kind an_is_kind cd_is_kind ct_is_kind), sl_is_kind⟩) (c_is_kind : PySem.W.codeIn K cd_is_kind "is_kind" = true) (k_is_kind : PySem.W.keepIn K (.ref f_is_kind) = true)
  (a_kinds_of : PySem.W.nsIn K mainGlobals "kinds_of" = some (some (.ref f_kinds_of)))
  (l_kinds_of : K.lookup f_kinds_of = some ⟨oc_kinds_of, od_kinds_of, .func (PySem.W.fnOf "kinds_of" "kinds_of" (defArgs s_kinds_of) (defBody s_kinds_of) (defScope s_kinds_of) .none kV_kinds_of dc_kinds_of pm_kinds_of an_kinds_of cd_kinds_of ct_kinds_of), sl_kinds_of⟩) (c_kinds_of : PySem.W.codeIn K cd_kinds_of "kinds_of" = true) (k_kinds_of : PySem.W.keepIn K (.ref f_kinds_of) = true)
  (a_Rule_init : PySem.W.findIn K (.ref C_Rule) "__init__" = some (some (.ref f_Rule_init))) (i_Rule_init : PySem.W.isFn K (.ref f_Rule_init) = true)
  (l_Rule_init : K.lookup f_Rule_init = some ⟨oc_Rule_init, od_Rule_init, .func (PySem.W.fnOf "__init__" "Rule.__init__" (defArgs s_Rule_init) (defBody s_Rule_init) (defScope s_Rule_init) .none kV_Rule_init dc_Rule_init pm_Rule_init an_Rule_init cd_Rule_init ct_Rule_init), sl_Rule_init⟩) (c_Rule_init : PySem.W.codeIn K cd_Rule_init "Rule.__init__" = true) (k_Rule_init : PySem.W.keepIn K (.ref f_Rule_init) = true)
  (a_is_one_of : PySem.W.nsIn K mainGlobals "is_one_of" = some (some (.ref f_is_one_of)))
  (l_is_one_of : K.lookup f_is_one_of = some ⟨oc_is_one_of, od_is_one_of, .func (PySem.W.fnOf "is_one_of" "is_one_of" (defArgs s_is_one_of) (defBody s_is_one_of) (defScope s_is_one_of) .none kV_is_one_of dc_is_one_of pm_is_one_of an_is_one_of cd_is_one_of ct_is_one_of), sl_is_one_of⟩) (c_is_one_of : PySem.W.codeIn K cd_is_one_of "is_one_of" = true) (k_is_one_of : PySem.W.keepIn K (.ref f_is_one_of) = true)
  (a_are_flags : PySem.W.nsIn K mainGlobals "are_flags" = some (some (.ref f_are_flags)))
  (l_are_flags : K.lookup f_are_flags = some ⟨oc_are_flags, od_are_flags, .func (PySem.W.fnOf "are_flags" "are_flags" (defArgs s_are_flags) (defBody s_are_flags) (defScope s_are_flags) .none kV_are_flags dc_are_flags pm_are_flags an_are_flags cd_are_flags ct_are_flags), sl_are_flags⟩) (c_are_flags : PySem.W.codeIn K cd_are_flags "are_flags" = true) (k_are_flags : PySem.W.keepIn K (.ref f_are_flags) = true)
  (a_Plan_init : PySem.W.findIn K (.ref C_Plan) "__init__" = some (some (.ref f_Plan_init))) (i_Plan_init : PySem.W.isFn K (.ref f_Plan_init) = true)
  (l_Plan_init : K.lookup f_Plan_init = some ⟨oc_Plan_init, od_Plan_init, .func (PySem.W.fnOf "__init__" "Plan.__init__" (defArgs s_Plan_init) (defBody s_Plan_init) (defScope s_Plan_init) (.ref dT_Plan_init) kV_Plan_init dc_Plan_init pm_Plan_init an_Plan_init cd_Plan_init ct_Plan_init), sl_Plan_init⟩) (c_Plan_init : PySem.W.codeIn K cd_Plan_init "Plan.__init__" = true) (k_Plan_init : PySem.W.keepIn K (.ref f_Plan_init) = true) (lD_Plan_init : K.lookup dT_Plan_init = some ⟨.type "tuple", dd_Plan_init, .seq #[.none] dn_Plan_init, dsl_Plan_init⟩)
  (a_l_pen_of : PySem.W.nsIn K mainGlobals "_law_pen_of" = some (some (.ref f_l_pen_of)))
  (l_l_pen_of : K.lookup f_l_pen_of = some ⟨oc_l_pen_of, od_l_pen_of, .func (PySem.W.fnOf "_law_pen_of" "_law_pen_of" (defArgs s_l_pen_of) (defBody s_l_pen_of) (defScope s_l_pen_of) .none kV_l_pen_of dc_l_pen_of pm_l_pen_of an_l_pen_of cd_l_pen_of ct_l_pen_of), sl_l_pen_of⟩) (c_l_pen_of : PySem.W.codeIn K cd_l_pen_of "_law_pen_of" = true) (k_l_pen_of : PySem.W.keepIn K (.ref f_l_pen_of) = true)
  (a_l_draw : PySem.W.nsIn K mainGlobals "_law_draw" = some (some (.ref f_l_draw)))
  (l_l_draw : K.lookup f_l_draw = some ⟨oc_l_draw, od_l_draw, .func (PySem.W.fnOf "_law_draw" "_law_draw" (defArgs s_l_draw) (defBody s_l_draw) (defScope s_l_draw) .none kV_l_draw dc_l_draw pm_l_draw an_l_draw cd_l_draw ct_l_draw), sl_l_draw⟩) (c_l_draw : PySem.W.codeIn K cd_l_draw "_law_draw" = true) (k_l_draw : PySem.W.keepIn K (.ref f_l_draw) = true)
  (a_l_pick : PySem.W.nsIn K mainGlobals "_law_pick" = some (some (.ref f_l_pick)))
  (l_l_pick : K.lookup f_l_pick = some ⟨oc_l_pick, od_l_pick, .func (PySem.W.fnOf "_law_pick" "_law_pick" (defArgs s_l_pick) (defBody s_l_pick) (defScope s_l_pick) .none kV_l_pick dc_l_pick pm_l_pick an_l_pick cd_l_pick ct_l_pick), sl_l_pick⟩) (c_l_pick : PySem.W.codeIn K cd_l_pick "_law_pick" = true) (k_l_pick : PySem.W.keepIn K (.ref f_l_pick) = true)
  (a_l_plan : PySem.W.nsIn K mainGlobals "_law_plan" = some (some (.ref f_l_plan)))
  (l_l_plan : K.lookup f_l_plan = some ⟨oc_l_plan, od_l_plan, .func (PySem.W.fnOf "_law_plan" "_law_plan" (defArgs s_l_plan) (defBody s_l_plan) (defScope s_l_plan) .none kV_l_plan dc_l_plan pm_l_plan an_l_plan cd_l_plan ct_l_plan), sl_l_plan⟩) (c_l_plan : PySem.W.codeIn K cd_l_plan "_law_plan" = true) (k_l_plan : PySem.W.keepIn K (.ref f_l_plan) = true)
  (a_l_made : PySem.W.nsIn K mainGlobals "_law_made" = some (some (.ref f_l_made)))
  (l_l_made : K.lookup f_l_made = some ⟨oc_l_made, od_l_made, .func (PySem.W.fnOf "_law_made" "_law_made" (defArgs s_l_made) (defBody s_l_made) (defScope s_l_made) .none kV_l_made dc_l_made pm_l_made an_l_made cd_l_made ct_l_made), sl_l_made⟩) (c_l_made : PySem.W.codeIn K cd_l_made "_law_made" = true) (k_l_made : PySem.W.keepIn K (.ref f_l_made) = true)
  (a_l_case : PySem.W.nsIn K mainGlobals "_law_case" = some (some (.ref f_l_case)))
  (l_l_case : K.lookup f_l_case = some ⟨oc_l_case, od_l_case, .func (PySem.W.fnOf "_law_case" "_law_case" (defArgs s_l_case) (defBody s_l_case) (defScope s_l_case) .none kV_l_case dc_l_case pm_l_case an_l_case cd_l_case ct_l_case), sl_l_case⟩) (c_l_case : PySem.W.codeIn K cd_l_case "_law_case" = true) (k_l_case : PySem.W.keepIn K (.ref f_l_case) = true)
  (a_l_sum_of : PySem.W.nsIn K mainGlobals "_law_sum_of" = some (some (.ref f_l_sum_of)))
  (l_l_sum_of : K.lookup f_l_sum_of = some ⟨oc_l_sum_of, od_l_sum_of, .func (PySem.W.fnOf "_law_sum_of" "_law_sum_of" (defArgs s_l_sum_of) (defBody s_l_sum_of) (defScope s_l_sum_of) .none kV_l_sum_of dc_l_sum_of pm_l_sum_of an_l_sum_of cd_l_sum_of ct_l_sum_of), sl_l_sum_of⟩) (c_l_sum_of : PySem.W.codeIn K cd_l_sum_of "_law_sum_of" = true) (k_l_sum_of : PySem.W.keepIn K (.ref f_l_sum_of) = true)
  (a_l_kinds : PySem.W.nsIn K mainGlobals "_law_kinds" = some (some (.ref f_l_kinds)))
  (l_l_kinds : K.lookup f_l_kinds = some ⟨oc_l_kinds, od_l_kinds, .func (PySem.W.fnOf "_law_kinds" "_law_kinds" (defArgs s_l_kinds) (defBody s_l_kinds) (defScope s_l_kinds) .none kV_l_kinds dc_l_kinds pm_l_kinds an_l_kinds cd_l_kinds ct_l_kinds), sl_l_kinds⟩) (c_l_kinds : PySem.W.codeIn K cd_l_kinds "_law_kinds" = true) (k_l_kinds : PySem.W.keepIn K (.ref f_l_kinds) = true)
  (a_l_some_cells : PySem.W.nsIn K mainGlobals "_law_some_cells" = some (some (.ref f_l_some_cells)))
  (l_l_some_cells : K.lookup f_l_some_cells = some ⟨oc_l_some_cells, od_l_some_cells, .func (PySem.W.fnOf "_law_some_cells" "_law_some_cells" (defArgs s_l_some_cells) (defBody s_l_some_cells) (defScope s_l_some_cells) .none kV_l_some_cells dc_l_some_cells pm_l_some_cells an_l_some_cells cd_l_some_cells ct_l_some_cells), sl_l_some_cells⟩) (c_l_some_cells : PySem.W.codeIn K cd_l_some_cells "_law_some_cells" = true) (k_l_some_cells : PySem.W.keepIn K (.ref f_l_some_cells) = true)
  (a_l_value : PySem.W.nsIn K mainGlobals "_law_value" = some (some (.ref f_l_value)))
  (l_l_value : K.lookup f_l_value = some ⟨oc_l_value, od_l_value, .func (PySem.W.fnOf "_law_value" "_law_value" (defArgs s_l_value) (defBody s_l_value) (defScope s_l_value) .none kV_l_value dc_l_value pm_l_value an_l_value cd_l_value ct_l_value), sl_l_value⟩) (c_l_value : PySem.W.codeIn K cd_l_value "_law_value" = true) (k_l_value : PySem.W.keepIn K (.ref f_l_value) = true)
  (a_l_merged_value : PySem.W.nsIn K mainGlobals "_law_merged_value" = some (some (.ref f_l_merged_value)))
  (l_l_merged_value : K.lookup f_l_merged_value = some ⟨oc_l_merged_value, od_l_merged_value, .func (PySem.W.fnOf "_law_merged_value" "_law_merged_value" (defArgs s_l_merged_value) (defBody s_l_merged_value) (defScope s_l_merged_value) .none kV_l_merged_value dc_l_merged_value pm_l_merged_value an_l_merged_value cd_l_merged_value ct_l_merged_value), sl_l_merged_value⟩) (c_l_merged_value : PySem.W.codeIn K cd_l_merged_value "_law_merged_value" = true) (k_l_merged_value : PySem.W.keepIn K (.ref f_l_merged_value) = true)
  (a_l_due : PySem.W.nsIn K mainGlobals "_law_due" = some (some (.ref f_l_due)))
  (l_l_due : K.lookup f_l_due = some ⟨oc_l_due, od_l_due, .func (PySem.W.fnOf "_law_due" "_law_due" (defArgs s_l_due) (defBody s_l_due) (defScope s_l_due) .none kV_l_due dc_l_due pm_l_due an_l_due cd_l_due ct_l_due), sl_l_due⟩) (c_l_due : PySem.W.codeIn K cd_l_due "_law_due" = true) (k_l_due : PySem.W.keepIn K (.ref f_l_due) = true)
  (a_l_outcome : PySem.W.nsIn K mainGlobals "_law_outcome" = some (some (.ref f_l_outcome)))
  (l_l_outcome : K.lookup f_l_outcome = some ⟨oc_l_outcome, od_l_outcome, .func (PySem.W.fnOf "_law_outcome" "_law_outcome" (defArgs s_l_outcome) (defBody s_l_outcome) (defScope s_l_outcome) .none kV_l_outcome dc_l_outcome pm_l_outcome an_l_outcome cd_l_outcome ct_l_outcome), sl_l_outcome⟩) (c_l_outcome : PySem.W.codeIn K cd_l_outcome "_law_outcome" = true) (k_l_outcome : PySem.W.keepIn K (.ref f_l_outcome) = true)
  (a_l_closed : PySem.W.nsIn K mainGlobals "_law_closed" = some (some (.ref f_l_closed)))
  (l_l_closed : K.lookup f_l_closed = some ⟨oc_l_closed, od_l_closed, .func (PySem.W.fnOf "_law_closed" "_law_closed" (defArgs s_l_closed) (defBody s_l_closed) (defScope s_l_closed) .none kV_l_closed dc_l_closed pm_l_closed an_l_closed cd_l_closed ct_l_closed), sl_l_closed⟩) (c_l_closed : PySem.W.codeIn K cd_l_closed "_law_closed" = true) (k_l_closed : PySem.W.keepIn K (.ref f_l_closed) = true)
  (a_l_kinds_right : PySem.W.nsIn K mainGlobals "_law_kinds_right" = some (some (.ref f_l_kinds_right)))
  (l_l_kinds_right : K.lookup f_l_kinds_right = some ⟨oc_l_kinds_right, od_l_kinds_right, .func (PySem.W.fnOf "_law_kinds_right" "_law_kinds_right" (defArgs s_l_kinds_right) (defBody s_l_kinds_right) (defScope s_l_kinds_right) .none kV_l_kinds_right dc_l_kinds_right pm_l_kinds_right an_l_kinds_right cd_l_kinds_right ct_l_kinds_right), sl_l_kinds_right⟩) (c_l_kinds_right : PySem.W.codeIn K cd_l_kinds_right "_law_kinds_right" = true) (k_l_kinds_right : PySem.W.keepIn K (.ref f_l_kinds_right) = true)
  (a_l_sums_so : PySem.W.nsIn K mainGlobals "_law_sums_so" = some (some (.ref f_l_sums_so)))
  (l_l_sums_so : K.lookup f_l_sums_so = some ⟨oc_l_sums_so, od_l_sums_so, .func (PySem.W.fnOf "_law_sums_so" "_law_sums_so" (defArgs s_l_sums_so) (defBody s_l_sums_so) (defScope s_l_sums_so) .none kV_l_sums_so dc_l_sums_so pm_l_sums_so an_l_sums_so cd_l_sums_so ct_l_sums_so), sl_l_sums_so⟩) (c_l_sums_so : PySem.W.codeIn K cd_l_sums_so "_law_sums_so" = true) (k_l_sums_so : PySem.W.keepIn K (.ref f_l_sums_so) = true)
  (a_law : PySem.W.nsIn K mainGlobals "law" = some (some (.ref f_law)))
  (l_law : K.lookup f_law = some ⟨oc_law, od_law, .func (PySem.W.fnOf "law" "law" (defArgs s_law) (defBody s_law) (defScope s_law) .none kV_law dc_law pm_law an_law cd_law ct_law), sl_law⟩) (c_law : PySem.W.codeIn K cd_law "law" = true) (k_law : PySem.W.keepIn K (.ref f_law) = true) : Tx K mg where
  g_WORST := g_WORST
  m_WORST := PySem.W.mg_of X G aG_WORST
  y_WORST := ⟨_, lG_WORST, rfl, rfl⟩
  q_WORST := sqT_k lG_WORST (by show 4 ≤ sizeLine; decide) (.cons ⟨_, rfl⟩ (.cons ⟨_, rfl⟩ (.cons ⟨_, rfl⟩ (.cons ⟨_, rfl⟩ .nil))))
  g_RESULTS := g_RESULTS
  m_RESULTS := PySem.W.mg_of X G aG_RESULTS
  y_RESULTS := ⟨_, lG_RESULTS, rfl, rfl⟩
  q_RESULTS := sqT_k lG_RESULTS (by show 3 ≤ sizeLine; decide) (.cons ⟨_, rfl⟩ (.cons ⟨_, rfl⟩ (.cons ⟨_, rfl⟩ .nil)))
  g_GONE := g_GONE
  m_GONE := PySem.W.mg_of X G aG_GONE
  y_GONE := ⟨_, lG_GONE, rfl, rfl⟩
  q_GONE := sqT_k lG_GONE (by show 4 ≤ sizeLine; decide) (.cons ⟨_, rfl⟩ (.cons ⟨_, rfl⟩ (.cons ⟨_, rfl⟩ (.cons ⟨_, rfl⟩ .nil))))
  g_ALIKE := g_ALIKE
  m_ALIKE := PySem.W.mg_of X G aG_ALIKE
  y_ALIKE := ⟨_, lG_ALIKE, rfl, rfl⟩
  q_ALIKE := sqT_k lG_ALIKE (by show 2 ≤ sizeLine; decide) (.cons ⟨_, rfl⟩ (.cons ⟨_, rfl⟩ .nil))
  g_UNLIKE := g_UNLIKE
  m_UNLIKE := PySem.W.mg_of X G aG_UNLIKE
  y_UNLIKE := ⟨_, lG_UNLIKE, rfl, rfl⟩
  q_UNLIKE := sqT_k lG_UNLIKE (by show 3 ≤ sizeLine; decide) (.cons ⟨_, rfl⟩ (.cons ⟨_, rfl⟩ (.cons ⟨_, rfl⟩ .nil)))
  g_KEYS_0 := g_KEYS_0
  q_KEYS_0 := sqT_k lG_KEYS_0 (by show 3 ≤ sizeLine; decide) (.cons rfl (.cons rfl (.cons ⟨_, rfl⟩ .nil)))
  g_KEYS_1 := g_KEYS_1
  q_KEYS_1 := sqT_k lG_KEYS_1 (by show 3 ≤ sizeLine; decide) (.cons rfl (.cons rfl (.cons ⟨_, rfl⟩ .nil)))
  g_KEYS_2 := g_KEYS_2
  q_KEYS_2 := sqT_k lG_KEYS_2 (by show 3 ≤ sizeLine; decide) (.cons rfl (.cons rfl (.cons ⟨_, rfl⟩ .nil)))
  g_KEYS_3 := g_KEYS_3
  q_KEYS_3 := sqT_k lG_KEYS_3 (by show 3 ≤ sizeLine; decide) (.cons rfl (.cons rfl (.cons ⟨_, rfl⟩ .nil)))
  g_KEYS_4 := g_KEYS_4
  q_KEYS_4 := sqT_k lG_KEYS_4 (by show 3 ≤ sizeLine; decide) (.cons rfl (.cons rfl (.cons ⟨_, rfl⟩ .nil)))
  g_KEYS_5 := g_KEYS_5
  q_KEYS_5 := sqT_k lG_KEYS_5 (by show 3 ≤ sizeLine; decide) (.cons rfl (.cons rfl (.cons ⟨_, rfl⟩ .nil)))
  g_KEYS_6 := g_KEYS_6
  q_KEYS_6 := sqT_k lG_KEYS_6 (by show 3 ≤ sizeLine; decide) (.cons rfl (.cons rfl (.cons ⟨_, rfl⟩ .nil)))
  g_KEYS_7 := g_KEYS_7
  q_KEYS_7 := sqT_k lG_KEYS_7 (by show 3 ≤ sizeLine; decide) (.cons rfl (.cons rfl (.cons ⟨_, rfl⟩ .nil)))
  g_KEYS_8 := g_KEYS_8
  q_KEYS_8 := sqT_k lG_KEYS_8 (by show 3 ≤ sizeLine; decide) (.cons rfl (.cons rfl (.cons ⟨_, rfl⟩ .nil)))
  g_KEYS_9 := g_KEYS_9
  q_KEYS_9 := sqT_k lG_KEYS_9 (by show 3 ≤ sizeLine; decide) (.cons rfl (.cons rfl (.cons ⟨_, rfl⟩ .nil)))
  g_KEYS_10 := g_KEYS_10
  q_KEYS_10 := sqT_k lG_KEYS_10 (by show 3 ≤ sizeLine; decide) (.cons rfl (.cons rfl (.cons ⟨_, rfl⟩ .nil)))
  g_KEYS_11 := g_KEYS_11
  q_KEYS_11 := sqT_k lG_KEYS_11 (by show 3 ≤ sizeLine; decide) (.cons rfl (.cons rfl (.cons ⟨_, rfl⟩ .nil)))
  g_KEYS := g_KEYS
  m_KEYS := PySem.W.mg_of X G aG_KEYS
  y_KEYS := ⟨_, lG_KEYS, rfl, rfl⟩
  q_KEYS := sqT_k lG_KEYS (by show 12 ≤ sizeLine; decide) (.cons rfl (.cons rfl (.cons rfl (.cons rfl (.cons rfl (.cons rfl (.cons rfl (.cons rfl (.cons rfl (.cons rfl (.cons rfl (.cons rfl .nil))))))))))))
  b_len := PySem.W.mg_none_of X G z_len
  b_min := PySem.W.mg_none_of X G z_min
  b_isinstance := PySem.W.mg_none_of X G z_isinstance
  b_bool := PySem.W.mg_none_of X G z_bool
  b_int := PySem.W.mg_none_of X G z_int
  b_list := PySem.W.mg_none_of X G z_list
  b_tuple := PySem.W.mg_none_of X G z_tuple
  b_enumerate := PySem.W.mg_none_of X G z_enumerate
  b_sorted := PySem.W.mg_none_of X G z_sorted
  b_abs := PySem.W.mg_none_of X G z_abs
  b_any := PySem.W.mg_none_of X G z_any
  b_all := PySem.W.mg_none_of X G z_all
  b_range := PySem.W.mg_none_of X G z_range
  b_str := PySem.W.mg_none_of X G z_str
  b_dict := PySem.W.mg_none_of X G z_dict
  c_Rule := C_Rule
  m_Rule := PySem.W.mg_of X G aC_Rule
  cl_Rule := ⟨pg_Rule, hd_Rule, po_Rule, sa_Rule⟩
  na_Rule_root := na_Rule_root
  na_Rule_others := na_Rule_others
  c_Plan := C_Plan
  m_Plan := PySem.W.mg_of X G aC_Plan
  cl_Plan := ⟨pg_Plan, hd_Plan, po_Plan, sa_Plan⟩
  na_Plan_gone := na_Plan_gone
  na_Plan_alike := na_Plan_alike
  na_Plan_unlike := na_Plan_unlike
  na_Plan_tidy := na_Plan_tidy
  na_Plan_by_kind := na_Plan_by_kind
  a_way_of := f_way_of
  fd_way_of := _
  F_way_of := fun_mk (st := s_way_of) l_way_of c_way_of k_way_of
  bi_way_of := (fun_mk (st := s_way_of) l_way_of c_way_of k_way_of).binds (ps := ["plan", "base", "one", "other"]) fun _ _ _ _ _ _ us hl => match us, hl with | [_, _, _, _], _ => rfl
  m_way_of := PySem.W.mg_of X G a_way_of
  a_cells_met := f_cells_met
  fd_cells_met := _
  F_cells_met := fun_mk (st := s_cells_met) l_cells_met c_cells_met k_cells_met
  bi_cells_met := (fun_mk (st := s_cells_met) l_cells_met c_cells_met k_cells_met).binds (ps := ["plan", "cells"]) fun _ _ _ _ _ _ us hl => match us, hl with | [_, _], _ => rfl
  m_cells_met := PySem.W.mg_of X G a_cells_met
  a_cell_merged := f_cell_merged
  fd_cell_merged := _
  F_cell_merged := fun_mk (st := s_cell_merged) l_cell_merged c_cell_merged k_cell_merged
  bi_cell_merged := (fun_mk (st := s_cell_merged) l_cell_merged c_cell_merged k_cell_merged).binds (ps := ["plan", "cells"]) fun _ _ _ _ _ _ us hl => match us, hl with | [_, _], _ => rfl
  m_cell_merged := PySem.W.mg_of X G a_cell_merged
  a_due_values := f_due_values
  fd_due_values := _
  F_due_values := fun_mk (st := s_due_values) l_due_values c_due_values k_due_values
  bi_due_values := (fun_mk (st := s_due_values) l_due_values c_due_values k_due_values).binds (ps := ["was", "left", "right"]) fun _ _ _ _ _ _ us hl => match us, hl with | [_, _, _], _ => rfl
  m_due_values := PySem.W.mg_of X G a_due_values
  a_empty_sum := f_empty_sum
  fd_empty_sum := _
  F_empty_sum := fun_mk (st := s_empty_sum) l_empty_sum c_empty_sum k_empty_sum
  bi_empty_sum := (fun_mk (st := s_empty_sum) l_empty_sum c_empty_sum k_empty_sum).binds (ps := []) fun _ _ _ _ _ _ us hl => match us, hl with | [], _ => rfl
  m_empty_sum := PySem.W.mg_of X G a_empty_sum
  a_added := f_added
  fd_added := _
  F_added := fun_mk (st := s_added) l_added c_added k_added
  bi_added := (fun_mk (st := s_added) l_added c_added k_added).binds (ps := ["total", "part"]) fun _ _ _ _ _ _ us hl => match us, hl with | [_, _], _ => rfl
  m_added := PySem.W.mg_of X G a_added
  a_is_let_here := f_is_let_here
  fd_is_let_here := _
  F_is_let_here := fun_mk (st := s_is_let_here) l_is_let_here c_is_let_here k_is_let_here
  bi_is_let_here := (fun_mk (st := s_is_let_here) l_is_let_here c_is_let_here k_is_let_here).binds (ps := ["kinds", "cell", "children"]) fun _ _ _ _ _ _ us hl => match us, hl with | [_, _, _], _ => rfl
  m_is_let_here := PySem.W.mg_of X G a_is_let_here
  a_outcome_on := f_outcome_on
  fd_outcome_on := _
  F_outcome_on := fun_mk (st := s_outcome_on) l_outcome_on c_outcome_on k_outcome_on
  bi_outcome_on := (fun_mk (st := s_outcome_on) l_outcome_on c_outcome_on k_outcome_on).binds (ps := ["plan", "kinds", "total", "cells", "root"]) fun _ _ _ _ _ _ us hl => match us, hl with | [_, _, _, _, _], _ => rfl
  m_outcome_on := PySem.W.mg_of X G a_outcome_on
  a_case_made := f_case_made
  fd_case_made := _
  F_case_made := fun_mk (st := s_case_made) l_case_made c_case_made k_case_made
  bi_case_made := (fun_mk (st := s_case_made) l_case_made c_case_made k_case_made).binds (ps := ["plan", "kinds", "total", "cells", "root"]) fun _ _ _ _ _ _ us hl => match us, hl with | [_, _, _, _, _], _ => rfl
  m_case_made := PySem.W.mg_of X G a_case_made
  a_closed := f_closed
  fd_closed := _
  F_closed := (funD_mk (st := s_closed) (dvs := [.bl false]) (fun z => nomatch z) l_closed c_closed k_closed lD_closed (.cons rfl .nil))
  bd1_closed := (funD_mk (st := s_closed) (dvs := [.bl false]) (fun z => nomatch z) l_closed c_closed k_closed lD_closed (.cons rfl .nil)).binds1 (ps := ["plan", "rule", "total", "cells", "root"]) 4 0 (fun z => nomatch z) rfl fun T kV doc pm an cdv ct us its h1 h2 => match us, its, h1, h2 with | [_, _, _, _], [_], _, _ => ⟨_, rfl, rfl⟩
  bi_closed := nil_binds ((funD_mk (st := s_closed) (dvs := [.bl false]) (fun z => nomatch z) l_closed c_closed k_closed lD_closed (.cons rfl .nil)).binds1 (ps := ["plan", "rule", "total", "cells", "root"]) 5 1 (fun z => nomatch z) rfl fun T kV doc pm an cdv ct us its h1 h2 => match us, its, h1, h2 with | [_, _, _, _, _], [_], _, _ => ⟨_, rfl, rfl⟩)
  m_closed := PySem.W.mg_of X G a_closed
  a_is_kind := f_is_kind
  fd_is_kind := _
  F_is_kind := fun_mk (st := s_is_kind) l_is_kind c_is_kind k_is_kind
  bi_is_kind := (fun_mk (st := s_is_kind) l_is_kind c_is_kind k_is_kind).binds (ps := ["kind"]) fun _ _ _ _ _ _ us hl => match us, hl with | [_], _ => rfl
  m_is_kind := PySem.W.mg_of X G a_is_kind
  a_kinds_of := f_kinds_of
  fd_kinds_of := _
  F_kinds_of := fun_mk (st := s_kinds_of) l_kinds_of c_kinds_of k_kinds_of
  bi_kinds_of := (fun_mk (st := s_kinds_of) l_kinds_of c_kinds_of k_kinds_of).binds (ps := ["side", "kinds"]) fun _ _ _ _ _ _ us hl => match us, hl with | [_, _], _ => rfl
  m_kinds_of := PySem.W.mg_of X G a_kinds_of
  a_Rule_init := f_Rule_init
  fd_Rule_init := _
  F_Rule_init := fun_mk (st := s_Rule_init) l_Rule_init c_Rule_init k_Rule_init
  bi_Rule_init := (fun_mk (st := s_Rule_init) l_Rule_init c_Rule_init k_Rule_init).binds (ps := ["self", "root", "others"]) fun _ _ _ _ _ _ us hl => match us, hl with | [_, _, _], _ => rfl
  mk_Rule := ⟨mk_Rule, a_Rule_init, i_Rule_init, kc_Rule⟩
  a_is_one_of := f_is_one_of
  fd_is_one_of := _
  F_is_one_of := fun_mk (st := s_is_one_of) l_is_one_of c_is_one_of k_is_one_of
  bi_is_one_of := (fun_mk (st := s_is_one_of) l_is_one_of c_is_one_of k_is_one_of).binds (ps := ["value", "names"]) fun _ _ _ _ _ _ us hl => match us, hl with | [_, _], _ => rfl
  m_is_one_of := PySem.W.mg_of X G a_is_one_of
  a_are_flags := f_are_flags
  fd_are_flags := _
  F_are_flags := fun_mk (st := s_are_flags) l_are_flags c_are_flags k_are_flags
  bi_are_flags := (fun_mk (st := s_are_flags) l_are_flags c_are_flags k_are_flags).binds (ps := ["flags"]) fun _ _ _ _ _ _ us hl => match us, hl with | [_], _ => rfl
  m_are_flags := PySem.W.mg_of X G a_are_flags
  a_Plan_init := f_Plan_init
  fd_Plan_init := _
  F_Plan_init := (funD_mk (st := s_Plan_init) (dvs := [.non]) (fun z => nomatch z) l_Plan_init c_Plan_init k_Plan_init lD_Plan_init (.cons rfl .nil))
  bd1_Plan_init := (funD_mk (st := s_Plan_init) (dvs := [.non]) (fun z => nomatch z) l_Plan_init c_Plan_init k_Plan_init lD_Plan_init (.cons rfl .nil)).binds1 (ps := ["self", "gone", "alike", "unlike", "tidy", "flags"]) 5 0 (fun z => nomatch z) rfl fun T kV doc pm an cdv ct us its h1 h2 => match us, its, h1, h2 with | [_, _, _, _, _], [_], _, _ => ⟨_, rfl, rfl⟩
  bi_Plan_init := nil_binds ((funD_mk (st := s_Plan_init) (dvs := [.non]) (fun z => nomatch z) l_Plan_init c_Plan_init k_Plan_init lD_Plan_init (.cons rfl .nil)).binds1 (ps := ["self", "gone", "alike", "unlike", "tidy", "flags"]) 6 1 (fun z => nomatch z) rfl fun T kV doc pm an cdv ct us its h1 h2 => match us, its, h1, h2 with | [_, _, _, _, _, _], [_], _, _ => ⟨_, rfl, rfl⟩)
  mk_Plan := ⟨mk_Plan, a_Plan_init, i_Plan_init, kc_Plan⟩
  a_l_pen_of := f_l_pen_of
  fd_l_pen_of := _
  F_l_pen_of := fun_mk (st := s_l_pen_of) l_l_pen_of c_l_pen_of k_l_pen_of
  bi_l_pen_of := (fun_mk (st := s_l_pen_of) l_l_pen_of c_l_pen_of k_l_pen_of).binds (ps := ["_law_script"]) fun _ _ _ _ _ _ us hl => match us, hl with | [_], _ => rfl
  m_l_pen_of := PySem.W.mg_of X G a_l_pen_of
  a_l_draw := f_l_draw
  fd_l_draw := _
  F_l_draw := fun_mk (st := s_l_draw) l_l_draw c_l_draw k_l_draw
  bi_l_draw := (fun_mk (st := s_l_draw) l_l_draw c_l_draw k_l_draw).binds (ps := ["_law_pen", "_law_many"]) fun _ _ _ _ _ _ us hl => match us, hl with | [_, _], _ => rfl
  m_l_draw := PySem.W.mg_of X G a_l_draw
  a_l_pick := f_l_pick
  fd_l_pick := _
  F_l_pick := fun_mk (st := s_l_pick) l_l_pick c_l_pick k_l_pick
  bi_l_pick := (fun_mk (st := s_l_pick) l_l_pick c_l_pick k_l_pick).binds (ps := ["_law_pen", "_law_items"]) fun _ _ _ _ _ _ us hl => match us, hl with | [_, _], _ => rfl
  m_l_pick := PySem.W.mg_of X G a_l_pick
  a_l_plan := f_l_plan
  fd_l_plan := _
  F_l_plan := fun_mk (st := s_l_plan) l_l_plan c_l_plan k_l_plan
  bi_l_plan := (fun_mk (st := s_l_plan) l_l_plan c_l_plan k_l_plan).binds (ps := ["_law_pen"]) fun _ _ _ _ _ _ us hl => match us, hl with | [_], _ => rfl
  m_l_plan := PySem.W.mg_of X G a_l_plan
  a_l_made := f_l_made
  fd_l_made := _
  F_l_made := fun_mk (st := s_l_made) l_l_made c_l_made k_l_made
  bi_l_made := (fun_mk (st := s_l_made) l_l_made c_l_made k_l_made).binds (ps := ["_law_plan_here"]) fun _ _ _ _ _ _ us hl => match us, hl with | [_], _ => rfl
  m_l_made := PySem.W.mg_of X G a_l_made
  a_l_case := f_l_case
  fd_l_case := _
  F_l_case := fun_mk (st := s_l_case) l_l_case c_l_case k_l_case
  bi_l_case := (fun_mk (st := s_l_case) l_l_case c_l_case k_l_case).binds (ps := ["_law_pen"]) fun _ _ _ _ _ _ us hl => match us, hl with | [_], _ => rfl
  m_l_case := PySem.W.mg_of X G a_l_case
  a_l_sum_of := f_l_sum_of
  fd_l_sum_of := _
  F_l_sum_of := fun_mk (st := s_l_sum_of) l_l_sum_of c_l_sum_of k_l_sum_of
  bi_l_sum_of := (fun_mk (st := s_l_sum_of) l_l_sum_of c_l_sum_of k_l_sum_of).binds (ps := ["_law_cases"]) fun _ _ _ _ _ _ us hl => match us, hl with | [_], _ => rfl
  m_l_sum_of := PySem.W.mg_of X G a_l_sum_of
  a_l_kinds := f_l_kinds
  fd_l_kinds := _
  F_l_kinds := fun_mk (st := s_l_kinds) l_l_kinds c_l_kinds k_l_kinds
  bi_l_kinds := (fun_mk (st := s_l_kinds) l_l_kinds c_l_kinds k_l_kinds).binds (ps := ["_law_pen"]) fun _ _ _ _ _ _ us hl => match us, hl with | [_], _ => rfl
  m_l_kinds := PySem.W.mg_of X G a_l_kinds
  a_l_some_cells := f_l_some_cells
  fd_l_some_cells := _
  F_l_some_cells := fun_mk (st := s_l_some_cells) l_l_some_cells c_l_some_cells k_l_some_cells
  bi_l_some_cells := (fun_mk (st := s_l_some_cells) l_l_some_cells c_l_some_cells k_l_some_cells).binds (ps := ["_law_pen", "_law_total"]) fun _ _ _ _ _ _ us hl => match us, hl with | [_, _], _ => rfl
  m_l_some_cells := PySem.W.mg_of X G a_l_some_cells
  a_l_value := f_l_value
  fd_l_value := _
  F_l_value := fun_mk (st := s_l_value) l_l_value c_l_value k_l_value
  bi_l_value := (fun_mk (st := s_l_value) l_l_value c_l_value k_l_value).binds (ps := ["_law_cell"]) fun _ _ _ _ _ _ us hl => match us, hl with | [_], _ => rfl
  m_l_value := PySem.W.mg_of X G a_l_value
  a_l_merged_value := f_l_merged_value
  fd_l_merged_value := _
  F_l_merged_value := fun_mk (st := s_l_merged_value) l_l_merged_value c_l_merged_value k_l_merged_value
  bi_l_merged_value := (fun_mk (st := s_l_merged_value) l_l_merged_value c_l_merged_value k_l_merged_value).binds (ps := ["_law_plan_here", "_law_base", "_law_one", "_law_other"]) fun _ _ _ _ _ _ us hl => match us, hl with | [_, _, _, _], _ => rfl
  m_l_merged_value := PySem.W.mg_of X G a_l_merged_value
  a_l_due := f_l_due
  fd_l_due := _
  F_l_due := fun_mk (st := s_l_due) l_l_due c_l_due k_l_due
  bi_l_due := (fun_mk (st := s_l_due) l_l_due c_l_due k_l_due).binds (ps := ["_law_base", "_law_one", "_law_other"]) fun _ _ _ _ _ _ us hl => match us, hl with | [_, _, _], _ => rfl
  m_l_due := PySem.W.mg_of X G a_l_due
  a_l_outcome := f_l_outcome
  fd_l_outcome := _
  F_l_outcome := fun_mk (st := s_l_outcome) l_l_outcome c_l_outcome k_l_outcome
  bi_l_outcome := (fun_mk (st := s_l_outcome) l_l_outcome c_l_outcome k_l_outcome).binds (ps := ["_law_plan_here", "_law_kinds_here", "_law_total", "_law_cells", "_law_same", "_law_alike", "_law_at_root"]) fun _ _ _ _ _ _ us hl => match us, hl with | [_, _, _, _, _, _, _], _ => rfl
  m_l_outcome := PySem.W.mg_of X G a_l_outcome
  a_l_closed := f_l_closed
  fd_l_closed := _
  F_l_closed := fun_mk (st := s_l_closed) l_l_closed c_l_closed k_l_closed
  bi_l_closed := (fun_mk (st := s_l_closed) l_l_closed c_l_closed k_l_closed).binds (ps := ["_law_plan_here", "_law_kinds_here", "_law_total", "_law_cells", "_law_at_root"]) fun _ _ _ _ _ _ us hl => match us, hl with | [_, _, _, _, _], _ => rfl
  m_l_closed := PySem.W.mg_of X G a_l_closed
  a_l_kinds_right := f_l_kinds_right
  fd_l_kinds_right := _
  F_l_kinds_right := fun_mk (st := s_l_kinds_right) l_l_kinds_right c_l_kinds_right k_l_kinds_right
  bi_l_kinds_right := (fun_mk (st := s_l_kinds_right) l_l_kinds_right c_l_kinds_right k_l_kinds_right).binds (ps := ["_law_told", "_law_ways"]) fun _ _ _ _ _ _ us hl => match us, hl with | [_, _], _ => rfl
  m_l_kinds_right := PySem.W.mg_of X G a_l_kinds_right
  a_l_sums_so := f_l_sums_so
  fd_l_sums_so := _
  F_l_sums_so := fun_mk (st := s_l_sums_so) l_l_sums_so c_l_sums_so k_l_sums_so
  bi_l_sums_so := (fun_mk (st := s_l_sums_so) l_l_sums_so c_l_sums_so k_l_sums_so).binds (ps := ["_law_pen", "_law_cases"]) fun _ _ _ _ _ _ us hl => match us, hl with | [_, _], _ => rfl
  m_l_sums_so := PySem.W.mg_of X G a_l_sums_so
  a_law := f_law
  fd_law := _
  F_law := fun_mk (st := s_law) l_law c_law k_law
  bi_law := (fun_mk (st := s_law) l_law c_law k_law).binds (ps := ["_law_script"]) fun _ _ _ _ _ _ us hl => match us, hl with | [_], _ => rfl
  m_law := PySem.W.mg_of X G a_law
end Toy
set_option Elab.async false
set_option linter.all false
set_option maxRecDepth 100000
set_option maxHeartbeats 4000000
namespace Toy
open PySem L2 Sh
theorem posI {n : Nat} [NeZero n] : (0 : Int) < (OfNat.ofNat n : Int) := by
  have := Nat.pos_of_ne_zero (NeZero.ne n)
  exact Int.ofNat_lt.mpr this
/-! ### the pen -/
def penL (c : Addr) (b l : Int) : List (Key × V) := [(.inr "cells", .ref c), (.inr "next", .int b), (.inr "left", .int l)]
theorem k12 : ¬ (("cells" : Str) = "next") := by decide +kernel
theorem k13 : ¬ (("cells" : Str) = "left") := by decide +kernel
theorem k23 : ¬ (("next" : Str) = "left") := by decide +kernel
theorem ki {a b : Str} (h : ¬ a = b) : ¬ (Sum.inr a : Key) = Sum.inr b := fun e => h (Sum.inr.inj e)
theorem pen_cells (c : Addr) (b l : Int) : valV (penL c b l) (.inr "cells") = some (.ref c) := valV_pos rfl
theorem pen_next (c : Addr) (b l : Int) : valV (penL c b l) (.inr "next") = some (.int b) := (valV_neg (ki k12)).trans (valV_pos rfl)
theorem pen_left (c : Addr) (b l : Int) : valV (penL c b l) (.inr "left") = some (.int l) := (valV_neg (ki k13)).trans ((valV_neg (ki k23)).trans (valV_pos rfl))
theorem put2 {a b c : Str} {x y z v : V} (h12 : ¬ a = b) (h23 : ¬ b = c) : putK ([(.inr a, x), (.inr b, y), (.inr c, z)] : List (Key × V)) (.inr b) v = [(.inr a, x), (.inr b, v), (.inr c, z)] := by
  have h32 : ¬ c = b := fun e => h23 e.symm
  unfold putK
  simp [h12, h32]
theorem put3 {a b c : Str} {x y z v : V} (h13 : ¬ a = c) (h23 : ¬ b = c) : putK ([(.inr a, x), (.inr b, y), (.inr c, z)] : List (Key × V)) (.inr c) v = [(.inr a, x), (.inr b, y), (.inr c, v)] := by
  unfold putK
  simp [h13, h23]
theorem pen_put_next (c : Addr) (b l : Int) (v : Int) : putK (penL c b l) (.inr "next") (.int v) = penL c v l := by
  unfold penL
  rw [put2 k12 k23]
theorem pen_put_left (c : Addr) (b l : Int) (v : Int) : putK (penL c b l) (.inr "left") (.int v) = penL c b v := by
  unfold penL
  rw [put3 k13 k23]
theorem at_mod {ns : List Int} {b : Int} (h : 0 < (ns.length : Int)) : ∃ v, atI (ns.map V.int) (b % (ns.length : Int)) = some (.int v) := by
  have h1 := Int.emod_nonneg b (show (ns.length : Int) ≠ 0 by omega)
  have h2 := Int.emod_lt_of_pos b h
  have h3 : (b % (ns.length : Int)).toNat < ns.length := by omega
  refine ⟨ns[(b % (ns.length : Int)).toNat], at_of (j := (b % (ns.length : Int)).toNat) (by omega) ?_⟩
  rw [List.getElem?_map, List.getElem?_eq_getElem h3]
  rfl
/-- a pen stands at d, n numbers were drawn from it at most -/
def Pen (H : Hp) (d c : Addr) (n : Nat) : Prop := ∃ (ns : List Int) (b l : Int), H d = some (.dK (penL c b l)) ∧ H c = some (.lst (ns.map V.int)) ∧ 0 ≤ b ∧ b ≤ (n : Int) ∧ 0 ≤ l
theorem Pen.mono {H : Hp} {d c : Addr} {n m : Nat} (p : Pen H d c n) (h : n ≤ m) : Pen H d c m := by
  obtain ⟨ns, b, l, h1, h2, h3, h4, h5⟩ := p
  exact ⟨ns, b, l, h1, h2, h3, by omega, h5⟩
theorem Pen.at {H : Hp} {d c : Addr} {n : Nat} (p : Pen H d c n) : ∃ kvs, H d = some (.dK kvs) := by
  obtain ⟨ns, b, l, h1, _⟩ := p
  exact ⟨_, h1⟩
theorem Pen.same {H H' : Hp} {d c : Addr} {n : Nat} (p : Pen H d c n) (s : Same H H') : Pen H' d c n := by
  obtain ⟨ns, b, l, h1, h2, h3⟩ := p
  exact ⟨ns, b, l, s _ _ h1, s _ _ h2, h3⟩
def spDraw : Sp := fun vs H Q _ => ∃ (d c : Addr) (n : Nat) (m : Int), vs = [.ref d, .int m] ∧ Pen H d c n ∧ n ≤ 100000 ∧ 0 < m ∧ m < 1000000000 ∧
  ∀ (H' : Hp) (r : Int), 0 ≤ r → r < m → Kp d H H' → Pen H' d c (n + 1) → Q (.int r) H'
section
variable {P : Program} {w : World} {K : PySem.W.Frag} {mg : Str → Option Value} {base : Heap}
theorem ok_l_draw (T : Tx K mg) : FnOk P w K mg base CX0 1 T.a_l_draw T.fd_l_draw ["_law_pen", "_law_many"] spDraw := by
  refine T.F_l_draw.ok sc_l_draw (fun vs H Q E h => ?_) (fun cdv A outer s H vs Q E hr h => ?_)
  · obtain ⟨d, c, n, m, rfl, _⟩ := h
    rfl
  have hu := hu_of hr
  obtain ⟨d, c, n, m, rfl, ⟨ns, b, l, hd, hc, hb0, hbn, hl⟩, hn, hm, hm2, q⟩ := h
  have ncd : c ≠ d := ne_of hc hd (by intro z; cases z)
  have gl : ∀ {H' : Hp} {c b l}, H' d = some (.dK (penL c b l)) → DGet H' d (.str "left") (some (.int l)) := fun h => by
    have := DGet.k (k := Sum.inr "left") h
    rw [pen_left] at this
    exact this
  have gb : ∀ {H' : Hp} {c b l}, H' d = some (.dK (penL c b l)) → DGet H' d (.str "next") (some (.int b)) := fun h => by
    have := DGet.k (k := Sum.inr "next") h
    rw [pen_next] at this
    exact this
  have gc : ∀ {H' : Hp} {c b l}, H' d = some (.dK (penL c b l)) → DGet H' d (.str "cells") (some (.ref c)) := fun h => by
    have := DGet.k (k := Sum.inr "cells") h
    rw [pen_cells] at this
    exact this
  have pb : ∀ {H' : Hp} {c b l} (v : Int), H' d = some (.dK (penL c b l)) → DPut H' d (.str "next") (.int v) (upd H' d (.dK (penL c v l))) := fun v h => by
    have := DPut.k (k := Sum.inr "next") (v := .int v) h (by show 3 < sizeLine; decide)
    rw [pen_put_next] at this
    exact this
  have pl : ∀ {H' : Hp} {c b l} (v : Int), H' d = some (.dK (penL c b l)) → DPut H' d (.str "left") (.int v) (upd H' d (.dK (penL c b v))) := fun v h => by
    have := DPut.k (k := Sum.inr "left") (v := .int v) h (by show 3 < sizeLine; decide)
    rw [pen_put_left] at this
    exact this
  refine ⟨_, (pss_cons (ps_if (pt_cmpR op_gt (pe_dget hu (pv 0) pe_str (fun _ _ => rfl)) pe_int (nomark _))
 (pss_cons (ps_set (i := 2) sc_l_draw.nd rfl (by first | exact Or.inl rfl | exact Or.inr rfl) (pe_op op_mod (pe_callTy call_int1 (by rfl) T.b_int (by decide +kernel) (pa_cons (pe_dget hu (pv 0) pe_str (fun _ _ => rfl)) pa_nil)) (pv 1)))
 (pss_cons (ps_dput hu (pv 0) pe_str (pe_op op_fdivN (pe_dget hu (pv 0) pe_str (fun _ _ => rfl)) (pv 1)) rfl)
 (pss_one (ps_ret (pv 2)))))
 pss_nil)
 (pss_cons (ps_par (i := 3) (j := 4) (by rfl) sc_l_draw.nd rfl rfl (by decide) rfl rfl (pa_cons (pe_dget hu (pv 0) pe_str (fun _ _ => rfl)) (pa_cons (pe_callB call_len_seq (by rfl) T.b_len (by decide +kernel) (pa_cons (pe_dget hu (pv 0) pe_str (fun _ _ => rfl)) pa_nil)) pa_nil)) (by rfl))
 (pss_cons (ps_dput hu (pv 0) pe_str (pe_op op_add (pv 3) pe_int) rfl)
 (pss_cons (ps_if (pt_cmpR op_eq (pv 4) pe_int (nomark _))
 (pss_one (ps_ret (pe_op op_mod (pe_callTy call_int1 (by rfl) T.b_int (by decide +kernel) (pa_cons (pe_op op_add (pe_op op_mul pe_int (pv 3)) pe_int) pa_nil)) (pv 1))))
 pss_nil)
 (pss_cons (ps_set (i := 5) sc_l_draw.nd rfl (by first | exact Or.inl rfl | exact Or.inr rfl) (pe_ix ix_list (pe_dget hu (pv 0) pe_str (fun _ _ => rfl)) (pe_op op_mod (pe_callTy call_int1 (by rfl) T.b_int (by decide +kernel) (pa_cons (pv 3) pa_nil)) (pv 4)) (fun _ _ => rfl)))
 (pss_cons (ps_if (PW.pt (pw_and (pt_cmpR op_lt (pv 3) (pv 4) (nomark _)) (pw_and1 (pt_cmpR op_ge (pe_callB call_abs (by rfl) T.b_abs (by decide +kernel) (pa_cons (pv 5) pa_nil)) (pe_op op_pow pe_int pe_int) (nomark _)))))
 (pss_cons (ps_dput hu (pv 0) pe_str (pe_op op_fdivN (pe_op op_sub (pe_callB call_abs (by rfl) T.b_abs (by decide +kernel) (pa_cons (pv 5) pa_nil)) (pe_op op_pow pe_int pe_int)) (pv 1)) rfl)
 (pss_one (ps_ret (pe_op op_mod (pe_callTy call_int1 (by rfl) T.b_int (by decide +kernel) (pa_cons (pe_op op_sub (pe_callB call_abs (by rfl) T.b_abs (by decide +kernel) (pa_cons (pv 5) pa_nil)) (pe_op op_pow pe_int pe_int)) pa_nil)) (pv 1)))))
 pss_nil)
 (pss_cons (ps_set (i := 6) sc_l_draw.nd rfl (by first | exact Or.inl rfl | exact Or.inr rfl) (pe_op op_add (pe_op op_mul (pe_op op_mod (pe_callTy call_int1 (by rfl) T.b_int (by decide +kernel) (pa_cons (pv 5) pa_nil)) pe_int) pe_int) (pe_op op_mul (pe_op op_mul pe_int (pv 3)) (pv 3))))
 (pss_cons (ps_set (i := 6) sc_l_draw.nd rfl (by first | exact Or.inl rfl | exact Or.inr rfl) (pe_op op_mod (pe_callTy call_int1 (by rfl) T.b_int (by decide +kernel) (pa_cons (pe_op op_add (pe_op op_add (pv 6) (pe_op op_mul pe_int (pv 3))) pe_int) pa_nil)) pe_int))
 (pss_cons (ps_set (i := 6) sc_l_draw.nd rfl (by first | exact Or.inl rfl | exact Or.inr rfl) (pe_op op_mod (pe_callTy call_int1 (by rfl) T.b_int (by decide +kernel) (pa_cons (pe_op op_add (pe_op op_add (pe_op op_add (pe_op op_mul (pv 6) (pv 6)) (pe_op op_mul pe_int (pv 6))) (pe_op op_mul pe_int (pv 3))) pe_int) pa_nil)) pe_int))
 (pss_one (ps_ret (pe_op op_mod (pe_callTy call_int1 (by rfl) T.b_int (by decide +kernel) (pa_cons (pe_op op_fdivN (pe_op op_mod (pe_callTy call_int1 (by rfl) T.b_int (by decide +kernel) (pa_cons (pe_op op_mul (pv 6) (pe_op op_add (pv 6) pe_int)) pa_nil)) pe_int) pe_int) pa_nil)) (pv 1))))))))))))), ?_⟩
  -- if pen['left'] > 0
  refine ⟨_, rfl, d, _, rfl, gl hd, _, _, rfl, rfl, _, rfl, ?_⟩
  refine ite2 (fun h1 => ?_) (fun h1 => ?_)
  · refine ⟨_, rfl, d, _, rfl, gl hd, .inl ⟨_, rfl, _, rfl, _, _, rfl, rfl, hm, ?_⟩⟩
    refine ⟨_, rfl, d, _, rfl, gl hd, _, rfl, _, _, rfl, rfl, ⟨by omega, by omega⟩, _, rfl, d, _, rfl, pl _ hd, ?_⟩
    refine ⟨_, rfl, q _ _ (Int.emod_nonneg _ (by omega)) (Int.emod_lt_of_pos _ hm) kp_put ?_⟩
    refine ⟨ns, b, _, upd_same, by rw [upd_ne ncd]; exact hc, hb0, by omega, Int.fdiv_nonneg (by omega) (by omega)⟩
  -- place, size = (pen['next'], len(pen['cells'])); pen['next'] = place + 1
  refine ⟨_, rfl, d, _, rfl, gb hd, _, rfl, d, _, rfl, gc hd, c, _, rfl, .inl (.inl (.inl hc)), _, _, rfl, ?_⟩
  refine ⟨_, rfl, _, _, rfl, rfl, _, rfl, d, _, rfl, pb _ hd, ?_⟩
  have hd2 : (upd H d (.dK (penL c (b + 1) l))) d = some (.dK (penL c (b + 1) l)) := upd_same
  have hc2 : (upd H d (.dK (penL c (b + 1) l))) c = some (.lst (ns.map V.int)) := by rw [upd_ne ncd]; exact hc
  have kp2 : Kp d H (upd H d (.dK (penL c (b + 1) l))) := kp_put
  generalize upd H d (.dK (penL c (b + 1) l)) = H2 at hd2 hc2 kp2 ⊢
  have hlen : ((ns.map V.int).length : Int) = (ns.length : Int) := by rw [List.length_map]
  rw [hlen]
  -- if size == 0
  refine ⟨_, rfl, rfl, _, rfl, ?_⟩
  refine ite2 (fun h2 => ?_) (fun h2 => ?_)
  · refine ⟨_, rfl, _, _, rfl, rfl, .inl ⟨by decide, by decide⟩, _, _, rfl, rfl, .inl ⟨_, rfl, _, rfl, _, _, rfl, rfl, hm, ?_⟩⟩
    exact q _ _ (Int.emod_nonneg _ (by omega)) (Int.emod_lt_of_pos _ hm) kp2 ⟨ns, b + 1, l, hd2, hc2, by omega, by omega, hl⟩
  have h3 : 0 < (ns.length : Int) := by
    have h4 : ¬ V.int (ns.length : Int) = V.int 0 := fun z => h2 (decide_eq_true z)
    have h5 : ¬ (ns.length : Int) = 0 := fun z => h4 (by rw [z])
    omega
  obtain ⟨z, hz⟩ := at_mod (b := b) h3
  refine ⟨_, rfl, d, _, rfl, gc hd2, _, rfl, .inl ⟨_, rfl, _, rfl, _, _, rfl, rfl, h3, c, ns.map V.int, _, V.int z, rfl, rfl, .inl (.inl hc2), hz, ?_⟩⟩
  -- if index < size and abs(cell) >= 10 ** 18
  refine ⟨_, rfl, _, rfl, _, _, rfl, rfl, _, rfl, ?_⟩
  have m1 := Int.emod_nonneg z (show (4294967197 : Int) ≠ 0 by decide)
  have m2 := Int.emod_lt_of_pos z (show (0 : Int) < 4294967197 by decide)
  refine ite2 (fun h4 => ?_) (fun h4 => ?_)
  · refine ⟨_, rfl, _, rfl, _, _, rfl, rfl, ⟨by decide, by decide, by decide⟩, _, _, rfl, rfl, _, rfl, ?_⟩
    refine ite2 (fun h5 => ?_) (fun h5 => ?_)
    · have h6 := of_decide_eq_true h5
      refine ⟨_, rfl, _, rfl, _, _, rfl, rfl, ⟨by decide, by decide, by decide⟩, _, _, rfl, rfl, _, rfl, _, _, rfl, rfl, ⟨by omega, by omega⟩, _, rfl, d, _, rfl, pl _ hd2, ?_⟩
      refine ⟨_, rfl, _, rfl, _, _, rfl, rfl, ⟨by decide, by decide, by decide⟩, _, _, rfl, rfl, .inl ⟨_, rfl, _, rfl, _, _, rfl, rfl, hm, ?_⟩⟩
      exact q _ _ (Int.emod_nonneg _ (by omega)) (Int.emod_lt_of_pos _ hm) (kp2.trans kp_put) ⟨ns, b + 1, _, upd_same, by rw [upd_ne ncd]; exact hc2, by omega, by omega, Int.fdiv_nonneg (by omega) (by omega)⟩
    · show tSeq _ _ _ _ _
      refine ⟨_, rfl, .inl ⟨_, rfl, _, _, rfl, rfl, posI, _, _, rfl, rfl, .inl ⟨by omega, by omega⟩, _, rfl, _, _, rfl, rfl, .inl ⟨by decide, by decide⟩, _, rfl, _, _, rfl, rfl, .inl ⟨by omega, by omega⟩, _, _, rfl, rfl, ?_⟩⟩
      refine ⟨_, rfl, _, rfl, _, _, rfl, rfl, .inl ⟨by decide, by decide⟩, _, _, rfl, rfl, _, _, rfl, rfl, .inl ⟨_, rfl, _, _, rfl, rfl, posI, ?_⟩⟩
      refine ⟨_, rfl, _, rfl, _, _, rfl, rfl, .inl ⟨by omega, by omega⟩, _, rfl, _, _, rfl, rfl, .inl ⟨by decide, by decide⟩, _, _, rfl, rfl, _, rfl, _, _, rfl, rfl, .inl ⟨by decide, by decide⟩, _, _, rfl, rfl, _, _, rfl, rfl, .inl ⟨_, rfl, _, _, rfl, rfl, posI, ?_⟩⟩
      refine ⟨_, rfl, _, rfl, _, _, rfl, rfl, _, _, rfl, rfl, .inl ⟨by omega, by omega⟩, .inl ⟨_, rfl, _, _, rfl, rfl, posI, _, _, rfl, rfl, ⟨by decide, by decide⟩, .inl ⟨_, rfl, _, rfl, _, _, rfl, rfl, hm, ?_⟩⟩⟩
      exact q _ _ (Int.emod_nonneg _ (by omega)) (Int.emod_lt_of_pos _ hm) kp2 ⟨ns, b + 1, l, hd2, hc2, by omega, by omega, hl⟩
  · refine iteF ?_
    show tSeq _ _ _ _ _
    refine ⟨_, rfl, .inl ⟨_, rfl, _, _, rfl, rfl, posI, _, _, rfl, rfl, .inl ⟨by omega, by omega⟩, _, rfl, _, _, rfl, rfl, .inl ⟨by decide, by decide⟩, _, rfl, _, _, rfl, rfl, .inl ⟨by omega, by omega⟩, _, _, rfl, rfl, ?_⟩⟩
    refine ⟨_, rfl, _, rfl, _, _, rfl, rfl, .inl ⟨by decide, by decide⟩, _, _, rfl, rfl, _, _, rfl, rfl, .inl ⟨_, rfl, _, _, rfl, rfl, posI, ?_⟩⟩
    refine ⟨_, rfl, _, rfl, _, _, rfl, rfl, .inl ⟨by omega, by omega⟩, _, rfl, _, _, rfl, rfl, .inl ⟨by decide, by decide⟩, _, _, rfl, rfl, _, rfl, _, _, rfl, rfl, .inl ⟨by decide, by decide⟩, _, _, rfl, rfl, _, _, rfl, rfl, .inl ⟨_, rfl, _, _, rfl, rfl, posI, ?_⟩⟩
    refine ⟨_, rfl, _, rfl, _, _, rfl, rfl, _, _, rfl, rfl, .inl ⟨by omega, by omega⟩, .inl ⟨_, rfl, _, _, rfl, rfl, posI, _, _, rfl, rfl, ⟨by decide, by decide⟩, .inl ⟨_, rfl, _, rfl, _, _, rfl, rfl, hm, ?_⟩⟩⟩
    exact q _ _ (Int.emod_nonneg _ (by omega)) (Int.emod_lt_of_pos _ hm) kp2 ⟨ns, b + 1, l, hd2, hc2, by omega, by omega, hl⟩
end
end Toy
set_option Elab.async false
set_option linter.all false
set_option maxRecDepth 100000
set_option maxHeartbeats 4000000
namespace Toy
open PySem L2 Sh
/-! ### kinds -/
abbrev Kd := Bool × Bool × Int
def kdD (k : Kd) : PyData := .tuple [.bool k.1, .bool k.2.1, .int k.2.2]
def IsK (H : Hp) (v : V) (k : Kd) : Prop := ∃ t, v = .ref t ∧ H t = some (.tup [.bl k.1, .bl k.2.1, .int k.2.2])
abbrev AllK (H : Hp) : List V → List Kd → Prop := Paired (IsK H)
theorem IsK.dp {K : PySem.W.Frag} {H : Hp} {v : V} {k : Kd} (h : IsK H v k) : Dp K H v (kdD k) := by
  obtain ⟨t, rfl, e⟩ := h
  exact .tup (SqT.of e) (.cons (.bl _) (.cons (.bl _) (.cons (.int _) .nil)))
theorem AllK.dp {K : PySem.W.Frag} {H : Hp} : ∀ {vs : List V} {ks : List Kd}, AllK H vs ks → DpAll K H vs (ks.map kdD)
  | _, _, .nil => .nil
  | _, _, .cons r t => .cons r.dp (AllK.dp t)
theorem IsK.same {H H' : Hp} {v : V} {k : Kd} (s : Same H H') (h : IsK H v k) : IsK H' v k := by
  obtain ⟨t, rfl, e⟩ := h
  exact ⟨t, rfl, s _ _ e⟩
theorem IsK.kp {H H' : Hp} {d : Addr} {v : V} {k : Kd} (s : Kp d H H') (hd : ∃ kvs, H d = some (.dK kvs)) (h : IsK H v k) : IsK H' v k := by
  obtain ⟨t, rfl, e⟩ := h
  obtain ⟨kvs, hd⟩ := hd
  exact ⟨t, rfl, s _ _ e (ne_of e hd (by intro z; cases z))⟩
theorem AllK.mono {H H' : Hp} (f : ∀ v k, IsK H v k → IsK H' v k) : ∀ {vs : List V} {ks : List Kd}, AllK H vs ks → AllK H' vs ks
  | _, _, .nil => .nil
  | _, _, .cons r t => .cons (f _ _ r) (AllK.mono f t)
theorem AllK.same {H H' : Hp} {vs : List V} {ks : List Kd} (s : Same H H') (h : AllK H vs ks) : AllK H' vs ks := AllK.mono (fun _ _ => IsK.same s) h
theorem AllK.len {H : Hp} : ∀ {vs : List V} {ks : List Kd}, AllK H vs ks → vs.length = ks.length
  | _, _, .nil => rfl
  | _, _, .cons _ t => congrArg (· + 1) (AllK.len t)
theorem AllK.get {H : Hp} : ∀ {vs : List V} {ks : List Kd} {i : Nat} {v : V}, AllK H vs ks → vs[i]? = some v → ∃ k, ks[i]? = some k ∧ IsK H v k
  | _, _, _, _, .nil, e => by simp at e
  | _, _, 0, _, .cons r _, e => by simp at e; subst e; exact ⟨_, rfl, r⟩
  | _, _, i + 1, v, .cons _ t, e => by
    obtain ⟨k, h1, h2⟩ := AllK.get (i := i) (v := v) t (by simpa using e)
    exact ⟨k, by simpa using h1, h2⟩
theorem AllK.append {H : Hp} : ∀ {vs ws : List V} {ks js : List Kd}, AllK H vs ks → AllK H ws js → AllK H (vs ++ ws) (ks ++ js)
  | _, _, _, _, .nil, s => s
  | _, _, _, _, .cons r t, s => .cons r (AllK.append t s)
theorem AllK.take {H : Hp} : ∀ {vs : List V} {ks : List Kd} (n : Nat), AllK H vs ks → AllK H (vs.take n) (ks.take n)
  | _, _, 0, _ => .nil
  | _, _, _ + 1, .nil => .nil
  | _, _, n + 1, .cons r t => .cons r (AllK.take n t)
theorem AllK.drop {H : Hp} : ∀ {vs : List V} {ks : List Kd} (n : Nat), AllK H vs ks → AllK H (vs.drop n) (ks.drop n)
  | _, _, 0, r => r
  | _, _, _ + 1, .nil => .nil
  | _, _, n + 1, .cons _ t => AllK.drop n t
theorem kd_eqv (a b : Kd) : PyData.eqv (kdD a) (kdD b) = decide (a = b) := by
  obtain ⟨a1, a2, a3⟩ := a
  obtain ⟨b1, b2, b3⟩ := b
  simp only [kdD, PyData.eqv, PyData.eqvAll]
  cases a1 <;> cases a2 <;> cases b1 <;> cases b2 <;> simp [Bool.beq_eq_decide_eq]
theorem kd_any (k : Kd) : ∀ ks : List Kd, ((ks.map kdD).any fun z => PyData.eqv z (kdD k)) = decide (k ∈ ks)
  | [] => by simp
  | a :: ks => by
    rw [List.map_cons, List.any_cons, kd_any k ks, kd_eqv]
    by_cases h : a = k
    · subst h; simp
    · have h' : ¬ k = a := fun e => h e.symm
      simp [h, h']
theorem kd_depth (k : Kd) : (kdD k).depth = 1 := by simp [kdD, PyData.depth, PyData.depthAll]
theorem kd_lay (k : Kd) : (kdD k).canLay0 = true := by simp [kdD, PyData.canLay0, PyData.canLayAll0]
theorem kds_lay : ∀ ks : List Kd, PyData.canLayAll0 (ks.map kdD) = true
  | [] => by simp [PyData.canLayAll0]
  | z :: zs => by simp [PyData.canLayAll0, kd_lay z, kds_lay zs]
theorem kds_depth : ∀ ks : List Kd, PyData.depthAll (ks.map kdD) ≤ 1
  | [] => by simp [PyData.depthAll]
  | z :: zs => by
    have h1 := kds_depth zs
    have h2 := kd_depth z
    simp only [List.map_cons, PyData.depthAll]
    omega
theorem kd_shaped (k : Kd) : SeqAt.shaped (kdD k) = true := by
  have h := kd_depth k
  show ((kdD k).canLay0 && decide ((kdD k).depth ≤ 64)) = true
  rw [Bool.and_eq_true]
  exact ⟨kd_lay k, decide_eq_true (by omega)⟩
theorem kds_shapedL (ks : List Kd) : SeqAt.shaped (.list (ks.map kdD)) = true := by
  have h1 := kds_depth ks
  have h2 : PyData.depth (.list (ks.map kdD)) ≤ 64 := by
    simp only [PyData.depth]
    omega
  show (PyData.canLay0 (.list (ks.map kdD)) && decide (PyData.depth (.list (ks.map kdD)) ≤ 64)) = true
  rw [Bool.and_eq_true]
  exact ⟨by simp only [PyData.canLay0]; exact kds_lay ks, decide_eq_true h2⟩
theorem kds_shapedT (ks : List Kd) : SeqAt.shaped (.tuple (ks.map kdD)) = true := by
  have h1 := kds_depth ks
  have h2 : PyData.depth (.tuple (ks.map kdD)) ≤ 64 := by
    simp only [PyData.depth]
    omega
  show (PyData.canLay0 (.tuple (ks.map kdD)) && decide (PyData.depth (.tuple (ks.map kdD)) ≤ 64)) = true
  rw [Bool.and_eq_true]
  exact ⟨by simp only [PyData.canLay0]; exact kds_lay ks, decide_eq_true h2⟩
theorem kd_alike (a b : Kd) : PySem.W.alike (kdD a) (kdD b) = true := by simp [kdD, PySem.W.alike, PySem.W.alikeAll]
theorem kit_t {K : PySem.W.Frag} : PySem.W.kitAny K (.type "tuple") [.type "list", .type "tuple"] = some true :=
  kitAny_cons (b := false) (kit_ty (by decide +kernel)) (fun _ => kitAny_cons (b := true) (kit_ty (by decide +kernel)) (fun z => nomatch z) fun _ => rfl) fun z => nomatch z
/-- of a list of kinds, all of them right and none twice -/
def GoodK (ks : List Kd) : Prop := ks.Nodup ∧ (∀ k ∈ ks, 0 ≤ k.2.2 ∧ k.2.2 ≤ 2) ∧ ks.length ≤ 12
def spIsKind : Sp := fun vs H Q _ => ∃ (v : V) (k : Kd), vs = [v] ∧ IsK H v k ∧ 0 ≤ k.2.2 ∧ k.2.2 ≤ 2 ∧ ∀ H', Same H H' → Q (.bl true) H'
section
variable {P : Program} {w : World} {K : PySem.W.Frag} {mg : Str → Option Value} {base : Heap}
theorem ok_is_kind (T : Tx K mg) : FnOk P w K mg base CX0 1 T.a_is_kind T.fd_is_kind ["kind"] spIsKind := by
  refine T.F_is_kind.ok sc_is_kind (fun vs H Q E h => ?_) (fun cdv A outer s H vs Q E hr h => ?_)
  · obtain ⟨v, k, rfl, _⟩ := h
    rfl
  have hu := hu_of hr
  obtain ⟨v, ⟨k1, k2, k3⟩, rfl, ⟨t, rfl, ht⟩, h0, h2, q⟩ := h
  refine ⟨_, (pss_cons (ps_if (PW.pt (pw_or (pt_not (pt_val (pe_callB call_isiT (by rfl) T.b_isinstance (by decide +kernel) (pa_cons (pv 0) (pa_cons (pe_tup (pa_cons (pe_bltn (v := .ty "list") (by rfl) T.b_list (by decide +kernel) rfl) (pa_cons (pe_bltn (v := .ty "tuple") (by rfl) T.b_tuple (by decide +kernel) rfl) pa_nil))) pa_nil))))) (pw_or1 (pt_cmpR op_ne (pe_callB call_len_seq (by rfl) T.b_len (by decide +kernel) (pa_cons (pv 0) pa_nil)) pe_int (nomark _)))))
 (pss_one (ps_ret pe_bl))
 pss_nil)
 (pss_cons (ps_asg (pv 0) (pg_tup rfl (pgs_cons (pg_name (i := 1) sc_is_kind.nd rfl (by first | exact Or.inl rfl | exact Or.inr rfl)) (pgs_cons (pg_name (i := 2) sc_is_kind.nd rfl (by first | exact Or.inl rfl | exact Or.inr rfl)) (pgs_cons (pg_name (i := 3) sc_is_kind.nd rfl (by first | exact Or.inl rfl | exact Or.inr rfl)) pgs_nil)))))
 (pss_cons (ps_if (PW.pt (pw_or (pt_not (pt_val (pe_callB call_isi (by rfl) T.b_isinstance (by decide +kernel) (pa_cons (pv 1) (pa_cons (pe_bltn (v := .ty "bool") (by rfl) T.b_bool (by decide +kernel) rfl) pa_nil))))) (pw_or1 (pt_not (pt_val (pe_callB call_isi (by rfl) T.b_isinstance (by decide +kernel) (pa_cons (pv 2) (pa_cons (pe_bltn (v := .ty "bool") (by rfl) T.b_bool (by decide +kernel) rfl) pa_nil))))))))
 (pss_one (ps_ret pe_bl))
 pss_nil)
 (pss_one (ps_ret (pe_and (pe_callB call_isi (by rfl) T.b_isinstance (by decide +kernel) (pa_cons (pv 3) (pa_cons (pe_bltn (v := .ty "int") (by rfl) T.b_int (by decide +kernel) rfl) pa_nil))) (pe_and (pe_not (pe_callB call_isi (by rfl) T.b_isinstance (by decide +kernel) (pa_cons (pv 3) (pa_cons (pe_bltn (v := .ty "bool") (by rfl) T.b_bool (by decide +kernel) rfl) pa_nil)))) (pe_one (pe_chain op_le op_le pe_int (pv 3) pe_int))))))))), ?_⟩
  refine ⟨_, rfl, by show 2 ≤ sizeLine; decide, fun p hp => ?_⟩
  have ntp : t ≠ p := ne_of_none ht hp
  have ht1 : ∀ o, (upd H p o) t = some (.tup [.bl k1, .bl k2, .int k3]) := fun o => by rw [upd_ne ntp]; exact ht
  have s1 : ∀ o, Same H (upd H p o) := fun o => same_upd hp
  refine ⟨_, p, _, .type "tuple", [.type "list", .type "tuple"], true, rfl, upd_same, .cons (.ty _) (.cons (.ty _) .nil), .base (.tup (ht1 _)), kit_t, _, rfl, ?_⟩
  refine iteF ?_
  refine ⟨_, rfl, t, _, rfl, .inr (SqT.of (ht1 _)), rfl, _, rfl, ?_⟩
  refine iteNS rfl ?_
  refine ⟨_, rfl, t, _, rfl, SqT.of (ht1 _), rfl, _, _, rfl, _, _, rfl, _, _, rfl, rfl, ?_⟩
  refine ⟨_, rfl, _, _, _, _, true, rfl, .ty _, .base (.bl _), kit_ty (by decide +kernel), _, rfl, ?_⟩
  refine iteF ?_
  refine ⟨_, rfl, _, _, _, _, true, rfl, .ty _, .base (.bl _), kit_ty (by decide +kernel), _, rfl, ?_⟩
  refine iteF ?_
  refine ⟨_, rfl, _, _, _, _, true, rfl, .ty _, .base (.int _), kit_ty (by decide +kernel), _, rfl, ?_⟩
  refine iteT ?_
  refine ⟨_, rfl, _, _, _, _, false, rfl, .ty _, .base (.int _), kit_ty (by decide +kernel), _, rfl, _, rfl, ?_⟩
  refine iteT ?_
  refine ⟨_, rfl, _, _, rfl, rfl, _, rfl, ?_⟩
  rw [decide_eq_true h0]
  refine iteT ?_
  refine ⟨_, _, rfl, rfl, ?_⟩
  show Q (.bl (decide (k3 ≤ 2))) _
  rw [decide_eq_true h2]
  exact q _ (s1 _)
end
theorem kdD_inj {a b : Kd} (h : kdD a = kdD b) : a = b := by
  obtain ⟨a1, a2, a3⟩ := a
  obtain ⟨b1, b2, b3⟩ := b
  simp only [kdD, PyData.tuple.injEq, List.cons.injEq, PyData.bool.injEq, PyData.int.injEq] at h
  obtain ⟨h1, h2, h3, _⟩ := h
  rw [h1, h2, h3]
theorem pairs_k {H : Hp} : ∀ (L : List (V × PyData)), (∀ p ∈ L, ∃ k, p.2 = kdD k ∧ IsK H p.1 k) → ∃ js, AllK H (L.map Prod.fst) js ∧ L.map Prod.snd = js.map kdD
  | [], _ => ⟨[], .nil, rfl⟩
  | p :: L, h => by
    obtain ⟨js, h1, h2⟩ := pairs_k L fun p hp => h p (List.mem_cons_of_mem _ hp)
    obtain ⟨k, e, hk⟩ := h p List.mem_cons_self
    exact ⟨k :: js, .cons hk h1, by rw [List.map_cons, List.map_cons, h2, e]⟩
theorem zip_k {H : Hp} : ∀ {xs : List V} {ks : List Kd}, AllK H xs ks → ∀ p ∈ xs.zip (ks.map kdD), ∃ k, p.2 = kdD k ∧ IsK H p.1 k
  | _, _, .nil, p, hp => by simp at hp
  | _, _, .cons r t, p, hp => by
    rw [List.map_cons, List.zip_cons_cons, List.mem_cons] at hp
    rcases hp with rfl | hp
    · exact ⟨_, rfl, r⟩
    · exact zip_k t p hp
/-- the same kinds, as many -/
def Eqv (js ks : List Kd) : Prop := (∀ k, k ∈ js ↔ k ∈ ks) ∧ js.length = ks.length
theorem sort_k {H : Hp} {xs : List V} {ks : List Kd} (h : AllK H xs ks) : ∃ js, AllK H ((sortPairs xs (ks.map kdD)).map Prod.fst) js ∧ Eqv js ks := by
  have hp : (sortPairs xs (ks.map kdD)).Perm (xs.zip (ks.map kdD)) := List.mergeSort_perm _ _
  obtain ⟨js, h1, h2⟩ := pairs_k (H := H) (sortPairs xs (ks.map kdD)) fun p hp' => zip_k h p (hp.mem_iff.mp hp')
  have h3 : (js.map kdD).Perm (ks.map kdD) := by
    rw [← h2]
    have := hp.map Prod.snd
    rw [zip_snd (by rw [List.length_map]; exact AllK.len h)] at this
    exact this
  refine ⟨js, h1, fun k => ?_, by rw [← List.length_map (f := kdD), h3.length_eq, List.length_map]⟩
  have h4 : ∀ l : List Kd, k ∈ l ↔ kdD k ∈ l.map kdD := fun l => by
    rw [List.mem_map]
    constructor
    · intro h
      exact ⟨k, h, rfl⟩
    · rintro ⟨j, hj, e⟩
      rw [← kdD_inj e]
      exact hj
  rw [h4 js, h4 ks]
  exact h3.mem_iff
theorem alike_k (ks : List Kd) : PySem.W.AllAlike (ks.map kdD) := PySem.W.AllAlike.of kd_alike
theorem sortable_k (ks : List Kd) : PySem.W.Sortable (ks.map kdD) := PySem.W.Sortable.tuples fun b => ⟨_, _, rfl⟩
theorem depth_k (ks : List Kd) : ∀ d ∈ ks.map kdD, d.depth ≤ 60 := fun d hd => by
  obtain ⟨k, _, rfl⟩ := List.mem_map.mp hd
  rw [kd_depth]
  decide
def spKinds (K : PySem.W.Frag) : Sp := fun vs H Q _ => ∃ (z : Str) (a : Addr) (xs : List V) (ks : List Kd), vs = [.str z, .ref a] ∧ SqL K H a xs ∧ AllK H xs ks ∧ GoodK ks ∧
  ∀ (H' : Hp) (p : Addr) (ys : List V) (js : List Kd), Same H H' → H p = none → H' p = some (.tup ys) → AllK H' ys js → Eqv js ks → Q (.ref p) H'
theorem take_next {α : Type} {xs : List α} {i : Nat} {x : α} (h : xs[i]? = some x) : xs.take i ++ [x] = xs.take (i + 1) := by
  rw [List.take_add_one, h]
  rfl
section
variable {P : Program} {w : World} {K : PySem.W.Frag} {mg : Str → Option Value} {base : Heap}
theorem ok_kinds_of (T : Tx K mg) : FnOk P w K mg base CX0 2 T.a_kinds_of T.fd_kinds_of ["side", "kinds"] (spKinds K) := by
  refine T.F_kinds_of.ok sc_kinds_of (fun vs H Q E h => ?_) (fun cdv A outer s H vs Q E hr h => ?_)
  · obtain ⟨z, a, xs, ks, rfl, _⟩ := h
    rfl
  have hu := hu_of hr
  have hu65 := hu65_of hr
  obtain ⟨z, a, xs, ks, rfl, hS, hK, ⟨hnd, hgood, h12⟩, q⟩ := h
  refine ⟨_, (pss_cons (ps_set (i := 2) sc_kinds_of.nd rfl (by first | exact Or.inl rfl | exact Or.inr rfl) (pe_lst pa_nil))
 (pss_cons (ps_for PassesOwn.never rfl (pi_enum (by rfl) T.b_enumerate (pa_cons (pv 1) pa_nil)) (pg_tup rfl (pgs_cons (pg_name (i := 3) sc_kinds_of.nd rfl (by first | exact Or.inl rfl | exact Or.inr rfl)) (pgs_cons (pg_name (i := 4) sc_kinds_of.nd rfl (by first | exact Or.inl rfl | exact Or.inr rfl)) pgs_nil)))
 (pss_cons (ps_if (PW.pt (pw_or (pt_not (pt_val (pe_call (ok_is_kind T) (hr.mono (by decide)) (by rfl) T.m_is_kind T.F_is_kind.kp T.bi_is_kind .nil pass0 (pa_cons (pv 4) pa_nil)))) (pw_or1 (pt_cmpR (op_inD hu65) (pe_callTy call_tuple_of (by rfl) T.b_tuple (by decide +kernel) (pa_cons (pv 4) pa_nil)) (pv 2) (by rfl)))))
 (pss_one ps_never)
 pss_nil)
 (pss_one (ps_expr (pe_bm PySem.F.plainAttrs_list PySem.F.slot_list_append PySem.F.type_list_append mt_append (pv 2) (pa_cons (pe_callTy call_tuple_of (by rfl) T.b_tuple (by decide +kernel) (pa_cons (pv 4) pa_nil)) pa_nil))))))
 (pss_one (ps_ret (pe_callTy call_tuple_of (by rfl) T.b_tuple (by decide +kernel) (pa_cons (pe_callB (cr_sortedDD hu65) (by rfl) T.b_sorted (by decide +kernel) (pa_cons (pv 2) pa_nil)) pa_nil)))))), ?_⟩
  refine ⟨Nat.zero_le _, fun o no => ?_⟩
  have s1 : Same H (upd H o (.lst [])) := same_upd no
  refine ⟨_, rfl, a, xs, rfl, s1.seq hS, for_enum (K := K) (a := a) (xs := xs) (fun i σ H2 => ∃ v3 v4, σ = [some (.str z), some (.ref a), some (.ref o), v3, v4] ∧ Same H H2 ∧ H2 o = some (.lst (xs.take i)))
    ⟨none, none, rfl, s1, upd_same⟩ (fun i σ H2 _ ⟨_, _, _, s2, _⟩ => s2.seq hS) ?_ ?_⟩
  · rintro i x σ H2 t hi nt ⟨v3, v4, rfl, s2, ho⟩
    have s3 : Same H2 (upd H2 t (.tup [.int (i : Nat), x])) := same_upd nt
    refine ⟨t, _, rfl, SqT.of upd_same, rfl, _, _, rfl, _, _, rfl, rfl, ?_⟩
    obtain ⟨k, hk, hik⟩ := AllK.get hK hi
    have hkm : k ∈ ks := List.mem_of_getElem? hk
    have hil : i < xs.length := (List.getElem?_eq_some_iff.mp hi).1
    -- is_kind(kind)
    refine ⟨_, rfl, x, k, rfl, (hik.same s2).same s3, (hgood k hkm).1, (hgood k hkm).2, fun H4 s4 => ⟨_, rfl, ?_⟩⟩
    refine iteF ?_
    have sA : Same H H4 := (s2.trans s3).trans s4
    have ho4 : H4 o = some (.lst (xs.take i)) := s4 _ _ (s3 _ _ ho)
    have hx := hik.same sA
    have hxd : Dp K H4 x (kdD k) := hx.dp
    obtain ⟨b, rfl, hb⟩ := hx
    -- tuple(kind) in found
    refine ⟨_, rfl, b, _, rfl, .inr ⟨SqT.of hb, _, rfl, kdD k, (ks.take i).map kdD, hxd, .lst (SqL.of ho4) (AllK.dp (AllK.take i (AllK.same sA hK))), kd_shaped k, kds_shapedL _, _, rfl, ?_⟩⟩
    rw [kd_any]
    have hni : ¬ k ∈ ks.take i := fun hm => by
      obtain ⟨j, hj⟩ := List.mem_iff_getElem?.mp hm
      have hji : j < i := by
        have := (List.getElem?_eq_some_iff.mp hj).1
        rw [List.length_take] at this
        omega
      rw [List.getElem?_take_of_lt hji] at hj
      have := nd_ix hnd hj hk
      omega
    rw [decide_eq_false hni]
    refine iteF ?_
    -- found.append(tuple(kind))
    refine ⟨_, rfl, .inl ⟨rfl, _, SqL.of ho4⟩, _, rfl, b, _, rfl, .inr ⟨SqT.of hb, o, _, _, rfl, rfl, ho4, ?_, ?_⟩⟩
    · rw [List.length_take]
      have := AllK.len hK
      exact Nat.lt_of_le_of_lt (Nat.min_le_left _ _) (small1000 (by omega))
    · refine ⟨_, _, rfl, fun c u e => ?_, ?_⟩
      · rw [upd_ne (ne_of_none e no)]
        exact sA _ _ e
      · rw [upd_same, take_next hi]
  · rintro σ H2 ⟨v3, v4, rfl, s2, ho⟩
    rw [List.take_length] at ho
    have hK2 := AllK.same s2 hK
    refine ⟨_, rfl, o, xs, ks.map kdD, rfl, SqL.of ho, AllK.dp hK2, alike_k ks, sortable_k ks, depth_k ks, fun p hp => ⟨p, _, rfl, .inl ⟨SqL.of upd_same, fun l hl => ?_⟩⟩⟩
    obtain ⟨js, hj, hm⟩ := sort_k hK2
    have s3 : Same H2 (upd H2 p (.lst ((sortPairs xs (ks.map kdD)).map Prod.fst))) := same_upd hp
    have s4 := same_upd (o := .tup ((sortPairs xs (ks.map kdD)).map Prod.fst)) hl
    exact q _ l _ js ((s2.trans s3).trans s4) (s2.free (s3.free hl)) upd_same (AllK.same s4 (AllK.same s3 hj)) hm
/-! ### Rule -/
theorem ro : ¬ (("root" : Str) = "others") := by decide +kernel
def flds (p1 p2 : Addr) : List (Str × V) := putF "others" (.ref p2) (putF "root" (.ref p1) [])
theorem flds_root (p1 p2 : Addr) : (flds p1 p2).lookup ("root" : Str) = some (.ref p1) := by
  unfold flds
  rw [lookup_putF, if_neg ro, lookup_putF, if_pos rfl]
theorem flds_others (p1 p2 : Addr) : (flds p1 p2).lookup ("others" : Str) = some (.ref p2) := by
  unfold flds
  rw [lookup_putF, if_pos rfl]
def RuleAt (C : Addr) (H : Hp) (p : Addr) (js1 js2 : List Kd) : Prop := ∃ (dx p1 p2 : Addr) (ys1 ys2 : List V), H p = some (.ins C dx (flds p1 p2)) ∧ H p1 = some (.tup ys1) ∧ H p2 = some (.tup ys2) ∧ AllK H ys1 js1 ∧ AllK H ys2 js2
theorem RuleAt.same {C : Addr} {H H' : Hp} {p : Addr} {js1 js2 : List Kd} (s : Same H H') (h : RuleAt C H p js1 js2) : RuleAt C H' p js1 js2 := by
  obtain ⟨dx, p1, p2, ys1, ys2, h1, h2, h3, h4, h5⟩ := h
  exact ⟨dx, p1, p2, ys1, ys2, s _ _ h1, s _ _ h2, s _ _ h3, AllK.same s h4, AllK.same s h5⟩
def spInit (K : PySem.W.Frag) (C : Addr) : Sp := fun vs H Q _ => ∃ (p dx a b : Addr) (xs zs : List V) (ks ls : List Kd), vs = [.ref p, .ref a, .ref b] ∧ H p = some (.ins C dx []) ∧ SqL K H a xs ∧ SqL K H b zs ∧ AllK H xs ks ∧ AllK H zs ls ∧ GoodK ks ∧ GoodK ls ∧
  ∀ (H' : Hp) (js1 js2 : List Kd), Kp p H H' → RuleAt C H' p js1 js2 → Eqv js1 ks → Eqv js2 ls → Q .non H'
theorem ok_Rule_init (T : Tx K mg) : FnOk P w K mg base CX0 3 T.a_Rule_init T.fd_Rule_init ["self", "root", "others"] (spInit K T.c_Rule) := by
  refine T.F_Rule_init.ok sc_Rule_init (fun vs H Q E h => ?_) (fun cdv A outer s H vs Q E hr h => ?_)
  · obtain ⟨p, dx, a, b, xs, zs, ks, ls, rfl, _⟩ := h
    rfl
  have hu := hu_of hr
  obtain ⟨p, dx, a, b, xs, zs, ks, ls, rfl, hp, hx, hz, kx, kz, g1, g2, q⟩ := h
  refine ⟨_, (pss_cons (ps_fld (pv 0) (pe_call (ok_kinds_of T) (hr.mono (by decide)) (by rfl) T.m_kinds_of T.F_kinds_of.kp T.bi_kinds_of .nil pass0 (pa_cons pe_str (pa_cons (pv 1) pa_nil))) rfl)
 (pss_one (ps_fld (pv 0) (pe_call (ok_kinds_of T) (hr.mono (by decide)) (by rfl) T.m_kinds_of T.F_kinds_of.kp T.bi_kinds_of .nil pass0 (pa_cons pe_str (pa_cons (pv 2) pa_nil))) rfl))), ?_⟩
  refine ⟨_, rfl, _, a, xs, ks, rfl, hx, kx, g1, fun H1 p1 ys1 js1 s1 n1 h1 k1 m1 => ?_⟩
  refine ⟨_, rfl, p, T.c_Rule, dx, [], rfl, s1 _ _ hp, T.cl_Rule, T.na_Rule_root, (by show 0 < 1000; decide), ?_⟩
  have kp1 : Kp p H1 (upd H1 p (.ins T.c_Rule dx (putF "root" (.ref p1) []))) := kp_put
  have hp2 : (upd H1 p (.ins T.c_Rule dx (putF "root" (.ref p1) []))) p = some (.ins T.c_Rule dx (putF "root" (.ref p1) [])) := upd_same
  have tk : ∀ {H2 H3 : Hp}, Kp p H2 H3 → (∃ c e f, H2 p = some (.ins c e f)) → ∀ v k, IsK H2 v k → IsK H3 v k := fun kp ⟨_, _, _, e⟩ v k ⟨t, e1, e2⟩ => ⟨t, e1, kp _ _ e2 (ne_of e2 e (by intro z; cases z))⟩
  have lk : ∀ {H2 H3 : Hp} {b zs}, Kp p H2 H3 → (∃ c e f, H2 p = some (.ins c e f)) → SqL K H2 b zs → SqL K H3 b zs := fun kp ⟨_, _, _, e⟩ h => by
    rcases h with (h | ⟨o, h⟩) | h
    · exact .inl (.inl (kp _ _ h (ne_of h e (by intro z; cases z))))
    · exact .inl (.inr ⟨o, kp _ _ h (ne_of h e (by intro z; cases z))⟩)
    · exact .inr h
  have e1 : ∃ c e f, H1 p = some (.ins c e f) := ⟨_, _, _, s1 _ _ hp⟩
  have ne1 : p1 ≠ p := ne_of h1 (s1 _ _ hp) (by intro z; cases z)
  generalize upd H1 p (.ins T.c_Rule dx (putF "root" (.ref p1) [])) = H2 at kp1 hp2 ⊢
  refine ⟨_, rfl, _, b, zs, ls, rfl, lk kp1 e1 (s1.seq hz), AllK.mono (tk kp1 e1) (AllK.same s1 kz), g2, fun H3 p2 ys2 js2 s3 n3 h3 k3 m3 => ?_⟩
  refine ⟨_, rfl, p, T.c_Rule, dx, _, rfl, s3 _ _ hp2, T.cl_Rule, T.na_Rule_others, (by show 1 < 1000; decide), ?_⟩
  have kp3 : Kp p H3 (upd H3 p (.ins T.c_Rule dx (flds p1 p2))) := kp_put
  have e3 : ∃ c e f, H3 p = some (.ins c e f) := ⟨_, _, _, s3 _ _ hp2⟩
  have ne2 : p2 ≠ p := ne_of h3 (s3 _ _ hp2) (by intro z; cases z)
  refine q _ js1 js2 (((Same.kp s1).trans kp1).trans ((Same.kp s3).trans kp3)) ⟨dx, p1, p2, ys1, ys2, upd_same, ?_, ?_, ?_, ?_⟩ m1 m3
  · exact kp3 _ _ (s3 _ _ (kp1 _ _ h1 ne1)) ne1
  · exact kp3 _ _ h3 ne2
  · exact AllK.mono (tk kp3 e3) (AllK.same s3 (AllK.mono (tk kp1 e1) k1))
  · exact AllK.mono (tk kp3 e3) k3
end
theorem cut_drop (xs : List V) (c : Nat) : cutV xs (some (c : Int)) none = xs.drop c := by
  unfold cutV
  rw [HT.sIx_nat, HT.sIx_none]
  by_cases h : c ≤ xs.length
  · rw [Nat.min_eq_left h]
    apply List.take_of_length_le
    rw [List.length_drop]
    exact Nat.le_refl _
  · rw [Nat.min_eq_right (by omega), List.drop_of_length_le (Nat.le_refl _), List.drop_of_length_le (by omega)]
    simp
theorem cut_take (xs : List V) (c : Nat) : cutV xs none (some (c : Int)) = xs.take c := by
  unfold cutV
  rw [HT.sIx_nat, HT.sIx_none]
  show (xs.drop 0).take (min c xs.length - 0) = xs.take c
  rw [List.drop_zero, Nat.sub_zero]
  by_cases h : c ≤ xs.length
  · rw [Nat.min_eq_left h]
  · rw [Nat.min_eq_right (by omega), List.take_of_length_le (Nat.le_refl _), List.take_of_length_le (by omega)]
theorem kp_upd {d p : Addr} {H H' : Hp} {o : HO} (h : Kp d H H') (n : H p = none) : Kp d H (upd H' p o) := fun b u e nb => by
  rw [upd_ne (ne_of_none e n)]
  exact h b u e nb
theorem IsK.put {H : Hp} {D : Addr} {xs ys : List V} {v : V} {k : Kd} (h : H D = some (.lst xs)) (hk : IsK H v k) : IsK (upd H D (.lst ys)) v k := by
  obtain ⟨t, rfl, e⟩ := hk
  exact ⟨t, rfl, by rw [upd_ne (ne_of e h (by intro z; cases z))]; exact e⟩
def spPenOf (K : PySem.W.Frag) : Sp := fun vs H Q _ => ∃ (a : Addr) (ns : List Int), vs = [.ref a] ∧ SqL K H a (ns.map V.int) ∧ ∀ (H' : Hp) (d c : Addr), Same H H' → Pen H' d c 0 → Q (.ref d) H'
section
variable {P : Program} {w : World} {K : PySem.W.Frag} {mg : Str → Option Value} {base : Heap}
theorem ok_l_pen_of (T : Tx K mg) : FnOk P w K mg base CX0 1 T.a_l_pen_of T.fd_l_pen_of ["_law_script"] (spPenOf K) := by
  refine T.F_l_pen_of.ok sc_l_pen_of (fun vs H Q E h => ?_) (fun cdv A outer s H vs Q E hr h => ?_)
  · obtain ⟨a, ns, rfl, _⟩ := h
    rfl
  obtain ⟨a, ns, rfl, hS, q⟩ := h
  refine ⟨_, (pss_one (ps_ret (pe_disp (pps_cons pe_str (pe_callTy call_list_of (by rfl) T.b_list (by decide +kernel) (pa_cons (pe_slice sl_list (pv 0) po_none (po_some pe_int)) pa_nil)) (pps_cons pe_str pe_int (pps_cons pe_str pe_int pps_nil))) (by rfl) (by rfl) (fun z => by cases z) (by decide)))), ?_⟩
  intro p hp
  have s1 : Same H (upd H p (.dK [])) := same_upd hp
  refine ⟨_, rfl, _, rfl, a, _, rfl, s1.seq hS, fun c hc => ?_⟩
  have s2 : Same (upd H p (.dK [])) _ := same_upd (o := .lst (cutV (ns.map V.int) none (some 63))) hc
  refine ⟨c, _, rfl, .inl (SqL.of upd_same), fun l hl => ?_⟩
  have s3 : Same (upd (upd H p (.dK [])) c (.lst (cutV (ns.map V.int) none (some 63)))) _ := same_upd (o := .lst (cutV (ns.map V.int) none (some 63))) hl
  have sA := (s1.trans s2).trans s3
  refine ⟨s3 _ _ (s2 _ _ upd_same), penL l 0 0, rfl, by show 3 ≤ 15; decide, ?_⟩
  have e : mergeK [] (penL l 0 0) = penL l 0 0 := by
    show putK (putK (putK ([] : List (Key × V)) (.inr "cells") (.ref l)) (.inr "next") (.int 0)) (.inr "left") (.int 0) = _
    rw [show putK ([] : List (Key × V)) (.inr "cells") (.ref l) = [(.inr "cells", .ref l)] from rfl, putK_new _ ((valV_neg (ki k12)).trans valV_nil)]
    exact putK_new _ (show valV ([(.inr "cells", .ref l), (.inr "next", .int 0)] : List (Key × V)) (.inr "left") = none from (valV_neg (ki k13)).trans ((valV_neg (ki k23)).trans valV_nil))
  rw [e]
  have npl : p ≠ l := fun z => by
    subst z
    rw [s2 _ _ upd_same] at hl
    cases hl
  refine q _ p l (fun b o hb => ?_) ⟨ns.take 63, 0, 0, upd_same, ?_, Int.le_refl _, Int.le_refl _, Int.le_refl _⟩
  · rw [upd_ne (ne_of_none hb hp)]
    exact sA _ _ hb
  · rw [upd_ne npl.symm, upd_same, show cutV (ns.map V.int) none (some 63) = (ns.map V.int).take 63 from cut_take _ 63, List.map_take]
def spPick (K : PySem.W.Frag) : Sp := fun vs H Q _ => ∃ (d c a : Addr) (n : Nat) (xs : List V), vs = [.ref d, .ref a] ∧ Pen H d c n ∧ n ≤ 100000 ∧ H a = some (.lst xs) ∧ 0 < xs.length ∧ xs.length ≤ 1000 ∧
  ∀ (H' : Hp) (x : V), x ∈ xs → Kp d H H' → Pen H' d c (n + 1) → Q x H'
theorem at_mem {xs : List V} {r : Int} (h0 : 0 ≤ r) (h1 : r < (xs.length : Int)) : ∃ x, atI xs r = some x ∧ x ∈ xs := by
  have h3 : r.toNat < xs.length := by omega
  exact ⟨xs[r.toNat], at_of (j := r.toNat) (by omega) (List.getElem?_eq_getElem h3), List.getElem_mem h3⟩
theorem ok_l_pick (T : Tx K mg) : FnOk P w K mg base CX0 2 T.a_l_pick T.fd_l_pick ["_law_pen", "_law_items"] (spPick K) := by
  refine T.F_l_pick.ok sc_l_pick (fun vs H Q E h => ?_) (fun cdv A outer s H vs Q E hr h => ?_)
  · obtain ⟨d, c, a, n, xs, rfl, _⟩ := h
    rfl
  obtain ⟨d, c, a, n, xs, rfl, hp, hn, ha, hx, hx2, q⟩ := h
  refine ⟨_, (pss_one (ps_ret (pe_ix ix_list (pv 1) (pe_call (ok_l_draw T) (hr.mono (by decide)) (by rfl) T.m_l_draw T.F_l_draw.kp T.bi_l_draw .nil pass0 (pa_cons (pv 0) (pa_cons (pe_callB call_len_seq (by rfl) T.b_len (by decide +kernel) (pa_cons (pv 1) pa_nil)) pa_nil))) (fun _ _ => rfl)))), ?_⟩
  refine ⟨_, rfl, _, rfl, _, rfl, a, xs, rfl, .inl (SqL.of ha), d, c, n, _, rfl, hp, hn, by omega, by omega, fun H1 r r0 r1 kp p1 => ?_⟩
  obtain ⟨kvs, hd⟩ := hp.at
  obtain ⟨x, e, hm⟩ := at_mem r0 r1
  exact ⟨a, xs, r, x, rfl, rfl, SqL.of (kp _ _ ha (ne_of ha hd (by intro z; cases z))), e, q _ x hm kp p1⟩
end
theorem good_perm {ks js : List Kd} (h : js.Perm ks) (g : GoodK ks) : GoodK js := ⟨h.nodup_iff.mpr g.1, fun k hk => g.2.1 k (h.mem_iff.mp hk), by rw [h.length_eq]; exact g.2.2⟩
theorem good_sub {ks js : List Kd} (h : js.Sublist ks) (g : GoodK ks) : GoodK js := ⟨h.nodup g.1, fun k hk => g.2.1 k (h.subset hk), Nat.le_trans h.length_le g.2.2⟩
theorem sub_next {α : Type} {js xs : List α} {i : Nat} {k : α} (h : js.Sublist (xs.take i)) (hk : xs[i]? = some k) : (js ++ [k]).Sublist (xs.take (i + 1)) := by
  rw [← take_next hk]
  exact h.append (List.Sublist.refl _)
theorem sub_stay {α : Type} {js xs : List α} {i : Nat} {k : α} (h : js.Sublist (xs.take i)) (hk : xs[i]? = some k) : js.Sublist (xs.take (i + 1)) := by
  rw [← take_next hk]
  exact h.trans (List.sublist_append_left _ _)
theorem AllK.kp {H H' : Hp} {d : Addr} {vs : List V} {ks : List Kd} (s : Kp d H H') (hd : ∃ kvs, H d = some (.dK kvs)) (h : AllK H vs ks) : AllK H' vs ks := AllK.mono (fun _ _ => IsK.kp s hd) h
theorem AllK.put {H : Hp} {D : Addr} {xs ys : List V} {vs : List V} {ks : List Kd} (h : H D = some (.lst xs)) (a : AllK H vs ks) : AllK (upd H D (.lst ys)) vs ks := AllK.mono (fun _ _ => IsK.put h) a
theorem lst_kp {H H' : Hp} {d o : Addr} {xs : List V} (s : Kp d H H') (hd : ∃ kvs, H d = some (.dK kvs)) (h : H o = some (.lst xs)) : H' o = some (.lst xs) := by
  obtain ⟨kvs, hd⟩ := hd
  exact s _ _ h (ne_of h hd (by intro z; cases z))
theorem Pen.ne_free {H : Hp} {d c p : Addr} {n : Nat} (h : Pen H d c n) (hp : H p = none) : p ≠ d := by
  obtain ⟨kvs, e⟩ := h.at
  exact (ne_of_none e hp).symm
/-- the pen stays where an object changes that was not there ahead of H0 -/
theorem Pen.put {H0 H : Hp} {d c D : Addr} {n m : Nat} {o : HO} (h0 : Pen H0 d c m) (nD : H0 D = none) (h : Pen H d c n) : Pen (upd H D o) d c n := by
  obtain ⟨ns, b, l, a1, a2, a3⟩ := h
  obtain ⟨ns0, b0, l0, a01, a02, _⟩ := h0
  exact ⟨ns, b, l, by rw [upd_ne (ne_of_none a01 nD)]; exact a1, by rw [upd_ne (ne_of_none a02 nD)]; exact a2, a3⟩
theorem dec_int {x y : Int} : decide (V.int x = V.int y) = decide (x = y) := by
  by_cases h : x = y
  · subst h; simp
  · have : ¬ V.int x = V.int y := fun e => h (V.int.inj e)
    simp [h, this]
end Toy
set_option Elab.async false
set_option linter.all false
set_option maxRecDepth 100000
set_option maxHeartbeats 4000000
namespace Toy
open PySem L2 Sh
/-! ### plans, cells, sums: the data -/
inductive Go where | clash | kept | bare | base
  deriving DecidableEq
inductive Al where | take | clash
  deriving DecidableEq
inductive Un where | clash | one | other
  deriving DecidableEq
inductive Oc where | none | tree | rule | words | clash | right | one | other | on
  deriving DecidableEq
def Go.s : Go → Str
  | .clash => "clash" | .kept => "kept" | .bare => "bare" | .base => "base"
def Al.s : Al → Str
  | .take => "take" | .clash => "clash"
def Un.s : Un → Str
  | .clash => "clash" | .one => "one" | .other => "other"
def Oc.s : Oc → Str
  | .none => "none" | .tree => "tree" | .rule => "rule" | .words => "words" | .clash => "clash" | .right => "right" | .one => "one" | .other => "other" | .on => "on"
theorem go_eq (a b : Go) : decide (V.str a.s = V.str b.s) = decide (a = b) := by cases a <;> cases b <;> decide +kernel
theorem al_eq (a b : Al) : decide (V.str a.s = V.str b.s) = decide (a = b) := by cases a <;> cases b <;> decide +kernel
theorem un_eq (a b : Un) : decide (V.str a.s = V.str b.s) = decide (a = b) := by cases a <;> cases b <;> decide +kernel
theorem oc_eq (a b : Oc) : decide (V.str a.s = V.str b.s) = decide (a = b) := by cases a <;> cases b <;> decide +kernel
abbrev OI := Option Int
def ovV : OI → V
  | none => .non
  | some i => .int i
theorem ov_inj {a b : OI} (h : ovV a = ovV b) : a = b := by
  cases a <;> cases b <;> simp_all [ovV]
theorem ov_eq (a b : OI) : decide (ovV a = ovV b) = decide (a = b) := by
  by_cases h : a = b
  · subst h; simp
  · have : ¬ ovV a = ovV b := fun e => h (ov_inj e)
    simp [h, this]
theorem ov_scal (a b : OI) : scal (ovV a) (ovV b) = true := by cases a <;> cases b <;> rfl
theorem ov_non (a : OI) : decide (ovV a = V.non) = decide (a = none) := by cases a <;> simp [ovV]
abbrev Cl := OI × Bool
/-- a cell, or a missing one -/
def IsC (H : Hp) (v : V) : Option Cl → Prop
  | none => v = .non
  | some c => ∃ t, v = .ref t ∧ H t = some (.tup [ovV c.1, .bl c.2])
theorem IsC.same {H H' : Hp} {v : V} {c : Option Cl} (s : Same H H') (h : IsC H v c) : IsC H' v c := by
  cases c with
  | none => exact h
  | some k =>
    obtain ⟨t, rfl, e⟩ := h
    exact ⟨t, rfl, s _ _ e⟩
theorem IsC.non {H : Hp} {v : V} {c : Option Cl} (h : IsC H v c) : decide (v = V.non) = decide (c = none) := by
  cases c with
  | none => cases (show v = .non from h); rfl
  | some k =>
    obtain ⟨t, rfl, e⟩ := h
    simp
def ovD : OI → PyData
  | none => .none
  | some i => .int i
def clD : Option Cl → PyData
  | none => .none
  | some c => .tuple [ovD c.1, .bool c.2]
theorem ov_dp {K : PySem.W.Frag} {H : Hp} (a : OI) : Dp K H (ovV a) (ovD a) := by
  cases a with
  | none => exact .non
  | some i => exact .int i
theorem IsC.dp {K : PySem.W.Frag} {H : Hp} {v : V} {c : Option Cl} (h : IsC H v c) : Dp K H v (clD c) := by
  cases c with
  | none => cases (show v = .non from h); exact .non
  | some k =>
    obtain ⟨t, rfl, e⟩ := h
    exact .tup (SqT.of e) (.cons (ov_dp _) (.cons (.bl _) .nil))
theorem ovD_eqv (a b : OI) : PyData.eqv (ovD a) (ovD b) = decide (a = b) := by
  cases a <;> cases b <;> simp [ovD, PyData.eqv, Bool.beq_eq_decide_eq]
theorem clD_eqv (a b : Option Cl) : PyData.eqv (clD a) (clD b) = decide (a = b) := by
  cases a with
  | none => cases b with
    | none => simp [clD, PyData.eqv]
    | some d => simp [clD, PyData.eqv]
  | some c => cases b with
    | none => simp [clD, PyData.eqv]
    | some d =>
      obtain ⟨c1, c2⟩ := c
      obtain ⟨d1, d2⟩ := d
      simp only [clD, PyData.eqv, PyData.eqvAll, ovD_eqv]
      by_cases h : c1 = d1 <;> cases c2 <;> cases d2 <;> simp [h]
theorem ovD_lay (a : OI) : (ovD a).canLay0 = true ∧ (ovD a).depth = 0 := by cases a <;> exact ⟨rfl, rfl⟩
theorem clD_shaped (c : Option Cl) : SeqAt.shaped (clD c) = true := by
  cases c with
  | none => rfl
  | some k =>
    obtain ⟨k1, k2⟩ := k
    cases k1 <;> rfl
structure Tot where
  n0 : Int
  n1 : Int
  n2 : Int
  n3 : Int
  b4 : Bool
  b5 : Bool
  b6 : Bool
  b7 : Bool
  b8 : Bool
  w : Oc
structure Cas where
  c0 : Bool
  c1 : Bool
  c2 : Bool
  c3 : Bool
  c4 : Bool
  c5 : Bool
  c6 : Bool
  c7 : Bool
  o : Oc
def Tot.L (t : Tot) : List V := [.int t.n0, .int t.n1, .int t.n2, .int t.n3, .bl t.b4, .bl t.b5, .bl t.b6, .bl t.b7, .bl t.b8, .str t.w.s]
def Cas.L (c : Cas) : List V := [.bl c.c0, .bl c.c1, .bl c.c2, .bl c.c3, .bl c.c4, .bl c.c5, .bl c.c6, .bl c.c7, .str c.o.s]
def IsT (H : Hp) (v : V) (t : Tot) : Prop := ∃ a, v = .ref a ∧ H a = some (.tup t.L)
def IsS (H : Hp) (v : V) (c : Cas) : Prop := ∃ a, v = .ref a ∧ H a = some (.tup c.L)
theorem IsT.same {H H' : Hp} {v : V} {t : Tot} (s : Same H H') (h : IsT H v t) : IsT H' v t := let ⟨a, e, q⟩ := h; ⟨a, e, s _ _ q⟩
theorem IsS.same {H H' : Hp} {v : V} {t : Cas} (s : Same H H') (h : IsS H v t) : IsS H' v t := let ⟨a, e, q⟩ := h; ⟨a, e, s _ _ q⟩
/-! flags: by root, kept, children -/
abbrev Fl := Bool → Bool → Int → Bool
def keys12 : List (Bool × Bool × Int) := [(true, true, 0), (true, true, 1), (true, true, 2), (true, false, 0), (true, false, 1), (true, false, 2), (false, true, 0), (false, true, 1), (false, true, 2), (false, false, 0), (false, false, 1), (false, false, 2)]
def nk3 (k : Bool × Bool × Int) : NestedKey := .tup [.num (if k.1 = true then 1 else 0), .num (if k.2.1 = true then 1 else 0), .num k.2.2]
def kv12 (f : Fl) : List (NestedKey × V) := keys12.map fun k => (nk3 k, .bl (f k.1 k.2.1 k.2.2))
theorem nk3_inj {a b : Bool × Bool × Int} (h : nk3 a = nk3 b) : a = b := by
  obtain ⟨a1, a2, a3⟩ := a
  obtain ⟨b1, b2, b3⟩ := b
  simp only [nk3, NestedKey.tup.injEq, List.cons.injEq, NestedKey.num.injEq] at h
  obtain ⟨h1, h2, h3, _⟩ := h
  cases a1 <;> cases a2 <;> cases b1 <;> cases b2 <;> simp_all
theorem val_map (f : Fl) : ∀ (l : List (Bool × Bool × Int)) (k : Bool × Bool × Int), k ∈ l → valV (l.map fun k => (nk3 k, V.bl (f k.1 k.2.1 k.2.2))) (nk3 k) = some (.bl (f k.1 k.2.1 k.2.2))
  | a :: l, k, h => by
    rw [List.map_cons]
    by_cases e : a = k
    · subst e
      exact valV_pos rfl
    · rw [valV_neg (fun z => e (nk3_inj z))]
      exact val_map f l k (by rcases List.mem_cons.mp h with rfl | h; exact absurd rfl e; exact h)
theorem mem12 {r k : Bool} {n : Int} (h0 : 0 ≤ n) (h2 : n ≤ 2) : (r, k, n) ∈ keys12 := by
  have : n = 0 ∨ n = 1 ∨ n = 2 := by omega
  rcases this with rfl | rfl | rfl <;> cases r <;> cases k <;> decide
theorem val12 (f : Fl) {r k : Bool} {n : Int} (h0 : 0 ≤ n) (h2 : n ≤ 2) : valV (kv12 f) (nk3 (r, k, n)) = some (.bl (f r k n)) := val_map f keys12 (r, k, n) (mem12 h0 h2)
theorem key3 {K : PySem.W.Frag} {H : Hp} {b : Addr} {r k : Bool} {n : Int} (h : SqT K H b [.bl r, .bl k, .int n]) : KeyAt K H (nk3 (r, k, n)) b := ⟨_, h, rfl, rfl⟩
structure Pl where
  go : Go
  al : Al
  un : Un
  ti : Bool
  fl : Option Fl
end Toy
set_option Elab.async false
set_option linter.all false
set_option maxRecDepth 100000
set_option maxHeartbeats 4000000
namespace Toy
open PySem L2 Sh
theorem iteD {c A B : Prop} [Decidable c] (hA : c → A) (hB : ¬ c → B) : if decide c = true then A else B := ite2 (fun h => hA (of_decide_eq_true h)) fun h => hB fun z => h (decide_eq_true z)
theorem iteN {c A B : Prop} [Decidable c] (hA : ¬ c → A) (hB : c → B) : if (!decide c) = true then A else B := by
  by_cases h : c
  · rw [decide_eq_true h]
    exact iteF (hB h)
  · rw [decide_eq_false h]
    exact iteT (hA h)
theorem IsC.iff {H : Hp} {v : V} {c : Option Cl} (h : IsC H v c) : v = V.non ↔ c = none := by
  have := h.non
  simpa using this
theorem ov_iff (a : OI) : ovV a = V.non ↔ a = none := by cases a <;> simp [ovV]
theorem oveq_iff (a b : OI) : ovV a = ovV b ↔ a = b := ⟨ov_inj, fun h => by rw [h]⟩
/-! ### Plan -/
def pflds (pl : Pl) (v : V) : List (Str × V) := putF "by_kind" v (putF "tidy" (.bl pl.ti) (putF "unlike" (.str pl.un.s) (putF "alike" (.str pl.al.s) (putF "gone" (.str pl.go.s) []))))
theorem pf_kind (pl : Pl) (v : V) : (pflds pl v).lookup ("by_kind" : Str) = some v := by
  unfold pflds
  rw [lookup_putF, if_pos rfl]
theorem pf_tidy (pl : Pl) (v : V) : (pflds pl v).lookup ("tidy" : Str) = some (.bl pl.ti) := by
  unfold pflds
  rw [lookup_putF, if_neg (by decide +kernel), lookup_putF, if_pos rfl]
theorem pf_unlike (pl : Pl) (v : V) : (pflds pl v).lookup ("unlike" : Str) = some (.str pl.un.s) := by
  unfold pflds
  rw [lookup_putF, if_neg (by decide +kernel), lookup_putF, if_neg (by decide +kernel), lookup_putF, if_pos rfl]
theorem pf_alike (pl : Pl) (v : V) : (pflds pl v).lookup ("alike" : Str) = some (.str pl.al.s) := by
  unfold pflds
  rw [lookup_putF, if_neg (by decide +kernel), lookup_putF, if_neg (by decide +kernel), lookup_putF, if_neg (by decide +kernel), lookup_putF, if_pos rfl]
theorem pf_gone (pl : Pl) (v : V) : (pflds pl v).lookup ("gone" : Str) = some (.str pl.go.s) := by
  unfold pflds
  rw [lookup_putF, if_neg (by decide +kernel), lookup_putF, if_neg (by decide +kernel), lookup_putF, if_neg (by decide +kernel), lookup_putF, if_neg (by decide +kernel), lookup_putF, if_pos rfl]
def FlAt (P : Program) (w : World) (K : PySem.W.Frag) (H : Hp) (v : V) : Option Fl → Prop
  | none => v = .non
  | some f => ∃ d, v = .ref d ∧ DN P w K H d (kv12 f)
def PlanAt (P : Program) (w : World) (K : PySem.W.Frag) (C : Addr) (H : Hp) (p : Addr) (pl : Pl) : Prop := ∃ dx v, H p = some (.ins C dx (pflds pl v)) ∧ FlAt P w K H v pl.fl
theorem DN.same {P : Program} {w : World} {K : PySem.W.Frag} {H H' : Hp} {a : Addr} {kvs : List (NestedKey × V)} (s : Same H H') (h : DN P w K H a kvs) : DN P w K H' a kvs := by
  obtain ⟨xs, h1, h2, h3⟩ := h
  refine ⟨xs, s _ _ h1, h2, fun x hx => (h3 x hx).mono fun c u r => ?_⟩
  rcases r with r | ⟨o, r⟩
  · exact .inl (s _ _ r)
  · exact .inr ⟨o, s _ _ r⟩
theorem FlAt.same {P : Program} {w : World} {K : PySem.W.Frag} {H H' : Hp} {v : V} {f : Option Fl} (s : Same H H') (h : FlAt P w K H v f) : FlAt P w K H' v f := by
  cases f with
  | none => exact h
  | some f =>
    obtain ⟨d, e, h⟩ := h
    exact ⟨d, e, DN.same s h⟩
theorem PlanAt.same {P : Program} {w : World} {K : PySem.W.Frag} {C : Addr} {H H' : Hp} {p : Addr} {pl : Pl} (s : Same H H') (h : PlanAt P w K C H p pl) : PlanAt P w K C H' p pl := by
  obtain ⟨dx, v, h1, h2⟩ := h
  exact ⟨dx, v, s _ _ h1, h2.same s⟩
/-! ### way_of -/
def wayM (pl : Pl) (b o t : OI) : Oc :=
  if o = b then (if t = none then .none else .other)
  else if t = b then (if o = none then .none else .one)
  else if o = none ∧ t = none then (if pl.al = .clash then .clash else .none)
  else if b ≠ none ∧ (o = none ∨ t = none) then (if pl.go = .clash then .clash else if pl.go = .kept then (if o = none then .other else .one) else .on)
  else .on
def spWay (P : Program) (w : World) (K : PySem.W.Frag) (C : Addr) : Sp := fun vs H Q _ => ∃ (p : Addr) (pl : Pl) (b o t : OI), vs = [.ref p, ovV b, ovV o, ovV t] ∧ PlanAt P w K C H p pl ∧ Q (.str (wayM pl b o t).s) H
theorem al_clash (a : Al) : V.str a.s = V.str "clash" ↔ a = .clash := by cases a <;> decide +kernel
theorem go_clash (a : Go) : V.str a.s = V.str "clash" ↔ a = .clash := by cases a <;> decide +kernel
theorem go_kept (a : Go) : V.str a.s = V.str "kept" ↔ a = .kept := by cases a <;> decide +kernel
theorem go_base (a : Go) : V.str a.s = V.str "base" ↔ a = .base := by cases a <;> decide +kernel
theorem un_clash (a : Un) : V.str a.s = V.str "clash" ↔ a = .clash := by cases a <;> decide +kernel
theorem un_one (a : Un) : V.str a.s = V.str "one" ↔ a = .one := by cases a <;> decide +kernel
section
variable {P : Program} {w : World} {K : PySem.W.Frag} {mg : Str → Option Value} {base : Heap}
theorem ok_way_of (T : Tx K mg) : FnOk P w K mg base CX0 1 T.a_way_of T.fd_way_of ["plan", "base", "one", "other"] (spWay P w K T.c_Plan) := by
  refine T.F_way_of.ok sc_way_of (fun vs H Q E h => ?_) (fun cdv A outer s H vs Q E hr h => ?_)
  · obtain ⟨p, pl, b, o, t, rfl, _⟩ := h
    rfl
  obtain ⟨p, pl, b, o, t, rfl, ⟨dx, fv, hp, _⟩, q⟩ := h
  refine ⟨_, (pss_cons (ps_if (pt_cmpR op_eq (pv 2) (pv 1) (nomark _))
 (pss_one (ps_ret (pe_ifExp (pt_cmpR op_isN (pv 3) pe_non (nomark _)) pe_str pe_str)))
 pss_nil)
 (pss_cons (ps_if (pt_cmpR op_eq (pv 3) (pv 1) (nomark _))
 (pss_one (ps_ret (pe_ifExp (pt_cmpR op_isN (pv 2) pe_non (nomark _)) pe_str pe_str)))
 pss_nil)
 (pss_cons (ps_if (PW.pt (pw_and (pt_cmpR op_isN (pv 2) pe_non (nomark _)) (pw_and1 (pt_cmpR op_isN (pv 3) pe_non (nomark _)))))
 (pss_one (ps_ret (pe_ifExp (pt_cmpR op_eq (pe_fld (pv 0) rfl) pe_str (nomark _)) pe_str pe_str)))
 pss_nil)
 (pss_cons (ps_if (PW.pt (pw_and (pt_cmpR op_notN (pv 1) pe_non (nomark _)) (pw_and1 (PW.pt (pw_or (pt_cmpR op_isN (pv 2) pe_non (nomark _)) (pw_or1 (pt_cmpR op_isN (pv 3) pe_non (nomark _))))))))
 (pss_cons (ps_if (pt_cmpR op_eq (pe_fld (pv 0) rfl) pe_str (nomark _))
 (pss_one (ps_ret pe_str))
 pss_nil)
 (pss_one (ps_if (pt_cmpR op_eq (pe_fld (pv 0) rfl) pe_str (nomark _))
 (pss_one (ps_ret (pe_ifExp (pt_cmpR op_isN (pv 2) pe_non (nomark _)) pe_str pe_str)))
 pss_nil)))
 pss_nil)
 (pss_one (ps_ret pe_str)))))), ?_⟩
  refine ⟨_, rfl, _, rfl, ov_scal _ _, _, rfl, iteD (fun h1 => ?_) (fun h1 => ?_)⟩
  · rw [oveq_iff] at h1
    refine ⟨_, rfl, rfl, _, rfl, iteD (fun h2 => ?_) (fun h2 => ?_)⟩
    · rw [ov_iff] at h2
      rw [show wayM pl b o t = .none by simp [wayM, h1, h2]] at q
      exact q
    · rw [ov_iff] at h2
      rw [show wayM pl b o t = .other by simp [wayM, h1, h2]] at q
      exact q
  rw [oveq_iff] at h1
  refine ⟨_, rfl, _, rfl, ov_scal _ _, _, rfl, iteD (fun h2 => ?_) (fun h2 => ?_)⟩
  · rw [oveq_iff] at h2
    refine ⟨_, rfl, rfl, _, rfl, iteD (fun h3 => ?_) (fun h3 => ?_)⟩
    · rw [ov_iff] at h3
      rw [show wayM pl b o t = .none by unfold wayM; rw [if_neg h1, if_pos h2]; simp [h3]] at q
      exact q
    · rw [ov_iff] at h3
      rw [show wayM pl b o t = .one by unfold wayM; rw [if_neg h1, if_pos h2]; simp [h3]] at q
      exact q
  rw [oveq_iff] at h2
  -- one is None and other is None
  refine ⟨_, rfl, rfl, _, rfl, iteD (fun h3 => ?_) (fun h3 => ?_)⟩
  · rw [ov_iff] at h3
    refine ⟨_, rfl, rfl, _, rfl, iteD (fun h4 => ?_) (fun h4 => ?_)⟩
    · rw [ov_iff] at h4
      refine ⟨_, rfl, p, T.c_Plan, dx, _, _, rfl, hp, T.cl_Plan, T.na_Plan_alike, pf_alike _ _, rfl, _, rfl, iteD (fun h5 => ?_) (fun h5 => ?_)⟩
      · rw [al_clash] at h5
        rw [show wayM pl b o t = .clash by simp_all [wayM]] at q
        exact q
      · rw [al_clash] at h5
        rw [show wayM pl b o t = .none by simp_all [wayM]] at q
        exact q
    · rw [ov_iff] at h4
      -- base is not None and (..)
      refine nextS ?_
      dsimp only
      refine ⟨_, rfl, rfl, _, rfl, iteN (fun h5 => ?_) (fun h5 => ?_)⟩
      · rw [ov_iff] at h5
        refine ⟨_, rfl, rfl, _, rfl, iteD (fun h6 => ?_) (fun h6 => absurd ((ov_iff o).mpr h3) h6)⟩
        refine iteT ?_
        refine ⟨_, rfl, p, T.c_Plan, dx, _, _, rfl, hp, T.cl_Plan, T.na_Plan_gone, pf_gone _ _, rfl, _, rfl, iteD (fun h7 => ?_) (fun h7 => ?_)⟩
        · rw [go_clash] at h7
          rw [show wayM pl b o t = .clash by simp_all [wayM]] at q
          exact q
        · rw [go_clash] at h7
          refine ⟨_, rfl, p, T.c_Plan, dx, _, _, rfl, hp, T.cl_Plan, T.na_Plan_gone, pf_gone _ _, rfl, _, rfl, iteD (fun h8 => ?_) (fun h8 => ?_)⟩
          · rw [go_kept] at h8
            refine ⟨_, rfl, rfl, _, rfl, iteD (fun h9 => ?_) (fun h9 => absurd ((ov_iff o).mpr h3) h9)⟩
            rw [show wayM pl b o t = .other by simp_all [wayM]] at q
            exact q
          · rw [go_kept] at h8
            rw [show wayM pl b o t = .on by simp_all [wayM]] at q
            exact q
      · rw [ov_iff] at h5
        exact absurd (h3.trans h5.symm) h1
  · rw [ov_iff] at h3
    refine iteF ?_
    refine nextS ?_
    dsimp only
    refine ⟨_, rfl, rfl, _, rfl, iteN (fun h5 => ?_) (fun h5 => ?_)⟩
    · rw [ov_iff] at h5
      refine ⟨_, rfl, rfl, _, rfl, iteD (fun h6 => absurd ((ov_iff o).mp h6) h3) (fun h6 => ?_)⟩
      refine ⟨_, rfl, rfl, _, rfl, iteD (fun h7 => ?_) (fun h7 => ?_)⟩
      · rw [ov_iff] at h7
        refine ⟨_, rfl, p, T.c_Plan, dx, _, _, rfl, hp, T.cl_Plan, T.na_Plan_gone, pf_gone _ _, rfl, _, rfl, iteD (fun h8 => ?_) (fun h8 => ?_)⟩
        · rw [go_clash] at h8
          rw [show wayM pl b o t = .clash by simp_all [wayM]] at q
          exact q
        · rw [go_clash] at h8
          refine ⟨_, rfl, p, T.c_Plan, dx, _, _, rfl, hp, T.cl_Plan, T.na_Plan_gone, pf_gone _ _, rfl, _, rfl, iteD (fun h9 => ?_) (fun h9 => ?_)⟩
          · rw [go_kept] at h9
            refine ⟨_, rfl, rfl, _, rfl, iteD (fun h10 => absurd ((ov_iff o).mp h10) h3) (fun h10 => ?_)⟩
            rw [show wayM pl b o t = .one by simp_all [wayM]] at q
            exact q
          · rw [go_kept] at h9
            rw [show wayM pl b o t = .on by simp_all [wayM]] at q
            exact q
      · rw [ov_iff] at h7
        rw [show wayM pl b o t = .on by simp_all [wayM]] at q
        exact q
    · rw [ov_iff] at h5
      refine iteF ?_
      rw [show wayM pl b o t = .on by simp_all [wayM]] at q
      exact q
end
end Toy
set_option Elab.async false
set_option linter.all false
set_option maxRecDepth 100000
set_option maxHeartbeats 4000000
namespace Toy
open PySem L2 Sh
/-! ### cells_met, cell_merged, due_values -/
theorem andV {ta tb : TE} {σ : L2.St} {H : Hp} {Q : VK} {a b : Bool} (h1 : ∀ R : VK, R (.bl a) H → ta σ H R) (h2 : ∀ R : VK, R (.bl b) H → tb σ H R) (q : Q (.bl (a && b)) H) : tAndV ta tb σ H Q := by
  refine h1 _ ⟨a, rfl, ?_⟩
  cases a
  · exact iteF q
  · exact iteT (h2 _ q)
theorem orV {ta tb : TE} {σ : L2.St} {H : Hp} {Q : VK} {a b : Bool} (h1 : ∀ R : VK, R (.bl a) H → ta σ H R) (h2 : ∀ R : VK, R (.bl b) H → tb σ H R) (q : Q (.bl (a || b)) H) : tOrV ta tb σ H Q := by
  refine h1 _ ⟨a, rfl, ?_⟩
  cases a
  · exact iteF (h2 _ q)
  · exact iteT q
def metB (c : Option Cl) : Cl := c.getD (none, false)
def metG (pl : Pl) (c : Option Cl) : Cl := if pl.go = .base then metB c else (none, false)
def spMet (P : Program) (w : World) (K : PySem.W.Frag) (C : Addr) : Sp := fun vs H Q _ => ∃ (p a : Addr) (pl : Pl) (v0 v1 v2 : V) (c0 c1 c2 : Option Cl), vs = [.ref p, .ref a] ∧ PlanAt P w K C H p pl ∧ H a = some (.tup [v0, v1, v2]) ∧ IsC H v0 c0 ∧ IsC H v1 c1 ∧ IsC H v2 c2 ∧
  ∀ (H' : Hp) (l : Addr) (u0 u1 u2 : V), Same H H' → H' l = some (.lst [u0, u1, u2]) → IsC H' u0 (some (metB c0)) → IsC H' u1 (some (c1.getD (metG pl c0))) → IsC H' u2 (some (c2.getD (metG pl c0))) → Q (.ref l) H'
section
variable {P : Program} {w : World} {K : PySem.W.Frag} {mg : Str → Option Value} {base : Heap}
theorem ok_cells_met (T : Tx K mg) : FnOk P w K mg base CX0 1 T.a_cells_met T.fd_cells_met ["plan", "cells"] (spMet P w K T.c_Plan) := by
  refine T.F_cells_met.ok sc_cells_met (fun vs H Q E h => ?_) (fun cdv A outer s H vs Q E hr h => ?_)
  · obtain ⟨p, a, pl, v0, v1, v2, c0, c1, c2, rfl, _⟩ := h
    rfl
  obtain ⟨p, a, pl, v0, v1, v2, c0, c1, c2, rfl, hP, ha, i0, i1, i2, q⟩ := h
  refine ⟨_, (pss_cons (ps_set (i := 2) sc_cells_met.nd rfl (by first | exact Or.inl rfl | exact Or.inr rfl) (pe_ifExp (pt_cmpR op_isN (pe_ix ix_tup (pv 1) pe_int (fun _ _ => rfl)) pe_non (nomark _)) (pe_tup (pa_cons pe_non (pa_cons pe_bl pa_nil))) (pe_ix ix_tup (pv 1) pe_int (fun _ _ => rfl))))
 (pss_cons (ps_set (i := 3) sc_cells_met.nd rfl (by first | exact Or.inl rfl | exact Or.inr rfl) (pe_ifExp (pt_cmpR op_eq (pe_fld (pv 0) rfl) pe_str (nomark _)) (pv 2) (pe_tup (pa_cons pe_non (pa_cons pe_bl pa_nil)))))
 (pss_one (ps_ret (pe_lst (pa_cons (pv 2) (pa_cons (pe_ifExp (pt_cmpR op_isN (pe_ix ix_tup (pv 1) pe_int (fun _ _ => rfl)) pe_non (nomark _)) (pv 3) (pe_ix ix_tup (pv 1) pe_int (fun _ _ => rfl))) (pa_cons (pe_ifExp (pt_cmpR op_isN (pe_ix ix_tup (pv 1) pe_int (fun _ _ => rfl)) pe_non (nomark _)) (pv 3) (pe_ix ix_tup (pv 1) pe_int (fun _ _ => rfl))) pa_nil)))))))), ?_⟩
  refine asgS (fun v H1 => Same H H1 ∧ IsC H1 v (some (metB c0))) (fun R hR => ?_) ?_
  · refine ⟨_, rfl, a, _, _, _, rfl, rfl, SqT.of ha, rfl, rfl, _, rfl, iteD (fun h1 => ?_) (fun h1 => ?_)⟩
    · rw [i0.iff] at h1
      subst h1
      exact ⟨by show 2 ≤ sizeLine; decide, fun t ht => hR _ _ ⟨same_upd ht, t, rfl, upd_same⟩⟩
    · rw [i0.iff] at h1
      obtain ⟨c, rfl⟩ := Option.ne_none_iff_exists'.mp h1
      exact ⟨_, rfl, a, _, _, _, rfl, rfl, SqT.of ha, rfl, hR _ _ ⟨Same.refl _, i0⟩⟩
  rintro b H1 ⟨s1, ib⟩
  obtain ⟨dx, fv, hp, _⟩ := hP.same s1
  refine asgS (fun v H2 => Same H1 H2 ∧ IsC H2 v (some (metG pl c0))) (fun R hR => ?_) ?_
  · refine ⟨_, rfl, p, T.c_Plan, dx, _, _, rfl, hp, T.cl_Plan, T.na_Plan_gone, pf_gone _ _, rfl, _, rfl, iteD (fun h1 => ?_) (fun h1 => ?_)⟩
    · rw [go_base] at h1
      refine ⟨_, rfl, hR _ _ ⟨Same.refl _, ?_⟩⟩
      rw [show metG pl c0 = metB c0 by simp [metG, h1]]
      exact ib
    · rw [go_base] at h1
      refine ⟨by show 2 ≤ sizeLine; decide, fun t ht => hR _ _ ⟨same_upd ht, ?_⟩⟩
      rw [show metG pl c0 = (none, false) by simp [metG, h1]]
      exact ⟨t, rfl, upd_same⟩
  rintro g H2 ⟨s2, ig⟩
  have s3 := s1.trans s2
  have ha2 := s3 _ _ ha
  -- the list
  have fin : ∀ u1 u2, IsC H2 u1 (some (c1.getD (metG pl c0))) → IsC H2 u2 (some (c2.getD (metG pl c0))) → ∀ l, H2 l = none → Q (.ref l) (upd H2 l (.lst [b, u1, u2])) := fun u1 u2 k1 k2 l hl =>
    have s4 := same_upd (o := .lst [b, u1, u2]) hl
    q _ l b u1 u2 (s3.trans s4) upd_same ((ib.same s2).same s4) (k1.same s4) (k2.same s4)
  refine ⟨_, rfl, _, rfl, a, _, _, _, rfl, rfl, SqT.of ha2, rfl, rfl, _, rfl, iteD (fun h1 => ?_) (fun h1 => ?_)⟩
  all_goals rw [i1.iff] at h1
  · subst h1
    refine ⟨_, rfl, _, rfl, a, _, _, _, rfl, rfl, SqT.of ha2, rfl, rfl, _, rfl, iteD (fun h2 => ?_) (fun h2 => ?_)⟩
    all_goals rw [i2.iff] at h2
    · subst h2
      exact ⟨_, rfl, by show 3 ≤ sizeLine; decide, fin _ _ ig ig⟩
    · obtain ⟨c, rfl⟩ := Option.ne_none_iff_exists'.mp h2
      exact ⟨_, rfl, a, _, _, _, rfl, rfl, SqT.of ha2, rfl, by show 3 ≤ sizeLine; decide, fin _ _ ig (i2.same s3)⟩
  · obtain ⟨c, rfl⟩ := Option.ne_none_iff_exists'.mp h1
    refine ⟨_, rfl, a, _, _, _, rfl, rfl, SqT.of ha2, rfl, _, rfl, a, _, _, _, rfl, rfl, SqT.of ha2, rfl, rfl, _, rfl, iteD (fun h2 => ?_) (fun h2 => ?_)⟩
    all_goals rw [i2.iff] at h2
    · subst h2
      exact ⟨_, rfl, by show 3 ≤ sizeLine; decide, fin _ _ (i1.same s3) ig⟩
    · obtain ⟨c', rfl⟩ := Option.ne_none_iff_exists'.mp h2
      exact ⟨_, rfl, a, _, _, _, rfl, rfl, SqT.of ha2, rfl, by show 3 ≤ sizeLine; decide, fin _ _ (i1.same s3) (i2.same s3)⟩
def mergedM (pl : Pl) (b o t : Cl) : Option Cl :=
  if o.1 = b.1 then some (t.1, if o.2 = b.2 then t.2 else o.2)
  else if t.1 = b.1 then some (o.1, if o.2 = b.2 then t.2 else o.2)
  else if o.1 = t.1 then (if pl.al = .clash then none else some (o.1, if o.2 = b.2 then t.2 else o.2))
  else if pl.un = .clash then none
  else some (if pl.un = .one then o.1 else t.1, if o.2 = b.2 then t.2 else o.2)
def spMerged (P : Program) (w : World) (K : PySem.W.Frag) (C : Addr) : Sp := fun vs H Q _ => ∃ (p l : Addr) (pl : Pl) (u0 u1 u2 : V) (b o t : Cl), vs = [.ref p, .ref l] ∧ PlanAt P w K C H p pl ∧ H l = some (.lst [u0, u1, u2]) ∧ IsC H u0 (some b) ∧ IsC H u1 (some o) ∧ IsC H u2 (some t) ∧
  ∀ (H' : Hp) (v : V), Same H H' → IsC H' v (mergedM pl b o t) → Q v H'
theorem bl_eq (a b : Bool) : V.bl a = V.bl b ↔ a = b := by cases a <;> cases b <;> simp
theorem ok_cell_merged (T : Tx K mg) : FnOk P w K mg base CX0 1 T.a_cell_merged T.fd_cell_merged ["plan", "cells"] (spMerged P w K T.c_Plan) := by
  refine T.F_cell_merged.ok sc_cell_merged (fun vs H Q E h => ?_) (fun cdv A outer s H vs Q E hr h => ?_)
  · obtain ⟨p, l, pl, u0, u1, u2, b, o, t, rfl, _⟩ := h
    rfl
  obtain ⟨p, l, pl, u0, u1, u2, b, o, t, rfl, ⟨dx, fv, hp, _⟩, hl, ⟨t0, rfl, e0⟩, ⟨t1, rfl, e1⟩, ⟨t2, rfl, e2⟩, q⟩ := h
  refine ⟨_, (pss_cons (ps_asg (pv 1) (pg_unl rfl (pgs_cons (pg_name (i := 2) sc_cell_merged.nd rfl (by first | exact Or.inl rfl | exact Or.inr rfl)) (pgs_cons (pg_name (i := 3) sc_cell_merged.nd rfl (by first | exact Or.inl rfl | exact Or.inr rfl)) (pgs_cons (pg_name (i := 4) sc_cell_merged.nd rfl (by first | exact Or.inl rfl | exact Or.inr rfl)) pgs_nil)))))
 (pss_cons (ps_set (i := 5) sc_cell_merged.nd rfl (by first | exact Or.inl rfl | exact Or.inr rfl) (pe_ifExp (pt_cmpR op_eq (pe_ix ix_tup (pv 3) pe_int (fun _ _ => rfl)) (pe_ix ix_tup (pv 2) pe_int (fun _ _ => rfl)) (nomark _)) (pe_ix ix_tup (pv 4) pe_int (fun _ _ => rfl)) (pe_ix ix_tup (pv 3) pe_int (fun _ _ => rfl))))
 (pss_cons (ps_if (pt_cmpR op_eq (pe_ix ix_tup (pv 3) pe_int (fun _ _ => rfl)) (pe_ix ix_tup (pv 2) pe_int (fun _ _ => rfl)) (nomark _))
 (pss_one (ps_ret (pe_tup (pa_cons (pe_ix ix_tup (pv 4) pe_int (fun _ _ => rfl)) (pa_cons (pv 5) pa_nil)))))
 pss_nil)
 (pss_cons (ps_if (pt_cmpR op_eq (pe_ix ix_tup (pv 4) pe_int (fun _ _ => rfl)) (pe_ix ix_tup (pv 2) pe_int (fun _ _ => rfl)) (nomark _))
 (pss_one (ps_ret (pe_tup (pa_cons (pe_ix ix_tup (pv 3) pe_int (fun _ _ => rfl)) (pa_cons (pv 5) pa_nil)))))
 pss_nil)
 (pss_cons (ps_if (pt_cmpR op_eq (pe_ix ix_tup (pv 3) pe_int (fun _ _ => rfl)) (pe_ix ix_tup (pv 4) pe_int (fun _ _ => rfl)) (nomark _))
 (pss_one (ps_ret (pe_ifExp (pt_cmpR op_eq (pe_fld (pv 0) rfl) pe_str (nomark _)) pe_non (pe_tup (pa_cons (pe_ix ix_tup (pv 3) pe_int (fun _ _ => rfl)) (pa_cons (pv 5) pa_nil))))))
 pss_nil)
 (pss_cons (ps_if (pt_cmpR op_eq (pe_fld (pv 0) rfl) pe_str (nomark _))
 (pss_one (ps_ret pe_non))
 pss_nil)
 (pss_one (ps_ret (pe_tup (pa_cons (pe_ifExp (pt_cmpR op_eq (pe_fld (pv 0) rfl) pe_str (nomark _)) (pe_ix ix_tup (pv 3) pe_int (fun _ _ => rfl)) (pe_ix ix_tup (pv 4) pe_int (fun _ _ => rfl))) (pa_cons (pv 5) pa_nil))))))))))), ?_⟩
  refine ⟨_, rfl, l, _, rfl, SqL.of hl, rfl, _, _, rfl, _, _, rfl, _, _, rfl, rfl, ?_⟩
  dsimp only
  refine asgS (fun v H1 => H1 = H ∧ v = .bl (if o.2 = b.2 then t.2 else o.2)) (fun R hR => ?_) ?_
  · refine ⟨_, rfl, t1, _, _, _, rfl, rfl, SqT.of e1, rfl, _, rfl, t0, _, _, _, rfl, rfl, SqT.of e0, rfl, rfl, _, rfl, iteD (fun h1 => ?_) (fun h1 => ?_)⟩
    · rw [bl_eq] at h1
      exact ⟨_, rfl, t2, _, _, _, rfl, rfl, SqT.of e2, rfl, hR _ _ ⟨rfl, by rw [if_pos h1]⟩⟩
    · rw [bl_eq] at h1
      exact ⟨_, rfl, t1, _, _, _, rfl, rfl, SqT.of e1, rfl, hR _ _ ⟨rfl, by rw [if_neg h1]⟩⟩
  rintro v H1 ⟨rfl, rfl⟩
  have fin : ∀ (x : OI) (f : Bool), some (x, f) = mergedM pl b o t → ∀ r, H1 r = none → Q (.ref r) (upd H1 r (.tup [ovV x, .bl f])) := fun x f e r hr' => q _ _ (same_upd hr') (by rw [← e]; exact ⟨r, rfl, upd_same⟩)
  generalize hf : (if o.2 = b.2 then t.2 else o.2) = f
  have sz : 2 ≤ sizeLine := by decide
  refine ⟨_, rfl, t1, _, _, _, rfl, rfl, SqT.of e1, rfl, _, rfl, t0, _, _, _, rfl, rfl, SqT.of e0, rfl, ov_scal _ _, _, rfl, iteD (fun h1 => ?_) (fun h1 => ?_)⟩
  all_goals rw [oveq_iff] at h1
  · exact ⟨_, rfl, t2, _, _, _, rfl, rfl, SqT.of e2, rfl, _, rfl, sz, fin _ _ (by unfold mergedM; rw [if_pos h1, hf])⟩
  refine ⟨_, rfl, t2, _, _, _, rfl, rfl, SqT.of e2, rfl, _, rfl, t0, _, _, _, rfl, rfl, SqT.of e0, rfl, ov_scal _ _, _, rfl, iteD (fun h2 => ?_) (fun h2 => ?_)⟩
  all_goals rw [oveq_iff] at h2
  · exact ⟨_, rfl, t1, _, _, _, rfl, rfl, SqT.of e1, rfl, _, rfl, sz, fin _ _ (by unfold mergedM; rw [if_neg h1, if_pos h2, hf])⟩
  refine ⟨_, rfl, t1, _, _, _, rfl, rfl, SqT.of e1, rfl, _, rfl, t2, _, _, _, rfl, rfl, SqT.of e2, rfl, ov_scal _ _, _, rfl, iteD (fun h3 => ?_) (fun h3 => ?_)⟩
  all_goals rw [oveq_iff] at h3
  · refine ⟨_, rfl, p, T.c_Plan, dx, _, _, rfl, hp, T.cl_Plan, T.na_Plan_alike, pf_alike _ _, rfl, _, rfl, iteD (fun h4 => ?_) (fun h4 => ?_)⟩
    all_goals rw [al_clash] at h4
    · exact q _ _ (Same.refl _) (by rw [show mergedM pl b o t = none by unfold mergedM; rw [if_neg h1, if_neg h2, if_pos h3, if_pos h4]]; rfl)
    · exact ⟨_, rfl, t1, _, _, _, rfl, rfl, SqT.of e1, rfl, _, rfl, sz, fin _ _ (by unfold mergedM; rw [if_neg h1, if_neg h2, if_pos h3, if_neg h4, hf])⟩
  refine ⟨_, rfl, p, T.c_Plan, dx, _, _, rfl, hp, T.cl_Plan, T.na_Plan_unlike, pf_unlike _ _, rfl, _, rfl, iteD (fun h4 => ?_) (fun h4 => ?_)⟩
  all_goals rw [un_clash] at h4
  · exact q _ _ (Same.refl _) (by rw [show mergedM pl b o t = none by unfold mergedM; rw [if_neg h1, if_neg h2, if_neg h3, if_pos h4]]; rfl)
  refine ⟨_, rfl, p, T.c_Plan, dx, _, _, rfl, hp, T.cl_Plan, T.na_Plan_unlike, pf_unlike _ _, rfl, _, rfl, iteD (fun h5 => ?_) (fun h5 => ?_)⟩
  all_goals rw [un_one] at h5
  · exact ⟨_, rfl, t1, _, _, _, rfl, rfl, SqT.of e1, rfl, _, rfl, sz, fin _ _ (by unfold mergedM; rw [if_neg h1, if_neg h2, if_neg h3, if_neg h4, if_pos h5, hf])⟩
  · exact ⟨_, rfl, t2, _, _, _, rfl, rfl, SqT.of e2, rfl, _, rfl, sz, fin _ _ (by unfold mergedM; rw [if_neg h1, if_neg h2, if_neg h3, if_neg h4, if_neg h5, hf])⟩
def dueM (b o t : OI) : List OI := if o = b then [t] else if t = b ∨ o = t then [o] else [o, t]
def spDue : Sp := fun vs H Q _ => ∃ (b o t : OI), vs = [ovV b, ovV o, ovV t] ∧ ∀ (H' : Hp) (a : Addr), Same H H' → H' a = some (.tup ((dueM b o t).map ovV)) → Q (.ref a) H'
theorem ok_due_values (T : Tx K mg) : FnOk P w K mg base CX0 1 T.a_due_values T.fd_due_values ["was", "left", "right"] spDue := by
  refine T.F_due_values.ok sc_due_values (fun vs H Q E h => ?_) (fun cdv A outer s H vs Q E hr h => ?_)
  · obtain ⟨b, o, t, rfl, _⟩ := h
    rfl
  obtain ⟨b, o, t, rfl, q⟩ := h
  refine ⟨_, (pss_cons (ps_if (pt_cmpR op_eq (pv 1) (pv 0) (nomark _))
 (pss_one (ps_ret (pe_tup (pa_cons (pv 2) pa_nil))))
 pss_nil)
 (pss_cons (ps_if (PW.pt (pw_or (pt_cmpR op_eq (pv 2) (pv 0) (nomark _)) (pw_or1 (pt_cmpR op_eq (pv 1) (pv 2) (nomark _)))))
 (pss_one (ps_ret (pe_tup (pa_cons (pv 1) pa_nil))))
 pss_nil)
 (pss_one (ps_ret (pe_tup (pa_cons (pv 1) (pa_cons (pv 2) pa_nil))))))), ?_⟩
  have fin : ∀ l, dueM b o t = l → ∀ r, H r = none → Q (.ref r) (upd H r (.tup (l.map ovV))) := fun l e r hr' => q _ _ (same_upd hr') (by rw [e, upd_same])
  refine ⟨_, rfl, _, rfl, ov_scal _ _, _, rfl, iteD (fun h1 => ?_) (fun h1 => ?_)⟩
  all_goals rw [oveq_iff] at h1
  · exact ⟨_, rfl, by show 1 ≤ sizeLine; decide, fin [t] (by unfold dueM; rw [if_pos h1])⟩
  refine ⟨_, rfl, _, rfl, ov_scal _ _, _, rfl, iteD (fun h2 => ?_) (fun h2 => ?_)⟩
  all_goals rw [oveq_iff] at h2
  · refine iteT ?_
    exact ⟨_, rfl, by show 1 ≤ sizeLine; decide, fin [o] (by unfold dueM; rw [if_neg h1, if_pos (.inl h2)])⟩
  refine ⟨_, rfl, _, rfl, ov_scal _ _, _, rfl, iteD (fun h3 => ?_) (fun h3 => ?_)⟩
  all_goals rw [oveq_iff] at h3
  · exact ⟨_, rfl, by show 1 ≤ sizeLine; decide, fin [o] (by unfold dueM; rw [if_neg h1, if_pos (.inr h3)])⟩
  · exact ⟨_, rfl, _, rfl, by show 2 ≤ sizeLine; decide, fin [o, t] (by unfold dueM; rw [if_neg h1, if_neg (fun z => z.elim h2 h3)])⟩
end
end Toy
set_option Elab.async false
set_option linter.all false
set_option maxRecDepth 100000
set_option maxHeartbeats 4000000
namespace Toy
open PySem L2 Sh
/-! ### is_let_here, empty_sum, added -/
def hereM (js : List Kd) (c : Option Cl) (n : Int) : Bool := match c with
  | none => decide (n = 0)
  | some c => decide ((!decide (c.1 = none), c.2, n) ∈ js)
theorem ov_isN (a : OI) : (!decide (ovV a = V.non)) = !decide (a = none) := by rw [ov_non]
def spHere : Sp := fun vs H Q _ => ∃ (kk : Addr) (ys : List V) (js : List Kd) (v : V) (c : Option Cl) (n : Int), vs = [.ref kk, v, .int n] ∧ H kk = some (.tup ys) ∧ AllK H ys js ∧ IsC H v c ∧ ∀ H', Same H H' → Q (.bl (hereM js c n)) H'
section
variable {P : Program} {w : World} {K : PySem.W.Frag} {mg : Str → Option Value} {base : Heap}
theorem ok_is_let_here (T : Tx K mg) : FnOk P w K mg base CX0 1 T.a_is_let_here T.fd_is_let_here ["kinds", "cell", "children"] spHere := by
  refine T.F_is_let_here.ok sc_is_let_here (fun vs H Q E h => ?_) (fun cdv A outer s H vs Q E hr h => ?_)
  · obtain ⟨kk, ys, js, v, c, n, rfl, _⟩ := h
    rfl
  have hu65 := hu65_of hr
  obtain ⟨kk, ys, js, v, c, n, rfl, hk, ak, ic, q⟩ := h
  refine ⟨_, (pss_cons (ps_if (pt_cmpR op_isN (pv 1) pe_non (nomark _))
 (pss_one (ps_ret (pe_cmpR op_eq (pv 2) pe_int (nomark _))))
 pss_nil)
 (pss_one (ps_ret (pe_cmpR (op_inDT hu65) (pe_tup (pa_cons (pe_cmpR op_notN (pe_ix ix_tup (pv 1) pe_int (fun _ _ => rfl)) pe_non (nomark _)) (pa_cons (pe_ix ix_tup (pv 1) pe_int (fun _ _ => rfl)) (pa_cons (pv 2) pa_nil)))) (pv 0) (by rfl))))), ?_⟩
  refine ⟨_, rfl, rfl, _, rfl, iteD (fun h1 => ?_) (fun h1 => ?_)⟩
  all_goals rw [ic.iff] at h1
  · subst h1
    refine ⟨_, rfl, rfl, ?_⟩
    rw [dec_int]
    exact q _ (Same.refl _)
  · obtain ⟨c, rfl⟩ := Option.ne_none_iff_exists'.mp h1
    obtain ⟨t, rfl, e⟩ := ic
    refine ⟨_, rfl, t, _, _, _, rfl, rfl, SqT.of e, rfl, rfl, _, rfl, t, _, _, _, rfl, rfl, SqT.of e, rfl, _, rfl, by show 3 ≤ sizeLine; decide, fun r hr' => ?_⟩
    have s1 := same_upd (o := .tup [.bl (!decide (ovV c.1 = V.non)), .bl c.2, .int n]) hr'
    refine ⟨_, rfl, kdD (!decide (c.1 = none), c.2, n), js.map kdD, IsK.dp ⟨r, rfl, by rw [upd_same, ov_isN]⟩, .tup (SqT.of (s1 _ _ hk)) (AllK.dp (AllK.same s1 ak)), kd_shaped _, kds_shapedT _, ?_⟩
    rw [kd_any]
    exact q _ s1
def sum0 : Tot := ⟨0, 0, 0, 0, true, true, false, false, false, .right⟩
def spEmpty : Sp := fun vs H Q _ => vs = [] ∧ ∀ H' v, Same H H' → IsT H' v sum0 → Q v H'
theorem ok_empty_sum (T : Tx K mg) : FnOk P w K mg base CX0 1 T.a_empty_sum T.fd_empty_sum [] spEmpty := by
  refine T.F_empty_sum.ok sc_empty_sum (fun vs H Q E h => by rw [h.1]; rfl) (fun cdv A outer s H vs Q E hr h => ?_)
  obtain ⟨rfl, q⟩ := h
  refine ⟨_, (pss_one (ps_ret (pe_tup (pa_cons pe_int (pa_cons pe_int (pa_cons pe_int (pa_cons pe_int (pa_cons pe_bl (pa_cons pe_bl (pa_cons pe_bl (pa_cons pe_bl (pa_cons pe_bl (pa_cons pe_str pa_nil))))))))))))), ?_⟩
  exact ⟨by show 10 ≤ sizeLine; decide, fun r hr' => q _ _ (same_upd hr') ⟨r, rfl, upd_same⟩⟩
/-! the outcomes by their places in WORST -/
def wIx : Oc → Nat
  | .rule => 1 | .words => 2 | .clash => 3 | _ => 0
def inWorst (o : Oc) : Bool := o = .right || o = .rule || o = .words || o = .clash
def inRes (o : Oc) : Bool := o = .tree || o = .rule || o = .words
def worstL : List Str := ["right", "rule", "words", "clash"]
theorem in_worst (o : Oc) : inV (.str o.s) [V.str "right", V.str "rule", V.str "words", V.str "clash"] = inWorst o := by cases o <;> decide +kernel
theorem in_res (o : Oc) : inV (.str o.s) [V.str "tree", V.str "rule", V.str "words"] = inRes o := by cases o <;> decide +kernel
theorem worst_at {o : Oc} (h : inWorst o = true) : worstL[wIx o]? = some o.s ∧ ∀ m, m < wIx o → worstL[m]? ≠ some o.s := by
  cases o <;> first | (exact absurd h (by decide)) | (refine ⟨by decide +kernel, ?_⟩; decide +kernel)
def min2 (z : Int) : Int := if z < 2 then z else 2
def b2 (b : Bool) : Int := if b then 1 else 0
def worseM (t p : Oc) : Oc := if inWorst p = true ∧ wIx t < wIx p then p else t
def addM (t : Tot) (p : Cas) : Tot := ⟨min2 (t.n0 + b2 p.c0), min2 (t.n1 + b2 p.c1), min2 (t.n2 + b2 p.c2), min2 (t.n3 + b2 (inRes p.o)), t.b4 && p.c3, t.b5 && p.c4, t.b6 || p.c5, t.b7 || p.c6, t.b8 || p.c7, worseM t.w p.o⟩
def spAdded : Sp := fun vs H Q _ => ∃ (v u : V) (t : Tot) (p : Cas), vs = [v, u] ∧ IsT H v t ∧ IsS H u p ∧ inWorst t.w = true ∧ ∀ H' r, Same H H' → IsT H' r (addM t p) → Q r H'
theorem intV {ta : TE} {σ : L2.St} {H : Hp} {Q : VK} {b : Bool} (h : ∀ R : VK, R (.bl b) H → ta σ H R) (q : Q (.int (b2 b)) H) : tCB (fun xs H Q => (∃ i, xs = [V.int i] ∧ Q (.int i) H) ∨ ∃ k, xs = [V.bl k] ∧ Q (.int (if k = true then 1 else 0)) H) (tCons ta tNil) σ H Q := h _ (.inr ⟨b, rfl, q⟩)
theorem ok_added (T : Tx K mg) : FnOk P w K mg base CX0 1 T.a_added T.fd_added ["total", "part"] spAdded := by
  refine T.F_added.ok sc_added (fun vs H Q E h => ?_) (fun cdv A outer s H vs Q E hr h => ?_)
  · obtain ⟨v, u, t, p, rfl, _⟩ := h
    rfl
  obtain ⟨v, u, t, p, rfl, ⟨a, rfl, ha⟩, ⟨b, rfl, hb⟩, hw, q⟩ := h
  refine ⟨_, (pss_cons (ps_par (i := 2) (j := 3) (by rfl) sc_added.nd rfl rfl (by decide) rfl rfl (pa_cons (pe_ix ix_tup (pv 1) pe_int (fun _ _ => rfl)) (pa_cons (pe_ix ix_tup (pv 0) pe_int (fun _ _ => rfl)) pa_nil)) (by rfl))
 (pss_cons (ps_if (PW.pt (pw_and (pt_cmpR op_in_seq (pv 2) (pe_glob (v := .ref T.g_WORST) (by rfl) T.m_WORST rfl) (by rfl)) (pw_and1 (pt_cmpR op_gt (pe_bm PySem.F.plainAttrs_tuple PySem.F.slot_tuple_index PySem.F.type_tuple_index mt_tup_index (pe_glob (v := .ref T.g_WORST) (by rfl) T.m_WORST rfl) (pa_cons (pv 2) pa_nil)) (pe_bm PySem.F.plainAttrs_tuple PySem.F.slot_tuple_index PySem.F.type_tuple_index mt_tup_index (pe_glob (v := .ref T.g_WORST) (by rfl) T.m_WORST rfl) (pa_cons (pv 3) pa_nil)) (nomark _)))))
 (pss_one (ps_set (i := 3) sc_added.nd rfl (by first | exact Or.inl rfl | exact Or.inr rfl) (pv 2)))
 pss_nil)
 (pss_one (ps_ret (pe_tup (pa_cons (pe_callB (call_min2 rfl) (by rfl) T.b_min (by decide +kernel) (pa_cons pe_int (pa_cons (pe_op op_add (pe_ix ix_tup (pv 0) pe_int (fun _ _ => rfl)) (pe_callTy call_int1 (by rfl) T.b_int (by decide +kernel) (pa_cons (pe_ix ix_tup (pv 1) pe_int (fun _ _ => rfl)) pa_nil))) pa_nil))) (pa_cons (pe_callB (call_min2 rfl) (by rfl) T.b_min (by decide +kernel) (pa_cons pe_int (pa_cons (pe_op op_add (pe_ix ix_tup (pv 0) pe_int (fun _ _ => rfl)) (pe_callTy call_int1 (by rfl) T.b_int (by decide +kernel) (pa_cons (pe_ix ix_tup (pv 1) pe_int (fun _ _ => rfl)) pa_nil))) pa_nil))) (pa_cons (pe_callB (call_min2 rfl) (by rfl) T.b_min (by decide +kernel) (pa_cons pe_int (pa_cons (pe_op op_add (pe_ix ix_tup (pv 0) pe_int (fun _ _ => rfl)) (pe_callTy call_int1 (by rfl) T.b_int (by decide +kernel) (pa_cons (pe_ix ix_tup (pv 1) pe_int (fun _ _ => rfl)) pa_nil))) pa_nil))) (pa_cons (pe_callB (call_min2 rfl) (by rfl) T.b_min (by decide +kernel) (pa_cons pe_int (pa_cons (pe_op op_add (pe_ix ix_tup (pv 0) pe_int (fun _ _ => rfl)) (pe_callTy call_int1 (by rfl) T.b_int (by decide +kernel) (pa_cons (pe_cmpR op_in_seq (pv 2) (pe_glob (v := .ref T.g_RESULTS) (by rfl) T.m_RESULTS rfl) (by rfl)) pa_nil))) pa_nil))) (pa_cons (pe_and (pe_ix ix_tup (pv 0) pe_int (fun _ _ => rfl)) (pe_one (pe_ix ix_tup (pv 1) pe_int (fun _ _ => rfl)))) (pa_cons (pe_and (pe_ix ix_tup (pv 0) pe_int (fun _ _ => rfl)) (pe_one (pe_ix ix_tup (pv 1) pe_int (fun _ _ => rfl)))) (pa_cons (pe_or (pe_ix ix_tup (pv 0) pe_int (fun _ _ => rfl)) (pe_one (pe_ix ix_tup (pv 1) pe_int (fun _ _ => rfl)))) (pa_cons (pe_or (pe_ix ix_tup (pv 0) pe_int (fun _ _ => rfl)) (pe_one (pe_ix ix_tup (pv 1) pe_int (fun _ _ => rfl)))) (pa_cons (pe_or (pe_ix ix_tup (pv 0) pe_int (fun _ _ => rfl)) (pe_one (pe_ix ix_tup (pv 1) pe_int (fun _ _ => rfl)))) (pa_cons (pv 3) pa_nil))))))))))))))), ?_⟩
  have ga : ∀ {n : Nat} {x : V} {R : VK} {σ : L2.St}, σ[0]? = some (some (.ref a)) → atI t.L (n : Int) = some x → R x H → tOp (rIxT K) (tVar 0) (tC (.int (n : Int))) σ H R := fun h e r => ⟨_, h, a, _, _, _, rfl, rfl, SqT.of ha, e, r⟩
  have gb : ∀ {n : Nat} {x : V} {R : VK} {σ : L2.St}, σ[1]? = some (some (.ref b)) → atI p.L (n : Int) = some x → R x H → tOp (rIxT K) (tVar 1) (tC (.int (n : Int))) σ H R := fun h e r => ⟨_, h, b, _, _, _, rfl, rfl, SqT.of hb, e, r⟩
  refine gb (n := 8) rfl rfl ?_
  refine ga (n := 9) rfl rfl ?_
  refine ⟨_, _, rfl, ?_⟩
  dsimp only
  refine seqW (fun σ' H' => H' = H ∧ σ' = [some (.ref a), some (.ref b), some (.str p.o.s), some (.str (worseM t.w p.o).s)]) (fun N hN => ?_) ?_
  · -- outcome in WORST and ..
    refine ⟨_, rfl, T.g_WORST, _, rfl, .inr (T.q_WORST H), rfl, rfl, _, rfl, ?_⟩
    show if inV (.str p.o.s) [V.str "right", V.str "rule", V.str "words", V.str "clash"] = true then _ else _
    rw [in_worst]
    refine ite2 (fun h1 => ?_) (fun h1 => ?_)
    · obtain ⟨x1, x2⟩ := worst_at h1
      obtain ⟨y1, y2⟩ := worst_at hw
      refine ⟨.inr (.inl ⟨rfl, T.y_WORST⟩), _, rfl, T.g_WORST, worstL, p.o.s, wIx p.o, rfl, rfl, T.q_WORST H, x1, x2, .inr (.inl ⟨rfl, T.y_WORST⟩), _, rfl, T.g_WORST, worstL, t.w.s, wIx t.w, rfl, rfl, T.q_WORST H, y1, y2, _, _, rfl, rfl, _, rfl, iteD (fun h2 => ?_) (fun h2 => ?_)⟩
      · refine ⟨_, rfl, hN _ _ ⟨rfl, ?_⟩⟩
        rw [show worseM t.w p.o = p.o by unfold worseM; rw [if_pos ⟨h1, by omega⟩]]
        rfl
      · refine hN _ _ ⟨rfl, ?_⟩
        rw [show worseM t.w p.o = t.w by unfold worseM; rw [if_neg (fun z => by have := z.2; omega)]]
        rfl
    · refine iteF (hN _ _ ⟨rfl, ?_⟩)
      rw [show worseM t.w p.o = t.w by unfold worseM; rw [if_neg (fun z => h1 z.1)]]
      rfl
  rintro σ' H' ⟨rfl, rfl⟩
  refine ga (n := 0) rfl rfl ?_
  refine intV (fun R r => gb (n := 0) rfl rfl r) ⟨_, _, rfl, rfl, _, _, rfl, ?_⟩
  refine ga (n := 1) rfl rfl ?_
  refine intV (fun R r => gb (n := 1) rfl rfl r) ⟨_, _, rfl, rfl, _, _, rfl, ?_⟩
  refine ga (n := 2) rfl rfl ?_
  refine intV (fun R r => gb (n := 2) rfl rfl r) ⟨_, _, rfl, rfl, _, _, rfl, ?_⟩
  refine ga (n := 3) rfl rfl ?_
  refine intV (b := inRes p.o) (fun R r => ⟨_, rfl, T.g_RESULTS, _, rfl, .inr (T.q_RESULTS H'), rfl, rfl, ?_⟩) ⟨_, _, rfl, rfl, _, _, rfl, ?_⟩
  · show R (.bl (inV (.str p.o.s) [V.str "tree", V.str "rule", V.str "words"])) H'
    rw [in_res]
    exact r
  refine andV (fun R r => ga (n := 4) rfl rfl r) (fun R r => gb (n := 3) rfl rfl r) ?_
  refine andV (fun R r => ga (n := 5) rfl rfl r) (fun R r => gb (n := 4) rfl rfl r) ?_
  refine orV (fun R r => ga (n := 6) rfl rfl r) (fun R r => gb (n := 5) rfl rfl r) ?_
  refine orV (fun R r => ga (n := 7) rfl rfl r) (fun R r => gb (n := 6) rfl rfl r) ?_
  refine orV (fun R r => ga (n := 8) rfl rfl r) (fun R r => gb (n := 7) rfl rfl r) ?_
  exact ⟨_, rfl, by show 10 ≤ sizeLine; decide, fun r hr' => q _ _ (same_upd hr') ⟨r, rfl, upd_same⟩⟩
end
end Toy
set_option Elab.async false
set_option linter.all false
set_option maxRecDepth 100000
set_option maxHeartbeats 4000000
namespace Toy
open PySem L2 Sh
/-! ### outcome_on -/
def val (c : Option Cl) : OI := match c with
  | none => none
  | some c => c.1
theorem ov_flat (a : OI) : flatV (ovV a) = true := by cases a <;> rfl
theorem ovs_flat : ∀ l : List OI, (l.map ovV).all flatV = true
  | [] => rfl
  | a :: l => by rw [List.map_cons, List.all_cons, ov_flat, ovs_flat l]; rfl
theorem ov_eqV (a b : OI) : eqV (ovV a) (ovV b) = decide (a = b) := by
  cases a <;> cases b <;> simp [ovV, eqV, Bool.beq_eq_decide_eq]
theorem ov_in (x : OI) : ∀ l : List OI, inV (ovV x) (l.map ovV) = decide (x ∈ l)
  | [] => by simp [inV]
  | a :: l => by
    have ih := ov_in x l
    unfold inV at ih ⊢
    rw [List.map_cons, List.any_cons, ih, ov_eqV]
    by_cases h : a = x
    · subst h; simp
    · have h' : ¬ x = a := fun e => h e.symm
      simp [h, h']
abbrev tVals (K : PySem.W.Frag) (i j : Nat) : TE := tLc (iTup K (tVar i)) (gName j) tYes (tIf (tTest (tOp (fun x y H Q => y = V.non ∧ Q (.bl (decide (x = V.non))) H) (tVar j) (tC .non))) (tC .non) (tOp (rIxT K) (tVar j) (tC (.int 0)))) [j]
theorem vals_lc {K : PySem.W.Frag} {i j : Nat} {σ : L2.St} {H : Hp} {Q : VK} {a : Addr} {v0 v1 v2 : V} {c0 c1 c2 : Option Cl} (hσ : σ[i]? = some (some (.ref a))) (hj : j < σ.length) (ha : H a = some (.tup [v0, v1, v2])) (i0 : IsC H v0 c0) (i1 : IsC H v1 c1) (i2 : IsC H v2 c2)
    (q : ∀ H' D, Same H H' → H' D = some (.lst [ovV (val c0), ovV (val c1), ovV (val c2)]) → Q (.ref D) H') : tVals K i j σ H Q := by
  refine ⟨_, hσ, a, rfl, ⟨_, SqT.of ha⟩, fun D hD => ?_⟩
  have get : ∀ (n : Nat) (x : V), [v0, v1, v2][n]? = some x → ∃ c, [c0, c1, c2][n]? = some c ∧ IsC H x c := fun n x h => by
    match n, h with
    | 0, h => cases h; exact ⟨c0, rfl, i0⟩
    | 1, h => cases h; exact ⟨c1, rfl, i1⟩
    | 2, h => cases h; exact ⟨c2, rfl, i2⟩
    | n + 3, h => simp at h
  refine lc_tup (K := K) (a := a) (xs := [v0, v1, v2]) (fun n H2 => Same H H2 ∧ H2 D = some (.lst (([c0, c1, c2].take n).map fun c => ovV (val c)))) ⟨same_upd hD, upd_same⟩ (fun n H2 _ ⟨s2, _⟩ => seqT s2 (SqT.of ha)) ?_ ?_
  · rintro n x H2 hn ⟨s2, hacc⟩
    obtain ⟨c, hc, ic⟩ := get n x hn
    have hset : ((wipe σ [j]).set j (some x))[j]? = some (some x) := by
      rw [List.getElem?_set_self (by rw [wipe_length]; exact hj)]
    have done : ∀ y, y = ovV (val c) → Same H (upd H2 D (.lst (([c0, c1, c2].take n).map (fun c => ovV (val c)) ++ [y]))) ∧ upd H2 D (.lst (([c0, c1, c2].take n).map (fun c => ovV (val c)) ++ [y])) D = some (.lst (([c0, c1, c2].take (n + 1)).map fun c => ovV (val c))) := fun y e => by
      refine ⟨fun b u z => by rw [upd_ne (ne_of_none z hD)]; exact s2 _ _ z, ?_⟩
      rw [upd_same, e, ← take_next hc, List.map_append]
      rfl
    have hlen : (([c0, c1, c2].take n).map fun c => ovV (val c)).length < sizeLine := by
      rw [List.length_map, List.length_take]
      exact Nat.lt_of_le_of_lt (Nat.min_le_right _ _) (by show 3 < sizeLine; decide)
    refine ⟨?_, yes_ite ?_⟩
    · show (((σ.set j none).set j (some x)).set j none) = σ.set j none
      rw [List.set_set, List.set_set]
    · refine ⟨_, hset, rfl, _, rfl, iteD (fun h1 => ?_) (fun h1 => ?_)⟩
      · rw [ic.iff] at h1
        subst h1
        exact ⟨_, hacc, hlen, done _ rfl⟩
      · rw [ic.iff] at h1
        obtain ⟨c', rfl⟩ := Option.ne_none_iff_exists'.mp h1
        obtain ⟨t, rfl, e⟩ := ic.same s2
        exact ⟨_, hset, t, _, _, _, rfl, rfl, SqT.of e, rfl, _, hacc, hlen, done _ rfl⟩
  · rintro H2 ⟨s2, hacc⟩
    exact q _ D s2 hacc
def onM (pl : Pl) (js : List Kd) (tot : Tot) (c0 c1 c2 : Option Cl) (root : Bool) : Oc :=
  match mergedM pl (metB c0) (c1.getD (metG pl c0)) (c2.getD (metG pl c0)) with
  | none => .clash
  | some m =>
    if tot.w = .clash then .clash
    else if pl.ti = true ∧ root = false ∧ m.1 = none ∧ tot.n3 = 0 then .none
    else if tot.w = .words ∨ m.1 ∉ dueM (val c0) (val c1) (val c2) then .words
    else if tot.w = .rule ∨ ((!decide (m.1 = none)), (match pl.fl with | none => m.2 | some F => F root (!decide (m.1 = none)) tot.n3), tot.n3) ∉ js then .rule
    else .tree
def spOn (P : Program) (w : World) (K : PySem.W.Frag) (C : Addr) : Sp := fun vs H Q _ => ∃ (p kk ta a : Addr) (pl : Pl) (ys : List V) (js : List Kd) (tot : Tot) (v0 v1 v2 : V) (c0 c1 c2 : Option Cl) (root : Bool), vs = [.ref p, .ref kk, .ref ta, .ref a, .bl root] ∧ PlanAt P w K C H p pl ∧ H kk = some (.tup ys) ∧ AllK H ys js ∧ H ta = some (.tup tot.L) ∧ 0 ≤ tot.n3 ∧ tot.n3 ≤ 2 ∧
  H a = some (.tup [v0, v1, v2]) ∧ IsC H v0 c0 ∧ IsC H v1 c1 ∧ IsC H v2 c2 ∧ ∀ H', Same H H' → Q (.str (onM pl js tot c0 c1 c2 root).s) H'
theorem oc_iff (o : Oc) (x : Oc) : V.str o.s = V.str x.s ↔ o = x := by
  have := oc_eq o x
  simpa using this
section
variable {P : Program} {w : World} {K : PySem.W.Frag} {mg : Str → Option Value} {base : Heap}
theorem ok_outcome_on (T : Tx K mg) : FnOk P w K mg base CX0 2 T.a_outcome_on T.fd_outcome_on ["plan", "kinds", "total", "cells", "root"] (spOn P w K T.c_Plan) := by
  refine T.F_outcome_on.ok sc_outcome_on (fun vs H Q E h => ?_) (fun cdv A outer s H vs Q E hr h => ?_)
  · obtain ⟨p, kk, ta, a, pl, ys, js, tot, v0, v1, v2, c0, c1, c2, root, rfl, _⟩ := h
    rfl
  have hu65 := hu65_of hr
  obtain ⟨p, kk, ta, a, pl, ys, js, tot, v0, v1, v2, c0, c1, c2, root, rfl, hP, hk, ak, ht, n0, n2, ha, i0, i1, i2, q⟩ := h
  refine ⟨_, (pss_cons (ps_set (i := 5) sc_outcome_on.nd rfl (by first | exact Or.inl rfl | exact Or.inr rfl) (pe_call (ok_cell_merged T) (hr.mono (by decide)) (by rfl) T.m_cell_merged T.F_cell_merged.kp T.bi_cell_merged .nil pass0 (pa_cons (pv 0) (pa_cons (pe_call (ok_cells_met T) (hr.mono (by decide)) (by rfl) T.m_cells_met T.F_cells_met.kp T.bi_cells_met .nil pass0 (pa_cons (pv 0) (pa_cons (pv 3) pa_nil))) pa_nil))))
 (pss_cons (ps_if (PW.pt (pw_or (pt_cmpR op_eq (pe_ix ix_tup (pv 2) pe_int (fun _ _ => rfl)) pe_str (nomark _)) (pw_or1 (pt_cmpR op_isN (pv 5) pe_non (nomark _)))))
 (pss_one (ps_ret pe_str))
 pss_nil)
 (pss_cons (ps_asg (pv 5) (pg_tup rfl (pgs_cons (pg_name (i := 6) sc_outcome_on.nd rfl (by first | exact Or.inl rfl | exact Or.inr rfl)) (pgs_cons (pg_name (i := 7) sc_outcome_on.nd rfl (by first | exact Or.inl rfl | exact Or.inr rfl)) pgs_nil))))
 (pss_cons (ps_if (PW.pt (pw_and (pt_val (pe_fld (pv 0) rfl)) (pw_and (pt_not (pt_val (pv 4))) (pw_and (pt_cmpR op_isN (pv 6) pe_non (nomark _)) (pw_and1 (pt_cmpR op_eq (pe_ix ix_tup (pv 2) pe_int (fun _ _ => rfl)) pe_int (nomark _)))))))
 (pss_one (ps_ret pe_str))
 pss_nil)
 (pss_cons (ps_if (pt_cmpR op_notN (pe_fld (pv 0) rfl) pe_non (nomark _))
 (pss_one (ps_set (i := 7) sc_outcome_on.nd rfl (by first | exact Or.inl rfl | exact Or.inr rfl) (pe_dgetN hu65 (pe_fld (pv 0) rfl) (pe_tup (pa_cons (pv 4) (pa_cons (pe_cmpR op_notN (pv 6) pe_non (nomark _)) (pa_cons (pe_ix ix_tup (pv 2) pe_int (fun _ _ => rfl)) pa_nil)))) (fun _ _ => rfl))))
 pss_nil)
 (pss_cons (ps_asg (pe_lc (own := [("cell", 11)]) (g := gName 11) rfl sc_outcome_on.nd (pi_tup (pv 3)) (blkOk_by (own := [("cell", 11)]) (N := N_outcome_on) (sc := defScope s_outcome_on) (by decide +kernel)) (fun _ _ _ _ _ => (pg_name (i := 11) sc_outcome_on.nd rfl (by first | exact Or.inl rfl | exact Or.inr rfl))) (fun _ _ _ _ _ => pts_nil) (fun _ _ _ _ _ => (pe_ifExp (pt_cmpR op_isN (pv 11) pe_non (nomark _)) pe_non (pe_ix (by exact ix_tup : IxR _ (rIxT K)) (pv 11) pe_int (fun _ _ => rfl))))) (pg_unl rfl (pgs_cons (pg_name (i := 8) sc_outcome_on.nd rfl (by first | exact Or.inl rfl | exact Or.inr rfl)) (pgs_cons (pg_name (i := 9) sc_outcome_on.nd rfl (by first | exact Or.inl rfl | exact Or.inr rfl)) (pgs_cons (pg_name (i := 10) sc_outcome_on.nd rfl (by first | exact Or.inl rfl | exact Or.inr rfl)) pgs_nil)))))
 (pss_cons (ps_if (PW.pt (pw_or (pt_cmpR op_eq (pe_ix ix_tup (pv 2) pe_int (fun _ _ => rfl)) pe_str (nomark _)) (pw_or1 (pt_cmpR op_notIn_seq (pv 6) (pe_call (ok_due_values T) (hr.mono (by decide)) (by rfl) T.m_due_values T.F_due_values.kp T.bi_due_values .nil pass0 (pa_cons (pv 8) (pa_cons (pv 9) (pa_cons (pv 10) pa_nil)))) (by rfl)))))
 (pss_one (ps_ret pe_str))
 pss_nil)
 (pss_cons (ps_if (PW.pt (pw_or (pt_cmpR op_eq (pe_ix ix_tup (pv 2) pe_int (fun _ _ => rfl)) pe_str (nomark _)) (pw_or1 (pt_cmpR (op_notInDT hu65) (pe_tup (pa_cons (pe_cmpR op_notN (pv 6) pe_non (nomark _)) (pa_cons (pv 7) (pa_cons (pe_ix ix_tup (pv 2) pe_int (fun _ _ => rfl)) pa_nil)))) (pv 1) (by rfl)))))
 (pss_one (ps_ret pe_str))
 pss_nil)
 (pss_one (ps_ret pe_str)))))))))), ?_⟩
  -- met
  refine asgS (fun v H1 => Same H H1 ∧ IsC H1 v (mergedM pl (metB c0) (c1.getD (metG pl c0)) (c2.getD (metG pl c0)))) (fun R hR => ?_) ?_
  · refine ⟨_, rfl, _, rfl, _, rfl, p, a, pl, v0, v1, v2, c0, c1, c2, rfl, hP, ha, i0, i1, i2, fun H1 l u0 u1 u2 s1 hl k0 k1 k2 => ?_⟩
    exact ⟨p, l, pl, u0, u1, u2, _, _, _, rfl, hP.same s1, hl, k0, k1, k2, fun H2 v s2 iv => hR _ _ ⟨s1.trans s2, iv⟩⟩
  rintro mv H1 ⟨s1, im⟩
  have ht1 := s1 _ _ ht
  have fin : ∀ {o : Oc} {H' : Hp}, onM pl js tot c0 c1 c2 root = o → Same H1 H' → Q (.str o.s) H' := fun e s2 => by
    rw [← e]
    exact q _ (s1.trans s2)
  unfold onM at fin
  generalize mergedM pl (metB c0) (c1.getD (metG pl c0)) (c2.getD (metG pl c0)) = m at im fin
  -- total[9] == 'clash' or met is None
  refine ⟨_, rfl, ta, _, _, _, rfl, rfl, SqT.of ht1, rfl, rfl, _, rfl, iteD (fun h1 => ?_) (fun h1 => ?_)⟩
  · refine iteT ?_
    have h2 : tot.w = .clash := (oc_iff tot.w .clash).mp h1
    refine fin (o := .clash) ?_ (Same.refl _)
    cases m with
    | none => rfl
    | some m => simp [h2]
  have h1' : ¬ tot.w = .clash := fun z => h1 ((oc_iff tot.w .clash).mpr z)
  refine ⟨_, rfl, rfl, _, rfl, iteD (fun h2 => ?_) (fun h2 => ?_)⟩
  all_goals rw [im.iff] at h2
  · subst h2
    exact fin (o := .clash) rfl (Same.refl _)
  obtain ⟨m, rfl⟩ := Option.ne_none_iff_exists'.mp h2
  dsimp only at fin
  rw [if_neg h1'] at fin
  obtain ⟨mt, rfl, hm⟩ := im
  refine nextS ?_
  dsimp only
  refine ⟨_, rfl, mt, _, rfl, SqT.of hm, rfl, _, _, rfl, _, _, rfl, rfl, ?_⟩
  dsimp only
  obtain ⟨dx, fv, hp, hfl⟩ := hP.same s1
  -- the tidy test
  refine seqW (fun σ' H' => H' = H1 ∧ ¬ (pl.ti = true ∧ root = false ∧ m.1 = none ∧ tot.n3 = 0) ∧ σ' = [some (.ref p), some (.ref kk), some (.ref ta), some (.ref a), some (.bl root), some (.ref mt), some (ovV m.1), some (.bl m.2), none, none, none, none]) (fun N hN => ?_) ?_
  · refine ⟨_, rfl, p, T.c_Plan, dx, _, _, rfl, hp, T.cl_Plan, T.na_Plan_tidy, pf_tidy _ _, _, rfl, ite2 (fun t1 => ?_) (fun t1 => iteF (hN _ _ ⟨rfl, fun z => t1 z.1, rfl⟩))⟩
    refine ⟨_, rfl, _, rfl, ?_⟩
    cases root with
    | true => exact iteF (iteF (hN _ _ ⟨rfl, fun z => (by cases z.2.1), rfl⟩))
    | false =>
      refine iteT ?_
      refine ⟨_, rfl, rfl, _, rfl, iteD (fun t2 => ?_) (fun t2 => iteF (hN _ _ ⟨rfl, fun z => t2 ((ov_iff _).mpr z.2.2.1), rfl⟩))⟩
      rw [ov_iff] at t2
      refine ⟨_, rfl, ta, _, _, _, rfl, rfl, SqT.of ht1, rfl, rfl, _, rfl, iteD (fun t3 => ?_) (fun t3 => hN _ _ ⟨rfl, fun z => t3 (by rw [z.2.2.2]), rfl⟩)⟩
      have t4 : tot.n3 = 0 := V.int.inj t3
      exact fin (o := .none) (by rw [if_pos ⟨t1, rfl, t2, t4⟩]) (Same.refl _)
  rintro σ' H' ⟨rfl, hno, rfl⟩
  rw [if_neg hno] at fin
  -- the flag
  refine seqW (fun σ' H2 => Same H' H2 ∧ σ' = [some (.ref p), some (.ref kk), some (.ref ta), some (.ref a), some (.bl root), some (.ref mt), some (ovV m.1), some (.bl (match pl.fl with | none => m.2 | some F => F root (!decide (m.1 = none)) tot.n3)), none, none, none, none]) (fun N hN => ?_) ?_
  · refine ⟨_, rfl, p, T.c_Plan, dx, _, _, rfl, hp, T.cl_Plan, T.na_Plan_by_kind, pf_kind _ _, rfl, _, rfl, iteN (fun t1 => ?_) (fun t1 => ?_)⟩
    · cases hF : pl.fl with
      | none =>
        rw [hF] at hfl
        exact absurd hfl t1
      | some F =>
        rw [hF] at hfl hN
        obtain ⟨d, rfl, hd⟩ := hfl
        refine ⟨_, rfl, p, T.c_Plan, dx, _, _, rfl, hp, T.cl_Plan, T.na_Plan_by_kind, pf_kind _ _, _, rfl, _, rfl, rfl, _, rfl, ta, _, _, _, rfl, rfl, SqT.of ht1, rfl, by show 3 ≤ sizeLine; decide, fun r hr' => ?_⟩
        have s2 := same_upd (o := .tup [.bl root, .bl (!decide (ovV m.1 = V.non)), .int tot.n3]) hr'
        refine ⟨d, r, kv12 F, nk3 (root, !decide (m.1 = none), tot.n3), _, rfl, rfl, DN.same s2 hd, key3 (SqT.of (by rw [upd_same, ov_isN])), val12 F n0 n2, hN _ _ ⟨s2, rfl⟩⟩
    · cases hF : pl.fl with
      | none =>
        rw [hF] at hN
        exact hN _ _ ⟨Same.refl _, rfl⟩
      | some F =>
        rw [hF] at hfl
        obtain ⟨d, e, _⟩ := hfl
        rw [e] at t1
        cases t1
  rintro σ' H2 ⟨s2, rfl⟩
  generalize (match pl.fl with | none => m.2 | some F => F root (!decide (m.1 = none)) tot.n3) = f at fin
  have s3 := s1.trans s2
  refine asgS (fun v H3 => ∃ D, v = .ref D ∧ Same H2 H3 ∧ H3 D = some (.lst [ovV (val c0), ovV (val c1), ovV (val c2)])) (fun R hR => ?_) ?_
  · exact vals_lc (i := 3) (j := 11) (a := a) rfl (by show 11 < 12; decide) (s3 _ _ ha) (i0.same s3) (i1.same s3) (i2.same s3) fun H3 D s4 hD => hR _ _ ⟨D, rfl, s4, hD⟩
  rintro v H3 ⟨D, rfl, s4, hD⟩
  refine ⟨D, _, rfl, SqL.of hD, rfl, _, _, rfl, _, _, rfl, _, _, rfl, rfl, ?_⟩
  have s5 := s2.trans s4
  have ht3 := s5 _ _ ht1
  -- words
  refine ⟨_, rfl, ta, _, _, _, rfl, rfl, SqT.of ht3, rfl, rfl, _, rfl, iteD (fun t1 => ?_) (fun t1 => ?_)⟩
  · refine iteT ?_
    have t2 : tot.w = .words := (oc_iff tot.w .words).mp t1
    exact fin (o := .words) (by rw [if_pos (.inl t2)]) s5
  have t1' : ¬ tot.w = .words := fun z => t1 ((oc_iff tot.w .words).mpr z)
  refine ⟨_, rfl, _, rfl, _, rfl, _, rfl, val c0, val c1, val c2, rfl, fun H4 da s6 hda => ?_⟩
  refine ⟨da, _, rfl, .inr (SqT.of hda), ov_flat _, ovs_flat _, _, rfl, ?_⟩
  show if (!inV (ovV m.1) ((dueM (val c0) (val c1) (val c2)).map ovV)) = true then _ else _
  rw [ov_in]
  have s7 := s5.trans s6
  have ht4 := s7 _ _ ht1
  refine iteN (fun t2 => ?_) (fun t2 => ?_)
  · exact fin (o := .words) (by rw [if_pos (.inr t2)]) s7
  rw [if_neg (fun z => z.elim t1' (fun z => z t2))] at fin
  refine nextS ?_
  dsimp only
  refine ⟨_, rfl, ta, _, _, _, rfl, rfl, SqT.of ht4, rfl, rfl, _, rfl, iteD (fun t3 => ?_) (fun t3 => ?_)⟩
  · refine iteT ?_
    have t4 : tot.w = .rule := (oc_iff tot.w .rule).mp t3
    exact fin (o := .rule) (by rw [if_pos (.inl t4)]) s7
  have t3' : ¬ tot.w = .rule := fun z => t3 ((oc_iff tot.w .rule).mpr z)
  refine ⟨_, rfl, rfl, _, rfl, _, rfl, ta, _, _, _, rfl, rfl, SqT.of ht4, rfl, by show 3 ≤ sizeLine; decide, fun r hr' => ?_⟩
  have s8 := same_upd (o := .tup [.bl (!decide (ovV m.1 = V.non)), .bl f, .int tot.n3]) hr'
  have s9 := s7.trans s8
  refine ⟨_, rfl, kdD (!decide (m.1 = none), f, tot.n3), js.map kdD, IsK.dp ⟨r, rfl, by rw [upd_same, ov_isN]⟩, .tup (SqT.of ((s1.trans s9) _ _ hk)) (AllK.dp (AllK.same (s1.trans s9) ak)), kd_shaped _, kds_shapedT _, _, rfl, ?_⟩
  rw [kd_any]
  refine iteN (fun t4 => ?_) (fun t4 => ?_)
  · exact fin (o := .rule) (by rw [if_pos (.inr t4)]) s9
  · exact fin (o := .tree) (by rw [if_neg (fun z => z.elim t3' (fun z => z t4))]) s9
end
end Toy
set_option Elab.async false
set_option linter.all false
set_option maxRecDepth 100000
set_option maxHeartbeats 4000000
namespace Toy
open PySem L2 Sh
/-! ### case_made, closed -/
def same0M (t : Bool) (b o : Option Cl) : Bool := decide (o = b) && (decide (b = none) || t)
def alike0M (t : Bool) (b o : OI) : Bool := t || (!decide (b = none) && decide (o = b))
def numM (c : Option Cl) (z : Int) : OI := match c with
  | none => none
  | some _ => some z
def caseM (pl : Pl) (js : List Kd) (tot : Tot) (c0 c1 c2 : Option Cl) (root : Bool) : Cas :=
  let s0 := same0M tot.b4 c0 c1
  let s1 := same0M tot.b5 c0 c2
  let a0 := alike0M tot.b6 (val c0) (val c1)
  let a1 := alike0M tot.b7 (val c0) (val c2)
  let way := wayM pl (numM c0 0) (numM c1 (1 - b2 s0)) (numM c2 (2 - 2 * b2 s1))
  ⟨!decide (c0 = none), !decide (c1 = none), !decide (c2 = none), s0, s1, a0, a1, tot.b8 || (!decide (val c1 = val c0) && !decide (val c2 = val c0)),
    if way = .on then onM pl js tot c0 c1 c2 root else if way = .one then (if (s1 || !a0) = true then .tree else .words) else if way = .other then (if (s0 || !a1) = true then .tree else .words) else way⟩
def spCaseMade (P : Program) (w : World) (K : PySem.W.Frag) (C : Addr) : Sp := fun vs H Q _ => ∃ (p kk ta a : Addr) (pl : Pl) (ys : List V) (js : List Kd) (tot : Tot) (v0 v1 v2 : V) (c0 c1 c2 : Option Cl) (root : Bool), vs = [.ref p, .ref kk, .ref ta, .ref a, .bl root] ∧ PlanAt P w K C H p pl ∧ H kk = some (.tup ys) ∧ AllK H ys js ∧ H ta = some (.tup tot.L) ∧ 0 ≤ tot.n3 ∧ tot.n3 ≤ 2 ∧
  H a = some (.tup [v0, v1, v2]) ∧ IsC H v0 c0 ∧ IsC H v1 c1 ∧ IsC H v2 c2 ∧ ∀ H' r, Same H H' → IsS H' r (caseM pl js tot c0 c1 c2 root) → Q r H'
theorem notV {ta : TE} {σ : L2.St} {H : Hp} {Q : VK} {b : Bool} (h : ∀ R : VK, R (.bl b) H → ta σ H R) (q : Q (.bl (!b)) H) : tNotV ta σ H Q := h _ ⟨b, rfl, q⟩
section
variable {P : Program} {w : World} {K : PySem.W.Frag} {mg : Str → Option Value} {base : Heap}
theorem ok_case_made (T : Tx K mg) : FnOk P w K mg base CX0 3 T.a_case_made T.fd_case_made ["plan", "kinds", "total", "cells", "root"] (spCaseMade P w K T.c_Plan) := by
  refine T.F_case_made.ok sc_case_made (fun vs H Q E h => ?_) (fun cdv A outer s H vs Q E hr h => ?_)
  · obtain ⟨p, kk, ta, a, pl, ys, js, tot, v0, v1, v2, c0, c1, c2, root, rfl, _⟩ := h
    rfl
  obtain ⟨p, kk, ta, a, pl, ys, js, tot, v0, v1, v2, c0, c1, c2, root, rfl, hP, hk, ak, ht, n0, n2, ha, i0, i1, i2, q⟩ := h
  refine ⟨_, (pss_cons (ps_asg (pv 3) (pg_tup rfl (pgs_cons (pg_name (i := 5) sc_case_made.nd rfl (by first | exact Or.inl rfl | exact Or.inr rfl)) (pgs_cons (pg_name (i := 6) sc_case_made.nd rfl (by first | exact Or.inl rfl | exact Or.inr rfl)) (pgs_cons (pg_name (i := 7) sc_case_made.nd rfl (by first | exact Or.inl rfl | exact Or.inr rfl)) pgs_nil)))))
 (pss_cons (ps_asg (pe_lc (own := [("cell", 17)]) (g := gName 17) rfl sc_case_made.nd (pi_tup (pv 3)) (blkOk_by (own := [("cell", 17)]) (N := N_case_made) (sc := defScope s_case_made) (by decide +kernel)) (fun _ _ _ _ _ => (pg_name (i := 17) sc_case_made.nd rfl (by first | exact Or.inl rfl | exact Or.inr rfl))) (fun _ _ _ _ _ => pts_nil) (fun _ _ _ _ _ => (pe_ifExp (pt_cmpR op_isN (pv 17) pe_non (nomark _)) pe_non (pe_ix (by exact ix_tup : IxR _ (rIxT K)) (pv 17) pe_int (fun _ _ => rfl))))) (pg_unl rfl (pgs_cons (pg_name (i := 8) sc_case_made.nd rfl (by first | exact Or.inl rfl | exact Or.inr rfl)) (pgs_cons (pg_name (i := 9) sc_case_made.nd rfl (by first | exact Or.inl rfl | exact Or.inr rfl)) (pgs_cons (pg_name (i := 10) sc_case_made.nd rfl (by first | exact Or.inl rfl | exact Or.inr rfl)) pgs_nil)))))
 (pss_cons (ps_set (i := 11) sc_case_made.nd rfl (by first | exact Or.inl rfl | exact Or.inr rfl) (pe_tup (pa_cons (pe_and (pe_cmpR (op_eqD hr.units) (pv 6) (pv 5) (nomark _)) (pe_one (pe_or (pe_cmpR op_isN (pv 5) pe_non (nomark _)) (pe_one (pe_ix ix_tup (pv 2) pe_int (fun _ _ => rfl)))))) (pa_cons (pe_and (pe_cmpR (op_eqD hr.units) (pv 7) (pv 5) (nomark _)) (pe_one (pe_or (pe_cmpR op_isN (pv 5) pe_non (nomark _)) (pe_one (pe_ix ix_tup (pv 2) pe_int (fun _ _ => rfl)))))) pa_nil))))
 (pss_cons (ps_set (i := 12) sc_case_made.nd rfl (by first | exact Or.inl rfl | exact Or.inr rfl) (pe_tup (pa_cons (pe_or (pe_ix ix_tup (pv 2) pe_int (fun _ _ => rfl)) (pe_one (pe_and (pe_cmpR op_notN (pv 8) pe_non (nomark _)) (pe_one (pe_cmpR op_eq (pv 9) (pv 8) (nomark _)))))) (pa_cons (pe_or (pe_ix ix_tup (pv 2) pe_int (fun _ _ => rfl)) (pe_one (pe_and (pe_cmpR op_notN (pv 8) pe_non (nomark _)) (pe_one (pe_cmpR op_eq (pv 10) (pv 8) (nomark _)))))) pa_nil))))
 (pss_cons (ps_set (i := 13) sc_case_made.nd rfl (by first | exact Or.inl rfl | exact Or.inr rfl) (pe_or (pe_ix ix_tup (pv 2) pe_int (fun _ _ => rfl)) (pe_one (pe_and (pe_cmpR op_ne (pv 9) (pv 8) (nomark _)) (pe_one (pe_cmpR op_ne (pv 10) (pv 8) (nomark _)))))))
 (pss_cons (ps_set (i := 14) sc_case_made.nd rfl (by first | exact Or.inl rfl | exact Or.inr rfl) (pe_lst (pa_cons (pe_ifExp (pt_cmpR op_isN (pv 5) pe_non (nomark _)) pe_non pe_int) pa_nil)))
 (pss_cons (ps_expr (pe_bm PySem.F.plainAttrs_list PySem.F.slot_list_append PySem.F.type_list_append mt_append (pv 14) (pa_cons (pe_ifExp (pt_cmpR op_isN (pv 6) pe_non (nomark _)) pe_non (pe_op op_sub pe_int (pe_callTy call_int1 (by rfl) T.b_int (by decide +kernel) (pa_cons (pe_ix ix_tup (pv 11) pe_int (fun _ _ => rfl)) pa_nil)))) pa_nil)))
 (pss_cons (ps_expr (pe_bm PySem.F.plainAttrs_list PySem.F.slot_list_append PySem.F.type_list_append mt_append (pv 14) (pa_cons (pe_ifExp (pt_cmpR op_isN (pv 7) pe_non (nomark _)) pe_non (pe_op op_sub pe_int (pe_op op_mul pe_int (pe_callTy call_int1 (by rfl) T.b_int (by decide +kernel) (pa_cons (pe_ix ix_tup (pv 11) pe_int (fun _ _ => rfl)) pa_nil))))) pa_nil)))
 (pss_cons (ps_set (i := 15) sc_case_made.nd rfl (by first | exact Or.inl rfl | exact Or.inr rfl) (pe_call (ok_way_of T) (hr.mono (by decide)) (by rfl) T.m_way_of T.F_way_of.kp T.bi_way_of .nil pass0 (pa_cons (pv 0) (pa_cons (pe_ix ix_list (pv 14) pe_int (fun _ _ => rfl)) (pa_cons (pe_ix ix_list (pv 14) pe_int (fun _ _ => rfl)) (pa_cons (pe_ix ix_list (pv 14) pe_int (fun _ _ => rfl)) pa_nil))))))
 (pss_cons (ps_set (i := 16) sc_case_made.nd rfl (by first | exact Or.inl rfl | exact Or.inr rfl) (pv 15))
 (pss_cons (ps_if (pt_cmpR op_eq (pv 15) pe_str (nomark _))
 (pss_one (ps_set (i := 16) sc_case_made.nd rfl (by first | exact Or.inl rfl | exact Or.inr rfl) (pe_call (ok_outcome_on T) (hr.mono (by decide)) (by rfl) T.m_outcome_on T.F_outcome_on.kp T.bi_outcome_on .nil pass0 (pa_cons (pv 0) (pa_cons (pv 1) (pa_cons (pv 2) (pa_cons (pv 3) (pa_cons (pv 4) pa_nil))))))))
 (pss_one (ps_if (pt_cmpR op_eq (pv 15) pe_str (nomark _))
 (pss_one (ps_set (i := 16) sc_case_made.nd rfl (by first | exact Or.inl rfl | exact Or.inr rfl) (pe_ifExp (PW.pt (pw_or (pt_val (pe_ix ix_tup (pv 11) pe_int (fun _ _ => rfl))) (pw_or1 (pt_not (pt_val (pe_ix ix_tup (pv 12) pe_int (fun _ _ => rfl))))))) pe_str pe_str)))
 (pss_one (ps_if (pt_cmpR op_eq (pv 15) pe_str (nomark _))
 (pss_one (ps_set (i := 16) sc_case_made.nd rfl (by first | exact Or.inl rfl | exact Or.inr rfl) (pe_ifExp (PW.pt (pw_or (pt_val (pe_ix ix_tup (pv 11) pe_int (fun _ _ => rfl))) (pw_or1 (pt_not (pt_val (pe_ix ix_tup (pv 12) pe_int (fun _ _ => rfl))))))) pe_str pe_str)))
 pss_nil)))))
 (pss_one (ps_ret (pe_op op_catA (pe_op op_catA (pe_op op_catA (pe_tup (pa_cons (pe_cmpR op_notN (pv 5) pe_non (nomark _)) (pa_cons (pe_cmpR op_notN (pv 6) pe_non (nomark _)) (pa_cons (pe_cmpR op_notN (pv 7) pe_non (nomark _)) pa_nil)))) (pv 11)) (pv 12)) (pe_tup (pa_cons (pv 13) (pa_cons (pv 16) pa_nil))))))))))))))))), ?_⟩
  -- base, one, other
  refine ⟨_, rfl, a, _, rfl, SqT.of ha, rfl, _, _, rfl, _, _, rfl, _, _, rfl, rfl, ?_⟩
  dsimp only
  -- was, left, right
  refine asgS (fun v H3 => ∃ D, v = .ref D ∧ Same H H3 ∧ H3 D = some (.lst [ovV (val c0), ovV (val c1), ovV (val c2)])) (fun R hR => ?_) ?_
  · exact vals_lc (a := a) rfl (by show 17 < 18; decide) ha i0 i1 i2 fun H3 D s4 hD => hR _ _ ⟨D, rfl, s4, hD⟩
  rintro v H1 ⟨D, rfl, s1, hD⟩
  refine ⟨D, _, rfl, SqL.of hD, rfl, _, _, rfl, _, _, rfl, _, _, rfl, rfl, ?_⟩
  have ht1 := s1 _ _ ht
  have j0 := i0.same s1
  have j1 := i1.same s1
  have j2 := i2.same s1
  have gt : ∀ {n : Nat} {x : V} {R : VK} {σ : L2.St} {i : Nat} {Hx : Hp}, Hx ta = some (.tup tot.L) → σ[i]? = some (some (.ref ta)) → atI tot.L (n : Int) = some x → R x Hx → tOp (rIxT K) (tVar i) (tC (.int (n : Int))) σ Hx R := fun hx h e r => ⟨_, h, ta, _, _, _, rfl, rfl, SqT.of hx, e, r⟩
  -- same
  refine asgS (fun v H2 => Same H1 H2 ∧ ∃ sa, v = .ref sa ∧ H2 sa = some (.tup [.bl (same0M tot.b4 c0 c1), .bl (same0M tot.b5 c0 c2)])) (fun R hR => ?_) ?_
  · refine andV (a := decide (c1 = c0)) (b := decide (c0 = none) || tot.b4) (fun R r => ⟨_, rfl, _, rfl, clD c1, clD c0, j1.dp, j0.dp, clD_shaped _, clD_shaped _, by rw [clD_eqv]; exact r⟩) (fun R r => orV (a := decide (c0 = none)) (b := tot.b4) (fun R r => ⟨_, rfl, rfl, by rw [j0.non]; exact r⟩) (fun R r => gt (n := 4) ht1 rfl rfl r) r) ?_
    refine andV (a := decide (c2 = c0)) (b := decide (c0 = none) || tot.b5) (fun R r => ⟨_, rfl, _, rfl, clD c2, clD c0, j2.dp, j0.dp, clD_shaped _, clD_shaped _, by rw [clD_eqv]; exact r⟩) (fun R r => orV (a := decide (c0 = none)) (b := tot.b5) (fun R r => ⟨_, rfl, rfl, by rw [j0.non]; exact r⟩) (fun R r => gt (n := 5) ht1 rfl rfl r) r) ?_
    exact ⟨by show 2 ≤ sizeLine; decide, fun r hr' => hR _ _ ⟨same_upd hr', r, rfl, upd_same⟩⟩
  rintro v H2 ⟨s2, sa, rfl, hsa⟩
  have ht2 := s2 _ _ ht1
  -- alike
  refine asgS (fun v H3 => Same H2 H3 ∧ ∃ la, v = .ref la ∧ H3 la = some (.tup [.bl (alike0M tot.b6 (val c0) (val c1)), .bl (alike0M tot.b7 (val c0) (val c2))])) (fun R hR => ?_) ?_
  · refine orV (a := tot.b6) (b := !decide (val c0 = none) && decide (val c1 = val c0)) (fun R r => gt (n := 6) ht2 rfl rfl r) (fun R r => andV (a := !decide (val c0 = none)) (b := decide (val c1 = val c0)) (fun R r => ⟨_, rfl, rfl, by rw [ov_isN]; exact r⟩) (fun R r => ⟨_, rfl, _, rfl, ov_scal _ _, by rw [ov_eq]; exact r⟩) r) ?_
    refine orV (a := tot.b7) (b := !decide (val c0 = none) && decide (val c2 = val c0)) (fun R r => gt (n := 7) ht2 rfl rfl r) (fun R r => andV (a := !decide (val c0 = none)) (b := decide (val c2 = val c0)) (fun R r => ⟨_, rfl, rfl, by rw [ov_isN]; exact r⟩) (fun R r => ⟨_, rfl, _, rfl, ov_scal _ _, by rw [ov_eq]; exact r⟩) r) ?_
    exact ⟨by show 2 ≤ sizeLine; decide, fun r hr' => hR _ _ ⟨same_upd hr', r, rfl, upd_same⟩⟩
  rintro v H3 ⟨s3, la, rfl, hla⟩
  have ht3 := s3 _ _ ht2
  have hsa3 := s3 _ _ hsa
  -- both
  refine asgS (fun v H4 => H4 = H3 ∧ v = .bl (tot.b8 || (!decide (val c1 = val c0) && !decide (val c2 = val c0)))) (fun R hR => ?_) ?_
  · exact orV (a := tot.b8) (b := !decide (val c1 = val c0) && !decide (val c2 = val c0)) (fun R r => gt (n := 8) ht3 rfl rfl r) (fun R r => andV (a := !decide (val c1 = val c0)) (b := !decide (val c2 = val c0)) (fun R r => ⟨_, rfl, _, rfl, ov_scal _ _, by rw [ov_eq]; exact r⟩) (fun R r => ⟨_, rfl, _, rfl, ov_scal _ _, by rw [ov_eq]; exact r⟩) r) (hR _ _ ⟨rfl, rfl⟩)
  rintro v H4 ⟨rfl, rfl⟩
  have s13 : Same H1 H4 := s2.trans s3
  -- numbers
  refine asgS (fun v H5 => Same H4 H5 ∧ ∃ nl, v = .ref nl ∧ H4 nl = none ∧ H5 nl = some (.lst [ovV (numM c0 0)])) (fun R hR => ?_) ?_
  · refine ⟨_, rfl, rfl, _, rfl, iteD (fun h1 => ?_) (fun h1 => ?_)⟩
    all_goals rw [j0.iff] at h1
    · exact ⟨by show 1 ≤ sizeLine; decide, fun r hr' => hR _ _ ⟨same_upd hr', r, rfl, hr', by rw [upd_same, h1]; rfl⟩⟩
    · obtain ⟨c, rfl⟩ := Option.ne_none_iff_exists'.mp h1
      exact ⟨by show 1 ≤ sizeLine; decide, fun r hr' => hR _ _ ⟨same_upd hr', r, rfl, hr', by rw [upd_same]; rfl⟩⟩
  rintro v H5 ⟨s5, nl, rfl, nn, hnl⟩
  have kput : ∀ {Hx : Hp} {o : HO}, Same H4 Hx → Same H4 (upd Hx nl o) := fun sx b u e => by
    rw [upd_ne (ne_of_none e nn)]
    exact sx _ _ e
  dsimp only [gName]
  refine seqW (fun σ' Hx => Same H4 Hx ∧ Hx nl = some (.lst [ovV (numM c0 0), ovV (numM c1 (1 - b2 (same0M tot.b4 c0 c1)))]) ∧ σ' = [some (.ref p), some (.ref kk), some (.ref ta), some (.ref a), some (.bl root), some v0, some v1, some v2, some (ovV (val c0)), some (ovV (val c1)), some (ovV (val c2)), some (.ref sa), some (.ref la), some (.bl (tot.b8 || (!decide (val c1 = val c0) && !decide (val c2 = val c0)))), some (.ref nl), none, none, none]) (fun N hN => ?_) ?_
  · refine ⟨_, rfl, .inl ⟨rfl, _, SqL.of hnl⟩, _, rfl, rfl, _, rfl, iteD (fun h1 => ?_) (fun h1 => ?_)⟩
    all_goals rw [j1.iff] at h1
    · refine ⟨nl, _, _, rfl, rfl, hnl, by show 1 < sizeLine; decide, hN _ _ ⟨kput s5, ?_, rfl⟩⟩
      rw [upd_same, h1]
      rfl
    · obtain ⟨c, rfl⟩ := Option.ne_none_iff_exists'.mp h1
      refine ⟨_, rfl, sa, _, _, _, rfl, rfl, SqT.of (s5 _ _ hsa3), rfl, .inr ⟨_, rfl, _, _, rfl, rfl, nl, _, _, rfl, rfl, hnl, by show 1 < sizeLine; decide, hN _ _ ⟨kput s5, ?_, rfl⟩⟩⟩
      rw [upd_same]
      rfl
  rintro σ' H6 ⟨s6, hnl6, rfl⟩
  refine seqW (fun σ' Hx => Same H4 Hx ∧ Hx nl = some (.lst [ovV (numM c0 0), ovV (numM c1 (1 - b2 (same0M tot.b4 c0 c1))), ovV (numM c2 (2 - 2 * b2 (same0M tot.b5 c0 c2)))]) ∧ σ' = [some (.ref p), some (.ref kk), some (.ref ta), some (.ref a), some (.bl root), some v0, some v1, some v2, some (ovV (val c0)), some (ovV (val c1)), some (ovV (val c2)), some (.ref sa), some (.ref la), some (.bl (tot.b8 || (!decide (val c1 = val c0) && !decide (val c2 = val c0)))), some (.ref nl), none, none, none]) (fun N hN => ?_) ?_
  · refine ⟨_, rfl, .inl ⟨rfl, _, SqL.of hnl6⟩, _, rfl, rfl, _, rfl, iteD (fun h1 => ?_) (fun h1 => ?_)⟩
    all_goals rw [j2.iff] at h1
    · refine ⟨nl, _, _, rfl, rfl, hnl6, by show 2 < sizeLine; decide, hN _ _ ⟨kput s6, ?_, rfl⟩⟩
      rw [upd_same, h1]
      rfl
    · obtain ⟨c, rfl⟩ := Option.ne_none_iff_exists'.mp h1
      refine ⟨_, rfl, sa, _, _, _, rfl, rfl, SqT.of (s6 _ _ hsa3), rfl, .inr ⟨_, rfl, _, _, rfl, rfl, .inl ⟨by decide, by decide⟩, _, _, rfl, rfl, nl, _, _, rfl, rfl, hnl6, by show 2 < sizeLine; decide, hN _ _ ⟨kput s6, ?_, rfl⟩⟩⟩
      rw [upd_same]
      rfl
  rintro σ' H7 ⟨s7, hnl7, rfl⟩
  have s17 : Same H1 H7 := s13.trans s7
  have s07 : Same H H7 := s1.trans s17
  have hsa7 := s7 _ _ hsa3
  have hla7 := s7 _ _ hla
  -- way
  refine ⟨_, rfl, _, rfl, nl, _, _, _, rfl, rfl, SqL.of hnl7, rfl, _, rfl, nl, _, _, _, rfl, rfl, SqL.of hnl7, rfl, _, rfl, nl, _, _, _, rfl, rfl, SqL.of hnl7, rfl, p, pl, _, _, _, rfl, hP.same s07, ?_⟩
  refine ⟨_, rfl, ?_⟩
  dsimp only [gName]
  unfold caseM at q
  dsimp only at q
  generalize wayM pl (numM c0 0) (numM c1 (1 - b2 (same0M tot.b4 c0 c1))) (numM c2 (2 - 2 * b2 (same0M tot.b5 c0 c2))) = way at q ⊢
  generalize (tot.b8 || (!decide (val c1 = val c0) && !decide (val c2 = val c0))) = both at q ⊢
  generalize same0M tot.b4 c0 c1 = s0 at q hsa7
  generalize same0M tot.b5 c0 c2 = s1' at q hsa7
  generalize alike0M tot.b6 (val c0) (val c1) = a0 at q hla7
  generalize alike0M tot.b7 (val c0) (val c2) = a1 at q hla7
  clear hsa hsa3 hla hnl hnl6 hnl7
  refine seqW (fun σ' Hx => Same H7 Hx ∧ σ' = [some (.ref p), some (.ref kk), some (.ref ta), some (.ref a), some (.bl root), some v0, some v1, some v2, some (ovV (val c0)), some (ovV (val c1)), some (ovV (val c2)), some (.ref sa), some (.ref la), some (.bl both), some (.ref nl), some (.str way.s), some (.str (if way = .on then onM pl js tot c0 c1 c2 root else if way = .one then (if (s1' || !a0) = true then .tree else .words) else if way = .other then (if (s0 || !a1) = true then .tree else .words) else way : Oc).s), none]) (fun N hN => ?_) ?_
  · refine ⟨_, rfl, rfl, _, rfl, iteD (fun h1 => ?_) (fun h1 => ?_)⟩
    · have h2 : way = .on := (oc_iff way .on).mp h1
      rw [if_pos h2] at hN
      exact ⟨_, rfl, _, rfl, _, rfl, _, rfl, _, rfl, p, kk, ta, a, pl, ys, js, tot, v0, v1, v2, c0, c1, c2, root, rfl, hP.same s07, s07 _ _ hk, AllK.same s07 ak, s07 _ _ ht, n0, n2, s07 _ _ ha, i0.same s07, i1.same s07, i2.same s07, fun H8 s8 => hN _ _ ⟨s8, rfl⟩⟩
    have h1' : ¬ way = .on := fun z => h1 ((oc_iff way .on).mpr z)
    rw [if_neg h1'] at hN
    refine ⟨_, rfl, rfl, _, rfl, iteD (fun h2 => ?_) (fun h2 => ?_)⟩
    · have h3 : way = .one := (oc_iff way .one).mp h2
      rw [if_pos h3] at hN
      refine ⟨_, rfl, sa, _, _, _, rfl, rfl, SqT.of hsa7, rfl, _, rfl, ite2 (fun h4 => ?_) (fun h4 => ?_)⟩
      · refine iteT ?_
        rw [h4, Bool.true_or, if_pos rfl] at hN
        exact hN _ _ ⟨Same.refl _, rfl⟩
      · refine ⟨_, rfl, la, _, _, _, rfl, rfl, SqT.of hla7, rfl, _, rfl, ?_⟩
        rw [Bool.not_eq_true] at h4
        rw [h4, Bool.false_or] at hN
        refine ite2 (fun h5 => ?_) (fun h5 => ?_)
        · rw [if_pos h5] at hN
          exact hN _ _ ⟨Same.refl _, rfl⟩
        · rw [if_neg h5] at hN
          exact hN _ _ ⟨Same.refl _, rfl⟩
    have h2' : ¬ way = .one := fun z => h2 ((oc_iff way .one).mpr z)
    rw [if_neg h2'] at hN
    refine ⟨_, rfl, rfl, _, rfl, iteD (fun h3 => ?_) (fun h3 => ?_)⟩
    · have h4 : way = .other := (oc_iff way .other).mp h3
      rw [if_pos h4] at hN
      refine ⟨_, rfl, sa, _, _, _, rfl, rfl, SqT.of hsa7, rfl, _, rfl, ite2 (fun h5 => ?_) (fun h5 => ?_)⟩
      · refine iteT ?_
        rw [h5, Bool.true_or, if_pos rfl] at hN
        exact hN _ _ ⟨Same.refl _, rfl⟩
      · refine ⟨_, rfl, la, _, _, _, rfl, rfl, SqT.of hla7, rfl, _, rfl, ?_⟩
        rw [Bool.not_eq_true] at h5
        rw [h5, Bool.false_or] at hN
        refine ite2 (fun h6 => ?_) (fun h6 => ?_)
        · rw [if_pos h6] at hN
          exact hN _ _ ⟨Same.refl _, rfl⟩
        · rw [if_neg h6] at hN
          exact hN _ _ ⟨Same.refl _, rfl⟩
    · have h3' : ¬ way = .other := fun z => h3 ((oc_iff way .other).mpr z)
      rw [if_neg h3'] at hN
      exact hN _ _ ⟨Same.refl _, rfl⟩
  rintro σ' H8 ⟨s8, rfl⟩
  generalize (if way = .on then onM pl js tot c0 c1 c2 root else if way = .one then (if (s1' || !a0) = true then .tree else .words) else if way = .other then (if (s0 || !a1) = true then .tree else .words) else way : Oc) = out at q
  -- the case
  refine ⟨_, rfl, rfl, _, rfl, rfl, _, rfl, rfl, by show 3 ≤ sizeLine; decide, fun r1 n1 => ?_⟩
  have s9 := same_upd (o := .tup [.bl (!decide (v0 = V.non)), .bl (!decide (v1 = V.non)), .bl (!decide (v2 = V.non))]) n1
  refine ⟨_, rfl, r1, sa, _, _, rfl, rfl, SqT.of upd_same, SqT.of (s9 _ _ (s8 _ _ hsa7)), by show 5 ≤ sizeLine; decide, (fun z => nomatch z), (fun _ z => nomatch z), fun _ _ r2 n2' => ?_⟩
  have s10 := same_upd (o := .tup ([.bl (!decide (v0 = V.non)), .bl (!decide (v1 = V.non)), .bl (!decide (v2 = V.non))] ++ [.bl s0, .bl s1'])) n2'
  refine ⟨_, rfl, r2, la, _, _, rfl, rfl, SqT.of upd_same, SqT.of (s10 _ _ (s9 _ _ (s8 _ _ hla7))), by show 7 ≤ sizeLine; decide, (fun z => nomatch z), (fun _ z => nomatch z), fun _ _ r3 n3' => ?_⟩
  have s11 := same_upd (o := .tup (([.bl (!decide (v0 = V.non)), .bl (!decide (v1 = V.non)), .bl (!decide (v2 = V.non))] ++ [.bl s0, .bl s1']) ++ [.bl a0, .bl a1])) n3'
  refine ⟨_, rfl, _, rfl, by show 2 ≤ sizeLine; decide, fun r4 n4' => ?_⟩
  have s12 := same_upd (o := .tup [.bl both, .str out.s]) n4'
  refine ⟨r3, r4, _, _, rfl, rfl, SqT.of (s12 _ _ upd_same), SqT.of upd_same, by show 9 ≤ sizeLine; decide, (fun z => nomatch z), (fun _ z => nomatch z), fun _ _ r5 n5' => ?_⟩
  have s14 := same_upd (o := .tup ((([.bl (!decide (v0 = V.non)), .bl (!decide (v1 = V.non)), .bl (!decide (v2 = V.non))] ++ [.bl s0, .bl s1']) ++ [.bl a0, .bl a1]) ++ [.bl both, .str out.s])) n5'
  refine q _ _ (s07.trans ((((s8.trans s9).trans s10).trans s11).trans (s12.trans s14))) ⟨r5, rfl, ?_⟩
  rw [upd_same, i0.non, i1.non, i2.non]
  rfl
end
end Toy
set_option Elab.async false
set_option linter.all false
set_option maxRecDepth 100000
set_option maxHeartbeats 4000000
namespace Toy
open PySem L2 Sh
/-! ### closed -/
def missM (c0 c1 c2 : Option Cl) : Nat := ([c0, c1, c2].filter fun c => decide (c = none)).length
def closedM (pl : Pl) (A B : List Kd) (tot : Tot) (c0 c1 c2 : Option Cl) (root : Bool) : Option Cas :=
  if missM c0 c1 c2 = 3 ∨ (root = true ∧ 0 < missM c0 c1 c2) then none
  else if (hereM (if root = true then A else B) c0 tot.n0 && (hereM (if root = true then A else B) c1 tot.n1 && hereM (if root = true then A else B) c2 tot.n2)) = true then some (caseM pl (if root = true then A else B) tot c0 c1 c2 root)
  else none
def IsO (H : Hp) (v : V) : Option Cas → Prop
  | none => v = .non
  | some c => IsS H v c
def spClosed (P : Program) (w : World) (K : PySem.W.Frag) (CP CR : Addr) : Sp := fun vs H Q _ => ∃ (p rp ta a : Addr) (pl : Pl) (A B : List Kd) (tot : Tot) (v0 v1 v2 : V) (c0 c1 c2 : Option Cl) (root : Bool), vs = [.ref p, .ref rp, .ref ta, .ref a, .bl root] ∧ PlanAt P w K CP H p pl ∧ RuleAt CR H rp A B ∧ H ta = some (.tup tot.L) ∧ 0 ≤ tot.n3 ∧ tot.n3 ≤ 2 ∧
  H a = some (.tup [v0, v1, v2]) ∧ IsC H v0 c0 ∧ IsC H v1 c1 ∧ IsC H v2 c2 ∧ ∀ H' r, Same H H' → IsO H' r (closedM pl A B tot c0 c1 c2 root) → Q r H'
theorem get3 {α β : Type} {R : α → β → Prop} {x0 x1 x2 : α} {y0 y1 y2 : β} (r0 : R x0 y0) (r1 : R x1 y1) (r2 : R x2 y2) {n : Nat} {x : α} (h : [x0, x1, x2][n]? = some x) : ∃ y, [y0, y1, y2][n]? = some y ∧ R x y := by
  match n, h with
  | 0, h => cases h; exact ⟨y0, rfl, r0⟩
  | 1, h => cases h; exact ⟨y1, rfl, r1⟩
  | 2, h => cases h; exact ⟨y2, rfl, r2⟩
  | n + 3, h => simp at h
theorem filt_nextC {js : List (Option Cl)} {i : Nat} {k : Option Cl} (h : js[i]? = some k) (f : Option Cl → Bool) : ((js.take (i + 1)).filter f).length = ((js.take i).filter f).length + (if f k = true then 1 else 0) := by
  rw [← take_next h, List.filter_append, List.length_append]
  congr 1
  by_cases hf : f k = true
  · rw [if_pos hf, List.filter_cons_of_pos hf]
    rfl
  · rw [if_neg hf, List.filter_cons_of_neg hf]
    rfl
section
variable {P : Program} {w : World} {K : PySem.W.Frag} {mg : Str → Option Value} {base : Heap}
theorem ok_closed (T : Tx K mg) : FnOk P w K mg base CX0 4 T.a_closed T.fd_closed ["plan", "rule", "total", "cells", "root"] (spClosed P w K T.c_Plan T.c_Rule) := by
  refine T.F_closed.ok (CX := CX0) sc_closed (fun vs H Q E h => ?_) (fun cdv A outer s H vs Q E hr h => ?_)
  · obtain ⟨p, rp, ta, a, pl, A, B, tot, v0, v1, v2, c0, c1, c2, root, rfl, _⟩ := h
    rfl
  obtain ⟨p, rp, ta, a, pl, KA, KB, tot, v0, v1, v2, c0, c1, c2, root, rfl, hP, hR, ht, n0, n2, ha, i0, i1, i2, q⟩ := h
  refine ⟨_, PSs.nox (pss_cons (ps_set (i := 5) sc_closed.nd rfl (by first | exact Or.inl rfl | exact Or.inr rfl) (pe_ifExp (pt_val (pv 4)) (pe_fld (pv 1) rfl) (pe_fld (pv 1) rfl)))
 (pss_cons (ps_set (i := 6) sc_closed.nd rfl (by first | exact Or.inl rfl | exact Or.inr rfl) (pe_callB call_len_seq (by rfl) T.b_len (by decide +kernel) (pa_cons (pe_lc (own := [("cell", 7)]) (g := gName 7) rfl sc_closed.nd (pi_tup (pv 3)) (blkOk_by (own := [("cell", 7)]) (N := N_closed) (sc := defScope s_closed) (by decide +kernel)) (fun _ _ _ _ _ => (pg_name (i := 7) sc_closed.nd rfl (by first | exact Or.inl rfl | exact Or.inr rfl))) (fun _ _ _ _ _ => (pts_one (pt_cmpR op_isN (pv 7) pe_non (nomark _)))) (fun _ _ _ _ _ => (pv 7))) pa_nil)))
 (pss_cons (ps_if (PW.pt (pw_or (pt_cmpR op_eq (pv 6) pe_int (nomark _)) (pw_or1 (PW.pt (pw_and (pt_val (pv 4)) (pw_and1 (pt_cmpR op_gt (pv 6) pe_int (nomark _))))))))
 (pss_one (ps_ret pe_non))
 pss_nil)
 (pss_cons (ps_if (pt_not (pt_val (pe_callB (cr_all rfl) (by rfl) T.b_all (by decide +kernel) (pa_cons (pe_lc (own := [("k", 8)]) (g := gName 8) rfl sc_closed.nd (pi_range1 (by rfl) T.b_range (pa_cons pe_int pa_nil)) (blkOk_by (own := [("k", 8)]) (N := N_closed) (sc := defScope s_closed) (by decide +kernel)) (fun _ _ _ _ _ => (pg_name (i := 8) sc_closed.nd rfl (by first | exact Or.inl rfl | exact Or.inr rfl))) (fun _ _ _ _ _ => pts_nil) (fun _ _ _ _ _ => (pe_call (ok_is_let_here T) (hr.mono (by decide)) (by rfl) T.m_is_let_here T.F_is_let_here.kp T.bi_is_let_here .nil pass0 (pa_cons (pv 5) (pa_cons (pe_ix (by exact ix_tup : IxR _ (rIxT K)) (pv 3) (pv 8) (fun _ _ => rfl)) (pa_cons (pe_ix (by exact ix_tup : IxR _ (rIxT K)) (pv 2) (pv 8) (fun _ _ => rfl)) pa_nil)))))) pa_nil))))
 (pss_one (ps_ret pe_non))
 pss_nil)
 (pss_one (ps_ret (pe_call (ok_case_made T) (hr.mono (by decide)) (by rfl) T.m_case_made T.F_case_made.kp T.bi_case_made .nil pass0 (pa_cons (pv 0) (pa_cons (pv 5) (pa_cons (pv 2) (pa_cons (pv 3) (pa_cons (pv 4) pa_nil)))))))))))), ?_⟩
  unfold closedM at q
  -- kinds
  refine asgS (fun v H1 => H1 = H ∧ ∃ kk ys, v = .ref kk ∧ H kk = some (.tup ys) ∧ AllK H ys (if root = true then KA else KB)) (fun R hR' => ?_) ?_
  · obtain ⟨dx, p1, p2, ys1, ys2, h1, h2, h3, a1, a2⟩ := hR
    refine ⟨_, rfl, _, rfl, ?_⟩
    cases root
    · exact iteF ⟨_, rfl, rp, T.c_Rule, dx, _, _, rfl, h1, T.cl_Rule, T.na_Rule_others, flds_others _ _, hR' _ _ ⟨rfl, p2, ys2, rfl, h3, a2⟩⟩
    · exact iteT ⟨_, rfl, rp, T.c_Rule, dx, _, _, rfl, h1, T.cl_Rule, T.na_Rule_root, flds_root _ _, hR' _ _ ⟨rfl, p1, ys1, rfl, h2, a1⟩⟩
  rintro v H1 ⟨rfl, kk, ys, rfl, hkk, hak⟩
  generalize hjs : (if root = true then KA else KB) = js at q hak
  -- missing
  refine asgS (fun v H2 => Same H1 H2 ∧ v = .int (missM c0 c1 c2 : Nat)) (fun R hR' => ?_) ?_
  · refine ⟨_, rfl, a, rfl, ⟨_, SqT.of ha⟩, fun D hD => ?_⟩
    refine lc_tup (K := K) (a := a) (xs := [v0, v1, v2]) (fun n H2 => Same H1 H2 ∧ ∃ acc, H2 D = some (.lst acc) ∧ acc.length = (([c0, c1, c2].take n).filter fun c => decide (c = none)).length) ⟨same_upd hD, [], upd_same, rfl⟩ (fun n H2 _ ⟨s2, _⟩ => seqT s2 (SqT.of ha)) ?_ ?_
    · rintro n x H2 hn ⟨s2, acc, hacc, hlen⟩
      obtain ⟨c, hc, ic⟩ := get3 (R := IsC H1) i0 i1 i2 hn
      have hnx := filt_nextC hc fun c => decide (c = none)
      refine ⟨rfl, _, rfl, rfl, _, rfl, iteD (fun h1 => ?_) (fun h1 => ?_)⟩
      all_goals rw [ic.iff] at h1
      · refine ⟨_, rfl, acc, hacc, ?_, fun b u e => by rw [upd_ne (ne_of_none e hD)]; exact s2 _ _ e, _, upd_same, ?_⟩
        · rw [hlen]
          exact Nat.lt_of_le_of_lt (Nat.le_trans (List.length_filter_le _ _) (by rw [List.length_take]; exact Nat.min_le_right _ _)) (by show 3 < sizeLine; decide)
        · rw [List.length_append, hlen, hnx, if_pos (decide_eq_true h1)]
          rfl
      · refine ⟨s2, acc, hacc, ?_⟩
        rw [hlen, hnx, if_neg (fun z => h1 (of_decide_eq_true z))]
        rfl
    · rintro H2 ⟨s2, acc, hacc, hlen⟩
      refine ⟨D, acc, rfl, .inl (SqL.of hacc), hR' _ _ ⟨s2, ?_⟩⟩
      rw [hlen]
      rfl
  rintro v H2 ⟨s2, rfl⟩
  -- too many missing
  refine seqW (fun σ' H' => H' = H2 ∧ ¬ (missM c0 c1 c2 = 3 ∨ (root = true ∧ 0 < missM c0 c1 c2)) ∧ σ' = [some (.ref p), some (.ref rp), some (.ref ta), some (.ref a), some (.bl root), some (.ref kk), some (.int (missM c0 c1 c2 : Nat)), none, none]) (fun N hN => ?_) ?_
  · refine ⟨_, rfl, rfl, _, rfl, iteD (fun h1 => ?_) (fun h1 => ?_)⟩
    · have h2 : missM c0 c1 c2 = 3 := by
        have := V.int.inj h1
        omega
      rw [if_pos (.inl h2)] at q
      exact iteT (q _ _ s2 rfl)
    have h1' : ¬ missM c0 c1 c2 = 3 := fun z => h1 (by rw [z]; rfl)
    refine ⟨_, rfl, _, rfl, ?_⟩
    cases root with
    | false => exact iteF (iteF (hN _ _ ⟨rfl, fun z => z.elim h1' (fun z => by cases z.1), rfl⟩))
    | true =>
      refine iteT ?_
      refine ⟨_, rfl, _, _, rfl, rfl, _, rfl, iteD (fun h2 => ?_) (fun h2 => hN _ _ ⟨rfl, fun z => z.elim h1' (fun z => h2 (by have := z.2; omega)), rfl⟩)⟩
      rw [if_pos (.inr ⟨rfl, by omega⟩)] at q
      exact q _ _ s2 rfl
  rintro σ' H' ⟨rfl, hno, rfl⟩
  rw [if_neg hno] at q
  -- all are let
  refine ⟨3, rfl, by decide, by decide, fun D hD => ?_⟩
  refine lc_range (lo := 0) (n := 3) (fun n H3 => Same H' H3 ∧ H3 D = some (.lst (([hereM js c0 tot.n0, hereM js c1 tot.n1, hereM js c2 tot.n2].take n).map V.bl))) ⟨same_upd hD, upd_same⟩ ?_ ?_
  · rintro n H3 hn ⟨s3, hacc⟩
    have s13 := s2.trans s3
    have key : ∃ (v : V) (c : Option Cl) (z : Int), atI [v0, v1, v2] (0 + (n : Int)) = some v ∧ IsC H3 v c ∧ atI tot.L (0 + (n : Int)) = some (.int z) ∧ [hereM js c0 tot.n0, hereM js c1 tot.n1, hereM js c2 tot.n2][n]? = some (hereM js c z) := by
      match n, hn with
      | 0, _ => exact ⟨v0, c0, tot.n0, rfl, i0.same s13, rfl, rfl⟩
      | 1, _ => exact ⟨v1, c1, tot.n1, rfl, i1.same s13, rfl, rfl⟩
      | 2, _ => exact ⟨v2, c2, tot.n2, rfl, i2.same s13, rfl, rfl⟩
      | n + 3, h => omega
    obtain ⟨v, c, z, e1, ic, e2, e3⟩ := key
    refine ⟨rfl, yes_ite ?_⟩
    refine ⟨_, rfl, _, rfl, _, rfl, a, _, _, _, rfl, rfl, SqT.of (s13 _ _ ha), e1, _, rfl, _, rfl, ta, _, _, _, rfl, rfl, SqT.of (s13 _ _ ht), e2, kk, ys, js, v, c, z, rfl, s13 _ _ hkk, AllK.same s13 hak, ic, fun H4 s4 => ?_⟩
    refine ⟨_, s4 _ _ hacc, ?_, fun b u e => by rw [upd_ne (ne_of_none e hD)]; exact s4 _ _ (s3 _ _ e), ?_⟩
    · rw [List.length_map, List.length_take]
      exact Nat.lt_of_le_of_lt (Nat.min_le_right _ _) (by show 3 < sizeLine; decide)
    · rw [upd_same, ← take_next e3, List.map_append]
      rfl
  · rintro H3 ⟨s3, hacc⟩
    refine ⟨D, [hereM js c0 tot.n0, hereM js c1 tot.n1, hereM js c2 tot.n2], rfl, SqL.of hacc, _, rfl, ?_⟩
    have e : [hereM js c0 tot.n0, hereM js c1 tot.n1, hereM js c2 tot.n2].all id = (hereM js c0 tot.n0 && (hereM js c1 tot.n1 && hereM js c2 tot.n2)) := by simp [List.all_cons]
    rw [e]
    have s13 := s2.trans s3
    cases hb : (hereM js c0 tot.n0 && (hereM js c1 tot.n1 && hereM js c2 tot.n2)) with
    | false =>
      rw [hb, if_neg Bool.false_ne_true] at q
      exact iteT (q _ _ s13 rfl)
    | true =>
      rw [hb, if_pos rfl] at q
      refine iteF ?_
      exact ⟨_, rfl, _, rfl, _, rfl, _, rfl, _, rfl, p, kk, ta, a, pl, ys, js, tot, v0, v1, v2, c0, c1, c2, root, rfl, hP.same s13, s13 _ _ hkk, AllK.same s13 hak, s13 _ _ ht, n0, n2, s13 _ _ ha, i0.same s13, i1.same s13, i2.same s13, fun H4 r s4 hr' => q _ r (s13.trans s4) hr'⟩
end
end Toy
set_option Elab.async false
set_option linter.all false
set_option maxRecDepth 100000
set_option maxHeartbeats 4000000
namespace Toy
open PySem L2 Sh
/-! ### is_one_of, are_flags, Plan -/
def spOneOf (K : PySem.W.Frag) : Sp := fun vs H Q _ => ∃ (z : Str) (g : Addr) (xs : List V), vs = [.str z, .ref g] ∧ SqT K H g xs ∧ xs.all flatV = true ∧ inV (.str z) xs = true ∧ Q (.bl true) H
theorem dcN_tup {P : Program} {w : World} {K : PySem.W.Frag} {a : Addr} {xs : List V} {g : TG} {tt : TT} {tk tv : TE} {vs : List Nat} {σ : L2.St} {H0 : Hp} {D : Addr} {Qd : Hp → Prop} (Pv : Nat → Hp → Prop) (h0 : Pv 0 H0) (hl : ∀ i H, i ≤ xs.length → Pv i H → SqT K H a xs)
    (hs : ∀ i x H, xs[i]? = some x → Pv i H → dcTurn P w K g tt tk tv vs σ D (Pv (i + 1)) x H) (hd : ∀ H, Pv xs.length H → Qd H) :
    ∃ W : Nat → Nat → Hp → Prop, (∃ m, W 0 m H0) ∧ ∀ i m H, W i m H → ((Itt K a).stop i H ∧ Qd H) ∨ ((Itt K a).go i H ∧ ∃ T : Hp → Prop, (∀ H', T H' → ∃ m', m' < m ∧ W (i + 1) m' H') ∧ ∀ x H', (Itt K a).yld i H x H' → dcTurn P w K g tt tk tv vs σ D T x H') := by
  refine ⟨fun i m H => m = xs.length - i ∧ i ≤ xs.length ∧ Pv i H, ⟨xs.length, by simp, Nat.zero_le _, h0⟩, ?_⟩
  rintro i m H ⟨rfl, hi, p⟩
  have q := hl i H hi p
  by_cases hlt : i < xs.length
  · refine .inr ⟨⟨xs, xs[i], q, by simp [hlt]⟩, Pv (i + 1), fun H' p' => ⟨xs.length - (i + 1), by omega, rfl, hlt, p'⟩, fun x H' y => ?_⟩
    obtain ⟨e, y⟩ := y
    subst e
    exact hs i x _ (y xs q) p
  · have e : i = xs.length := by omega
    subst e
    exact .inl ⟨⟨xs, q, Nat.le_refl _⟩, hd H p⟩
theorem keys12_nd : keys12.Nodup := by decide +kernel
theorem val_none (f : Fl) : ∀ (l : List (Bool × Bool × Int)) (k : Bool × Bool × Int), k ∉ l → valV (l.map fun k => (nk3 k, V.bl (f k.1 k.2.1 k.2.2))) (nk3 k) = none
  | [], _, _ => rfl
  | a :: l, k, h => by
    rw [List.map_cons, valV_neg (fun z => h (by rw [nk3_inj z]; exact List.mem_cons_self))]
    exact val_none f l k fun z => h (List.mem_cons_of_mem _ z)
theorem put_next (f : Fl) {n : Nat} {k : Bool × Bool × Int} (h : keys12[n]? = some k) : putK ((keys12.take n).map fun k => (nk3 k, V.bl (f k.1 k.2.1 k.2.2))) (nk3 k) (.bl (f k.1 k.2.1 k.2.2)) = (keys12.take (n + 1)).map fun k => (nk3 k, V.bl (f k.1 k.2.1 k.2.2)) := by
  have hni : ¬ k ∈ keys12.take n := fun hm => by
    obtain ⟨j, hj⟩ := List.mem_iff_getElem?.mp hm
    have hji : j < n := by
      have := (List.getElem?_eq_some_iff.mp hj).1
      rw [List.length_take] at this
      omega
    rw [List.getElem?_take_of_lt hji] at hj
    have := nd_ix keys12_nd hj h
    omega
  rw [putK_new _ (val_none f _ _ hni), ← take_next h, List.map_append]
  rfl
section
variable {P : Program} {w : World} {K : PySem.W.Frag} {mg : Str → Option Value} {base : Heap}
abbrev keyRefs (T : Tx K mg) : List V := [V.ref T.g_KEYS_0, V.ref T.g_KEYS_1, V.ref T.g_KEYS_2, V.ref T.g_KEYS_3, V.ref T.g_KEYS_4, V.ref T.g_KEYS_5, V.ref T.g_KEYS_6, V.ref T.g_KEYS_7, V.ref T.g_KEYS_8, V.ref T.g_KEYS_9, V.ref T.g_KEYS_10, V.ref T.g_KEYS_11]
theorem keys_at (T : Tx K mg) : ∀ (n : Nat) (x : V), (keyRefs T)[n]? = some x → ∃ b r k m, x = .ref b ∧ (∀ H, SqT K H b [.bl r, .bl k, .int m]) ∧ keys12[n]? = some (r, k, m) := fun n x h => by
  match n, h with
  | 0, h => cases h; exact ⟨T.g_KEYS_0, true, true, 0, rfl, T.q_KEYS_0, rfl⟩
  | 1, h => cases h; exact ⟨T.g_KEYS_1, true, true, 1, rfl, T.q_KEYS_1, rfl⟩
  | 2, h => cases h; exact ⟨T.g_KEYS_2, true, true, 2, rfl, T.q_KEYS_2, rfl⟩
  | 3, h => cases h; exact ⟨T.g_KEYS_3, true, false, 0, rfl, T.q_KEYS_3, rfl⟩
  | 4, h => cases h; exact ⟨T.g_KEYS_4, true, false, 1, rfl, T.q_KEYS_4, rfl⟩
  | 5, h => cases h; exact ⟨T.g_KEYS_5, true, false, 2, rfl, T.q_KEYS_5, rfl⟩
  | 6, h => cases h; exact ⟨T.g_KEYS_6, false, true, 0, rfl, T.q_KEYS_6, rfl⟩
  | 7, h => cases h; exact ⟨T.g_KEYS_7, false, true, 1, rfl, T.q_KEYS_7, rfl⟩
  | 8, h => cases h; exact ⟨T.g_KEYS_8, false, true, 2, rfl, T.q_KEYS_8, rfl⟩
  | 9, h => cases h; exact ⟨T.g_KEYS_9, false, false, 0, rfl, T.q_KEYS_9, rfl⟩
  | 10, h => cases h; exact ⟨T.g_KEYS_10, false, false, 1, rfl, T.q_KEYS_10, rfl⟩
  | 11, h => cases h; exact ⟨T.g_KEYS_11, false, false, 2, rfl, T.q_KEYS_11, rfl⟩
  | n + 12, h => simp at h
theorem key_le {n : Nat} {r k : Bool} {m : Int} (h : keys12[n]? = some (r, k, m)) : 0 ≤ m ∧ m ≤ 2 := by
  have : ∀ x ∈ keys12, 0 ≤ x.2.2 ∧ x.2.2 ≤ 2 := by decide +kernel
  exact this _ (List.mem_of_getElem? h)
theorem ok_is_one_of (T : Tx K mg) : FnOk P w K mg base CX0 1 T.a_is_one_of T.fd_is_one_of ["value", "names"] (spOneOf K) := by
  refine T.F_is_one_of.ok sc_is_one_of (fun vs H Q E h => ?_) (fun cdv A outer s H vs Q E hr h => ?_)
  · obtain ⟨z, g, xs, rfl, _⟩ := h
    rfl
  obtain ⟨z, g, xs, rfl, hg, hf, hi, q⟩ := h
  refine ⟨_, (pss_one (ps_ret (pe_and (pe_callB call_isi (by rfl) T.b_isinstance (by decide +kernel) (pa_cons (pv 0) (pa_cons (pe_bltn (v := .ty "str") (by rfl) T.b_str (by decide +kernel) rfl) pa_nil))) (pe_one (pe_cmpR op_in_seq (pv 0) (pv 1) (by rfl)))))), ?_⟩
  refine ⟨_, rfl, _, _, _, _, true, rfl, .ty _, .base (.str _), kit_ty (by decide +kernel), _, rfl, iteT ⟨_, rfl, _, rfl, g, xs, rfl, .inr hg, rfl, hf, ?_⟩⟩
  show Q (.bl (inV (.str z) xs)) H
  rw [hi]
  exact q
def spAreFlags (P : Program) (w : World) (K : PySem.W.Frag) : Sp := fun vs H Q _ => ∃ (v : V) (f : Option Fl), vs = [v] ∧ FlAt P w K H v f ∧ ∀ H', Same H H' → Q (.bl true) H'
theorem ok_are_flags (T : Tx K mg) : FnOk P w K mg base CX0 1 T.a_are_flags T.fd_are_flags ["flags"] (spAreFlags P w K) := by
  refine T.F_are_flags.ok sc_are_flags (fun vs H Q E h => ?_) (fun cdv A outer s H vs Q E hr h => ?_)
  · obtain ⟨v, f, rfl, _⟩ := h
    rfl
  have hu65 := hu65_of hr
  obtain ⟨v, f, rfl, hf, q⟩ := h
  refine ⟨_, (pss_cons (ps_if (pt_cmpR op_isN (pv 0) pe_non (nomark _))
 (pss_one (ps_ret pe_bl))
 pss_nil)
 (pss_cons (ps_if (PW.pt (pw_or (pt_not (pt_val (pe_callB call_isiN (by rfl) T.b_isinstance (by decide +kernel) (pa_cons (pv 0) (pa_cons (pe_bltn (v := .ty "dict") (by rfl) T.b_dict (by decide +kernel) rfl) pa_nil))))) (pw_or1 (pt_cmpR op_ne (pe_callB call_lenN (by rfl) T.b_len (by decide +kernel) (pa_cons (pv 0) pa_nil)) (pe_callB call_len_seq (by rfl) T.b_len (by decide +kernel) (pa_cons (pe_glob (v := .ref T.g_KEYS) (by rfl) T.m_KEYS rfl) pa_nil)) (nomark _)))))
 (pss_one (ps_ret pe_bl))
 pss_nil)
 (pss_one (ps_ret (pe_callB (cr_all rfl) (by rfl) T.b_all (by decide +kernel) (pa_cons (pe_lc (own := [("key", 1)]) (g := gName 1) rfl sc_are_flags.nd (pi_tup (pe_glob (v := .ref T.g_KEYS) (by rfl) T.m_KEYS rfl)) (blkOk_by (own := [("key", 1)]) (N := N_are_flags) (sc := defScope s_are_flags) (by decide +kernel)) (fun _ _ _ _ _ => (pg_name (i := 1) sc_are_flags.nd rfl (by first | exact Or.inl rfl | exact Or.inr rfl))) (fun _ _ _ _ _ => pts_nil) (fun _ _ _ _ _ => (pe_and (pe_cmpR (by exact (op_dinN hu65) : OpR _ (compareOp .In) (rDInN P w K)) (pv 1) (pv 0) (by rfl)) (pe_one (pe_callB (by exact call_isi : CallR _ (.builtin "isinstance") (rIsi K)) (by rfl) T.b_isinstance (by decide +kernel) (pa_cons (by exact (pe_dgetN hu65 (pv 0) (pv 1) (fun _ _ => rfl)) : PE _ _ (tDGetN P w K (tVar 0) (tVar 1))) (pa_cons (pe_bltn (v := .ty "bool") (by rfl) T.b_bool (by decide +kernel) rfl) pa_nil))))))) pa_nil)))))), ?_⟩
  refine ⟨_, rfl, rfl, _, rfl, ?_⟩
  cases f with
  | none =>
    cases (show v = .non from hf)
    refine iteD (fun _ => q _ (Same.refl _)) (fun h => absurd rfl h)
  | some f =>
    obtain ⟨d, rfl, hd⟩ := hf
    refine iteD (fun h => nomatch h) (fun _ => ?_)
    refine ⟨_, rfl, d, _, _, _, true, rfl, hd, .ty _, kit_ty (by decide +kernel), _, rfl, ?_⟩
    refine iteF ?_
    refine ⟨_, rfl, d, _, rfl, hd, T.g_KEYS, _, rfl, .inr (T.q_KEYS _), rfl, _, rfl, ?_⟩
    refine iteN (fun h => absurd rfl h) (fun _ => ?_)
    refine ⟨T.g_KEYS, rfl, ⟨_, T.q_KEYS _⟩, fun D hD => ?_⟩
    refine lc_tup (K := K) (a := T.g_KEYS) (xs := keyRefs T) (fun n H2 => Same H H2 ∧ H2 D = some (.lst ((List.replicate n true).map V.bl))) ⟨same_upd hD, upd_same⟩ (fun n H2 _ _ => T.q_KEYS _) ?_ ?_
    · rintro n x H2 hn ⟨s2, hacc⟩
      obtain ⟨b, r, k, m, rfl, hq, hk⟩ := keys_at T n x hn
      obtain ⟨m0, m2⟩ := key_le hk
      have hd2 := DN.same s2 hd
      refine ⟨rfl, yes_ite ?_⟩
      refine andV (a := true) (b := true) (fun R rr => ⟨_, rfl, _, rfl, d, b, kv12 f, nk3 (r, k, m), rfl, rfl, hd2, key3 (hq _), ?_⟩) (fun R rr => ⟨_, rfl, _, rfl, d, b, kv12 f, nk3 (r, k, m), _, rfl, rfl, hd2, key3 (hq _), val12 f m0 m2, _, _, _, _, true, rfl, .ty _, .base (.bl _), kit_ty (by decide +kernel), rr⟩) ?_
      · rw [val12 f m0 m2]
        exact rr
      · refine ⟨_, hacc, ?_, fun c u e => by rw [upd_ne (ne_of_none e hD)]; exact s2 _ _ e, ?_⟩
        · rw [List.length_map, List.length_replicate]
          have : n < 12 := (List.getElem?_eq_some_iff.mp hn).1
          exact small1000 (by omega)
        · rw [upd_same, List.replicate_succ', List.map_append]
          rfl
    · rintro H2 ⟨s2, hacc⟩
      refine ⟨D, List.replicate 12 true, rfl, SqL.of hacc, ?_⟩
      exact q _ s2
end
end Toy
set_option Elab.async false
set_option linter.all false
set_option maxRecDepth 100000
set_option maxHeartbeats 4000000
namespace Toy
open PySem L2 Sh
/-! ### Plan -/
theorem inGo (g : Go) : inV (.str g.s) [.str "clash", .str "kept", .str "bare", .str "base"] = true := by cases g <;> decide +kernel
theorem inAl (g : Al) : inV (.str g.s) [.str "take", .str "clash"] = true := by cases g <;> decide +kernel
theorem inUn (g : Un) : inV (.str g.s) [.str "clash", .str "one", .str "other"] = true := by cases g <;> decide +kernel
theorem key_kp {K : PySem.W.Frag} {p : Addr} {H H' : Hp} {k : NestedKey} {b : Addr} (kp : Kp p H H') (hp : ∃ c e f, H p = some (.ins c e f)) (h : KeyAt K H k b) : KeyAt K H' k b := by
  obtain ⟨_, _, _, e⟩ := hp
  refine h.mono fun c u r => ?_
  rcases r with r | ⟨o, r⟩
  · exact .inl (kp _ _ r (ne_of r e (by intro z; cases z)))
  · exact .inr ⟨o, kp _ _ r (ne_of r e (by intro z; cases z))⟩
theorem DN.kp {P : Program} {w : World} {K : PySem.W.Frag} {p : Addr} {H H' : Hp} {a : Addr} {kvs : List (NestedKey × V)} (kp : Kp p H H') (hp : ∃ c e f, H p = some (.ins c e f)) (h : DN P w K H a kvs) : DN P w K H' a kvs := by
  obtain ⟨xs, h1, h2, h3⟩ := h
  refine ⟨xs, ?_, h2, fun x hx => key_kp kp hp (h3 x hx)⟩
  obtain ⟨_, _, _, e⟩ := hp
  exact kp _ _ h1 (ne_of h1 e (by intro z; cases z))
theorem FlAt.kp {P : Program} {w : World} {K : PySem.W.Frag} {p : Addr} {H H' : Hp} {v : V} {f : Option Fl} (k : Kp p H H') (hp : ∃ c e f, H p = some (.ins c e f)) (h : FlAt P w K H v f) : FlAt P w K H' v f := by
  cases f with
  | none => exact h
  | some f =>
    obtain ⟨d, e, h⟩ := h
    exact ⟨d, e, DN.kp k hp h⟩
def spPlan (P : Program) (w : World) (K : PySem.W.Frag) (C : Addr) : Sp := fun vs H Q _ => ∃ (x dx : Addr) (pl : Pl) (v : V), vs = [.ref x, .str pl.go.s, .str pl.al.s, .str pl.un.s, .bl pl.ti, v] ∧ H x = some (.ins C dx []) ∧ FlAt P w K H v pl.fl ∧ ∀ H', Kp x H H' → PlanAt P w K C H' x pl → Q .non H'
section
variable {P : Program} {w : World} {K : PySem.W.Frag} {mg : Str → Option Value} {base : Heap}
theorem ok_Plan_init (T : Tx K mg) : FnOk P w K mg base CX0 2 T.a_Plan_init T.fd_Plan_init ["self", "gone", "alike", "unlike", "tidy", "flags"] (spPlan P w K T.c_Plan) := by
  refine T.F_Plan_init.ok (CX := CX0) sc_Plan_init (fun vs H Q E h => ?_) (fun cdv A outer s H vs Q E hr h => ?_)
  · obtain ⟨x, dx, pl, v, rfl, _⟩ := h
    rfl
  have hu65 := hu65_of hr
  obtain ⟨x, dx, pl, v, rfl, hx, hf, q⟩ := h
  refine ⟨_, PSs.nox (pss_cons (ps_if (pt_not (pt_val (pe_call (ok_is_one_of T) (hr.mono (by decide)) (by rfl) T.m_is_one_of T.F_is_one_of.kp T.bi_is_one_of .nil pass0 (pa_cons (pv 1) (pa_cons (pe_glob (v := .ref T.g_GONE) (by rfl) T.m_GONE rfl) pa_nil)))))
 (pss_one ps_never)
 pss_nil)
 (pss_cons (ps_if (pt_not (pt_val (pe_call (ok_is_one_of T) (hr.mono (by decide)) (by rfl) T.m_is_one_of T.F_is_one_of.kp T.bi_is_one_of .nil pass0 (pa_cons (pv 2) (pa_cons (pe_glob (v := .ref T.g_ALIKE) (by rfl) T.m_ALIKE rfl) pa_nil)))))
 (pss_one ps_never)
 pss_nil)
 (pss_cons (ps_if (pt_not (pt_val (pe_call (ok_is_one_of T) (hr.mono (by decide)) (by rfl) T.m_is_one_of T.F_is_one_of.kp T.bi_is_one_of .nil pass0 (pa_cons (pv 3) (pa_cons (pe_glob (v := .ref T.g_UNLIKE) (by rfl) T.m_UNLIKE rfl) pa_nil)))))
 (pss_one ps_never)
 pss_nil)
 (pss_cons (ps_if (pt_not (pt_val (pe_callB call_isi (by rfl) T.b_isinstance (by decide +kernel) (pa_cons (pv 4) (pa_cons (pe_bltn (v := .ty "bool") (by rfl) T.b_bool (by decide +kernel) rfl) pa_nil)))))
 (pss_one ps_never)
 pss_nil)
 (pss_cons (ps_if (pt_not (pt_val (pe_call (ok_are_flags T) (hr.mono (by decide)) (by rfl) T.m_are_flags T.F_are_flags.kp T.bi_are_flags .nil pass0 (pa_cons (pv 5) pa_nil))))
 (pss_one ps_never)
 pss_nil)
 (pss_cons (ps_fld (pv 0) (pv 1) rfl)
 (pss_cons (ps_fld (pv 0) (pv 2) rfl)
 (pss_cons (ps_fld (pv 0) (pv 3) rfl)
 (pss_cons (ps_fld (pv 0) (pv 4) rfl)
 (pss_one (ps_fld (pv 0) (pe_ifExp (pt_cmpR op_isN (pv 5) pe_non (nomark _)) pe_non (pe_dcN (own := [("key", 6)]) (g := gName 6) hu65 rfl sc_Plan_init.nd (pi_tup (pe_glob (v := .ref T.g_KEYS) (by rfl) T.m_KEYS rfl)) (blkOk_by (own := [("key", 6)]) (N := N_Plan_init) (sc := defScope s_Plan_init) (by decide +kernel)) (fun _ _ _ _ _ => (pg_name (i := 6) sc_Plan_init.nd rfl (by first | exact Or.inl rfl | exact Or.inr rfl))) (fun _ _ _ _ _ => pts_nil) (fun _ _ _ _ _ => (pv 6)) (fun _ _ _ _ _ => (by exact (pe_dgetN hu65 (pv 5) (pv 6) (fun _ _ => rfl)) : PE _ _ (tDGetN P w K (tVar 5) (tVar 6)))))) rfl))))))))))), ?_⟩
  refine ⟨_, rfl, _, T.g_GONE, _, rfl, T.q_GONE _, rfl, inGo _, _, rfl, iteF ?_⟩
  refine nextS ?_
  dsimp only
  refine ⟨_, rfl, _, T.g_ALIKE, _, rfl, T.q_ALIKE _, rfl, inAl _, _, rfl, iteF ?_⟩
  refine nextS ?_
  dsimp only
  refine ⟨_, rfl, _, T.g_UNLIKE, _, rfl, T.q_UNLIKE _, rfl, inUn _, _, rfl, iteF ?_⟩
  refine nextS ?_
  dsimp only
  refine ⟨_, rfl, _, _, _, _, true, rfl, .ty _, .base (.bl _), kit_ty (by decide +kernel), _, rfl, iteF ?_⟩
  refine nextS ?_
  dsimp only
  refine ⟨_, rfl, v, _, rfl, hf, fun H1 s1 => ⟨_, rfl, iteF ?_⟩⟩
  refine nextS ?_
  dsimp only
  have hx1 := s1 _ _ hx
  have hf1 := hf.same s1
  refine ⟨_, rfl, _, rfl, x, T.c_Plan, dx, [], rfl, hx1, T.cl_Plan, T.na_Plan_gone, (by show 0 < 1000; decide), ?_⟩
  refine ⟨_, rfl, _, rfl, x, T.c_Plan, dx, _, rfl, upd_same, T.cl_Plan, T.na_Plan_alike, (by show 1 < 1000; decide), ?_⟩
  refine ⟨_, rfl, _, rfl, x, T.c_Plan, dx, _, rfl, upd_same, T.cl_Plan, T.na_Plan_unlike, (by show 2 < 1000; decide), ?_⟩
  refine ⟨_, rfl, _, rfl, x, T.c_Plan, dx, _, rfl, upd_same, T.cl_Plan, T.na_Plan_tidy, (by show 3 < 1000; decide), ?_⟩
  generalize hH2 : upd _ x _ = H2
  have hx2 : H2 x = some (.ins T.c_Plan dx (putF "tidy" (.bl pl.ti) (putF "unlike" (.str pl.un.s) (putF "alike" (.str pl.al.s) (putF "gone" (.str pl.go.s) []))))) := by rw [← hH2]; exact upd_same
  have kp2 : Kp x H1 H2 := by
    rw [← hH2]
    exact ((kp_put.trans kp_put).trans kp_put).trans kp_put
  have hf2 := hf1.kp kp2 ⟨_, _, _, hx1⟩
  clear hH2
  refine ⟨_, rfl, rfl, _, rfl, ?_⟩
  have fin : ∀ (v2 : V) (H3 : Hp), Same H2 H3 → FlAt P w K H3 v2 pl.fl → Q .non (upd H3 x (.ins T.c_Plan dx (pflds pl v2))) := fun v2 H3 s3 f3 => by
    refine q _ ((((Same.kp s1).trans kp2).trans (Same.kp s3)).trans kp_put) ⟨dx, v2, upd_same, f3.kp kp_put ⟨_, _, _, s3 _ _ hx2⟩⟩
  cases hpf : pl.fl with
  | none =>
    rw [hpf] at hf2 fin
    cases (show v = .non from hf2)
    refine iteD (fun _ => ?_) (fun h => absurd rfl h)
    exact ⟨_, rfl, x, T.c_Plan, dx, _, rfl, hx2, T.cl_Plan, T.na_Plan_by_kind, (by show 4 < 1000; decide), fin _ _ (Same.refl _) rfl⟩
  | some f =>
    rw [hpf] at hf2 fin
    obtain ⟨d, rfl, hd⟩ := hf2
    refine iteD (fun h => nomatch h) (fun _ => ?_)
    refine ⟨T.g_KEYS, rfl, ⟨_, T.q_KEYS _⟩, fun D o hD hN => ?_⟩
    refine dcN_tup (K := K) (a := T.g_KEYS) (xs := keyRefs T) (fun n H3 => Same H2 H3 ∧ DN P w K H3 D ((keys12.take n).map fun k => (nk3 k, V.bl (f k.1 k.2.1 k.2.2)))) ⟨same_upd hD, hN⟩ (fun n H3 _ _ => T.q_KEYS _) ?_ ?_
    · rintro n z H3 hn ⟨s3, hacc⟩
      obtain ⟨b, r, k, m, rfl, hqk, hk⟩ := keys_at T n z hn
      obtain ⟨m0, m2⟩ := key_le hk
      have hd3 := DN.same s3 hd
      refine ⟨rfl, yes_ite ?_⟩
      refine ⟨_, rfl, _, rfl, _, rfl, d, b, kv12 f, nk3 (r, k, m), _, rfl, rfl, hd3, key3 (hqk _), val12 f m0 m2, ?_⟩
      refine ⟨_, nk3 (r, k, m), b, rfl, hacc, key3 (hqk _), ?_, fun o2 hN2 => ?_⟩
      · rw [List.length_map]
        exact Nat.lt_of_le_of_lt (by rw [List.length_take]; exact Nat.min_le_right _ _) (by show 12 < sizeLine; decide)
      · refine ⟨fun c u e => by rw [upd_ne (ne_of_none e hD)]; exact s3 _ _ e, ?_⟩
        have := put_next f hk
        rw [this] at hN2
        exact hN2
    · rintro H3 ⟨s3, hacc⟩
      exact ⟨_, rfl, x, T.c_Plan, dx, _, rfl, s3 _ _ hx2, T.cl_Plan, T.na_Plan_by_kind, (by show 4 < 1000; decide), fin _ _ s3 ⟨D, rfl, hacc⟩⟩
end
end Toy
set_option Elab.async false
set_option linter.all false
set_option maxRecDepth 100000
set_option maxHeartbeats 4000000
namespace Toy
open PySem L2 Sh
/-! ### the law's own small functions -/
def ptL (pl : Pl) (fv : V) : List V := [.str pl.go.s, .str pl.al.s, .str pl.un.s, .bl pl.ti, fv]
def lmM (pl : Pl) (b o t : OI) : OI × Bool :=
  if o = b ∨ t = b then (if o = b then t else o, false)
  else if o = t then (o, decide (pl.al = .clash))
  else (if pl.un = .one then o else t, decide (pl.un = .clash))
theorem sz_ {n : Nat} (h : Nat.ble n 100 = true := by rfl) : n ≤ sizeLine := Nat.le_trans (Nat.le_of_ble_eq_true h) (by decide)
def spValue : Sp := fun vs H Q _ => ∃ (v : V) (c : Option Cl), vs = [v] ∧ IsC H v c ∧ Q (ovV (val c)) H
def spLMerged : Sp := fun vs H Q _ => ∃ (a : Addr) (pl : Pl) (fv : V) (b o t : OI), vs = [.ref a, ovV b, ovV o, ovV t] ∧ H a = some (.tup (ptL pl fv)) ∧ ∀ (H' : Hp) (r : Addr), Same H H' → H' r = some (.tup [ovV (lmM pl b o t).1, .bl (lmM pl b o t).2]) → Q (.ref r) H'
def spLDue : Sp := fun vs H Q _ => ∃ (b o t : OI), vs = [ovV b, ovV o, ovV t] ∧ ∀ (H' : Hp) (a : Addr), Same H H' → H' a = some (.lst ((dueM b o t).map ovV)) → Q (.ref a) H'
theorem dec_of {p q : Prop} [Decidable p] [Decidable q] (h : p ↔ q) : decide p = decide q := by
  by_cases e : p
  · rw [decide_eq_true e, decide_eq_true (h.mp e)]
  · rw [decide_eq_false e, decide_eq_false (fun z => e (h.mpr z))]
section
variable {P : Program} {w : World} {K : PySem.W.Frag} {mg : Str → Option Value} {base : Heap}
theorem ok_l_value (T : Tx K mg) : FnOk P w K mg base CX0 1 T.a_l_value T.fd_l_value ["_law_cell"] spValue := by
  refine T.F_l_value.ok sc_l_value (fun vs H Q E h => ?_) (fun cdv A outer s H vs Q E hr h => ?_)
  · obtain ⟨v, c, rfl, _⟩ := h
    rfl
  obtain ⟨v, c, rfl, ic, q⟩ := h
  refine ⟨_, (pss_one (ps_ret (pe_ifExp (pt_cmpR op_isN (pv 0) pe_non (nomark _)) pe_non (pe_ix ix_tup (pv 0) pe_int (fun _ _ => rfl))))), ?_⟩
  refine ⟨_, rfl, rfl, _, rfl, iteD (fun h1 => ?_) (fun h1 => ?_)⟩
  all_goals rw [ic.iff] at h1
  · subst h1
    exact q
  · cases c with
    | none => exact absurd rfl h1
    | some c =>
      obtain ⟨t, rfl, e⟩ := ic
      exact ⟨_, rfl, t, _, _, _, rfl, rfl, SqT.of e, rfl, q⟩
theorem ok_l_merged_value (T : Tx K mg) : FnOk P w K mg base CX0 1 T.a_l_merged_value T.fd_l_merged_value ["_law_plan_here", "_law_base", "_law_one", "_law_other"] spLMerged := by
  refine T.F_l_merged_value.ok sc_l_merged_value (fun vs H Q E h => ?_) (fun cdv A outer s H vs Q E hr h => ?_)
  · obtain ⟨a, pl, fv, b, o, t, rfl, _⟩ := h
    rfl
  obtain ⟨a, pl, fv, b, o, t, rfl, ha, q⟩ := h
  refine ⟨_, (pss_cons (ps_if (PW.pt (pw_or (pt_cmpR op_eq (pv 2) (pv 1) (nomark _)) (pw_or1 (pt_cmpR op_eq (pv 3) (pv 1) (nomark _)))))
 (pss_one (ps_ret (pe_tup (pa_cons (pe_ifExp (pt_cmpR op_eq (pv 2) (pv 1) (nomark _)) (pv 3) (pv 2)) (pa_cons pe_bl pa_nil)))))
 pss_nil)
 (pss_cons (ps_if (pt_cmpR op_eq (pv 2) (pv 3) (nomark _))
 (pss_one (ps_ret (pe_tup (pa_cons (pv 2) (pa_cons (pe_cmpR op_eq (pe_ix ix_tup (pv 0) pe_int (fun _ _ => rfl)) pe_str (nomark _)) pa_nil)))))
 pss_nil)
 (pss_one (ps_ret (pe_tup (pa_cons (pe_ifExp (pt_cmpR op_eq (pe_ix ix_tup (pv 0) pe_int (fun _ _ => rfl)) pe_str (nomark _)) (pv 2) (pv 3)) (pa_cons (pe_cmpR op_eq (pe_ix ix_tup (pv 0) pe_int (fun _ _ => rfl)) pe_str (nomark _)) pa_nil))))))), ?_⟩
  refine ⟨_, rfl, _, rfl, ov_scal _ _, _, rfl, iteD (fun h1 => ?_) (fun h1 => ?_)⟩
  · refine iteT ⟨_, rfl, _, rfl, ov_scal _ _, _, rfl, iteD (fun _ => ?_) (fun h => absurd h1 h)⟩
    rw [oveq_iff] at h1
    refine ⟨_, rfl, sz_, fun r hr => q _ _ (same_upd hr) ?_⟩
    rw [upd_same, show lmM pl b o t = (t, false) by simp [lmM, h1]]
  · refine ⟨_, rfl, _, rfl, ov_scal _ _, _, rfl, iteD (fun h2 => ?_) (fun h2 => ?_)⟩
    · refine ⟨_, rfl, _, rfl, ov_scal _ _, _, rfl, iteD (fun h => absurd h h1) (fun _ => ?_)⟩
      rw [oveq_iff] at h1 h2
      refine ⟨_, rfl, sz_, fun r hr => q _ _ (same_upd hr) ?_⟩
      rw [upd_same, show lmM pl b o t = (o, false) by simp [lmM, h1, h2]]
    · rw [oveq_iff] at h1 h2
      refine nextS ?_
      dsimp only
      refine ⟨_, rfl, _, rfl, ov_scal _ _, _, rfl, iteD (fun h3 => ?_) (fun h3 => ?_)⟩
      all_goals rw [oveq_iff] at h3
      · refine ⟨_, rfl, _, rfl, a, _, _, _, rfl, rfl, SqT.of ha, rfl, rfl, sz_, fun r hr => q _ _ (same_upd hr) ?_⟩
        rw [upd_same, show lmM pl b o t = (o, decide (pl.al = .clash)) by unfold lmM; rw [if_neg (by simp [h1, h2]), if_pos h3], dec_of (al_clash pl.al)]
      · refine nextS ?_
        dsimp only
        have e : lmM pl b o t = (if pl.un = .one then o else t, decide (pl.un = .clash)) := by unfold lmM; rw [if_neg (by simp [h1, h2]), if_neg h3]
        refine ⟨_, rfl, a, _, _, _, rfl, rfl, SqT.of ha, rfl, rfl, _, rfl, iteD (fun h4 => ?_) (fun h4 => ?_)⟩
        all_goals
          rw [un_one] at h4
          first | rw [if_pos h4] at e | rw [if_neg h4] at e
          refine ⟨_, rfl, _, rfl, a, _, _, _, rfl, rfl, SqT.of ha, rfl, rfl, sz_, fun r hr => q _ _ (same_upd hr) ?_⟩
          rw [upd_same, e, dec_of (un_clash pl.un)]
theorem ok_l_due (T : Tx K mg) : FnOk P w K mg base CX0 1 T.a_l_due T.fd_l_due ["_law_base", "_law_one", "_law_other"] spLDue := by
  refine T.F_l_due.ok sc_l_due (fun vs H Q E h => ?_) (fun cdv A outer s H vs Q E hr h => ?_)
  · obtain ⟨b, o, t, rfl, _⟩ := h
    rfl
  obtain ⟨b, o, t, rfl, q⟩ := h
  refine ⟨_, (pss_cons (ps_if (pt_cmpR op_eq (pv 1) (pv 0) (nomark _))
 (pss_one (ps_ret (pe_lst (pa_cons (pv 2) pa_nil))))
 pss_nil)
 (pss_one (ps_ret (pe_ifExp (PW.pt (pw_or (pt_cmpR op_eq (pv 2) (pv 0) (nomark _)) (pw_or1 (pt_cmpR op_eq (pv 1) (pv 2) (nomark _))))) (pe_lst (pa_cons (pv 1) pa_nil)) (pe_lst (pa_cons (pv 1) (pa_cons (pv 2) pa_nil))))))), ?_⟩
  refine ⟨_, rfl, _, rfl, ov_scal _ _, _, rfl, iteD (fun h1 => ?_) (fun h1 => ?_)⟩
  all_goals rw [oveq_iff] at h1
  · refine ⟨_, rfl, sz_, fun r hr => q _ _ (same_upd hr) ?_⟩
    rw [upd_same, show dueM b o t = [t] by simp [dueM, h1]]
    rfl
  refine nextS ?_
  dsimp only
  refine ⟨_, rfl, _, rfl, ov_scal _ _, _, rfl, iteD (fun h2 => ?_) (fun h2 => ?_)⟩
  all_goals rw [oveq_iff] at h2
  · refine iteT ⟨_, rfl, sz_, fun r hr => q _ _ (same_upd hr) ?_⟩
    rw [upd_same, show dueM b o t = [o] by unfold dueM; rw [if_neg h1, if_pos (.inl h2)]]
    rfl
  · refine ⟨_, rfl, _, rfl, ov_scal _ _, _, rfl, iteD (fun h3 => ?_) (fun h3 => ?_)⟩
    all_goals rw [oveq_iff] at h3
    · refine ⟨_, rfl, sz_, fun r hr => q _ _ (same_upd hr) ?_⟩
      rw [upd_same, show dueM b o t = [o] by unfold dueM; rw [if_neg h1, if_pos (.inr h3)]]
      rfl
    · refine ⟨_, rfl, _, rfl, sz_, fun r hr => q _ _ (same_upd hr) ?_⟩
      rw [upd_same, show dueM b o t = [o, t] by unfold dueM; rw [if_neg h1, if_neg (fun z => z.elim h2 h3)]]
      rfl
end
end Toy
set_option Elab.async false
set_option linter.all false
set_option maxRecDepth 100000
set_option maxHeartbeats 4000000
namespace Toy
open PySem L2 Sh
/-! ### the law's outcome -/
def flagL (pl : Pl) (root : Bool) (n3 : Int) (was left right : Cl) (mv : OI) : Bool := match pl.fl with
  | none => if left.2 = was.2 then right.2 else left.2
  | some F => F root (!decide (mv = none)) n3
def endL (pl : Pl) (ks : List Kd) (tot : Tot) (root : Bool) (was left right : Cl) (x1 x2 : OI) : Oc :=
  if (lmM pl was.1 left.1 right.1).2 = true ∨ tot.w = .clash then .clash
  else if pl.ti = true ∧ root = false ∧ (lmM pl was.1 left.1 right.1).1 = none ∧ tot.n3 = 0 then .none
  else if tot.w = .words ∨ (lmM pl was.1 left.1 right.1).1 ∉ dueM was.1 x1 x2 then .words
  else if tot.w = .right ∧ (!decide ((lmM pl was.1 left.1 right.1).1 = none), flagL pl root tot.n3 was left right (lmM pl was.1 left.1 right.1).1, tot.n3) ∈ ks then .tree
  else .rule
def outL (pl : Pl) (ks : List Kd) (tot : Tot) (c0 c1 c2 : Option Cl) (s0 s1 a0 a1 root : Bool) : Oc :=
  if s0 = true ∨ s1 = true then (if (if s0 = true then c2 else c1) = none then .none else .tree)
  else if c1 = none ∧ c2 = none then (if pl.al = .clash then .clash else .none)
  else if c0 ≠ none ∧ (c1 = none ∨ c2 = none) ∧ (pl.go = .clash ∨ pl.go = .kept) then (if pl.go = .clash then .clash else if (if c1 = none then a1 else a0) = true then .words else .tree)
  else endL pl ks tot root (metB c0) (c1.getD (metG pl c0)) (c2.getD (metG pl c0)) (val c1) (val c2)
def PtAt (P : Program) (w : World) (K : PySem.W.Frag) (H : Hp) (a : Addr) (pl : Pl) : Prop := ∃ fv, H a = some (.tup (ptL pl fv)) ∧ FlAt P w K H fv pl.fl
theorem PtAt.same {P : Program} {w : World} {K : PySem.W.Frag} {H H' : Hp} {a : Addr} {pl : Pl} (s : Same H H') (h : PtAt P w K H a pl) : PtAt P w K H' a pl := by
  obtain ⟨fv, h1, h2⟩ := h
  exact ⟨fv, s _ _ h1, h2.same s⟩
def spLOut (P : Program) (w : World) (K : PySem.W.Frag) : Sp := fun vs H Q _ => ∃ (p kk ta a sa la : Addr) (pl : Pl) (ys : List V) (ks : List Kd) (tot : Tot) (v0 v1 v2 : V) (c0 c1 c2 : Option Cl) (s0 s1 a0 a1 root : Bool), vs = [.ref p, .ref kk, .ref ta, .ref a, .ref sa, .ref la, .bl root] ∧ PtAt P w K H p pl ∧ H kk = some (.lst ys) ∧ AllK H ys ks ∧ H ta = some (.tup tot.L) ∧ 0 ≤ tot.n3 ∧ tot.n3 ≤ 2 ∧
  H a = some (.tup [v0, v1, v2]) ∧ IsC H v0 c0 ∧ IsC H v1 c1 ∧ IsC H v2 c2 ∧ H sa = some (.lst [.bl s0, .bl s1]) ∧ H la = some (.lst [.bl a0, .bl a1]) ∧ ∀ H', Same H H' → Q (.str (outL pl ks tot c0 c1 c2 s0 s1 a0 a1 root).s) H'
theorem go_ck (g : Go) : inV (.str g.s) [V.str "clash", V.str "kept"] = decide (g = .clash ∨ g = .kept) := by cases g <;> decide +kernel
theorem orT {ta tb : TT} {σ : L2.St} {H : Hp} {Q : Bool → Hp → Prop} {a b : Bool} (h1 : ∀ R : Bool → Hp → Prop, R a H → ta σ H R) (h2 : ∀ R : Bool → Hp → Prop, R b H → tb σ H R) (q : Q (a || b) H) : tOr ta tb σ H Q := by
  refine h1 _ ?_
  cases a
  · exact iteF (h2 _ q)
  · exact iteT q
theorem andT {ta tb : TT} {σ : L2.St} {H : Hp} {Q : Bool → Hp → Prop} {a b : Bool} (h1 : ∀ R : Bool → Hp → Prop, R a H → ta σ H R) (h2 : ∀ R : Bool → Hp → Prop, R b H → tb σ H R) (q : Q (a && b) H) : tAnd ta tb σ H Q := by
  refine h1 _ ?_
  cases a
  · exact iteF q
  · exact iteT (h2 _ q)
theorem iteB {b : Bool} {A B : Prop} (hA : b = true → A) (hB : b = false → B) : if b = true then A else B := by
  cases b
  · exact iteF (hB rfl)
  · exact iteT (hA rfl)
section
variable {P : Program} {w : World} {K : PySem.W.Frag} {mg : Str → Option Value} {base : Heap}
theorem ok_l_outcome (T : Tx K mg) : FnOk P w K mg base CX0 2 T.a_l_outcome T.fd_l_outcome ["_law_plan_here", "_law_kinds_here", "_law_total", "_law_cells", "_law_same", "_law_alike", "_law_at_root"] (spLOut P w K) := by
  refine T.F_l_outcome.ok sc_l_outcome (fun vs H Q E h => ?_) (fun cdv A outer s H vs Q E hr h => ?_)
  · obtain ⟨p, kk, ta, a, sa, la, pl, ys, ks, tot, v0, v1, v2, c0, c1, c2, s0, s1, a0, a1, root, rfl, _⟩ := h
    rfl
  have hu65 := hu65_of hr
  obtain ⟨p, kk, ta, a, sa, la, pl, ys, ks, tot, v0, v1, v2, c0, c1, c2, s0, s1, a0, a1, root, rfl, ⟨fv, hp, hfl⟩, hk, ak, ht, n0, n2, ha, i0, i1, i2, hsa, hla, q⟩ := h
  refine ⟨_, (pss_cons (ps_asg (pv 3) (pg_tup rfl (pgs_cons (pg_name (i := 7) sc_l_outcome.nd rfl (by first | exact Or.inl rfl | exact Or.inr rfl)) (pgs_cons (pg_name (i := 8) sc_l_outcome.nd rfl (by first | exact Or.inl rfl | exact Or.inr rfl)) (pgs_cons (pg_name (i := 9) sc_l_outcome.nd rfl (by first | exact Or.inl rfl | exact Or.inr rfl)) pgs_nil)))))
 (pss_cons (ps_if (PW.pt (pw_or (pt_val (pe_ix ix_list (pv 4) pe_int (fun _ _ => rfl))) (pw_or1 (pt_val (pe_ix ix_list (pv 4) pe_int (fun _ _ => rfl))))))
 (pss_one (ps_ret (pe_ifExp (pt_cmpR op_isN (pe_ifExp (pt_val (pe_ix ix_list (pv 4) pe_int (fun _ _ => rfl))) (pv 9) (pv 8)) pe_non (nomark _)) pe_str pe_str)))
 pss_nil)
 (pss_cons (ps_if (PW.pt (pw_and (pt_cmpR op_isN (pv 8) pe_non (nomark _)) (pw_and1 (pt_cmpR op_isN (pv 9) pe_non (nomark _)))))
 (pss_one (ps_ret (pe_ifExp (pt_cmpR op_eq (pe_ix ix_tup (pv 0) pe_int (fun _ _ => rfl)) pe_str (nomark _)) pe_str pe_str)))
 pss_nil)
 (pss_cons (ps_if (PW.pt (pw_and (pt_cmpR op_notN (pv 7) pe_non (nomark _)) (pw_and (PW.pt (pw_or (pt_cmpR op_isN (pv 8) pe_non (nomark _)) (pw_or1 (pt_cmpR op_isN (pv 9) pe_non (nomark _))))) (pw_and1 (pt_cmpR op_in_seq (pe_ix ix_tup (pv 0) pe_int (fun _ _ => rfl)) (pe_lst (pa_cons pe_str (pa_cons pe_str pa_nil))) (by rfl))))))
 (pss_cons (ps_if (pt_cmpR op_eq (pe_ix ix_tup (pv 0) pe_int (fun _ _ => rfl)) pe_str (nomark _))
 (pss_one (ps_ret pe_str))
 pss_nil)
 (pss_one (ps_ret (pe_ifExp (pt_val (pe_ix ix_list (pv 5) (pe_callTy call_int1 (by rfl) T.b_int (by decide +kernel) (pa_cons (pe_cmpR op_isN (pv 8) pe_non (nomark _)) pa_nil)) (fun _ _ => rfl))) pe_str pe_str))))
 pss_nil)
 (pss_cons (ps_set (i := 10) sc_l_outcome.nd rfl (by first | exact Or.inl rfl | exact Or.inr rfl) (pe_ifExp (pt_cmpR op_isN (pv 7) pe_non (nomark _)) (pe_tup (pa_cons pe_non (pa_cons pe_bl pa_nil))) (pv 7)))
 (pss_cons (ps_set (i := 11) sc_l_outcome.nd rfl (by first | exact Or.inl rfl | exact Or.inr rfl) (pe_ifExp (pt_cmpR op_eq (pe_ix ix_tup (pv 0) pe_int (fun _ _ => rfl)) pe_str (nomark _)) (pv 10) (pe_tup (pa_cons pe_non (pa_cons pe_bl pa_nil)))))
 (pss_cons (ps_set (i := 12) sc_l_outcome.nd rfl (by first | exact Or.inl rfl | exact Or.inr rfl) (pe_ifExp (pt_cmpR op_isN (pv 8) pe_non (nomark _)) (pv 11) (pv 8)))
 (pss_cons (ps_set (i := 13) sc_l_outcome.nd rfl (by first | exact Or.inl rfl | exact Or.inr rfl) (pe_ifExp (pt_cmpR op_isN (pv 9) pe_non (nomark _)) (pv 11) (pv 9)))
 (pss_cons (ps_asg (pe_call (ok_l_merged_value T) (hr.mono (by decide)) (by rfl) T.m_l_merged_value T.F_l_merged_value.kp T.bi_l_merged_value .nil pass0 (pa_cons (pv 0) (pa_cons (pe_ix ix_tup (pv 10) pe_int (fun _ _ => rfl)) (pa_cons (pe_ix ix_tup (pv 12) pe_int (fun _ _ => rfl)) (pa_cons (pe_ix ix_tup (pv 13) pe_int (fun _ _ => rfl)) pa_nil))))) (pg_tup rfl (pgs_cons (pg_name (i := 14) sc_l_outcome.nd rfl (by first | exact Or.inl rfl | exact Or.inr rfl)) (pgs_cons (pg_name (i := 15) sc_l_outcome.nd rfl (by first | exact Or.inl rfl | exact Or.inr rfl)) pgs_nil))))
 (pss_cons (ps_if (PW.pt (pw_or (pt_val (pv 15)) (pw_or1 (pt_cmpR op_eq (pe_ix ix_tup (pv 2) pe_int (fun _ _ => rfl)) pe_str (nomark _)))))
 (pss_one (ps_ret pe_str))
 pss_nil)
 (pss_cons (ps_if (PW.pt (pw_and (pt_val (pe_ix ix_tup (pv 0) pe_int (fun _ _ => rfl))) (pw_and (pt_not (pt_val (pv 6))) (pw_and (pt_cmpR op_isN (pv 14) pe_non (nomark _)) (pw_and1 (pt_cmpR op_eq (pe_ix ix_tup (pv 2) pe_int (fun _ _ => rfl)) pe_int (nomark _)))))))
 (pss_one (ps_ret pe_str))
 pss_nil)
 (pss_cons (ps_set (i := 16) sc_l_outcome.nd rfl (by first | exact Or.inl rfl | exact Or.inr rfl) (pe_ifExp (pt_cmpR op_eq (pe_ix ix_tup (pv 12) pe_int (fun _ _ => rfl)) (pe_ix ix_tup (pv 10) pe_int (fun _ _ => rfl)) (nomark _)) (pe_ix ix_tup (pv 13) pe_int (fun _ _ => rfl)) (pe_ix ix_tup (pv 12) pe_int (fun _ _ => rfl))))
 (pss_cons (ps_if (pt_cmpR op_notN (pe_ix ix_tup (pv 0) pe_int (fun _ _ => rfl)) pe_non (nomark _))
 (pss_one (ps_set (i := 16) sc_l_outcome.nd rfl (by first | exact Or.inl rfl | exact Or.inr rfl) (pe_dgetN hu65 (pe_ix ix_tup (pv 0) pe_int (fun _ _ => rfl)) (pe_tup (pa_cons (pv 6) (pa_cons (pe_cmpR op_notN (pv 14) pe_non (nomark _)) (pa_cons (pe_ix ix_tup (pv 2) pe_int (fun _ _ => rfl)) pa_nil)))) (fun _ _ => rfl))))
 pss_nil)
 (pss_cons (ps_if (PW.pt (pw_or (pt_cmpR op_eq (pe_ix ix_tup (pv 2) pe_int (fun _ _ => rfl)) pe_str (nomark _)) (pw_or1 (pt_cmpR op_notIn_seq (pv 14) (pe_call (ok_l_due T) (hr.mono (by decide)) (by rfl) T.m_l_due T.F_l_due.kp T.bi_l_due .nil pass0 (pa_cons (pe_ix ix_tup (pv 10) pe_int (fun _ _ => rfl)) (pa_cons (pe_call (ok_l_value T) (hr.mono (by decide)) (by rfl) T.m_l_value T.F_l_value.kp T.bi_l_value .nil pass0 (pa_cons (pv 8) pa_nil)) (pa_cons (pe_call (ok_l_value T) (hr.mono (by decide)) (by rfl) T.m_l_value T.F_l_value.kp T.bi_l_value .nil pass0 (pa_cons (pv 9) pa_nil)) pa_nil)))) (by rfl)))))
 (pss_one (ps_ret pe_str))
 pss_nil)
 (pss_one (ps_ret (pe_ifExp (PW.pt (pw_and (pt_cmpR op_eq (pe_ix ix_tup (pv 2) pe_int (fun _ _ => rfl)) pe_str (nomark _)) (pw_and1 (pt_cmpR (op_inD hu65) (pe_tup (pa_cons (pe_cmpR op_notN (pv 14) pe_non (nomark _)) (pa_cons (pv 16) (pa_cons (pe_ix ix_tup (pv 2) pe_int (fun _ _ => rfl)) pa_nil)))) (pv 1) (by rfl))))) pe_str pe_str))))))))))))))))), ?_⟩
  have fin : ∀ {o : Oc} {H' : Hp}, outL pl ks tot c0 c1 c2 s0 s1 a0 a1 root = o → Same H H' → Q (.str o.s) H' := fun e s2 => by
    rw [← e]
    exact q _ s2
  unfold outL at fin
  refine ⟨_, rfl, a, _, rfl, SqT.of ha, rfl, _, _, rfl, _, _, rfl, _, _, rfl, rfl, ?_⟩
  -- same
  dsimp only [gName]
  refine seqW (fun σ' H' => H' = H ∧ ¬ (s0 = true ∨ s1 = true) ∧ σ' = [some (.ref p), some (.ref kk), some (.ref ta), some (.ref a), some (.ref sa), some (.ref la), some (.bl root), some v0, some v1, some v2, none, none, none, none, none, none, none]) (fun N hN => ?_) ?_
  · refine ⟨_, rfl, sa, _, _, _, rfl, rfl, SqL.of hsa, rfl, _, rfl, ?_⟩
    cases s0 with
    | true =>
      refine iteT (iteT ⟨_, rfl, sa, _, _, _, rfl, rfl, SqL.of hsa, rfl, _, rfl, iteT ?_⟩)
      refine ⟨_, rfl, rfl, _, rfl, iteD (fun h1 => ?_) (fun h1 => ?_)⟩
      all_goals rw [i2.iff] at h1
      · exact fin (o := .none) (by simp [h1]) (Same.refl _)
      · exact fin (o := .tree) (by simp [h1]) (Same.refl _)
    | false =>
      refine iteF ⟨_, rfl, sa, _, _, _, rfl, rfl, SqL.of hsa, rfl, _, rfl, ?_⟩
      cases s1 with
      | true =>
        refine iteT ⟨_, rfl, sa, _, _, _, rfl, rfl, SqL.of hsa, rfl, _, rfl, iteF ?_⟩
        refine ⟨_, rfl, rfl, _, rfl, iteD (fun h1 => ?_) (fun h1 => ?_)⟩
        all_goals rw [i1.iff] at h1
        · exact fin (o := .none) (by simp [h1]) (Same.refl _)
        · exact fin (o := .tree) (by simp [h1]) (Same.refl _)
      | false => exact iteF (hN _ _ ⟨rfl, by simp, rfl⟩)
  rintro σ' H' ⟨rfl, hs, rfl⟩
  rw [if_neg hs] at fin
  -- both gone
  refine seqW (fun σ' H2 => H2 = H' ∧ ¬ (c1 = none ∧ c2 = none) ∧ σ' = [some (.ref p), some (.ref kk), some (.ref ta), some (.ref a), some (.ref sa), some (.ref la), some (.bl root), some v0, some v1, some v2, none, none, none, none, none, none, none]) (fun N hN => ?_) ?_
  · refine ⟨_, rfl, rfl, _, rfl, iteD (fun h1 => ?_) (fun h1 => ?_)⟩
    all_goals rw [i1.iff] at h1
    · refine ⟨_, rfl, rfl, _, rfl, iteD (fun h2 => ?_) (fun h2 => ?_)⟩
      all_goals rw [i2.iff] at h2
      · refine ⟨_, rfl, p, _, _, _, rfl, rfl, SqT.of hp, rfl, rfl, _, rfl, iteD (fun h3 => ?_) (fun h3 => ?_)⟩
        all_goals rw [al_clash] at h3
        · exact fin (o := .clash) (by simp [h1, h2, h3]) (Same.refl _)
        · exact fin (o := .none) (by simp [h1, h2, h3]) (Same.refl _)
      · exact hN _ _ ⟨rfl, fun z => h2 z.2, rfl⟩
    · exact iteF (hN _ _ ⟨rfl, fun z => h1 z.1, rfl⟩)
  rintro σ' H2 ⟨rfl, hg, rfl⟩
  rw [if_neg hg] at fin
  -- one gone
  refine seqW (fun σ' H3 => Same H2 H3 ∧ ¬ (c0 ≠ none ∧ (c1 = none ∨ c2 = none) ∧ (pl.go = .clash ∨ pl.go = .kept)) ∧ σ' = [some (.ref p), some (.ref kk), some (.ref ta), some (.ref a), some (.ref sa), some (.ref la), some (.bl root), some v0, some v1, some v2, none, none, none, none, none, none, none]) (fun N hN => ?_) ?_
  · refine ⟨_, rfl, rfl, _, rfl, iteN (fun h1 => ?_) (fun h1 => ?_)⟩
    all_goals rw [i0.iff] at h1
    · have tail : (c1 = none ∨ c2 = none) → ∀ (G : Bool → Hp → Prop), (∀ H3, Same H2 H3 → (pl.go = .clash ∨ pl.go = .kept) → G true H3) → (∀ H3, Same H2 H3 → ¬ (pl.go = .clash ∨ pl.go = .kept) → G false H3) → tTest (tOp (rIn K false) (tOp (rIxT K) (tVar 0) (tC (V.int 0))) (tLst (tCons (tC (V.str "clash")) (tCons (tC (V.str "kept")) tNil)))) [some (.ref p), some (.ref kk), some (.ref ta), some (.ref a), some (.ref sa), some (.ref la), some (.bl root), some v0, some v1, some v2, none, none, none, none, none, none, none] H2 G := fun _ G g1 g2 => by
        refine ⟨_, rfl, p, _, _, _, rfl, rfl, SqT.of hp, rfl, sz_, fun r hr => ⟨r, _, rfl, .inl (SqL.of upd_same), rfl, rfl, _, rfl, ?_⟩⟩
        show G (inV _ _) _
        rw [go_ck]
        by_cases hh : pl.go = .clash ∨ pl.go = .kept
        · rw [decide_eq_true hh]
          exact g1 _ (same_upd hr) hh
        · rw [decide_eq_false hh]
          exact g2 _ (same_upd hr) hh
      have ix : atI [V.bl a0, V.bl a1] (if decide (v1 = V.non) = true then 1 else 0) = some (.bl (if c1 = none then a1 else a0)) := by
        rw [i1.non]
        by_cases z : c1 = none <;> simp [z] <;> rfl
      refine orT (a := decide (v1 = .non)) (b := decide (v2 = .non)) (fun R r => ⟨_, rfl, rfl, _, rfl, r⟩) (fun R r => ⟨_, rfl, rfl, _, rfl, r⟩) ?_
      refine iteB (fun h2 => ?_) (fun h2 => ?_)
      all_goals rw [i1.non, i2.non] at h2
      · have h3 : c1 = none ∨ c2 = none := by simpa using h2
        refine tail h3 _ (fun H3 s3 hgo => iteT ?_) (fun H3 s3 hgo => iteF (hN _ _ ⟨s3, fun z => hgo z.2.2, rfl⟩))
        rw [if_pos ⟨h1, h3, hgo⟩] at fin
        refine ⟨_, rfl, p, _, _, _, rfl, rfl, SqT.of (s3 _ _ hp), rfl, rfl, _, rfl, iteD (fun h4 => ?_) (fun h4 => ?_)⟩
        all_goals rw [go_clash] at h4
        · exact fin (o := .clash) (by rw [if_pos h4]) s3
        rw [if_neg h4] at fin
        refine nextS ?_
        dsimp only
        refine ⟨_, rfl, _, rfl, rfl, .inr ⟨_, rfl, la, _, _, _, rfl, rfl, SqL.of (s3 _ _ hla), ix, _, rfl, iteB (fun h5 => ?_) (fun h5 => ?_)⟩⟩
        · exact fin (o := .words) (by rw [if_pos h5]) s3
        · exact fin (o := .tree) (by rw [if_neg (by rw [h5]; decide)]) s3
      · exact iteF (hN _ _ ⟨Same.refl _, fun z => by have := z.2.1; rw [← Bool.not_eq_true] at h2; exact h2 (by simpa using this), rfl⟩)
    · exact iteF (hN _ _ ⟨Same.refl _, fun z => z.1 h1, rfl⟩)
  rintro σ' H3 ⟨s3, ho, rfl⟩
  rw [if_neg ho] at fin
  -- was, lacking, left, right
  refine asgS (fun v H4 => Same H3 H4 ∧ IsC H4 v (some (metB c0))) (fun R hR => ?_) ?_
  · refine ⟨_, rfl, rfl, _, rfl, iteD (fun h1 => ?_) (fun h1 => ?_)⟩
    all_goals rw [i0.iff] at h1
    · subst h1
      exact ⟨sz_, fun r hr => hR _ _ ⟨same_upd hr, r, rfl, upd_same⟩⟩
    · obtain ⟨m, rfl⟩ := Option.ne_none_iff_exists'.mp h1
      exact ⟨_, rfl, hR _ _ ⟨Same.refl _, i0.same s3⟩⟩
  rintro v H4 ⟨s4, iw⟩
  dsimp only [gName]
  have s4' := s3.trans s4
  refine asgS (fun v H5 => Same H4 H5 ∧ IsC H5 v (some (metG pl c0))) (fun R hR => ?_) ?_
  · refine ⟨_, rfl, p, _, _, _, rfl, rfl, SqT.of (s4' _ _ hp), rfl, rfl, _, rfl, iteD (fun h1 => ?_) (fun h1 => ?_)⟩
    all_goals rw [go_base] at h1
    · exact ⟨_, rfl, hR _ _ ⟨Same.refl _, by unfold metG; rw [if_pos h1]; exact iw⟩⟩
    · exact ⟨sz_, fun r hr => hR _ _ ⟨same_upd hr, by unfold metG; rw [if_neg h1]; exact ⟨r, rfl, upd_same⟩⟩⟩
  rintro u H5 ⟨s5, il⟩
  dsimp only [gName]
  have s5' := s4'.trans s5
  refine asgS (fun v H6 => H6 = H5 ∧ IsC H5 v (some (c1.getD (metG pl c0)))) (fun R hR => ?_) ?_
  · refine ⟨_, rfl, rfl, _, rfl, iteD (fun h1 => ?_) (fun h1 => ?_)⟩
    all_goals rw [i1.iff] at h1
    · subst h1
      exact ⟨_, rfl, hR _ _ ⟨rfl, il⟩⟩
    · obtain ⟨m, rfl⟩ := Option.ne_none_iff_exists'.mp h1
      exact ⟨_, rfl, hR _ _ ⟨rfl, i1.same s5'⟩⟩
  rintro lv H6 ⟨rfl, iL⟩
  dsimp only [gName]
  refine asgS (fun v H7 => H7 = H6 ∧ IsC H6 v (some (c2.getD (metG pl c0)))) (fun R hR => ?_) ?_
  · refine ⟨_, rfl, rfl, _, rfl, iteD (fun h1 => ?_) (fun h1 => ?_)⟩
    all_goals rw [i2.iff] at h1
    · subst h1
      exact ⟨_, rfl, hR _ _ ⟨rfl, il⟩⟩
    · obtain ⟨m, rfl⟩ := Option.ne_none_iff_exists'.mp h1
      exact ⟨_, rfl, hR _ _ ⟨rfl, i2.same s5'⟩⟩
  rintro rv H7 ⟨rfl, iR⟩
  dsimp only [gName]
  obtain ⟨wt, rfl, hwt⟩ := iw.same s5
  obtain ⟨lt, rfl, hlt⟩ := iL
  obtain ⟨rt, rfl, hrt⟩ := iR
  generalize metB c0 = was at fin hwt
  generalize c1.getD (metG pl c0) = left at fin hlt
  generalize c2.getD (metG pl c0) = right at fin hrt
  unfold endL at fin
  -- merged
  refine asgS (fun v H8 => Same H7 H8 ∧ ∃ r, v = .ref r ∧ H8 r = some (.tup [ovV (lmM pl was.1 left.1 right.1).1, .bl (lmM pl was.1 left.1 right.1).2])) (fun R hR => ?_) ?_
  · exact ⟨_, rfl, _, rfl, wt, _, _, _, rfl, rfl, SqT.of hwt, rfl, _, rfl, lt, _, _, _, rfl, rfl, SqT.of hlt, rfl, _, rfl, rt, _, _, _, rfl, rfl, SqT.of hrt, rfl, p, pl, fv, _, _, _, rfl, s5' _ _ hp, fun H8 r s8 h8 => hR _ _ ⟨s8, r, rfl, h8⟩⟩
  rintro mv H8 ⟨s8, mr, rfl, hmr⟩
  refine ⟨mr, _, rfl, SqT.of hmr, rfl, _, _, rfl, _, _, rfl, rfl, ?_⟩
  try dsimp only
  generalize lmM pl was.1 left.1 right.1 = m at fin
  have s8' := s5'.trans s8
  have ht8 := s8' _ _ ht
  have hp8 := s8' _ _ hp
  -- clash
  refine seqW (fun σ' H9 => H9 = H8 ∧ ¬ (m.2 = true ∨ tot.w = .clash) ∧ σ' = [some (.ref p), some (.ref kk), some (.ref ta), some (.ref a), some (.ref sa), some (.ref la), some (.bl root), some v0, some v1, some v2, some (.ref wt), some u, some (.ref lt), some (.ref rt), some (ovV m.1), some (.bl m.2), none]) (fun N hN => ?_) ?_
  · refine orT (a := m.2) (b := decide (V.str tot.w.s = V.str Oc.clash.s)) (fun R r => ⟨_, rfl, _, rfl, r⟩) (fun R r => ⟨_, rfl, ta, _, _, _, rfl, rfl, SqT.of ht8, rfl, rfl, _, rfl, r⟩) ?_
    refine iteB (fun h1 => ?_) (fun h1 => ?_)
    all_goals rw [dec_of (oc_iff tot.w .clash)] at h1
    · exact fin (o := .clash) (by rw [if_pos (by simpa using h1)]) s8'
    · exact hN _ _ ⟨rfl, by rw [← Bool.not_eq_true] at h1; simpa using h1, rfl⟩
  rintro σ' H9 ⟨rfl, hc, rfl⟩
  rw [if_neg hc] at fin
  -- tidy
  refine seqW (fun σ' H10 => H10 = H9 ∧ ¬ (pl.ti = true ∧ root = false ∧ m.1 = none ∧ tot.n3 = 0) ∧ σ' = [some (.ref p), some (.ref kk), some (.ref ta), some (.ref a), some (.ref sa), some (.ref la), some (.bl root), some v0, some v1, some v2, some (.ref wt), some u, some (.ref lt), some (.ref rt), some (ovV m.1), some (.bl m.2), none]) (fun N hN => ?_) ?_
  · refine andT (a := pl.ti) (b := (!root && (decide (ovV m.1 = V.non) && decide (V.int tot.n3 = V.int 0)))) (fun R r => ⟨_, rfl, p, _, _, _, rfl, rfl, SqT.of hp8, rfl, _, rfl, r⟩) (fun R r => ?_) ?_
    · refine andT (a := !root) (b := (decide (ovV m.1 = V.non) && decide (V.int tot.n3 = V.int 0))) (fun R r => ⟨_, rfl, _, rfl, r⟩) (fun R r => ?_) r
      exact andT (a := decide (ovV m.1 = V.non)) (b := decide (V.int tot.n3 = V.int 0)) (fun R r => ⟨_, rfl, rfl, _, rfl, r⟩) (fun R r => ⟨_, rfl, ta, _, _, _, rfl, rfl, SqT.of ht8, rfl, rfl, _, rfl, r⟩) r
    refine iteB (fun h1 => ?_) (fun h1 => ?_)
    all_goals rw [ov_non, dec_int] at h1
    · exact fin (o := .none) (by rw [if_pos (by simpa using h1)]) s8'
    · exact hN _ _ ⟨rfl, by rw [← Bool.not_eq_true] at h1; simpa using h1, rfl⟩
  rintro σ' H10 ⟨rfl, hti, rfl⟩
  rw [if_neg hti] at fin
  -- the flag
  refine asgS (fun v H11 => H11 = H10 ∧ v = .bl (if left.2 = was.2 then right.2 else left.2)) (fun R hR => ?_) ?_
  · refine ⟨_, rfl, lt, _, _, _, rfl, rfl, SqT.of (s8 _ _ hlt), rfl, _, rfl, wt, _, _, _, rfl, rfl, SqT.of (s8 _ _ hwt), rfl, rfl, _, rfl, iteD (fun h1 => ?_) (fun h1 => ?_)⟩
    all_goals rw [bl_eq] at h1
    · exact ⟨_, rfl, rt, _, _, _, rfl, rfl, SqT.of (s8 _ _ hrt), rfl, hR _ _ ⟨rfl, by rw [if_pos h1]⟩⟩
    · exact ⟨_, rfl, lt, _, _, _, rfl, rfl, SqT.of (s8 _ _ hlt), rfl, hR _ _ ⟨rfl, by rw [if_neg h1]⟩⟩
  rintro fv0 H11 ⟨rfl, rfl⟩
  dsimp only [gName]
  have hfl8 := hfl.same s8'
  refine seqW (fun σ' H12 => Same H11 H12 ∧ σ' = [some (.ref p), some (.ref kk), some (.ref ta), some (.ref a), some (.ref sa), some (.ref la), some (.bl root), some v0, some v1, some v2, some (.ref wt), some u, some (.ref lt), some (.ref rt), some (ovV m.1), some (.bl m.2), some (.bl (flagL pl root tot.n3 was left right m.1))]) (fun N hN => ?_) ?_
  · refine ⟨_, rfl, p, _, _, _, rfl, rfl, SqT.of hp8, rfl, rfl, _, rfl, iteN (fun t1 => ?_) (fun t1 => ?_)⟩
    · unfold flagL at hN
      cases hF : pl.fl with
      | none =>
        rw [hF] at hfl8
        exact absurd hfl8 t1
      | some F =>
        rw [hF] at hfl8 hN
        obtain ⟨d, rfl, hd⟩ := hfl8
        refine ⟨_, rfl, p, _, _, _, rfl, rfl, SqT.of hp8, rfl, _, rfl, _, rfl, rfl, _, rfl, ta, _, _, _, rfl, rfl, SqT.of ht8, rfl, sz_, fun r hr' => ?_⟩
        have s2 := same_upd (o := .tup [.bl root, .bl (!decide (ovV m.1 = V.non)), .int tot.n3]) hr'
        exact ⟨d, r, kv12 F, nk3 (root, !decide (m.1 = none), tot.n3), _, rfl, rfl, DN.same s2 hd, key3 (SqT.of (by rw [upd_same, ov_isN])), val12 F n0 n2, hN _ _ ⟨s2, rfl⟩⟩
    · unfold flagL at hN
      cases hF : pl.fl with
      | none =>
        rw [hF] at hN
        exact hN _ _ ⟨Same.refl _, rfl⟩
      | some F =>
        rw [hF] at hfl8
        obtain ⟨d, e, _⟩ := hfl8
        rw [e] at t1
        cases t1
  rintro σ' H12 ⟨s12, rfl⟩
  generalize flagL pl root tot.n3 was left right m.1 = f at fin
  have sA := s8'.trans s12
  have htA := sA _ _ ht
  -- words
  refine ⟨_, rfl, ta, _, _, _, rfl, rfl, SqT.of htA, rfl, rfl, _, rfl, iteD (fun t1 => ?_) (fun t1 => ?_)⟩
  · have t2 : tot.w = .words := (oc_iff tot.w .words).mp t1
    exact iteT (fin (o := .words) (by rw [if_pos (.inl t2)]) sA)
  have t1' : ¬ tot.w = .words := fun z => t1 ((oc_iff tot.w .words).mpr z)
  refine ⟨_, rfl, _, rfl, wt, _, _, _, rfl, rfl, SqT.of (s12 _ _ (s8 _ _ hwt)), rfl, _, rfl, v1, c1, rfl, i1.same sA, _, rfl, v2, c2, rfl, i2.same sA, was.1, val c1, val c2, rfl, fun H13 da s13 hda => ?_⟩
  refine ⟨da, _, rfl, .inl (SqL.of hda), ov_flat _, ovs_flat _, _, rfl, ?_⟩
  show if (!inV (ovV m.1) ((dueM was.1 (val c1) (val c2)).map ovV)) = true then _ else _
  rw [ov_in]
  have sB := sA.trans s13
  have htB := sB _ _ ht
  refine iteN (fun t2 => ?_) (fun t2 => ?_)
  · exact fin (o := .words) (by rw [if_pos (.inr t2)]) sB
  rw [if_neg (fun z => z.elim t1' (fun z => z t2))] at fin
  refine nextS ?_
  dsimp only
  refine ⟨_, rfl, ta, _, _, _, rfl, rfl, SqT.of htB, rfl, rfl, _, rfl, iteD (fun t3 => ?_) (fun t3 => ?_)⟩
  · have t4 : tot.w = .right := (oc_iff tot.w .right).mp t3
    refine ⟨_, rfl, rfl, _, rfl, _, rfl, ta, _, _, _, rfl, rfl, SqT.of htB, rfl, sz_, fun r hr' => ?_⟩
    have s14 := same_upd (o := .tup [.bl (!decide (ovV m.1 = V.non)), .bl f, .int tot.n3]) hr'
    have sC := sB.trans s14
    refine ⟨_, rfl, kdD (!decide (m.1 = none), f, tot.n3), ks.map kdD, IsK.dp ⟨r, rfl, by rw [upd_same, ov_isN]⟩, .lst (SqL.of (sC _ _ hk)) (AllK.dp (AllK.same sC ak)), kd_shaped _, kds_shapedL _, _, rfl, ?_⟩
    rw [kd_any]
    refine iteD (fun t5 => ?_) (fun t5 => ?_)
    · exact fin (o := .tree) (by rw [if_pos ⟨t4, t5⟩]) sC
    · exact fin (o := .rule) (by rw [if_neg (fun z => t5 z.2)]) sC
  · have t4 : ¬ tot.w = .right := fun z => t3 ((oc_iff tot.w .right).mpr z)
    exact iteF (fin (o := .rule) (by rw [if_neg (fun z => t4 z.1)]) sB)
end
end Toy
set_option Elab.async false
set_option linter.all false
set_option maxRecDepth 100000
set_option maxHeartbeats 4000000
namespace Toy
open PySem L2 Sh
/-! ### the law's closed -/
def closedL (pl : Pl) (ks : List Kd) (tot : Tot) (c0 c1 c2 : Option Cl) (root : Bool) : Option Cas :=
  if missM c0 c1 c2 = 3 ∨ (root = true ∧ 0 < missM c0 c1 c2) then none
  else if (hereM ks c0 tot.n0 && (hereM ks c1 tot.n1 && hereM ks c2 tot.n2)) = true then
    some ⟨!decide (c0 = none), !decide (c1 = none), !decide (c2 = none), same0M tot.b4 c0 c1, same0M tot.b5 c0 c2, alike0M tot.b6 (val c0) (val c1), alike0M tot.b7 (val c0) (val c2), tot.b8 || (!decide (val c1 = val c0) && !decide (val c2 = val c0)),
      outL pl ks tot c0 c1 c2 (same0M tot.b4 c0 c1) (same0M tot.b5 c0 c2) (alike0M tot.b6 (val c0) (val c1)) (alike0M tot.b7 (val c0) (val c2)) root⟩
  else none
def TotOk (t : Tot) : Prop := (0 ≤ t.n0 ∧ t.n0 ≤ 2) ∧ (0 ≤ t.n1 ∧ t.n1 ≤ 2) ∧ (0 ≤ t.n2 ∧ t.n2 ≤ 2) ∧ (0 ≤ t.n3 ∧ t.n3 ≤ 2) ∧ inWorst t.w = true
def spLClosed (P : Program) (w : World) (K : PySem.W.Frag) : Sp := fun vs H Q _ => ∃ (p kk ta a : Addr) (pl : Pl) (ys : List V) (ks : List Kd) (tot : Tot) (v0 v1 v2 : V) (c0 c1 c2 : Option Cl) (root : Bool), vs = [.ref p, .ref kk, .ref ta, .ref a, .bl root] ∧ PtAt P w K H p pl ∧ H kk = some (.lst ys) ∧ AllK H ys ks ∧ H ta = some (.tup tot.L) ∧ TotOk tot ∧
  H a = some (.tup [v0, v1, v2]) ∧ IsC H v0 c0 ∧ IsC H v1 c1 ∧ IsC H v2 c2 ∧ ∀ H' r, Same H H' → IsO H' r (closedL pl ks tot c0 c1 c2 root) → Q r H'
theorem ints_dp {K : PySem.W.Frag} {H : Hp} : ∀ ns : List Int, DpAll K H (ns.map V.int) (ns.map PyData.int)
  | [] => .nil
  | n :: ns => .cons (.int n) (ints_dp ns)
theorem ints_shaped : ∀ ns : List Int, ns.length ≤ 3 → SeqAt.shaped (.list (ns.map PyData.int)) = true
  | [], _ => rfl
  | [_], _ => rfl
  | [_, _], _ => rfl
  | [_, _, _], _ => rfl
  | _ :: _ :: _ :: _ :: _, h => by simp at h
theorem ints_eqv (ns : List Int) : PyData.eqv (.list (ns.map PyData.int)) (.list []) = decide (ns.length = 0) := by
  cases ns <;> simp [PyData.eqv, PyData.eqvAll]
section
variable {P : Program} {w : World} {K : PySem.W.Frag} {mg : Str → Option Value} {base : Heap}
theorem ok_l_closed (T : Tx K mg) : FnOk P w K mg base CX0 3 T.a_l_closed T.fd_l_closed ["_law_plan_here", "_law_kinds_here", "_law_total", "_law_cells", "_law_at_root"] (spLClosed P w K) := by
  refine T.F_l_closed.ok sc_l_closed (fun vs H Q E h => ?_) (fun cdv A outer s H vs Q E hr h => ?_)
  · obtain ⟨p, kk, ta, a, pl, ys, ks, tot, v0, v1, v2, c0, c1, c2, root, rfl, _⟩ := h
    rfl
  have hu65 := hu65_of hr
  have hu := hu_of hr
  obtain ⟨p, kk, ta, a, pl, ys, ks, tot, v0, v1, v2, c0, c1, c2, root, rfl, hp, hk, ak, ht, ⟨⟨n00, n02⟩, ⟨n10, n12⟩, ⟨n20, n22⟩, ⟨n30, n32⟩, hw⟩, ha, i0, i1, i2, q⟩ := h
  refine ⟨_, (pss_cons (ps_setLc (i := 5) (own := [("_law_at", 6)]) (g := gName 6) rfl sc_l_closed.nd rfl rfl (sw_true rfl rfl rfl (by decide +kernel)) (pi_range1 (by rfl) T.b_range (pa_cons pe_int pa_nil)) (blkOk_by (own := [("_law_at", 6)]) (N := N_l_closed) (sc := defScope s_l_closed) (by decide +kernel)) (fun _ _ _ _ _ => (pg_name (i := 6) sc_l_closed.nd rfl (by first | exact Or.inl rfl | exact Or.inr rfl))) (fun _ _ _ _ _ => (pts_one (pt_cmpR op_isN (pe_ix (by exact ix_tup : IxR _ (rIxT K)) (pv 3) (pv 6) (fun _ _ => rfl)) pe_non (nomark _)))) (fun _ _ _ _ _ => (pv 6)))
 (pss_cons (ps_if (PW.pt (pw_or (pt_cmpR op_eq (pe_callB call_len_seq (by rfl) T.b_len (by decide +kernel) (pa_cons (pv 5) pa_nil)) pe_int (nomark _)) (pw_or1 (PW.pt (pw_and (pt_val (pv 4)) (pw_and1 (pt_cmpR (op_neD hr.units) (pv 5) (pe_lst pa_nil) (nomark _))))))))
 (pss_one (ps_ret pe_non))
 pss_nil)
 (pss_cons (ps_for PassesOwn.never rfl (pi_range1 (by rfl) T.b_range (pa_cons pe_int pa_nil)) (pg_name (i := 6) sc_l_closed.nd rfl (by first | exact Or.inl rfl | exact Or.inr rfl))
 (pss_cons (ps_if (PW.pt (pw_and (pt_cmpR op_isN (pe_ix ix_tup (pv 3) (pv 6) (fun _ _ => rfl)) pe_non (nomark _)) (pw_and1 (pt_cmpR op_gt (pe_ix ix_tup (pv 2) (pv 6) (fun _ _ => rfl)) pe_int (nomark _)))))
 (pss_one (ps_ret pe_non))
 pss_nil)
 (pss_one (ps_if (pt_cmpR op_notN (pe_ix ix_tup (pv 3) (pv 6) (fun _ _ => rfl)) pe_non (nomark _))
 (pss_one (ps_if (pt_cmpR (op_notInD hu65) (pe_tup (pa_cons (pe_cmpR op_notN (pe_ix ix_tup (pe_ix ix_tup (pv 3) (pv 6) (fun _ _ => rfl)) pe_int (fun _ _ => rfl)) pe_non (nomark _)) (pa_cons (pe_ix ix_tup (pe_ix ix_tup (pv 3) (pv 6) (fun _ _ => rfl)) pe_int (fun _ _ => rfl)) (pa_cons (pe_ix ix_tup (pv 2) (pv 6) (fun _ _ => rfl)) pa_nil)))) (pv 1) (by rfl))
 (pss_one (ps_ret pe_non))
 pss_nil))
 pss_nil))))
 (pss_cons (ps_asg (pv 3) (pg_tup rfl (pgs_cons (pg_name (i := 7) sc_l_closed.nd rfl (by first | exact Or.inl rfl | exact Or.inr rfl)) (pgs_cons (pg_name (i := 8) sc_l_closed.nd rfl (by first | exact Or.inl rfl | exact Or.inr rfl)) (pgs_cons (pg_name (i := 9) sc_l_closed.nd rfl (by first | exact Or.inl rfl | exact Or.inr rfl)) pgs_nil)))))
 (pss_cons (ps_set (i := 10) sc_l_closed.nd rfl (by first | exact Or.inl rfl | exact Or.inr rfl) (pe_lst (pa_cons (pe_and (pe_cmpR (op_eqD hr.units) (pv 8) (pv 7) (nomark _)) (pe_one (pe_or (pe_cmpR op_isN (pv 7) pe_non (nomark _)) (pe_one (pe_ix ix_tup (pv 2) pe_int (fun _ _ => rfl)))))) (pa_cons (pe_and (pe_cmpR (op_eqD hr.units) (pv 9) (pv 7) (nomark _)) (pe_one (pe_or (pe_cmpR op_isN (pv 7) pe_non (nomark _)) (pe_one (pe_ix ix_tup (pv 2) pe_int (fun _ _ => rfl)))))) pa_nil))))
 (pss_cons (ps_asg (pe_lc (own := [("_law_cell", 17)]) (g := gName 17) rfl sc_l_closed.nd (pi_tup (pv 3)) (blkOk_by (own := [("_law_cell", 17)]) (N := N_l_closed) (sc := defScope s_l_closed) (by decide +kernel)) (fun _ _ _ _ _ => (pg_name (i := 17) sc_l_closed.nd rfl (by first | exact Or.inl rfl | exact Or.inr rfl))) (fun _ _ _ _ _ => pts_nil) (fun _ _ _ _ _ => (pe_call (ok_l_value T) (hr.mono (by decide)) (by rfl) T.m_l_value T.F_l_value.kp T.bi_l_value .nil pass0 (pa_cons (pv 17) pa_nil)))) (pg_unl rfl (pgs_cons (pg_name (i := 11) sc_l_closed.nd rfl (by first | exact Or.inl rfl | exact Or.inr rfl)) (pgs_cons (pg_name (i := 12) sc_l_closed.nd rfl (by first | exact Or.inl rfl | exact Or.inr rfl)) (pgs_cons (pg_name (i := 13) sc_l_closed.nd rfl (by first | exact Or.inl rfl | exact Or.inr rfl)) pgs_nil)))))
 (pss_cons (ps_set (i := 14) sc_l_closed.nd rfl (by first | exact Or.inl rfl | exact Or.inr rfl) (pe_lst (pa_cons (pe_or (pe_ix ix_tup (pv 2) pe_int (fun _ _ => rfl)) (pe_one (pe_and (pe_cmpR op_notN (pv 11) pe_non (nomark _)) (pe_one (pe_cmpR op_eq (pv 12) (pv 11) (nomark _)))))) (pa_cons (pe_or (pe_ix ix_tup (pv 2) pe_int (fun _ _ => rfl)) (pe_one (pe_and (pe_cmpR op_notN (pv 11) pe_non (nomark _)) (pe_one (pe_cmpR op_eq (pv 13) (pv 11) (nomark _)))))) pa_nil))))
 (pss_cons (ps_set (i := 15) sc_l_closed.nd rfl (by first | exact Or.inl rfl | exact Or.inr rfl) (pe_or (pe_ix ix_tup (pv 2) pe_int (fun _ _ => rfl)) (pe_one (pe_and (pe_cmpR op_ne (pv 12) (pv 11) (nomark _)) (pe_one (pe_cmpR op_ne (pv 13) (pv 11) (nomark _)))))))
 (pss_cons (ps_set (i := 16) sc_l_closed.nd rfl (by first | exact Or.inl rfl | exact Or.inr rfl) (pe_call (ok_l_outcome T) (hr.mono (by decide)) (by rfl) T.m_l_outcome T.F_l_outcome.kp T.bi_l_outcome .nil pass0 (pa_cons (pv 0) (pa_cons (pv 1) (pa_cons (pv 2) (pa_cons (pv 3) (pa_cons (pv 10) (pa_cons (pv 14) (pa_cons (pv 4) pa_nil)))))))))
 (pss_one (ps_ret (pe_callTy call_tuple_of (by rfl) T.b_tuple (by decide +kernel) (pa_cons (pe_op op_cat (pe_op op_cat (pe_op op_cat (pe_lc (own := [("_law_cell", 17)]) (g := gName 17) rfl sc_l_closed.nd (pi_tup (pv 3)) (blkOk_by (own := [("_law_cell", 17)]) (N := N_l_closed) (sc := defScope s_l_closed) (by decide +kernel)) (fun _ _ _ _ _ => (pg_name (i := 17) sc_l_closed.nd rfl (by first | exact Or.inl rfl | exact Or.inr rfl))) (fun _ _ _ _ _ => pts_nil) (fun _ _ _ _ _ => (pe_cmpR op_notN (pv 17) pe_non (nomark _)))) (pv 10)) (pv 14)) (pe_lst (pa_cons (pv 15) (pa_cons (pv 16) pa_nil)))) pa_nil))))))))))))), ?_⟩
  unfold closedL at q
  have key : ∀ {H' : Hp} {n : Nat}, Same H H' → n < 3 → ∃ (v : V) (c : Option Cl) (z : Int), atI [v0, v1, v2] (0 + (n : Int)) = some v ∧ IsC H' v c ∧ atI tot.L (0 + (n : Int)) = some (.int z) ∧ [hereM ks c0 tot.n0, hereM ks c1 tot.n1, hereM ks c2 tot.n2][n]? = some (hereM ks c z) ∧ 0 ≤ z ∧ [c0, c1, c2][n]? = some c := fun {H' n} s' hn => by
    match n, hn with
    | 0, _ => exact ⟨v0, c0, tot.n0, rfl, i0.same s', rfl, rfl, n00, rfl⟩
    | 1, _ => exact ⟨v1, c1, tot.n1, rfl, i1.same s', rfl, rfl, n10, rfl⟩
    | 2, _ => exact ⟨v2, c2, tot.n2, rfl, i2.same s', rfl, rfl, n20, rfl⟩
    | n + 3, h => omega
  -- lacking
  refine asgS (fun v H1 => Same H H1 ∧ ∃ (D : Addr) (ns : List Int), v = .ref D ∧ H1 D = some (.lst (ns.map V.int)) ∧ ns.length = missM c0 c1 c2) (fun R hR => ?_) ?_
  · refine ⟨3, rfl, by decide, by decide, fun D hD => ?_⟩
    refine lc_range (lo := 0) (n := 3) (fun n H2 => Same H H2 ∧ ∃ ns : List Int, H2 D = some (.lst (ns.map V.int)) ∧ ns.length = (([c0, c1, c2].take n).filter fun c => decide (c = none)).length) ⟨same_upd hD, [], upd_same, rfl⟩ ?_ ?_
    · rintro n H2 hn ⟨s2, ns, hacc, hlen⟩
      obtain ⟨v, c, z, e1, ic, e2, e3, z0, hc⟩ := key s2 hn
      have hnx := filt_nextC hc fun c => decide (c = none)
      refine ⟨rfl, _, rfl, _, rfl, a, _, _, _, rfl, rfl, SqT.of (s2 _ _ ha), e1, rfl, _, rfl, iteD (fun h1 => ?_) (fun h1 => ?_)⟩
      all_goals rw [ic.iff] at h1
      · refine ⟨_, rfl, _, hacc, ?_, fun b u e => by rw [upd_ne (ne_of_none e hD)]; exact s2 _ _ e, ns ++ [0 + (n : Int)], ?_, ?_⟩
        · rw [List.length_map, hlen]
          exact Nat.lt_of_le_of_lt (Nat.le_trans (List.length_filter_le _ _) (by rw [List.length_take]; exact Nat.min_le_right _ _)) (by show 3 < sizeLine; decide)
        · rw [upd_same, List.map_append]
          rfl
        · rw [List.length_append, hlen, hnx, if_pos (decide_eq_true h1)]
          rfl
      · refine ⟨s2, ns, hacc, ?_⟩
        rw [hlen, hnx, if_neg (fun z => h1 (of_decide_eq_true z))]
        rfl
    · rintro H2 ⟨s2, ns, hacc, hlen⟩
      exact hR _ _ ⟨s2, D, ns, rfl, hacc, hlen⟩
  rintro v H1 ⟨s1, D1, ns, rfl, hD1, hlen⟩
  dsimp only [gName]
  have m3 : missM c0 c1 c2 ≤ 3 := Nat.le_trans (List.length_filter_le _ _) (Nat.le_refl 3)
  -- too many missing
  refine seqW (fun σ' H' => Same H1 H' ∧ ¬ (missM c0 c1 c2 = 3 ∨ (root = true ∧ 0 < missM c0 c1 c2)) ∧ σ' = [some (.ref p), some (.ref kk), some (.ref ta), some (.ref a), some (.bl root), some (.ref D1), none, none, none, none, none, none, none, none, none, none, none, none]) (fun N hN => ?_) ?_
  · refine ⟨_, rfl, D1, _, rfl, .inl (SqL.of hD1), rfl, _, rfl, iteD (fun h1 => ?_) (fun h1 => ?_)⟩
    · have h2 : missM c0 c1 c2 = 3 := by
        have := V.int.inj h1
        rw [List.length_map, hlen] at this
        omega
      rw [if_pos (.inl h2)] at q
      exact iteT (q _ _ s1 rfl)
    have h1' : ¬ missM c0 c1 c2 = 3 := fun z => h1 (by rw [List.length_map, hlen, z]; rfl)
    refine ⟨_, rfl, _, rfl, ?_⟩
    cases root with
    | false => exact iteF (iteF (hN _ _ ⟨Same.refl _, fun z => z.elim h1' (fun z => by cases z.1), rfl⟩))
    | true =>
      refine iteT ⟨_, rfl, sz_, fun r hr => ?_⟩
      refine ⟨_, _, .lst (SqL.of (same_upd hr _ _ hD1)) (ints_dp ns), .lst (SqL.of upd_same) .nil, ints_shaped ns (by omega), rfl, _, rfl, ?_⟩
      rw [ints_eqv]
      refine iteN (fun h2 => ?_) (fun h2 => ?_)
      · rw [if_pos (.inr ⟨rfl, by omega⟩)] at q
        exact q _ _ (s1.trans (same_upd hr)) rfl
      · exact hN _ _ ⟨same_upd hr, fun z => z.elim h1' (fun z => by have := z.2; omega), rfl⟩
  rintro σ' H2 ⟨s2, hno, rfl⟩
  rw [if_neg hno] at q
  have s12 := s1.trans s2
  -- all are let
  refine seqW (fun σ' H' => Same H2 H' ∧ (∀ b ∈ [hereM ks c0 tot.n0, hereM ks c1 tot.n1, hereM ks c2 tot.n2], b = true) ∧ ∃ z, σ' = [some (.ref p), some (.ref kk), some (.ref ta), some (.ref a), some (.bl root), some (.ref D1), z, none, none, none, none, none, none, none, none, none, none, none]) (fun N hN => ?_) ?_
  · refine ⟨3, rfl, by decide, by decide, ?_⟩
    refine for_range (lo := 0) (n := 3) (fun n σ' H' => Same H2 H' ∧ (∀ b ∈ [hereM ks c0 tot.n0, hereM ks c1 tot.n1, hereM ks c2 tot.n2].take n, b = true) ∧ ∃ z, σ' = [some (.ref p), some (.ref kk), some (.ref ta), some (.ref a), some (.bl root), some (.ref D1), z, none, none, none, none, none, none, none, none, none, none, none]) ⟨Same.refl _, by simp, none, rfl⟩ ?_ ?_
    · rintro n σ3 H3 hn ⟨s3, hall, z0', rfl⟩
      have s13 := s12.trans s3
      obtain ⟨v, c, z, e1, ic, e2, e3, z0, hc⟩ := key s13 hn
      have nofin : hereM ks c z = false → ∀ H', Same H H' → Q .non H' := fun hf H' s' => by
        have : (hereM ks c0 tot.n0 && (hereM ks c1 tot.n1 && hereM ks c2 tot.n2)) = false := by
          rw [hf] at e3
          match n, hn, e3 with
          | 0, _, e3 => rw [show hereM ks c0 tot.n0 = false from Option.some.inj e3]; rfl
          | 1, _, e3 => rw [show hereM ks c1 tot.n1 = false from Option.some.inj e3]; simp
          | 2, _, e3 => rw [show hereM ks c2 tot.n2 = false from Option.some.inj e3]; simp
          | n + 3, h, _ => omega
        rw [this] at q
        exact q _ _ s' rfl
      have yes : hereM ks c z = true → ∀ b ∈ [hereM ks c0 tot.n0, hereM ks c1 tot.n1, hereM ks c2 tot.n2].take (n + 1), b = true := fun ht b hb => by
        rw [← take_next e3] at hb
        rcases List.mem_append.mp hb with hb | hb
        · exact hall b hb
        · rw [List.mem_singleton.mp hb]
          exact ht
      refine ⟨_, rfl, _, rfl, a, _, _, _, rfl, rfl, SqT.of (s13 _ _ ha), e1, rfl, _, rfl, iteD (fun h1 => ?_) (fun h1 => ?_)⟩
      all_goals rw [ic.iff] at h1
      · subst h1
        refine ⟨_, rfl, _, rfl, ta, _, _, _, rfl, rfl, SqT.of (s13 _ _ ht), e2, _, _, rfl, rfl, _, rfl, iteD (fun h2 => ?_) (fun h2 => ?_)⟩
        · exact nofin (by show decide (z = 0) = false; exact decide_eq_false (by omega)) _ s13
        · refine nextS ?_
          dsimp only
          refine ⟨_, rfl, _, rfl, a, _, _, _, rfl, rfl, SqT.of (s13 _ _ ha), e1, rfl, _, rfl, iteN (fun h3 => absurd (ic.iff.mpr rfl) h3) (fun h3 => ?_)⟩
          exact ⟨s3, yes (by show decide (z = 0) = true; exact decide_eq_true (by omega)), _, rfl⟩
      · refine iteF (nextS ?_)
        dsimp only
        refine ⟨_, rfl, _, rfl, a, _, _, _, rfl, rfl, SqT.of (s13 _ _ ha), e1, rfl, _, rfl, iteN (fun h3 => ?_) (fun h3 => absurd (ic.iff.mp h3) h1)⟩
        obtain ⟨m, rfl⟩ := Option.ne_none_iff_exists'.mp h1
        obtain ⟨ct, rfl, hct⟩ := ic
        refine ⟨_, rfl, _, rfl, a, _, _, _, rfl, rfl, SqT.of (s13 _ _ ha), e1, ct, _, _, _, rfl, rfl, SqT.of hct, rfl, rfl, _, rfl, _, rfl, a, _, _, _, rfl, rfl, SqT.of (s13 _ _ ha), e1, ct, _, _, _, rfl, rfl, SqT.of hct, rfl, _, rfl, _, rfl, ta, _, _, _, rfl, rfl, SqT.of (s13 _ _ ht), e2, sz_, fun r hr' => ?_⟩
        have s4 := same_upd (o := .tup [.bl (!decide (ovV m.1 = V.non)), .bl m.2, .int z]) hr'
        have s14 := s13.trans s4
        refine ⟨_, rfl, kdD (!decide (m.1 = none), m.2, z), ks.map kdD, IsK.dp ⟨r, rfl, by rw [upd_same, ov_isN]⟩, .lst (SqL.of (s14 _ _ hk)) (AllK.dp (AllK.same s14 ak)), kd_shaped _, kds_shapedL _, _, rfl, ?_⟩
        rw [kd_any]
        refine iteN (fun t4 => ?_) (fun t4 => ?_)
        · exact nofin (decide_eq_false t4) _ s14
        · exact ⟨s3.trans s4, yes (decide_eq_true t4), _, rfl⟩
    · rintro σ3 H3 ⟨s3, hall, z, rfl⟩
      exact hN _ _ ⟨s3, hall, z, rfl⟩
  rintro σ' H3 ⟨s3, hall, z6, rfl⟩
  have hyes : (hereM ks c0 tot.n0 && (hereM ks c1 tot.n1 && hereM ks c2 tot.n2)) = true := by
    rw [hall (hereM ks c0 tot.n0) (by simp), hall (hereM ks c1 tot.n1) (by simp), hall (hereM ks c2 tot.n2) (by simp)]
    rfl
  rw [if_pos hyes] at q
  have s13 := s12.trans s3
  refine ⟨_, rfl, a, _, rfl, SqT.of (s13 _ _ ha), rfl, _, _, rfl, _, _, rfl, _, _, rfl, rfl, ?_⟩
  dsimp only
  have ht3 := s13 _ _ ht
  -- same
  refine asgS (fun v H4 => Same H3 H4 ∧ ∃ D, v = .ref D ∧ H4 D = some (.lst [.bl (same0M tot.b4 c0 c1), .bl (same0M tot.b5 c0 c2)])) (fun R hR => ?_) ?_
  · refine andV (a := decide (c1 = c0)) (b := (decide (c0 = none) || tot.b4)) (fun R r => ⟨_, rfl, _, rfl, _, _, (i1.same s13).dp, (i0.same s13).dp, clD_shaped _, clD_shaped _, by rw [clD_eqv]; exact r⟩) (fun R r => orV (a := decide (c0 = none)) (b := tot.b4) (fun R r => ⟨_, rfl, rfl, by rw [i0.non]; exact r⟩) (fun R r => ⟨_, rfl, ta, _, _, _, rfl, rfl, SqT.of ht3, rfl, r⟩) r) ?_
    refine andV (a := decide (c2 = c0)) (b := (decide (c0 = none) || tot.b5)) (fun R r => ⟨_, rfl, _, rfl, _, _, (i2.same s13).dp, (i0.same s13).dp, clD_shaped _, clD_shaped _, by rw [clD_eqv]; exact r⟩) (fun R r => orV (a := decide (c0 = none)) (b := tot.b5) (fun R r => ⟨_, rfl, rfl, by rw [i0.non]; exact r⟩) (fun R r => ⟨_, rfl, ta, _, _, _, rfl, rfl, SqT.of ht3, rfl, r⟩) r) ?_
    exact ⟨sz_, fun r hr => hR _ _ ⟨same_upd hr, r, rfl, upd_same⟩⟩
  rintro v H4 ⟨s4, sa, rfl, hsa⟩
  dsimp only [gName]
  have s14 := s13.trans s4
  -- the values
  refine asgS (fun v H5 => Same H4 H5 ∧ ∃ D, v = .ref D ∧ H5 D = some (.lst [ovV (val c0), ovV (val c1), ovV (val c2)])) (fun R hR => ?_) ?_
  · refine ⟨_, rfl, a, rfl, ⟨_, SqT.of (s14 _ _ ha)⟩, fun D hD => ?_⟩
    refine lc_tup (K := K) (a := a) (xs := [v0, v1, v2]) (fun n H2 => Same H4 H2 ∧ H2 D = some (.lst (([c0, c1, c2].take n).map fun c => ovV (val c)))) ⟨same_upd hD, upd_same⟩ (fun n H2 _ ⟨s2, _⟩ => SqT.of ((s14.trans s2) _ _ ha)) ?_ ?_
    · rintro n x H5 hn ⟨s5, hacc⟩
      obtain ⟨c, hc, ic⟩ := get3 (R := IsC H5) (i0.same (s14.trans s5)) (i1.same (s14.trans s5)) (i2.same (s14.trans s5)) hn
      refine ⟨rfl, yes_ite ⟨_, rfl, x, c, rfl, ic, _, hacc, ?_, fun b u e => by rw [upd_ne (ne_of_none e hD)]; exact s5 _ _ e, ?_⟩⟩
      · rw [List.length_map]
        exact Nat.lt_of_le_of_lt (by rw [List.length_take]; exact Nat.min_le_right _ _) (by show 3 < sizeLine; decide)
      · rw [upd_same, ← take_next hc, List.map_append]
        rfl
    · rintro H5 ⟨s5, hacc⟩
      exact hR _ _ ⟨s5, D, rfl, hacc⟩
  rintro v H5 ⟨s5, D5, rfl, hD5⟩
  refine ⟨D5, _, rfl, SqL.of hD5, rfl, _, _, rfl, _, _, rfl, _, _, rfl, rfl, ?_⟩
  try dsimp only
  have s15 := s14.trans s5
  have ht5 := s15 _ _ ht
  -- alike
  refine asgS (fun v H6 => Same H5 H6 ∧ ∃ D, v = .ref D ∧ H6 D = some (.lst [.bl (alike0M tot.b6 (val c0) (val c1)), .bl (alike0M tot.b7 (val c0) (val c2))])) (fun R hR => ?_) ?_
  · refine orV (a := tot.b6) (b := (!decide (val c0 = none) && decide (val c1 = val c0))) (fun R r => ⟨_, rfl, ta, _, _, _, rfl, rfl, SqT.of ht5, rfl, r⟩) (fun R r => andV (a := !decide (val c0 = none)) (b := decide (val c1 = val c0)) (fun R r => ⟨_, rfl, rfl, by rw [ov_isN]; exact r⟩) (fun R r => ⟨_, rfl, _, rfl, ov_scal _ _, by rw [ov_eq]; exact r⟩) r) ?_
    refine orV (a := tot.b7) (b := (!decide (val c0 = none) && decide (val c2 = val c0))) (fun R r => ⟨_, rfl, ta, _, _, _, rfl, rfl, SqT.of ht5, rfl, r⟩) (fun R r => andV (a := !decide (val c0 = none)) (b := decide (val c2 = val c0)) (fun R r => ⟨_, rfl, rfl, by rw [ov_isN]; exact r⟩) (fun R r => ⟨_, rfl, _, rfl, ov_scal _ _, by rw [ov_eq]; exact r⟩) r) ?_
    exact ⟨sz_, fun r hr => hR _ _ ⟨same_upd hr, r, rfl, upd_same⟩⟩
  rintro v H6 ⟨s6, la, rfl, hla⟩
  dsimp only [gName]
  have s16 := s15.trans s6
  refine asgS (fun v H7 => H7 = H6 ∧ v = .bl (tot.b8 || (!decide (val c1 = val c0) && !decide (val c2 = val c0)))) (fun R hR => ?_) ?_
  · refine orV (a := tot.b8) (b := (!decide (val c1 = val c0) && !decide (val c2 = val c0))) (fun R r => ⟨_, rfl, ta, _, _, _, rfl, rfl, SqT.of (s16 _ _ ht), rfl, r⟩) (fun R r => andV (a := !decide (val c1 = val c0)) (b := !decide (val c2 = val c0)) (fun R r => ⟨_, rfl, _, rfl, ov_scal _ _, by rw [ov_eq]; exact r⟩) (fun R r => ⟨_, rfl, _, rfl, ov_scal _ _, by rw [ov_eq]; exact r⟩) r) (hR _ _ ⟨rfl, rfl⟩)
  rintro v H7 ⟨rfl, rfl⟩
  dsimp only [gName]
  -- the outcome
  refine asgS (fun v H8 => Same H7 H8 ∧ v = .str (outL pl ks tot c0 c1 c2 (same0M tot.b4 c0 c1) (same0M tot.b5 c0 c2) (alike0M tot.b6 (val c0) (val c1)) (alike0M tot.b7 (val c0) (val c2)) root).s) (fun R hR => ?_) ?_
  · exact ⟨_, rfl, _, rfl, _, rfl, _, rfl, _, rfl, _, rfl, _, rfl, p, kk, ta, a, sa, la, pl, ys, ks, tot, v0, v1, v2, c0, c1, c2, _, _, _, _, root, rfl, hp.same s16, s16 _ _ hk, AllK.same s16 ak, s16 _ _ ht, n30, n32, s16 _ _ ha, i0.same s16, i1.same s16, i2.same s16, s6 _ _ (s5 _ _ hsa), hla, fun H8 s8 => hR _ _ ⟨s8, rfl⟩⟩
  rintro v H8 ⟨s8, rfl⟩
  dsimp only [gName]
  generalize outL pl ks tot c0 c1 c2 (same0M tot.b4 c0 c1) (same0M tot.b5 c0 c2) (alike0M tot.b6 (val c0) (val c1)) (alike0M tot.b7 (val c0) (val c2)) root = oo at q
  have s18 := s16.trans s8
  have hsa8 := s8 _ _ (s6 _ _ (s5 _ _ hsa))
  have hla8 := s8 _ _ hla
  -- the tuple
  refine ⟨_, rfl, a, rfl, ⟨_, SqT.of (s18 _ _ ha)⟩, fun D hD => ?_⟩
  refine lc_tup (K := K) (a := a) (xs := [v0, v1, v2]) (fun n H2 => Same H8 H2 ∧ H2 D = some (.lst (([c0, c1, c2].take n).map fun c => V.bl (!decide (c = none))))) ⟨same_upd hD, upd_same⟩ (fun n H2 _ ⟨s2, _⟩ => SqT.of ((s18.trans s2) _ _ ha)) ?_ ?_
  · rintro n x H9 hn ⟨s9, hacc⟩
    obtain ⟨c, hc, ic⟩ := get3 (R := IsC H9) (i0.same (s18.trans s9)) (i1.same (s18.trans s9)) (i2.same (s18.trans s9)) hn
    refine ⟨rfl, yes_ite ⟨_, rfl, rfl, _, hacc, ?_, fun b u e => by rw [upd_ne (ne_of_none e hD)]; exact s9 _ _ e, ?_⟩⟩
    · rw [List.length_map]
      exact Nat.lt_of_le_of_lt (by rw [List.length_take]; exact Nat.min_le_right _ _) (by show 3 < sizeLine; decide)
    · rw [upd_same, ← take_next hc, List.map_append, ic.non]
      rfl
  · rintro H9 ⟨s9, hacc⟩
    refine ⟨_, rfl, D, sa, _, _, rfl, rfl, hacc, s9 _ _ hsa8, sz_, fun r1 hr1 => ?_⟩
    refine ⟨_, rfl, r1, la, _, _, rfl, rfl, upd_same, same_upd hr1 _ _ (s9 _ _ hla8), sz_, fun r2 hr2 => ?_⟩
    refine ⟨_, rfl, _, rfl, sz_, fun r3 hr3 => ?_⟩
    refine ⟨r2, r3, _, _, rfl, rfl, same_upd hr3 _ _ upd_same, upd_same, sz_, fun r4 hr4 => ?_⟩
    refine ⟨r4, _, rfl, .inl ⟨SqL.of upd_same, fun r5 hr5 => ?_⟩⟩
    exact q _ _ (((((s18.trans s9).trans (same_upd hr1)).trans (same_upd hr2)).trans (same_upd hr3)).trans (same_upd hr4) |>.trans (same_upd hr5)) ⟨r5, rfl, upd_same⟩
end
end Toy
set_option Elab.async false
set_option linter.all false
set_option maxRecDepth 100000
set_option maxHeartbeats 4000000
namespace Toy
open PySem L2 Sh
/-! ### plans, cases, kinds as the law draws them -/
def spMade (P : Program) (w : World) (K : PySem.W.Frag) (C : Addr) : Sp := fun vs H Q _ => ∃ (a : Addr) (pl : Pl), vs = [.ref a] ∧ PtAt P w K H a pl ∧ ∀ H' x, Same H H' → PlanAt P w K C H' x pl → Q (.ref x) H'
def spLCase : Sp := fun vs H Q _ => ∃ (d c : Addr) (n : Nat), vs = [.ref d] ∧ Pen H d c n ∧ n ≤ 50000 ∧ ∀ H' r cas, Kp d H H' → Pen H' d c (n + 9) → IsS H' r cas → Q r H'
theorem tup_kp {H H' : Hp} {d o : Addr} {xs : List V} (s : Kp d H H') (hd : ∃ kvs, H d = some (.dK kvs)) (h : H o = some (.tup xs)) : H' o = some (.tup xs) := by
  obtain ⟨kvs, hd⟩ := hd
  exact s _ _ h (ne_of h hd (by intro z; cases z))
theorem IsS.kp {H H' : Hp} {d : Addr} {v : V} {c : Cas} (s : Kp d H H') (hd : ∃ kvs, H d = some (.dK kvs)) (h : IsS H v c) : IsS H' v c := by
  obtain ⟨a, rfl, h⟩ := h
  exact ⟨a, rfl, tup_kp s hd h⟩
theorem IsC.kp {H H' : Hp} {d : Addr} {v : V} {c : Option Cl} (s : Kp d H H') (hd : ∃ kvs, H d = some (.dK kvs)) (h : IsC H v c) : IsC H' v c := by
  cases c with
  | none => exact h
  | some c =>
    obtain ⟨a, rfl, h⟩ := h
    exact ⟨a, rfl, tup_kp s hd h⟩
theorem len8 : ∀ {bs : List Bool}, bs.length = 8 → ∃ b0 b1 b2 b3 b4 b5 b6 b7, bs = [b0, b1, b2, b3, b4, b5, b6, b7]
  | [b0, b1, b2, b3, b4, b5, b6, b7], _ => ⟨b0, b1, b2, b3, b4, b5, b6, b7, rfl⟩
section
variable {P : Program} {w : World} {K : PySem.W.Frag} {mg : Str → Option Value} {base : Heap}
theorem ok_l_made (T : Tx K mg) : FnOk P w K mg base CX0 4 T.a_l_made T.fd_l_made ["_law_plan_here"] (spMade P w K T.c_Plan) := by
  refine T.F_l_made.ok sc_l_made (fun vs H Q E h => ?_) (fun cdv A outer s H vs Q E hr h => ?_)
  · obtain ⟨a, pl, rfl, _⟩ := h
    rfl
  obtain ⟨a, pl, rfl, ⟨fv, ha, hf⟩, q⟩ := h
  refine ⟨_, (pss_one (ps_ret (pe_make T.mk_Plan (ok_Plan_init T) (hr.mono (by decide)) (by rfl) T.m_Plan T.bi_Plan_init .nil pass0 (pa_cons (pe_ix ix_tup (pv 0) pe_int (fun _ _ => rfl)) (pa_cons (pe_ix ix_tup (pv 0) pe_int (fun _ _ => rfl)) (pa_cons (pe_ix ix_tup (pv 0) pe_int (fun _ _ => rfl)) (pa_cons (pe_ix ix_tup (pv 0) pe_int (fun _ _ => rfl)) (pa_cons (pe_ix ix_tup (pv 0) pe_int (fun _ _ => rfl)) pa_nil)))))))), ?_⟩
  refine ⟨_, rfl, a, _, _, _, rfl, rfl, SqT.of ha, rfl, _, rfl, a, _, _, _, rfl, rfl, SqT.of ha, rfl, _, rfl, a, _, _, _, rfl, rfl, SqT.of ha, rfl, _, rfl, a, _, _, _, rfl, rfl, SqT.of ha, rfl, _, rfl, a, _, _, _, rfl, rfl, SqT.of ha, rfl, fun x dx hx hdx nx => ?_⟩
  have s1 : Same H (upd (upd H dx (.own x)) x (.ins T.c_Plan dx [])) := fun b o e => by
    rw [upd_ne (ne_of_none e hx), upd_ne (ne_of_none e hdx)]
    exact e
  refine ⟨x, dx, pl, fv, rfl, upd_same, hf.same s1, fun H' kp hP => ⟨rfl, q _ _ (fun b o e => kp _ _ (s1 _ _ e) (ne_of_none e hx)) hP⟩⟩
theorem ok_l_case (T : Tx K mg) : FnOk P w K mg base CX0 3 T.a_l_case T.fd_l_case ["_law_pen"] spLCase := by
  refine T.F_l_case.ok sc_l_case (fun vs H Q E h => ?_) (fun cdv A outer s H vs Q E hr h => ?_)
  · obtain ⟨d, c, n, rfl, _⟩ := h
    rfl
  have hu := hu_of hr
  obtain ⟨d, c, n, rfl, hp, hn, q⟩ := h
  refine ⟨_, (pss_cons (ps_setLc (i := 1) (own := [("_law_turn", 2)]) (g := gName 2) rfl sc_l_case.nd rfl rfl (sw_true rfl rfl rfl (by decide +kernel)) (pi_range1 (by rfl) T.b_range (pa_cons pe_int pa_nil)) (blkOk_by (own := [("_law_turn", 2)]) (N := N_l_case) (sc := defScope s_l_case) (by decide +kernel)) (fun _ _ _ _ _ => (pg_name (i := 2) sc_l_case.nd rfl (by first | exact Or.inl rfl | exact Or.inr rfl))) (fun _ _ _ _ _ => pts_nil) (fun _ _ _ _ _ => (pe_cmpR op_eq (pe_call (ok_l_draw T) (hr.mono (by decide)) (by rfl) T.m_l_draw T.F_l_draw.kp T.bi_l_draw .nil pass0 (pa_cons (pv 0) (pa_cons pe_int pa_nil))) pe_int (nomark _))))
 (pss_one (ps_ret (pe_callTy call_tuple_of (by rfl) T.b_tuple (by decide +kernel) (pa_cons (pe_op op_cat (pv 1) (pe_lst (pa_cons (pe_call (ok_l_pick T) (hr.mono (by decide)) (by rfl) T.m_l_pick T.F_l_pick.kp T.bi_l_pick .nil pass0 (pa_cons (pv 0) (pa_cons (pe_lst (pa_cons pe_str (pa_cons pe_str (pa_cons pe_str (pa_cons pe_str (pa_cons pe_str (pa_cons pe_str (pa_cons pe_str (pa_cons pe_str pa_nil))))))))) pa_nil))) pa_nil))) pa_nil))))), ?_⟩
  refine asgS (fun v H1 => Kp d H H1 ∧ Pen H1 d c (n + 8) ∧ ∃ (D : Addr) (bs : List Bool), v = .ref D ∧ H1 D = some (.lst (bs.map V.bl)) ∧ bs.length = 8) (fun R hR => ?_) ?_
  · refine ⟨8, rfl, by decide, by decide, fun D hD => ?_⟩
    refine lc_range (lo := 0) (n := 8) (fun i H2 => Kp d H H2 ∧ Pen H2 d c (n + i) ∧ ∃ bs : List Bool, H2 D = some (.lst (bs.map V.bl)) ∧ bs.length = i) ⟨kp_new hD, hp.same (same_upd hD), [], upd_same, rfl⟩ ?_ ?_
    · rintro i H2 hi ⟨k2, p2, bs, hacc, hlen⟩
      refine ⟨rfl, yes_ite ⟨_, rfl, d, c, n + i, 2, rfl, p2, by omega, by decide, by decide, fun H3 r r0 r1 k3 p3 => ?_⟩⟩
      refine ⟨rfl, _, lst_kp k3 p2.at hacc, ?_, kp_upd (k2.trans k3) hD, Pen.put hp hD p3, bs ++ [decide (V.int r = V.int 0)], ?_, ?_⟩
      · rw [List.length_map, hlen]
        exact small1000 (by omega)
      · rw [upd_same, List.map_append]
        rfl
      · rw [List.length_append, hlen]
        rfl
    · rintro H2 ⟨k2, p2, bs, hacc, hlen⟩
      exact hR _ _ ⟨k2, p2, D, bs, rfl, hacc, hlen⟩
  rintro v H1 ⟨k1, p1, D, bs, rfl, hD, hlen⟩
  refine ⟨_, rfl, _, rfl, sz_, fun e he => ?_⟩
  have s2 := same_upd (o := .lst [V.str "none", V.str "tree", V.str "tree", V.str "rule", V.str "words", V.str "clash", V.str "none", V.str "tree"]) he
  refine ⟨d, c, e, n + 8, _, rfl, p1.same s2, by omega, upd_same, by show 0 < 8; decide, by show 8 ≤ 1000; decide, fun H3 x hx k3 p3 => ?_⟩
  obtain ⟨o, rfl⟩ : ∃ o : Oc, x = V.str o.s := by
    simp only [List.mem_cons, List.not_mem_nil, or_false] at hx
    rcases hx with rfl | rfl | rfl | rfl | rfl | rfl | rfl | rfl
    · exact ⟨.none, rfl⟩
    · exact ⟨.tree, rfl⟩
    · exact ⟨.tree, rfl⟩
    · exact ⟨.rule, rfl⟩
    · exact ⟨.words, rfl⟩
    · exact ⟨.clash, rfl⟩
    · exact ⟨.none, rfl⟩
    · exact ⟨.tree, rfl⟩
  have hD3 := lst_kp k3 (p1.same s2).at (s2 _ _ hD)
  obtain ⟨b0, b1, b2, b3, b4, b5, b6, b7, rfl⟩ := len8 hlen
  refine ⟨sz_, fun l hl => ⟨D, l, _, _, rfl, rfl, same_upd hl _ _ hD3, upd_same, sz_, fun l2 hl2 => ⟨l2, _, rfl, .inl ⟨SqL.of upd_same, fun r hr => ?_⟩⟩⟩⟩
  have s4 := (same_upd (o := .lst [V.str o.s]) hl).trans ((same_upd (o := .lst (List.map V.bl [b0, b1, b2, b3, b4, b5, b6, b7] ++ [V.str o.s])) hl2).trans (same_upd (o := .tup (List.map V.bl [b0, b1, b2, b3, b4, b5, b6, b7] ++ [V.str o.s])) hr))
  exact q _ _ ⟨b0, b1, b2, b3, b4, b5, b6, b7, o⟩ (((k1.trans (Same.kp s2)).trans k3).trans (Same.kp s4)) (p3.same s4) ⟨r, rfl, upd_same⟩
end
end Toy
set_option Elab.async false
set_option linter.all false
set_option maxRecDepth 100000
set_option maxHeartbeats 4000000
namespace Toy
open PySem L2 Sh
/-! ### kinds as the law draws them -/
def everyL : List Kd := [(true, true, 0), (true, true, 1), (true, true, 2), (true, false, 0), (true, false, 1), (true, false, 2), (false, true, 0), (false, true, 1), (false, true, 2), (false, false, 0), (false, false, 1), (false, false, 2)]
theorem everyL_nd : everyL.Nodup := by decide +kernel
theorem everyL_good : ∀ k ∈ everyL, 0 ≤ k.2.2 ∧ k.2.2 ≤ 2 := by decide +kernel
theorem goodL_of {ks : List Kd} (h : ks.Sublist everyL) : GoodK ks := ⟨h.nodup everyL_nd, fun k hk => everyL_good k (h.subset hk), h.length_le⟩
theorem tf_at {i : Nat} {x : V} (h : [V.bl true, V.bl false][i]? = some x) : ∃ a, x = .bl a ∧ ((i = 0 ∧ a = true) ∨ (i = 1 ∧ a = false)) := by
  match i, h with
  | 0, h => cases h; exact ⟨true, rfl, .inl ⟨rfl, rfl⟩⟩
  | 1, h => cases h; exact ⟨false, rfl, .inr ⟨rfl, rfl⟩⟩
  | i + 2, h => simp at h
theorem grp {i j : Nat} {a b : Bool} (hi : (i = 0 ∧ a = true) ∨ (i = 1 ∧ a = false)) (hj : (j = 0 ∧ b = true) ∨ (j = 1 ∧ b = false)) : everyL.take (6 * i + 3 * j) ++ [(a, b, 0), (a, b, 1), (a, b, 2)] = everyL.take (6 * i + 3 * (j + 1)) := by
  rcases hi with ⟨rfl, rfl⟩ | ⟨rfl, rfl⟩ <;> rcases hj with ⟨rfl, rfl⟩ | ⟨rfl, rfl⟩ <;> rfl
def spLKinds : Sp := fun vs H Q _ => ∃ (d c : Addr) (n : Nat), vs = [.ref d] ∧ Pen H d c n ∧ n ≤ 50000 ∧ ∀ H' D ys ks, Kp d H H' → Pen H' d c (n + 13) → H' D = some (.lst ys) → AllK H' ys ks → GoodK ks → Q (.ref D) H'
section
variable {P : Program} {w : World} {K : PySem.W.Frag} {mg : Str → Option Value} {base : Heap}
theorem ok_l_kinds (T : Tx K mg) : FnOk P w K mg base CX0 3 T.a_l_kinds T.fd_l_kinds ["_law_pen"] spLKinds := by
  refine T.F_l_kinds.ok sc_l_kinds (fun vs H Q E h => ?_) (fun cdv A outer s H vs Q E hr h => ?_)
  · obtain ⟨d, c, n, rfl, _⟩ := h
    rfl
  have hu := hu_of hr
  obtain ⟨d, c, n, rfl, hp, hn, q⟩ := h
  refine ⟨_, (pss_cons (ps_asg (pe_tup (pa_cons (pe_lst pa_nil) (pa_cons (pe_call (ok_l_pick T) (hr.mono (by decide)) (by rfl) T.m_l_pick T.F_l_pick.kp T.bi_l_pick .nil pass0 (pa_cons (pv 0) (pa_cons (pe_lst (pa_cons pe_int (pa_cons pe_int (pa_cons pe_int (pa_cons pe_int pa_nil))))) pa_nil))) pa_nil))) (pg_tup rfl (pgs_cons (pg_name (i := 1) sc_l_kinds.nd rfl (by first | exact Or.inl rfl | exact Or.inr rfl)) (pgs_cons (pg_name (i := 2) sc_l_kinds.nd rfl (by first | exact Or.inl rfl | exact Or.inr rfl)) pgs_nil))))
 (pss_cons (ps_for PassesOwn.never rfl (pi_list (pe_lst (pa_cons pe_bl (pa_cons pe_bl pa_nil)))) (pg_name (i := 3) sc_l_kinds.nd rfl (by first | exact Or.inl rfl | exact Or.inr rfl))
 (pss_one (ps_for PassesOwn.never rfl (pi_list (pe_lst (pa_cons pe_bl (pa_cons pe_bl pa_nil)))) (pg_name (i := 4) sc_l_kinds.nd rfl (by first | exact Or.inl rfl | exact Or.inr rfl))
 (pss_one (ps_set (i := 1) sc_l_kinds.nd rfl (by first | exact Or.inl rfl | exact Or.inr rfl) (pe_op op_cat (pv 1) (pe_lc (own := [("_law_many", 5)]) (g := gName 5) rfl sc_l_kinds.nd (pi_range1 (by rfl) T.b_range (pa_cons pe_int pa_nil)) (blkOk_by (own := [("_law_many", 5)]) (N := N_l_kinds) (sc := defScope s_l_kinds) (by decide +kernel)) (fun _ _ _ _ _ => (pg_name (i := 5) sc_l_kinds.nd rfl (by first | exact Or.inl rfl | exact Or.inr rfl))) (fun _ _ _ _ _ => (pts_one (pt_cmpR op_lt (pe_call (ok_l_draw T) (hr.mono (by decide)) (by rfl) T.m_l_draw T.F_l_draw.kp T.bi_l_draw .nil pass0 (pa_cons (pv 0) (pa_cons pe_int pa_nil))) (pv 2) (nomark _)))) (fun _ _ _ _ _ => (pe_tup (pa_cons (pv 3) (pa_cons (pv 4) (pa_cons (pv 5) pa_nil))))))))))))
 (pss_one (ps_ret (pv 1))))), ?_⟩
  refine asgS (fun v H1 => Kp d H H1 ∧ Pen H1 d c (n + 1) ∧ ∃ t o m, v = .ref t ∧ H1 t = some (.tup [.ref o, .int m]) ∧ H1 o = some (.lst [])) (fun R hR => ?_) ?_
  · refine ⟨sz_, fun o ho => ⟨_, rfl, sz_, fun e he => ?_⟩⟩
    have s1 := same_upd (o := .lst []) ho
    have s2 := same_upd (o := .lst [V.int 3, V.int 7, V.int 8, V.int 9]) he
    have p2 := (hp.same s1).same s2
    refine ⟨d, c, e, n, _, rfl, p2, by omega, upd_same, by show 0 < 4; decide, by show 4 ≤ 1000; decide, fun H3 x hx k3 p3 => ?_⟩
    obtain ⟨m, rfl⟩ : ∃ m, x = V.int m := by
      simp only [List.mem_cons, List.not_mem_nil, or_false] at hx
      rcases hx with rfl | rfl | rfl | rfl <;> exact ⟨_, rfl⟩
    have ho3 := lst_kp k3 p2.at (s2 _ _ upd_same)
    exact ⟨sz_, fun t ht => hR _ _ ⟨((Same.kp (s1.trans s2)).trans k3).trans (kp_new ht), p3.same (same_upd ht), t, o, m, rfl, upd_same, same_upd ht _ _ ho3⟩⟩
  rintro v H1 ⟨k1, p1, t, o, m, rfl, ht, ho⟩
  refine ⟨t, _, rfl, SqT.of ht, rfl, _, _, rfl, _, _, rfl, rfl, ?_⟩
  try dsimp only
  refine seqW (fun σ' H' => Kp d H H' ∧ Pen H' d c (n + 13) ∧ ∃ z3 z4 z5 D xs ks, σ' = [some (.ref d), some (.ref D), some (.int m), z3, z4, z5] ∧ H' D = some (.lst xs) ∧ AllK H' xs ks ∧ ks.Sublist everyL) (fun N hN => ?_) ?_
  · refine ⟨sz_, fun e0 he0 => ⟨e0, rfl, ⟨_, SqL.of upd_same⟩, ?_⟩⟩
    have s0 := same_upd (o := .lst [V.bl true, V.bl false]) he0
    refine for_list (K := K) (a := e0) (xs := [V.bl true, V.bl false]) (fun i σ' H' => Kp d H H' ∧ Pen H' d c (n + 1 + 6 * i) ∧ H' e0 = some (.lst [V.bl true, V.bl false]) ∧ ∃ z3 z4 z5 D xs ks, σ' = [some (.ref d), some (.ref D), some (.int m), z3, z4, z5] ∧ H' D = some (.lst xs) ∧ AllK H' xs ks ∧ ks.Sublist (everyL.take (6 * i))) ⟨k1.trans (Same.kp s0), p1.same s0, upd_same, none, none, none, o, [], [], rfl, s0 _ _ ho, .nil, List.Sublist.refl _⟩ (fun i σ' H' _ ⟨_, _, h, _⟩ => SqL.of h) ?_ ?_
    · rintro i x σ2 H2 hi ⟨k2, p2, he2, z3, z4, z5, D, xs, ks, rfl, hD, hk, hsub⟩
      obtain ⟨kept, rfl, hkept⟩ := tf_at hi
      have hi2 : i ≤ 1 := by rcases hkept with ⟨h, _⟩ | ⟨h, _⟩ <;> omega
      refine ⟨sz_, fun e1 he1 => ⟨e1, rfl, ⟨_, SqL.of upd_same⟩, ?_⟩⟩
      have s1 := same_upd (o := .lst [V.bl true, V.bl false]) he1
      refine for_list (K := K) (a := e1) (xs := [V.bl true, V.bl false]) (fun j σ' H' => Kp d H H' ∧ Pen H' d c (n + 1 + 6 * i + 3 * j) ∧ H' e0 = some (.lst [V.bl true, V.bl false]) ∧ H' e1 = some (.lst [V.bl true, V.bl false]) ∧ ∃ z4 z5 D xs ks, σ' = [some (.ref d), some (.ref D), some (.int m), some (.bl kept), z4, z5] ∧ H' D = some (.lst xs) ∧ AllK H' xs ks ∧ ks.Sublist (everyL.take (6 * i + 3 * j))) ⟨k2.trans (Same.kp s1), p2.same s1, s1 _ _ he2, upd_same, z4, z5, D, xs, ks, rfl, s1 _ _ hD, AllK.same s1 hk, hsub⟩ (fun i σ' H' _ ⟨_, _, _, h, _⟩ => SqL.of h) ?_ ?_
      · rintro j y σ3 H3 hj ⟨k3, p3, he03, he13, z4, z5, D, xs, ks, rfl, hD, hk, hsub⟩
        obtain ⟨flag, rfl, hflag⟩ := tf_at hj
        have hj2 : j ≤ 1 := by rcases hflag with ⟨h, _⟩ | ⟨h, _⟩ <;> omega
        refine ⟨_, rfl, 3, rfl, by decide, by decide, fun D2 hD2 => ?_⟩
        have nD2 : D ≠ D2 := ne_of_none hD hD2
        refine lc_range (lo := 0) (n := 3) (fun l H4 => Kp d H3 H4 ∧ Pen H4 d c (n + 1 + 6 * i + 3 * j + l) ∧ ∃ acc js, H4 D2 = some (.lst acc) ∧ AllK H4 acc js ∧ js.Sublist ([(kept, flag, 0), (kept, flag, 1), (kept, flag, 2)].take l)) ⟨kp_new hD2, p3.same (same_upd hD2), [], [], upd_same, .nil, List.Sublist.refl _⟩ ?_ ?_
        · rintro l H4 hl ⟨k4, p4, acc, js, hacc, hjs, hsub2⟩
          refine ⟨rfl, ?_⟩
          refine ⟨_, rfl, d, c, n + 1 + 6 * i + 3 * j + l, 9, rfl, p4, by omega, by decide, by decide, fun H5 r r0 r1 k5 p5 => ?_⟩
          refine ⟨_, rfl, _, _, rfl, rfl, _, rfl, ?_⟩
          have hacc5 := lst_kp k5 p4.at hacc
          have hjs5 := AllK.kp k5 p4.at hjs
          have hkl : [(kept, flag, (0 : Int)), (kept, flag, 1), (kept, flag, 2)][l]? = some (kept, flag, 0 + (l : Int)) := by
            match l, hl with
            | 0, _ => rfl
            | 1, _ => rfl
            | 2, _ => rfl
            | l + 3, h => omega
          have hlen : acc.length ≤ 3 := by
            rw [AllK.len hjs]
            have := hsub2.length_le
            rw [List.length_take] at this
            exact Nat.le_trans this (Nat.min_le_right _ _)
          refine ite2 (fun _ => ?_) (fun _ => ?_)
          · refine ⟨_, rfl, _, rfl, _, rfl, sz_, fun t5 ht5 => ?_⟩
            have s5 := same_upd (o := .tup [V.bl kept, V.bl flag, V.int (0 + (l : Int))]) ht5
            have hacc6 := s5 _ _ hacc5
            refine ⟨acc, hacc6, small1000 (by omega), kp_upd ((k4.trans k5).trans (Same.kp s5)) hD2, Pen.put p3 hD2 (p5.same s5), acc ++ [.ref t5], js ++ [(kept, flag, 0 + (l : Int))], upd_same, AllK.append (AllK.put hacc6 (AllK.same s5 hjs5)) (.cons (IsK.put hacc6 ⟨t5, rfl, upd_same⟩) .nil), sub_next hsub2 hkl⟩
          · exact ⟨k4.trans k5, p5, acc, js, hacc5, hjs5, sub_stay hsub2 hkl⟩
        · rintro H4 ⟨k4, p4, acc, js, hacc, hjs, hsub2⟩
          have hD4 := lst_kp k4 p3.at hD
          have hk4 := AllK.kp k4 p3.at hk
          have hnew : (ks ++ js).Sublist (everyL.take (6 * i + 3 * (j + 1))) := by
            rw [← grp hkept hflag]
            exact hsub.append hsub2
          have hlen : xs.length + acc.length ≤ 12 := by
            rw [AllK.len hk, AllK.len hjs, ← List.length_append]
            have := hnew.length_le
            rw [List.length_take] at this
            exact Nat.le_trans this (Nat.min_le_right _ _)
          refine ⟨D, D2, xs, acc, rfl, rfl, hD4, hacc, Nat.le_trans hlen (by decide), fun p6 hp6 => ?_⟩
          have s6 := same_upd (o := .lst (xs ++ acc)) hp6
          exact ⟨(k3.trans k4).trans (Same.kp s6), p4.same s6, s6 _ _ (lst_kp k4 p3.at he03), s6 _ _ (lst_kp k4 p3.at he13), _, _, p6, _, ks ++ js, rfl, upd_same, AllK.same s6 (AllK.append hk4 hjs), hnew⟩
      · rintro σ3 H3 ⟨k3, p3, he03, he13, z4, z5, D, xs, ks, rfl, hD, hk, hsub⟩
        exact ⟨k3, p3, he03, _, _, _, D, xs, ks, rfl, hD, hk, hsub⟩
    · rintro σ2 H2 ⟨k2, p2, _, z3, z4, z5, D, xs, ks, rfl, hD, hk, hsub⟩
      exact hN _ _ ⟨k2, p2, z3, z4, z5, D, xs, ks, rfl, hD, hk, hsub.trans (List.take_sublist _ _)⟩
  rintro σ' H2 ⟨k2, p2, z3, z4, z5, D, xs, ks, rfl, hD, hk, hsub⟩
  exact ⟨_, rfl, q _ D xs ks k2 p2 hD hk (goodL_of hsub)⟩
end
end Toy
set_option Elab.async false
set_option linter.all false
set_option maxRecDepth 100000
set_option maxHeartbeats 4000000
namespace Toy
open PySem L2 Sh
/-! ### plans as the law draws them -/
def flL (F : Fl) (m : Nat) : List (NestedKey × V) := (keys12.take m).map fun k => (nk3 k, V.bl (F k.1 k.2.1 k.2.2))
def setF (F : Fl) (q : Bool × Bool × Int) (b : Bool) : Fl := fun r k n => if (r, k, n) = q then b else F r k n
theorem fl_next (F : Fl) {m : Nat} {q : Bool × Bool × Int} (h : keys12[m]? = some q) (b : Bool) : putK (flL F m) (nk3 q) (.bl b) = flL (setF F q b) (m + 1) := by
  have hni : ¬ q ∈ keys12.take m := fun hm => by
    obtain ⟨j, hj⟩ := List.mem_iff_getElem?.mp hm
    have hji : j < m := by
      have := (List.getElem?_eq_some_iff.mp hj).1
      rw [List.length_take] at this
      omega
    rw [List.getElem?_take_of_lt hji] at hj
    have := nd_ix keys12_nd hj h
    omega
  have e1 : flL F m = flL (setF F q b) m := by
    unfold flL
    refine List.map_congr_left fun k hk => ?_
    have : ¬ (k.1, k.2.1, k.2.2) = q := fun z => hni (by rw [← z]; exact hk)
    simp only [setF]
    rw [if_neg this]
  have e2 : V.bl b = V.bl (setF F q b q.1 q.2.1 q.2.2) := by
    simp [setF]
  rw [e1, e2]
  exact put_next (setF F q b) h
theorem keyd_kp {K : PySem.W.Frag} {p : Addr} {H H' : Hp} {k : NestedKey} {b : Addr} (kp : Kp p H H') (hp : ∃ kvs, H p = some (.dK kvs)) (h : KeyAt K H k b) : KeyAt K H' k b := by
  obtain ⟨_, e⟩ := hp
  refine h.mono fun c u r => ?_
  rcases r with r | ⟨o, r⟩
  · exact .inl (kp _ _ r (ne_of r e (by intro z; cases z)))
  · exact .inr ⟨o, kp _ _ r (ne_of r e (by intro z; cases z))⟩
theorem DN.kpd {P : Program} {w : World} {K : PySem.W.Frag} {p : Addr} {H H' : Hp} {a : Addr} {kvs : List (NestedKey × V)} (kp : Kp p H H') (hp : ∃ kvs, H p = some (.dK kvs)) (h : DN P w K H a kvs) : DN P w K H' a kvs := by
  obtain ⟨xs, h1, h2, h3⟩ := h
  refine ⟨xs, ?_, h2, fun x hx => keyd_kp kp hp (h3 x hx)⟩
  obtain ⟨_, e⟩ := hp
  exact kp _ _ h1 (ne_of h1 e (by intro z; cases z))
theorem FlAt.kpd {P : Program} {w : World} {K : PySem.W.Frag} {p : Addr} {H H' : Hp} {v : V} {f : Option Fl} (k : Kp p H H') (hp : ∃ kvs, H p = some (.dK kvs)) (h : FlAt P w K H v f) : FlAt P w K H' v f := by
  cases f with
  | none => exact h
  | some f =>
    obtain ⟨d, e, h⟩ := h
    exact ⟨d, e, DN.kpd k hp h⟩
theorem PtAt.kpd {P : Program} {w : World} {K : PySem.W.Frag} {p : Addr} {H H' : Hp} {a : Addr} {pl : Pl} (k : Kp p H H') (hp : ∃ kvs, H p = some (.dK kvs)) (h : PtAt P w K H a pl) : PtAt P w K H' a pl := by
  obtain ⟨fv, h1, h2⟩ := h
  exact ⟨fv, tup_kp k hp h1, h2.kpd k hp⟩
theorem PlanAt.kpd {P : Program} {w : World} {K : PySem.W.Frag} {C p : Addr} {H H' : Hp} {a : Addr} {pl : Pl} (k : Kp p H H') (hp : ∃ kvs, H p = some (.dK kvs)) (h : PlanAt P w K C H a pl) : PlanAt P w K C H' a pl := by
  obtain ⟨dx, v, h1, h2⟩ := h
  refine ⟨dx, v, ?_, h2.kpd k hp⟩
  obtain ⟨_, e⟩ := hp
  exact k _ _ h1 (ne_of h1 e (by intro z; cases z))
theorem RuleAt.kpd {C p : Addr} {H H' : Hp} {a : Addr} {js1 js2 : List Kd} (k : Kp p H H') (hp : ∃ kvs, H p = some (.dK kvs)) (h : RuleAt C H a js1 js2) : RuleAt C H' a js1 js2 := by
  obtain ⟨dx, p1, p2, ys1, ys2, h1, h2, h3, h4, h5⟩ := h
  refine ⟨dx, p1, p2, ys1, ys2, ?_, tup_kp k hp h2, tup_kp k hp h3, AllK.kp k hp h4, AllK.kp k hp h5⟩
  obtain ⟨_, e⟩ := hp
  exact k _ _ h1 (ne_of h1 e (by intro z; cases z))
theorem DN.lst_ne {P : Program} {w : World} {K : PySem.W.Frag} {H : Hp} {a e : Addr} {kvs : List (NestedKey × V)} {xs : List V} (h : DN P w K H a kvs) (he : H e = some (.lst xs)) : e ≠ a := by
  obtain ⟨_, h1, _⟩ := h
  exact ne_of he h1 (by intro z; cases z)
theorem key_ix {i j l : Nat} {a b : Bool} (hi : (i = 0 ∧ a = true) ∨ (i = 1 ∧ a = false)) (hj : (j = 0 ∧ b = true) ∨ (j = 1 ∧ b = false)) (hl : l < 3) : keys12[6 * i + 3 * j + l]? = some (a, b, 0 + (l : Int)) := by
  have : l = 0 ∨ l = 1 ∨ l = 2 := by omega
  rcases hi with ⟨rfl, rfl⟩ | ⟨rfl, rfl⟩ <;> rcases hj with ⟨rfl, rfl⟩ | ⟨rfl, rfl⟩ <;> rcases this with rfl | rfl | rfl <;> rfl
def spLPlan (P : Program) (w : World) (K : PySem.W.Frag) : Sp := fun vs H Q _ => ∃ (d c : Addr) (n : Nat), vs = [.ref d] ∧ Pen H d c n ∧ n ≤ 50000 ∧ ∀ H' a pl, Kp d H H' → Pen H' d c (n + 17) → PtAt P w K H' a pl → Q (.ref a) H'
section
variable {P : Program} {w : World} {K : PySem.W.Frag} {mg : Str → Option Value} {base : Heap}
theorem ok_l_plan (T : Tx K mg) : FnOk P w K mg base CX0 3 T.a_l_plan T.fd_l_plan ["_law_pen"] (spLPlan P w K) := by
  refine T.F_l_plan.ok sc_l_plan (fun vs H Q E h => ?_) (fun cdv A outer s H vs Q E hr h => ?_)
  · obtain ⟨d, c, n, rfl, _⟩ := h
    rfl
  have hu65 := hu65_of hr
  have hu := hu_of hr
  obtain ⟨d, c, n, rfl, hp, hn, q⟩ := h
  refine ⟨_, (pss_cons (ps_set (i := 1) sc_l_plan.nd rfl (by first | exact Or.inl rfl | exact Or.inr rfl) (pe_call (ok_l_pick T) (hr.mono (by decide)) (by rfl) T.m_l_pick T.F_l_pick.kp T.bi_l_pick .nil pass0 (pa_cons (pv 0) (pa_cons (pe_lst (pa_cons pe_str (pa_cons pe_str (pa_cons pe_str (pa_cons pe_str (pa_cons pe_str (pa_cons pe_str (pa_cons pe_str pa_nil)))))))) pa_nil))))
 (pss_cons (ps_par (i := 2) (j := 3) (by rfl) sc_l_plan.nd rfl rfl (by decide) rfl rfl (pa_cons (pe_call (ok_l_pick T) (hr.mono (by decide)) (by rfl) T.m_l_pick T.F_l_pick.kp T.bi_l_pick .nil pass0 (pa_cons (pv 0) (pa_cons (pe_lst (pa_cons pe_str (pa_cons pe_str (pa_cons pe_str (pa_cons pe_str pa_nil))))) pa_nil))) (pa_cons (pe_call (ok_l_pick T) (hr.mono (by decide)) (by rfl) T.m_l_pick T.F_l_pick.kp T.bi_l_pick .nil pass0 (pa_cons (pv 0) (pa_cons (pe_lst (pa_cons pe_str (pa_cons pe_str (pa_cons pe_str pa_nil)))) pa_nil))) pa_nil)) (by rfl))
 (pss_cons (ps_par (i := 4) (j := 5) (by rfl) sc_l_plan.nd rfl rfl (by decide) rfl rfl (pa_cons (pe_cmpR op_eq (pe_call (ok_l_draw T) (hr.mono (by decide)) (by rfl) T.m_l_draw T.F_l_draw.kp T.bi_l_draw .nil pass0 (pa_cons (pv 0) (pa_cons pe_int pa_nil))) pe_int (nomark _)) (pa_cons pe_dnewN pa_nil)) (by rfl))
 (pss_cons (ps_if (pt_cmpR op_gt (pe_call (ok_l_draw T) (hr.mono (by decide)) (by rfl) T.m_l_draw T.F_l_draw.kp T.bi_l_draw .nil pass0 (pa_cons (pv 0) (pa_cons pe_int pa_nil))) pe_int (nomark _))
 (pss_one (ps_ret (pe_tup (pa_cons (pv 1) (pa_cons (pv 2) (pa_cons (pv 3) (pa_cons (pv 4) (pa_cons pe_non pa_nil))))))))
 pss_nil)
 (pss_cons (ps_for PassesOwn.never rfl (pi_list (pe_lst (pa_cons pe_bl (pa_cons pe_bl pa_nil)))) (pg_name (i := 6) sc_l_plan.nd rfl (by first | exact Or.inl rfl | exact Or.inr rfl))
 (pss_one (ps_for PassesOwn.never rfl (pi_list (pe_lst (pa_cons pe_bl (pa_cons pe_bl pa_nil)))) (pg_name (i := 7) sc_l_plan.nd rfl (by first | exact Or.inl rfl | exact Or.inr rfl))
 (pss_one (ps_for PassesOwn.never rfl (pi_range1 (by rfl) T.b_range (pa_cons pe_int pa_nil)) (pg_name (i := 8) sc_l_plan.nd rfl (by first | exact Or.inl rfl | exact Or.inr rfl))
 (pss_one (ps_dputN hu65 (pv 5) (pe_tup (pa_cons (pv 6) (pa_cons (pv 7) (pa_cons (pv 8) pa_nil)))) (pe_cmpR op_eq (pe_call (ok_l_draw T) (hr.mono (by decide)) (by rfl) T.m_l_draw T.F_l_draw.kp T.bi_l_draw .nil pass0 (pa_cons (pv 0) (pa_cons pe_int pa_nil))) pe_int (nomark _)) rfl)))))))
 (pss_one (ps_ret (pe_tup (pa_cons (pv 1) (pa_cons (pv 2) (pa_cons (pv 3) (pa_cons (pv 4) (pa_cons (pv 5) pa_nil))))))))))))), ?_⟩
  -- gone
  refine ⟨_, rfl, sz_, fun e1 he1 => ?_⟩
  have s1 := same_upd (o := .lst [V.str "clash", V.str "kept", V.str "bare", V.str "base", V.str "kept", V.str "bare", V.str "base"]) he1
  refine ⟨d, c, e1, n, _, rfl, hp.same s1, by omega, upd_same, by show 0 < 7; decide, by show 7 ≤ 1000; decide, fun H1 x hx k1 p1 => ?_⟩
  obtain ⟨go, rfl⟩ : ∃ o : Go, x = V.str o.s := by
    simp only [List.mem_cons, List.not_mem_nil, or_false] at hx
    rcases hx with rfl | rfl | rfl | rfl | rfl | rfl | rfl
    · exact ⟨.clash, rfl⟩
    · exact ⟨.kept, rfl⟩
    · exact ⟨.bare, rfl⟩
    · exact ⟨.base, rfl⟩
    · exact ⟨.kept, rfl⟩
    · exact ⟨.bare, rfl⟩
    · exact ⟨.base, rfl⟩
  have kk1 := (Same.kp s1).trans k1
  -- alike, unlike
  refine ⟨_, rfl, sz_, fun e2 he2 => ?_⟩
  have s2 := same_upd (o := .lst [V.str "take", V.str "take", V.str "take", V.str "clash"]) he2
  refine ⟨d, c, e2, n + 1, _, rfl, p1.same s2, by omega, upd_same, by show 0 < 4; decide, by show 4 ≤ 1000; decide, fun H2 x hx2 k2 p2 => ?_⟩
  obtain ⟨al, rfl⟩ : ∃ o : Al, x = V.str o.s := by
    simp only [List.mem_cons, List.not_mem_nil, or_false] at hx2
    rcases hx2 with rfl | rfl | rfl | rfl
    · exact ⟨.take, rfl⟩
    · exact ⟨.take, rfl⟩
    · exact ⟨.take, rfl⟩
    · exact ⟨.clash, rfl⟩
  have kk2 := kk1.trans ((Same.kp s2).trans k2)
  refine ⟨_, rfl, sz_, fun e3 he3 => ?_⟩
  have s3 := same_upd (o := .lst [V.str "clash", V.str "one", V.str "other"]) he3
  refine ⟨d, c, e3, n + 2, _, rfl, p2.same s3, by omega, upd_same, by show 0 < 3; decide, by show 3 ≤ 1000; decide, fun H3 x hx3 k3 p3 => ?_⟩
  obtain ⟨un, rfl⟩ : ∃ o : Un, x = V.str o.s := by
    simp only [List.mem_cons, List.not_mem_nil, or_false] at hx3
    rcases hx3 with rfl | rfl | rfl
    · exact ⟨.clash, rfl⟩
    · exact ⟨.one, rfl⟩
    · exact ⟨.other, rfl⟩
  have kk3 := kk2.trans ((Same.kp s3).trans k3)
  refine ⟨_, _, rfl, ?_⟩
  -- tidy, flags
  refine ⟨_, rfl, d, c, n + 3, 2, rfl, p3, by omega, by decide, by decide, fun H4 r4 _ _ k4 p4 => ⟨rfl, fun D o hD hN => ⟨_, _, rfl, ?_⟩⟩⟩
  have kk4 := kk3.trans k4
  generalize decide (V.int r4 = V.int 0) = ti
  have s5 := same_upd (o := o) hD
  have p5 := p4.same s5
  have kk5 := kk4.trans (Same.kp s5)
  generalize hH5 : upd H4 D o = H5 at s5 p5 kk5 hN
  -- no flags
  refine ⟨_, rfl, d, c, n + 4, 4, rfl, p5, by omega, by decide, by decide, fun H6 r6 _ _ k6 p6 => ⟨_, _, rfl, rfl, _, rfl, iteD (fun h6 => ?_) (fun h6 => ?_)⟩⟩
  · refine ⟨_, rfl, _, rfl, _, rfl, _, rfl, sz_, fun r hr => q _ r ⟨go, al, un, ti, none⟩ ((kk5.trans k6).trans (kp_new hr)) ((p6.same (same_upd hr)).mono (by omega)) ⟨.non, upd_same, rfl⟩⟩
  refine nextS ?_
  dsimp only
  have hN6 := DN.kpd k6 p5.at hN
  have kk6 := kk5.trans k6
  refine seqW (fun σ' H' => Kp d H H' ∧ Pen H' d c (n + 17) ∧ ∃ z6 z7 z8 F, σ' = [some (.ref d), some (.str go.s), some (.str al.s), some (.str un.s), some (.bl ti), some (.ref D), z6, z7, z8] ∧ DN P w K H' D (flL F 12)) (fun N hNN => ?_) ?_
  · refine ⟨sz_, fun e0 he0 => ⟨e0, rfl, ⟨_, SqL.of upd_same⟩, ?_⟩⟩
    have s0 := same_upd (o := .lst [V.bl true, V.bl false]) he0
    refine for_list (K := K) (a := e0) (xs := [V.bl true, V.bl false]) (fun i σ' H' => Kp d H H' ∧ Pen H' d c (n + 5 + 6 * i) ∧ H' e0 = some (.lst [V.bl true, V.bl false]) ∧ ∃ z6 z7 z8 F, σ' = [some (.ref d), some (.str go.s), some (.str al.s), some (.str un.s), some (.bl ti), some (.ref D), z6, z7, z8] ∧ DN P w K H' D (flL F (6 * i))) ⟨kk6.trans (Same.kp s0), p6.same s0, upd_same, none, none, none, fun _ _ _ => false, rfl, DN.same s0 hN6⟩ (fun i σ' H' _ ⟨_, _, h, _⟩ => SqL.of h) ?_ ?_
    · rintro i x σ7 H7 hi ⟨k7, p7, he7, z6, z7, z8, F, rfl, hN7⟩
      obtain ⟨root, rfl, hroot⟩ := tf_at hi
      have hi2 : i ≤ 1 := by rcases hroot with ⟨h, _⟩ | ⟨h, _⟩ <;> omega
      refine ⟨sz_, fun e1 he1 => ⟨e1, rfl, ⟨_, SqL.of upd_same⟩, ?_⟩⟩
      have s1 := same_upd (o := .lst [V.bl true, V.bl false]) he1
      refine for_list (K := K) (a := e1) (xs := [V.bl true, V.bl false]) (fun j σ' H' => Kp d H H' ∧ Pen H' d c (n + 5 + 6 * i + 3 * j) ∧ H' e0 = some (.lst [V.bl true, V.bl false]) ∧ H' e1 = some (.lst [V.bl true, V.bl false]) ∧ ∃ z7 z8 F, σ' = [some (.ref d), some (.str go.s), some (.str al.s), some (.str un.s), some (.bl ti), some (.ref D), some (.bl root), z7, z8] ∧ DN P w K H' D (flL F (6 * i + 3 * j))) ⟨k7.trans (Same.kp s1), p7.same s1, s1 _ _ he7, upd_same, z7, z8, F, rfl, DN.same s1 hN7⟩ (fun i σ' H' _ ⟨_, _, _, h, _⟩ => SqL.of h) ?_ ?_
      · rintro j y σ8 H8 hj ⟨k8, p8, he08, he18, z7, z8, F, rfl, hN8⟩
        obtain ⟨kept, rfl, hkept⟩ := tf_at hj
        have hj2 : j ≤ 1 := by rcases hkept with ⟨h, _⟩ | ⟨h, _⟩ <;> omega
        refine ⟨3, rfl, by decide, by decide, ?_⟩
        refine for_range (lo := 0) (n := 3) (fun l σ' H' => Kp d H H' ∧ Pen H' d c (n + 5 + 6 * i + 3 * j + l) ∧ H' e0 = some (.lst [V.bl true, V.bl false]) ∧ H' e1 = some (.lst [V.bl true, V.bl false]) ∧ ∃ z8 F, σ' = [some (.ref d), some (.str go.s), some (.str al.s), some (.str un.s), some (.bl ti), some (.ref D), some (.bl root), some (.bl kept), z8] ∧ DN P w K H' D (flL F (6 * i + 3 * j + l))) ⟨k8, p8, he08, he18, z8, F, rfl, hN8⟩ ?_ ?_
        · rintro l σ9 H9 hl ⟨k9, p9, he09, he19, z8, F, rfl, hN9⟩
          refine ⟨_, rfl, d, c, n + 5 + 6 * i + 3 * j + l, 2, rfl, p9, by omega, by decide, by decide, fun H10 r r0 r1 k10 p10 => ⟨rfl, ?_⟩⟩
          refine ⟨_, rfl, _, rfl, _, rfl, _, rfl, sz_, fun t ht => ?_⟩
          have s11 := same_upd (o := .tup [V.bl root, V.bl kept, V.int (0 + (l : Int))]) ht
          have hN11 := DN.same s11 (DN.kpd k10 p9.at hN9)
          refine ⟨D, t, _, nk3 (root, kept, 0 + (l : Int)), rfl, rfl, hN11, key3 (SqT.of upd_same), ?_, fun o2 hN12 => ?_⟩
          · unfold flL
            rw [List.length_map]
            exact Nat.lt_of_le_of_lt (by rw [List.length_take]; exact Nat.min_le_right _ _) (by show 12 < sizeLine; decide)
          · rw [fl_next F (key_ix hroot hkept hl)] at hN12
            have he0n := DN.lst_ne hN11 (s11 _ _ (lst_kp k10 p9.at he09))
            have he1n := DN.lst_ne hN11 (s11 _ _ (lst_kp k10 p9.at he19))
            refine ⟨kp_upd ((k9.trans k10).trans (Same.kp s11)) ?_, Pen.put p4 hD (p10.same s11), ?_, ?_, _, _, rfl, hN12⟩
            · exact kk4.free p4.at.choose_spec hD
            · rw [upd_ne he0n]
              exact s11 _ _ (lst_kp k10 p9.at he09)
            · rw [upd_ne he1n]
              exact s11 _ _ (lst_kp k10 p9.at he19)
        · rintro σ9 H9 ⟨k9, p9, he09, he19, z8, F, rfl, hN9⟩
          exact ⟨k9, p9, he09, he19, _, _, F, rfl, hN9⟩
      · rintro σ8 H8 ⟨k8, p8, he08, he18, z7, z8, F, rfl, hN8⟩
        exact ⟨k8, p8, he08, _, _, _, F, rfl, hN8⟩
    · rintro σ7 H7 ⟨k7, p7, he7, z6, z7, z8, F, rfl, hN7⟩
      exact hNN _ _ ⟨k7, p7, _, _, _, F, rfl, hN7⟩
  rintro σ' H7 ⟨k7, p7, z6, z7, z8, F, rfl, hN7⟩
  refine ⟨_, rfl, _, rfl, _, rfl, _, rfl, _, rfl, sz_, fun r hr => ?_⟩
  have s8 := same_upd (o := .tup [V.str go.s, V.str al.s, V.str un.s, V.bl ti, V.ref D]) hr
  exact q _ r ⟨go, al, un, ti, some F⟩ (k7.trans (Same.kp s8)) (p7.same s8) ⟨.ref D, upd_same, D, rfl, DN.same s8 hN7⟩
end
end Toy
set_option Elab.async false
set_option linter.all false
set_option maxRecDepth 100000
set_option maxHeartbeats 4000000
namespace Toy
open PySem L2 Sh
/-! ### cells as the law draws them -/
abbrev AllC (H : Hp) : List V → List (Option Cl) → Prop := Paired (IsC H)
theorem AllC.mono {H H' : Hp} (f : ∀ v k, IsC H v k → IsC H' v k) : ∀ {vs : List V} {ks : List (Option Cl)}, AllC H vs ks → AllC H' vs ks
  | _, _, .nil => .nil
  | _, _, .cons h t => .cons (f _ _ h) (AllC.mono f t)
theorem AllC.dp {K : PySem.W.Frag} {H : Hp} : ∀ {vs : List V} {ks : List (Option Cl)}, AllC H vs ks → DpAll K H vs (ks.map clD)
  | _, _, .nil => .nil
  | _, _, .cons h t => .cons h.dp (AllC.dp t)
theorem AllC.len {H : Hp} : ∀ {vs : List V} {ks : List (Option Cl)}, AllC H vs ks → vs.length = ks.length
  | _, _, .nil => rfl
  | _, _, .cons h t => by
    show _ + 1 = _ + 1
    rw [AllC.len t]
theorem AllC.append {H : Hp} : ∀ {vs ws : List V} {ks js : List (Option Cl)}, AllC H vs ks → AllC H ws js → AllC H (vs ++ ws) (ks ++ js)
  | _, _, _, _, .nil, h => h
  | _, _, _, _, .cons a t, h => .cons a (AllC.append t h)
theorem IsC.put {H : Hp} {D : Addr} {xs ys : List V} {v : V} {k : Option Cl} (h : H D = some (.lst xs)) (hk : IsC H v k) : IsC (upd H D (.lst ys)) v k := by
  cases k with
  | none => exact hk
  | some k =>
    obtain ⟨t, rfl, e⟩ := hk
    exact ⟨t, rfl, by rw [upd_ne (ne_of e h (by intro z; cases z))]; exact e⟩
theorem cls_shaped : ∀ cs : List (Option Cl), cs.length ≤ 2 → SeqAt.shaped (.list (cs.map clD)) = true
  | [], _ => rfl
  | [none], _ => rfl
  | [some (none, _)], _ => rfl
  | [some (some _, _)], _ => rfl
  | [none, none], _ => rfl
  | [none, some (none, _)], _ => rfl
  | [none, some (some _, _)], _ => rfl
  | [some (none, _), none], _ => rfl
  | [some (none, _), some (none, _)], _ => rfl
  | [some (none, _), some (some _, _)], _ => rfl
  | [some (some _, _), none], _ => rfl
  | [some (some _, _), some (none, _)], _ => rfl
  | [some (some _, _), some (some _, _)], _ => rfl
  | _ :: _ :: _ :: _, h => by simp at h
theorem cls_eqv (cs : List (Option Cl)) : PyData.eqv (.list (cs.map clD)) (.list []) = decide (cs = []) := by
  cases cs <;> simp [PyData.eqv, PyData.eqvAll]
theorem at411 {z : Int} (h0 : 0 ≤ z) (h2 : z ≤ 2) : ∃ y, atI [V.int 4, V.int 1, V.int 1] z = some (.int y) := by
  have : z = 0 ∨ z = 1 ∨ z = 2 := by omega
  rcases this with rfl | rfl | rfl
  · exact ⟨4, rfl⟩
  · exact ⟨1, rfl⟩
  · exact ⟨1, rfl⟩
theorem all3 {H : Hp} : ∀ {xs : List V} {cs : List (Option Cl)}, AllC H xs cs → xs.length = 3 → ∃ v0 v1 v2 c0 c1 c2, xs = [v0, v1, v2] ∧ IsC H v0 c0 ∧ IsC H v1 c1 ∧ IsC H v2 c2
  | _, _, .cons (a := v0) (b := c0) h0 (.cons (a := v1) (b := c1) h1 (.cons (a := v2) (b := c2) h2 .nil)), _ => ⟨v0, v1, v2, c0, c1, c2, rfl, h0, h1, h2⟩
def spSome : Sp := fun vs H Q _ => ∃ (d c ta : Addr) (n : Nat) (tot : Tot), vs = [.ref d, .ref ta] ∧ Pen H d c n ∧ n ≤ 50000 ∧ H ta = some (.tup tot.L) ∧ TotOk tot ∧
  ∀ (H' : Hp) (a : Addr) (v0 v1 v2 : V) (c0 c1 c2 : Option Cl), Kp d H H' → Pen H' d c (n + 18) → H' a = some (.tup [v0, v1, v2]) → IsC H' v0 c0 → IsC H' v1 c1 → IsC H' v2 c2 → Q (.ref a) H'
section
variable {P : Program} {w : World} {K : PySem.W.Frag} {mg : Str → Option Value} {base : Heap}
theorem ok_l_some_cells (T : Tx K mg) : FnOk P w K mg base CX0 3 T.a_l_some_cells T.fd_l_some_cells ["_law_pen", "_law_total"] spSome := by
  refine T.F_l_some_cells.ok sc_l_some_cells (fun vs H Q E h => ?_) (fun cdv A outer s H vs Q E hr h => ?_)
  · obtain ⟨d, c, ta, n, tot, rfl, _⟩ := h
    rfl
  have hu65 := hu65_of hr
  have hu := hu_of hr
  obtain ⟨d, c, ta, n, tot, rfl, hp, hn, ht, ⟨⟨n00, n02⟩, ⟨n10, n12⟩, ⟨n20, n22⟩, _⟩, q⟩ := h
  refine ⟨_, (pss_cons (ps_set (i := 2) sc_l_some_cells.nd rfl (by first | exact Or.inl rfl | exact Or.inr rfl) (pe_lst pa_nil))
 (pss_cons (ps_for PassesOwn.never rfl (pi_range1 (by rfl) T.b_range (pa_cons pe_int pa_nil)) (pg_name (i := 3) sc_l_some_cells.nd rfl (by first | exact Or.inl rfl | exact Or.inr rfl))
 (pss_cons (ps_set (i := 4) sc_l_some_cells.nd rfl (by first | exact Or.inl rfl | exact Or.inr rfl) (pe_tup (pa_cons (pe_call (ok_l_pick T) (hr.mono (by decide)) (by rfl) T.m_l_pick T.F_l_pick.kp T.bi_l_pick .nil pass0 (pa_cons (pv 0) (pa_cons (pe_lst (pa_cons pe_non (pa_cons pe_int (pa_cons pe_int (pa_cons pe_int (pa_cons pe_int (pa_cons (pe_op op_add pe_int (pe_call (ok_l_draw T) (hr.mono (by decide)) (by rfl) T.m_l_draw T.F_l_draw.kp T.bi_l_draw .nil pass0 (pa_cons (pv 0) (pa_cons pe_int pa_nil)))) pa_nil))))))) pa_nil))) (pa_cons (pe_cmpR op_eq (pe_call (ok_l_draw T) (hr.mono (by decide)) (by rfl) T.m_l_draw T.F_l_draw.kp T.bi_l_draw .nil pass0 (pa_cons (pv 0) (pa_cons pe_int pa_nil))) pe_int (nomark _)) pa_nil))))
 (pss_cons (ps_if (PW.pt (pw_and (pt_cmpR (op_neD hr.units) (pv 2) (pe_lst pa_nil) (nomark _)) (pw_and (pt_cmpR op_notN (pe_ix ix_list (pv 2) pe_int (fun _ _ => rfl)) pe_non (nomark _)) (pw_and1 (pt_cmpR op_eq (pe_call (ok_l_draw T) (hr.mono (by decide)) (by rfl) T.m_l_draw T.F_l_draw.kp T.bi_l_draw .nil pass0 (pa_cons (pv 0) (pa_cons pe_int pa_nil))) pe_int (nomark _))))))
 (pss_one (ps_set (i := 4) sc_l_some_cells.nd rfl (by first | exact Or.inl rfl | exact Or.inr rfl) (pe_tup (pa_cons (pe_ix ix_tup (pe_ix ix_list (pv 2) pe_int (fun _ _ => rfl)) pe_int (fun _ _ => rfl)) (pa_cons (pe_ifExp (pt_cmpR op_eq (pe_call (ok_l_draw T) (hr.mono (by decide)) (by rfl) T.m_l_draw T.F_l_draw.kp T.bi_l_draw .nil pass0 (pa_cons (pv 0) (pa_cons pe_int pa_nil))) pe_int (nomark _)) (pe_ix ix_tup (pv 4) pe_int (fun _ _ => rfl)) (pe_ix ix_tup (pe_ix ix_list (pv 2) pe_int (fun _ _ => rfl)) pe_int (fun _ _ => rfl))) pa_nil)))))
 pss_nil)
 (pss_one (ps_expr (pe_bm PySem.F.plainAttrs_list PySem.F.slot_list_append PySem.F.type_list_append mt_append (pv 2) (pa_cons (pe_ifExp (pt_cmpR op_lt (pe_call (ok_l_draw T) (hr.mono (by decide)) (by rfl) T.m_l_draw T.F_l_draw.kp T.bi_l_draw .nil pass0 (pa_cons (pv 0) (pa_cons pe_int pa_nil))) (pe_ix ix_list (pe_lst (pa_cons pe_int (pa_cons pe_int (pa_cons pe_int pa_nil)))) (pe_ix ix_tup (pv 1) (pv 3) (fun _ _ => rfl)) (fun _ _ => rfl)) (nomark _)) pe_non (pv 4)) pa_nil)))))))
 (pss_one (ps_ret (pe_callTy call_tuple_of (by rfl) T.b_tuple (by decide +kernel) (pa_cons (pv 2) pa_nil)))))), ?_⟩
  refine ⟨sz_, fun D hD => ?_⟩
  have s0 := same_upd (o := .lst []) hD
  have key : ∀ {i : Nat}, i < 3 → ∃ z, atI tot.L (0 + (i : Int)) = some (.int z) ∧ 0 ≤ z ∧ z ≤ 2 := fun {i} hi => by
    match i, hi with
    | 0, _ => exact ⟨tot.n0, rfl, n00, n02⟩
    | 1, _ => exact ⟨tot.n1, rfl, n10, n12⟩
    | 2, _ => exact ⟨tot.n2, rfl, n20, n22⟩
    | i + 3, h => omega
  dsimp only [gName]
  refine seqW (fun σ' H' => Kp d H H' ∧ Pen H' d c (n + 18) ∧ ∃ z3 z4 xs cs, σ' = [some (.ref d), some (.ref ta), some (.ref D), z3, z4] ∧ H' D = some (.lst xs) ∧ AllC H' xs cs ∧ xs.length = 3) (fun N hN => ?_) ?_
  · refine ⟨3, rfl, by decide, by decide, ?_⟩
    refine for_range (lo := 0) (n := 3) (fun i σ' H' => Kp d H H' ∧ Pen H' d c (n + 6 * i) ∧ ∃ z3 z4 xs cs, σ' = [some (.ref d), some (.ref ta), some (.ref D), z3, z4] ∧ H' D = some (.lst xs) ∧ AllC H' xs cs ∧ xs.length = i) ⟨Same.kp s0, hp.same s0, none, none, [], [], rfl, upd_same, .nil, rfl⟩ ?_ ?_
    · rintro i σ1 H1 hi ⟨k1, p1, z3, z4, xs, cs, rfl, hD1, hc1, hlen⟩
      obtain ⟨z, ez, z0, z2⟩ := key hi
      dsimp only [gName]
      -- the cell
      refine asgS (fun v H2 => Kp d H1 H2 ∧ Pen H2 d c (n + 6 * i + 3) ∧ ∃ m, IsC H2 v (some m)) (fun R hR => ?_) ?_
      · refine ⟨_, rfl, _, rfl, d, c, n + 6 * i, 9, rfl, p1, by omega, by decide, by decide, fun H2 r _ _ k2 p2 => ⟨_, _, rfl, rfl, sz_, fun e he => ?_⟩⟩
        have s2 := same_upd (o := .lst [V.non, V.int 1, V.int 1, V.int 2, V.int 3, V.int (1 + r)]) he
        refine ⟨d, c, e, n + 6 * i + 1, _, rfl, p2.same s2, by omega, upd_same, by show 0 < 6; decide, by show 6 ≤ 1000; decide, fun H3 x hx k3 p3 => ?_⟩
        obtain ⟨ov, rfl⟩ : ∃ o : OI, x = ovV o := by
          simp only [List.mem_cons, List.not_mem_nil, or_false] at hx
          rcases hx with rfl | rfl | rfl | rfl | rfl | rfl
          · exact ⟨none, rfl⟩
          · exact ⟨some 1, rfl⟩
          · exact ⟨some 1, rfl⟩
          · exact ⟨some 2, rfl⟩
          · exact ⟨some 3, rfl⟩
          · exact ⟨some (1 + r), rfl⟩
        refine ⟨_, rfl, d, c, n + 6 * i + 2, 3, rfl, p3, by omega, by decide, by decide, fun H4 r4 _ _ k4 p4 => ⟨rfl, sz_, fun t ht => ?_⟩⟩
        exact hR _ _ ⟨((k2.trans (Same.kp s2)).trans (k3.trans k4)).trans (kp_new ht), p4.same (same_upd ht), (ov, decide (V.int r4 = V.int 0)), t, rfl, upd_same⟩
      rintro v H2 ⟨k2, p2, m, im⟩
      dsimp only [gName]
      have hD2 := lst_kp k2 p1.at hD1
      have hc2 : AllC H2 xs cs := AllC.mono (fun _ _ => IsC.kp k2 p1.at) hc1
      have hcl : cs.length = i := by rw [← AllC.len hc1]; exact hlen
      -- another one
      refine seqW (fun σ' H' => Kp d H2 H' ∧ Pen H' d c (n + 6 * i + 5) ∧ ∃ v4 m, σ' = [some (.ref d), some (.ref ta), some (.ref D), some (.int (0 + (i : Int))), some v4] ∧ IsC H' v4 (some m)) (fun N hN => ?_) ?_
      · refine ⟨_, rfl, sz_, fun e he => ?_⟩
        have s3 := same_upd (o := .lst []) he
        refine ⟨.list (cs.map clD), .list [], .lst (SqL.of (s3 _ _ hD2)) (AllC.dp (AllC.mono (fun _ _ => IsC.same s3) hc2)), .lst (SqL.of upd_same) .nil, cls_shaped cs (by omega), rfl, _, rfl, ?_⟩
        rw [cls_eqv]
        refine iteN (fun h1 => ?_) (fun h1 => iteF (hN _ _ ⟨Same.kp s3, (p2.same s3).mono (by omega), v, m, rfl, im.same s3⟩))
        obtain ⟨x0, xs', c0, cs', rfl, rfl, i0⟩ : ∃ x0 xs' c0 cs', xs = x0 :: xs' ∧ cs = c0 :: cs' ∧ IsC H2 x0 c0 := by
          cases hc2 with
          | nil => exact absurd rfl h1
          | cons h t => exact ⟨_, _, _, _, rfl, rfl, h⟩
        refine ⟨_, rfl, D, _, _, _, rfl, rfl, SqL.of (s3 _ _ hD2), at_of (j := 0) rfl rfl, rfl, _, rfl, ?_⟩
        refine iteN (fun h2 => ?_) (fun h2 => iteF (hN _ _ ⟨Same.kp s3, (p2.same s3).mono (by omega), v, m, rfl, im.same s3⟩))
        rw [i0.iff] at h2
        obtain ⟨m0, rfl⟩ := Option.ne_none_iff_exists'.mp h2
        refine ⟨_, rfl, d, c, n + 6 * i + 3, 2, rfl, p2.same s3, by omega, by decide, by decide, fun H4 r4 _ _ k4 p4 => ⟨rfl, _, rfl, ?_⟩⟩
        have at3 := (p2.same s3).at
        have im4 := (im.same s3).kp k4 at3
        refine iteD (fun _ => ?_) (fun _ => hN _ _ ⟨(Same.kp s3).trans k4, p4.mono (by omega), v, m, rfl, im4⟩)
        have hD4 := lst_kp k4 at3 (s3 _ _ hD2)
        obtain ⟨t0, rfl, ht0⟩ := (i0.same s3).kp k4 at3
        refine ⟨_, rfl, D, _, _, _, rfl, rfl, SqL.of hD4, at_of (j := 0) rfl rfl, t0, _, _, _, rfl, rfl, SqT.of ht0, rfl, ?_⟩
        refine ⟨_, rfl, d, c, n + 6 * i + 4, 3, rfl, p4, by omega, by decide, by decide, fun H5 r5 _ _ k5 p5 => ⟨rfl, _, rfl, ?_⟩⟩
        have hD5 := lst_kp k5 p4.at hD4
        have ht05 := tup_kp k5 p4.at ht0
        refine iteD (fun _ => ?_) (fun _ => ?_)
        · obtain ⟨t5, rfl, ht5⟩ := im4.kp k5 p4.at
          exact ⟨_, rfl, t5, _, _, _, rfl, rfl, SqT.of ht5, rfl, sz_, fun t ht => hN _ _ ⟨((Same.kp s3).trans (k4.trans k5)).trans (kp_new ht), p5.same (same_upd ht), _, (m0.1, m.2), rfl, t, rfl, upd_same⟩⟩
        · exact ⟨_, rfl, D, _, _, _, rfl, rfl, SqL.of hD5, at_of (j := 0) rfl rfl, t0, _, _, _, rfl, rfl, SqT.of ht05, rfl, sz_, fun t ht => hN _ _ ⟨((Same.kp s3).trans (k4.trans k5)).trans (kp_new ht), p5.same (same_upd ht), _, (m0.1, m0.2), rfl, t, rfl, upd_same⟩⟩
      rintro σ' H3 ⟨k3, p3, v4, m4, rfl, i4⟩
      have hD3 := lst_kp k3 p2.at hD2
      have hc3 : AllC H3 xs cs := AllC.mono (fun _ _ => IsC.kp k3 p2.at) hc2
      -- append
      refine ⟨_, rfl, .inl ⟨rfl, _, SqL.of hD3⟩, ?_⟩
      refine ⟨_, rfl, d, c, n + 6 * i + 5, 9, rfl, p3, by omega, by decide, by decide, fun H4 r4 _ _ k4 p4 => ⟨sz_, fun e he => ?_⟩⟩
      have s5 := same_upd (o := .lst [V.int 4, V.int 1, V.int 1]) he
      have kA := (k1.trans k2).trans (k3.trans (k4.trans (Same.kp s5)))
      have hta : (upd H4 e (.lst [V.int 4, V.int 1, V.int 1])) ta = some (.tup tot.L) := tup_kp kA hp.at ht
      obtain ⟨y, ey⟩ := at411 z0 z2
      refine ⟨_, rfl, _, rfl, ta, _, _, _, rfl, rfl, SqT.of hta, ez, e, _, _, _, rfl, rfl, SqL.of upd_same, ey, _, _, rfl, rfl, _, rfl, ?_⟩
      have hD5 := s5 _ _ (lst_kp k4 p3.at hD3)
      have hc5 : AllC (upd H4 e (.lst [V.int 4, V.int 1, V.int 1])) xs cs := AllC.mono (fun _ _ => IsC.same s5) (AllC.mono (fun _ _ => IsC.kp k4 p3.at) hc3)
      have fin : ∀ u cu, IsC (upd H4 e (.lst [V.int 4, V.int 1, V.int 1])) u cu → Kp d H (upd (upd H4 e (.lst [V.int 4, V.int 1, V.int 1])) D (.lst (xs ++ [u]))) ∧ Pen (upd (upd H4 e (.lst [V.int 4, V.int 1, V.int 1])) D (.lst (xs ++ [u]))) d c (n + 6 * (i + 1)) ∧ ∃ z3 z4 xs' cs', [some (V.ref d), some (.ref ta), some (.ref D), some (.int (0 + (i : Int))), some v4] = [some (.ref d), some (.ref ta), some (.ref D), z3, z4] ∧ (upd (upd H4 e (.lst [V.int 4, V.int 1, V.int 1])) D (.lst (xs ++ [u]))) D = some (.lst xs') ∧ AllC (upd (upd H4 e (.lst [V.int 4, V.int 1, V.int 1])) D (.lst (xs ++ [u]))) xs' cs' ∧ xs'.length = i + 1 := fun u cu iu => by
        refine ⟨kp_upd kA hD, Pen.put hp hD (p4.same s5), _, _, _, cs ++ [cu], rfl, upd_same, AllC.append (AllC.mono (fun _ _ => IsC.put hD5) hc5) (.cons (IsC.put hD5 iu) .nil), ?_⟩
        rw [List.length_append, hlen]
        rfl
      refine ite2 (fun _ => ?_) (fun _ => ?_)
      · exact ⟨D, xs, _, rfl, rfl, hD5, small1000 (by omega), fin .non none rfl⟩
      · exact ⟨_, rfl, D, xs, _, rfl, rfl, hD5, small1000 (by omega), fin v4 (some m4) ((i4.kp k4 p3.at).same s5)⟩
    · rintro σ1 H1 ⟨k1, p1, z3, z4, xs, cs, rfl, hD1, hc1, hlen⟩
      exact hN _ _ ⟨k1, p1, z3, z4, xs, cs, rfl, hD1, hc1, hlen⟩
  rintro σ' H2 ⟨k2, p2, z3, z4, xs, cs, rfl, hD2, hc2, hlen⟩
  obtain ⟨v0, v1, v2, c0, c1, c2, rfl, i0, i1, i2⟩ := all3 hc2 hlen
  refine ⟨_, rfl, D, _, rfl, .inl ⟨SqL.of hD2, fun a ha => ?_⟩⟩
  have s3 := same_upd (o := .tup [v0, v1, v2]) ha
  exact q _ a v0 v1 v2 c0 c1 c2 (k2.trans (Same.kp s3)) (p2.same s3) upd_same (i0.same s3) (i1.same s3) (i2.same s3)
end
end Toy
set_option Elab.async false
set_option linter.all false
set_option maxRecDepth 100000
set_option maxHeartbeats 4000000
namespace Toy
open PySem L2 Sh
/-! ### the law's sum -/
abbrev AllS (H : Hp) : List V → List Cas → Prop := Paired (IsS H)
theorem AllS.mono {H H' : Hp} (f : ∀ v k, IsS H v k → IsS H' v k) : ∀ {vs : List V} {ks : List Cas}, AllS H vs ks → AllS H' vs ks
  | _, _, .nil => .nil
  | _, _, .cons h t => .cons (f _ _ h) (AllS.mono f t)
theorem AllS.same {H H' : Hp} {vs : List V} {ks : List Cas} (s : Same H H') (h : AllS H vs ks) : AllS H' vs ks := AllS.mono (fun _ _ => IsS.same s) h
theorem AllS.kp {H H' : Hp} {d : Addr} {vs : List V} {ks : List Cas} (s : Kp d H H') (hd : ∃ kvs, H d = some (.dK kvs)) (h : AllS H vs ks) : AllS H' vs ks := AllS.mono (fun _ _ => IsS.kp s hd) h
theorem AllS.len {H : Hp} : ∀ {vs : List V} {ks : List Cas}, AllS H vs ks → vs.length = ks.length
  | _, _, .nil => rfl
  | _, _, .cons h t => by
    show _ + 1 = _ + 1
    rw [AllS.len t]
theorem AllS.get {H : Hp} : ∀ {vs : List V} {ks : List Cas} {i : Nat} {v : V}, AllS H vs ks → vs[i]? = some v → ∃ k, ks[i]? = some k ∧ IsS H v k
  | _, _, _, _, .nil, e => by simp at e
  | _, _, 0, _, .cons r _, e => by simp at e; subst e; exact ⟨_, rfl, r⟩
  | _, _, i + 1, v, .cons _ t, e => by
    obtain ⟨k, h1, h2⟩ := AllS.get (i := i) (v := v) t (by simpa using e)
    exact ⟨k, by simpa using h1, h2⟩
theorem AllS.append {H : Hp} : ∀ {vs ws : List V} {ks js : List Cas}, AllS H vs ks → AllS H ws js → AllS H (vs ++ ws) (ks ++ js)
  | _, _, _, _, .nil, h => h
  | _, _, _, _, .cons a t, h => .cons a (AllS.append t h)
theorem AllS.take {H : Hp} : ∀ {vs : List V} {ks : List Cas} (n : Nat), AllS H vs ks → AllS H (vs.take n) (ks.take n)
  | _, _, 0, _ => .nil
  | _, _, n + 1, .nil => .nil
  | _, _, n + 1, .cons h t => .cons h (AllS.take n t)
theorem filt_next {α : Type} {js : List α} {i : Nat} {k : α} (h : js[i]? = some k) (f : α → Bool) : ((js.take (i + 1)).filter f).length = ((js.take i).filter f).length + (if f k = true then 1 else 0) := by
  rw [← take_next h, List.filter_append, List.length_append]
  congr 1
  by_cases hf : f k = true
  · rw [if_pos hf, List.filter_cons_of_pos hf]
    rfl
  · rw [if_neg hf, List.filter_cons_of_neg hf]
    rfl
theorem cnt_lc {K : PySem.W.Frag} {H : Hp} {Q : VK} {a : Addr} {xs : List V} {cs : List Cas} {f : Cas → Bool} {at_ : Int} {v1 v2 v3 v4 v5 v6 v7 v8 : Option V} (ha : H a = some (.lst xs)) (hs : AllS H xs cs) (hl : xs.length ≤ 10) (hf : ∀ c : Cas, atI c.L at_ = some (.bl (f c)))
    (q : ∀ H' D acc, Same H H' → H' D = some (.lst acc) → acc.length = (cs.filter f).length → Q (.ref D) H') :
    tLc (iList K (tVar 0)) (gName 8) (tB (tOp (rIxT K) (tVar 8) (tVar 9))) (tVar 8) [8] [some (.ref a), v1, v2, v3, v4, v5, v6, v7, v8, some (.int at_)] H Q := by
  refine ⟨_, rfl, a, rfl, ⟨_, SqL.of ha⟩, fun D hD => ?_⟩
  refine lc_list (K := K) (a := a) (xs := xs) (fun n H2 => Same H H2 ∧ ∃ acc, H2 D = some (.lst acc) ∧ acc.length = ((cs.take n).filter f).length) ⟨same_upd hD, [], upd_same, rfl⟩ (fun n H2 _ ⟨s2, _⟩ => SqL.of (s2 _ _ ha)) ?_ ?_
  · rintro n x H2 hn ⟨s2, acc, hacc, hlen⟩
    obtain ⟨c, hc, t, rfl, et⟩ := AllS.get hs hn
    have hnx := filt_next hc f
    refine ⟨rfl, _, rfl, _, rfl, t, _, _, _, rfl, rfl, SqT.of (s2 _ _ et), hf c, _, rfl, iteB (fun h1 => ?_) (fun h1 => ?_)⟩
    · refine ⟨_, rfl, acc, hacc, ?_, fun b u e => by rw [upd_ne (ne_of_none e hD)]; exact s2 _ _ e, _, upd_same, ?_⟩
      · have h2 := List.length_filter_le f (cs.take n)
        rw [List.length_take, ← AllS.len hs] at h2
        exact small1000 (by omega)
      · rw [List.length_append, hlen, hnx, if_pos h1]
        rfl
    · refine ⟨s2, acc, hacc, ?_⟩
      rw [hlen, hnx, if_neg (by rw [h1]; decide)]
      rfl
  · rintro H2 ⟨s2, acc, hacc, hlen⟩
    refine q _ D acc s2 hacc ?_
    rw [hlen, AllS.len hs, List.take_length]
theorem bls_lc {K : PySem.W.Frag} {H : Hp} {Q : VK} {a : Addr} {xs : List V} {cs : List Cas} {f : Cas → Bool} {at_ : Int} {v1 v2 v3 v4 v5 v6 v7 v8 : Option V} (ha : H a = some (.lst xs)) (hs : AllS H xs cs) (hl : xs.length ≤ 10) (hf : ∀ c : Cas, atI c.L at_ = some (.bl (f c)))
    (q : ∀ H' D, Same H H' → H' D = some (.lst ((cs.map f).map V.bl)) → Q (.ref D) H') :
    tLc (iList K (tVar 0)) (gName 8) tYes (tOp (rIxT K) (tVar 8) (tVar 9)) [8] [some (.ref a), v1, v2, v3, v4, v5, v6, v7, v8, some (.int at_)] H Q := by
  refine ⟨_, rfl, a, rfl, ⟨_, SqL.of ha⟩, fun D hD => ?_⟩
  refine lc_list (K := K) (a := a) (xs := xs) (fun n H2 => Same H H2 ∧ H2 D = some (.lst (((cs.take n).map f).map V.bl))) ⟨same_upd hD, upd_same⟩ (fun n H2 _ ⟨s2, _⟩ => SqL.of (s2 _ _ ha)) ?_ ?_
  · rintro n x H2 hn ⟨s2, hacc⟩
    obtain ⟨c, hc, t, rfl, et⟩ := AllS.get hs hn
    refine ⟨rfl, yes_ite ⟨_, rfl, _, rfl, t, _, _, _, rfl, rfl, SqT.of (s2 _ _ et), hf c, _, hacc, ?_, fun b u e => by rw [upd_ne (ne_of_none e hD)]; exact s2 _ _ e, ?_⟩⟩
    · rw [List.length_map, List.length_map, List.length_take]
      have := AllS.len hs
      exact small1000 (by omega)
    · rw [upd_same, ← take_next hc, List.map_append, List.map_append]
      rfl
  · rintro H2 ⟨s2, hacc⟩
    refine q _ D s2 ?_
    rw [hacc, AllS.len hs, List.take_length]
end Toy
set_option Elab.async false
set_option linter.all false
set_option maxRecDepth 100000
set_option maxHeartbeats 4000000
namespace Toy
open PySem L2 Sh
theorem cbW {t : TE} {r : List V → Hp → VK → Prop} {σ : L2.St} {H : Hp} {Q : VK} (h : t σ H (fun v H1 => r [v] H1 Q)) : tCB r (tCons t tNil) σ H Q := h
theorem cb2W {t : TE} {v0 : V} {r : List V → Hp → VK → Prop} {σ : L2.St} {H : Hp} {Q : VK} (h : t σ H (fun v H1 => r [v0, v] H1 Q)) : tCB r (tCons (tC v0) (tCons t tNil)) σ H Q := h
def cnt (f : Cas → Bool) (cs : List Cas) : Int := ((cs.filter f).length : Int)
def worstM (cs : List Cas) : Oc := if cs.any (fun c => decide (c.o = .clash)) = true then .clash else if cs.any (fun c => decide (c.o = .words)) = true then .words else if cs.any (fun c => decide (c.o = .rule)) = true then .rule else .right
def sumL (cs : List Cas) : Tot := ⟨min2 (cnt Cas.c0 cs), min2 (cnt Cas.c1 cs), min2 (cnt Cas.c2 cs), min2 (cnt (fun c => inRes c.o) cs), cs.all Cas.c3, cs.all Cas.c4, cs.any Cas.c5, cs.any Cas.c6, cs.any Cas.c7, worstM cs⟩
theorem oc_in (o : Oc) : ∀ cs : List Cas, inV (.str o.s) (cs.map fun c => V.str c.o.s) = cs.any (fun c => decide (c.o = o))
  | [] => rfl
  | c :: cs => by
    have ih := oc_in o cs
    unfold inV at ih ⊢
    rw [List.map_cons, List.any_cons, List.any_cons, ih]
    congr 1
    cases c.o <;> cases o <;> decide +kernel
def spSum : Sp := fun vs H Q _ => ∃ (a : Addr) (xs : List V) (cs : List Cas), vs = [.ref a] ∧ H a = some (.lst xs) ∧ AllS H xs cs ∧ xs.length ≤ 10 ∧ ∀ H' v, Same H H' → IsT H' v (sumL cs) → Q v H'
theorem flat_strs : ∀ cs : List Cas, (cs.map fun c => V.str c.o.s).all flatV = true
  | [] => rfl
  | _ :: cs => flat_strs cs
def wsUp (cs : List Cas) (n : Nat) : Oc := match n with
  | 0 => .right
  | 1 => if cs.any (fun c => decide (c.o = .rule)) = true then .rule else .right
  | 2 => if cs.any (fun c => decide (c.o = .words)) = true then .words else if cs.any (fun c => decide (c.o = .rule)) = true then .rule else .right
  | _ => worstM cs
theorem ws_at {cs : List Cas} {n : Nat} {x : V} (h : [V.str "rule", V.str "words", V.str "clash"][n]? = some x) : ∃ o : Oc, x = .str o.s ∧ wsUp cs (n + 1) = if cs.any (fun c => decide (c.o = o)) = true then o else wsUp cs n := by
  match n, h with
  | 0, h => cases h; exact ⟨.rule, rfl, rfl⟩
  | 1, h => cases h; exact ⟨.words, rfl, rfl⟩
  | 2, h => cases h; exact ⟨.clash, rfl, rfl⟩
  | n + 3, h => simp at h
section
variable {P : Program} {w : World} {K : PySem.W.Frag} {mg : Str → Option Value} {base : Heap}
theorem ok_l_sum_of (T : Tx K mg) : FnOk P w K mg base CX0 1 T.a_l_sum_of T.fd_l_sum_of ["_law_cases"] spSum := by
  refine T.F_l_sum_of.ok sc_l_sum_of (fun vs H Q E h => ?_) (fun cdv A outer s H vs Q E hr h => ?_)
  · obtain ⟨a, xs, cs, rfl, _⟩ := h
    rfl
  have hu65 := hu65_of hr
  have hu := hu_of hr
  obtain ⟨a, xs, cs, rfl, ha, hs, hl, q⟩ := h
  have hcl : cs.length ≤ 10 := by rw [← AllS.len hs]; exact hl
  refine ⟨_, (pss_cons (ps_setLc (i := 1) (own := [("_law_case_here", 8)]) (g := gName 8) rfl sc_l_sum_of.nd rfl rfl (sw_true rfl rfl rfl (by decide +kernel)) (pi_list (pv 0)) (blkOk_by (own := [("_law_case_here", 8)]) (N := N_l_sum_of) (sc := defScope s_l_sum_of) (by decide +kernel)) (fun _ _ _ _ _ => (pg_name (i := 8) sc_l_sum_of.nd rfl (by first | exact Or.inl rfl | exact Or.inr rfl))) (fun _ _ _ _ _ => pts_nil) (fun _ _ _ _ _ => (pe_ix (by exact ix_tup : IxR _ (rIxT K)) (pv 8) pe_int (fun _ _ => rfl))))
 (pss_cons (ps_set (i := 2) sc_l_sum_of.nd rfl (by first | exact Or.inl rfl | exact Or.inr rfl) (pe_callB call_len_seq (by rfl) T.b_len (by decide +kernel) (pa_cons (pe_lc (own := [("_law_outcome_here", 7)]) (g := gName 7) rfl sc_l_sum_of.nd (pi_list (pv 1)) (blkOk_by (own := [("_law_outcome_here", 7)]) (N := N_l_sum_of) (sc := defScope s_l_sum_of) (by decide +kernel)) (fun _ _ _ _ _ => (pg_name (i := 7) sc_l_sum_of.nd rfl (by first | exact Or.inl rfl | exact Or.inr rfl))) (fun _ _ _ _ _ => (pts_one (pt_cmpR (by exact op_in_seq : OpR _ (compareOp .In) (rIn K false)) (pv 7) (pe_lst (pa_cons pe_str (pa_cons pe_str (pa_cons pe_str pa_nil)))) (by rfl)))) (fun _ _ _ _ _ => (pv 7))) pa_nil)))
 (pss_cons (ps_set (i := 3) sc_l_sum_of.nd rfl (by first | exact Or.inl rfl | exact Or.inr rfl) (pe_op op_cat (pe_lc (own := [("_law_at", 9)]) (g := gName 9) rfl sc_l_sum_of.nd (pi_range1 (by rfl) T.b_range (pa_cons pe_int pa_nil)) (blkOk_by (own := [("_law_at", 9)]) (N := N_l_sum_of) (sc := defScope s_l_sum_of) (by decide +kernel)) (fun _ _ _ _ _ => (pg_name (i := 9) sc_l_sum_of.nd rfl (by first | exact Or.inl rfl | exact Or.inr rfl))) (fun _ _ _ _ _ => pts_nil) (fun _ _ _ _ _ => (pe_callB (call_min2 rfl) (by rfl) T.b_min (by decide +kernel) (pa_cons pe_int (pa_cons (pe_callB (by exact call_len_seq : CallR _ (.builtin "len") (fun xs H Q => ∃ p ys, xs = [.ref p] ∧ (SqL K H p ys ∨ SqT K H p ys) ∧ Q (.int ys.length) H)) (by rfl) T.b_len (by decide +kernel) (pa_cons (pe_lc (own := [("_law_case_here", 8)]) (g := gName 8) rfl sc_l_sum_of.nd (by exact pi_list (pv 0) : PI _ _ _ (iList K (tVar 0))) (blkOk_by (own := [("_law_case_here", 8)]) (N := N_l_sum_of) (by kernel_rfl)) (fun _ _ _ _ _ => (pg_name (i := 8) sc_l_sum_of.nd rfl (by first | exact Or.inl rfl | exact Or.inr rfl))) (fun _ _ _ _ _ => (pts_one (pt_val (pe_ix (by exact ix_tup : IxR _ (rIxT K)) (pv 8) (pv 9) (fun _ _ => rfl))))) (fun _ _ _ _ _ => (pv 8))) pa_nil)) pa_nil))))) (pe_lst (pa_cons (pe_callB (call_min2 rfl) (by rfl) T.b_min (by decide +kernel) (pa_cons pe_int (pa_cons (pv 2) pa_nil))) pa_nil))))
 (pss_cons (ps_setLc (i := 4) (own := [("_law_at", 9)]) (g := gName 9) rfl sc_l_sum_of.nd rfl rfl (sw_true rfl rfl rfl (by decide +kernel)) (pi_list (pe_lst (pa_cons pe_int (pa_cons pe_int pa_nil)))) (blkOk_by (own := [("_law_at", 9)]) (N := N_l_sum_of) (sc := defScope s_l_sum_of) (by decide +kernel)) (fun _ _ _ _ _ => (pg_name (i := 9) sc_l_sum_of.nd rfl (by first | exact Or.inl rfl | exact Or.inr rfl))) (fun _ _ _ _ _ => pts_nil) (fun _ _ _ _ _ => (pe_callB (by exact (cr_all rfl) : CallR _ (.builtin "all") (rAll K)) (by rfl) T.b_all (by decide +kernel) (pa_cons (pe_lc (own := [("_law_case_here", 8)]) (g := gName 8) rfl sc_l_sum_of.nd (by exact pi_list (pv 0) : PI _ _ _ (iList K (tVar 0))) (blkOk_by (own := [("_law_case_here", 8)]) (N := N_l_sum_of) (by kernel_rfl)) (fun _ _ _ _ _ => (pg_name (i := 8) sc_l_sum_of.nd rfl (by first | exact Or.inl rfl | exact Or.inr rfl))) (fun _ _ _ _ _ => pts_nil) (fun _ _ _ _ _ => (pe_ix (by exact ix_tup : IxR _ (rIxT K)) (pv 8) (pv 9) (fun _ _ => rfl)))) pa_nil))))
 (pss_cons (ps_setLc (i := 5) (own := [("_law_at", 9)]) (g := gName 9) rfl sc_l_sum_of.nd rfl rfl (sw_true rfl rfl rfl (by decide +kernel)) (pi_list (pe_lst (pa_cons pe_int (pa_cons pe_int (pa_cons pe_int pa_nil))))) (blkOk_by (own := [("_law_at", 9)]) (N := N_l_sum_of) (sc := defScope s_l_sum_of) (by decide +kernel)) (fun _ _ _ _ _ => (pg_name (i := 9) sc_l_sum_of.nd rfl (by first | exact Or.inl rfl | exact Or.inr rfl))) (fun _ _ _ _ _ => pts_nil) (fun _ _ _ _ _ => (pe_callB (by exact (cr_any rfl) : CallR _ (.builtin "any") (rAny K)) (by rfl) T.b_any (by decide +kernel) (pa_cons (pe_lc (own := [("_law_case_here", 8)]) (g := gName 8) rfl sc_l_sum_of.nd (by exact pi_list (pv 0) : PI _ _ _ (iList K (tVar 0))) (blkOk_by (own := [("_law_case_here", 8)]) (N := N_l_sum_of) (by kernel_rfl)) (fun _ _ _ _ _ => (pg_name (i := 8) sc_l_sum_of.nd rfl (by first | exact Or.inl rfl | exact Or.inr rfl))) (fun _ _ _ _ _ => pts_nil) (fun _ _ _ _ _ => (pe_ix (by exact ix_tup : IxR _ (rIxT K)) (pv 8) (pv 9) (fun _ _ => rfl)))) pa_nil))))
 (pss_cons (ps_set (i := 6) sc_l_sum_of.nd rfl (by first | exact Or.inl rfl | exact Or.inr rfl) pe_str)
 (pss_cons (ps_for PassesOwn.never rfl (pi_list (pe_lst (pa_cons pe_str (pa_cons pe_str (pa_cons pe_str pa_nil))))) (pg_name (i := 7) sc_l_sum_of.nd rfl (by first | exact Or.inl rfl | exact Or.inr rfl))
 (pss_one (ps_if (pt_cmpR op_in_seq (pv 7) (pv 1) (by rfl))
 (pss_one (ps_set (i := 6) sc_l_sum_of.nd rfl (by first | exact Or.inl rfl | exact Or.inr rfl) (pv 7)))
 pss_nil)))
 (pss_one (ps_ret (pe_callTy call_tuple_of (by rfl) T.b_tuple (by decide +kernel) (pa_cons (pe_op op_cat (pe_op op_cat (pe_op op_cat (pv 3) (pv 4)) (pv 5)) (pe_lst (pa_cons (pv 6) pa_nil))) pa_nil))))))))))), ?_⟩
  -- outcomes
  refine asgS (fun v H1 => Same H H1 ∧ ∃ D, v = .ref D ∧ H1 D = some (.lst (cs.map fun c => V.str c.o.s))) (fun R hR => ?_) ?_
  · refine ⟨_, rfl, a, rfl, ⟨_, SqL.of ha⟩, fun D hD => ?_⟩
    refine lc_list (K := K) (a := a) (xs := xs) (fun n H2 => Same H H2 ∧ H2 D = some (.lst ((cs.take n).map fun c => V.str c.o.s))) ⟨same_upd hD, upd_same⟩ (fun n H2 _ ⟨s2, _⟩ => SqL.of (s2 _ _ ha)) ?_ ?_
    · rintro n x H2 hn ⟨s2, hacc⟩
      obtain ⟨c, hc, t, rfl, et⟩ := AllS.get hs hn
      refine ⟨rfl, yes_ite ⟨_, rfl, t, _, _, _, rfl, rfl, SqT.of (s2 _ _ et), rfl, _, hacc, ?_, fun b u e => by rw [upd_ne (ne_of_none e hD)]; exact s2 _ _ e, ?_⟩⟩
      · rw [List.length_map, List.length_take]
        exact small1000 (by omega)
      · rw [upd_same, ← take_next hc, List.map_append]
        rfl
    · rintro H2 ⟨s2, hacc⟩
      refine hR _ _ ⟨s2, D, rfl, ?_⟩
      rw [hacc, AllS.len hs, List.take_length]
  rintro v H1 ⟨s1, D1, rfl, hD1⟩
  dsimp only [gName]
  -- there
  refine asgS (fun v H2 => Same H1 H2 ∧ v = .int (cnt (fun c => inRes c.o) cs)) (fun R hR => ?_) ?_
  · refine ⟨_, rfl, D1, rfl, ⟨_, SqL.of hD1⟩, fun D hD => ?_⟩
    refine lc_list (K := K) (a := D1) (xs := cs.map fun c => V.str c.o.s) (fun n H2 => Same H1 H2 ∧ ∃ acc, H2 D = some (.lst acc) ∧ acc.length = ((cs.take n).filter fun c => inRes c.o).length) ⟨same_upd hD, [], upd_same, rfl⟩ (fun n H2 _ ⟨s2, _⟩ => SqL.of (s2 _ _ hD1)) ?_ ?_
    · rintro n x H2 hn ⟨s2, acc, hacc, hlen⟩
      rw [List.getElem?_map] at hn
      obtain ⟨c, hc, rfl⟩ := Option.map_eq_some_iff.mp hn
      have hnx := filt_next hc fun c => inRes c.o
      refine ⟨rfl, _, rfl, sz_, fun e he => ?_⟩
      have s3 := same_upd (o := .lst [V.str "tree", V.str "rule", V.str "words"]) he
      refine ⟨e, _, rfl, .inl (SqL.of upd_same), rfl, rfl, _, rfl, ?_⟩
      show if inV _ _ = true then _ else _
      rw [in_res]
      refine iteB (fun h1 => ?_) (fun h1 => ?_)
      · refine ⟨_, rfl, acc, s3 _ _ hacc, ?_, fun b u e' => by rw [upd_ne (ne_of_none e' hD)]; exact s3 _ _ (s2 _ _ e'), _, upd_same, ?_⟩
        · have h2 := List.length_filter_le (fun c : Cas => inRes c.o) (cs.take n)
          rw [List.length_take] at h2
          exact small1000 (by omega)
        · rw [List.length_append, hlen, hnx, if_pos h1]
          rfl
      · refine ⟨s2.trans s3, acc, s3 _ _ hacc, ?_⟩
        rw [hlen, hnx, if_neg (by rw [h1]; decide)]
        rfl
    · rintro H2 ⟨s2, acc, hacc, hlen⟩
      refine ⟨D, acc, rfl, .inl (SqL.of hacc), hR _ _ ⟨s2, ?_⟩⟩
      rw [hlen, List.length_map, List.take_length]
      rfl
  rintro v H2 ⟨s2, rfl⟩
  dsimp only [gName]
  have s12 := s1.trans s2
  -- counts
  refine asgS (fun v H3 => Same H2 H3 ∧ ∃ D, v = .ref D ∧ H3 D = some (.lst [.int (min2 (cnt Cas.c0 cs)), .int (min2 (cnt Cas.c1 cs)), .int (min2 (cnt Cas.c2 cs)), .int (min2 (cnt (fun c => inRes c.o) cs))])) (fun R hR => ?_) ?_
  · refine ⟨3, rfl, by decide, by decide, fun D hD => ?_⟩
    refine lc_range (lo := 0) (n := 3) (fun n H3 => Same H2 H3 ∧ H3 D = some (.lst (([Cas.c0, Cas.c1, Cas.c2].take n).map fun f => V.int (min2 (cnt f cs))))) ⟨same_upd hD, upd_same⟩ ?_ ?_
    · rintro n H3 hn ⟨s3, hacc⟩
      have s13 := s12.trans s3
      obtain ⟨f, ef, hf⟩ : ∃ f : Cas → Bool, [Cas.c0, Cas.c1, Cas.c2][n]? = some f ∧ ∀ c : Cas, atI c.L (0 + (n : Int)) = some (.bl (f c)) := by
        match n, hn with
        | 0, _ => exact ⟨Cas.c0, rfl, fun _ => rfl⟩
        | 1, _ => exact ⟨Cas.c1, rfl, fun _ => rfl⟩
        | 2, _ => exact ⟨Cas.c2, rfl, fun _ => rfl⟩
        | n + 3, h => omega
      refine ⟨rfl, yes_ite ?_⟩
      refine cb2W (cbW (cnt_lc (s13 _ _ ha) (AllS.same s13 hs) hl hf fun H4 D4 acc s4 hD4 hlen => ?_))
      refine ⟨D4, acc, rfl, .inl (SqL.of hD4), 2, _, rfl, _, s4 _ _ hacc, ?_, fun b u e => by rw [upd_ne (ne_of_none e hD)]; exact s4 _ _ (s3 _ _ e), ?_⟩
      · rw [List.length_map, List.length_take]
        exact small1000 (Nat.le_trans (Nat.min_le_left _ _) (by omega))
      · rw [upd_same, ← take_next ef, List.map_append, hlen]
        rfl
    · rintro H3 ⟨s3, hacc⟩
      refine ⟨_, rfl, 2, _, rfl, sz_, fun e he => ?_⟩
      exact ⟨D, e, _, _, rfl, rfl, same_upd he _ _ hacc, upd_same, sz_, fun r hr => hR _ _ ⟨(s3.trans (same_upd he)).trans (same_upd hr), r, rfl, upd_same⟩⟩
  rintro v H3 ⟨s3, D3, rfl, hD3⟩
  dsimp only [gName]
  have s13 := s12.trans s3
  -- same
  refine asgS (fun v H4 => Same H3 H4 ∧ ∃ D, v = .ref D ∧ H4 D = some (.lst [.bl (cs.all Cas.c3), .bl (cs.all Cas.c4)])) (fun R hR => ?_) ?_
  · refine ⟨sz_, fun e he => ⟨e, rfl, ⟨_, SqL.of upd_same⟩, fun D hD => ?_⟩⟩
    have s4 := same_upd (o := .lst [V.int 3, V.int 4]) he
    refine lc_list (K := K) (a := e) (xs := [V.int 3, V.int 4]) (fun n H5 => Same (upd H3 e (.lst [V.int 3, V.int 4])) H5 ∧ H5 D = some (.lst (([Cas.c3, Cas.c4].take n).map fun f => V.bl (cs.all f)))) ⟨same_upd hD, upd_same⟩ (fun n H5 _ ⟨s5, _⟩ => SqL.of (s5 _ _ upd_same)) ?_ ?_
    · rintro n x H5 hn ⟨s5, hacc⟩
      have s15 := (s13.trans s4).trans s5
      obtain ⟨f, z, rfl, ef, hf⟩ : ∃ (f : Cas → Bool) (z : Int), x = .int z ∧ [Cas.c3, Cas.c4][n]? = some f ∧ ∀ c : Cas, atI c.L z = some (.bl (f c)) := by
        match n, hn with
        | 0, h => cases h; exact ⟨Cas.c3, 3, rfl, rfl, fun _ => rfl⟩
        | 1, h => cases h; exact ⟨Cas.c4, 4, rfl, rfl, fun _ => rfl⟩
        | n + 2, h => simp at h
      refine ⟨rfl, yes_ite ?_⟩
      refine cbW (bls_lc (s15 _ _ ha) (AllS.same s15 hs) hl hf fun H6 D6 s6 hD6 => ?_)
      refine ⟨D6, cs.map f, rfl, SqL.of hD6, _, s6 _ _ hacc, ?_, fun b u e' => by rw [upd_ne (ne_of_none e' hD)]; exact s6 _ _ (s5 _ _ e'), ?_⟩
      · rw [List.length_map, List.length_take]
        exact small1000 (Nat.le_trans (Nat.min_le_right _ _) (by show 2 ≤ _; omega))
      · rw [upd_same, ← take_next ef, List.map_append]
        have : (cs.map f).all id = cs.all f := by rw [List.all_map]; rfl
        rw [this]
        rfl
    · rintro H5 ⟨s5, hacc⟩
      exact hR _ _ ⟨s4.trans s5, D, rfl, hacc⟩
  rintro v H4 ⟨s4, D4, rfl, hD4⟩
  dsimp only [gName]
  have s14 := s13.trans s4
  -- some
  refine asgS (fun v H5 => Same H4 H5 ∧ ∃ D, v = .ref D ∧ H5 D = some (.lst [.bl (cs.any Cas.c5), .bl (cs.any Cas.c6), .bl (cs.any Cas.c7)])) (fun R hR => ?_) ?_
  · refine ⟨sz_, fun e he => ⟨e, rfl, ⟨_, SqL.of upd_same⟩, fun D hD => ?_⟩⟩
    have s5 := same_upd (o := .lst [V.int 5, V.int 6, V.int 7]) he
    refine lc_list (K := K) (a := e) (xs := [V.int 5, V.int 6, V.int 7]) (fun n H5 => Same (upd H4 e (.lst [V.int 5, V.int 6, V.int 7])) H5 ∧ H5 D = some (.lst (([Cas.c5, Cas.c6, Cas.c7].take n).map fun f => V.bl (cs.any f)))) ⟨same_upd hD, upd_same⟩ (fun n H5 _ ⟨s5, _⟩ => SqL.of (s5 _ _ upd_same)) ?_ ?_
    · rintro n x H6 hn ⟨s6, hacc⟩
      have s16 := (s14.trans s5).trans s6
      obtain ⟨f, z, rfl, ef, hf⟩ : ∃ (f : Cas → Bool) (z : Int), x = .int z ∧ [Cas.c5, Cas.c6, Cas.c7][n]? = some f ∧ ∀ c : Cas, atI c.L z = some (.bl (f c)) := by
        match n, hn with
        | 0, h => cases h; exact ⟨Cas.c5, 5, rfl, rfl, fun _ => rfl⟩
        | 1, h => cases h; exact ⟨Cas.c6, 6, rfl, rfl, fun _ => rfl⟩
        | 2, h => cases h; exact ⟨Cas.c7, 7, rfl, rfl, fun _ => rfl⟩
        | n + 3, h => simp at h
      refine ⟨rfl, yes_ite ?_⟩
      refine cbW (bls_lc (s16 _ _ ha) (AllS.same s16 hs) hl hf fun H7 D7 s7 hD7 => ?_)
      refine ⟨D7, cs.map f, rfl, SqL.of hD7, _, s7 _ _ hacc, ?_, fun b u e' => by rw [upd_ne (ne_of_none e' hD)]; exact s7 _ _ (s6 _ _ e'), ?_⟩
      · rw [List.length_map, List.length_take]
        exact small1000 (Nat.le_trans (Nat.min_le_right _ _) (by show 3 ≤ _; omega))
      · rw [upd_same, ← take_next ef, List.map_append]
        have : (cs.map f).any id = cs.any f := by rw [List.any_map]; rfl
        rw [this]
        rfl
    · rintro H6 ⟨s6, hacc⟩
      exact hR _ _ ⟨s5.trans s6, D, rfl, hacc⟩
  rintro v H5 ⟨s5, D5, rfl, hD5⟩
  dsimp only [gName]
  have hD15 := s5 _ _ (s4 _ _ (s3 _ _ (s2 _ _ hD1)))
  -- worst
  refine asgS (fun v H6 => H6 = H5 ∧ v = .str (wsUp cs 0).s) (fun R hR => hR _ _ ⟨rfl, rfl⟩) ?_
  rintro v H6 ⟨rfl, rfl⟩
  dsimp only [gName]
  refine seqW (fun σ' H' => Same H6 H' ∧ ∃ z7, σ' = [some (.ref a), some (.ref D1), some (.int (cnt (fun c => inRes c.o) cs)), some (.ref D3), some (.ref D4), some (.ref D5), some (.str (wsUp cs 3).s), z7, none, none]) (fun N hN => ?_) ?_
  · refine ⟨sz_, fun e he => ⟨e, rfl, ⟨_, SqL.of upd_same⟩, ?_⟩⟩
    have s7 := same_upd (o := .lst [V.str "rule", V.str "words", V.str "clash"]) he
    refine for_list (K := K) (a := e) (xs := [V.str "rule", V.str "words", V.str "clash"]) (fun n σ' H' => H' = upd H6 e (.lst [V.str "rule", V.str "words", V.str "clash"]) ∧ ∃ z7, σ' = [some (.ref a), some (.ref D1), some (.int (cnt (fun c => inRes c.o) cs)), some (.ref D3), some (.ref D4), some (.ref D5), some (.str (wsUp cs n).s), z7, none, none]) ⟨rfl, none, rfl⟩ (fun n σ' H' _ ⟨h, _⟩ => by rw [h]; exact SqL.of upd_same) ?_ ?_
    · rintro n x σ' H' hn ⟨rfl, z7, rfl⟩
      obtain ⟨o, rfl, ho⟩ := ws_at (cs := cs) hn
      refine ⟨_, rfl, _, rfl, D1, _, rfl, .inl (SqL.of (s7 _ _ hD15)), rfl, flat_strs cs, _, rfl, ?_⟩
      show if inV _ _ = true then _ else _
      rw [oc_in]
      refine iteB (fun h1 => ?_) (fun h1 => ?_)
      · rw [if_pos h1] at ho
        exact ⟨_, rfl, rfl, _, by rw [ho]; rfl⟩
      · rw [if_neg (by rw [h1]; decide)] at ho
        exact ⟨rfl, _, by rw [ho]; rfl⟩
    · rintro σ' H' ⟨rfl, z7, rfl⟩
      exact hN _ _ ⟨s7, z7, rfl⟩
  rintro σ' H7 ⟨s7, z7, rfl⟩
  have hD37 := s7 _ _ (s5 _ _ (s4 _ _ hD3))
  have hD47 := s7 _ _ (s5 _ _ hD4)
  have hD57 := s7 _ _ hD5
  refine ⟨_, rfl, _, rfl, D3, D4, _, _, rfl, rfl, hD37, hD47, sz_, fun r1 hr1 => ?_⟩
  refine ⟨_, rfl, r1, D5, _, _, rfl, rfl, upd_same, same_upd hr1 _ _ hD57, sz_, fun r2 hr2 => ?_⟩
  refine ⟨_, rfl, sz_, fun r3 hr3 => ?_⟩
  refine ⟨r2, r3, _, _, rfl, rfl, same_upd hr3 _ _ upd_same, upd_same, sz_, fun r4 hr4 => ?_⟩
  refine ⟨r4, _, rfl, .inl ⟨SqL.of upd_same, fun r5 hr5 => ?_⟩⟩
  exact q _ _ ((s14.trans (s5.trans s7)).trans ((((same_upd hr1).trans (same_upd hr2)).trans (same_upd hr3)).trans (same_upd hr4) |>.trans (same_upd hr5))) ⟨r5, rfl, upd_same⟩
end
end Toy
set_option Elab.async false
set_option linter.all false
set_option maxRecDepth 100000
set_option maxHeartbeats 4000000
namespace Toy
open PySem L2 Sh
/-! ### the kinds of the parts -/
def blV : V → Bool
  | .bl _ => true
  | _ => false
def sclV : V → Bool
  | .bl _ => true
  | .int _ => true
  | .str _ => true
  | _ => false
theorem scl_ty {K : PySem.W.Frag} {H : Hp} {x : V} (h : sclV x = true) : ∃ t, TyX K H x t ∧ PySem.W.kitOne K t (.type "bool") = some (blV x) := by
  cases x <;> simp [sclV] at h
  · exact ⟨_, .base (.bl _), kit_ty (show kitB "bool" "bool" = some true by decide +kernel)⟩
  · exact ⟨_, .base (.int _), kit_ty (show kitB "int" "bool" = some false by decide +kernel)⟩
  · exact ⟨_, .base (.str _), kit_ty (show kitB "str" "bool" = some false by decide +kernel)⟩
theorem bls_dp {K : PySem.W.Frag} {H : Hp} : ∀ bs : List Bool, DpAll K H (bs.map V.bl) (bs.map PyData.bool)
  | [] => .nil
  | b :: bs => .cons (.bl b) (bls_dp bs)
theorem bls_lay : ∀ bs : List Bool, PyData.canLayAll0 (bs.map PyData.bool) = true
  | [] => rfl
  | b :: bs => by
    simp only [List.map_cons, PyData.canLayAll0, PyData.canLay0, bls_lay bs]
    rfl
theorem bls_depth : ∀ bs : List Bool, PyData.depthAll (bs.map PyData.bool) ≤ 1
  | [] => by simp [PyData.depthAll]
  | b :: bs => by
    have := bls_depth bs
    simp only [List.map_cons, PyData.depthAll, PyData.depth]
    omega
theorem bls_shaped (bs : List Bool) : SeqAt.shaped (.list (bs.map PyData.bool)) = true := by
  have h1 := bls_depth bs
  have h2 : PyData.depth (.list (bs.map PyData.bool)) ≤ 64 := by
    simp only [PyData.depth]
    omega
  show (PyData.canLay0 (.list (bs.map PyData.bool)) && decide (PyData.depth (.list (bs.map PyData.bool)) ≤ 64)) = true
  rw [Bool.and_eq_true]
  exact ⟨by simp only [PyData.canLay0]; exact bls_lay bs, decide_eq_true h2⟩
theorem bls_eqv : ∀ bs : List Bool, PyData.eqv (.list (bs.map PyData.bool)) (.list (bs.map PyData.bool)) = true := fun bs => by
  have : ∀ bs : List Bool, PyData.eqvAll (bs.map PyData.bool) (bs.map PyData.bool) = true := fun bs => by
    induction bs with
    | nil => rfl
    | cons b bs ih => simp [PyData.eqvAll, PyData.eqv, ih]
  simp only [PyData.eqv]
  exact this bs
def spRight : Sp := fun vs H Q _ => ∃ (a b : Addr) (xs : List V), vs = [.ref a, .ref b] ∧ H a = some (.tup xs) ∧ H b = some (.lst ((xs.map blV).map V.bl)) ∧ xs.all sclV = true ∧ xs.length ≤ 10 ∧ ∀ H', Same H H' → Q (.bl true) H'
section
variable {P : Program} {w : World} {K : PySem.W.Frag} {mg : Str → Option Value} {base : Heap}
theorem ok_l_kinds_right (T : Tx K mg) : FnOk P w K mg base CX0 1 T.a_l_kinds_right T.fd_l_kinds_right ["_law_told", "_law_ways"] spRight := by
  refine T.F_l_kinds_right.ok sc_l_kinds_right (fun vs H Q E h => ?_) (fun cdv A outer s H vs Q E hr h => ?_)
  · obtain ⟨a, b, xs, rfl, _⟩ := h
    rfl
  have hu65 := hu65_of hr
  have hu := hu_of hr
  obtain ⟨a, b, xs, rfl, ha, hb, hx, hl, q⟩ := h
  refine ⟨_, (pss_one (ps_ret (pe_and (pe_callB call_isi (by rfl) T.b_isinstance (by decide +kernel) (pa_cons (pv 0) (pa_cons (pe_bltn (v := .ty "tuple") (by rfl) T.b_tuple (by decide +kernel) rfl) pa_nil))) (pe_one (pe_cmpR (op_eqD hr.units) (pe_lc (own := [("_law_each", 2)]) (g := gName 2) rfl sc_l_kinds_right.nd (pi_tup (pv 0)) (blkOk_by (own := [("_law_each", 2)]) (N := N_l_kinds_right) (sc := defScope s_l_kinds_right) (by decide +kernel)) (fun _ _ _ _ _ => (pg_name (i := 2) sc_l_kinds_right.nd rfl (by first | exact Or.inl rfl | exact Or.inr rfl))) (fun _ _ _ _ _ => pts_nil) (fun _ _ _ _ _ => (pe_callB (by exact call_isi : CallR _ (.builtin "isinstance") (rIsi K)) (by rfl) T.b_isinstance (by decide +kernel) (pa_cons (pv 2) (pa_cons (pe_bltn (v := .ty "bool") (by rfl) T.b_bool (by decide +kernel) rfl) pa_nil))))) (pv 1) (nomark _)))))), ?_⟩
  refine ⟨_, rfl, _, _, _, _, true, rfl, .ty _, .base (.tup ha), kit_ty (by decide +kernel), true, rfl, iteT ?_⟩
  refine ⟨_, rfl, a, rfl, ⟨_, SqT.of ha⟩, fun D hD => ?_⟩
  refine lc_tup (K := K) (a := a) (xs := xs) (fun n H2 => Same H H2 ∧ H2 D = some (.lst (((xs.take n).map blV).map V.bl))) ⟨same_upd hD, upd_same⟩ (fun n H2 _ ⟨s2, _⟩ => SqT.of (s2 _ _ ha)) ?_ ?_
  · rintro n x H2 hn ⟨s2, hacc⟩
    obtain ⟨t, ty, ky⟩ := scl_ty (K := K) (H := H2) (List.all_eq_true.mp hx x (List.mem_of_getElem? hn))
    refine ⟨rfl, yes_ite ⟨_, rfl, _, _, _, _, _, rfl, .ty _, ty, ky, _, hacc, ?_, fun b u e => by rw [upd_ne (ne_of_none e hD)]; exact s2 _ _ e, ?_⟩⟩
    · rw [List.length_map, List.length_map, List.length_take]
      exact small1000 (by omega)
    · rw [upd_same, ← take_next hn, List.map_append, List.map_append]
      rfl
  · rintro H2 ⟨s2, hacc⟩
    rw [List.take_length] at hacc
    refine ⟨_, rfl, _, _, .lst (SqL.of hacc) (bls_dp _), .lst (SqL.of (s2 _ _ hb)) (bls_dp _), bls_shaped _, bls_shaped _, ?_⟩
    rw [bls_eqv]
    exact q _ s2
end
end Toy
set_option Elab.async false
set_option linter.all false
set_option maxRecDepth 100000
set_option maxHeartbeats 4000000
namespace Toy
open PySem L2 Sh
/-! ### plain laws: the sum grows by addM; closed answers as the law says -/
theorem cnt_app (f : Cas → Bool) (cs : List Cas) (p : Cas) : cnt f (cs ++ [p]) = cnt f cs + b2 (f p) := by
  unfold cnt b2
  rw [List.filter_append, List.length_append]
  by_cases h : f p = true
  · rw [List.filter_cons_of_pos h, if_pos h]
    simp
  · rw [List.filter_cons_of_neg h, if_neg h]
    simp
theorem cnt_nn (f : Cas → Bool) (cs : List Cas) : 0 ≤ cnt f cs := by
  unfold cnt
  omega
theorem min2_add {x : Int} {b : Bool} (h : 0 ≤ x) : min2 (x + b2 b) = min2 (min2 x + b2 b) := by
  unfold min2 b2
  cases b <;> simp <;> (repeat' split) <;> omega
theorem worst_app (cs : List Cas) (p : Cas) : worstM (cs ++ [p]) = worseM (worstM cs) p.o := by
  unfold worstM
  simp only [List.any_append, List.any_cons, List.any_nil, Bool.or_false]
  cases cs.any (fun c => decide (c.o = .clash)) <;> cases cs.any (fun c => decide (c.o = .words)) <;> cases cs.any (fun c => decide (c.o = .rule)) <;> cases p.o <;> rfl
theorem sum_app (cs : List Cas) (p : Cas) : sumL (cs ++ [p]) = addM (sumL cs) p := by
  unfold sumL addM
  rw [cnt_app, cnt_app, cnt_app, cnt_app, min2_add (cnt_nn _ _), min2_add (cnt_nn _ _), min2_add (cnt_nn _ _), min2_add (cnt_nn _ _), worst_app]
  simp
theorem sum_nil : sumL [] = sum0 := rfl
theorem min2_le {x : Int} (h : 0 ≤ x) : 0 ≤ min2 x ∧ min2 x ≤ 2 := by
  unfold min2
  split <;> omega
theorem worst_in (cs : List Cas) : inWorst (worstM cs) = true := by
  unfold worstM
  repeat' split
  all_goals rfl
theorem sum_ok (cs : List Cas) : TotOk (sumL cs) := ⟨min2_le (cnt_nn _ _), min2_le (cnt_nn _ _), min2_le (cnt_nn _ _), min2_le (cnt_nn _ _), worst_in cs⟩
theorem here_eqv {js ks : List Kd} (h : Eqv js ks) (c : Option Cl) (n : Int) : hereM js c n = hereM ks c n := by
  cases c with
  | none => rfl
  | some c =>
    unfold hereM
    exact dec_of (h.1 _)
theorem merged_lm (pl : Pl) (b o t : Cl) : mergedM pl b o t = if (lmM pl b.1 o.1 t.1).2 = true then none else some ((lmM pl b.1 o.1 t.1).1, if o.2 = b.2 then t.2 else o.2) := by
  unfold mergedM lmM
  by_cases h1 : o.1 = b.1
  · simp [h1]
  by_cases h2 : t.1 = b.1
  · simp [h1, h2]
  by_cases h3 : o.1 = t.1
  · have h1' : ¬ t.1 = b.1 := h2
    simp [h1, h2, h3]
  · simp [h1, h2, h3]
theorem val_met (c : Option Cl) : val c = (metB c).1 := by cases c <;> rfl
theorem on_end (pl : Pl) {js ks : List Kd} (h : Eqv js ks) {tot : Tot} (hw : inWorst tot.w = true) (c0 c1 c2 : Option Cl) (root : Bool) :
    onM pl js tot c0 c1 c2 root = endL pl ks tot root (metB c0) (c1.getD (metG pl c0)) (c2.getD (metG pl c0)) (val c1) (val c2) := by
  unfold onM endL
  rw [merged_lm, ← val_met]
  generalize c1.getD (metG pl c0) = l
  generalize c2.getD (metG pl c0) = r
  generalize hlm : lmM pl (val c0) l.1 r.1 = lm
  obtain ⟨mv, cl⟩ := lm
  cases cl with
  | true => simp
  | false =>
    simp only [Bool.false_eq_true, if_false, false_or]
    by_cases h1 : tot.w = .clash
    · simp [h1]
    rw [if_neg h1, if_neg h1]
    by_cases h2 : pl.ti = true ∧ root = false ∧ mv = none ∧ tot.n3 = 0
    · rw [if_pos h2, if_pos h2]
    rw [if_neg h2, if_neg h2]
    by_cases h3 : tot.w = .words ∨ mv ∉ dueM (val c0) (val c1) (val c2)
    · rw [if_pos h3, if_pos h3]
    rw [if_neg h3, if_neg h3]
    suffices ef : (if tot.w = .rule ∨ (!decide (mv = none), flagL pl root tot.n3 (metB c0) l r mv, tot.n3) ∉ js then Oc.rule else .tree) = if tot.w = .right ∧ (!decide (mv = none), flagL pl root tot.n3 (metB c0) l r mv, tot.n3) ∈ ks then .tree else .rule by exact ef
    have h4 : tot.w = .right ∨ tot.w = .rule := by
      have h5 : ¬ tot.w = .words := fun z => h3 (.inl z)
      revert hw h1 h5
      cases tot.w <;> simp [inWorst]
    have hm := h.1 (!decide (mv = none), flagL pl root tot.n3 (metB c0) l r mv, tot.n3)
    rcases h4 with h4 | h4
    · rw [h4]
      by_cases h5 : (!decide (mv = none), flagL pl root tot.n3 (metB c0) l r mv, tot.n3) ∈ ks
      · rw [if_neg (by intro z; rcases z with z | z; cases z; exact z (hm.mpr h5)), if_pos ⟨rfl, h5⟩]
      · rw [if_pos (.inr fun z => h5 (hm.mp z)), if_neg (fun z => h5 z.2)]
    · rw [h4, if_pos (.inl rfl), if_neg (fun z => by cases z.1)]
theorem case_out (pl : Pl) {js ks : List Kd} (h : Eqv js ks) {tot : Tot} (hw : inWorst tot.w = true) (c0 c1 c2 : Option Cl) (root : Bool) :
    (caseM pl js tot c0 c1 c2 root).o = outL pl ks tot c0 c1 c2 (same0M tot.b4 c0 c1) (same0M tot.b5 c0 c2) (alike0M tot.b6 (val c0) (val c1)) (alike0M tot.b7 (val c0) (val c2)) root := by
  unfold caseM outL
  dsimp only
  rw [on_end pl h hw]
  generalize endL pl ks tot root (metB c0) (c1.getD (metG pl c0)) (c2.getD (metG pl c0)) (val c1) (val c2) = e
  generalize alike0M tot.b6 (val c0) (val c1) = a0
  generalize alike0M tot.b7 (val c0) (val c2) = a1
  have f0 : same0M tot.b4 c0 c1 = true → c1 = c0 := fun z => by simp [same0M] at z; exact z.1
  have f1 : same0M tot.b5 c0 c2 = true → c2 = c0 := fun z => by simp [same0M] at z; exact z.1
  have g0 : same0M tot.b4 c0 c1 = false → ¬ (c0 = none ∧ c1 = none) := fun z ⟨e1, e2⟩ => by subst e1; subst e2; simp [same0M] at z
  have g1 : same0M tot.b5 c0 c2 = false → ¬ (c0 = none ∧ c2 = none) := fun z ⟨e1, e2⟩ => by subst e1; subst e2; simp [same0M] at z
  generalize same0M tot.b4 c0 c1 = s0 at f0 g0 ⊢
  generalize same0M tot.b5 c0 c2 = s1 at f1 g1 ⊢
  cases c0 with
  | none =>
    cases c1 <;> cases c2 <;> cases s0 <;> cases s1 <;> simp_all [wayM, numM, b2]
  | some k0 =>
    cases c1 <;> cases c2 <;> cases s0 <;> cases s1 <;> simp_all [wayM, numM, b2]
    all_goals (cases pl.go <;> cases pl.al <;> cases a0 <;> cases a1 <;> simp)
theorem closed_eq (pl : Pl) {A B ka kb : List Kd} (hA : Eqv A ka) (hB : Eqv B kb) {tot : Tot} (hw : inWorst tot.w = true) (c0 c1 c2 : Option Cl) (root : Bool) :
    closedM pl A B tot c0 c1 c2 root = closedL pl (if root = true then ka else kb) tot c0 c1 c2 root := by
  unfold closedM closedL
  have hh : Eqv (if root = true then A else B) (if root = true then ka else kb) := by cases root <;> assumption
  generalize (if root = true then A else B) = js at hh ⊢
  generalize (if root = true then ka else kb) = ks at hh ⊢
  rw [here_eqv hh, here_eqv hh, here_eqv hh]
  split
  · rfl
  split
  · rw [← case_out pl hh hw]
    rfl
  · rfl
end Toy
set_option Elab.async false
set_option linter.all false
set_option maxRecDepth 100000
set_option maxHeartbeats 4000000
namespace Toy
open PySem L2 Sh
/-! ### cases are added one by one -/
def totD (t : Tot) : PyData := .tuple [.int t.n0, .int t.n1, .int t.n2, .int t.n3, .bool t.b4, .bool t.b5, .bool t.b6, .bool t.b7, .bool t.b8, .str t.w.s]
theorem IsT.dp {K : PySem.W.Frag} {H : Hp} {v : V} {t : Tot} (h : IsT H v t) : Dp K H v (totD t) := by
  obtain ⟨a, rfl, h⟩ := h
  exact .tup (SqT.of h) (.cons (.int _) (.cons (.int _) (.cons (.int _) (.cons (.int _) (.cons (.bl _) (.cons (.bl _) (.cons (.bl _) (.cons (.bl _) (.cons (.bl _) (.cons (.str _) .nil))))))))))
theorem oc_ok (o : Oc) : (PyData.str o.s).canLay0 = true := by cases o <;> decide +kernel
theorem totD_shaped (t : Tot) : SeqAt.shaped (totD t) = true := by
  show ((totD t).canLay0 && decide ((totD t).depth ≤ 64)) = true
  rw [Bool.and_eq_true]
  refine ⟨?_, decide_eq_true ?_⟩
  · simp only [totD, PyData.canLay0, PyData.canLayAll0, Bool.true_and, Bool.and_true]
    exact oc_ok t.w
  · simp [totD, PyData.depth, PyData.depthAll]
theorem totD_eqv (t : Tot) : PyData.eqv (totD t) (totD t) = true := by
  simp [totD, PyData.eqv, PyData.eqvAll]
def spSumsSo : Sp := fun vs H Q _ => ∃ (d a : Addr) (xs : List V) (cs : List Cas), vs = [.ref d, .ref a] ∧ H a = some (.lst xs) ∧ AllS H xs cs ∧ xs.length ≤ 10 ∧ ∀ H', Same H H' → Q (.bl true) H'
section
variable {P : Program} {w : World} {K : PySem.W.Frag} {mg : Str → Option Value} {base : Heap}
theorem ok_l_sums_so (T : Tx K mg) : FnOk P w K mg base CX0 2 T.a_l_sums_so T.fd_l_sums_so ["_law_pen", "_law_cases"] spSumsSo := by
  refine T.F_l_sums_so.ok sc_l_sums_so (fun vs H Q E h => ?_) (fun cdv A outer s H vs Q E hr h => ?_)
  · obtain ⟨d, a, xs, cs, rfl, _⟩ := h
    rfl
  have hu65 := hu65_of hr
  have hu := hu_of hr
  obtain ⟨d, a, xs, cs, rfl, ha, hs, hl, q⟩ := h
  have hcl : cs.length = xs.length := (AllS.len hs).symm
  refine ⟨_, (pss_cons (ps_set (i := 2) sc_l_sums_so.nd rfl (by first | exact Or.inl rfl | exact Or.inr rfl) (pe_call0 (ok_empty_sum T) (hr.mono (by decide)) (by rfl) T.m_empty_sum T.F_empty_sum.kp T.bi_empty_sum .nil pass0))
 (pss_cons (ps_for PassesOwn.never rfl (pi_range1 (by rfl) T.b_range (pa_cons (pe_op op_add (pe_callB call_len_seq (by rfl) T.b_len (by decide +kernel) (pa_cons (pv 1) pa_nil)) pe_int) pa_nil)) (pg_name (i := 3) sc_l_sums_so.nd rfl (by first | exact Or.inl rfl | exact Or.inr rfl))
 (pss_cons (ps_if (pt_cmpR (op_neD hr.units) (pv 2) (pe_call (ok_l_sum_of T) (hr.mono (by decide)) (by rfl) T.m_l_sum_of T.F_l_sum_of.kp T.bi_l_sum_of .nil pass0 (pa_cons (pe_slice sl_list (pv 1) po_none (po_some (pv 3))) pa_nil)) (nomark _))
 (pss_one (ps_ret pe_bl))
 pss_nil)
 (pss_cons (ps_if (pt_not (pt_val (pe_call (ok_l_kinds_right T) (hr.mono (by decide)) (by rfl) T.m_l_kinds_right T.F_l_kinds_right.kp T.bi_l_kinds_right .nil pass0 (pa_cons (pv 2) (pa_cons (pe_op op_cat (pe_op op_cat (pe_op op_rep (pe_lst (pa_cons pe_bl pa_nil)) pe_int) (pe_op op_rep (pe_lst (pa_cons pe_bl pa_nil)) pe_int)) (pe_lst (pa_cons pe_bl pa_nil))) pa_nil)))))
 (pss_one (ps_ret pe_bl))
 pss_nil)
 (pss_one (ps_if (pt_cmpR op_lt (pv 3) (pe_callB call_len_seq (by rfl) T.b_len (by decide +kernel) (pa_cons (pv 1) pa_nil)) (nomark _))
 (pss_one (ps_set (i := 2) sc_l_sums_so.nd rfl (by first | exact Or.inl rfl | exact Or.inr rfl) (pe_call (ok_added T) (hr.mono (by decide)) (by rfl) T.m_added T.F_added.kp T.bi_added .nil pass0 (pa_cons (pv 2) (pa_cons (pe_ix ix_list (pv 1) (pv 3) (fun _ _ => rfl)) pa_nil)))))
 pss_nil)))))
 (pss_one (ps_ret pe_bl)))), ?_⟩
  refine ⟨rfl, fun H1 v s1 i1 => ?_⟩
  dsimp only [gName]
  refine ⟨_, rfl, a, xs, rfl, .inl (SqL.of (s1 _ _ ha)), _, _, rfl, rfl, (xs.length : Int) + 1, rfl, by omega, by omega, ?_⟩
  have en : ((xs.length : Int) + 1).toNat = xs.length + 1 := by omega
  rw [en]
  refine for_range (lo := 0) (n := xs.length + 1) (fun i σ H' => Same H H' ∧ ∃ v z, IsT H' v (sumL (cs.take i)) ∧ σ = [some (.ref d), some (.ref a), some v, z]) ⟨s1, v, none, i1, rfl⟩ ?_ ?_
  · rintro i σ H2 hi ⟨s2, v, z, iv, rfl⟩
    dsimp only [gName]
    refine ⟨_, rfl, _, rfl, _, rfl, _, rfl, a, xs, rfl, SqL.of (s2 _ _ ha), fun p hp => ?_⟩
    rw [Int.zero_add, cut_take xs i]
    have s3 := same_upd (o := .lst (xs.take i)) hp
    refine ⟨p, xs.take i, cs.take i, rfl, upd_same, (AllS.take i (AllS.same (s2.trans s3) hs)), by rw [List.length_take]; omega, fun H4 u s4 iu => ?_⟩
    refine ⟨_, _, IsT.dp (iv.same (s3.trans s4)), IsT.dp iu, totD_shaped _, totD_shaped _, _, rfl, ?_⟩
    rw [totD_eqv]
    refine iteF (nextS ?_)
    dsimp only
    have iv4 := iv.same (s3.trans s4)
    have s24 := s2.trans (s3.trans s4)
    refine ⟨_, rfl, ?_⟩
    refine ⟨sz_, fun r1 n1 => ⟨r1, 4, _, rfl, rfl, upd_same, by decide, by decide, by decide, fun r2 n2 => ?_⟩⟩
    refine ⟨sz_, fun r3 n3 => ⟨r3, 5, _, rfl, rfl, upd_same, by decide, by decide, by decide, fun r4 n4 => ?_⟩⟩
    have t1 := same_upd (o := .lst [V.bl false]) n1
    have t2 := same_upd (o := .lst (List.replicate (4 : Int).toNat [V.bl false]).flatten) n2
    have t3 := same_upd (o := .lst [V.bl true]) n3
    have t4 := same_upd (o := .lst (List.replicate (5 : Int).toNat [V.bl true]).flatten) n4
    refine ⟨r2, r4, _, _, rfl, rfl, t4 _ _ (t3 _ _ upd_same), upd_same, sz_, fun r5 n5 => ?_⟩
    refine ⟨sz_, fun r6 n6 => ?_⟩
    have t5 := same_upd (o := .lst ((List.replicate (4 : Int).toNat [V.bl false]).flatten ++ (List.replicate (5 : Int).toNat [V.bl true]).flatten)) n5
    have t6 := same_upd (o := .lst [V.bl false]) n6
    refine ⟨r5, r6, _, _, rfl, rfl, t6 _ _ upd_same, upd_same, sz_, fun r7 n7 => ?_⟩
    have t7 := same_upd (o := .lst (((List.replicate (4 : Int).toNat [V.bl false]).flatten ++ (List.replicate (5 : Int).toNat [V.bl true]).flatten) ++ [V.bl false])) n7
    have st := t1.trans (t2.trans (t3.trans (t4.trans (t5.trans (t6.trans t7)))))
    obtain ⟨va, rfl, hva⟩ := iv4.same st
    refine ⟨va, r7, _, rfl, hva, upd_same, rfl, Nat.le_refl 10, fun H5 s5 => ?_⟩
    refine ⟨true, rfl, iteF (nextS ?_)⟩
    dsimp only
    have s25 := s24.trans (st.trans s5)
    refine ⟨_, rfl, _, rfl, a, xs, rfl, .inl (SqL.of (s25 _ _ ha)), _, _, rfl, rfl, _, rfl, iteD (fun h1 => ?_) (fun h1 => ?_)⟩
    · have h2 : i < xs.length := by omega
      obtain ⟨x, hx⟩ : ∃ x, xs[i]? = some x := ⟨xs[i], by simp [h2]⟩
      obtain ⟨c, hc, ic⟩ := AllS.get hs hx
      refine ⟨_, rfl, _, rfl, _, rfl, a, xs, _, _, rfl, rfl, SqL.of (s25 _ _ ha), ?_, _, _, sumL (cs.take i), c, rfl, ⟨va, rfl, s5 _ _ hva⟩, ic.same s25, worst_in _, fun H6 r s6 ir => ?_⟩
      · exact atI_nat hx
      · refine ⟨s25.trans s6, r, _, ?_, rfl⟩
        rw [← take_next hc, sum_app]
        exact ir
    · refine nextS ⟨s25, _, _, ?_, rfl⟩
      have e1 : i = xs.length := by omega
      rw [e1, ← hcl, List.take_of_length_le (by omega)]
      rw [e1, ← hcl, List.take_length] at hva
      exact ⟨va, rfl, s5 _ _ hva⟩
  · rintro σ H2 ⟨s2, v, z, iv, rfl⟩
    exact q _ s2
end
end Toy
set_option Elab.async false
set_option linter.all false
set_option maxRecDepth 100000
set_option maxHeartbeats 4000000
namespace Toy
open PySem L2 Sh
/-! ### the law -/
def casD : Option Cas → PyData
  | none => .none
  | some c => .tuple [.bool c.c0, .bool c.c1, .bool c.c2, .bool c.c3, .bool c.c4, .bool c.c5, .bool c.c6, .bool c.c7, .str c.o.s]
theorem IsO.dp {K : PySem.W.Frag} {H : Hp} {v : V} {c : Option Cas} (h : IsO H v c) : Dp K H v (casD c) := by
  cases c with
  | none => cases (show v = .non from h); exact .non
  | some c =>
    obtain ⟨a, rfl, h⟩ := h
    exact .tup (SqT.of h) (.cons (.bl _) (.cons (.bl _) (.cons (.bl _) (.cons (.bl _) (.cons (.bl _) (.cons (.bl _) (.cons (.bl _) (.cons (.bl _) (.cons (.str _) .nil)))))))))
theorem casD_shaped (c : Option Cas) : SeqAt.shaped (casD c) = true := by
  cases c with
  | none => rfl
  | some c =>
    show ((casD (some c)).canLay0 && decide ((casD (some c)).depth ≤ 64)) = true
    rw [Bool.and_eq_true]
    refine ⟨?_, decide_eq_true ?_⟩
    · simp only [casD, PyData.canLay0, PyData.canLayAll0, Bool.true_and, Bool.and_true]
      exact oc_ok c.o
    · simp [casD, PyData.depth, PyData.depthAll]
theorem casD_eqv (c : Option Cas) : PyData.eqv (casD c) (casD c) = true := by
  cases c <;> simp [casD, PyData.eqv, PyData.eqvAll]
theorem IsO.same {H H' : Hp} {v : V} {c : Option Cas} (s : Same H H') (h : IsO H v c) : IsO H' v c := by
  cases c with
  | none => exact h
  | some c => exact IsS.same s h
theorem IsO.iff {H : Hp} {v : V} {c : Option Cas} (h : IsO H v c) : v = V.non ↔ c = none := by
  cases c with
  | none => exact ⟨fun _ => rfl, fun _ => h⟩
  | some c =>
    obtain ⟨a, rfl, h⟩ := h
    exact ⟨fun z => (by cases z), fun z => (by cases z)⟩
theorem PtAt.kp {P : Program} {w : World} {K : PySem.W.Frag} {H H' : Hp} {d a : Addr} {pl : Pl} (s : Kp d H H') (hd : ∃ kvs, H d = some (.dK kvs)) (h : PtAt P w K H a pl) : PtAt P w K H' a pl := by
  obtain ⟨fv, h1, h2⟩ := h
  exact ⟨fv, tup_kp s hd h1, h2.kpd s hd⟩
theorem PlanAt.kp {P : Program} {w : World} {K : PySem.W.Frag} {C : Addr} {H H' : Hp} {d p : Addr} {pl : Pl} (s : Kp d H H') (hd : ∃ kvs, H d = some (.dK kvs)) (h : PlanAt P w K C H p pl) : PlanAt P w K C H' p pl := by
  obtain ⟨dx, v, h1, h2⟩ := h
  refine ⟨dx, v, ?_, h2.kpd s hd⟩
  obtain ⟨kvs, e⟩ := hd
  exact s _ _ h1 (ne_of h1 e (by intro z; cases z))
theorem RuleAt.kp {C : Addr} {H H' : Hp} {d p : Addr} {js1 js2 : List Kd} (s : Kp d H H') (hd : ∃ kvs, H d = some (.dK kvs)) (h : RuleAt C H p js1 js2) : RuleAt C H' p js1 js2 := by
  obtain ⟨dx, p1, p2, ys1, ys2, h1, h2, h3, h4, h5⟩ := h
  refine ⟨dx, p1, p2, ys1, ys2, ?_, tup_kp s hd h2, tup_kp s hd h3, AllK.kp s hd h4, AllK.kp s hd h5⟩
  obtain ⟨kvs, e⟩ := hd
  exact s _ _ h1 (ne_of h1 e (by intro z; cases z))
def spLaw (K : PySem.W.Frag) : Sp := fun vs H Q _ => ∃ (a : Addr) (ns : List Int), vs = [.ref a] ∧ SqL K H a (ns.map V.int) ∧ ns.length ≤ 63 ∧ ∀ H', Q (.bl true) H'
/-- what the inner loop keeps -/
structure In (P : Program) (w : World) (K : PySem.W.Frag) (CP CR : Addr) (H : Hp) (d ta pt ra oa pa rl : Addr) (pl : Pl) (tot : Tot) (xs ys : List V) (ks ls A B : List Kd) : Prop where
  t : H ta = some (.tup tot.L)
  pt : PtAt P w K H pt pl
  r : H ra = some (.lst xs)
  o : H oa = some (.lst ys)
  rk : AllK H xs ks
  ok : AllK H ys ls
  p : PlanAt P w K CP H pa pl
  rl : RuleAt CR H rl A B
theorem In.same {P : Program} {w : World} {K : PySem.W.Frag} {CP CR : Addr} {H H' : Hp} {d ta pt ra oa pa rl : Addr} {pl : Pl} {tot : Tot} {xs ys : List V} {ks ls A B : List Kd} (s : Same H H') (h : In P w K CP CR H d ta pt ra oa pa rl pl tot xs ys ks ls A B) : In P w K CP CR H' d ta pt ra oa pa rl pl tot xs ys ks ls A B :=
  ⟨s _ _ h.t, h.pt.same s, s _ _ h.r, s _ _ h.o, AllK.same s h.rk, AllK.same s h.ok, h.p.same s, h.rl.same s⟩
theorem In.kp {P : Program} {w : World} {K : PySem.W.Frag} {CP CR : Addr} {H H' : Hp} {d ta pt ra oa pa rl : Addr} {pl : Pl} {tot : Tot} {xs ys : List V} {ks ls A B : List Kd} (s : Kp d H H') (hd : ∃ kvs, H d = some (.dK kvs)) (h : In P w K CP CR H d ta pt ra oa pa rl pl tot xs ys ks ls A B) : In P w K CP CR H' d ta pt ra oa pa rl pl tot xs ys ks ls A B :=
  ⟨tup_kp s hd h.t, h.pt.kp s hd, lst_kp s hd h.r, lst_kp s hd h.o, AllK.kp s hd h.rk, AllK.kp s hd h.ok, h.p.kp s hd, h.rl.kp s hd⟩
theorem eight_false (c : Cas) : (c.L.map blV).map V.bl = (List.replicate (8 : Int).toNat [V.bl true]).flatten ++ [V.bl false] := rfl
section
variable {P : Program} {w : World} {K : PySem.W.Frag} {mg : Str → Option Value} {base : Heap}
theorem ok_law (T : Tx K mg) : FnOk P w K mg base CX0 5 T.a_law T.fd_law ["_law_script"] (spLaw K) := by
  refine T.F_law.ok sc_law (fun vs H Q E h => ?_) (fun cdv A outer s H vs Q E hr h => ?_)
  · obtain ⟨a, ns, rfl, _⟩ := h
    rfl
  have hu65 := hu65_of hr
  have hu := hu_of hr
  obtain ⟨a, ns, rfl, hS, _, q⟩ := h
  obtain ⟨ds1_closed, vd1_closed, bd1_closed⟩ := T.bd1_closed
  refine ⟨_, (pss_cons (ps_set (i := 1) sc_law.nd rfl (by first | exact Or.inl rfl | exact Or.inr rfl) (pe_call (ok_l_pen_of T) (hr.mono (by decide)) (by rfl) T.m_l_pen_of T.F_l_pen_of.kp T.bi_l_pen_of .nil pass0 (pa_cons (pv 0) pa_nil)))
 (pss_cons (ps_for PassesOwn.never rfl (pi_range1 (by rfl) T.b_range (pa_cons pe_int pa_nil)) (pg_name (i := 2) sc_law.nd rfl (by first | exact Or.inl rfl | exact Or.inr rfl))
 (pss_cons (ps_setLc (i := 3) (own := [("_law_case_here", 15)]) (g := gName 15) rfl sc_law.nd rfl rfl (sw_true rfl rfl rfl (by decide +kernel)) (pi_range1 (by rfl) T.b_range (pa_cons (pe_call (ok_l_draw T) (hr.mono (by decide)) (by rfl) T.m_l_draw T.F_l_draw.kp T.bi_l_draw .nil pass0 (pa_cons (pv 1) (pa_cons pe_int pa_nil))) pa_nil)) (blkOk_by (own := [("_law_case_here", 15)]) (N := N_law) (sc := defScope s_law) (by decide +kernel)) (fun _ _ _ _ _ => (pg_name (i := 15) sc_law.nd rfl (by first | exact Or.inl rfl | exact Or.inr rfl))) (fun _ _ _ _ _ => pts_nil) (fun _ _ _ _ _ => (pe_call (ok_l_case T) (hr.mono (by decide)) (by rfl) T.m_l_case T.F_l_case.kp T.bi_l_case .nil pass0 (pa_cons (pv 1) pa_nil))))
 (pss_cons (ps_if (pt_not (pt_val (pe_call (ok_l_sums_so T) (hr.mono (by decide)) (by rfl) T.m_l_sums_so T.F_l_sums_so.kp T.bi_l_sums_so .nil pass0 (pa_cons (pv 1) (pa_cons (pv 3) pa_nil)))))
 (pss_one (ps_ret pe_bl))
 pss_nil)
 (pss_cons (ps_par (i := 4) (j := 5) (by rfl) sc_law.nd rfl rfl (by decide) rfl rfl (pa_cons (pe_call (ok_l_sum_of T) (hr.mono (by decide)) (by rfl) T.m_l_sum_of T.F_l_sum_of.kp T.bi_l_sum_of .nil pass0 (pa_cons (pv 3) pa_nil)) (pa_cons (pe_call (ok_l_plan T) (hr.mono (by decide)) (by rfl) T.m_l_plan T.F_l_plan.kp T.bi_l_plan .nil pass0 (pa_cons (pv 1) pa_nil)) pa_nil)) (by rfl))
 (pss_cons (ps_par (i := 6) (j := 7) (by rfl) sc_law.nd rfl rfl (by decide) rfl rfl (pa_cons (pe_call (ok_l_kinds T) (hr.mono (by decide)) (by rfl) T.m_l_kinds T.F_l_kinds.kp T.bi_l_kinds .nil pass0 (pa_cons (pv 1) pa_nil)) (pa_cons (pe_call (ok_l_kinds T) (hr.mono (by decide)) (by rfl) T.m_l_kinds T.F_l_kinds.kp T.bi_l_kinds .nil pass0 (pa_cons (pv 1) pa_nil)) pa_nil)) (by rfl))
 (pss_cons (ps_par (i := 8) (j := 9) (by rfl) sc_law.nd rfl rfl (by decide) rfl rfl (pa_cons (pe_call (ok_l_made T) (hr.mono (by decide)) (by rfl) T.m_l_made T.F_l_made.kp T.bi_l_made .nil pass0 (pa_cons (pv 5) pa_nil)) (pa_cons (pe_make T.mk_Rule (ok_Rule_init T) (hr.mono (by decide)) (by rfl) T.m_Rule T.bi_Rule_init .nil pass0 (pa_cons (pv 6) (pa_cons (pv 7) pa_nil))) pa_nil)) (by rfl))
 (pss_one (ps_for PassesOwn.never rfl (pi_range1 (by rfl) T.b_range (pa_cons pe_int pa_nil)) (pg_name (i := 10) sc_law.nd rfl (by first | exact Or.inl rfl | exact Or.inr rfl))
 (pss_cons (ps_par (i := 11) (j := 12) (by rfl) sc_law.nd rfl rfl (by decide) rfl rfl (pa_cons (pe_call (ok_l_some_cells T) (hr.mono (by decide)) (by rfl) T.m_l_some_cells T.F_l_some_cells.kp T.bi_l_some_cells .nil pass0 (pa_cons (pv 1) (pa_cons (pv 4) pa_nil))) (pa_cons (pe_cmpR op_eq (pv 10) pe_int (nomark _)) pa_nil)) (by rfl))
 (pss_cons (ps_set (i := 13) sc_law.nd rfl (by first | exact Or.inl rfl | exact Or.inr rfl) (pe_call (ok_l_closed T) (hr.mono (by decide)) (by rfl) T.m_l_closed T.F_l_closed.kp T.bi_l_closed .nil pass0 (pa_cons (pv 5) (pa_cons (pe_ifExp (pt_val (pv 12)) (pv 6) (pv 7)) (pa_cons (pv 4) (pa_cons (pv 11) (pa_cons (pv 12) pa_nil)))))))
 (pss_cons (ps_set (i := 14) sc_law.nd rfl (by first | exact Or.inl rfl | exact Or.inr rfl) (pe_ifExp (pt_cmpR op_eq (pv 10) pe_int (nomark _)) (pe_call (ok_closed T) (hr.mono (by decide)) (by rfl) T.m_closed T.F_closed.kp bd1_closed vd1_closed pass0 (pa_cons (pv 8) (pa_cons (pv 9) (pa_cons (pv 4) (pa_cons (pv 11) pa_nil))))) (pe_call (ok_closed T) (hr.mono (by decide)) (by rfl) T.m_closed T.F_closed.kp T.bi_closed .nil pass0 (pa_cons (pv 8) (pa_cons (pv 9) (pa_cons (pv 4) (pa_cons (pv 11) (pa_cons (pv 12) pa_nil))))))))
 (pss_one (ps_if (PW.pt (pw_or (pt_cmpR (op_neD hr.units) (pv 14) (pv 13) (nomark _)) (pw_or1 (PW.pt (pw_and (pt_cmpR op_notN (pv 13) pe_non (nomark _)) (pw_and1 (pt_not (pt_val (pe_call (ok_l_kinds_right T) (hr.mono (by decide)) (by rfl) T.m_l_kinds_right T.F_l_kinds_right.kp T.bi_l_kinds_right .nil pass0 (pa_cons (pv 14) (pa_cons (pe_op op_cat (pe_op op_rep (pe_lst (pa_cons pe_bl pa_nil)) pe_int) (pe_lst (pa_cons pe_bl pa_nil))) pa_nil)))))))))))
 (pss_one (ps_ret pe_bl))
 pss_nil)))))))))))))
 (pss_one (ps_ret pe_bl)))), ?_⟩
  refine ⟨_, rfl, a, ns, rfl, hS, fun H1 d c s1 p1 => ?_⟩
  refine ⟨12, rfl, by decide, by decide, for_range (lo := 0) (n := 12) (fun i σ H' => ∃ v2 v3 v4 v5 v6 v7 v8 v9 v10 v11 v12 v13 v14, σ = [some (.ref a), some (.ref d), v2, v3, v4, v5, v6, v7, v8, v9, v10, v11, v12, v13, v14, none] ∧ Pen H' d c (200 * i)) ⟨none, none, none, none, none, none, none, none, none, none, none, none, none, rfl, p1⟩ ?_ ?_⟩
  · rintro i σ H2 hi ⟨v2, v3, v4, v5, v6, v7, v8, v9, v10, v11, v12, v13, v14, rfl, p2⟩
    dsimp only [gName]
    -- cases
    refine asgS (fun v H3 => ∃ ca xs cs, v = .ref ca ∧ Pen H3 d c (200 * i + 60) ∧ H3 ca = some (.lst xs) ∧ AllS H3 xs cs ∧ xs.length ≤ 6) (fun R hR => ?_) ?_
    · refine ⟨_, rfl, d, c, 200 * i, 7, rfl, p2, by omega, by decide, by decide, fun H3 m m0 m1 k3 p3 => ⟨m, rfl, by omega, by omega, fun D hD => ?_⟩⟩
      refine lc_range (lo := 0) (n := m.toNat) (fun n H4 => Pen H4 d c (200 * i + 1 + 9 * n) ∧ ∃ xs cs, H4 D = some (.lst xs) ∧ AllS H4 xs cs ∧ xs.length = n) ⟨Pen.put p3 hD p3, [], [], upd_same, .nil, rfl⟩ ?_ ?_
      · rintro n H4 hn ⟨p4, xs, cs, hx, hs, hl⟩
        refine ⟨rfl, yes_ite ⟨_, rfl, d, c, _, rfl, p4, by omega, fun H5 r cas k5 p5 ir => ?_⟩⟩
        refine ⟨xs, lst_kp k5 p4.at hx, small1000 (by omega), Pen.put p3 hD p5, xs ++ [r], cs ++ [cas], upd_same, ?_, ?_⟩
        · have hx5 := lst_kp k5 p4.at hx
          refine AllS.append (AllS.mono (fun v k h => ?_) (AllS.kp k5 p4.at hs)) (.cons ?_ .nil)
          · obtain ⟨t, rfl, ht⟩ := h
            exact ⟨t, rfl, by rw [upd_ne (ne_of ht hx5 (by intro z; cases z))]; exact ht⟩
          · obtain ⟨t, rfl, ht⟩ := ir
            exact ⟨t, rfl, by rw [upd_ne (ne_of ht hx5 (by intro z; cases z))]; exact ht⟩
        · rw [List.length_append, hl]
          rfl
      · rintro H4 ⟨p4, xs, cs, hx, hs, hl⟩
        exact hR _ _ ⟨D, xs, cs, rfl, p4.mono (by omega), hx, hs, by omega⟩
    rintro v H3 ⟨ca, cxs, cs, rfl, p3, hca, hcs, hcl⟩
    -- sums_so
    refine ⟨_, rfl, _, rfl, d, ca, cxs, cs, rfl, hca, hcs, by omega, fun H4 s4 => ⟨true, rfl, iteF (nextS ?_)⟩⟩
    dsimp only
    have p4 := p3.same s4
    -- total, plan
    refine ⟨_, rfl, ca, cxs, cs, rfl, s4 _ _ hca, AllS.same s4 hcs, by omega, fun H5 vt s5 ⟨ta, et, hta⟩ => ?_⟩
    subst et
    have p5 := p4.same s5
    refine ⟨_, rfl, d, c, _, rfl, p5, by omega, fun H6 pt pl k6 p6 hpt => ⟨_, _, rfl, ?_⟩⟩
    dsimp only
    have hta6 := tup_kp k6 p5.at hta
    -- root, others
    refine ⟨_, rfl, d, c, _, rfl, p6, by omega, fun H7 ra xs ks k7 p7 hra ak gk => ?_⟩
    refine ⟨_, rfl, d, c, _, rfl, p7, by omega, fun H8 oa ys ls k8 p8 hoa al gl => ⟨_, _, rfl, ?_⟩⟩
    dsimp only
    have hta8 := tup_kp k8 p7.at (tup_kp k7 p6.at hta6)
    have hpt8 := (hpt.kp k7 p6.at).kp k8 p7.at
    have hra8 := lst_kp k8 p7.at hra
    have ak8 := AllK.kp k8 p7.at ak
    -- made, rule
    refine ⟨_, rfl, pt, pl, rfl, hpt8, fun H9 pa s9 hpa => ?_⟩
    refine ⟨_, rfl, _, rfl, fun x dx nx ndx ne => ?_⟩
    have s10 : Same H9 (upd (upd H9 dx (.own x)) x (.ins T.c_Rule dx [])) := fun b o e => by
      rw [upd_ne (ne_of_none e nx), upd_ne (ne_of_none e ndx)]
      exact e
    have hx : (upd (upd H9 dx (.own x)) x (.ins T.c_Rule dx [])) x = some (.ins T.c_Rule dx []) := upd_same
    have s810 := s9.trans s10
    generalize upd (upd H9 dx (.own x)) x (.ins T.c_Rule dx []) = H10 at s10 s810 hx ⊢
    refine ⟨x, dx, ra, oa, xs, ys, ks, ls, rfl, hx, SqL.of (s810 _ _ hra8), SqL.of (s810 _ _ hoa), AllK.same s810 ak8, AllK.same s810 al, gk, gl, fun H11 A B k11 hrl eqA eqB => ⟨rfl, _, _, rfl, ?_⟩⟩
    dsimp only
    have s11 : Same H9 H11 := fun b o e => k11 _ _ (s10 _ _ e) (ne_of_none e nx)
    have s811 := s9.trans s11
    have i11 : In P w K T.c_Plan T.c_Rule H11 d ta pt ra oa pa x pl (sumL cs) xs ys ks ls A B := ⟨s811 _ _ hta8, hpt8.same s811, s811 _ _ hra8, s811 _ _ hoa, AllK.same s811 ak8, AllK.same s811 al, hpa.same s11, hrl⟩
    have p11 := p8.same s811
    refine ⟨3, rfl, by decide, by decide, for_range (lo := 0) (n := 3) (fun j σ H' => (∃ v10 v11 v12 v13 v14, σ = [some (.ref a), some (.ref d), some (.int (0 + (i : Int))), some (.ref ca), some (.ref ta), some (.ref pt), some (.ref ra), some (.ref oa), some (.ref pa), some (.ref x), v10, v11, v12, v13, v14, none]) ∧ Pen H' d c (200 * i + 110 + 18 * j) ∧ In P w K T.c_Plan T.c_Rule H' d ta pt ra oa pa x pl (sumL cs) xs ys ks ls A B) ⟨⟨_, _, _, _, _, rfl⟩, p11.mono (by omega), i11⟩ ?_ ?_⟩
    · rintro j σ H12 hj ⟨⟨v10, v11, v12, v13, v14, rfl⟩, p12, i12⟩
      dsimp only [gName]
      refine ⟨_, rfl, _, rfl, d, c, ta, _, sumL cs, rfl, p12, by omega, i12.t, sum_ok cs, fun H13 e u0 u1 u2 c0 c1 c2 k13 p13 he j0 j1 j2 => ?_⟩
      have i13 := i12.kp k13 p12.at
      refine ⟨_, rfl, rfl, _, _, rfl, ?_⟩
      dsimp only
      rw [dec_int]
      have er : decide ((0 : Int) + (j : Int) = 0) = decide (j = 0) := dec_of (by omega)
      rw [er]
      generalize hrt : decide (j = 0) = rt
      -- due
      refine asgS (fun v H14 => Same H13 H14 ∧ IsO H14 v (closedL pl (if rt = true then ks else ls) (sumL cs) c0 c1 c2 rt)) (fun R hR => ?_) ?_
      · refine ⟨_, rfl, _, rfl, _, rfl, ?_⟩
        cases rt with
        | true => exact iteT ⟨_, rfl, _, rfl, _, rfl, _, rfl, pt, ra, ta, e, pl, xs, ks, sumL cs, u0, u1, u2, c0, c1, c2, true, rfl, i13.pt, i13.r, i13.rk, i13.t, sum_ok cs, he, j0, j1, j2, fun H14 r s14 ir => hR _ _ ⟨s14, ir⟩⟩
        | false => exact iteF ⟨_, rfl, _, rfl, _, rfl, _, rfl, pt, oa, ta, e, pl, ys, ls, sumL cs, u0, u1, u2, c0, c1, c2, false, rfl, i13.pt, i13.o, i13.ok, i13.t, sum_ok cs, he, j0, j1, j2, fun H14 r s14 ir => hR _ _ ⟨s14, ir⟩⟩
      rintro dv H14 ⟨s14, idv⟩
      dsimp only [gName]
      have i14 := i13.same s14
      -- told
      refine asgS (fun v H15 => Same H14 H15 ∧ IsO H15 v (closedM pl A B (sumL cs) c0 c1 c2 rt)) (fun R hR => ?_) ?_
      · refine ⟨_, rfl, rfl, _, rfl, iteD (fun h1 => ?_) (fun h1 => ?_)⟩
        · have h2 : j = 1 := by
            have := V.int.inj h1
            omega
          have h3 : rt = false := by rw [← hrt, h2]; rfl
          subst h3
          exact ⟨_, rfl, _, rfl, _, rfl, _, rfl, pa, x, ta, e, pl, A, B, sumL cs, u0, u1, u2, c0, c1, c2, false, rfl, i14.p, i14.rl, i14.t, (sum_ok cs).2.2.2.1.1, (sum_ok cs).2.2.2.1.2, s14 _ _ he, j0.same s14, j1.same s14, j2.same s14, fun H15 r s15 ir => hR _ _ ⟨s15, ir⟩⟩
        · exact ⟨_, rfl, _, rfl, _, rfl, _, rfl, _, rfl, pa, x, ta, e, pl, A, B, sumL cs, u0, u1, u2, c0, c1, c2, rt, rfl, i14.p, i14.rl, i14.t, (sum_ok cs).2.2.2.1.1, (sum_ok cs).2.2.2.1.2, s14 _ _ he, j0.same s14, j1.same s14, j2.same s14, fun H15 r s15 ir => hR _ _ ⟨s15, ir⟩⟩
      rintro tv H15 ⟨s15, itv⟩
      dsimp only [gName]
      rw [closed_eq pl eqA eqB (worst_in cs)] at itv
      have idv15 := idv.same s15
      generalize closedL pl (if rt = true then ks else ls) (sumL cs) c0 c1 c2 rt = res at itv idv idv15
      have s1315 := s14.trans s15
      refine ⟨_, rfl, _, rfl, _, _, itv.dp, idv15.dp, casD_shaped _, casD_shaped _, _, rfl, ?_⟩
      rw [casD_eqv]
      refine iteF ⟨_, rfl, rfl, _, rfl, iteN (fun h1 => ?_) (fun h1 => ?_)⟩
      · rw [idv15.iff] at h1
        obtain ⟨cas, rfl⟩ := Option.ne_none_iff_exists'.mp h1
        obtain ⟨va, rfl, hva⟩ := itv
        refine ⟨_, rfl, sz_, fun r1 n1 => ⟨r1, 8, _, rfl, rfl, upd_same, by decide, by decide, by decide, fun r2 n2 => ?_⟩⟩
        have t1 := same_upd (o := .lst [V.bl true]) n1
        have t2 := same_upd (o := .lst (List.replicate (8 : Int).toNat [V.bl true]).flatten) n2
        refine ⟨sz_, fun r3 n3 => ?_⟩
        have t3 := same_upd (o := .lst [V.bl false]) n3
        refine ⟨r2, r3, _, _, rfl, rfl, t3 _ _ upd_same, upd_same, sz_, fun r4 n4 => ?_⟩
        have t4 := same_upd (o := .lst ((List.replicate (8 : Int).toNat [V.bl true]).flatten ++ [V.bl false])) n4
        have st := t1.trans (t2.trans (t3.trans t4))
        refine ⟨va, r4, _, rfl, st _ _ hva, upd_same, rfl, by show 9 ≤ 10; decide, fun H16 s16 => ⟨true, rfl, iteF (nextS ?_)⟩⟩
        have sl := s1315.trans (st.trans s16)
        exact ⟨⟨_, _, _, _, _, rfl⟩, (p13.same sl).mono (by omega), i13.same sl⟩
      · exact iteF (nextS ⟨⟨_, _, _, _, _, rfl⟩, (p13.same s1315).mono (by omega), i13.same s1315⟩)
    · rintro σ H12 ⟨⟨v10, v11, v12, v13, v14, rfl⟩, p12, i12⟩
      exact ⟨_, _, _, _, _, _, _, _, _, _, _, _, _, rfl, p12.mono (by omega)⟩
  · rintro σ H2 ⟨v2, v3, v4, v5, v6, v7, v8, v9, v10, v11, v12, v13, v14, rfl, p2⟩
    exact q _
end
end Toy
set_option Elab.async false
set_option linter.all false
set_option maxRecDepth 100000
set_option maxHeartbeats 4000000
namespace Toy
open PySem L2 Sh
theorem walk {l : PySem.W.OpenLaw} {q : Program} {loose : List Str} {XP : (Str → Option Value) → Heap → Prop} {YP : World → Heap → Prop} {d : DefRec} {K : Params → PySem.W.Frag} (hn : l.most = some 63) (hdf : d.params.defaults = [])
    (hY : ∀ (w : World) (h : Heap), YP w h → (K w.params).In h)
    (F : ∀ (w : World) (mg : Str → Option Value) (fa : Addr) (h : Heap), (K w.params).In h → h.Ns mainGlobals mg → mg d.name = some (.ref fa) →
      ∃ fd : FuncData, (∀ (s : Shared) (u : Value), BindsTo s fd ⟨[u], []⟩ [("_law_script", u)]) ∧ ∀ base : Heap, (K w.params).In base → base.Ns mainGlobals mg → FnOk l.prog w (K w.params) mg base CX0 5 fa fd ["_law_script"] (spLaw (K w.params))) :
    PySem.W.WalkO q loose XP YP l.row.toRowW d [] (fun f vs => PySem.call f vs) :=
  L2.walk_of (n := 63) (k := 5) (x := "_law_script") (CX := fun _ => CX0) (sp := fun w => spLaw (K w.params)) hn (by decide) hdf ⟨rfl, by decide, by decide⟩ hY F (fun _ _ a ns hl _ hS => ⟨a, ns, rfl, hS, hl, fun _ => rfl⟩) fun _ _ _ _ _ z => z
theorem all_of {l : PySem.W.OpenLaw} {w : World} {K : PySem.W.Frag} {mg : Str → Option Value} {fa : Addr} (hfa : mg "law" = some (.ref fa)) (T : Tx K mg) :
    ∃ fd : FuncData, (∀ (s : Shared) (v : Value), BindsTo s fd ⟨[v], []⟩ [("_law_script", v)]) ∧ ∀ base : Heap, K.In base → base.Ns mainGlobals mg → FnOk l.prog w K mg base CX0 5 fa fd ["_law_script"] (spLaw K) := by
  have e := hfa.symm.trans T.m_law
  cases e
  refine ⟨T.fd_law, fun s v => ?_, fun base _ _ => ok_law T⟩
  obtain ⟨oc, od, kV, doc, pm, an, cdv, ct, osl, h, _⟩ := T.F_law.ex
  rw [h]
  exact .of_eq rfl
end Toy
open PySem PySem.W PyProof.Rows
set_option maxRecDepth 100000 in
set_option maxHeartbeats 0 in
theorem PySem.Challenge.cw_treeshed_k61_sums_and_cells_holds : PySem.Challenge.rw_treeshed_k61_sums_and_cells.Holds := by
  w_on; o_law; k_head; (case hw => w_witness2)
  k_fill
  refine Toy.walk (l := PySem.Challenge.rw_treeshed_k61_sums_and_cells) rfl rfl (fun w h Y => PySem.W.kIn_of Y) ?F
  case F =>
    intro w mg fa h KX G hmg
    refine Toy.all_of hmg ?T
    refine' Toy.tx_mk KX G ?aC_Rule ?pg_Rule ?hd_Rule ?po_Rule ?sa_Rule ?mk_Rule ?kc_Rule ?na_Rule_root ?na_Rule_others ?aC_Plan ?pg_Plan ?hd_Plan ?po_Plan ?sa_Plan ?mk_Plan ?kc_Plan ?na_Plan_gone ?na_Plan_alike ?na_Plan_unlike ?na_Plan_tidy ?na_Plan_by_kind ?aG_WORST ?aG_RESULTS ?aG_GONE ?aG_ALIKE ?aG_UNLIKE ?aG_KEYS ?lG_KEYS ?lG_KEYS_11 ?lG_KEYS_10 ?lG_KEYS_9 ?lG_KEYS_8 ?lG_KEYS_7 ?lG_KEYS_6 ?lG_KEYS_5 ?lG_KEYS_4 ?lG_KEYS_3 ?lG_KEYS_2 ?lG_KEYS_1 ?lG_KEYS_0 ?lG_UNLIKE ?lG_ALIKE ?lG_GONE ?lG_RESULTS ?lG_WORST ?z_len ?z_min ?z_isinstance ?z_bool ?z_int ?z_list ?z_tuple ?z_enumerate ?z_sorted ?z_abs ?z_any ?z_all ?z_range ?z_str ?z_dict ?a_way_of ?l_way_of ?c_way_of ?k_way_of ?a_cells_met ?l_cells_met ?c_cells_met ?k_cells_met ?a_cell_merged ?l_cell_merged ?c_cell_merged ?k_cell_merged ?a_due_values ?l_due_values ?c_due_values ?k_due_values ?a_empty_sum ?l_empty_sum ?c_empty_sum ?k_empty_sum ?a_added ?l_added ?c_added ?k_added ?a_is_let_here ?l_is_let_here ?c_is_let_here ?k_is_let_here ?a_outcome_on ?l_outcome_on ?c_outcome_on ?k_outcome_on ?a_case_made ?l_case_made ?c_case_made ?k_case_made ?a_closed ?l_closed ?c_closed ?k_closed ?lD_closed ?a_is_kind ?l_is_kind ?c_is_kind ?k_is_kind ?a_kinds_of ?l_kinds_of ?c_kinds_of ?k_kinds_of ?a_Rule_init ?i_Rule_init ?l_Rule_init ?c_Rule_init ?k_Rule_init ?a_is_one_of ?l_is_one_of ?c_is_one_of ?k_is_one_of ?a_are_flags ?l_are_flags ?c_are_flags ?k_are_flags ?a_Plan_init ?i_Plan_init ?l_Plan_init ?c_Plan_init ?k_Plan_init ?lD_Plan_init ?a_l_pen_of ?l_l_pen_of ?c_l_pen_of ?k_l_pen_of ?a_l_draw ?l_l_draw ?c_l_draw ?k_l_draw ?a_l_pick ?l_l_pick ?c_l_pick ?k_l_pick ?a_l_plan ?l_l_plan ?c_l_plan ?k_l_plan ?a_l_made ?l_l_made ?c_l_made ?k_l_made ?a_l_case ?l_l_case ?c_l_case ?k_l_case ?a_l_sum_of ?l_l_sum_of ?c_l_sum_of ?k_l_sum_of ?a_l_kinds ?l_l_kinds ?c_l_kinds ?k_l_kinds ?a_l_some_cells ?l_l_some_cells ?c_l_some_cells ?k_l_some_cells ?a_l_value ?l_l_value ?c_l_value ?k_l_value ?a_l_merged_value ?l_l_merged_value ?c_l_merged_value ?k_l_merged_value ?a_l_due ?l_l_due ?c_l_due ?k_l_due ?a_l_outcome ?l_l_outcome ?c_l_outcome ?k_l_outcome ?a_l_closed ?l_l_closed ?c_l_closed ?k_l_closed ?a_l_kinds_right ?l_l_kinds_right ?c_l_kinds_right ?k_l_kinds_right ?a_l_sums_so ?l_l_sums_so ?c_l_sums_so ?k_l_sums_so ?a_law ?l_law ?c_law ?k_law
    (case aC_Rule => k_is)
    (case pg_Rule => k_is)
    (case hd_Rule => k_is)
    (case po_Rule => k_is)
    (case sa_Rule => k_is)
    (case mk_Rule => k_is)
    (case kc_Rule => k_is)
    (case na_Rule_root => k_is)
    (case na_Rule_others => k_is)
    (case aC_Plan => k_is)
    (case pg_Plan => k_is)
    (case hd_Plan => k_is)
    (case po_Plan => k_is)
    (case sa_Plan => k_is)
    (case mk_Plan => k_is)
    (case kc_Plan => k_is)
    (case na_Plan_gone => k_is)
    (case na_Plan_alike => k_is)
    (case na_Plan_unlike => k_is)
    (case na_Plan_tidy => k_is)
    (case na_Plan_by_kind => k_is)
    (case aG_WORST => k_is)
    (case aG_RESULTS => k_is)
    (case aG_GONE => k_is)
    (case aG_ALIKE => k_is)
    (case aG_UNLIKE => k_is)
    (case aG_KEYS => k_is)
    (case lG_KEYS => k_is)
    (case lG_KEYS_11 => k_is)
    (case lG_KEYS_10 => k_is)
    (case lG_KEYS_9 => k_is)
    (case lG_KEYS_8 => k_is)
    (case lG_KEYS_7 => k_is)
    (case lG_KEYS_6 => k_is)
    (case lG_KEYS_5 => k_is)
    (case lG_KEYS_4 => k_is)
    (case lG_KEYS_3 => k_is)
    (case lG_KEYS_2 => k_is)
    (case lG_KEYS_1 => k_is)
    (case lG_KEYS_0 => k_is)
    (case lG_UNLIKE => k_is)
    (case lG_ALIKE => k_is)
    (case lG_GONE => k_is)
    (case lG_RESULTS => k_is)
    (case lG_WORST => k_is)
    (case z_len => k_is)
    (case z_min => k_is)
    (case z_isinstance => k_is)
    (case z_bool => k_is)
    (case z_int => k_is)
    (case z_list => k_is)
    (case z_tuple => k_is)
    (case z_enumerate => k_is)
    (case z_sorted => k_is)
    (case z_abs => k_is)
    (case z_any => k_is)
    (case z_all => k_is)
    (case z_range => k_is)
    (case z_str => k_is)
    (case z_dict => k_is)
    (case a_way_of => k_is)
    (case l_way_of => k_is)
    (case c_way_of => k_is)
    (case k_way_of => k_is)
    (case a_cells_met => k_is)
    (case l_cells_met => k_is)
    (case c_cells_met => k_is)
    (case k_cells_met => k_is)
    (case a_cell_merged => k_is)
    (case l_cell_merged => k_is)
    (case c_cell_merged => k_is)
    (case k_cell_merged => k_is)
    (case a_due_values => k_is)
    (case l_due_values => k_is)
    (case c_due_values => k_is)
    (case k_due_values => k_is)
    (case a_empty_sum => k_is)
    (case l_empty_sum => k_is)
    (case c_empty_sum => k_is)
    (case k_empty_sum => k_is)
    (case a_added => k_is)
    (case l_added => k_is)
    (case c_added => k_is)
    (case k_added => k_is)
    (case a_is_let_here => k_is)
    (case l_is_let_here => k_is)
    (case c_is_let_here => k_is)
    (case k_is_let_here => k_is)
    (case a_outcome_on => k_is)
    (case l_outcome_on => k_is)
    (case c_outcome_on => k_is)
    (case k_outcome_on => k_is)
    (case a_case_made => k_is)
    (case l_case_made => k_is)
    (case c_case_made => k_is)
    (case k_case_made => k_is)
    (case a_closed => k_is)
    (case l_closed => k_is)
    (case c_closed => k_is)
    (case k_closed => k_is)
    (case lD_closed => k_is)
    (case a_is_kind => k_is)
    (case l_is_kind => k_is)
    (case c_is_kind => k_is)
    (case k_is_kind => k_is)
    (case a_kinds_of => k_is)
    (case l_kinds_of => k_is)
    (case c_kinds_of => k_is)
    (case k_kinds_of => k_is)
    (case a_Rule_init => k_is)
    (case i_Rule_init => k_is)
    (case l_Rule_init => k_is)
    (case c_Rule_init => k_is)
    (case k_Rule_init => k_is)
    (case a_is_one_of => k_is)
    (case l_is_one_of => k_is)
    (case c_is_one_of => k_is)
    (case k_is_one_of => k_is)
    (case a_are_flags => k_is)
    (case l_are_flags => k_is)
    (case c_are_flags => k_is)
    (case k_are_flags => k_is)
    (case a_Plan_init => k_is)
    (case i_Plan_init => k_is)
    (case l_Plan_init => k_is)
    (case c_Plan_init => k_is)
    (case k_Plan_init => k_is)
    (case lD_Plan_init => k_is)
    (case a_l_pen_of => k_is)
    (case l_l_pen_of => k_is)
    (case c_l_pen_of => k_is)
    (case k_l_pen_of => k_is)
    (case a_l_draw => k_is)
    (case l_l_draw => k_is)
    (case c_l_draw => k_is)
    (case k_l_draw => k_is)
    (case a_l_pick => k_is)
    (case l_l_pick => k_is)
    (case c_l_pick => k_is)
    (case k_l_pick => k_is)
    (case a_l_plan => k_is)
    (case l_l_plan => k_is)
    (case c_l_plan => k_is)
    (case k_l_plan => k_is)
    (case a_l_made => k_is)
    (case l_l_made => k_is)
    (case c_l_made => k_is)
    (case k_l_made => k_is)
    (case a_l_case => k_is)
    (case l_l_case => k_is)
    (case c_l_case => k_is)
    (case k_l_case => k_is)
    (case a_l_sum_of => k_is)
    (case l_l_sum_of => k_is)
    (case c_l_sum_of => k_is)
    (case k_l_sum_of => k_is)
    (case a_l_kinds => k_is)
    (case l_l_kinds => k_is)
    (case c_l_kinds => k_is)
    (case k_l_kinds => k_is)
    (case a_l_some_cells => k_is)
    (case l_l_some_cells => k_is)
    (case c_l_some_cells => k_is)
    (case k_l_some_cells => k_is)
    (case a_l_value => k_is)
    (case l_l_value => k_is)
    (case c_l_value => k_is)
    (case k_l_value => k_is)
    (case a_l_merged_value => k_is)
    (case l_l_merged_value => k_is)
    (case c_l_merged_value => k_is)
    (case k_l_merged_value => k_is)
    (case a_l_due => k_is)
    (case l_l_due => k_is)
    (case c_l_due => k_is)
    (case k_l_due => k_is)
    (case a_l_outcome => k_is)
    (case l_l_outcome => k_is)
    (case c_l_outcome => k_is)
    (case k_l_outcome => k_is)
    (case a_l_closed => k_is)
    (case l_l_closed => k_is)
    (case c_l_closed => k_is)
    (case k_l_closed => k_is)
    (case a_l_kinds_right => k_is)
    (case l_l_kinds_right => k_is)
    (case c_l_kinds_right => k_is)
    (case k_l_kinds_right => k_is)
    (case a_l_sums_so => k_is)
    (case l_l_sums_so => k_is)
    (case c_l_sums_so => k_is)
    (case k_l_sums_so => k_is)
    (case a_law => k_is)
    (case l_law => k_is)
    (case c_law => k_is)
    (case k_law => k_is)
#print axioms PySem.Challenge.cw_treeshed_k61_sums_and_cells_holds
