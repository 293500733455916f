import PyProof.Rows.All
import Wide.All
import OpenK.AllK
import Wide.FinOn
import HandS.ForMost
import HandS.Deep
import HandS.Style
import HandS.IsInst
import HandS.TupAny
import HandS.Codes
import KE.SortData
import HandS.Exc
import HandS.ExcInit
import HandS.Nested
import KE.KSuper
import KE.KExcSuper
import HandS.Defaults
import HandS.MakeKw
import HandS.ExcValue
import KE.KExcIs
import PyProof.ReprReads
import PyProof.StrHeap
import PyProof.ReprHeadsEmpty
import HandS.RaiseMore
import KE.KStateDown
import HandS.Head0
import HandS.Head1
import HandS.Head2
import HandS.HeadEnd
import HandS.HeadHook1
import HandS.HeadHook2
import HandS.TryMany
import KE.SortKeyHeap
import HandS.OwnEq
import HandS.More
import HandS.NamedTupSort
import PyProof.InstNe
import HandS.NoneIn
import PyProof.StrOps2
import PyProof.SliceStr2
import KE.KRevSl
import HandS.Conv
import KE.KDictList
import PyProof.StrWalks
import HandS.Lambda
import HandS.ClsMeth
import HandS.DictComp
import HandS.HeadWalk
import HandS.DeepEq
import HandS.Base
import HandS.Call
import HandS.HeadHook4
import HandS.EndTab
import PyProof.EqAt
import PyProof.EqKinds
import PyProof.TupleCall
import HandS.List
import HandS.Comp
import KE.GoesMore
import PyProof.EnumMake
import PyProof.TupleOfStr
import HandS.TupLen
import KE.KDictKeyed
import KE.KEqDict
import PyProof.NeData
import KE.KDictCopyH
import KE.KDictDisplayH
import HandS.HeadHook3
import KE.LtSeq
import KE.KIndexOf
import HandS.Strs
import HandS.Steps
import HandS.WordsExc
import HandS.SortInts
import HandS.ExcOwn
import KE.KEqNest
import HandS.Flow
import HandS.StrMore
import HandS.Replace
import HandS.Iter
import HandS.Zip
import HandS.Walk
import HandS.WideBits
import HandS.Flt
import HandS.Small
import PySem.Challenge.RW_treeshed_k17_rows_and_stories
set_option Elab.async false
set_option linter.all false
set_option maxRecDepth 100000
set_option maxHeartbeats 4000000
namespace Sh
open PySem PySem.Spec PyProof.Rows L2
/-! ### rules of my own over the hand layer -/
section
variable {X : Cx}
def rInDT (K : PySem.W.Frag) : R2 := fun x y H Q => ∃ d ds, Dp K H x d ∧ Dp K H y (.tuple ds) ∧ SeqAt.shaped d = true ∧ SeqAt.shaped (.tuple ds) = true ∧ Q (.bl (ds.any fun z => PyData.eqv z d)) H
def rNotInDT (K : PySem.W.Frag) : R2 := fun x y H Q => ∃ d ds, Dp K H x d ∧ Dp K H y (.tuple ds) ∧ SeqAt.shaped d = true ∧ SeqAt.shaped (.tuple ds) = true ∧ Q (.bl (!ds.any fun z => PyData.eqv z d)) H
theorem op_inDT (hu : X.A.units + 65 < cLine) : OpR X (compareOp .In) (rInDT X.K) := by
  intro pins s σ H x y v u Q I rx ry h
  obtain ⟨d, ds, hd, he, sd, se, q⟩ := h
  obtain ⟨as, r1⟩ := Dp.reads I d x v hd rx
  obtain ⟨bs, r2⟩ := Dp.reads I (.tuple ds) y u he ry
  exact SeqAt.in_tuple_reads r2 r1 (SeqAt.canLay_of_shaped se) (SeqAt.canLay_of_shaped sd) (room_in_shaped sd hu) ⟨.bl _, H, I, rfl, q⟩
theorem op_notInDT (hu : X.A.units + 65 < cLine) : OpR X (compareOp .NotIn) (rNotInDT X.K) := by
  intro pins s σ H x y v u Q I rx ry h
  obtain ⟨d, ds, hd, he, sd, se, q⟩ := h
  obtain ⟨as, r1⟩ := Dp.reads I d x v hd rx
  obtain ⟨bs, r2⟩ := Dp.reads I (.tuple ds) y u he ry
  exact SeqAt.notIn_tuple_reads r2 r1 (SeqAt.canLay_of_shaped se) (SeqAt.canLay_of_shaped sd) (room_in_shaped sd hu) ⟨.bl _, H, I, rfl, q⟩
/-! sorted of a list that reads as data -/
def sortPairs (xs : List V) (ds : List PyData) : List (V × PyData) := (xs.zip ds).mergeSort (PySem.W.dataLe false Prod.snd)
def rSortedDD (K : PySem.W.Frag) : List V → Hp → VK → Prop := fun vs H Q => ∃ (a : Addr) (xs : List V) (ds : List PyData), vs = [V.ref a] ∧ SqL K H a xs ∧ DpAll K H xs ds ∧ PySem.W.AllAlike ds ∧ PySem.W.Sortable ds ∧ (∀ d ∈ ds, d.depth ≤ 60) ∧
  ∀ p, H p = none → Q (.ref p) (upd H p (.lst ((sortPairs xs ds).map Prod.fst)))
theorem DpAll.len {K : PySem.W.Frag} {H : Hp} : ∀ {xs : List V} {ds : List PyData}, DpAll K H xs ds → xs.length = ds.length
  | _, _, .nil => rfl
  | _, _, .cons _ t => by
    show _ + 1 = _ + 1
    rw [DpAll.len t]
theorem zip_snd {α β : Type} : ∀ {xs : List α} {ds : List β}, xs.length = ds.length → (xs.zip ds).map Prod.snd = ds
  | [], [], _ => rfl
  | x :: xs, d :: ds, h => by
    show d :: (xs.zip ds).map Prod.snd = d :: ds
    rw [zip_snd (Nat.succ.inj h)]
theorem each_rel {K : PySem.W.Frag} {H : Hp} : ∀ {xs : List V} {ds : List PyData} {its : List Value}, Vals xs its → xs.length = ds.length → PySem.W.EachIs (fun (v : Value) (b : V × PyData) => RelV b.1 v) its (xs.zip ds)
  | [], [], _, .nil, _ => .nil
  | _ :: _, _ :: _, _, .cons r t, h => .cons r (each_rel (K := K) (H := H) t (Nat.succ.inj h))
theorem each_reads {pins : List (Addr × Obj)} {σ : L2.St} {H : Hp} {s : Shared} (I : L2.Inv X pins σ H s) : ∀ {xs : List V} {ds : List PyData} {its : List Value}, Vals xs its → DpAll X.K H xs ds → PySem.W.EachIs (fun (v : Value) (b : V × PyData) => ∃ as, Reads s.heap v b.2 as) its (xs.zip ds)
  | [], [], _, .nil, _ => .nil
  | _ :: _, _ :: _, _, .cons r t, .cons h hs => .cons (Dp.reads I _ _ _ h r) (each_reads I t hs)
theorem vals_of_each : ∀ {out : List Value} {bs : List (V × PyData)}, PySem.W.EachIs (fun (v : Value) (b : V × PyData) => RelV b.1 v) out bs → Vals (bs.map Prod.fst) out
  | _, _, .nil => .nil
  | _, _, .cons r t => .cons r (vals_of_each t)
theorem cr_sortedDD (hu : X.A.units + 65 < cLine) : CallR X (.builtin "sorted") (rSortedDD X.K) := by
  intro pins s σ H vs us Q I r h
  obtain ⟨a, xs, ds, rfl, hs, hd, hal, hk, hdp, q⟩ := h
  obtain ⟨its, rv, hl, hz⟩ := I.list hs
  rw [Vals.ref1 r]
  have el := DpAll.len hd
  have ez : (xs.zip ds).map Prod.snd = ds := zip_snd el
  have elz : (xs.zip ds).length = xs.length := by rw [List.length_zip, el, Nat.min_self]
  refine PySem.W.sorted_data (enc := Prod.snd) (bs := xs.zip ds) hl.isList (each_rel (K := X.K) (H := H) rv el) (each_reads I rv hd) (by rw [ez]; exact hal) (by rw [ez]; exact hk) (by rw [elz]; exact hz) (fun b hb => ?_) fun out ho eo => ?_
  · have hm : b.2 ∈ ds := by
      rw [← ez]
      exact List.mem_map.mpr ⟨b, hb, rfl⟩
    have := hdp _ hm
    omega
  · obtain ⟨ep, he'⟩ := PyProof.Rows.sortedAll_at s.heap its out.toArray
    have hlen : ((sortPairs xs ds).map Prod.fst).length ≤ sizeLine := by
      rw [List.length_map, sortPairs, List.length_mergeSort, elz]
      exact hz
    refine ⟨.ref _, upd H (s.heap.objs.size + 1) (.lst ((sortPairs xs ds).map Prod.fst)), I.laid (t' := s.toks) (fun _ _ => PyProof.Rows.sortedAll_old) (Nat.le_succ _) ⟨hlen, out, ep, vals_of_each eo, he'⟩, rfl, q _ (I.hok.fresh (Nat.le_succ _))⟩
end
/-! ### heaps -/
/-- all that was tracked is as it was, but for d -/
def Kp (d : Addr) (H H' : Hp) : Prop := ∀ b o, H b = some o → b ≠ d → H' b = some o
theorem Kp.refl (d : Addr) (H : Hp) : Kp d H H := fun _ _ h _ => h
theorem Kp.trans {d : Addr} {H H1 H2 : Hp} (a : Kp d H H1) (b : Kp d H1 H2) : Kp d H H2 := fun c o h n => b c o (a c o h n) n
theorem same_upd {H : Hp} {p : Addr} {o : HO} (h : H p = none) : Same H (upd H p o) := fun b x e => by
  rw [upd_ne (ne_of_none e h)]
  exact e
theorem Same.kp {d : Addr} {H H' : Hp} (s : Same H H') : Kp d H H' := fun b o h _ => s b o h
theorem kp_new {d : Addr} {H : Hp} {p : Addr} {o : HO} (h : H p = none) : Kp d H (upd H p o) := Same.kp (same_upd h)
theorem kp_put {d : Addr} {H : Hp} {o : HO} : Kp d H (upd H d o) := fun b x e n => by
  rw [upd_ne n]
  exact e
/-- a place that was free stays apart -/
theorem Kp.free {d : Addr} {H H' : Hp} (e : Kp d H H') {o : HO} (hd : H' d = some o) {l : Addr} (h : H' l = none) : H l = none := by
  cases q : H l with
  | none => rfl
  | some u =>
    by_cases hl : l = d
    · subst hl
      rw [hd] at h
      cases h
    · rw [e l u q hl] at h
      cases h
mutual
theorem dp_keep {K : PySem.W.Frag} {H H' : Hp} (k : ∀ a u, Rd H a u → (∃ xs, u = .lst xs ∨ u = .tup xs) → Rd H' a u) : ∀ (d : PyData) (v : V), Dp K H v d → Dp K H' v d
  | .none, _, h => by cases h; exact .non
  | .bool b, _, h => by cases h; exact .bl b
  | .int i, _, h => by cases h; exact .int i
  | .str x, _, h => by cases h; exact .str x
  | .list ds, _, h => by
    cases h with
    | lst h1 h2 =>
      refine .lst ?_ (dpAll_keep k ds _ h2)
      rcases h1 with h1 | h1
      · exact .inl (k _ _ h1 ⟨_, .inl rfl⟩)
      · exact .inr h1
  | .tuple ds, _, h => by
    cases h with
    | tup h1 h2 =>
      refine .tup ?_ (dpAll_keep k ds _ h2)
      rcases h1 with h1 | h1
      · exact .inl (k _ _ h1 ⟨_, .inr rfl⟩)
      · exact .inr h1
theorem dpAll_keep {K : PySem.W.Frag} {H H' : Hp} (k : ∀ a u, Rd H a u → (∃ xs, u = .lst xs ∨ u = .tup xs) → Rd H' a u) : ∀ (ds : List PyData) (vs : List V), DpAll K H vs ds → DpAll K H' vs ds
  | [], _, h => by cases h; exact .nil
  | d :: ds, _, h => by
    cases h with
    | cons h1 h2 => exact .cons (dp_keep k d _ h1) (dpAll_keep k ds _ h2)
end
/-! ### loops -/
theorem for_enum {K : PySem.W.Frag} {a : Addr} {xs : List V} {g : TG} {tb : TS} {D : Ends} {σ : L2.St} {H : Hp} (Pv : Nat → L2.St → Hp → Prop) (h0 : Pv 0 σ H) (hl : ∀ i σ H, i ≤ xs.length → Pv i σ H → SqL K H a xs)
    (hs : ∀ (i : Nat) (x : V) (σ : L2.St) (H : Hp) (T : Addr), xs[i]? = some x → H T = none → Pv i σ H → g (.ref T) σ (upd H T (.tup [.int (i : Nat), x])) fun σ2 H2 => tb { D with nx := Pv (i + 1), ct := Pv (i + 1), bk := D.nx } σ2 H2) (hd : ∀ σ H, Pv xs.length σ H → D.nx σ H) :
    ∃ W : Nat → Nat → L2.St → Hp → Prop, (∃ m, W 0 m σ H) ∧ ∀ i m σ H, W i m σ H →
      ((Ite K a).stop i H ∧ D.nx σ H) ∨ ((Ite K a).go i H ∧ ∃ N : L2.St → Hp → Prop, (∀ σ' H', N σ' H' → ∃ m', m' < m ∧ W (i + 1) m' σ' H') ∧ ∀ x H', (Ite K a).yld i H x H' → g x σ H' fun σ2 H2 => tb { D with nx := N, ct := N, bk := D.nx } σ2 H2) := by
  refine ⟨fun i m σ H => m = xs.length - i ∧ i ≤ xs.length ∧ Pv i σ H, ⟨xs.length, by simp, Nat.zero_le _, h0⟩, ?_⟩
  rintro i m σ H ⟨rfl, hi, p⟩
  have q := hl i σ H hi p
  by_cases hlt : i < xs.length
  · refine .inr ⟨⟨xs, xs[i], q, by simp [hlt]⟩, Pv (i + 1), fun σ' H' p' => ⟨xs.length - (i + 1), by omega, rfl, hlt, p'⟩, fun x H' y => ?_⟩
    obtain ⟨T, x, rfl, nT, rfl, y⟩ := y
    exact hs i x σ _ T (y xs q) nT p
  · have e : i = xs.length := by omega
    subst e
    exact .inl ⟨⟨xs, q, Nat.le_refl _⟩, hd σ H p⟩
/-- a cut: what is known of the value that is stored -/
theorem asgW {te : TE} {g : TG} {D : Ends} {σ : L2.St} {H : Hp} (W : VK) (h1 : ∀ R : VK, (∀ v H2, W v H2 → R v H2) → te σ H R) (h2 : ∀ v H2, W v H2 → g v σ H2 D.nx) : tAsg te g D σ H := h1 _ h2
theorem asgS {te : TE} {g : TG} {u : TS} {D : Ends} {σ : L2.St} {H : Hp} (W : VK) (h1 : ∀ R : VK, (∀ v H2, W v H2 → R v H2) → te σ H R) (h2 : ∀ v H2, W v H2 → g v σ H2 (u D)) : tSeq (tAsg te g) u D σ H := h1 _ h2
/-- a cut behind a statement -/
theorem seqW {t u : TS} {D : Ends} {σ : L2.St} {H : Hp} (W : L2.St → Hp → Prop) (h1 : ∀ N : L2.St → Hp → Prop, (∀ σ' H', W σ' H' → N σ' H') → t { D with nx := N } σ H) (h2 : ∀ σ' H', W σ' H' → u D σ' H') : tSeq t u D σ H := h1 _ h2
theorem nextS {D : Ends} {σ : L2.St} {H : Hp} (h : D.nx σ H) : tNext D σ H := h
theorem yes_ite {σ : L2.St} {H : Hp} {A B : Hp → Prop} (h : A H) : tYes σ H fun b H3 => if b = true then A H3 else B H3 := (iteT h : if true = true then A H else B H)
/-- a new object: the heap behind it by what is known of it -/
theorem newW {G : VK} {H : Hp} {o : HO} (h : ∀ p H1, H p = none → Same H H1 → H1 p = some o → G (.ref p) H1) : ∀ p, H p = none → G (.ref p) (upd H p o) := fun p hp => h p _ hp (same_upd hp) upd_same
theorem seqT {K : PySem.W.Frag} {H H' : Hp} {a : Addr} {xs : List V} (e : Same H H') (h : SqT K H a xs) : SqT K H' a xs := by
  rcases h with (h | ⟨o, h⟩) | h
  · exact .inl (.inl (e _ _ h))
  · exact .inl (.inr ⟨o, e _ _ h⟩)
  · exact .inr h
end Sh
set_option Elab.async false
set_option linter.all false
set_option maxRecDepth 100000
set_option maxHeartbeats 4000000
namespace Sh
open PySem PySem.Spec PySem.W PyProof.Rows L2 NdefX
/-! ### own exceptions whose __init__ says super().__init__(..) -/
/-- what the written part says of such an __init__ -/
structure SupF (P : Program) (K : Frag) (mg : Str → Option Value) (cc cda D : Addr) (params : Arguments) (scope : Scope) (sn : Str) : Prop where
  head : ∃ ar : Arg, (params.posonlyargs ++ params.args).head? = some ar ∧ ar.arg = sn
  code : ∃ ccl cdd vs ccs file tf, K.lookup cda = some ⟨ccl, cdd, .fields vs, ccs⟩ ∧ vs[2]? = some (.str file tf) ∧ ((P.main.file : Str) == file) = true
  cell : ∃ cl cld csl, K.lookup cc = some ⟨cl, cld, .cell (some (.ref D)), csl⟩
  clsD : ∃ cdD, clsIn K D = some cdD
  ks : scope.names.lookup ("super" : Str) = some .globalImplicit
  kc : scope.names.lookup ("__class__" : Str) = some .free
  ka : scope.names.lookup sn = some .local
  top : (P.main.scope.names.lookup ("super" : Str)).isSome = false
  mgs : mg "super" = none
  opq : nsIn K cStatics "thirdparty.any" = some none
theorem boot_super : bootBuiltins "super" = some (.type "super") := by decide +kernel
theorem call_mw {prog : Program} {w : World} {A : Around} {E : Value → Shared → Prop} {h : Heap} {g : Array GenState} {d : Drawn} {t : Nat} {os : OsState} {nm q : Str} {C N : Addr} {bs bm : List Value} {hdct : Bool} {sn : List Str} {sub : List Value} {ab : Bool} {col : Option Bool} {dd : Option Addr} {k0 k1 k2 k3 k5 : Option Value}
    {u e t0 : Addr} {rest : List Value} {Q : Value → Shared → Prop}
    (hC : h.get? C = some (excClassObj nm q C N bs bm hdct sn sub ab col dd k0 k1 k2 k3 k5 "ValueError.__new__")) (he : h.get? e = some (excObj C t0 none .none)) (hu : h.get? u = some (kxs_mw "ValueError.__init__" e)) (hz : rest.length ≤ sizeLine)
    (hq : ∀ h', (∀ b o, b ≠ e → h.get? b = some o → h'.get? b = some o) → h'.get? e = some (excObj C h.objs.size none .none) → Q .none ⟨h', g, d, t, os⟩) :
    wpAny (model prog w) A (call (.ref u) rest) Q E ⟨h, g, d, t, os⟩ := by
  have FB := F.excBase_ValueError
  refine wpAny_call (codeAny_of_tree ?_)
  show wpAny _ A.in1 (callAny (.ref u) ⟨rest, []⟩) _ _ _
  simp only [callAny]
  refine wpAny_bind (wpAny_load hu ?_)
  simp only [kxs_mw, show (Value.type "method-wrapper" == Value.type "method" || Value.type "method-wrapper" == Value.type "builtin_function_or_method" || Value.type "method-wrapper" == Value.type "method-wrapper") = true by decide, if_true]
  refine KFB.if_so (by decide) ?_
  refine wpAny_bind (check_bound_init FB.toExcCallFacts hC he rfl ?_)
  refine wpAny_bind (wpAny_pure (wpAny_pure ?_))
  refine ⟨plainId_quiet FB.init.plain _, codeAny_builtin FB.initEntry ?_⟩
  exact exc_init_tree (cls := .ref C) (t0 := t0) (dv := none) (c2 := .none) (c3 := .none) (b4 := .bool false) he hz fun h' k e' _ => hq h' k e'
/-- what is asked of the class of the exception that is made -/
structure SupC (K : Frag) (C D : Addr) : Prop where
  ox : OexC K C
  mro : mroIn K C (.ref D) = some true
  sup : ks_superIn K C D "__init__" = some (some (.builtin "ValueError.__init__"))
  sub : subIn K (.ref C) (.type "ValueError") = some true
section
variable {CX : CXT} {P : Program} {w : World} {K : Frag} {mg : Str → Option Value} {base : Heap} {k : Nat} {f cc cda D : Addr} {name qual : Str} {params : Arguments} {body rest : List Stmt} {scope : Scope} {dV kV doc pm oc ct : Value} {an od : Option Addr} {osl : Array (Option Value)} {N ps : List Str} {sp : Sp} {sn : Str}
  {p0 p1 p2 p3 p4 : Pos} {e : Expr} {es : List Expr}
theorem fn_super (lk : K.lookup f = some ⟨oc, od, .func (fnX name qual params body scope [("__class__", cc)] dV kV doc pm an (.ref cda) ct), osl⟩) (hcd : codeIn K (.ref cda) qual = true)
    (S : NScope N ps ["__class__"] scope) (hN0 : N[0]? = some sn) (SF : SupF P K mg cc cda D params scope sn)
    (hb : body = .Expr (.Call (.Attribute (.Call (.Name "super" p0) [] [] p1) "__init__" p2) (e :: es) [] p3) p4 :: rest)
    (len : ∀ vs H Q E, sp vs H Q E → vs.length = ps.length)
    (hbody : ∀ (A : Around) (outer : List Env) (s : Shared) (H : Hp) (vs : List V) (Q : VK) (E : XK), Room k (A.deeper (envF ⟨name, qual, params, body, scope, [("__class__", cc)], cda⟩ f s.heap.objs.size)) → sp vs H Q E →
      ∃ (a C : Addr) (ta : TA) (t : TS), (startF N vs [some (.ref D)])[0]? = some (some (.ref a)) ∧ H a = some (exo a C none) ∧ SupC K C D ∧
        PA (ncx CX P w K mg base N ⟨name, qual, params, body, scope, [("__class__", cc)], cda⟩ f A outer s H E) (e :: es) ta ∧ PSs (ncx CX P w K mg base N ⟨name, qual, params, body, scope, [("__class__", cc)], cda⟩ f A outer s H E) rest t ∧
        ta (startF N vs [some (.ref D)]) H (fun ws H1 => ws.length ≤ 1000 ∧ H1 a = some (exo a C none) ∧ t { nx := fun _ H' => Q .non H', rt := Q } (startF N vs [some (.ref D)]) H1))
    (hc : ∀ env : Env, ∃ pl : Sem Bool, eval (.Call (.Attribute (.Call (.Name "super" p0) [] [] p1) "__init__" p2) (e :: es) [] p3) env = (do
      let ov ← attributeBase (.Call (.Name "super" p0) [] [] p1) "__init__" env (eval (.Call (.Name "super" p0) [] [] p1) env)
      standAt p2.atName
      let (f, first) ← holding [ov] (getMethod ov "__init__" pl)
      callWith p3 f first (backTo p3 (starEach (e :: es) env)) []) := by exact fun env => ⟨_, rfl⟩)
    (hsw : ∀ env : Env, swapsWith (.Call (.Attribute (.Call (.Name "super" p0) [] [] p1) "__init__" p2) (e :: es) [] p3) none p4.line env = pure false := by intro _; rfl)
    (he : ∀ env, starEach (e :: es) env = (false, eval e env) :: starEach es env := by intro _; rfl) (hpl : ∀ env, (backTo p3 (starEach es env)).any (·.1) = false := by intro _; rfl) :
    FnOk P w K mg base CX (k + 1) f (fnX name qual params body scope [("__class__", cc)] dV kV doc pm an (.ref cda) ct) ps sp := by
  refine ⟨len, fun A outer s H args us vs Q E hr e0 hbi r hsp => ?_⟩
  have hl := len _ _ _ _ hsp
  have KX : K.In s.heap := e0.mod.kin.keeps fun b o z => (e0.bs b o z).1
  have lim : s.heap.NoLimit := e0.mod.nolimit.keeps fun b o z => (e0.bs b o z).1
  obtain ⟨a, C, ta, t, h0, ea, SC, hPA, hPS, hq⟩ := hbody A outer s H vs Q E (hr.deeper _) hsp
  obtain ⟨ar, hhead, har⟩ := SF.head
  obtain ⟨ccl, cdd, vsC, ccs, file, tf, hcode, hvs, hfile⟩ := SF.code
  obtain ⟨ccl', cld, csl, hcell⟩ := SF.cell
  obtain ⟨cdD, hD⟩ := SF.clsD
  have hCA : CellsAt [("__class__", cc)] ["__class__"] [some (V.ref D)] s.heap H := by
    have hn : H cc = none := (e0.bs cc _ (e0.mod.kin _ _ hcell)).2
    have hc : s.heap.IsCell cc (some (.ref D)) := ⟨_, KX _ _ hcell, rfl⟩
    refine ⟨rfl, fun y c z => ?_, fun x y c z1 z2 => ?_, fun i y z => ?_⟩
    · have : c = cc := by
        simp only [List.lookup] at z
        split at z
        · cases z; rfl
        · cases z
      subst this
      exact ⟨hn, _, hc⟩
    · simp only [List.lookup] at z1 z2
      split at z1
      · rename_i q1
        split at z2
        · rename_i q2
          rw [beq_iff_eq] at q1 q2
          rw [q1, q2]
        · cases z2
      · cases z1
    · match i, z with
      | 0, z =>
        cases z
        refine ⟨cc, rfl, fun v z => ?_⟩
        cases z
        exact ⟨_, rfl, hc⟩
      | i + 1, z => simp at z
  refine ks_codeAny_call_defAt hr.depth (KX _ _ lk) rfl lim (codeRec_of KX hcd) rfl hbi S.nocell (fun ⟨n, _⟩ hy => S.par n (List.of_mem_zip hy).1) (fun h₁ hns hk => ?_) S.co S.gen S.kind
  have I : Inv (ncx CX P w K mg base N ⟨name, qual, params, body, scope, [("__class__", cc)], cda⟩ f A outer s H E) [] (startF N vs [some (.ref D)]) H { s with heap := h₁, toks := s.toks + (ps.zip us).length } :=
    inv_startN (F := ⟨name, qual, params, body, scope, [("__class__", cc)], cda⟩) S hr.hd e0 hl r hCA hns hk
  have Ih : K.In h₁ := KX.keeps hk
  subst hb
  have hC' : ∃ cd, clsIn K C = some cd := by
    have := SC.sup
    unfold ks_superIn at this
    cases hc : clsIn K C with
    | none => rw [hc] at this; cases this
    | some cd => exact ⟨cd, rfl⟩
  obtain ⟨cd, hcC⟩ := hC'
  obtain ⟨t1, hoe⟩ := exo_at I.hok ea
  have IA : InstAt h₁ a { cls := .ref C, dict := none, data := .fields #[.ref t1, .none, .none, .none, .bool false, .none] } C none := ⟨hoe, rfl, rfl, trivial⟩
  obtain ⟨oD, hD1, hD2⟩ : ∃ oD, h₁.get? D = some oD ∧ oD.data = .cls cdD := by
    unfold clsIn at hD
    split at hD
    · rename_i c d cd' sl ho
      cases hD
      exact ⟨_, Ih _ _ ho, rfl⟩
    · cases hD
  obtain ⟨pl, hpe⟩ := hc (callEnv (fnX name qual params (.Expr (.Call (.Attribute (.Call (.Name "super" p0) [] [] p1) "__init__" p2) (e :: es) [] p3) p4 :: rest) scope [("__class__", cc)] dV kV doc pm an (.ref cda) ct) s.heap.objs.size f)
  refine ks_wpAt_execs_cons (ks_wpAt_Expr_any (ks_wpAt_MethodCall (pl := pl) ?_ hpe) I.quiet (hsw _))
  refine ks_wpAt_super_base (fd := fnX name qual params _ scope [("__class__", cc)] dV kV doc pm an (.ref cda) ct) (ar := ar) SF.ks SF.kc (by decide) rfl (Ih _ _ lk) rfl hhead rfl (Ih _ _ hcode) rfl hvs hfile SF.top ?_
  obtain ⟨mb, hb1, hb2⟩ := I.mod.blt
  refine ks_loadName_global S.kind SF.ks (Calls.loadGlobal_builtin (mg := mg) (mb := mb) (I.mod.glob.keeps I.bk) SF.mgs (hb1.keeps I.bk) ((hb2 "super" (by decide)).trans boot_super) ⟨rfl, ?_⟩)
  refine wpAny_loadName_free S.kind SF.kc rfl ⟨_, Ih _ _ hcell, rfl⟩ ?_
  obtain ⟨m, hm, hloc⟩ := I.loc
  obtain ⟨u, ru, hlk⟩ := hloc 0 sn (.ref a) hN0 h0 (.inl SF.ka)
  obtain rfl : u = Value.ref a := ru
  have hmv : m ar.arg = some (.ref a) := by
    rw [har]
    rcases hlk with ⟨_, z⟩ | ⟨z, _⟩
    · exact z
    · rcases z with z | z <;> (exfalso; have y := SF.ka; rw [show (ncx CX P w K mg base N _ f A outer s H E).env.kindOf sn = scope.names.lookup sn from rfl, y] at z; cases z)
  refine wpAny_loadName_local S.kind (har ▸ SF.ka) hm hmv ?_
  refine ks_wpAny_isType_cls hD1 hD2 ⟨rfl, ?_⟩
  refine ks_wpAny_call_super hD1 hD2 IA.at_ IA.cls (fun c e => by cases e) (looks_mroIn Ih SC.mro) (fun h2 hso k2 => ?_)
  have Ih2 : K.In h2 := Ih.keeps k2
  have IA2 : InstAt h2 a { cls := .ref C, dict := none, data := .fields #[.ref t1, .none, .none, .none, .bool false, .none] } C none := ⟨k2 _ _ hoe, rfl, rfl, trivial⟩
  have hsup := SC.sup
  unfold ks_superIn at hsup
  rw [hcC] at hsup
  refine kxs_getMethod kxs_ValueError hso (looks_opaque Ih2 SF.opq) (l₀ := cd.mro) (fun A Q E s k q => wpAny_bind ((looks_clsIn Ih2 hcC) A _ E s k (wpAny_pure q))) rfl Ih2 hsup (IA2.type.andThen (looks_subIn Ih2 SC.sub)) (ks_ne Ih2 IA2 hcC) (by decide) ?_
  have hlt : h₁.objs.size < h2.objs.size := Heap.lt_size hso
  have I2 : Inv (ncx CX P w K mg base N ⟨name, qual, params, _, scope, [("__class__", cc)], cda⟩ f A outer s H E) [] (startF N vs [some (.ref D)]) H ⟨h2.push (kxs_mw "ValueError.__init__" a), s.gens, s.drawn, s.toks + (ps.zip us).length + 1, s.os⟩ :=
    I.kept (h' := h2.push (kxs_mw "ValueError.__init__" a)) (t' := s.toks + (ps.zip us).length + 1) fun b o z => Heap.get?_push_of_some _ (k2 b o z)
  have I3 := I2.pins_of (pins' := [(h2.objs.size, kxs_mw "ValueError.__init__" a)]) (fun p hp => by
    rw [List.mem_singleton.mp hp]
    exact ⟨Heap.get?_push_at rfl rfl, I.hok.fresh (Nat.le_of_lt hlt), Nat.ne_of_gt (Nat.lt_trans I.lt hlt), I.nofs (Nat.le_of_lt hlt), fun v z => by cases z⟩)
  have hstar := he (envF ⟨name, qual, params, .Expr (.Call (.Attribute (.Call (.Name "super" p0) [] [] p1) "__init__" p2) (e :: es) [] p3) p4 :: rest, scope, [("__class__", cc)], cda⟩ f s.heap.objs.size)
  have hplain := hpl (envF ⟨name, qual, params, .Expr (.Call (.Attribute (.Call (.Name "super" p0) [] [] p1) "__init__" p2) (e :: es) [] p3) p4 :: rest, scope, [("__class__", cc)], cda⟩ f s.heap.objs.size)
  have key := hPA.run p3 [(h2.objs.size, kxs_mw "ValueError.__init__" a)] _ _ H _ I3 hq
  show wpAny _ _ (callWith p3 (.ref h2.objs.size) [] (backTo p3 (starEach (e :: es) (envF ⟨name, qual, params, .Expr (.Call (.Attribute (.Call (.Name "super" p0) [] [] p1) "__init__" p2) (e :: es) [] p3) p4 :: rest, scope, [("__class__", cc)], cda⟩ f s.heap.objs.size))) []) _ _ _
  change wpAny _ _ (spliced (backTo p3 (starEach (e :: es) (envF ⟨name, qual, params, .Expr (.Call (.Attribute (.Call (.Name "super" p0) [] [] p1) "__init__" p2) (e :: es) [] p3) p4 :: rest, scope, [("__class__", cc)], cda⟩ f s.heap.objs.size)))) _ _ _ at key
  rw [hstar] at key ⊢
  refine kxs_callWith (i := "ValueError.__init__") (x := a) (by show (false || (backTo p3 (starEach es _)).any (·.1)) = false; rw [hplain]; rfl) (Calls.evalArgs_plain ?_)
  refine wpAny_mono key (fun us' s1 hv => ?_) fun _ _ z => z
  obtain ⟨ws, H1, I1, r1, hz, ea1, q1⟩ := hv
  refine ⟨(I1.pin _ (List.mem_append_right _ (List.mem_singleton.mpr rfl))).1, ?_⟩
  have hpin := (I1.pin _ (List.mem_append_right _ (List.mem_singleton.mpr rfl))).1
  obtain ⟨nm, qn, NN, bs, bm, sn', sub, ab, col, dd, k0, k1, k2', k3, k5, hCl, hbm⟩ := SC.ox.cls
  obtain ⟨t2, hoe2⟩ := exo_at I1.hok ea1
  obtain ⟨hp, g1, d1, tk1, os1⟩ := s1
  refine call_mw (I1.kIn _ _ hCl) hoe2 hpin (by show us'.length ≤ sizeLine; rw [← Paired.length r1, sizeLine_eq]; omega) fun h' k' e' => ?_
  have J := I1.write (t' := tk1) (x := a) (e := a) (o := exo a C none) (by rw [ea1]; exact True.intro) (.inl rfl) k' ⟨_, e'⟩ (exo_ok e')
  have eu : upd H1 a (exo a C none) = H1 := by
    funext b
    by_cases hb : b = a
    · rw [hb, upd_same, ea1]
    · rw [upd_ne hb]
  rw [eu] at J
  have J0 := J.pins_of (pins' := []) (fun p hp => by cases hp)
  refine wpAt_of_wpAny (wpAny_mono (hPS.run [] _ _ H1 _ J0 q1) (fun fl s' hs => ?_) fun e s' hs => hs)
  have fin : ∀ {σ' : L2.St} {H' : Hp} {v : V} {u : Value}, Inv (ncx CX P w K mg base N ⟨name, qual, params, .Expr (.Call (.Attribute (.Call (.Name "super" p0) [] [] p1) "__init__" p2) (e :: es) [] p3) p4 :: rest, scope, [("__class__", cc)], cda⟩ f A outer s H E) [] σ' H' s' → L2.RelV v u → Q v H' → CE outer P w H s Q u s' :=
    fun {σ' H' v u} J rv q => ⟨v, H', J.os, J.bare, J.base, J.hok, rv, q⟩
  cases fl with
  | ret u =>
    obtain ⟨v, σ', H', J, rv, q⟩ := hs
    exact fin J rv q
  | next =>
    obtain ⟨σ', H', J, q⟩ := hs
    exact fin (v := V.non) (u := Value.none) J rfl q
  | brk =>
    obtain ⟨_, _, _, q⟩ := hs
    exact False.elim q
  | cont =>
    obtain ⟨_, _, _, q⟩ := hs
    exact False.elim q
end
end Sh
set_option Elab.async false
set_option linter.all false
set_option maxRecDepth 100000
set_option maxHeartbeats 4000000
namespace Sh
open PySem PySem.Spec PySem.W PyProof.Rows L2
/-! ### own exceptions as values -/
/-- the class's facts that a reader of its instances asks -/
structure ExR (K : Frag) (C : Addr) : Prop where
  ox : OexC K C
  ga : findIn K (.ref C) "__getattribute__" = some (some (.builtin "BaseException.__getattribute__"))
  gg : findIn K (.ref C) "__getattr__" = some none
  hd : hasDictIn K C = true
  cl : findIn K (.ref C) "__class__" = some (some (.builtin "object.__class__"))
  ob : mroIn K C (.type "object") = some true
theorem ExR.isCls {K : Frag} {C : Addr} (R : ExR K C) : (clsIn K C).isSome = true := by
  have h := R.hd
  unfold hasDictIn at h
  cases q : clsIn K C with
  | none => rw [q] at h; cases h
  | some cd => rfl
/-- an exception's object is an instance of its class -/
theorem exo_inst {P : Program} {w : World} {H : Hp} {h : Heap} {a C : Addr} {d : Option Addr} {fs : List (Str × V)} (hok : HOk P w H h) (ea : H a = some (exo a C d)) (ed : ∀ dx, d = some dx → ∃ fs, H dx = some (exd dx fs)) : ∃ ox od, InstAt h a ox C od ∧ (d = none → od = none) := by
  obtain ⟨t1, ho⟩ := exo_at hok ea
  cases d with
  | none => exact ⟨_, none, ⟨ho, rfl, rfl, trivial⟩, fun _ => rfl⟩
  | some dx =>
    obtain ⟨fs, e⟩ := ed dx rfl
    obtain ⟨mA, hns, _⟩ := exd_at hok e
    obtain ⟨od, h1, _⟩ := lookIn_ns hns
    exact ⟨_, some od, ⟨ho, rfl, rfl, h1⟩, fun z => by cases z⟩
section
variable {X : Cx}
/-- e.f of an exception that is held -/
def tXGet (K : Frag) (f : Str) (te : TE) : TE := fun σ H Q => te σ H fun x H1 => ∃ (a C dx : Addr) (fs : List (Str × V)) (v : V), x = .ref a ∧ ExR K C ∧ findIn K (.ref C) f = some none ∧ H1 a = some (exo a C (some dx)) ∧ H1 dx = some (exd dx fs) ∧ fs.lookup f = some v ∧ Q v H1
theorem pe_xget {e : Expr} {te : TE} {f : Str} {pos : Pos} (he : PE X e te) (hb : attributeBase e f X.env (eval e X.env) = eval e X.env := by rfl) : PE X (.Attribute e f pos) (tXGet X.K f te) := by
  refine ⟨fun pins s σ H Q I h => attr_of hb (thn (he.run pins s σ H _ I h) fun u s1 hh => ?_)⟩
  obtain ⟨x, H1, I1, rx, a, C, dx, fs, v, rfl, R, hno, ea, ed, hl, q⟩ := hh
  obtain rfl : u = Value.ref a := rx
  obtain ⟨t1, ho⟩ := exo_at I1.hok ea
  obtain ⟨mA, hns, hr⟩ := exd_at I1.hok ed
  obtain ⟨od, hod, hlk⟩ := lookIn_ns hns
  obtain ⟨u, hu, ru⟩ := RelO.some_of (v := v) (o := mA f) (by rw [← hl]; exact hr f)
  have J : InstAt s1.heap a _ C (some od) := ⟨ho, rfl, rfl, hod⟩
  exact HandSPX.exc_get I1.kIn J R.ga R.gg R.ox.exC (findObj_own R.hd hno rfl (by rw [hlk, hu])) (handed_of ru) ⟨v, H1, I1.tok _, ru, q⟩
/-- isinstance(e, C) -/
def rIsX (K : Frag) : List V → Hp → VK → Prop := fun xs H Q => ∃ (a C : Addr) (d : Option Addr) (c : V) (u : Value) (b : Bool), xs = [.ref a, c] ∧ ClsV c u ∧ ExR K C ∧ H a = some (exo a C d) ∧ (∀ dx, d = some dx → ∃ fs, H dx = some (exd dx fs)) ∧ kitOne K (.ref C) u = some b ∧ Q (.bl b) H
theorem call_isX (hn : specialIn X.K (.builtin "object.__class__") "__get__" = some (some (.builtin "getset_descriptor.__get__"))) (htk : takesIn X.K (.builtin "object.__class__") = some true) : CallR X (.builtin "isinstance") (rIsX X.K) := by
  intro pins s σ H xs us Q I r h
  obtain ⟨a, C, d, c, u, b, rfl, k, R, ea, ed, e, q⟩ := h
  obtain ⟨u1, u2, rfl, r1, r2⟩ := vals2 r
  obtain rfl := k.eq r2
  obtain rfl : u1 = Value.ref a := r1
  obtain ⟨ox, od, J, _⟩ := exo_inst (fs := []) I.hok ea ed
  exact kia_one (kitx_exc R.isCls R.ga R.gg R.ox.exC R.cl hn htk R.ob) I.kIn J e (fun z => nomatch z) fun tk => ⟨.bl b, H, I.tok tk, rfl, q⟩
end
/-! ### C(e, .., k = v, ..): a new exception, as a value -/
section
variable {prog : Program} {w : World} {M : Model} {A : Around} {E : Value → Shared → Prop} {R : Result → Shared → Prop} {hh : Heap} {gs : Array GenState} {dr : Drawn} {tk : Nat} {os : OsState}
variable {nm q : Str} {C N : Addr} {bs bm : List Value} {hdct : Bool} {sn : List Str} {sub : List Value} {ab : Bool} {col : Option Bool} {dd : Option Addr} {k0 k1 k2 k3 k5 : Option Value} {kw : List (Str × Value)} {rest : List Value}
theorem check_newK (hT : HandSPX.refsVE bm = true) {Q : Unit → Shared → Prop} (hC : hh.get? C = some (excClassObj nm q C N bs bm hdct sn sub ab col dd k0 k1 k2 k3 k5 "ValueError.__new__")) (hq : Q () ⟨hh, gs, dr, tk, os⟩) : wpAny M A (checkBuiltinCall "ValueError.__new__" ⟨.ref C :: rest, kw⟩) Q E ⟨hh, gs, dr, tk, os⟩ := by
  have FB := F.excBase_ValueError
  have hcont : (Value.ref C :: bm).contains (.type "ValueError") = true := by rw [List.contains_cons, HandSPX.refsVE_contains "ValueError" bm hT, FB.hasB, Bool.or_true]
  have hstar := FB.noStar
  simp only [checkBuiltinCall, FB.newKind, FB.newSplit, FB.newRow]
  repeat (first | refine wpAny_loadPart_at hC ?_ | (refine wpAny_isSubtype_exc hC ?_; rw [hcont]) | refine wpAny_staticBase_exc hC ?_ | refine wpAny_madeBy_exc hC ?_ | simp only [bne_self_eq_false, Bool.false_eq_true, if_false] | wp_step)
  exact hq
theorem new_K (hT : HandSPX.refsVE bm = true) (hC : hh.get? C = some (excClassObj nm q C N bs bm hdct sn sub ab col dd k0 k1 k2 k3 k5 "ValueError.__new__")) (hz : rest.length ≤ sizeLine)
    (hq : R (.ok (.ret (.ref (hh.objs.size + 1)))) ⟨(hh.push (kdv_tup rest)).push (HandSPX.excO C hh.objs.size), gs, dr, tk, os⟩) : codeAny (model prog w) A (.builtin "ValueError.__new__" ⟨.ref C :: rest, kw⟩) R ⟨hh, gs, dr, tk, os⟩ := by
  have FB := F.excBase_ValueError
  have hends := FB.ends
  have hcB : (Value.ref C :: bm).contains (.type "ValueError") = true := by rw [List.contains_cons, HandSPX.refsVE_contains "ValueError" bm hT, FB.hasB, Bool.or_true]
  have hcA : (Value.ref C :: bm).contains (.type "AttributeError") = false := by rw [List.contains_cons, HandSPX.refsVE_contains "AttributeError" bm hT, FB.noAttr]; rfl
  have hcN : (Value.ref C :: bm).contains (.type "NameError") = false := by rw [List.contains_cons, HandSPX.refsVE_contains "NameError" bm hT, FB.noName]; rfl
  refine codeAny_builtinAt FB.entry ?_
  unfold Builtin.«BaseException.__new__»
  refine PySem.wpAt_bind ?_
  show PySem.wpAt _ _ _ (stack >>= _) _ _ _
  refine PySem.wpAt_bind (PySem.wpAt_stack fun p below => PySem.wpAt_of_wpAny ?_)
  wp_walk
  refine PySem.wpAt_of_wpAny ?_
  rw [FB.owner]
  repeat (first | with_reducible refine wpAny_madeHere_exc FB.canon hC ?_ | with_reducible refine wpAny_loadPart_at hC ?_ | (with_reducible refine wpAny_isSubtype_exc hC ?_; first | rw [hcB] | rw [hcA] | rw [hcN]) | wp_step)
  show R _ _
  rw [Heap.size_push]
  exact hq
theorem type_callK (hT : HandSPX.refsVE bm = true) {fI : Addr} {Q : Fin → Shared → Prop} (hC : hh.get? C = some (excClassObj nm q C N bs bm hdct sn sub ab col dd k0 k1 k2 k3 k5 "ValueError.__new__"))
    (hi : Looks (model prog w) hh (typeLookup (.ref C) "__init__") (some (.ref fI))) (hb : ∀ self, Looks (model prog w) hh (bindSpecial (.ref fI) self) (.ref fI, [self])) (hz : rest.length ≤ sizeLine)
    (hq : codeAny (model prog w) A (.call (.ref fI) ⟨.ref (hh.objs.size + 1) :: rest, kw⟩)
      (fun r s' => match r with | .ok (.ret v) => v = .none ∧ Q (.done (.ret (.ref (hh.objs.size + 1)))) s' | .ok _ => False | .error e => E e s') ⟨(hh.push (kdv_tup rest)).push (HandSPX.excO C hh.objs.size), gs, dr, tk, os⟩) :
    wpAny (model prog w) A (Builtin.«type.__call__» ⟨.ref C :: rest, kw⟩) Q E ⟨hh, gs, dr, tk, os⟩ := by
  have FB := F.excBase_ValueError
  repeat (first | with_reducible refine wpAny_loadPart_at hC ?_ | with_reducible refine wpAny_madeBy_exc hC ?_ | wp_step)
  refine codeAny_call_builtin_code (Code.quiet_builtin _ FB.quiet) (check_newK hT hC ?_)
  refine new_K hT hC hz ?_
  show wpAny _ _ _ _ _ _
  have k : ∀ b o, hh.get? b = some o → ((hh.push (kdv_tup rest)).push (HandSPX.excO C hh.objs.size)).get? b = some o := fun b o e => Heap.get?_push_of_some _ (Heap.get?_push_of_some _ e)
  have hC₁ := k _ _ hC
  have hget : ((hh.push (kdv_tup rest)).push (HandSPX.excO C hh.objs.size)).get? (hh.objs.size + 1) = some (HandSPX.excO C hh.objs.size) := by heap_get
  have hcC : (Value.ref C :: bm).contains (.ref C) = true := by simp
  have i1 := hi.keeps k
  have b1 := (hb (.ref (hh.objs.size + 1))).keeps k
  unfold isInstance
  repeat (first | with_reducible refine wpAny_loadPart_at hget ?_ | (with_reducible refine wpAny_isSubtype_exc hC₁ ?_; rw [hcC]) | wp_step)
  show wpAny _ _ (typeLookup (.ref C) _) _ _ _
  refine i1.at (wpAny_holding (wpAny_bind (b1.at (wpAny_bind (wpAny_call (codeAny_mono hq fun r s' z => ?_))))))
  rcases r with e | (v | _ | _ | _) <;> first | exact z | exact z.elim | skip
  obtain ⟨rfl, z⟩ := z
  first | exact wpAny_pure (wpAny_pure z) | (wp_walk; exact z)
theorem check_tcK {Q : Unit → Shared → Prop} (hC : hh.get? C = some (excClassObj nm q C N bs bm hdct sn sub ab col dd k0 k1 k2 k3 k5 "ValueError.__new__")) (hq : Q () ⟨hh, gs, dr, tk, os⟩) : wpAny M A (checkBuiltinCall "type.__call__" ⟨.ref C :: rest, kw⟩) Q E ⟨hh, gs, dr, tk, os⟩ := by
  have f3 := tc_sub
  have hT : (⟨hh, gs, dr, tk, os⟩ : Shared).TypeIs (.ref C) "type" := ⟨_, hC, rfl⟩
  simp only [checkBuiltinCall, tc_kind, tc_split]
  repeat (any_goals (first | assumption | with_reducible refine wpAny_loadPart_at hC ?_ | with_reducible refine wpAny_onRaise ?_ | with_reducible refine wpAny_map ?_ | wp_step))
theorem call_K (hT : HandSPX.refsVE bm = true) {fI : Addr} (hC : hh.get? C = some (excClassObj nm q C N bs bm hdct sn sub ab col dd k0 k1 k2 k3 k5 "ValueError.__new__"))
    (hi : Looks (model prog w) hh (typeLookup (.ref C) "__init__") (some (.ref fI))) (hb : ∀ self, Looks (model prog w) hh (bindSpecial (.ref fI) self) (.ref fI, [self])) (hz : rest.length ≤ sizeLine)
    (hq : codeAny (model prog w) (A.under (.builtin "type.__call__" ⟨.ref C :: rest, kw⟩)) (.call (.ref fI) ⟨.ref (hh.objs.size + 1) :: rest, kw⟩) (InitBack (hh.objs.size + 1) R) ⟨(hh.push (kdv_tup rest)).push (HandSPX.excO C hh.objs.size), gs, dr, tk, os⟩) :
    codeAny (model prog w) A (.call (.ref C) ⟨rest, kw⟩) R ⟨hh, gs, dr, tk, os⟩ := by
  have f1 := tc_lookup
  have f2 := tc_bind (.ref C)
  have hTy : (⟨hh, gs, dr, tk, os⟩ : Shared).TypeIs (.ref C) "type" := ⟨_, hC, rfl⟩
  refine codeAny_of_tree ?_
  show wpAny _ _ (callAny (.ref C) _) _ _ _
  repeat (any_goals (first | assumption | with_reducible refine wpAny_loadPart_at hC ?_ | wp_step))
  refine ⟨rfl, ?_⟩
  refine codeAny_call_builtin_at (Code.quiet_builtin _ (by decide +kernel)) entry_typeCall (check_tcK hC (type_callK hT hC hi hb hz ?_))
  refine codeAny_mono hq fun r s' z => ?_
  rcases r with e | (v | _ | _ | _) <;> exact z
end
/-- what a maker of its instances asks -/
structure ExM (K : Frag) (C fI : Addr) : Prop where
  ox : OexC K C
  iC : findIn K (.ref C) "__init__" = some (some (.ref fI))
  tI : typeIn K (.ref fI) = some (.type "function")
section
variable {X : Cx} {CX : CXT} {k n : Nat} {fI C : Addr} {fd : FuncData} {ps ks : List Str} {sp : Sp} {x : Str} {p pos : Pos} {e : Expr} {es : List Expr} {kws : List Keyword} {t tk : TA} {g : List Value → List Value → List Value} {gV : List V → List V → List V}
theorem run_oex {pins : List (Addr × Obj)} {σ : L2.St} {H : Hp} {s : Shared} {Q : VK} {us ws : List Value} {vs zs : List V} (T : ExM X.K C fI) (F1 : FnOk X.prog X.w X.K X.mg X.base CX k fI fd ps sp) (hr : Room (k + 1) X.A) (hb : KBn X.K fd ps (n + 1) ks g gV)
    (hx : Passes CX X (fun _ _ _ => False)) (I : Inv X pins σ H s) (r : Vals vs us) (rz : Vals zs ws) (l1 : vs.length = n) (l2 : zs.length = ks.length) (hn : n ≤ 1000)
    (h : ∀ a, H a = none → sp (gV (.ref a :: vs) zs) (upd H a (exo a C none)) (fun v H2 => v = .non ∧ Q (.ref a) H2) (fun _ _ _ => False)) :
    wpAny (model X.prog X.w) X.A (call (.ref C) us (ks.zip ws)) (EP X pins σ Q) X.xe s := by
  obtain ⟨nm, q, N, bs, bm, sn, sub, ab, col, dd, k0, k1, k2, k3, k5, hC, hbm⟩ := T.ox.cls
  obtain ⟨hp, gs, dr, tk, os⟩ := s
  have hsz : hp.objs.size ≤ hp.objs.size + 1 := Nat.le_succ _
  have hq := h (hp.objs.size + 1) (I.hok.fresh hsz)
  have kk : ∀ b o, hp.get? b = some o → ((hp.push (kdv_tup us)).push (HandSPX.excO C hp.objs.size)).get? b = some o := fun b o e => Heap.get?_push_of_some _ (Heap.get?_push_of_some _ e)
  have hget : ((hp.push (kdv_tup us)).push (HandSPX.excO C hp.objs.size)).get? (hp.objs.size + 1) = some (HandSPX.excO C hp.objs.size) := by heap_get
  have I2 : Inv X pins σ (upd H (hp.objs.size + 1) (exo (hp.objs.size + 1) C none)) ⟨(hp.push (kdv_tup us)).push (HandSPX.excO C hp.objs.size), gs, dr, tk, os⟩ :=
    I.laid (t' := tk) (a := hp.objs.size + 1) (o := exo (hp.objs.size + 1) C none) (h' := (hp.push (kdv_tup us)).push (HandSPX.excO C hp.objs.size)) kk hsz (exo_ok hget)
  have r1 : Vals (V.ref (hp.objs.size + 1) :: vs) (Value.ref (hp.objs.size + 1) :: us) := .cons rfl r
  have r2 := hb.rel r1 rz
  have e1 : (Value.ref (hp.objs.size + 1) :: us).length = n + 1 := r1.length.symm.trans (congrArg Nat.succ l1)
  have e2 : ws.length = ks.length := rz.length.symm.trans l2
  have hus : us.length ≤ sizeLine := by
    rw [← Paired.length r, l1, sizeLine_eq]
    omega
  refine wpAny_call (call_K hbm (I.kIn _ _ hC) (looks_findIn I.kIn T.iC) (fun self => bind_fn I.kIn self T.tI) hus
    (codeAny_mono (F1.run _ X.stack _ _ ⟨Value.ref (hp.objs.size + 1) :: us, ks.zip ws⟩ (g (Value.ref (hp.objs.size + 1) :: us) ws) _ _ (fun _ _ _ => False) (hr.make C us (ks.zip ws)) (I2.env0.make C us (ks.zip ws)) (hb.to _ (Value.ref (hp.objs.size + 1) :: us) ws I2.kIn e1 e2) r2 hq) fun r s' hq' => ?_))
  cases r with
  | error er => exact hx pins σ _ _ er s' I2 hq'
  | ok fl =>
    cases fl with
    | ret u =>
      obtain ⟨v, H', I3, rv, ev, q3⟩ := I2.after hq'
      subst ev
      exact ⟨rv, ⟨V.ref (hp.objs.size + 1), H', I3, rfl, q3⟩⟩
    | next => exact False.elim hq'
    | brk => exact False.elim hq'
    | cont => exact False.elim hq'
/-- C(e, .., k = v, ..) -/
def tOex (C : Addr) (n m : Nat) (sp : Sp) (gV : List V → List V → List V) (t tk : TA) : TE := fun σ H Q => t σ H fun vs H1 => tk σ H1 fun zs H2 => vs.length = n ∧ zs.length = m ∧
  ∀ a, H2 a = none → sp (gV (.ref a :: vs) zs) (upd H2 a (exo a C none)) (fun v H3 => v = .non ∧ Q (.ref a) H3) (fun _ _ _ => False)
theorem pe_oexN (T : ExM X.K C fI) (F1 : FnOk X.prog X.w X.K X.mg X.base CX k fI fd ps sp) (hr : Room (k + 1) X.A) (hg : Gl X x) (hm : X.mg x = some (.ref C)) (hb : KBn X.K fd ps (n + 1) ks g gV) (hx : Passes CX X (fun _ _ _ => False))
    (ha : PA X (e :: es) t) (hkw : PK X kws tk) (hn : n ≤ 1000 := by decide) (hall : (backToKw pos (keywordEach kws X.env)).all (·.1.isSome) = true := by rfl) (hks : (backToKw pos (keywordEach kws X.env)).filterMap (·.1) = ks := by rfl)
    (hdb : (x == ("__debug__" : Str)) = false := by decide) (he : starEach (e :: es) X.env = (false, eval e X.env) :: starEach es X.env := by rfl)
    (hpl : ((backTo pos (starEach (e :: es) X.env)).any (·.1) || (backToKw pos (keywordEach kws X.env)).any (·.1.isNone)) = false := by rfl) :
    PE X (.Call (.Name x p) (e :: es) kws pos) (tOex C n ks.length sp gV t tk) := by
  refine ⟨fun pins s σ H Q I h => wpAny_Call_Name_kw (ld_glob I hg hm ?_ hdb)⟩
  refine callWith_KW (h₀ := X.base) I.ok.mod.kin T.ox.kC hall (thn (ha.run pos pins s σ H _ I h) fun us s1 ⟨vs, H1, I1, r, q⟩ => ?_) hpl he
  refine thn (hkw.run pos pins s1 σ H1 _ I1 q) fun ws s2 ⟨zs, H2, I2, rz, l1, l2, q2⟩ => ⟨I2.kIn, ?_⟩
  rw [hks]
  exact run_oex T F1 hr hb hx I2 r rz l1 l2 hn q2
theorem pe_oex0 (T : ExM X.K C fI) (F1 : FnOk X.prog X.w X.K X.mg X.base CX k fI fd ps sp) (hr : Room (k + 1) X.A) (hg : Gl X x) (hm : X.mg x = some (.ref C)) (hb : KBn X.K fd ps 1 ks g gV) (hx : Passes CX X (fun _ _ _ => False))
    (hkw : PK X kws tk) (hall : (backToKw pos (keywordEach kws X.env)).all (·.1.isSome) = true := by rfl) (hks : (backToKw pos (keywordEach kws X.env)).filterMap (·.1) = ks := by rfl)
    (hdb : (x == ("__debug__" : Str)) = false := by decide) (hpl : ((backTo pos (starEach [] X.env)).any (·.1) || (backToKw pos (keywordEach kws X.env)).any (·.1.isNone)) = false := by rfl) :
    PE X (.Call (.Name x p) [] kws pos) (tOex C 0 ks.length sp gV tNil tk) := by
  refine ⟨fun pins s σ H Q I h => wpAny_Call_Name_kw (ld_glob I hg hm ?_ hdb)⟩
  refine callWith_KW0 (h₀ := X.base) I.ok.mod.kin T.ox.kC hall ?_ hpl
  refine thn (hkw.run pos pins s σ H _ I h) fun ws s2 ⟨zs, H2, I2, rz, l1, l2, q2⟩ => ⟨I2.kIn, ?_⟩
  rw [hks]
  exact run_oex T F1 hr hb hx I2 .nil rz l1 l2 (by decide) q2
end
/-- C(), an own exception class without own __init__ -/
theorem pe_exn0 {X : Cx} {C : Addr} {x : Str} {p pos : Pos} (q : excIn X.K C [.type "ValueError", .type "Exception", .type "BaseException", .type "object"] "ValueError.__new__" = true) (gC : X.mg x = some (.ref C)) (kC : keepIn X.K (.ref C) = true) (hg : Gl X x) (hdb : (x == ("__debug__" : Str)) = false := by decide) :
    PE X (.Call (.Name x p) [] [] pos) (fun _ H Q => ∀ a, H a = none → Q (.ref a) (upd H a (exo a C none))) := by
  refine ⟨fun pins s σ H Q I h => wpAny_Call_Name_kw (ld_glob I hg gC ?_ hdb)⟩
  refine callWith_KW0 (h₀ := X.base) I.ok.mod.kin kC (by rfl) (wpAny_evalAll_nil ⟨I.kIn, ?_⟩) (by rfl)
  show wpAny _ _ (call (.ref C) []) _ _ _
  obtain ⟨bm, N, nm, qn, bs, hdct, sn, sub, ab, col, dd, k0, k1, k2, k3, k5, mN, hC, hN, hni, T⟩ := exc_obj I.kIn q
  refine wpAny_call_exc_subT F.excBase_ValueError T hC hN hni (fun h' a hm => ?_) (Nat.zero_le _)
  obtain ⟨t, ht, _, _⟩ := hm.there
  have hn : H a = none := I.hok.gone hm.new
  exact ⟨.ref a, upd H a (exo a C none), I.laidN hm.keeps hm.new hn (exo_ok ht), rfl, h a hn⟩
end Sh
set_option Elab.async false
set_option linter.all false
set_option maxRecDepth 100000
set_option maxHeartbeats 4000000
namespace Sh
open PySem PySem.Spec PySem.W PyProof.Rows L2 NdefX
/-! ### the facts of an own exception class, bundled -/
abbrev veTail : List Value := [.type "ValueError", .type "Exception", .type "BaseException", .type "object"]
/-- the class at C, right below the class at S, which is right below ValueError -/
structure XCls (K : Frag) (S C : Addr) : Prop where
  r : ExR K C
  sub : ∀ b : Value, mroIn K C b = some ((Value.ref C :: .ref S :: veTail).contains b)
  ty : typeIn K (.ref C) = some (.type "type")
  isC : (clsIn K C).isSome = true
theorem xcls_mk {K : Frag} {S C N : Addr} {nm q : Str} {bs : List Value} {sn : List Str} {sub : List Value} {ab : Bool} {col : Option Bool} {dd : Option Addr} {k0 k1 k2 k3 k5 : Option Value}
    (xL : K.lookup C = some (excClassObj nm q C N bs [.ref S, .type "ValueError", .type "Exception", .type "BaseException", .type "object"] true sn sub ab col dd k0 k1 k2 k3 k5 "ValueError.__new__"))
    (sa : findIn K (.ref C) "__setattr__" = some (some (.builtin "object.__setattr__"))) (ga : findIn K (.ref C) "__getattribute__" = some (some (.builtin "BaseException.__getattribute__"))) (gg : findIn K (.ref C) "__getattr__" = some none)
    (cl : findIn K (.ref C) "__class__" = some (some (.builtin "object.__class__"))) (kC : keepIn K (.ref C) = true) : XCls K S C := by
  have hcl : clsIn K C = some { name := nm, bases := bs, mro := .ref C :: [.ref S, .type "ValueError", .type "Exception", .type "BaseException", .type "object"], ns := N, qualname := q, hasDict := true, slotNames := sn, subclasses := sub, abstract := ab, collection := col, hasDel := false } := by
    unfold clsIn
    rw [xL]
  have hm : ∀ b : Value, mroIn K C b = some ((Value.ref C :: .ref S :: veTail).contains b) := fun b => by
    unfold mroIn
    rw [hcl]
    rfl
  have hty : typeIn K (.ref C) = some (.type "type") := by
    show (K.lookup C).map (·.cls) = _
    rw [xL]
    rfl
  have hin : ∀ T : String, veTail.contains (.type T) = true → (Value.ref C :: .ref S :: veTail).contains (.type T) = true := fun T z => by
    rw [List.contains_cons, List.contains_cons, z]
    simp
  refine ⟨⟨⟨⟨nm, q, N, bs, _, sn, sub, ab, col, dd, k0, k1, k2, k3, k5, xL, rfl⟩, sa, ?_, hty, kC⟩, ga, gg, ?_, cl, ?_⟩, hm, hty, by rw [hcl]; rfl⟩
  · show mroIn K C _ = _
    rw [hm, hin "BaseException" (by decide +kernel)]
  · unfold hasDictIn
    rw [hcl]
    rfl
  · rw [hm, hin "object" (by decide +kernel)]
/-- isinstance of an instance of C, asked of another such class -/
theorem XCls.own {K : Frag} {S C D : Addr} (x : XCls K S C) (y : XCls K S D) (h : D ≠ S) : kitOne K (.ref C) (.ref D) = some (decide (C = D)) := by
  unfold kitOne
  by_cases e : C = D
  · subst e
    rw [if_pos (by simp), decide_eq_true rfl]
  · rw [if_neg (by simp [e]), decide_eq_false e]
    unfold kitCls
    simp only [y.isC, y.ty, beq_self_eq_true, Bool.and_self, if_true]
    show mroIn K C (.ref D) = some false
    rw [x.sub]
    have e1 : (Value.ref D == Value.ref C) = false := by simp [Ne.symm e]
    have e2 : (Value.ref D == Value.ref S) = false := by simp [h]
    simp only [List.contains_cons, e1, e2, Bool.false_or]
    have e3 : ∀ T : String, (Value.ref D == Value.type T) = false := fun T => by simp
    simp [e3]
theorem XCls.base {K : Frag} {S C : Addr} (x : XCls K S C) (y : XCls K S C) (hS : (clsIn K S).isSome = true) (tS : typeIn K (.ref S) = some (.type "type")) : kitOne K (.ref C) (.ref S) = some true := by
  unfold kitOne
  split
  · rfl
  · unfold kitCls
    simp only [hS, tS, beq_self_eq_true, Bool.and_self, if_true]
    show mroIn K C (.ref S) = some true
    rw [x.sub]
    simp
theorem XCls.blt {K : Frag} {S C : Addr} (x : XCls K S C) (T : String) (hm : kitMeta T = true) : kitOne K (.ref C) (.type T) = some (veTail.contains (.type T)) := by
  unfold kitOne
  rw [if_neg (by simp)]
  unfold kitCls
  simp only [hm, if_true]
  show mroIn K C (.type T) = _
  rw [x.sub]
  simp [List.contains_cons]
/-- its __init__ -/
structure XInit (P : Program) (K : Frag) (mg : Str → Option Value) (C f : Addr) (qual : Str) (st : Stmt) (fd : FuncData) : Prop where
  m : ExM K C f
  sc : SupC K C C
  fn : ∃ oc od kV doc pm an ct osl cc cda, fd = fnX "__init__" qual (defArgs st) (defBody st) (defScope st) [("__class__", cc)] .none kV doc pm an (.ref cda) ct ∧ K.lookup f = some ⟨oc, od, .func fd, osl⟩ ∧ codeIn K (.ref cda) qual = true ∧ SupF P K mg cc cda C (defArgs st) (defScope st) "self"
theorem xinit_mk {P : Program} {K : Frag} {mg : Str → Option Value} {S C f cc cda : Addr} {qual file : Str} {st : Stmt} {oc kV doc pm ct ccl cl : Value} {od an cdd cld : Option Addr} {osl ccs csl : Array (Option Value)} {vs : Array Value} {tf : Tok} (x : XCls K S C)
    (iC : findIn K (.ref C) "__init__" = some (some (.ref f))) (tI : typeIn K (.ref f) = some (.type "function")) (lf : K.lookup f = some ⟨oc, od, .func (fnX "__init__" qual (defArgs st) (defBody st) (defScope st) [("__class__", cc)] .none kV doc pm an (.ref cda) ct), osl⟩)
    (c : codeIn K (.ref cda) qual = true) (lc : K.lookup cda = some ⟨ccl, cdd, .fields vs, ccs⟩) (hv : vs[2]? = some (.str file tf)) (hf : ((P.main.file : Str) == file) = true) (lx : K.lookup cc = some ⟨cl, cld, .cell (some (.ref C)), csl⟩)
    (sup : ks_superIn K C C "__init__" = some (some (.builtin "ValueError.__init__"))) (mgs : mg "super" = none) (opq : nsIn K cStatics "thirdparty.any" = some none) (top : (P.main.scope.names.lookup ("super" : Str)).isSome = false)
    (hh : ∃ ar : Arg, ((defArgs st).posonlyargs ++ (defArgs st).args).head? = some ar ∧ ar.arg = "self") (ks : (defScope st).names.lookup ("super" : Str) = some .globalImplicit) (kc : (defScope st).names.lookup ("__class__" : Str) = some .free) (ka : (defScope st).names.lookup ("self" : Str) = some .local) :
    XInit P K mg C f qual st (fnX "__init__" qual (defArgs st) (defBody st) (defScope st) [("__class__", cc)] .none kV doc pm an (.ref cda) ct) := by
  obtain ⟨cd, hcd⟩ := Option.isSome_iff_exists.mp x.isC
  refine ⟨⟨x.r.ox, iC, tI⟩, ⟨x.r.ox, ?_, sup, ?_⟩, oc, od, kV, doc, pm, an, ct, osl, cc, cda, rfl, lf, c, ⟨hh, ⟨ccl, cdd, vs, ccs, file, tf, lc, hv, hf⟩, ⟨cl, cld, csl, lx⟩, ⟨cd, hcd⟩, ks, kc, ka, top, mgs, opq⟩⟩
  · rw [x.sub]
    simp
  · show mroIn K C _ = _
    rw [x.sub]
    simp
/-- the arguments as they are bound: behind the positional ones the keywords', the first one last -/
def rotV (vs zs : List V) : List V := vs ++ (zs.drop 1 ++ zs.take 1)
def rotU (us ws : List Value) : List Value := us ++ (ws.drop 1 ++ ws.take 1)
theorem vals_take : ∀ {vs : List V} {us : List Value} (n : Nat), Vals vs us → Vals (vs.take n) (us.take n)
  | _, _, 0, _ => .nil
  | _, _, _ + 1, .nil => .nil
  | _, _, n + 1, .cons r t => .cons r (vals_take n t)
theorem vals_drop : ∀ {vs : List V} {us : List Value} (n : Nat), Vals vs us → Vals (vs.drop n) (us.drop n)
  | _, _, 0, h => h
  | _, _, _ + 1, .nil => .nil
  | _, _, n + 1, .cons _ t => vals_drop n t
theorem kbn_rot {K : Frag} {fd : FuncData} {ps ks : List Str} {n : Nat} (h : ∀ us ws : List Value, us.length = n → ws.length = ks.length → bindArgs fd ⟨us, ks.zip ws⟩ = pure (ps.zip (rotU us ws))) : KBn K fd ps n ks rotU rotV :=
  ⟨fun s us ws _ l1 l2 => .of_eq (h us ws l1 l2), fun r1 r2 => r1.append ((vals_drop 1 r2).append (vals_take 1 r2))⟩
theorem kbn_x {P : Program} {K : Frag} {mg : Str → Option Value} {C f : Addr} {qual : Str} {st : Stmt} {fd : FuncData} {ps ks : List Str} {n : Nat} (i : XInit P K mg C f qual st fd)
    (h : ∀ (cc : Addr) (kV doc pm : Value) (an : Option Addr) (cda : Addr) (ct : Value) (us ws : List Value), us.length = n → ws.length = ks.length → bindArgs (fnX "__init__" qual (defArgs st) (defBody st) (defScope st) [("__class__", cc)] .none kV doc pm an (.ref cda) ct) ⟨us, ks.zip ws⟩ = pure (ps.zip (rotU us ws))) : KBn K fd ps n ks rotU rotV := by
  obtain ⟨oc, od, kV, doc, pm, an, ct, osl, cc, cda, rfl, _⟩ := i.fn
  exact kbn_rot (h cc kV doc pm an cda ct)
/-- what is left of a new exception: its dict holds the fields -/
def spXI (C : Addr) (fs : List Str) : Sp := fun vs H Q _ => ∃ (a : Addr) (ws : List V), vs = .ref a :: ws ∧ ws.length = fs.length ∧ H a = some (exo a C none) ∧
  ∀ (H' : Hp) (d : Addr), Kp a H H' → H d = none → d ≠ a → H' a = some (exo a C (some d)) → H' d = some (exd d (fs.zip ws).reverse) → Q .non H'
/-- an exception that is held: of the class at C, with these fields -/
def ErrAt (H : Hp) (a C : Addr) (fs : List (Str × V)) : Prop := ∃ d, H a = some (exo a C (some d)) ∧ H d = some (exd d fs)
theorem ErrAt.same {H H' : Hp} {a C : Addr} {fs : List (Str × V)} (e : Same H H') (h : ErrAt H a C fs) : ErrAt H' a C fs := let ⟨d, h1, h2⟩ := h; ⟨d, e _ _ h1, e _ _ h2⟩
theorem mk_err {C : Addr} {n m : Nat} {fs : List Str} {t tk : TA} {σ : L2.St} {H : Hp} {Q : VK} {vs zs : List V}
    (h1 : ∀ R : List V → Hp → Prop, R vs H → t σ H R) (h2 : ∀ R : List V → Hp → Prop, R zs H → tk σ H R) (l1 : vs.length = n) (l2 : zs.length = m) (l3 : n + m = fs.length)
    (q : ∀ H' a, Same H H' → ErrAt H' a C (fs.zip (rotV vs zs)).reverse → Q (.ref a) H') : tOex C n m (spXI C fs) rotV t tk σ H Q := by
  refine h1 _ (h2 _ ⟨l1, l2, fun a ha => ⟨a, rotV vs zs, rfl, ?_, upd_same, fun H' d kp hd hne ea ed => ⟨rfl, q H' a (fun b o e => ?_) ⟨d, ea, ed⟩⟩⟩⟩)
  · unfold rotV
    rw [List.length_append, List.length_append, List.length_drop, List.length_take, l1, l2]
    omega
  · exact kp b o (by rw [upd_ne (ne_of_none e ha)]; exact e) (ne_of_none e ha)
end Sh
set_option Elab.async false
set_option linter.all false
set_option maxRecDepth 100000
set_option maxHeartbeats 4000000
namespace Sh
open PySem PySem.Spec PyProof.Rows
/-! ### repr of data, where no repr is under way -/
section
variable {prog : Program} {w : World} {A : Around} {E : Value → Shared → Prop} {s : Shared}
theorem repr_reads {v : Value} {d : PyData} {as : List Addr} {Q : Value → Shared → Prop} (r : Reads s.heap v d as) (hs : d.showable = true) (hsm : d.hasDict = true → sysModules ∉ as) (hz : d.shown.length ≤ sizeLine) (hg : A.guards = some []) (hu : A.units + 3 + d.depth < cLine)
    (hQ : ∀ h' u tk, (∀ b o, s.heap.get? b = some o → h'.get? b = some o) → Q (.str d.shown u) { s with heap := h', toks := tk }) : wpAny (model prog w) A (call (.builtin "repr") [v]) Q E s := by
  have here : ∀ {u : Nat} {x : Str}, x = d.shown → Q (.str x u) { s with toks := s.toks + 1 } := fun {u x} e => by
    rw [e]
    exact hQ s.heap u (s.toks + 1) fun _ _ z => z
  have keep : ∀ b o, s.heap.get? b = some o → s.heap.get? b = some o := fun _ _ z => z
  cases r with
  | none => exact P.repr_of_none (here (by simp only [PyData.shown]))
  | bool b => exact P.repr_of_bool (here (by simp only [PyData.shown]))
  | int i t => exact P.repr_of_int (by simpa [PyData.showable] using hs) (here (by simp only [PyData.shown]))
  | str x t => exact P.repr_of_str (here (by simp only [PyData.shown])) (by simpa only [PyData.shown] using hz)
  | @list a o vs n xs as h1 h2 h3 h4 =>
    have hz' : (listText (PyData.shownAll xs)).length ≤ sizeLine := by simpa only [PyData.shown] using hz
    obtain ⟨bs, hb, hk⟩ := ReprAllK.of_readsAll (prog := prog) (w := w) h4 (by simpa [PyData.showable] using hs) (fun hx hm => hsm (by simpa [PyData.hasDict] using hx) (List.mem_cons_of_mem _ hm)) (fun t ht => Nat.le_trans (listText_mem_le ht) hz')
    have hna : a ∉ bs := not_mem_of_deeper (.list h1 h2 h3 h4) (by simp only [PyData.depth]; omega) hb
    simp only [PyData.depth] at hu
    simp only [PyData.shown] at hQ
    refine call_repr_slot (by omega) ⟨o, h1, h2⟩ F.slot_list_repr.toG ?_
    obtain ⟨l⟩ := vs
    cases l with
    | nil =>
      have h4' : ReadsAll s.heap [] xs _ := h4
      cases h4'
      simp only [PyData.shownAll, listText_nil] at hQ
      exact call_list_repr_empty ⟨o, h1, h2⟩ h1 h3 ⟨_, _, rfl, hQ s.heap _ _ keep⟩
    | cons x l => exact call_list_reprK h1 h2 h3 hna (by simpa using hk.length_eq) (fun i y e => hk.item i y (by simpa using e)) hg (fun b _ => Clear.nil b) (by show A.units + 1 + _ < cLine; omega) keep (fun h' u tk hk' => ⟨_, _, rfl, hQ h' u tk hk'⟩) hz'
  | @tuple a o vs n xs as h1 h2 h3 h4 =>
    have hz' : (tupleText (PyData.shownAll xs)).length ≤ sizeLine := by simpa only [PyData.shown] using hz
    obtain ⟨bs, hb, hk⟩ := ReprAllK.of_readsAll (prog := prog) (w := w) h4 (by simpa [PyData.showable] using hs) (fun hx => hsm (by simpa [PyData.hasDict] using hx)) (fun t ht => Nat.le_trans (tupleText_mem_le ht) hz')
    have hna : a ∉ bs := not_mem_of_deeper (.tuple h1 h2 h3 h4) (by simp only [PyData.depth]; omega) hb
    simp only [PyData.depth] at hu
    simp only [PyData.shown] at hQ
    exact call_repr_slot (by omega) ⟨o, h1, h2⟩ F.slot_tuple_repr (call_tuple_reprK h1 h2 h3 hna hk hg (fun b _ => Clear.nil b) (by show A.units + 1 + _ < cLine; omega) keep (fun h' u tk hk' => ⟨_, _, rfl, hQ h' u tk hk'⟩) hz')
  | @dict a o es n kvs as bs h1 h2 h3 h4 h5 =>
    have hz' : (dictText (PyData.shownKv kvs)).length ≤ sizeLine := by simpa only [PyData.shown] using hz
    have hno : sysModules ∉ a :: as ++ bs := hsm (by simp only [PyData.hasDict])
    obtain ⟨hs1, hs2⟩ := PyData.showableKv_split kvs (by simpa [PyData.showable] using hs)
    obtain ⟨b1, hb1, k1⟩ := ReprAllK.of_readsAll (prog := prog) (w := w) h4 hs1 (fun _ hm => hno (List.mem_cons_of_mem _ (List.mem_append_left _ hm))) (fun t ht => let ⟨p, hp, hl⟩ := PyData.shownKv_key_le kvs t ht; Nat.le_trans hl (Nat.le_trans (dictText_mem_le hp) hz'))
    obtain ⟨b2, hb2, k2⟩ := ReprAllK.of_readsAll (prog := prog) (w := w) h5 hs2 (fun _ hm => hno (List.mem_cons_of_mem _ (List.mem_append_right _ hm))) (fun t ht => let ⟨p, hp, hl⟩ := PyData.shownKv_val_le kvs t ht; Nat.le_trans hl (Nat.le_trans (dictText_mem_le hp) hz'))
    have hb : ReadAtMost s.heap (PyData.depthKv kvs) (b1 ++ b2) := (hb1.mono (PyData.depthAll_keys_le kvs)).append (hb2.mono (PyData.depthAll_vals_le kvs))
    have hna : a ∉ b1 ++ b2 := not_mem_of_deeper (.dict h1 h2 h3 h4 h5) (by simp only [PyData.depth]; omega) hb
    have hsys : (a == sysModules) = false := beq_eq_false_iff_ne.mpr fun e => hno (e ▸ List.mem_cons_self ..)
    simp only [PyData.depth] at hu
    simp only [PyData.shown, PyData.shownKv_eq] at hQ
    exact call_repr_slot (by omega) ⟨o, h1, h2⟩ F.slot_dict_repr (call_dict_reprK h1 h2 h3 hsys hna (ReprEntriesK.of_two es.toList _ _
      (k1.more_le (fun b hb => List.mem_append_left _ hb) (PyData.depthAll_keys_le kvs)) (k2.more_le (fun b hb => List.mem_append_right _ hb) (PyData.depthAll_vals_le kvs)))
      hg (fun b _ => Clear.nil b) (by show A.units + 1 + _ < cLine; omega) keep (fun h' u tk hk' => ⟨_, _, rfl, hQ h' u tk hk'⟩) (by rw [← PyData.shownKv_eq]; exact hz'))
end
/-! ### the values that are told -/
open L2 in
/-- a value of any kind -/
inductive Thing (H : Hp) : V → PyData → Prop
  | non : Thing H .non .none
  | bl (b : Bool) : Thing H (.bl b) (.bool b)
  | int (i : Int) (h : i.natAbs < 10 ^ 31) : Thing H (.int i) (.int i)
  | str (x : Str) (h : (reprText x).length ≤ 40) : Thing H (.str x) (.str x)
  | tupS {a : Addr} (x : Str) (h : (reprText x).length ≤ 40) : H a = some (.tup [.str x]) → Thing H (.ref a) (.tuple [.str x])
  | tupN {a b : Addr} (i : Int) (h : i.natAbs < 10 ^ 31) : H a = some (.tup [.int 1, .ref b]) → H b = some (.tup [.int i]) → Thing H (.ref a) (.tuple [.int 1, .tuple [.int i]])
  | lst0 {a : Addr} : H a = some (.lst []) → (a == sysModules) = false → Thing H (.ref a) (.list [])
  | lst1 {a : Addr} (i : Int) (h : i.natAbs < 10 ^ 31) : H a = some (.lst [.int i]) → (a == sysModules) = false → Thing H (.ref a) (.list [.int i])
  | dic0 {a : Addr} : H a = some (.dK []) → Thing H (.ref a) (.dict [])
  | dic1 {a : Addr} (i : Int) (h : i.natAbs < 10 ^ 31) : H a = some (.dK [(Sum.inr "a", .int i)]) → Thing H (.ref a) (.dict [(.str "a", .int i)])
open L2 in
theorem Thing.same {H H' : Hp} {v : V} {d : PyData} (s : Same H H') (h : Thing H v d) : Thing H' v d := by
  cases h with
  | non => exact .non
  | bl b => exact .bl b
  | int i h => exact .int i h
  | str x h => exact .str x h
  | tupS x h e => exact .tupS x h (s _ _ e)
  | tupN i h e1 e2 => exact .tupN i h (s _ _ e1) (s _ _ e2)
  | lst0 e z => exact .lst0 (s _ _ e) z
  | lst1 i h e z => exact .lst1 i h (s _ _ e) z
  | dic0 e => exact .dic0 (s _ _ e)
  | dic1 i h e => exact .dic1 i h (s _ _ e)
theorem int_show {i : Int} (h : i.natAbs < 10 ^ 31) : (Str.ofString (toString i)).length ≤ 32 ∧ i.natAbs.log2 < 1920 := by
  have e := int_text_length_le10 (k := 31) (by decide) h
  refine ⟨by rw [PySem.ofString_length]; omega, ?_⟩
  by_cases h0 : i.natAbs = 0
  · rw [h0]
    decide
  · refine (Nat.log2_lt h0).mpr (Nat.lt_of_lt_of_le h (Nat.le_trans (by decide : 10 ^ 31 ≤ 2 ^ 104) (Nat.pow_le_pow_right (by decide) (by decide))))
theorem tupText_le (ts : List Str) : (tupleText ts).length ≤ 4 + piled ts := by
  unfold tupleText
  rw [strLen_append, strLen_append]
  have e1 : (("(" : Str)).length = 1 := by decide +kernel
  have e2 : ∀ b : Bool, (((if b = true then ",)" else ")" : String) : Str)).length ≤ 2 := by decide +kernel
  have e3 := e2 (ts.length == 1)
  by_cases h : ts = []
  · subst h
    have e4 : (Str.join ", " []).length = 0 := by decide +kernel
    omega
  · have e4 := join_length_add ts h
    omega
theorem dicText_le (ts : List Str) : (dictText ts).length ≤ 4 + piled ts := by
  unfold dictText
  rw [strLen_append, strLen_append]
  have e1 : (("{" : Str)).length = 1 := by decide +kernel
  have e2 : (("}" : Str)).length = 1 := by decide +kernel
  by_cases h : ts = []
  · subst h
    have e4 : (Str.join ", " []).length = 0 := by decide +kernel
    omega
  · have e4 := join_length_add ts h
    omega
open L2 in
theorem Thing.show {H : Hp} {v : V} {d : PyData} (h : Thing H v d) : d.showable = true ∧ d.shown.length ≤ 200 ∧ d.depth ≤ 2 := by
  cases h with
  | non => exact ⟨by simp [PyData.showable], by simp only [PyData.shown]; decide +kernel, by simp [PyData.depth]⟩
  | bl b => exact ⟨by simp [PyData.showable], by simp only [PyData.shown]; cases b <;> decide +kernel, by simp [PyData.depth]⟩
  | int i h => 
    have := int_show h
    exact ⟨by simp [PyData.showable, this.2], by simp only [PyData.shown]; exact Nat.le_trans this.1 (by decide), by simp [PyData.depth]⟩
  | str x h => exact ⟨by simp [PyData.showable], by simp only [PyData.shown]; omega, by simp [PyData.depth]⟩
  | tupS x h e =>
    refine ⟨by simp [PyData.showable, PyData.showableAll], ?_, by simp [PyData.depth, PyData.depthAll]⟩
    simp only [PyData.shown, PyData.shownAll]
    have := tupText_le [reprText x]
    simp only [piled_cons, piled_nil] at this
    omega
  | tupN i h e1 e2 =>
    have q := int_show h
    refine ⟨by simp [PyData.showable, PyData.showableAll, q.2]; decide, ?_, by simp [PyData.depth, PyData.depthAll]⟩
    simp only [PyData.shown, PyData.shownAll]
    have t1 := tupText_le [Str.ofString (toString i)]
    have t2 := tupText_le [Str.ofString (toString (1 : Int)), tupleText [Str.ofString (toString i)]]
    have t3 : (Str.ofString (toString (1 : Int))).length ≤ 2 := by decide +kernel
    simp only [piled_cons, piled_nil] at t1 t2
    omega
  | lst0 e z => exact ⟨by simp [PyData.showable, PyData.showableAll], by simp only [PyData.shown, PyData.shownAll]; decide +kernel, by simp [PyData.depth, PyData.depthAll]⟩
  | lst1 i h e z =>
    have q := int_show h
    refine ⟨by simp [PyData.showable, PyData.showableAll, q.2], ?_, by simp [PyData.depth, PyData.depthAll]⟩
    simp only [PyData.shown, PyData.shownAll]
    have e1 : listText [Str.ofString (toString i)] = ("[" : Str) ++ ("" : String) ++ Str.ofString (toString i) ++ "]" := rfl
    rw [e1, strLen_append, strLen_append, strLen_append]
    have e2 : (("[" : Str)).length = 1 := by decide +kernel
    have e3 : (("]" : Str)).length = 1 := by decide +kernel
    have e4 : ((("" : String) : Str)).length = 0 := by decide +kernel
    omega
  | dic0 e => exact ⟨by simp [PyData.showable, PyData.showableKv], by simp only [PyData.shown, PyData.shownKv]; decide +kernel, by simp [PyData.depth, PyData.depthKv]⟩
  | dic1 i h e =>
    have q := int_show h
    refine ⟨by simp [PyData.showable, PyData.showableKv, q.2], ?_, by simp [PyData.depth, PyData.depthKv]⟩
    simp only [PyData.shown, PyData.shownKv]
    have t1 := dicText_le [reprText "a" ++ ": " ++ Str.ofString (toString i)]
    simp only [piled_cons, piled_nil] at t1
    rw [strLen_append, strLen_append] at t1
    have t2 : (reprText "a").length ≤ 10 := by decide +kernel
    have t3 : ((": " : Str)).length = 2 := by decide +kernel
    omega
open L2
section
variable {X : Cx} {pins : List (Addr × Obj)} {σ : L2.St} {H : Hp} {s : Shared}
theorem Thing.reads {v : V} {d : PyData} {u : Value} (I : Inv X pins σ H s) (h : Thing H v d) (r : RelV v u) : ∃ as, Reads s.heap u d as ∧ sysModules ∉ as := by
  have nosys : ∀ {a : Addr}, (a == sysModules) = false → sysModules ∉ [a] := fun z m => by
    rw [List.mem_singleton.mp m] at z
    simp at z
  cases h with
  | non => cases r; exact ⟨_, .none, List.not_mem_nil⟩
  | bl b => cases r; exact ⟨_, .bool b, List.not_mem_nil⟩
  | int i h => obtain ⟨t, rfl⟩ := r; exact ⟨_, .int i t, List.not_mem_nil⟩
  | str x h => obtain ⟨t, rfl⟩ := r; exact ⟨_, .str x t, List.not_mem_nil⟩
  | @tupS a x h e =>
    obtain rfl : u = Value.ref a := r
    obtain ⟨its, rv, ⟨o, h1, h2, n, h3⟩, _⟩ := I.tuple (SqT.of (K := X.K) e)
    cases rv with
    | cons r1 rn =>
      cases rn
      obtain ⟨t, rfl⟩ := r1
      exact ⟨_, .tuple h1 h2 h3 (.cons (.str x t) .nil), List.not_mem_nil⟩
  | @tupN a b i h e1 e2 =>
    obtain rfl : u = Value.ref a := r
    obtain ⟨its, rv, ⟨o, h1, h2, n, h3⟩, _⟩ := I.tuple (SqT.of (K := X.K) e1)
    obtain ⟨its2, rv2, ⟨o2, g1, g2, n2, g3⟩, _⟩ := I.tuple (SqT.of (K := X.K) e2)
    cases rv2 with
    | cons r2 rn2 =>
      cases rn2
      obtain ⟨t2, rfl⟩ := r2
      cases rv with
      | cons r1 rn =>
        obtain ⟨t1, rfl⟩ := r1
        cases rn with
        | @cons _ u3 _ _ r3 rn3 =>
          obtain rfl : u3 = Value.ref b := r3
          cases rn3
          exact ⟨_, .tuple h1 h2 h3 (.cons (.int 1 t1) (.cons (.tuple g1 g2 g3 (.cons (.int i t2) .nil)) .nil)), List.not_mem_nil⟩
  | @lst0 a e z =>
    obtain rfl : u = Value.ref a := r
    obtain ⟨its, rv, ⟨o, n, h1, h2, _, h3⟩, _⟩ := I.list (SqL.of (K := X.K) e)
    cases rv
    exact ⟨_, .list h1 h2 h3 .nil, nosys z⟩
  | @lst1 a i h e z =>
    obtain rfl : u = Value.ref a := r
    obtain ⟨its, rv, ⟨o, n, h1, h2, _, h3⟩, _⟩ := I.list (SqL.of (K := X.K) e)
    cases rv with
    | cons r1 rn =>
      cases rn
      obtain ⟨t, rfl⟩ := r1
      exact ⟨_, .list h1 h2 h3 (.cons (.int i t) .nil), nosys z⟩
  | @dic0 a e =>
    obtain rfl : u = Value.ref a := r
    obtain ⟨_, z, vs, kv, o, es, ep, h1, h2, h3, _, hp, _⟩ := (show ObjOk X.prog X.w H s.heap a (.dK []) from I.hok a _ e)
    cases kv
    cases hes : es.toList with
    | cons e1 r1 => rw [hes] at hp; cases hp
    | nil => exact ⟨_, .dict (kvs := []) h1 h2.1 h3 (by rw [hes]; exact .nil) (by rw [hes]; exact .nil), nosys z⟩
  | @dic1 a i h e =>
    obtain rfl : u = Value.ref a := r
    obtain ⟨_, z, vs, kv, o, es, ep, h1, h2, h3, _, hp, _⟩ := (show ObjOk X.prog X.w H s.heap a (.dK [(Sum.inr "a", .int i)]) from I.hok a _ e)
    cases kv with
    | @cons _ q _ _ r1 rn =>
      cases rn
      obtain ⟨qk, qv⟩ := q
      obtain ⟨rfl, t, rfl⟩ := r1
      cases hes : es.toList with
      | nil => rw [hes] at hp; cases hp
      | cons e1 rest =>
        rw [hes] at hp
        cases hp with
        | cons k1 v1 hr =>
          cases hr
          rcases keyIs_shape (show keyIs (Sum.inr ("a" : Str)) e1.key = true from k1) with ⟨j, t', e2, _⟩ | ⟨y, t', e2, e3⟩
          · cases e2
          · cases e2
            exact ⟨_, .dict (kvs := [(.str "a", .int i)]) h1 h2.1 h3 (by rw [hes]; show ReadsAll _ [e1.key] _ _; rw [e3]; exact .cons (.str _ t') .nil) (by rw [hes]; show ReadsAll _ [e1.val] _ _; rw [v1]; exact .cons (.int i t) .nil), nosys z⟩
/-- things, one by one -/
inductive Things (H : Hp) : List V → List PyData → Prop
  | nil : Things H [] []
  | cons {v : V} {vs : List V} {d : PyData} {ds : List PyData} : Thing H v d → Things H vs ds → Things H (v :: vs) (d :: ds)
theorem Things.same {H H' : Hp} (e : Same H H') : ∀ {vs : List V} {ds : List PyData}, Things H vs ds → Things H' vs ds
  | _, _, .nil => .nil
  | _, _, .cons h t => .cons (h.same e) (Things.same e t)
theorem Things.reads (I : Inv X pins σ H s) : ∀ {vs : List V} {ds : List PyData} {us : List Value}, Things H vs ds → Vals vs us → ∃ as, ReadsAll s.heap us ds as ∧ sysModules ∉ as
  | _, _, _, .nil, .nil => ⟨_, .nil, List.not_mem_nil⟩
  | _, _, _, .cons h t, .cons r rs => by
    obtain ⟨as, q1, n1⟩ := h.reads I r
    obtain ⟨bs, q2, n2⟩ := Things.reads I t rs
    exact ⟨_, .cons q1 q2, fun z => (List.mem_append.mp z).elim n1 n2⟩
theorem Things.show {H : Hp} : ∀ {vs : List V} {ds : List PyData}, Things H vs ds → PyData.showableAll ds = true ∧ piled (PyData.shownAll ds) ≤ 202 * ds.length ∧ PyData.depthAll ds ≤ 2
  | _, _, .nil => ⟨rfl, by simp only [PyData.shownAll]; exact Nat.zero_le _, by simp [PyData.depthAll]⟩
  | _, d :: ds, .cons h t => by
    obtain ⟨a1, a2, a3⟩ := h.show
    obtain ⟨b1, b2, b3⟩ := Things.show t
    refine ⟨by simp [PyData.showableAll, a1, b1], ?_, by simp only [PyData.depthAll]; omega⟩
    simp only [PyData.shownAll, piled_cons, List.length_cons]
    omega
end
section
variable {X : Cx}
/-- repr(x), x a thing or a tuple of a few of them -/
def rRepr (xs : List V) (H : Hp) (Q : VK) : Prop := ∃ v, xs = [v] ∧ ((∃ d, Thing H v d ∧ Q (.str d.shown) H) ∨ ∃ (a : Addr) (vs : List V) (ds : List PyData), v = .ref a ∧ H a = some (.tup vs) ∧ Things H vs ds ∧ ds.length ≤ 10 ∧ Q (.str (PyData.tuple ds).shown) H)
theorem call_repr (hg : X.A.guards = some []) (hu : X.A.units + 65 < cLine) : CallR X (.builtin "repr") rRepr := by
  intro pins s σ H xs us Q I r h
  obtain ⟨v, rfl, h⟩ := h
  cases r with
  | @cons _ u _ _ r1 rn =>
    cases rn
    rcases h with ⟨d, hd, q⟩ | ⟨a, vs, ds, rfl, ha, hd, hl, q⟩
    · obtain ⟨as, rd, ns⟩ := hd.reads I r1
      obtain ⟨s1, s2, s3⟩ := hd.show
      exact repr_reads rd s1 (fun _ => ns) (by rw [sizeLine_eq]; omega) hg (by omega) fun h' u tk k => ⟨.str _, H, I.kept (t' := tk) k, ⟨u, rfl⟩, q⟩
    · obtain rfl : u = Value.ref a := r1
      obtain ⟨its, rv, ⟨o, h1, h2, n, h3⟩, _⟩ := I.tuple (SqT.of (K := X.K) ha)
      obtain ⟨as, rd, ns⟩ := Things.reads I hd rv
      obtain ⟨s1, s2, s3⟩ := Things.show hd
      have hz : (PyData.tuple ds).shown.length ≤ sizeLine := by
        simp only [PyData.shown]
        have := tupText_le (PyData.shownAll ds)
        rw [sizeLine_eq]
        omega
      exact repr_reads (.tuple h1 h2 h3 rd) (by simp [PyData.showable, s1]) (fun _ => ns) hz hg (by simp only [PyData.depth]; omega) fun h' u tk k => ⟨.str _, H, I.kept (t' := tk) k, ⟨u, rfl⟩, q⟩
/-- [e, ..]: the new list is not the modules' own dict -/
def tLstB (t : TA) : TE := fun σ H Q => t σ H fun xs H1 => xs.length ≤ sizeLine ∧ ∀ p, H1 p = none → (p == sysModules) = false → Q (.ref p) (upd H1 p (.lst xs))
theorem pe_lstB {es : List Expr} {t : TA} {pos : Pos} (h : PA X es t) : PE X (.List es pos) (tLstB t) := by
  refine ⟨fun pins s σ H Q I hq => wpAny_List_spliced (thn (h.run pos pins s σ H _ I hq) fun us s1 ⟨xs, H1, I1, r, z, q⟩ => ⟨by rw [← r.length]; exact z, ?_⟩)⟩
  have hf : H1 s1.heap.objs.size = none := I1.hok.fresh (Nat.le_refl _)
  have hne : (s1.heap.objs.size == sysModules) = false := beq_eq_false_iff_ne.mpr (Nat.ne_of_gt I1.big)
  exact ⟨.ref s1.heap.objs.size, upd H1 s1.heap.objs.size (.lst xs), I1.laid (t' := s1.toks) (fun b u e => Heap.get?_push_of_some _ e) (Nat.le_refl _) ⟨z, us, 0, r, Heap.get?_push_size _ rfl⟩, rfl, q _ hf hne⟩
end
end Sh
set_option Elab.async false
set_option linter.all false
set_option maxRecDepth 100000
set_option maxHeartbeats 4000000
namespace Sh
open PySem PySem.Spec PyProof.Rows L2
/-! ### a law that asks for a repr: its promise where no repr is under way -/
structure FnG (P : Program) (w : World) (K : PySem.W.Frag) (mg : Str → Option Value) (base : Heap) (CX : CXT) (k : Nat) (f : Addr) (fd : FuncData) (ps : List Str) (sp : Sp) : Prop where
  run : ∀ (A : Around) (outer : List Env) (s : Shared) (H : Hp) (args : Args) (us : List Value) (vs : List V) (Q : VK) (E : XK), A.guards = some [] → Room k A → Env0 P w K mg base A outer s H → BindsTo s fd args (ps.zip us) → Vals vs us → sp vs H Q E →
    codeAny (model P w) A (.call (.ref f) args) (CR CX outer P w H s Q E) s
section
variable {P : Program} {w : World} {K : PySem.W.Frag} {mg : Str → Option Value} {base : Heap}
/-- a promise at one place in the stack, from the promise over all of them that the body keeps -/
theorem okG {x qual : Str} {st : Stmt} {f : Addr} {fd : FuncData} {N ps : List Str} {k : Nat} {sp : Sp} (F : Fun K x qual st f fd) (S : FnScope N ps (defScope st)) (len : ∀ vs H Q E, sp vs H Q E → vs.length = ps.length)
    (hbody : ∀ (cdv : Value) (A : Around) (outer : List Env) (s : Shared) (H : Hp) (vs : List V) (Q : VK) (E : XK), (A.deeper (envOfC qual (defScope st) s.heap.objs.size f cdv)).guards = some [] → Room k (A.deeper (envOfC qual (defScope st) s.heap.objs.size f cdv)) → sp vs H Q E →
      ∃ t, PSs (cxOf CX0 P w K mg base N qual (defScope st) f cdv A outer s H E).nox (defBody st) t ∧ t { nx := fun _ H' => Q .non H', rt := Q } (start N vs) H) : FnG P w K mg base CX0 (k + 1) f fd ps sp := by
  refine ⟨fun A outer s H args us vs Q E hgd hr e0 hb r hsp => ?_⟩
  obtain ⟨oc, od, kV, doc, pm, an, cdv, ct, osl, rfl, lk, hcd⟩ := F.ex
  have hl := len _ _ _ _ hsp
  have KX : K.In s.heap := e0.mod.kin.keeps fun b o z => (e0.bs b o z).1
  have hkind : ∀ y ∈ ps.zip us, (defScope st).names.lookup y.1 = some .local ∨ ((defScope st).names.lookup y.1 = some .cell ∧ ((cellsFrom (s.heap.objs.size + 1) (defScope st).names []).lookup y.1).isSome = true) := fun y hy =>
    (S.par y.1 (List.of_mem_zip (a := y.1) (b := y.2) hy).1).imp id fun z => ⟨z, PySem.W.cellsFrom_some _ _ _ (.inl z)⟩
  refine codeAny_call_function hr.depth (KX _ _ lk) rfl S.co S.gen rfl (PySem.W.codeRec_of KX hcd) (hb _ _ _ _ (wpAny_newFunctionEnv_cells S.kind hkind fun env he s1 y => ?_))
  subst he
  refine ⟨(e0.mod.nolimit.keeps fun b o z => (e0.bs b o z).1).keeps y.toInCall.keep, codeAny_func ?_⟩
  obtain ⟨t, ht, hq⟩ := hbody cdv A outer s H vs Q E hgd (hr.deeper _) hsp
  have I : Inv (cxOf CX0 P w K mg base N qual (defScope st) f cdv A outer s H E) [] (start N vs) H s1 := inv_start S hr.hd e0 hl r y
  refine wpAny_mono (ht.nox.run [] s1 (start N vs) H _ I hq) (fun fl s' hs => ?_) fun e s' hs => hs
  cases fl with
  | ret u =>
    obtain ⟨v, _, H', J, rv, q⟩ := hs
    exact ⟨v, H', J.os, J.bare, J.base, J.hok, rv, q⟩
  | next =>
    obtain ⟨_, H', J, q⟩ := hs
    exact ⟨V.non, H', J.os, J.bare, J.base, J.hok, rfl, q⟩
  | brk => exact False.elim hs.choose_spec.choose_spec.2
  | cont => exact False.elim hs.choose_spec.choose_spec.2
end
section
variable {P : Program} {w : World} {K : PySem.W.Frag} {mg mb : Str → Option Value} {k : Nat} {fa a : Addr} {fd : FuncData} {x : Str} {sp : Sp} {t : Shared} {vs : List Value} {ns : List Int}
abbrev Told (t : Shared) (r : Result) (t' : Shared) : Prop := r = .ok (.ret (.bool true)) ∧ OldK t.heap t'.heap ∧ t'.os = t.os ∧ AllBare t'.gens
/-- the call, over an abstract heap in which at most the script is tracked -/
theorem call_over {H : Hp} (KX : K.In t.heap) (hns : t.heap.Ns mainGlobals mg) (hb : t.heap.Ns builtinsNs mb) (hbb : ∀ x : Str, x ≠ "__name__" → mb x = bootBuiltins x) (hlim : t.heap.NoLimit) (hg : t.gens = #[])
    (ha : t.heap.get? a = some { cls := .type "list", data := .seq vs.toArray }) (hr : Room k callerA)
    (G : ∀ base : Heap, K.In base → base.Ns mainGlobals mg → FnG P w K mg base CX0 k fa fd [x] sp) (hbind : ∀ (s : Shared) (u : Value), BindsTo s fd ⟨[u], []⟩ [(x, u)])
    (hO : Only H) (hsp : sp [.ref a] H (fun v _ => v = .bl true) fun _ _ _ => False) (hok : HOk P w H t.heap) (hA : ∀ b, H b ≠ none → b = a) (hK : H a ≠ none → K.lookup a = none) :
    codeAny (model P w) callerA (.call (.ref fa) ⟨[.ref a], []⟩) (Told t) t := by
  have free : ∀ {b : Addr}, b ≠ a → H b = none := fun {b} hb' => Classical.byContradiction fun z => hb' (hA b z)
  have nsK : ∀ {b : Addr} {m : Str → Option Value}, t.heap.Ns b m → (hidT t.heap H).Ns b m := fun {b m} ⟨o, es, ep, e, d, r⟩ => by
    refine ⟨o, es, ep, hidT_get e (free fun z => ?_), d, r⟩
    subst z
    rw [ha] at e
    cases e
    cases d
  have hKb : K.In (hidT t.heap H) := fun b o e => hidT_get (KX b o e) (Classical.byContradiction fun z => by
    have hba := hA b z
    subst hba
    rw [hK z] at e
    cases e)
  obtain ⟨mc, l1, l2⟩ := hlim
  have e0 : Env0 P w K mg (hidT t.heap H) callerA [] t H := ⟨rfl, ⟨hKb, nsK hns, ⟨mb, nsK hb, hbb⟩, mc, nsK l1, l2⟩, fun b o e => of_hidT e, Nat.le_of_eq (hidT_size _ _), trivial, fun b z => (nomatch z), hok, .of_eq hg⟩
  refine codeAny_mono ((G _ hKb (nsK hns)).run callerA [] t H ⟨[.ref a], []⟩ [.ref a] [.ref a] _ _ rfl hr e0 (hbind t (.ref a)) (.cons rfl .nil) hsp) fun r t' hres => ?_
  match r, hres with
  | .ok (.ret u), hres =>
    obtain ⟨v, H', ho, hbare, un, hok', r', q⟩ := hres
    obtain rfl : v = .bl true := q
    obtain rfl : u = Value.bool true := r'
    refine ⟨rfl, OldK.of_keep fun b o e => ?_, ho, hbare⟩
    cases hb' : H b with
    | none => exact un.keep b o e hb' (fun z => nomatch (show b ∈ ([] : List Addr) from z)) (fun z => nomatch z)
    | some y =>
      rcases hO b with z | ⟨ob, xs, z⟩
      · rw [hb'] at z
        cases z
      · obtain ⟨e1, _⟩ := hok b _ z
        obtain ⟨e2, _⟩ := hok' b _ (un.frzs b ob _ z)
        rw [e] at e1
        cases e1
        exact e2
  | .ok .next, hres => exact False.elim hres
  | .ok .brk, hres => exact False.elim hres
  | .ok .cont, hres => exact False.elim hres
  | .error e, hres => exact False.elim hres
theorem law_callG (KX : K.In t.heap) (hns : t.heap.Ns mainGlobals mg) (hb : t.heap.Ns builtinsNs mb) (hbb : ∀ x : Str, x ≠ "__name__" → mb x = bootBuiltins x) (hlim : t.heap.NoLimit) (hg : t.gens = #[])
    (ha : t.heap.get? a = some { cls := .type "list", data := .seq vs.toArray }) (hi : IntsAre vs ns) (hl : ns.length ≤ sizeLine) (hr : Room k callerA)
    (G : ∀ base : Heap, K.In base → base.Ns mainGlobals mg → FnG P w K mg base CX0 k fa fd [x] sp) (hbind : ∀ (s : Shared) (u : Value), BindsTo s fd ⟨[u], []⟩ [(x, u)])
    (hsp : ∀ H : Hp, Only H → SqL K H a (ns.map V.int) → sp [.ref a] H (fun v _ => v = .bl true) fun _ _ _ => False) : codeAny (model P w) callerA (.call (.ref fa) ⟨[.ref a], []⟩) (Told t) t := by
  have rv := vals_ints hi
  have lenV := hi.length
  cases hk : K.lookup a with
  | some o =>
    have e := KX a o hk
    rw [ha] at e
    cases e
    have hO : Only (fun _ => none) := fun _ => .inl rfl
    refine call_over KX hns hb hbb hlim hg ha hr G hbind hO (hsp _ hO (.inr ⟨_, vs.toArray, _, hk, rfl, rfl, rfl, by rw [List.size_toArray, lenV]; exact hl, by simpa using rv⟩)) (fun b u z => nomatch z) (fun b z => absurd rfl z) fun z => absurd rfl z
  | none =>
    have hO : Only (upd (fun _ => none) a (.frz { cls := .type "list", data := .seq vs.toArray } (.lst (ns.map V.int)))) := fun b => by
      by_cases hb' : b = a
      · subst hb'
        exact .inr ⟨_, _, upd_same⟩
      · exact .inl (upd_ne hb')
    refine call_over KX hns hb hbb hlim hg ha hr G hbind hO (hsp _ hO (.inl (.inr ⟨_, upd_same⟩))) (fun b u z => ?_) (fun b z => ?_) fun _ => hk
    · by_cases hb' : b = a
      · subst hb'
        rw [upd_same] at z
        cases z
        exact ⟨ha, by rw [List.length_map]; exact hl, vs, _, rv, ha⟩
      · rw [upd_ne hb'] at z
        cases z
    · by_cases hb' : b = a
      · exact hb'
      · exact absurd (upd_ne hb') z
end
theorem walk_ofG {l : PySem.W.OpenLaw} {n k : Nat} {q : Program} {loose : List Str} {XP : (Str → Option Value) → Heap → Prop} {YP : World → Heap → Prop} {d : DefRec} {K : Params → PySem.W.Frag} {sp : PySem.W.Frag → Sp} {x : Str}
    (hn : l.most = some n) (hn2 : n ≤ sizeLine) (hdf : d.params.defaults = []) (hr : Room k callerA) (hY : ∀ (w : World) (h : Heap), YP w h → (K w.params).In h)
    (G : ∀ (w : World) (mg : Str → Option Value) (fa : Addr) (h : Heap), (K w.params).In h → h.Ns mainGlobals mg → mg d.name = some (.ref fa) →
      ∃ fd : FuncData, (∀ (s : Shared) (u : Value), BindsTo s fd ⟨[u], []⟩ [(x, u)]) ∧ ∀ base : Heap, (K w.params).In base → base.Ns mainGlobals mg → FnG l.prog w (K w.params) mg base CX0 k fa fd [x] (sp (K w.params)))
    (hsp : ∀ (K : PySem.W.Frag) (H : Hp) (a : Addr) (ns : List Int), ns.length ≤ n → SqL K H a (ns.map V.int) → sp K [.ref a] H (fun v _ => v = .bl true) fun _ _ _ => False) :
    PySem.W.WalkO q loose XP YP l.row.toRowW d [] (fun f vs => PySem.call f vs) := by
  refine Att.attach_call hn hdf fun w s₀ t mg mb fa o pm cd doc a vs ns Gr Y ho hd hcd hmg hobj hints hlen hg => ?_
  have KX := hY w _ Y
  obtain ⟨fd, hb, hF⟩ := G w mg fa _ KX Gr.T.g hmg
  exact law_callG KX Gr.T.g Gr.T.b Gr.T.builtins Gr.T.nolimit hg hobj hints (Nat.le_trans hlen hn2) hr hF hb fun H _ hS => hsp (K w.params) H a ns hlen hS
end Sh
set_option Elab.async false
set_option linter.all false
set_option maxRecDepth 100000
set_option maxHeartbeats 4000000
namespace Sh
open PySem PySem.Spec PySem.W PyProof.Rows L2 NdefX
/-! ### a head by facts, own exceptions among them -/
theorem andB {a b : Bool} (h : (a && b) = true) : a = true ∧ b = true := Bool.and_eq_true_iff.mp h
/-- the cells that functions hold -/
def cellsG (g : Addr → Option Obj) (as : List Addr) : List Addr := as.flatMap fun a => match g a with
  | some ⟨_, _, .func fd, _⟩ => fd.closure.map (·.2)
  | _ => []
def asX (g : Addr → Option Obj) (n : Nat) : List Addr := cStatics :: (He.asD g n ++ cellsG g (He.asD g n))
/-- an own exception class right below S -/
def xclsB (K : Frag) (S C : Addr) : Bool := (match K.lookup C with
  | some ⟨.type t, _, .cls cd, sl⟩ => decide (t = "type") && (decide (cd.mro = [.ref C, .ref S, .type "ValueError", .type "Exception", .type "BaseException", .type "object"]) && (cd.hasDict && (!cd.hasDel && (match sl.toList with
    | [_, _, _, _, some (.builtin n), _] => decide (n = "ValueError.__new__")
    | _ => false))))
  | _ => false) && (decide (findIn K (.ref C) "__setattr__" = some (some (.builtin "object.__setattr__"))) && (decide (findIn K (.ref C) "__getattribute__" = some (some (.builtin "BaseException.__getattribute__"))) && (decide (findIn K (.ref C) "__getattr__" = some none) &&
    (decide (findIn K (.ref C) "__class__" = some (some (.builtin "object.__class__"))) && keepIn K (.ref C)))))
theorem xclsB_ok {K : Frag} {S C : Addr} (h : xclsB K S C = true) : XCls K S C := by
  obtain ⟨h1, h⟩ := andB h
  obtain ⟨h2, h⟩ := andB h
  obtain ⟨h3, h⟩ := andB h
  obtain ⟨h4, h⟩ := andB h
  obtain ⟨h5, h6⟩ := andB h
  cases q : K.lookup C with
  | none => rw [q] at h1; cases h1
  | some o =>
    obtain ⟨oc, dd, dt, sl⟩ := o
    rw [q] at h1
    cases oc with
    | type t =>
      cases dt with
      | cls cd =>
        obtain ⟨nm, bs, mro, ns, qn, hd, sn, sb, ab, col, del⟩ := cd
        obtain ⟨a1, h1⟩ := andB h1
        obtain ⟨a2, h1⟩ := andB h1
        obtain ⟨a3, h1⟩ := andB h1
        obtain ⟨a4, a5⟩ := andB h1
        have e1 : t = "type" := of_decide_eq_true a1
        have e2 : mro = _ := of_decide_eq_true a2
        have e3 : hd = true := a3
        have e4 : del = false := by
          cases del
          · rfl
          · cases a4
        subst e1 e2 e3 e4
        have es : ∃ k0 k1 k2 k3 k5, sl = #[k0, k1, k2, k3, some (.builtin "ValueError.__new__"), k5] := by
          obtain ⟨l⟩ := sl
          match l, a5 with
          | [k0, k1, k2, k3, some (.builtin n), k5], a5 =>
            have e5 : n = "ValueError.__new__" := of_decide_eq_true a5
            subst e5
            exact ⟨k0, k1, k2, k3, k5, rfl⟩
        obtain ⟨k0, k1, k2, k3, k5, rfl⟩ := es
        exact xcls_mk q (of_decide_eq_true h2) (of_decide_eq_true h3) (of_decide_eq_true h4) (of_decide_eq_true h5) h6
      | _ => cases h1
    | _ => cases h1
def fileB (file : Str) (vs : Array Value) : Bool := match vs[2]? with
  | some (Value.str fl _) => file == fl
  | _ => false
theorem fileB_ok {file : Str} {vs : Array Value} (h : fileB file vs = true) : ∃ fl tf, vs[2]? = some (.str fl tf) ∧ (file == fl) = true := by
  unfold fileB at h
  cases q : vs[2]? with
  | none => rw [q] at h; cases h
  | some v =>
    rw [q] at h
    cases v with
    | str fl tf => exact ⟨fl, tf, rfl, h⟩
    | _ => cases h
/-- its __init__: what it holds beside its text -/
def xinitB (file : Str) (K : Frag) (C f : Addr) (qual : Str) : Bool := decide (findIn K (.ref C) "__init__" = some (some (.ref f))) && (decide (typeIn K (.ref f) = some (.type "function")) &&
  ((match K.lookup f with
    | some ⟨_, _, .func fd, _⟩ => (match fd.code, fd.closure with
      | .ref cd, [(_, cc)] => codeIn K (.ref cd) qual && ((match K.lookup cd with
          | some ⟨_, _, .fields vs, _⟩ => fileB file vs
          | _ => false) && (match K.lookup cc with
          | some ⟨_, _, .cell (some (.ref D)), _⟩ => decide (D = C)
          | _ => false))
      | _, _ => false)
    | _ => false) && decide (ks_superIn K C C "__init__" = some (some (.builtin "ValueError.__init__")))))
abbrev XV : Type := Option (Str × Str × Arguments × FuncBody × Scope × Addr × List Str × Value × Addr)
def xvOf (K : Frag) (f : Addr) : XV := match K.lookup f with
  | some ⟨_, _, .func fd, _⟩ => some (fd.name, fd.qualname, fd.params, fd.body, fd.scope, fd.globals, fd.closure.map (·.1), fd.defaults, fd.builtins)
  | _ => none
structure XD where
  cls : Str
  qual : Str
  st : Stmt
def XD.val (d : XD) : XV := some ("__init__", d.qual, defArgs d.st, .stmts (defBody d.st), defScope d.st, mainGlobals, ["__class__"], .none, builtinsNs)
def XD.fn (K : Frag) (d : XD) : Addr := He.ma K (He.ga K d.cls) "__init__"
theorem xinit_of {P : Program} {K : Frag} {mg : Str → Option Value} {S C f : Addr} {d : XD} (x : XCls K S C) (e : xvOf K f = d.val) (b : xinitB P.main.file K C f d.qual = true) (mgs : mg "super" = none) (opq : nsIn K cStatics "thirdparty.any" = some none)
    (top : (P.main.scope.names.lookup ("super" : Str)).isSome = false) (hh : ∃ ar : Arg, ((defArgs d.st).posonlyargs ++ (defArgs d.st).args).head? = some ar ∧ ar.arg = "self") (ks : (defScope d.st).names.lookup ("super" : Str) = some .globalImplicit)
    (kc : (defScope d.st).names.lookup ("__class__" : Str) = some .free) (ka : (defScope d.st).names.lookup ("self" : Str) = some .local) : ∃ fd, XInit P K mg C f d.qual d.st fd := by
  obtain ⟨b1, b⟩ := andB b
  obtain ⟨b2, b⟩ := andB b
  obtain ⟨b3, b4⟩ := andB b
  unfold xvOf at e
  cases q : K.lookup f with
  | none => rw [q] at b3; cases b3
  | some o =>
    obtain ⟨oc, od, dt, osl⟩ := o
    rw [q] at b3 e
    cases dt with
    | func fd =>
      obtain ⟨n1, n2, n3, n4, n5, n6, n7, n8, n9, n10, n11, n12, n13, n14, n15⟩ := fd
      have e2 : (some (n1, n2, n3, n4, n5, n6, n7.map (·.1), n8, n15) : XV) = (some (("__init__" : Str), d.qual, defArgs d.st, .stmts (defBody d.st), defScope d.st, mainGlobals, ["__class__"], .none, builtinsNs) : XV) := e
      simp only [Option.some.injEq, Prod.mk.injEq] at e2
      obtain ⟨h1, h2, h3, h4, h5, h6, h7, h8, h9⟩ := e2
      subst h1 h2 h3 h4 h5 h6 h8 h9
      cases n7 with
      | nil => cases h7
      | cons p r =>
        cases r with
        | cons p2 r2 => exact nomatch (List.cons.inj h7).2
        | nil =>
          obtain ⟨nn, cc⟩ := p
          have en : nn = "__class__" := (List.cons.inj h7).1
          subst en
          cases n13 with
          | ref cd =>
            obtain ⟨c1, c2⟩ := andB b3
            obtain ⟨c2, c3⟩ := andB c2
            cases q2 : K.lookup cd with
            | none => rw [q2] at c2; cases c2
            | some o2 =>
              obtain ⟨oc2, od2, dt2, osl2⟩ := o2
              rw [q2] at c2
              cases dt2 with
              | fields vs =>
                obtain ⟨fl, tf, hv1, hv2⟩ := fileB_ok c2
                cases q3 : K.lookup cc with
                | none => rw [q3] at c3; cases c3
                | some o3 =>
                  obtain ⟨oc3, od3, dt3, osl3⟩ := o3
                  rw [q3] at c3
                  cases dt3 with
                  | cell co =>
                    cases co with
                    | none => cases c3
                    | some v =>
                      cases v with
                      | ref D =>
                        have eD : D = C := of_decide_eq_true c3
                        subst eD
                        exact ⟨_, xinit_mk (st := d.st) x (of_decide_eq_true b1) (of_decide_eq_true b2) q c1 q2 hv1 hv2 q3 (of_decide_eq_true b4) mgs opq top hh ks kc ka⟩
                      | _ => cases c3
                  | _ => cases c3
              | _ => cases c2
          | _ => cases b3
    | _ => cases b3
/-! the Hook -/
abbrev AlX : Type := He.AlD × Bool × List XV
def obsX (fa : List He.Fa) (fn : List He.DefD) (ex : List (Frag → Bool)) (xs : List XD) (K : Frag) : AlX := (He.obsD fa fn K, ex.all (fun f => f K), xs.map fun d => xvOf K (d.fn K))
def valX (fn : List He.DefD) (xs : List XD) : AlX := (He.valD fn, true, xs.map XD.val)
structure SaysX (fa : List He.Fa) (fn : List He.DefD) (ex : List (Frag → Bool)) (xs : List XD) (K : Frag) : Prop where
  d : He.SaysD fa fn K
  e : ∀ (i : Nat) {f : Frag → Bool}, ex[i]? = some f → f K = true
  x : ∀ (i : Nat) {d : XD}, xs[i]? = some d → xvOf K (d.fn K) = d.val
theorem says_of {fa : List He.Fa} {fn : List He.DefD} {ex : List (Frag → Bool)} {xs : List XD} {K : Frag} (h : obsX fa fn ex xs K = valX fn xs) : SaysX fa fn ex xs K := by
  have h1 : He.obsD fa fn K = He.valD fn := congrArg (fun z : AlX => z.1) h
  have h2 : ex.all (fun f => f K) = true := congrArg (fun z : AlX => z.2.1) h
  have h3 : xs.map (fun d => xvOf K (d.fn K)) = xs.map XD.val := congrArg (fun z : AlX => z.2.2) h
  refine ⟨h1, fun i f e => List.all_eq_true.mp h2 f (List.mem_of_getElem? e), fun i d e => ?_⟩
  have e2 : (xs.map fun d => xvOf K (d.fn K))[i]? = (xs.map XD.val)[i]? := by rw [h3]
  rw [List.getElem?_map, List.getElem?_map, e] at e2
  exact Option.some.inj e2
def obsXG (n : Nat) (fa : List He.Fa) (fn : List He.DefD) (ex : List (Frag → Bool)) (xs : List XD) (g : Addr → Option Obj) : AlX := obsX fa fn ex xs (He.frG g (asX g n))
def hookX (n : Nat) (fa : List He.Fa) (fn : List He.DefD) (ex : List (Frag → Bool)) (xs : List XD) : PySem.W.Hook where
  α := AlX
  obs := fun s => obsXG n fa fn ex xs s.heap.get?
  val := fun _ => valX fn xs
  says := fun _ h => ∃ K : Frag, K.In h ∧ SaysX fa fn ex xs K
  of := fun _ _ e => ⟨_, He.frG_in, says_of e⟩
  keeps := fun _ _ _ ⟨K, hK, c⟩ k => ⟨K, Frag.In.keeps hK k, c⟩
theorem obsXG_eq {n : Nat} {fa : List He.Fa} {fn : List He.DefD} {ex : List (Frag → Bool)} {xs : List XD} {g : Addr → Option Obj} {s : Shared} (h : ∀ a, g a = s.heap.get? a) : obsXG n fa fn ex xs g = (hookX n fa fn ex xs).obs s := by
  have e : g = s.heap.get? := funext h
  rw [e] <;> rfl
/-- a def without defaults -/
theorem fun_of {K : Frag} {x qual : Str} {st : Stmt} {f : Addr} {fd : FuncData} (F : FunD K x qual (defArgs st) (defBody st) (defScope st) [] [] f fd) : Fun K x qual st f fd := by
  obtain ⟨oc, od, dV, kV, doc, pm, an, cdv, ct, osl, rfl, lk, hcd, hD, hK⟩ := F.ex
  rcases hD with ⟨_, rfl⟩ | ⟨z, _⟩
  · exact ⟨⟨oc, od, kV, doc, pm, an, cdv, ct, osl, rfl, lk, hcd⟩, F.kp⟩
  · exact absurd rfl z
theorem walk_ofEG {l : PySem.W.OpenLaw} {n k : Nat} {q : Program} {loose : List Str} {XP : (Str → Option Value) → Heap → Prop} {YP : World → Heap → Prop} {d : DefRec} {x : Str}
    (hn : l.most = some n) (hn2 : n ≤ sizeLine) (hdf : d.params.defaults = []) (hr : Room k callerA)
    (G : ∀ (w : World) (mg : Str → Option Value) (fa : Addr) (h : Heap), YP w h → h.Ns mainGlobals mg → mg d.name = some (.ref fa) →
      ∃ (K : Frag) (fd : FuncData) (sp : Sp), K.In h ∧ (∀ (s : Shared) (u : Value), BindsTo s fd ⟨[u], []⟩ [(x, u)]) ∧
        (∀ (H : Hp) (a : Addr) (ns : List Int), ns.length ≤ n → SqL K H a (ns.map V.int) → sp [.ref a] H (fun v _ => v = .bl true) fun _ _ _ => False) ∧
        ∀ base : Heap, K.In base → base.Ns mainGlobals mg → FnG l.prog w K mg base CX0 k fa fd [x] sp) :
    WalkO q loose XP YP l.row.toRowW d [] (fun f vs => PySem.call f vs) := by
  refine Att.attach_call hn hdf fun w s₀ t mg mb fa o pm cd doc a vs ns Gr Y ho hd hcd hmg hobj hints hlen hg => ?_
  obtain ⟨K, fd, sp, KX, hb, hsp, hF⟩ := G w mg fa _ Y Gr.T.g hmg
  exact law_callG KX Gr.T.g Gr.T.b Gr.T.builtins Gr.T.nolimit hg hobj hints (Nat.le_trans hlen hn2) hr hF hb fun H _ hS => hsp H a ns hlen hS
end Sh
set_option Elab.async false
set_option linter.all false
set_option maxRecDepth 100000
set_option maxHeartbeats 4000000
namespace Sh
open PySem PySem.Spec PySem.W PyProof.Rows L2
/-! ### raise X(..), X an own exception with super().__init__(..) -/
section
variable {X : Cx}
theorem pmk_x {e : Expr} {te : TE} (hx : X.ex = []) (he : PE X e te) :
    PMk X e (fun σ H Q => te σ H fun x H1 => ∃ (a C dx : Addr) (fs : List (Str × V)), x = .ref a ∧ H1 a = some (exo a C (some dx)) ∧ H1 dx = some (exd dx fs) ∧ Fr0 X.H_0 a ∧ Raises X (.ref C) ∧ Q (.ref C) (some dx) (delH H1 a)) := by
  intro pins s σ H Q I h
  refine thn (he.run pins s σ H _ I h) fun u s1 hu => ?_
  obtain ⟨v, H1, I1, r1, a, C, dx, fs, rfl, ha, hd, h0, hr, q⟩ := hu
  cases r1
  obtain ⟨t1, ho⟩ := exo_at I1.hok ha
  obtain ⟨G, gs, ga, J⟩ := I1.untrack ha h0 hx
  exact ⟨a, _, _, { s1 with heap := G }, delH H1 a, .ref C, some dx, rfl, J, gs, ga, ho, ⟨rfl, rfl⟩, rfl, rfl, delH_same, rfl, I1.bare, hr, q⟩
theorem pmk_x0 {e : Expr} {te : TE} (hx : X.ex = []) (he : PE X e te) :
    PMk X e (fun σ H Q => te σ H fun x H1 => ∃ (a C : Addr), x = .ref a ∧ H1 a = some (exo a C none) ∧ Fr0 X.H_0 a ∧ Raises X (.ref C) ∧ Q (.ref C) none (delH H1 a)) := by
  intro pins s σ H Q I h
  refine thn (he.run pins s σ H _ I h) fun u s1 hu => ?_
  obtain ⟨v, H1, I1, r1, a, C, rfl, ha, h0, hr, q⟩ := hu
  cases r1
  obtain ⟨t1, ho⟩ := exo_at I1.hok ha
  obtain ⟨G, gs, ga, J⟩ := I1.untrack ha h0 hx
  exact ⟨a, _, _, { s1 with heap := G }, delH H1 a, .ref C, none, rfl, J, gs, ga, ho, ⟨rfl, rfl⟩, rfl, rfl, delH_same, rfl, I1.bare, hr, q⟩
def tRaiseX (X : Cx) (W : WX) (te : TE) : TS := fun _ σ H => te σ H fun x H1 => ∃ (a C dx : Addr) (fs : List (Str × V)), x = .ref a ∧ H1 a = some (exo a C (some dx)) ∧ H1 dx = some (exd dx fs) ∧ Fr0 X.H_0 a ∧ Raises X (.ref C) ∧ W (.ref C) (some dx) σ (delH H1 a)
theorem ps_raiseX {W : WX} {e : Expr} {te : TE} {pos : Pos} (hc : X.calm = true) (hx : X.ex = []) (tk : Takes X W) (he : PE X e te) : PS X (.Raise (some e) none pos) (tRaiseX X W te) := ps_raise hc tk (pmk_x hx he)
def tRaiseX0 (X : Cx) (W : WX) (te : TE) : TS := fun _ σ H => te σ H fun x H1 => ∃ (a C : Addr), x = .ref a ∧ H1 a = some (exo a C none) ∧ Fr0 X.H_0 a ∧ Raises X (.ref C) ∧ W (.ref C) none σ (delH H1 a)
theorem ps_raiseX0 {W : WX} {e : Expr} {te : TE} {pos : Pos} (hc : X.calm = true) (hx : X.ex = []) (tk : Takes X W) (he : PE X e te) : PS X (.Raise (some e) none pos) (tRaiseX0 X W te) := ps_raise hc tk (pmk_x0 hx he)
/-- what a raise asks, when the exception is made of its arguments -/
theorem mk_raise {C : Addr} {n m : Nat} {fs : List Str} {t tk : TA} {σ : L2.St} {H : Hp} {W : WX} {D : Ends} {vs zs : List V} (h0 : ∀ a, H a = none → Fr0 X.H_0 a) (R : Raises X (.ref C))
    (h1 : ∀ R : List V → Hp → Prop, R vs H → t σ H R) (h2 : ∀ R : List V → Hp → Prop, R zs H → tk σ H R) (l1 : vs.length = n) (l2 : zs.length = m) (l3 : n + m = fs.length)
    (q : ∀ H' d, Same H H' → H d = none → H' d = some (exd d (fs.zip (rotV vs zs)).reverse) → W (.ref C) (some d) σ H') : tRaiseX X W (tOex C n m (spXI C fs) rotV t tk) D σ H := by
  refine h1 _ (h2 _ ⟨l1, l2, fun a ha => ⟨a, rotV vs zs, rfl, ?_, upd_same, fun H' d kp hd hne ea ed => ⟨rfl, a, C, d, _, rfl, ea, ed, h0 a ha, R, q _ d (fun b o e => ?_) ?_ ?_⟩⟩⟩)
  · unfold rotV
    rw [List.length_append, List.length_append, List.length_drop, List.length_take, l1, l2]
    omega
  · have ne := ne_of_none e ha
    rw [delH_ne ne]
    exact kp b o (by rw [upd_ne ne]; exact e) ne
  · rw [upd_ne hne] at hd
    exact hd
  · rw [delH_ne hne]
    exact ed
theorem XCls.raises {S C : Addr} (x : XCls X.K S C) : Raises X (.ref C) := raises_own (by show mroIn X.K C _ = some true; rw [x.sub]; simp [List.contains_cons]) x.ty
/-- e.f of the exception that a suite holds -/
def tXBy (K : Frag) (f : Str) (a : Addr) (cls : Value) (d : Option Addr) (te : TE) : TE := fun σ H Q => te σ H fun x H1 => x = .ref a ∧ ∃ (C dx : Addr) (fs : List (Str × V)) (v : V), cls = .ref C ∧ d = some dx ∧ ExR K C ∧ findIn K (.ref C) f = some none ∧ H1 dx = some (exd dx fs) ∧ fs.lookup f = some v ∧ Q v H1
theorem pe_xby {a : Addr} {oe : Obj} {cls : Value} {d : Option Addr} {pn : List (Addr × Obj)} {e : Expr} {te : TE} {f : Str} {pos : Pos} (hz : Zc cls d oe) (hf : ∃ vs, oe.data = .fields vs) (he : PE (X.suite a ((a, oe) :: pn)) e te)
    (hb : attributeBase e f X.env (eval e X.env) = eval e X.env := by rfl) : PE (X.suite a ((a, oe) :: pn)) (.Attribute e f pos) (tXBy X.K f a cls d te) := by
  refine ⟨fun pins s σ H Q I h => attr_of hb (thn (he.run pins s σ H _ I h) fun u s1 hh => ?_)⟩
  obtain ⟨x, H1, I1, rx, rfl, C, dx, fs, v, rfl, rfl, R, hno, ed, hl, q⟩ := hh
  obtain rfl : u = Value.ref a := rx
  have hp := (I1.pin (a, oe) (List.mem_append_left _ List.mem_cons_self)).1
  obtain ⟨vs, hd⟩ := hf
  obtain ⟨mA, hns, hr⟩ := exd_at I1.hok ed
  obtain ⟨od, hod, hlk⟩ := lookIn_ns hns
  obtain ⟨u, hu, ru⟩ := RelO.some_of (v := v) (o := mA f) (by rw [← hl]; exact hr f)
  have J : InstAt s1.heap a oe C (some od) := ⟨hp, hz.1, (by unfold notCls; rw [hd] <;> rfl), (by rw [hz.2]; exact hod)⟩
  exact HandSPX.exc_get I1.kIn J R.ga R.gg R.ox.exC (findObj_own R.hd hno rfl (by rw [hlk, hu])) (handed_of ru) ⟨v, H1, I1.tok _, ru, q⟩
/-- isinstance(e, C) of the exception that a suite holds -/
def rIsXBy (K : Frag) (a : Addr) (cls : Value) (d : Option Addr) : List V → Hp → VK → Prop := fun xs H Q => ∃ (C dx : Addr) (fs : List (Str × V)) (c : V) (u : Value) (b : Bool), xs = [.ref a, c] ∧ ClsV c u ∧ cls = .ref C ∧ d = some dx ∧ ExR K C ∧ H dx = some (exd dx fs) ∧ kitOne K (.ref C) u = some b ∧ Q (.bl b) H
theorem call_isXBy {a : Addr} {oe : Obj} {cls : Value} {d : Option Addr} {pn : List (Addr × Obj)} (hz : Zc cls d oe) (hf : ∃ vs, oe.data = .fields vs) (hn : specialIn X.K (.builtin "object.__class__") "__get__" = some (some (.builtin "getset_descriptor.__get__"))) (htk : takesIn X.K (.builtin "object.__class__") = some true) :
    CallR (X.suite a ((a, oe) :: pn)) (.builtin "isinstance") (rIsXBy X.K a cls d) := by
  intro pins s σ H xs us Q I r h
  obtain ⟨C, dx, fs, c, u, b, rfl, k, rfl, rfl, R, ed, e, q⟩ := h
  obtain ⟨u1, u2, rfl, r1, r2⟩ := vals2 r
  obtain rfl := k.eq r2
  obtain rfl : u1 = Value.ref a := r1
  have hp := (I.pin (a, oe) (List.mem_append_left _ List.mem_cons_self)).1
  obtain ⟨vs, hd⟩ := hf
  obtain ⟨mA, hns, hr⟩ := exd_at I.hok ed
  obtain ⟨od, hod, hlk⟩ := lookIn_ns hns
  have J : InstAt s.heap a oe C (some od) := ⟨hp, hz.1, (by unfold notCls; rw [hd] <;> rfl), (by rw [hz.2]; exact hod)⟩
  exact kia_one (kitx_exc R.isCls R.ga R.gg R.ox.exC R.cl hn htk R.ob) I.kIn J e (fun z => nomatch z) fun tk => ⟨.bl b, H, I.tok tk, rfl, q⟩
end
/-! ### which clause takes it -/
theorem XCls.subBE {K : Frag} {S C : Addr} (x : XCls K S C) : subIn K (.ref C) (.type "BaseException") = some true := by
  show mroIn K C _ = some true
  rw [x.sub]
  simp [List.contains_cons]
theorem exmOne_of {K : Frag} {cls c : Value} {b : Bool} (h : subIn K c (.type "BaseException") = some true) (k : kitCls K cls c = some b) : exmOne K cls c = some b := by
  unfold exmOne
  rw [h]
  simpa using k
theorem XCls.kit {K : Frag} {S C D : Addr} (x : XCls K S C) (y : XCls K S D) (h : D ≠ S) : kitCls K (.ref C) (.ref D) = some (decide (C = D)) := by
  unfold kitCls
  simp only [y.isC, y.ty, beq_self_eq_true, Bool.and_self, if_true]
  show mroIn K C (.ref D) = _
  rw [x.sub]
  by_cases e : C = D
  · subst e
    simp
  · have e1 : (Value.ref D == Value.ref C) = false := by simp [Ne.symm e]
    have e2 : (Value.ref D == Value.ref S) = false := by simp [h]
    have e3 : ∀ T : String, (Value.ref D == Value.type T) = false := fun T => by simp
    simp [List.contains_cons, e1, e2, e3, e]
    exact ⟨Ne.symm e, h⟩
theorem XCls.exm {K : Frag} {S C D : Addr} (x : XCls K S C) (y : XCls K S D) (h : D ≠ S) : exmOne K (.ref C) (.ref D) = some (decide (C = D)) := exmOne_of y.subBE (x.kit y h)
end Sh
set_option Elab.async false
set_option linter.all false
set_option maxRecDepth 100000
set_option maxHeartbeats 4000000
namespace ShL
open PySem PySem.W PySem.Calls PyProof.Rows
/-! ### sorted(xs, key=f), f's keys lists that are new -/
/-- h's objects stand in g; those of F may have other slots -/
def KB (F : List Addr) (h g : Heap) : Prop := ∀ b o, h.get? b = some o → (∃ sl, g.get? b = some { o with slots := sl }) ∧ (b ∉ F → g.get? b = some o)
/-- .. all but the one at l -/
def KBx (l : Addr) (F : List Addr) (h g : Heap) : Prop := ∀ b o, b ≠ l → h.get? b = some o → (∃ sl, g.get? b = some { o with slots := sl }) ∧ (b ∉ F → g.get? b = some o)
theorem KB.of {F : List Addr} {h g : Heap} (k : ∀ b o, h.get? b = some o → g.get? b = some o) : KB F h g := fun b o q => ⟨⟨o.slots, k b o q⟩, fun _ => k b o q⟩
theorem KB.trans {F : List Addr} {h g k : Heap} (x : KB F h g) (y : KB F g k) : KB F h k := fun b o q => by
  obtain ⟨⟨sl, q1⟩, q2⟩ := x b o q
  obtain ⟨⟨sl', r1⟩, r2⟩ := y b _ q1
  exact ⟨⟨sl', r1⟩, fun n => (y b o (q2 n)).2 n⟩
theorem KBx.trans {l : Addr} {F : List Addr} {h g k : Heap} (x : KBx l F h g) (y : KB F g k) : KBx l F h k := fun b o hb q => by
  obtain ⟨⟨sl, q1⟩, q2⟩ := x b o hb q
  obtain ⟨⟨sl', r1⟩, r2⟩ := y b _ q1
  exact ⟨⟨sl', r1⟩, fun n => (y b o (q2 n)).2 n⟩
theorem KBx.same {l c : Addr} {F : List Addr} {h g k : Heap} (x : KBx l F h g) (hc : h.get? c = none) (y : ∀ b, b ≠ c → k.get? b = g.get? b) : KBx l F h k := fun b o hb q => by
  have ne : b ≠ c := fun z => by rw [z, hc] at q; cases q
  obtain ⟨⟨sl, q1⟩, q2⟩ := x b o hb q
  exact ⟨⟨sl, (y b ne).trans q1⟩, fun n => (y b ne).trans (q2 n)⟩
section
variable {prog : Program} {w : World} {A : Around} {E : Value → Shared → Prop} {s : Shared} {l st : Addr} {its : List Value} {e1 : Nat} {Z : PySem.Fin → Shared → Prop} {ks : List PyData} {J : Shared → Prop} {F : List Addr}
/-- a call of f on x keeps what was there; its key is a new object -/
def KeyNew (J : Shared → Prop) (F : List Addr) (d : PyData) (s₁ : Shared) (v : Value) (s₂ : Shared) : Prop := J s₂ ∧ KB F s₁.heap s₂.heap ∧ ∃ a o, v = .ref a ∧ s₁.heap.get? a = none ∧ a ∉ F ∧ s₂.heap.get? a = some o ∧ ∀ g : Heap, g.get? a = some o → ∃ as, Reads g (.ref a) d as
theorem kn_rest {f : Value} {h0 : Heap} (hJ : ∀ s g tk, J s → J { s with heap := g, toks := tk }) (j0 : J s) (kb : KBx l F h0 s.heap) (hst : h0.get? st = none) (ns : s.heap.get? st = some (seqObj "list" #[] 0)) (nl : s.heap.get? l = some (seqObj "list" #[] e1)) (hne : st ≠ l) (hsF : st ∉ F) (hlF : l ∉ F)
    (hlen : ks.length = its.length) (hZ : its.length ≤ sizeLine) (hal : AllAlike ks) (hsk : Sortable ks) (hu : ∀ d ∈ ks, A.units + d.depth < cLine)
    (one : ∀ (i : Nat) (v : Value) (d : PyData), its[i]? = some v → ks[i]? = some d → ∀ (s₁ : Shared), J s₁ → KBx l F h0 s₁.heap → wpAny (model prog w) A (call f [v]) (KeyNew J F d s₁) (fun _ _ => False) s₁)
    (fin : ∀ s₁ out c, J s₁ → KBx l F h0 s₁.heap → s₁.heap.get? l = some (seqObj "list" (List.toArray out) c) → KeyedOut false ks its out → Z (.done (.ret .none)) s₁) :
    wpAny (model prog w) A (ksk_rest l f false its.toArray e1 (.ref st)) Z E s := by
  unfold ksk_rest; refine wpAny_bind (wpAny_rule ?_)
  first
    | rw [List.forIn_toArray]
    | (rw [← Array.forIn_toList]; simp only [List.toList_toArray])
    | rw [← Array.forIn_toList]
  let R : Heap → Value → PyData → Prop := fun g v d => ∃ a o, v = .ref a ∧ a ≠ st ∧ a ∉ F ∧ g.get? a = some o ∧ ∀ g' : Heap, g'.get? a = some o → ∃ as, Reads g' (.ref a) d as
  refine wpAny_bind (ksk_fold (fun i s₁ => ∃ kA e, J s₁ ∧ KBx l F h0 s₁.heap ∧ s₁.heap.get? st = some (seqObj "list" kA e) ∧ s₁.heap.get? l = some (seqObj "list" #[] e1) ∧ EachIs (R s₁.heap) kA.toList (ks.take i)) its 0 s
    ⟨#[], 0, j0, kb, ns, nl, by rw [List.take_zero]; exact EachIs.nil⟩ ?step ?done)
  case step =>
    rintro j x s₁ hx ⟨kA, e, j1, kg, ns', nl', hk⟩
    simp only [Nat.zero_add] at hk ⊢
    have hj : j < its.length := (List.getElem?_eq_some_iff.mp hx).1
    obtain ⟨d, hd⟩ : ∃ d, ks[j]? = some d := ⟨_, List.getElem?_eq_getElem (by omega)⟩
    have hz : kA.size ≤ its.length := by
      have q := hk.length
      rw [Array.length_toList, List.length_take] at q; omega
    refine wpAny_bind (wpAny_attempt (wpAny_mono (one j x d hx hd s₁ j1 kg) (fun v s₂ he => ?_) fun _ _ z => z.elim))
    obtain ⟨j2, up, a, o, rfl, hn, haF, hao, hr⟩ := he; try dsimp only
    have has : a ≠ st := fun z => by rw [z, ns'] at hn; cases hn
    have ns2 : s₂.heap.get? st = some (seqObj "list" kA e) := (up _ _ ns').2 hsF
    have nl2 : s₂.heap.get? l = some (seqObj "list" #[] e1) := (up _ _ nl').2 hlF
    have sb := Heap.SameBut.update s₂.heap st (Obj.mapSeq (·.push (.ref a)))
    obtain ⟨c2, hc2⟩ : ∃ c2, (s₂.heap.update st (Obj.mapSeq (·.push (.ref a)))).get? st = some (seqObj "list" (kA.push (.ref a)) c2) := ⟨_, get?_update_seq ns2 (·.push (.ref a))⟩
    refine wpAny_bind (listUpdate_at ns2 rfl ?_ (Nat.le_trans hz hZ) (by rw [Array.size_push]; omega))
    refine wpAny_pure ⟨rfl, kA.push (.ref a), c2, hJ s₂ _ s₂.toks j2, (kg.trans up).same hst sb.2, hc2, (sb.2 l hne.symm).trans nl2, ?_⟩
    rw [show (kA.push (Value.ref a)).toList = kA.toList ++ [.ref a] by simp, show ks.take (j + 1) = ks.take j ++ [d] by rw [List.take_add_one, hd]; rfl]
    refine each_snoc (R := R (s₂.heap.update st (Obj.mapSeq (·.push (.ref a))))) ⟨a, o, rfl, has, haF, (sb.2 a has).trans hao, hr⟩ (hk.mono ?_)
    rintro u d' ⟨b, ob, rfl, hb1, hb2, hb3, hb4⟩
    exact ⟨b, ob, rfl, hb1, hb2, (sb.2 b hb1).trans ((up _ _ hb3).2 hb2), hb4⟩
  case done =>
    rintro s₁ ⟨kA, e, j1, kg, ns', nl', hk⟩
    have hk' : EachIs (fun v d => ∃ as, Reads s₁.heap v d as) kA.toList ks := by
      rw [show ks.take (0 + its.length) = ks from List.take_of_length_le (by omega)] at hk
      refine hk.mono ?_
      rintro u d ⟨b, ob, rfl, _, _, hb3, hb4⟩
      exact hb4 _ hb3
    have hsz : kA.size = its.length := by
      have q := hk'.length
      rw [Array.length_toList] at q; omega
    try dsimp only
    refine wpAny_bind (listItems_at ns' rfl ?_)
    obtain ⟨G, g1, g2⟩ := L2.restrict s₁.heap fun b => decide (b ≠ st)
    have kG : KeepsBut l G s₁.heap := fun b o _ q => by
      by_cases z : b = st
      · rw [g2 b (decide_eq_false (by simpa using z))] at q; cases q
      · rw [g1 b (decide_eq_true z)] at q; exact q
    refine keyH_end (κ := dataKind s₁.heap ks) (h₁ := G) kG (g2 st (by simp)) ns' nl' hne (SortsAt.data (s := s₁) hk' hal hsk hu) hsz hZ fun g3 tk3 c k3 n3 => fin _ _ c (hJ s₁ g3 tk3 j1) ?_ n3 ⟨s₁.heap, kA.toList, hal, rfl, hk'⟩
    intro b o hb q
    have ne : b ≠ st := fun z => by rw [z, hst] at q; cases q
    obtain ⟨⟨sl, q1⟩, q2⟩ := kg b o hb q
    exact ⟨⟨sl, k3 b _ hb ((g1 b (decide_eq_true ne)).trans q1)⟩, fun n => k3 b _ hb ((g1 b (decide_eq_true ne)).trans (q2 n))⟩
theorem kn_tree {f : Value} {n : Nat} (hJ : ∀ s g tk, J s → J { s with heap := g, toks := tk }) (j0 : J s) (hF : ∀ b ∈ F, b < s.heap.objs.size ∧ b ≠ l) (ho : s.heap.get? l = some (seqObj "list" its.toArray n)) (hlen : ks.length = its.length) (hZ : its.length ≤ sizeLine) (hal : AllAlike ks) (hsk : Sortable ks) (hu : ∀ d ∈ ks, A.units + d.depth < cLine)
    (one : ∀ (i : Nat) (v : Value) (d : PyData), its[i]? = some v → ks[i]? = some d → ∀ (s₁ : Shared), J s₁ → KBx l F s.heap s₁.heap → wpAny (model prog w) A (call f [v]) (KeyNew J F d s₁) (fun _ _ => False) s₁)
    (fin : ∀ s₁ out c, J s₁ → KBx l F s.heap s₁.heap → s₁.heap.get? l = some (seqObj "list" (List.toArray out) c) → KeyedOut false ks its out → Z (.done (.ret .none)) s₁) :
    wpAny (model prog w) A (ksk_tree l f false) Z E s := by
  have hl : l < s.heap.objs.size := Heap.lt_size ho
  obtain ⟨e1, q1⟩ : ∃ e1, (s.heap.update l (Obj.mapSeq fun _ => (#[] : Array Value))).get? l = some (seqObj "list" #[] e1) := ⟨_, get?_update_seq ho fun _ => #[]⟩
  have zS : ((s.heap.update l (Obj.mapSeq fun _ => (#[] : Array Value))).push (seqObj "tuple" its.toArray 0)).objs.size = s.heap.objs.size + 1 := by rw [size_push', Heap.size_update]
  unfold ksk_tree; refine wpAny_bind (listItems_at ho rfl ?_)
  refine wpAny_bind (listUpdate_at ho rfl ?_ (by rw [List.size_toArray]; exact hZ) (Nat.zero_le _)); refine wpAny_bind (seqEpoch_at q1 rfl ?_)
  refine wpAny_bind (wpAny_newTuple ?_ (by show its.length ≤ _; exact hZ)); refine wpAny_bind (wpAny_newList ?_ (Nat.zero_le _))
  refine wpAny_holding ?_
  refine kn_rest (ks := ks) (F := F) (h0 := s.heap) (s := { s with heap := ((s.heap.update l (Obj.mapSeq fun _ => (#[] : Array Value))).push (seqObj "tuple" its.toArray 0)).push (seqObj "list" #[] 0) }) (st := ((s.heap.update l (Obj.mapSeq fun _ => (#[] : Array Value))).push (seqObj "tuple" its.toArray 0)).objs.size)
    hJ (hJ s _ s.toks j0) (fun b o hb q => ⟨⟨o.slots, sortingHeap_old hb q⟩, fun _ => sortingHeap_old hb q⟩) (Heap.get?_none_of_le (by rw [zS]; exact Nat.le_succ _)) (Heap.get?_push_size _ rfl) (Heap.get?_push_of_some _ (Heap.get?_push_of_some _ q1)) (by rw [zS]; exact Nat.ne_of_gt (Nat.lt_succ_of_lt hl)) ?_ (fun z => (hF l z).2 rfl) hlen hZ hal hsk hu one fin
  rw [zS]
  exact fun z => Nat.lt_irrefl _ (Nat.lt_trans (Nat.lt_succ_self _) (hF _ z).1)
end
section
variable {prog : Program} {w : World} {A : Around} {E : Value → Shared → Prop} {s : Shared} {β : Type} {its : List Value} {bs : List β} {R : Value → β → Prop} {J : Shared → Prop} {F : List Addr}
theorem kn_turns {l : Addr} {f : Value} {k : β → PyData} {h0 : Heap} (e : EachIs R its bs)
    (one : ∀ (v : Value) (x : β), R v x → x ∈ bs → ∀ (s₁ : Shared), J s₁ → KBx l F h0 s₁.heap → wpAny (model prog w) A (call f [v]) (KeyNew J F (k x) s₁) (fun _ _ => False) s₁) :
    ∀ (i : Nat) (v : Value) (d : PyData), its[i]? = some v → (bs.map k)[i]? = some d → ∀ (s₁ : Shared), J s₁ → KBx l F h0 s₁.heap → wpAny (model prog w) A (call f [v]) (KeyNew J F d s₁) (fun _ _ => False) s₁ := by
  intro i v d hv hd s₁ j1 kb
  rw [List.getElem?_map] at hd
  obtain ⟨x, q, rfl⟩ := Option.map_eq_some_iff.mp hd
  have m : (v, x) ∈ its.zip bs := List.mem_of_getElem? (i := i) (by rw [List.getElem?_zip_eq_some]; exact ⟨hv, q⟩)
  exact one v x (e.zip _ m) (List.mem_of_getElem? q) s₁ j1 kb
/-- sorted(xs, key=f) -/
theorem sorted_key_new {a q : Addr} {Q : Value → Shared → Prop} (k : β → PyData) (hJ : ∀ s g tk, J s → J { s with heap := g, toks := tk }) (j0 : J s) (hF : ∀ b ∈ F, b < s.heap.objs.size) (hl : s.heap.IsList a its.toArray) (e : EachIs R its bs) (hal : AllAlike (bs.map k)) (hk : Sortable (bs.map k)) (hL : bs.length ≤ sizeLine) (hu : ∀ x ∈ bs, A.units + 2 + (k x).depth < cLine)
    (one : ∀ (v : Value) (x : β), R v x → x ∈ bs → ∀ (s₁ : Shared), J s₁ → KB F s.heap s₁.heap → wpAny (model prog w) A.in1.in1 (call (.ref q) [v]) (KeyNew J F (k x) s₁) (fun _ _ => False) s₁)
    (fin : ∀ s₁ out c, J s₁ → KB F s.heap s₁.heap → s₁.heap.get? (s.heap.objs.size + 1) = some (seqObj "list" (List.toArray out) c) → out.length = bs.length → EachIs R out (bs.mergeSort (dataLe false k)) → Q (.ref (s.heap.objs.size + 1)) s₁) :
    wpAny (model prog w) A (call (.builtin "sorted") [.ref a] [(Str.ofString "key", .ref q)]) Q E s := by
  have lb : (bs.map k).length = its.length := by rw [List.length_map]; exact e.length.symm
  have up : ∀ {g : Heap}, KBx (s.heap.objs.size + 1) F (copyHeap s.heap its) g → KB F s.heap g := fun {g} kb b o z => kb b o (Nat.ne_of_lt (Nat.lt_succ_of_lt (Heap.lt_size z))) (copyHeap_old z)
  have zc : s.heap.objs.size ≤ (copyHeap s.heap its).objs.size := Nat.le_of_lt (Nat.lt_of_succ_lt (Heap.lt_size (copyHeap_at s.heap its)))
  refine sorted_of_sort hl (by rw [e.length]; exact hL) (ksk_s1 _ _) (fun _ => ksk_l1 _ _) fun E' => ?_
  rw [ksk_t1]
  refine kn_tree (ks := bs.map k) (F := F) (s := { s with heap := copyHeap s.heap its }) hJ (hJ s _ s.toks j0) (fun b z => ⟨Nat.lt_of_lt_of_le (hF b z) zc, Nat.ne_of_lt (Nat.lt_succ_of_lt (hF b z))⟩) (copyHeap_at s.heap its) lb (by rw [e.length]; exact hL) hal hk (bound_map (A := A.in1.in1) hu) (kn_turns e fun v x hR hx s₁ j1 kb => one v x hR hx s₁ j1 (up kb)) fun s₁ out c j1 kb hD ko => ⟨rfl, ?_⟩
  exact fin s₁ out c j1 (up kb) hD ((ko.length lb).trans e.length) (keyedOut_each k ko e)
end
/-! ### the lambda handed to sorted -/
open PySem.Spec L2 LamX NdefX
abbrev lamF (X : Cx) (params : Arguments) (scope : Scope) (c' : Addr) : NF := ⟨"<lambda>", X.env.qual ++ "<lambda>", params, [], scope, cloFrom X.env.cells scope.names [], c'⟩
abbrev keyD (key : Str → List Int) (z : Str) : PyData := .list ((key z).map .int)
/-- sorted(xs, key=lambda y: body): xs texts, the keys lists of ints -/
def tSL (K : PySem.W.Frag) (T : List (Addr × Str)) (N : List Str) (js : List Nat) (ta : TA) (tb : TE) : TE := fun σ H Q => ta σ H fun vs H1 => ∃ (a : Addr) (xs : List Str) (key : Str → List Int), vs = [.ref a] ∧ SqL K H1 a (xs.map V.str) ∧ Tabs T H1 ∧
  (∀ z ∈ xs, tb (startF N [.str z] (js.map (slotAt σ))) (fun _ => none) fun v H' => ∃ l, v = .ref l ∧ H' l = some (.lst ((key z).map V.int))) ∧
  ∀ H2 p, ExtN H1 H2 → Tabs T H2 → H2 p = none → Q (.ref p) (upd H2 p (.lst ((xs.mergeSort (dataLe false (keyD key))).map V.str)))
theorem sqL_extN {K : PySem.W.Frag} {H H' : Hp} {a : Addr} {xs : List V} (h : SqL K H a xs) (e : ExtN H H') : SqL K H' a xs := by
  rcases h with (h | ⟨o, h⟩) | h
  · exact .inl (.inl (e _ _ h fun ps z => by cases z))
  · exact .inl (.inr ⟨o, e _ _ h fun ps z => by cases z⟩)
  · exact .inr h
theorem vals_strs : ∀ {xs : List Str} {its : List Value}, Vals (xs.map V.str) its → EachIs (fun v z => ∃ t, v = Value.str z t) its xs
  | [], _, .nil => .nil
  | x :: xs, _, .cons r t => .cons r (vals_strs t)
theorem strs_vals : ∀ {xs : List Str} {its : List Value}, EachIs (fun v z => ∃ t, v = Value.str z t) its xs → Vals (xs.map V.str) its
  | [], _, .nil => .nil
  | x :: xs, _, .cons r t => .cons r (strs_vals t)
theorem reads_ints {h : Heap} : ∀ {ns : List Int} {its : List Value}, Vals (ns.map V.int) its → ReadsAll h its (ns.map PyData.int) []
  | [], _, .nil => .nil
  | n :: ns, _, .cons ⟨t, rfl⟩ r => by
    have q := ReadsAll.cons (Reads.int (h := h) n t) (reads_ints r)
    exact q
section
variable {X : Cx}
theorem pe_sortLam {T : List (Addr × Str)} {c P : Addr} {k : Nat} {x y : Str} {e : Expr} {ta : TA} {tb : TE} {params : Arguments} {body : Expr} {scope : Scope} {lpos kpos p pos : Pos} {N fr : List Str} {js : List Nat}
    (hg : Gl X x) (hm : X.mg x = none) (hv : bootBuiltins x = some (.builtin "sorted")) (hA : PA X [e] ta) (TB : TabB X.base X.mg c P) (hcode : X.env.code = .ref c) (hmT : (P, X.env.qual ++ "<lambda>") ∈ T) (huT : ∀ p ∈ T, p.1 = P → p.2 = X.env.qual ++ "<lambda>")
    (hr : Room (k + 3) X.A) (hdef : defaultsOf params X.env = ([], [])) (S : NScope N [y] fr scope) (hfree : ndefB X.env.scope scope fr = true) (hjs : js.map (fun j => X.N[j]?) = fr.map some)
    (hbind : ∀ (q : Str) (cl : List (Str × Addr)) (pm cv ctv u : Value), bindArgs (PySem.W.kla_fn "<lambda>" q params body scope cl pm cv ctv) ⟨[u], []⟩ = pure [(y, u)])
    (hbody : ∀ (A : Around) (outer : List Env) (s : Shared) (H : Hp) (E : XK) (f c' : Addr), Room k (A.deeper (envF (lamF X params scope c') f s.heap.objs.size)) → PE (ncx C8.CX0 X.prog X.w X.K X.mg X.base N (lamF X params scope c') f A outer s H E) body tb)
    (hn : x ≠ "__name__" := by decide) (hdb : (x == ("__debug__" : Str)) = false := by decide)
    (hpl : (backTo pos (starEach [e] X.env)).any (·.1) = false := by rfl) (hsa : backTo pos (starEach [e] X.env) = (false, eval e X.env) :: backTo pos (starEach [] X.env) := by rfl) :
    PE X (.Call (.Name x p) [e] [⟨some "key", .Lambda params body scope lpos, kpos⟩] pos) (tSL X.K T N js ta tb) := by
  refine ⟨fun pins s σ H Q I h => ?_⟩
  refine wpAny_Call_Name_kw (ld_blt I hg hm hv ?_ hn hdb)
  refine PyProof.Rows.callWith_kw (thn (hA.run pos pins s σ H _ I h) fun us s1 ⟨vs, H1, I1, r1, q1⟩ => ?_) hsa hpl rfl rfl
  obtain ⟨a, xs, key, rfl, hs, hT, hk, q⟩ := q1
  obtain rfl := Vals.ref1 r1
  show wpAny _ _ (evalAll ((do let v ← eval (.Lambda params body scope lpos) X.env; standAt pos; pure v) :: [])) _ _ s1
  refine wpAny_evalAll_cons (wpAny_bind (lam_make2 I1 TB hcode hmT huT hT hdef (fun y hy e => (ndef_free hfree y hy e).elim (fun z => I1.ok.has _ (.inl z)) fun z => I1.ok.has _ (.inr z)) fun f c' pm ctv H2 s2 I2 eN T2 hf hfn hfr hco => wpAny_bind (wpAny_standAt (wpAny_pure ?_))))
  refine wpAny_evalAll_nil ?_
  show wpAny _ _ (call (.builtin "sorted") [.ref a] [(Str.ofString "key", .ref f)]) _ _ s2
  have hs2 := sqL_extN hs eN
  obtain ⟨its, rv, hl, hz⟩ := I2.list hs2
  have ev := vals_strs rv
  have zl : xs.length ≤ sizeLine := by rw [List.length_map] at hz; exact hz
  have cp : Caps X (cloFrom X.env.cells scope.names []) fr js := Caps.made I2.ok (ndef_free hfree) (ndef_fr hfree) hjs
  have hr2 : Room (k + 1) X.A.in1.in1 := (Room.in1 (k := k + 2) hr).in1
  have un := hr.un
  have fl : ∀ b ∈ frs X.stack, ∃ o, s2.heap.get? b = some o ∧ ∀ vs, o.data ≠ .fields vs := fun b z => (I2.env0.funs.mem z).2
  refine sorted_key_new (R := fun v z => ∃ t, v = Value.str z t) (F := frs X.stack) (keyD key) (J := fun s' => s'.os = s2.os ∧ AllBare s'.gens) (fun s g tk j => j) ⟨rfl, I2.bare⟩ (fun b z => let ⟨o, q, _⟩ := fl b z; Heap.lt_size q) hl.isList ev (AllAlike.of fun z z' => by unfold keyD; rw [alike]; exact alike_ints _ _) (Sortable.others fun z => ⟨(fun q => (by cases q)), (fun xs q => (by cases q))⟩) zl (fun z _ => ?_) (fun v z hv hz s₁ j1 up => ?_) fun s₁ out ce j1 up hat hlen ho => ?_
  · have e : (keyD key z).depth = 1 := by unfold keyD; rw [PyData.depth, depth_ints]
    rw [e]
    omega
  · obtain ⟨t, rfl⟩ := hv
    have kg : ∀ b o, H2 b = some o → ∀ u, s2.heap.get? b = some u → s₁.heap.get? b = some u := fun b o q u r => (up b u r).2 fun z => by rw [I2.stkFree b z] at q; cases q
    have u3 : Un (frs X.stack) [] H2 H2 s2.heap s₁.heap := ⟨fun b ob q _ n _ => (up b ob q).2 n, fun b ob q _ _ _ => (up b ob q).1, fun _ _ _ n _ => n, fun b ob q _ => let ⟨sl, r⟩ := (up b ob q).1; ⟨_, r⟩, fun _ _ q => q, fun _ _ _ q => q, fun _ ps q => ⟨#[], by rw [q]; simp⟩⟩
    have k3 : HOk X.prog X.w H2 s₁.heap := fun b o q => (I2.hok b o q).stay (fun d u hd r => hd.elim (fun z => kg d o (by rw [z]; exact q) u r) fun z => kg d _ z u r) (fun _ q => q) fun _ _ q => q
    have I3 : L2.Inv X pins σ H2 s₁ := I2.call' j1.1 u3 k3 j1.2 (fun b z => absurd z (by simp))
    have e3 := I3.env0
    have e4 : Env0 X.prog X.w X.K X.mg X.base X.A.in1.in1 X.stack s₁ (fun _ => none) := ⟨e3.in1.in1.frames, e3.mod, fun b o q => ⟨(e3.bs b o q).1, rfl⟩, e3.bsz, e3.funs, fun _ _ => rfl, (fun b o q => (by cases q)), e3.bare⟩
    have of1 : s₁.heap.get? f = some (PySem.W.kla_obj "<lambda>" (X.env.qual ++ "<lambda>") params body scope (cloFrom X.env.cells scope.names []) pm c' ctv) := (up _ _ hf).2 hfr
    obtain ⟨⟨oc, us', tc, hoc, hdc, hvc⟩, _, _⟩ := I3.hok c' _ hco
    have C3 := cells_of I3 cp
    have rc : codeAny (model X.prog X.w) X.A.in1.in1 (.call (.ref f) ⟨[.str z t], []⟩) (CR C8.CX0 X.stack X.prog X.w (fun _ => none) s₁ (fun v H' => ∃ l, v = .ref l ∧ H' l = some (.lst ((key z).map V.int))) C8.E0) s₁ := by
      refine PySem.W.kla_callFunE hr2.depth of1 rfl S.co S.gen rfl ⟨c', oc, us', tc, rfl, hoc, hdc, hvc⟩ ?_
      rw [hbind]
      refine wpAny_pure (wpAny_newFunctionEnv S.nocell (fun yy hy => by
        rw [List.mem_singleton] at hy
        rw [hy]
        exact S.par y List.mem_cons_self) (fun h₁ hns hsb => ⟨I3.nolimit.fresh _ hsb, ?_⟩) S.kind)
      show codeAny _ _ (.expr body (envF (lamF X params scope c') f s₁.heap.objs.size)) _ _
      have kp : ∀ b o, s₁.heap.get? b = some o → h₁.get? b = some o := fun b o e => hsb.extBut b o (Nat.ne_of_lt (Heap.lt_size e)) (Heap.get?_push_of_some _ e)
      have J := inv_startN (CX := C8.CX0) (E := C8.E0) (F := lamF X params scope c') (f := f) (tk := s₁.toks + 1) S hr2.hd e4 (vs := [.str z]) (us := [.str z t]) rfl (.cons ⟨t, rfl⟩ .nil) ⟨C3.len, fun y c q => ⟨rfl, (C3.all y c q).2⟩, C3.inj, C3.has⟩ hns kp
      refine PySem.W.kla_codeExpr (wpAny_mono ((hbody _ X.stack s₁ _ C8.E0 f c' (hr2.deeper _)).run [] _ _ _ _ J (hk z hz)) (fun v s' hq => ?_) fun e s' hq => hq)
      obtain ⟨w', H', J', rv, q⟩ := hq
      exact ⟨w', H', J'.os, J'.bare, J'.base, J'.hok, rv, q⟩
    refine wpAny_call (codeAny_mono rc fun r s' hq => ?_)
    cases r with
    | error e => exact (show False from hq).elim
    | ok fl =>
      cases fl with
      | next => exact False.elim hq
      | brk => exact False.elim hq
      | cont => exact False.elim hq
      | ret u =>
        obtain ⟨v, H', os, bare, un', hok, rv', l, rfl, hl'⟩ := hq
        obtain rfl : u = Value.ref l := rv'
        obtain ⟨zl', its', n', rvl, hob⟩ := hok l _ hl'
        have hn : s₁.heap.get? l = none := by
          cases q : s₁.heap.get? l with
          | none => rfl
          | some o =>
            have := un'.free l o q rfl (by simp)
            rw [hl'] at this
            cases this
        refine ⟨⟨os.trans j1.1, bare⟩, fun b o q => ⟨un'.any q rfl (by simp), fun n => un'.keep b o q rfl n (by simp)⟩, l, _, rfl, hn, fun z => ?_, hob, fun g hg => ?_⟩
        · obtain ⟨o, q, _⟩ := (e3.funs.mem z).2
          rw [hn] at q
          cases q
        · exact ⟨_, Reads.list hg rfl rfl (by simpa using reads_ints rvl)⟩
  · have nP : H2 (s2.heap.objs.size + 1) = none := I2.hok.fresh (Nat.le_succ _)
    have kg : ∀ b o, H2 b = some o → ∀ u, s2.heap.get? b = some u → s₁.heap.get? b = some u := fun b o q u r => (up b u r).2 fun z => by rw [I2.stkFree b z] at q; cases q
    have at_ : ∀ b o, H2 b = some o → upd H2 (s2.heap.objs.size + 1) (.lst ((xs.mergeSort (dataLe false (keyD key))).map V.str)) b = some o := fun b o q => by rw [upd_ne (ne_of_none q nP)]; exact q
    have u3 : Un (frs X.stack) [] H2 (upd H2 (s2.heap.objs.size + 1) (.lst ((xs.mergeSort (dataLe false (keyD key))).map V.str))) s2.heap s₁.heap :=
      ⟨fun b ob q _ n _ => (up b ob q).2 n, fun b ob q _ _ _ => (up b ob q).1, fun b ob q n _ => by rw [upd_ne (Nat.ne_of_lt (Nat.lt_succ_of_lt (Heap.lt_size q)))]; exact n, fun b ob q _ => let ⟨sl, r⟩ := (up b ob q).1; ⟨_, r⟩, fun _ _ q => at_ _ _ q, fun _ _ _ q => at_ _ _ q, fun b ps q => ⟨#[], by rw [at_ _ _ q]; simp⟩⟩
    have k3 : HOk X.prog X.w (upd H2 (s2.heap.objs.size + 1) (.lst ((xs.mergeSort (dataLe false (keyD key))).map V.str))) s₁.heap := fun b o q => by
      by_cases hb : b = s2.heap.objs.size + 1
      · rw [hb, upd_same] at q
        cases q
        rw [hb]
        exact ⟨by rw [List.length_map, ← ho.length, hlen]; exact zl, out, ce, strs_vals ho, hat⟩
      · rw [upd_ne hb] at q
        exact (I2.hok b o q).stay (fun d u hd r => hd.elim (fun z => kg d o (by rw [z]; exact q) u r) fun z => kg d _ z u r) (fun _ q => at_ _ _ q) fun _ _ q => at_ _ _ q
    exact ⟨.ref _, _, I2.call' j1.1 u3 k3 j1.2 (fun b z => absurd z (by simp)), rfl, q _ _ eN T2 nP⟩
end
end ShL
set_option Elab.async false
set_option linter.all false
set_option maxRecDepth 100000
set_option maxHeartbeats 4000000
namespace Sh
open PySem PySem.Spec PyProof.Rows L2
/-! ### own == and != -/
/-- a class of the text's own with an __eq__ at f and no __ne__ -/
structure EqC (K : PySem.W.Frag) (C f : Addr) : Prop where
  eq : PySem.W.findIn K (.ref C) "__eq__" = some (some (.ref f))
  fn : PySem.W.isFn K (.ref f) = true
  ne : PySem.W.findIn K (.ref C) "__ne__" = some (some (.builtin "object.__ne__"))
  ob : PySem.W.mroIn K C (.type "object") = some true
  nl : PySem.W.mroIn K C (.type "list") = some false
  nt : PySem.W.mroIn K C (.type "tuple") = some false
section
variable {prog : Program} {w : World} {A : Around} {E : Value → Shared → Prop} {s : Shared} {K : PySem.W.Frag} {x C f : Addr} {ox : Obj} {od : Option Obj} {b : Value}
theorem ne_entry {Q : Fin → Shared → Prop} (e : EqC K C f) (X : K.In s.heap) (I : PySem.W.InstAt s.heap x ox C od) (hu : A.units < cLine)
    (h : wpAny (model prog w) A (call (.ref f) [.ref x, b]) (fun v s' => ∃ k, v = .bool k ∧ Q (.done (.ret (.bool (!k)))) s') E s) : wpAny (model prog w) A (Builtin.«object.__ne__» ⟨[.ref x, b], []⟩) Q E s := by
  unfold Builtin.«object.__ne__»
  repeat (first
    | with_reducible refine wpAny_cRoomFor hu ?_
    | (refine wpAny_bind (m := callSpecialIfBound? (.ref x) (Str.ofString "__eq__") [b]) (PySem.W.ifBound_K X I e.eq e.fn (wpAny_mono h (fun r s' hr => by
          obtain ⟨k, rfl, hq⟩ := hr
          repeat (first | exact hq | exact wpAny_pure hq | exact wpAny_truthy_bool hq | (refine wpAny_bind (m := truthy (.bool _)) (wpAny_truthy_bool ?_)) | wp_step)) fun _ _ e => e)))
    | wp_step)
theorem rc_ne {Q : Value → Shared → Prop} {tb : Value} (e : EqC K C f) (X : K.In s.heap) (I : PySem.W.InstAt s.heap x ox C od) (hu : A.units + 1 < cLine) (hb : PySem.W.Looks (model prog w) s.heap (typeOf b) tb) (hn : PySem.W.notFirst K C tb = true)
    (h : wpAny (model prog w) A.in1 (call (.ref f) [.ref x, b]) (fun v s' => ∃ k, v = .bool k ∧ Q (.bool (!k)) s') E s) : wpAny (model prog w) A (richCompare .NotEq (.ref x) b) Q E s := by
  have one : wpAny (model prog w) A (tryCompare (.ref x) "__ne__" b) (fun r s' => ∃ v, r = some v ∧ Q v s') E s := by
    unfold tryCompare
    refine wpAny_bind (NtL.csib (I.type.andThen (PySem.W.looks_findIn X e.ne)) (F.cmp_object.ne.bind _) (wpAny_call (codeAny_call_builtin F.cmp_object.ne.plain F.cmpEntry_ne
      (PySem.W.check_slot F.cmpKind_ne F.cmpSplit_ne (I.type.andThen (PySem.W.looks_mroIn X e.ob)) (F.cmpArgs_ne _ _) (ne_entry (A := A.in1) e X I hu (wpAny_mono h (fun v s' hv => ?_) fun _ _ e => e))))))
    obtain ⟨k, rfl, hq⟩ := hv
    exact ⟨k, rfl, wpAny_pure ⟨_, rfl, hq⟩⟩
  simp only [richCompare, cmpInfo_NotEq, oneThing_ref]
  refine wpAny_holding (wpAny_bind (wpAny_cRoomFor (Nat.lt_of_succ_lt hu) ?_))
  refine wpAny_bind (I.type.here (wpAny_bind (hb.here ?_)))
  have fin : wpAny (model prog w) A (tryCompare (.ref x) "__ne__" b) (fun r s' => ∃ v, r = some v ∧ Q v s') E s := one
  split
  · rename_i q
    have e2 : PySem.W.subIn K tb (.ref C) = some false := by
      rcases Bool.or_eq_true_iff.mp hn with e | e
      · rw [beq_iff_eq.mp e] at q; simp at q
      · exact beq_iff_eq.mp e
    refine wpAny_bind ((PySem.W.looks_subIn X e2).here ?_)
    simp only [Bool.false_eq_true, if_false]
    refine wpAny_bind (wpAny_mono one (fun r s' z => ?_) fun _ _ e => e)
    obtain ⟨v, rfl, hq⟩ := z
    exact wpAny_pure hq
  · refine wpAny_bind (wpAny_pure ?_)
    simp only [Bool.false_eq_true, if_false]
    refine wpAny_bind (wpAny_mono one (fun r s' z => ?_) fun _ _ e => e)
    obtain ⟨v, rfl, hq⟩ := z
    exact wpAny_pure hq
end
section
variable {X : Cx} {CX : CXT} {k : Nat} {C f : Addr} {fd : FuncData} {ps : List Str} {sp : Sp}
def rEqO (C : Addr) (sp : Sp) : R2 := fun x y H Q => ∃ a b dx dy fs gs, x = .ref a ∧ y = .ref b ∧ H a = some (.ins C dx fs) ∧ H b = some (.ins C dy gs) ∧ sp [.ref a, .ref b] H (fun v H' => ∃ k, v = .bl k ∧ Q (.bl k) H') (fun _ _ _ => False)
def rNeO (C : Addr) (sp : Sp) : R2 := fun x y H Q => ∃ a b dx dy fs gs, x = .ref a ∧ y = .ref b ∧ H a = some (.ins C dx fs) ∧ H b = some (.ins C dy gs) ∧ sp [.ref a, .ref b] H (fun v H' => ∃ k, v = .bl k ∧ Q (.bl (!k)) H') (fun _ _ _ => False)
theorem run_eqO {A : Around} {pins : List (Addr × Obj)} {σ : L2.St} {H : Hp} {s : Shared} {a b : Addr} {R : Bool → Hp → Prop} (F : FnOk X.prog X.w X.K X.mg X.base CX k f fd ps sp) (hb : Binds X.K fd ps []) (hx : Passes CX X (fun _ _ _ => False)) (hr : Room k A) (hf : A.frames = X.A.frames) (I : L2.Inv X pins σ H s)
    (h : sp [.ref a, .ref b] H (fun v H' => ∃ k, v = .bl k ∧ R k H') (fun _ _ _ => False)) : wpAny (model X.prog X.w) A (call (.ref f) [.ref a, .ref b]) (fun v s' => ∃ k, v = .bool k ∧ ∃ H', L2.Inv X pins σ H' s' ∧ R k H') X.xe s := by
  have e := I.env0
  have e0 : Env0 X.prog X.w X.K X.mg X.base A X.stack s H := ⟨by rw [hf]; exact e.frames, e.mod, e.bs, e.bsz, e.funs, e.frf, e.hok, e.bare⟩
  have hl := F.len _ _ _ _ h
  refine wpAny_call (codeAny_mono (F.run A X.stack s H ⟨[.ref a, .ref b], []⟩ [.ref a, .ref b] [.ref a, .ref b] _ _ hr e0 (by
    have := hb s [.ref a, .ref b] I.kIn (by simpa using hl)
    simpa using this) (.cons rfl (.cons rfl .nil)) h) fun r s' hq => ?_)
  cases r with
  | error e => exact hx pins σ H s e s' I hq
  | ok fl =>
    cases fl with
    | ret w =>
      obtain ⟨z, H', I', rz, k, ez, q⟩ := I.after hq
      subst ez
      cases rz
      exact ⟨k, rfl, H', I', q⟩
    | next => exact False.elim hq
    | brk => exact False.elim hq
    | cont => exact False.elim hq
theorem op_eqO (e : EqC X.K C f) (F : FnOk X.prog X.w X.K X.mg X.base CX k f fd ps sp) (hb : Binds X.K fd ps []) (hx : Passes CX X (fun _ _ _ => False)) (hr : Room k X.A) : OpR X (compareOp .Eq) (rEqO C sp) := by
  intro pins s σ H x y v u Q I rx ry h
  obtain ⟨a, b, dx, dy, fs, gs, rfl, rfl, ha, hb', hs⟩ := h
  cases rx
  cases ry
  obtain ⟨mA, J, _⟩ := ins_get I.hok ha
  obtain ⟨mB, J', _⟩ := ins_get I.hok hb'
  obtain ⟨od, J, _⟩ := J.look
  obtain ⟨od', J', _⟩ := J'.look
  obtain ⟨m, hF⟩ := I.fr
  show wpAny (model X.prog X.w) X.A (richCompare .Eq (.ref a) (.ref b)) (EP X pins σ Q) X.xe s
  refine PySem.W.cmp_K (op := .Eq) (tb := .ref C) hr.units0 hF I.ok.mod.kin J J'.type (by simp [PySem.W.notFirst]) e.eq e.fn (wpAny_mono (run_eqO F hb hx hr rfl I hs) (fun v s' q => ?_) fun _ _ z => z)
  obtain ⟨k, rfl, H', I', q⟩ := q
  exact ⟨.bl k, H', I', rfl, q⟩
theorem op_neO (e : EqC X.K C f) (F : FnOk X.prog X.w X.K X.mg X.base CX k f fd ps sp) (hb : Binds X.K fd ps []) (hx : Passes CX X (fun _ _ _ => False)) (hr : Room (k + 1) X.A) : OpR X (compareOp .NotEq) (rNeO C sp) := by
  intro pins s σ H x y v u Q I rx ry h
  obtain ⟨a, b, dx, dy, fs, gs, rfl, rfl, ha, hb', hs⟩ := h
  cases rx
  cases ry
  obtain ⟨mA, J, _⟩ := ins_get I.hok ha
  obtain ⟨mB, J', _⟩ := ins_get I.hok hb'
  obtain ⟨od, J, _⟩ := J.look
  obtain ⟨od', J', _⟩ := J'.look
  have un := hr.un
  show wpAny (model X.prog X.w) X.A (richCompare .NotEq (.ref a) (.ref b)) (EP X pins σ Q) X.xe s
  refine rc_ne (tb := .ref C) e I.kIn J (by omega) J'.type (by simp [PySem.W.notFirst]) (wpAny_mono (run_eqO F hb hx hr.in1 rfl I hs) (fun v s' q => ?_) fun _ _ z => z)
  obtain ⟨k, rfl, H', I', q⟩ := q
  exact ⟨k, rfl, .bl (!k), H', I', rfl, q⟩
end
/-! ### an own == that returns NotImplemented: of a list -/
section
variable {X : Cx} {C f : Addr} {fd : FuncData}
theorem run_ni {P : Program} {w : World} {K : PySem.W.Frag} {mg : Str → Option Value} {base : Heap} {qual : Str} {st : Stmt} {N : List Str} {c : Expr} {rest : List Stmt} {p p2 p3 : Pos} {tt : TT} {A : Around} {outer : List Env} {s : Shared} {H : Hp} {us : List Value} {vs : List V} {R : Hp → Prop}
    (F : Fun K "__eq__" qual st f fd) (S : FnScope N ["self", "other"] (defScope st)) (hbd : defBody st = .If c [.Return (some (.Name "NotImplemented" p)) p2] [] p3 :: rest) (hbi : Binds K fd ["self", "other"] [])
    (hg : (defScope st).names.lookup ("NotImplemented" : Str) = some .globalImplicit) (hm : mg "NotImplemented" = none)
    (ht : ∀ (cdv : Value) (A : Around) (outer : List Env) (s : Shared) (H : Hp) (E : XK), Room 0 A → PT (cxOf CX0 P w K mg base N qual (defScope st) f cdv A outer s H E) c tt)
    (hr : Room 1 A) (e0 : Env0 P w K mg base A outer s H) (r : Vals vs us) (hl : vs.length = 2) (q : tt (L2.start N vs) H (fun b H' => b = true ∧ R H')) :
    wpAny (model P w) A (call (.ref f) us) (fun v s' => v = .notImplemented ∧ ∃ H', s'.os = s.os ∧ AllBare s'.gens ∧ Un (frs outer) [] H H' s.heap s'.heap ∧ HOk P w H' s'.heap ∧ R H') (fun _ _ => False) s := by
  have KX : K.In s.heap := e0.mod.kin.keeps fun b o z => (e0.bs b o z).1
  have hb := hbi s us KX (by rw [List.append_nil, ← r.length, hl]; rfl)
  obtain ⟨oc, od, kV, doc, pm, an, cdv, ct, osl, rfl, lk, hcd⟩ := F.ex
  have hl2 : vs.length = (["self", "other"] : List Str).length := hl
  have hkind : ∀ y ∈ (["self", "other"] : List Str).zip us, (defScope st).names.lookup y.1 = some .local ∨ ((defScope st).names.lookup y.1 = some .cell ∧ ((cellsFrom (s.heap.objs.size + 1) (defScope st).names []).lookup y.1).isSome = true) := fun y hy =>
    (S.par y.1 (List.of_mem_zip (a := y.1) (b := y.2) hy).1).imp id fun z => ⟨z, PySem.W.cellsFrom_some _ _ _ (.inl z)⟩
  rw [List.append_nil] at hb
  refine wpAny_call (codeAny_call_function hr.depth (KX _ _ lk) rfl S.co S.gen rfl (PySem.W.codeRec_of KX hcd) (hb _ _ _ _ (wpAny_newFunctionEnv_cells S.kind hkind fun env he s1 y => ?_)))
  subst he
  refine ⟨(e0.mod.nolimit.keeps fun b o z => (e0.bs b o z).1).keeps y.toInCall.keep, codeAny_func ?_⟩
  have I := inv_start (CX := CX0) (E := fun _ _ _ => False) S hr.hd e0 hl2 r y
  rw [hbd]
  refine wpAny_mono (wpAny_execs_cons (wpAny_If (thn ((ht cdv A outer s H (fun _ _ _ => False) (hr.mono (by decide))).run [] s1 _ H _ I q) fun d s2 ⟨H1, I1, ed, qn⟩ => ?_))) (fun fl s' hs => hs) fun e s' hs => hs
  subst ed
  refine wpAny_execs_cons (wpAny_Return_some (ld_blt I1 hg hm rfl ?_))
  exact ⟨rfl, H1, I1.os, I1.bare, I1.base, I1.hok, qn⟩
theorem sub_list {K : PySem.W.Frag} {C : Addr} : PySem.W.subIn K (.type "list") (.ref C) = some false := by
  have e : fastBuiltinMro "list" = some [.type "list", .type "object"] := by decide +kernel
  show (fastBuiltinMro "list").map (·.contains (.ref C)) = some false
  rw [e]
  first
    | rfl
    | simp
theorem list_eq_ins {prog : Program} {w : World} {A : Around} {E : Value → Shared → Prop} {s : Shared} {K : PySem.W.Frag} {x b C : Addr} {ox ob : Obj} {od : Option Obj} {Q : Option Value → Shared → Prop} (X : K.In s.heap) (I : PySem.W.InstAt s.heap x ox C od) (nl : PySem.W.mroIn K C (.type "list") = some false)
    (hb : s.heap.get? b = some ob) (hc : ob.cls = .type "list") (h : Q none s) : wpAny (model prog w) A (tryCompare (.ref b) "__eq__" (.ref x)) Q E s := by
  refine wpAny_tryCompare_declines (show s.TypeIs (.ref b) "list" from ⟨ob, hb, hc⟩) F.slot_list_eq (GQ.call_here F.slot_list_eq ⟨ob, hb, hc⟩ F.entry_list_eq (F.args_list_eq_2 _ _) ?_)
  have L : PySem.W.Looks (model prog w) s.heap (isInstance (.ref x) (.type "list")) false := I.type.andThen (PySem.W.looks_mroIn X nl)
  unfold Builtin.«list.__eq__»
  repeat (first | with_reducible refine wpAny_bind (L.here ?_) | wp_step)
  exact ⟨rfl, h⟩
/-- o == xs, where o's own == gives NotImplemented: False -/
def rEqNL (N : List Str) (C : Addr) (tt : TT) : R2 := fun x y H Q => ∃ a b dx fs xs, x = .ref a ∧ y = .ref b ∧ H a = some (.ins C dx fs) ∧ H b = some (.lst xs) ∧
  tt (L2.start N [x, y]) H (fun k H' => k = true ∧ H' a = some (.ins C dx fs) ∧ H' b = some (.lst xs) ∧ Q (.bl false) H')
theorem op_eqNL {qual : Str} {st : Stmt} {N : List Str} {c : Expr} {rest : List Stmt} {p p2 p3 : Pos} {tt : TT} (e : EqC X.K C f)
    (F : Fun X.K "__eq__" qual st f fd) (S : FnScope N ["self", "other"] (defScope st)) (hbd : defBody st = .If c [.Return (some (.Name "NotImplemented" p)) p2] [] p3 :: rest) (hbi : Binds X.K fd ["self", "other"] [])
    (hg : (defScope st).names.lookup ("NotImplemented" : Str) = some .globalImplicit) (hm : X.mg "NotImplemented" = none)
    (ht : ∀ (cdv : Value) (A : Around) (outer : List Env) (s : Shared) (H : Hp) (E : XK), Room 0 A → PT (cxOf CX0 X.prog X.w X.K X.mg X.base N qual (defScope st) f cdv A outer s H E) c tt) (hr : Room 1 X.A) : OpR X (compareOp .Eq) (rEqNL N C tt) := by
  intro pins s σ H x y v u Q I rx ry h
  obtain ⟨a, b, dx, fs, xs, rfl, rfl, ha, hb, hq⟩ := h
  cases rx
  cases ry
  have hab : a ≠ b := ne_of ha hb (by intro z; cases z)
  obtain ⟨mA, J, _⟩ := ins_get I.hok ha
  obtain ⟨od, J, _⟩ := J.look
  obtain ⟨_, its, n, _, hob⟩ := I.hok b _ hb
  have un := hr.un
  have one : wpAny (model X.prog X.w) X.A (tryCompare (.ref a) "__eq__" (.ref b)) (fun r s' => r = none ∧ ∃ H', L2.Inv X pins σ H' s' ∧ H' a = some (.ins C dx fs) ∧ H' b = some (.lst xs) ∧ Q (.bl false) H') X.xe s := by
    unfold tryCompare
    refine wpAny_bind (PySem.W.ifBound_K I.kIn J e.eq e.fn (wpAny_mono (run_ni F S hbd hbi hg hm ht hr I.env0 (us := [.ref a, .ref b]) (vs := [.ref a, .ref b]) (.cons rfl (.cons rfl .nil)) rfl hq) (fun v s' z => ?_) fun _ _ z => z.elim))
    obtain ⟨rfl, H', os, bare, un, hok, q1, q2, q3⟩ := z
    exact wpAny_pure ⟨rfl, H', I.call' os un hok bare (fun b z => absurd z (by simp)), q1, q2, q3⟩
  show wpAny (model X.prog X.w) X.A (richCompare .Eq (.ref a) (.ref b)) (EP X pins σ Q) X.xe s
  simp only [richCompare, cmpInfo_Eq, oneThing_ref]
  refine wpAny_holding (wpAny_bind (wpAny_cRoomFor (by omega) ?_))
  refine wpAny_bind (J.type.here ?_)
  refine wpAny_bind (wpAny_typeOf (show s.TypeIs (.ref b) "list" from ⟨_, hob, rfl⟩) ?_)
  have tail : ∀ s1, (∃ H', L2.Inv X pins σ H' s1 ∧ H' a = some (.ins C dx fs) ∧ H' b = some (.lst xs) ∧ Q (.bl false) H') → wpAny (model X.prog X.w) X.A (tryCompare (.ref b) "__eq__" (.ref a)) (fun r s' => r = none ∧ s' = s1) X.xe s1 ∧ wpAny (model X.prog X.w) X.A (isSame (.ref a) (.ref b)) (fun r s' => r = false ∧ s' = s1) X.xe s1 := by
    rintro s1 ⟨H', I1, q1, q2, _⟩
    obtain ⟨mB, J1, _⟩ := ins_get I1.hok q1
    obtain ⟨od1, J1, _⟩ := J1.look
    obtain ⟨_, its1, n1, _, hob1⟩ := I1.hok b _ q2
    exact ⟨list_eq_ins I1.kIn J1 e.nl hob1 rfl ⟨rfl, rfl⟩, PySem.SeqAt.wpAny_isSame_ref_other' hab J1.at_ hob1 (by intro z; injection z with z; exact absurd z (by decide)) ⟨rfl, rfl⟩⟩
  split
  · refine wpAny_bind ((PySem.W.looks_subIn I.kIn sub_list).here ?_)
    simp only [Bool.false_eq_true, if_false, Bool.not_false, if_true]
    refine wpAny_bind (m := tryCompare (.ref a) _ (.ref b)) (wpAny_mono one (fun r s1 z => ?_) fun _ _ e => e)
    obtain ⟨rfl, z⟩ := z
    refine wpAny_bind (m := tryCompare (.ref b) _ (.ref a)) (wpAny_mono (tail s1 z).1 (fun r s2 y => ?_) fun _ _ e => e)
    obtain ⟨rfl, rfl⟩ := y
    refine wpAny_bind (wpAny_rule (wpAny_bind (wpAny_mono (tail s2 z).2 (fun r s3 y => ?_) fun _ _ e => e)))
    obtain ⟨rfl, rfl⟩ := y
    obtain ⟨H', I1, _, _, q⟩ := z
    exact wpAny_pure ⟨.bl false, H', I1, rfl, q⟩
  · refine wpAny_bind (wpAny_pure ?_)
    simp only [Bool.false_eq_true, if_false, Bool.not_false, if_true]
    refine wpAny_bind (m := tryCompare (.ref a) _ (.ref b)) (wpAny_mono one (fun r s1 z => ?_) fun _ _ e => e)
    obtain ⟨rfl, z⟩ := z
    refine wpAny_bind (m := tryCompare (.ref b) _ (.ref a)) (wpAny_mono (tail s1 z).1 (fun r s2 y => ?_) fun _ _ e => e)
    obtain ⟨rfl, rfl⟩ := y
    refine wpAny_bind (wpAny_rule (wpAny_bind (wpAny_mono (tail s2 z).2 (fun r s3 y => ?_) fun _ _ e => e)))
    obtain ⟨rfl, rfl⟩ := y
    obtain ⟨H', I1, _, _, q⟩ := z
    exact wpAny_pure ⟨.bl false, H', I1, rfl, q⟩
end
end Sh
set_option Elab.async false
set_option linter.all false
set_option maxRecDepth 100000
set_option maxHeartbeats 4000000
namespace Sh
open PySem PySem.Spec PyProof.Rows L2
/-! ### (a, b, ..) = a list or tuple -/
section
variable {X : Cx} {pos : Pos}
def gUnE (K : PySem.W.Frag) (n : Nat) (t : TGs) : TG := fun v σ H Q => ∃ a xs, v = .ref a ∧ (SqL K H a xs ∨ SqT K H a xs) ∧ xs.length = n ∧ t xs σ H Q
theorem pg_unE {es : List Expr} {k : Nat} {t : TGs} {n : Nat} (hc : X.calm = true) (h : PGs X es t)
    (hn : (assignEach es X.env).length = n := by rfl) (hst : (assignEach es X.env).findIdx? (·.1) = none := by rfl) : PG X (.Tuple es k pos) (gUnE X.K n t) := by
  refine ⟨fun pins s σ H v u Q I r hw => ?_⟩
  obtain ⟨a, xs, e1, hq | hq, hl, hw⟩ := hw
  · exact (pg_unl hc h hn hst).run pins s σ H v u Q I r ⟨a, xs, e1, hq, hl, hw⟩
  · exact (pg_tup hc h hn hst).run pins s σ H v u Q I r ⟨a, xs, e1, hq, hl, hw⟩
/-! ### s * n -/
def repS (z : Str) (n : Nat) : Str := ⟨(List.replicate n z.cps.toList).flatten.toArray⟩
theorem fold_app (xs : List Nat) : ∀ (n : Nat) (acc : Array Nat), ((List.replicate n xs.toArray).foldl (· ++ ·) acc) = acc ++ (List.replicate n xs).flatten.toArray
  | 0, acc => by simp
  | n + 1, acc => by
    rw [List.replicate_succ, List.foldl_cons, fold_app xs n, List.replicate_succ, List.flatten_cons]
    apply Array.ext'
    simp
theorem repS_fold (z : Str) (n : Nat) : (⟨(List.replicate n z.cps).foldl (· ++ ·) #[]⟩ : Str) = repS z n := by
  have e := fold_app z.cps.toList n #[]
  rw [Array.toArray_toList] at e
  unfold repS
  rw [e]
  simp
theorem repS_len (z : Str) (n : Nat) : (repS z n).length = n * z.length := by
  show (List.replicate n z.cps.toList).flatten.toArray.size = n * z.cps.size
  simp
theorem op_mulS : OpR X (binaryOp .Mult) (fun x y H Q => ∃ (z : Str) (n : Nat), x = .str z ∧ y = .int (n : Int) ∧ n ≤ 1000 ∧ z.length ≤ 1000 ∧ Q (.str (repS z n)) H) := by
  intro pins s σ H x y v u Q I rx ry h
  obtain ⟨z, n, rfl, rfl, hn, hz, q⟩ := h
  obtain ⟨t, rfl⟩ := rx
  obtain ⟨k, rfl⟩ := ry
  have hle : n * z.length ≤ 1000 * 1000 := Nat.mul_le_mul hn hz
  refine P.mul_str (by rw [Bool.or_eq_false_iff]; exact ⟨decide_eq_false (by omega), decide_eq_false (by omega)⟩) (fun h1 _ h2 => ?_) (fun _ _ => ?_) ?_
  · have h3 : ((z.length : Nat) : Int) ≤ 1000 := by omega
    have h4 : (2 ^ 63 - 1 : Int) / (n : Int) ≥ 1000 := by
      have : (1000 : Int) * (n : Int) ≤ 2 ^ 63 - 1 := by omega
      exact (Int.le_ediv_iff_mul_le (by omega)).mpr this
    omega
  · have : ¬ z.length * ((n : Int)).toNat > 16777216 := by
      rw [Int.toNat_natCast, Nat.mul_comm]
      omega
    unfold Builtin.Str.tooLong
    exact decide_eq_false this
  · have el : (repS z n).length ≤ sizeLine := by rw [repS_len, sizeLine_eq]; omega
    split
    · rename_i h1
      have e0 : n = 0 := by omega
      subst e0
      have e : repS z 0 = Str.empty := rfl
      rw [← e]
      exact ⟨by rw [e]; decide, .str (repS z 0), H, I.tok _, ⟨_, rfl⟩, q⟩
    · split
      · rename_i h1 h2
        have e : repS z n = z := by
          rcases Bool.or_eq_true_iff.mp h2 with h3 | h3
          · have e1 : n = 1 := by
              have := beq_iff_eq.mp h3
              omega
            subst e1
            unfold repS
            simp
          · have e1 : z.length = 0 := beq_iff_eq.mp h3
            have e2 : z.cps.toList = [] := by
              apply List.eq_nil_of_length_eq_zero
              rw [Array.length_toList]
              exact e1
            have e3 : z = ⟨#[]⟩ := by
              obtain ⟨c⟩ := z
              obtain ⟨c⟩ := c
              cases e2
              rfl
            rw [e3]
            unfold repS
            simp
        exact ⟨.str z, H, I, ⟨_, rfl⟩, e ▸ q⟩
      · rw [repS_fold, Int.toNat_natCast]
        exact ⟨el, .str (repS z n), H, I.tok _, ⟨_, rfl⟩, q⟩
/-! ### s[::-1] -/
def revS (z : Str) : Str := ⟨z.cps.toList.reverse.toArray⟩
def tRevS (te : TE) : TE := fun σ H Q => te σ H fun x H1 => ∃ z, x = .str z ∧ z.length ≤ sizeLine ∧ Q (.str (revS z)) H1
theorem rev_indices (n : Nat) : Builtin.Str.strSliceIndices none none (-1) n = (List.range n).reverse := by
  unfold Builtin.Str.strSliceIndices
  show sliceRange ((n : Int) - 1) (-1) (-1) = _
  rw [PySem.W.krv_sliceRange, PySem.W.krv_range]
theorem pe_revS {e : Expr} {te : TE} {k : Nat} {p1 p2 p3 pos : Pos} (he : PE X e te) : PE X (.Subscript e (.Slice none none (some (.UnaryOp .USub (.Constant (.int 1) k p1) p2)) p3) pos) (tRevS te) := by
  refine ⟨fun pins s σ H Q I h => ?_⟩
  refine Subscript_ (thn (he.run pins s σ H _ I h) fun v s1 ⟨x, H1, I1, r1, q1⟩ => ?_)
  obtain ⟨z, rfl, hz, q⟩ := q1
  obtain ⟨t, rfl⟩ := r1
  have hst : PO X (some (.UnaryOp .USub (.Constant (.int 1) k p1) p2)) (tPart (tUn (rU fun i => .int (-i)) (tC (.int 1)))) := po_some (pe_un un_neg pe_int)
  refine wpAny_Slice (thn (po_none.run pins s1 σ H1 (fun o H2 => o = none ∧ H2 = H1) I1 ⟨rfl, rfl⟩) fun vl s2 ⟨l, H2, I2, pl, el, e2⟩ => ?_)
  subst el e2
  refine thn (po_none.run pins s2 σ H2 (fun o H3 => o = none ∧ H3 = H2) I2 ⟨rfl, rfl⟩) fun vu s3 ⟨u, H3, I3, pu, eu, e3⟩ => ?_
  subst eu e3
  refine thn (hst.run pins s3 σ H3 (fun o H4 => o = some (-1) ∧ H4 = H3) I3 ⟨1, rfl, -1, rfl, rfl, rfl⟩) fun vs s4 ⟨o, H4, I4, ps, eo, e4⟩ => ?_
  subst eo e4
  obtain ⟨lo, rfl, e5⟩ := IsPart.raw pl
  obtain ⟨hi, rfl, e6⟩ := IsPart.raw pu
  obtain ⟨sp, rfl, e7⟩ := IsPart.raw ps
  have I5 : L2.Inv X pins σ H4 { s4 with heap := s4.heap.push { cls := .type "slice", data := .fields #[partValue lo, partValue hi, partValue sp] } } := I4.kept (t' := s4.toks) fun b ob q => Heap.get?_push_of_some _ q
  show wpAny (model X.prog X.w) X.A (subscriptTail e (.Slice none none (some (.UnaryOp .USub (.Constant (.int 1) k p1) p2)) p3) (.str z t) (.ref s4.heap.objs.size)) (EP X pins σ Q) X.xe { s4 with heap := s4.heap.push { cls := .type "slice", data := .fields #[partValue lo, partValue hi, partValue sp] } }
  refine tail_any (ops := [.ref s4.heap.objs.size]) (typeIs_str _ z t) (PySem.F.slot_str_getitem.lookup) ?_ (by with_unfolding_all rfl)
  refine wpAny_getItem_str_slice (l := lo) (u := hi) (st := sp) ⟨_, Heap.get?_push_size _ rfl, rfl, rfl⟩ (by rw [e7]; rfl) ?_
  have hp : ((slicePicked z lo hi sp).filterMap (z.cps[·]?)).toArray = z.cps.toList.reverse.toArray := by
    unfold slicePicked
    rw [e5, e6, e7]
    show ((Builtin.Str.strSliceIndices none none (-1) z.cps.size).filterMap (z.cps[·]?)).toArray = _
    rw [rev_indices, List.filterMap_reverse, PySem.W.krv_all]
  unfold sliceMade
  rw [hp, if_neg (by rw [e7]; simp)]
  have el : (revS z).length ≤ sizeLine := by
    have e : z.cps.toList.reverse.toArray.size = z.cps.size := by simp
    show z.cps.toList.reverse.toArray.size ≤ _
    rw [e]
    exact hz
  exact ⟨el, .str (revS z), H4, I5.tok _, ⟨_, rfl⟩, q⟩
/-! ### cls(..), cls a name of the def that holds a class -/
def tMakeL (i : Nat) (C : Addr) (sp : Sp) (E : XK) (t : TA) : TE := fun σ H Q => σ[i]? = some (some (.ref C)) ∧ tMake C sp [] E t σ H Q
theorem pe_makeL {CX : CXT} {k i : Nat} {C f : Addr} {fd : FuncData} {ps : List Str} {sp : Sp} {E : XK} {x : Str} {p : Pos} {e : Expr} {es : List Expr} {t : TA} (M : Mk X.K C f) (F : FnOk X.prog X.w X.K X.mg X.base CX k f fd ps sp) (hr : Room (k + 1) X.A) (hN : X.N[i]? = some x) (hv : Vis X.env.scope x)
    (hb : Binds X.K fd ps []) (hx : Passes CX X E) (ha : PA X (e :: es) t) (hdb : (x == ("__debug__" : Str)) = false := by decide) (hcd : (x == ("__classdict__" : Str)) = false := by decide)
    (he : starEach (e :: es) X.env = (false, eval e X.env) :: starEach es X.env := by rfl) (hpl : (backTo pos (starEach es X.env)).any (·.1) = false := by rfl) :
    PE X (.Call (.Name x p) (e :: es) [] pos) (tMakeL i C sp E t) := by
  refine ⟨fun pins s σ H Q I h => ?_⟩
  obtain ⟨hs, h⟩ := h
  refine wpAny_Call_Name_kw (thn ((pe_var (pos := p) (i := i) hN hv hdb hcd).run pins s σ H (fun v H1 => v = .ref C ∧ H1 = H) I ⟨.ref C, hs, rfl, rfl⟩) fun u s1 ⟨v, H1, I1, r1, q1⟩ => ?_)
  obtain ⟨rfl, rfl⟩ := q1
  cases r1
  refine PySem.W.callWith_K (h₀ := X.base) I1.ok.mod.kin M.kp (thn (ha.run pos pins s1 σ _ _ I1 h) fun us s2 ⟨vs, H2, I2, r, q⟩ => ⟨I2.kIn, ?_⟩) he hpl
  exact run_make M F hr hb .nil hx I2 r q
end
end Sh
set_option Elab.async false
set_option linter.all false
set_option maxRecDepth 100000
set_option maxHeartbeats 4000000
namespace Sh
open PySem PySem.Spec PyProof.Rows L2
/-! ### list(s), s a text -/
section
variable {prog : Program} {w : World} {A : Around} {E : Value → Shared → Prop} {s : Shared} {x : Str} {t : Tok}
theorem hint_str {Q : Bool → Shared → Prop} (h : Q false s) : wpAny (model prog w) A (Builtin.List.listLengthHint (.str x t)) Q E s := by
  have hT : s.TypeIs (.str x t) "str" := typeIs_str s x t
  unfold Builtin.List.listLengthHint; refine wpAny_bind (wpAny_specialOf hT PySem.F.slot_str_len.lookup ?_)
  generalize hid : ("str.__len__" : String) = i0
  wp_delta
  rw [show splitId i0 = some ("str", "__len__") from by subst hid; decide +kernel]
  subst hid
  refine wpAny_bind (wpAny_isInstance (T := "str") (b := true) hT (by rw [isSubtype_type]; kernel_rfl) ?_)
  refine wpAny_ite_split (fun z => absurd z (by decide)) (fun _ => wpAny_ite_split (fun _ => ?_) (fun z => absurd (by decide +kernel) z))
  exact wpAny_bind (wpAny_typeOf hT (wpAny_pure h))
/-- what is left of the signs, laid into the list at S -/
abbrev LaidS (x : Str) (S : Addr) (s : Shared) (R : Heap → Nat → Prop) : Prop := ∀ h' tk acc c, (∀ b o, b ≠ S → s.heap.get? b = some o → h'.get? b = some o) → h'.get? S = some { cls := .type "list", dict := none, data := .seq acc c, slots := #[] } → ItemsOf (SignAt x) acc x.cps.size → R h' tk
theorem extend_str {R : Result → Shared → Prop} (hh : A.handled = none) (S : Addr) (c0 : Nat) (hS : s.heap.get? S = some { cls := .type "list", data := .seq #[] c0 }) (hn : x.cps.size ≤ sizeLine)
    (hR : LaidS x S s fun h' tk => R (.ok (.ret .none)) { s with heap := h', toks := tk }) :
    wpAny (model prog w) A.in1 (Builtin.List.listExtendWith (.ref S) (.str x t) .none) (fun fin s' => match fin with | .done f => R (.ok f) s' | .again c' => c'.quiet = true ∧ codeAny (model prog w) A c' R s') (fun e s' => R (.error e) s') s := by
  have hSI : S ≠ s.heap.objs.size := Nat.ne_of_lt (Heap.lt_size hS)
  have hSf : S ∉ [s.heap.objs.size] := by simpa using hSI
  unfold Builtin.List.listExtendWith; refine wpAny_bind (wpAny_typeOf (T := "str") (typeIs_str s x t) ?_)
  have e1 : Builtin.List.listSameRef (.ref S) (.str x t) = false := rfl
  have e2 : (Value.type "str" == Value.type "list") = false := by decide
  have e3 : (Value.type "str" == Value.type "tuple") = false := by decide
  simp only [e1, e2, e3, Bool.or_false, Bool.false_eq_true, if_false]
  refine wpAny_bind (wpAny_pyIter_str fun oI St W st => ?_)
  have Wk := W A.in1 hh
  have key : ∀ (h : Heap) (c1 tk : Nat), St 0 h → (∀ b o, b ≠ S → s.heap.get? b = some o → h.get? b = some o) → h.get? S = some { cls := .type "list", data := .seq #[] c1 } →
      codeAny (model prog w) A (.builtin "list.extend.loop" ⟨[.ref S, .ref s.heap.objs.size, .none], []⟩) R { s with heap := h, toks := tk } := by
    intro h c1 tk hst hk hS1
    refine codeAny_extend_loopS Wk.toS hn S hSf .none x.cps.size 0 _ #[] c1 rfl (Nat.zero_le _) hst hS1 (ItemsOf.nil _) fun s2 acc c hm hS2 hacc => ?_
    rw [Moved.eq_with hm]
    refine hR s2.heap s2.toks acc c (fun b o hb q => hm.heap b o (fun z => ?_) (hk b o hb q)) hS2 hacc
    rcases List.mem_cons.mp z with z | z
    · exact hb z
    · exact absurd (Heap.lt_size q) (by rw [List.mem_singleton.mp z]; exact Nat.lt_irrefl _)
  have hS1 := Heap.get?_push_of_some oI hS
  refine wpAny_bind (wpAny_holding (hint_str ?_)); refine wpAny_ite_split (fun _ => ?_) (fun _ => wpAny_pure ⟨plainId_quiet PySem.F.plain_extend_loop _, key _ c0 _ st (fun b o _ q => Heap.get?_push_of_some _ q) hS1⟩)
  refine wpAny_bind (wpAny_rule (wpAny_bind ?_))
  show wpAny _ _ (updateSeq S (·.push .none) >>= fun _ => updateSeq S (·.pop)) _ _ _
  refine wpAny_bind (wpAny_updateSeq hS1 rfl ?_)
  have hS2 := Heap.get?_update_self (Obj.mapSeq (·.push Value.none)) hS1 rfl
  refine wpAny_updateSeq (hz := by seq_fits) hS2 rfl ?_
  have hS3 := Heap.get?_update_self (Obj.mapSeq (·.pop)) hS2 rfl
  have up : ∀ b o, b ≠ S → (s.heap.push oI).get? b = some o → (((s.heap.push oI).update S (Obj.mapSeq (·.push Value.none))).update S (Obj.mapSeq (·.pop))).get? b = some o := fun b o hb q =>
    (Heap.get?_update_other _ _ (Ne.symm hb)).trans ((Heap.get?_update_other _ _ (Ne.symm hb)).trans q)
  exact wpAny_pure ⟨plainId_quiet PySem.F.plain_extend_loop _, key _ _ _ (Wk.frame 0 _ _ st fun b hb o q => up b o (fun z => hSf (z ▸ hb)) q) (fun b o hb q => up b o hb (Heap.get?_push_of_some _ q)) hS3⟩
theorem init_str {R : Result → Shared → Prop} (hh : A.handled = none) (S : Addr) (hS : s.heap.get? S = some { cls := .type "list", data := .seq #[] }) (hn : x.cps.size ≤ sizeLine)
    (hR : LaidS x S s fun h' tk => R (.ok (.ret .none)) { s with heap := h', toks := tk }) :
    wpAny (model prog w) A.in1 (Builtin.«list.__init__» ⟨[.ref S, .str x t], []⟩) (fun fin s' => match fin with | .done f => R (.ok f) s' | .again c' => c'.quiet = true ∧ codeAny (model prog w) A c' R s') (fun e s' => R (.error e) s') s := by
  show wpAny _ _ (do let old ← Builtin.List.listItems (.ref S); Builtin.List.listUpdate (.ref S) (fun _ => #[]); letGo old.toList.reverse; Builtin.List.listExtendWith (.ref S) (.str x t) .none) _ _ s
  refine wpAny_bind ?_; unfold Builtin.List.listItems
  refine wpAny_bind (wpAny_seqItems hS rfl (wpAny_pure ?_))
  show wpAny _ _ (updateSeq S (fun _ => #[]) >>= fun _ => letGo (#[] : Array Value).toList.reverse >>= fun _ => Builtin.List.listExtendWith (.ref S) (.str x t) .none) _ _ s
  refine wpAny_bind (wpAny_updateSeq hS rfl (wpAny_bind (wpAny_letGo ?_)))
  refine extend_str hh S _ (Heap.get?_update_self (Obj.mapSeq (fun _ => (#[] : Array Value))) hS rfl) hn fun h' tk acc c hk hS' hacc => hR h' tk acc c (fun b o hb q => hk b o hb ?_) hS' hacc
  exact (Heap.get?_update_other _ _ (Ne.symm hb)).trans q
theorem call_list_text {Q : Value → Shared → Prop} (hh : A.handled = none) (hn : x.cps.size ≤ sizeLine)
    (hQ : ∀ h' tk acc c, (∀ b o, s.heap.get? b = some o → h'.get? b = some o) → h'.get? s.heap.objs.size = some { cls := .type "list", dict := none, data := .seq acc c, slots := #[] } → ItemsOf (SignAt x) acc x.cps.size → Q (.ref s.heap.objs.size) { s with heap := h', toks := tk }) :
    wpAny (model prog w) A (call (.type "list") [.str x t]) Q E s := by
  refine callType_codes (Q₁ := fun obj s₁ => obj = .ref s.heap.objs.size ∧ s₁ = { s with heap := s.heap.push { cls := .type "list", data := .seq #[] } }) PySem.F.called_list (PySem.F.typeCall_list_1 _) PySem.F.entry_list_init (code_list_new _ ⟨rfl, rfl⟩) fun obj s₁ z => ?_
  obtain ⟨rfl, rfl⟩ := z
  have hS : (s.heap.push { cls := .type "list", data := .seq #[] }).get? s.heap.objs.size = some { cls := .type "list", data := .seq #[] } := Heap.get?_push_size _ rfl
  exact ⟨⟨_, hS, rfl⟩, PySem.F.args_list_init_2 _ _, init_str (A := A.in1) hh _ hS hn fun h' tk acc c hk hS' hacc => ⟨rfl, hQ h' tk acc c (fun b o q => hk b o (Nat.ne_of_lt (Heap.lt_size q)) (Heap.get?_push_of_some _ q)) hS' hacc⟩⟩
end
def signs (z : Str) : List Str := z.cps.toList.map fun c => (⟨#[c]⟩ : Str)
theorem call_list_str {X : Cx} (hc : X.calm = true) : CallR X (.type "list") (fun xs H Q => ∃ z, xs = [.str z] ∧ z.length ≤ sizeLine ∧ ∀ p, H p = none → Q (.ref p) (upd H p (.lst ((signs z).map V.str)))) := by
  intro pins s σ H xs us Q I r h
  obtain ⟨z, rfl, hz, q⟩ := h
  obtain ⟨u, rfl, t, rfl⟩ := vals1 r
  have el : ((signs z).map V.str).length = z.cps.size := by unfold signs; simp
  refine call_list_text (I.ok.hd hc) hz fun h' tk acc c keep hS hacc => ?_
  refine ⟨.ref s.heap.objs.size, upd H s.heap.objs.size (.lst ((signs z).map V.str)), I.laid keep (Nat.le_refl _) (show ObjOk X.prog X.w _ _ _ (.lst ((signs z).map V.str)) from ⟨by rw [el]; exact hz, acc.toList, c, ?_, by rw [Array.toArray_toList]; exact hS⟩), rfl, q _ (I.hok.fresh (Nat.le_refl _))⟩
  refine vals_of_at (by rw [el, Array.length_toList]; exact hacc.1.symm) fun j x y h1 h2 => ?_
  obtain ⟨cc, uu, hcc, rfl⟩ := hacc.2 j y (by rw [← Array.getElem?_toList]; exact h2)
  have e2 : ((signs z).map V.str)[j]? = some (V.str ⟨#[cc]⟩) := by
    unfold signs
    rw [List.getElem?_map, List.getElem?_map, Array.getElem?_toList, hcc]
    rfl
  rw [e2] at h1
  cases h1
  exact ⟨uu, rfl⟩
end Sh
set_option Elab.async false
set_option linter.all false
set_option maxRecDepth 100000
set_option maxHeartbeats 4000000
namespace ShL
theorem tab_uniq {α β : Type} {T : List (α × β)} (h : (T.map (·.1)).Nodup) {P : α} {q : β} (m : (P, q) ∈ T) : ∀ p ∈ T, p.1 = P → p.2 = q := by
  induction T with
  | nil => exact fun p hp => nomatch hp
  | cons a T ih =>
    rw [List.map_cons, List.nodup_cons] at h
    intro p hp e
    rcases List.mem_cons.mp hp with rfl | hp
    · rcases List.mem_cons.mp m with z | z
      · rw [← z]
      · exact absurd (List.mem_map.mpr ⟨_, z, e.symm⟩) h.1
    · rcases List.mem_cons.mp m with z | z
      · rw [← z] at h
        exact absurd (List.mem_map.mpr ⟨_, hp, e⟩) h.1
      · exact ih h.2 z p hp e
end ShL
namespace Sh
open PySem PySem.Spec PyProof.Rows L2 LamX
section
variable {P : Program} {w : World} {K : PySem.W.Frag} {mg : Str → Option Value} {base : Heap}
/-- as Fun.ok, the def's code object told -/
theorem okT {x qual : Str} {st : Stmt} {f : Addr} {fd : FuncData} {N ps : List Str} {k : Nat} {sp : Sp} (F : Fun K x qual st f fd) (S : FnScope N ps (defScope st)) (len : ∀ vs H Q E, sp vs H Q E → vs.length = ps.length)
    (hbody : ∀ (cdv : Value) (A : Around) (outer : List Env) (s : Shared) (H : Hp) (vs : List V) (Q : VK) (E : XK), fd.code = cdv → Room k (A.deeper (envOfC qual (defScope st) s.heap.objs.size f cdv)) → sp vs H Q E →
      ∃ t, PSs (cxOf CX0 P w K mg base N qual (defScope st) f cdv A outer s H E).nox (defBody st) t ∧ t { nx := fun _ H' => Q .non H', rt := Q } (start N vs) H) : FnOk P w K mg base CX0 (k + 1) f fd ps sp := by
  obtain ⟨oc, od, kV, doc, pm, an, cdv, ct, osl, rfl, lk, hc⟩ := F.ex
  refine fn_of lk hc S len fun A outer s H vs Q E hr hsp => ?_
  obtain ⟨t, h, q⟩ := hbody cdv A outer s H vs Q E rfl hr hsp
  exact ⟨t, h.nox, q⟩
theorem fnR_of {CX : CXT} {k : Nat} {f : Addr} {fd : FuncData} {ps : List Str} {sp : Sp} (F : FnOk P w K mg base CX k f fd ps sp) (hb : Binds K fd ps []) : FnR P w K mg base CX k f sp := by
  have q := F.raw hb .nil
  exact q.imp fun vs H Q E h => by rw [List.append_nil]; exact h
end
/-- all but the tables is kept, and the tables still tell what they told -/
def Sm (T : List (Addr × Str)) (H H' : Hp) : Prop := ExtN H H' ∧ Tabs T H'
section
variable {T : List (Addr × Str)} {H H1 H2 : Hp}
theorem Sm.refl (t : Tabs T H) : Sm T H H := ⟨ExtN.refl H, t⟩
theorem Sm.trans (a : Sm T H H1) (b : Sm T H1 H2) : Sm T H H2 := ⟨a.1.trans b.1, b.2⟩
theorem Sm.of (t : Tabs T H) (s : Same H H1) : Sm T H H1 := ⟨ExtN.of s, t.ext s⟩
theorem Sm.ext (a : Sm T H H1) (s : Same H1 H2) : Sm T H H2 := a.trans (Sm.of a.2 s)
theorem Sm.new (a : Sm T H H1) {p : Addr} {o : HO} (h : H1 p = none) : Sm T H (upd H1 p o) := a.ext (same_upd h)
theorem Sm.get (a : Sm T H H1) {b : Addr} {o : HO} (h : H b = some o) (n : ∀ ps, o ≠ .tbl ps := by intro ps z; cases z) : H1 b = some o := a.1 b o h n
theorem extN_seqT {K : PySem.W.Frag} {a : Addr} {xs : List V} (e : ExtN H H1) (h : SqT K H a xs) : SqT K H1 a xs := by
  rcases h with (h | ⟨o, h⟩) | h
  · exact .inl (.inl (e _ _ h fun ps z => by cases z))
  · exact .inl (.inr ⟨o, e _ _ h fun ps z => by cases z⟩)
  · exact .inr h
/-- what a pen's draw leaves -/
theorem Tabs.kp {d : Addr} {kvs : List (Key × V)} (t : Tabs T H) (hd : H d = some (.dK kvs)) (s : Kp d H H1) : Tabs T H1 := fun p hp => by
  obtain ⟨ps, h1, h2, h3⟩ := t p hp
  have ne : ∀ {b : Addr} {o : HO}, H b = some o → o ≠ .dK kvs → H1 b = some o := fun {b o} q n => s b o q fun z => n (by rw [z, hd] at q; exact (Option.some.inj q).symm)
  refine ⟨ps, ne h1 (by intro z; cases z), h2, fun pos cv hc => ?_⟩
  obtain ⟨c, e1, e2⟩ := h3 pos cv hc
  exact ⟨c, e1, ne e2 (by intro z; unfold CodeO at z; cases z)⟩
end
end Sh
set_option Elab.async false
set_option linter.all false
set_option maxRecDepth 100000
set_option maxHeartbeats 4000000
namespace Sh
open PySem PySem.Spec PyProof.Rows L2
section
variable {X : Cx}
/-- name = {..} on one line, the name a local -/
theorem ps_setDc {i : Nat} {y : Str} {py : Pos} {kx vx tg iter : Expr} {ifs : List Expr} {scope : Scope} {own : List (Str × Nat)} {pos spos : Pos} {wi : TI} {g : TG} {tt : TT} {tk tv : TE} (hc : X.calm = true) (hN : X.N.Nodup) (hy : X.N[i]? = some y) (hyl : X.env.scope.names.lookup y = some .local)
    (hsw : swapsWith (.DictComp kx vx [⟨tg, iter, ifs, 0⟩] scope pos) (some (.Name y py)) spos.line X.env = pure true) (hi : PI X tg iter wi) (ok : BlkOk X.N X.env.scope scope own)
    (hg : ∀ (s : Shared) (H : Hp) (C : Addr) (cl : List (Str × Addr)) (fp : List Addr), PG (X.blk s H scope (compEnvC scope cl C X.env) fp) tg g)
    (ht : ∀ (s : Shared) (H : Hp) (C : Addr) (cl : List (Str × Addr)) (fp : List Addr), PTs (X.blk s H scope (compEnvC scope cl C X.env) fp) ifs tt) (hk : ∀ (s : Shared) (H : Hp) (C : Addr) (cl : List (Str × Addr)) (fp : List Addr), PE (X.blk s H scope (compEnvC scope cl C X.env) fp) kx tk)
    (he : ∀ (s : Shared) (H : Hp) (C : Addr) (cl : List (Str × Addr)) (fp : List Addr), PE (X.blk s H scope (compEnvC scope cl C X.env) fp) vx tv) (hs : ∀ z, foldedSetIterable iter X.env z = pure z := by intro _; rfl) :
    PS X (.Assign [.Name y py] (.DictComp kx vx [⟨tg, iter, ifs, 0⟩] scope pos) spos) (tAsg (tDc wi g tt tk tv (own.map (·.2))) (gName i)) := by
  refine ⟨fun pins s σ H D I h => ?_⟩
  rw [exec_Assign_Name_used _ _ _ _ hsw]
  refine wpAny_bind (wpAny_standAt (wpAny_bind ?_))
  show wpAny _ X.A (do let _ ← comprehension (.DictComp kx vx [⟨tg, iter, ifs, 0⟩] scope pos) scope X.env (firstIterPos [⟨tg, iter, ifs, 0⟩] pos) newDict false (eval iter X.env) (some (assign (.Name y py) X.env))) _ _ s
  have h : tDc wi g tt tk tv (own.map (·.2)) σ H (fun x H1 => gName i x σ H1 D.nx) := h
  refine wpAny_bind (thn (dc_core (Qf := fun _ s' => SP X pins D .next s') hc hN I hi ok hg ht hk he hs h fun L C s' m H' I' q hn f => ?_) fun _ s' hq => wpAny_pure (wpAny_pure hq))
  show wpAny _ _ (assign (.Name y py) X.env (.ref L)) _ _ _
  refine wpAny_assign_Name (store_ok2 (v := V.ref L) I' hN hy (.inl hyl) rfl (fun s2 I2 ⟨a, sb, ha⟩ => ?_) (.inr hyl))
  obtain ⟨f0, f1, f2, f3, f4, f5⟩ := f
  have haC : C ≠ a := ha.elim (fun z => z ▸ f1) fun z e => f4 y a z e.symm
  exact ⟨m, hn.sameBut sb haC, fun h3 sb3 => ⟨_, H', I2.turned (t' := s2.toks) (fun b o hb e => (sb3.2 b hb).trans e) f0 f1 f3 f4 f5, q⟩⟩
theorem sw_trueD {kx vx : Expr} {gs : List Comprehension} {scope : Scope} {pos py : Pos} {y : Str} {l : Nat} {env : Env} (hk : env.scope.kind = .function) (hy : env.scope.names.lookup y = some .local) (hl : (py.line == pos.line) = true)
    (hn : (scope.names.any fun (n, k) => n == y && (k == .local || k == .cell)) = false) : swapsWith (.DictComp kx vx gs scope pos) (some (.Name y py)) l env = pure true := by
  have ky : env.kindOf y = some .local := hy
  have hb : env.blockKind = .function := by unfold Env.blockKind; rw [hk]; rfl
  unfold swapsWith; simp only [hb, ky, hn, Expr.pos, hl]; rfl
end
/-- over a list that stays -/
theorem dc_list {K : PySem.W.Frag} {a : Addr} {xs : List V} {g : TG} {tt : TT} {tk tv : TE} {vs : List Nat} {σ : L2.St} {H1 : Hp} {D : Addr} {Qd : Hp → Prop} (Pv : Nat → Hp → Prop) (h0 : Pv 0 (upd H1 D (.dK []))) (hl : ∀ i H, i ≤ xs.length → Pv i H → SqL K H a xs)
    (hs : ∀ i x H, xs[i]? = some x → Pv i H → g x (wipe σ vs) H fun σ2 H2 => wipe σ2 vs = wipe σ vs ∧ tt σ2 H2 fun b H3 => if b = true then tk σ2 H3 fun y H4 => tv σ2 H4 fun z H5 => ∃ kvs k, y = kV k ∧ H5 D = some (.dK kvs) ∧ kvs.length < sizeLine ∧ Pv (i + 1) (upd H5 D (.dK (putK kvs k z))) else Pv (i + 1) H3)
    (hd : ∀ H, Pv xs.length H → Qd H) :
    ∃ W : Nat → Nat → Hp → Prop, (∃ m, W 0 m (upd H1 D (.dK []))) ∧ ∀ i m H, W i m H → ((Itl K a).stop i H ∧ Qd H) ∨ ((Itl K a).go i H ∧ ∃ Nx : Hp → Prop, (∀ H', Nx H' → ∃ m', m' < m ∧ W (i + 1) m' H') ∧ ∀ x H', (Itl K a).yld i H x H' → g x (wipe σ vs) H' fun σ2 H2 => wipe σ2 vs = wipe σ vs ∧ tt σ2 H2 fun b H3 =>
        if b = true then tk σ2 H3 fun y H4 => tv σ2 H4 fun z H5 => ∃ kvs k, y = kV k ∧ H5 D = some (.dK kvs) ∧ kvs.length < sizeLine ∧ Nx (upd H5 D (.dK (putK kvs k z))) else Nx H3) := by
  refine ⟨fun i m H => m = xs.length - i ∧ i ≤ xs.length ∧ Pv i H, ⟨xs.length, by simp, Nat.zero_le _, h0⟩, ?_⟩
  rintro i m H ⟨rfl, hi, p⟩
  by_cases hlt : i < xs.length
  · refine .inr ⟨⟨xs, xs[i], hl i H hi p, by simp [hlt]⟩, Pv (i + 1), fun H' p' => ⟨xs.length - (i + 1), by omega, rfl, hlt, p'⟩, fun x H' y => ?_⟩
    obtain ⟨rfl, y⟩ := y
    exact hs i x _ (y xs (hl i _ hi p)) p
  · obtain rfl : i = xs.length := by omega
    exact .inl ⟨⟨xs, hl _ H hi p, Nat.le_refl _⟩, hd H p⟩
end Sh
set_option Elab.async false
set_option linter.all false
set_option maxRecDepth 100000
set_option maxHeartbeats 4000000
namespace Sh
open PySem PySem.Spec PyProof.Rows L2
theorem ht_line {o : Expr} {m : Str} {apos pos : Pos} {es : List Expr} {env : Env} (hb : attributeBase o m env (eval o env) = eval o env) (hf : methodCallForm (es.length + ([] : List Keyword).length) (backTo pos (starEach es env)) (backToKw pos (keywordEach [] env)) = true) (hl : (apos.endLine == pos.line) = true) :
    eval (.Call (.Attribute o m apos) es [] pos) env = (do
      let ov ← eval o env
      standAt apos.atName
      let (f, first) ← holding [ov] (getMethod ov m (plainOf o env))
      callWith pos f first (backTo pos (starEach es env)) (backToKw pos (keywordEach [] env))) := by
  have e : ∀ ov, methodCall o m apos pos env ov (es.length + ([] : List Keyword).length) (backTo pos (starEach es env)) (backToKw pos (keywordEach [] env)) = (do
      let (f, first) ← holding [ov] (getMethod ov m (plainOf o env))
      callWith pos f first (backTo pos (starEach es env)) (backToKw pos (keywordEach [] env))) := fun ov => mcall_line hf hl
  have e0 : eval (.Call (.Attribute o m apos) es [] pos) env = (attributeBase o m env (eval o env) >>= fun ov => standAt apos.atName >>= fun _ => methodCall o m apos pos env ov (es.length + ([] : List Keyword).length) (backTo pos (starEach es env)) (backToKw pos (keywordEach [] env))) := by
    first
      | rfl
      | (rw [eval])
      | (unfold eval; rfl)
  rw [e0, hb]
  simp only [e]
end Sh
set_option Elab.async false
set_option linter.all false
set_option maxRecDepth 100000
set_option maxHeartbeats 4000000
namespace Sh
open PySem PySem.Spec PyProof.Rows L2
/-- an expression with two readings: either may be taken -/
def tAlt (t u : TE) : TE := fun σ H Q => t σ H Q ∨ u σ H Q
theorem pe_alt {X : Cx} {e : Expr} {t u : TE} (h : PE X e t) (k : PE X e u) : PE X e (tAlt t u) :=
  ⟨fun pins s σ H Q I q => q.elim (h.run pins s σ H Q I) (k.run pins s σ H Q I)⟩
/-- two promises of one def -/
theorem fn_alt {P : Program} {w : World} {K : PySem.W.Frag} {mg : Str → Option Value} {base : Heap} {CX : CXT} {k : Nat} {f : Addr} {fd : FuncData} {ps : List Str} {sp sp' : Sp}
    (F : FnOk P w K mg base CX k f fd ps sp) (F' : FnOk P w K mg base CX k f fd ps sp') : FnOk P w K mg base CX k f fd ps (fun vs H Q E => sp vs H Q E ∨ sp' vs H Q E) :=
  ⟨fun vs H Q E h => h.elim (F.len vs H Q E) (F'.len vs H Q E),
   fun A outer s H args us vs Q E hr e0 hb hv h => h.elim (F.run A outer s H args us vs Q E hr e0 hb hv) (F'.run A outer s H args us vs Q E hr e0 hb hv)⟩
end Sh
set_option Elab.async false
set_option linter.all false
set_option maxRecDepth 100000
set_option maxHeartbeats 4000000
namespace Sh
open PySem PySem.Spec PyProof.Rows L2
/-- the same values: flat ones, or the same objects -/
def plainV : V → Bool
  | .ref _ => true
  | x => flatB x
theorem eqAt_plain {A : Around} {s : Shared} {x : V} {u v : Value} (f : plainV x = true) (r1 : RelV x u) (r2 : RelV x v) : SeqAt.EqAt A s u v true := by
  cases x with
  | ref a =>
    cases (show u = Value.ref a from r1)
    cases (show v = Value.ref a from r2)
    exact SeqAt.EqAt.same _
  | _ => exact eqAt_same r1 r2 f
/-- (a, ..) == (a, ..), item for item the same -/
def rSameT (K : PySem.W.Frag) (b : Bool) : R2 := fun x y H Q => ∃ p q xs, x = .ref p ∧ y = .ref q ∧ SqT K H p xs ∧ SqT K H q xs ∧ xs.all plainV = true ∧ Q (.bl b) H
section
variable {X : Cx}
theorem items_same {A : Around} {s : Shared} {xs : List V} {us ws : List Value} (f : xs.all plainV = true) (r1 : Vals xs us) (r2 : Vals xs ws) : ∀ j (h1 : j < us.toArray.size) (h2 : j < ws.toArray.size), SeqAt.EqAt A s us.toArray[j] ws.toArray[j] ((fun _ => true) j) := by
  intro j h1 h2
  have h1' : j < us.length := by simpa using h1
  have h2' : j < ws.length := by simpa using h2
  have k : j < xs.length := by rw [r1.length]; exact h1'
  obtain ⟨u, hu, ru⟩ := r1.get (List.getElem?_eq_getElem k)
  obtain ⟨v, hv, rv⟩ := r2.get (List.getElem?_eq_getElem k)
  rw [List.getElem?_eq_getElem h1'] at hu
  rw [List.getElem?_eq_getElem h2'] at hv
  have e1 : us.toArray[j] = u := by rw [← Option.some.inj hu]; simp
  have e2 : ws.toArray[j] = v := by rw [← Option.some.inj hv]; simp
  rw [e1, e2]
  exact eqAt_plain (List.all_eq_true.mp f _ (List.getElem_mem k)) ru rv
theorem op_neSameT (hu : X.A.units < cLine) : OpR X (compareOp .NotEq) (rSameT X.K false) := by
  intro pins s σ H x y v u Q I rx ry h
  obtain ⟨p, q, xs, rfl, rfl, hp, hq, f, z⟩ := h
  cases rx
  cases ry
  obtain ⟨its, r, e, _⟩ := I.tuple hp
  obtain ⟨its2, r2, e2, _⟩ := I.tuple hq
  have key := SeqAt.RcNeAt.tuples (A := X.A) e e2 hu (items_same f r r2)
  have hl : its.toArray.size = its2.toArray.size := by rw [List.size_toArray, List.size_toArray, ← r.length, ← r2.length]
  have e3 : (!((List.range (min its.toArray.size its2.toArray.size)).all (fun _ => true) && its.toArray.size == its2.toArray.size)) = false := by
    rw [show ((List.range (min its.toArray.size its2.toArray.size)).all fun _ => true) = true from List.all_eq_true.mpr fun _ _ => rfl, hl]
    simp
  rw [e3] at key
  exact key X.prog X.w X.xe _ ⟨.bl false, H, I, rfl, z⟩
theorem op_eqSameT (hu : X.A.units < cLine) : OpR X (compareOp .Eq) (rSameT X.K true) := by
  intro pins s σ H x y v u Q I rx ry h
  obtain ⟨p, q, xs, rfl, rfl, hp, hq, f, z⟩ := h
  cases rx
  cases ry
  obtain ⟨its, r, e, _⟩ := I.tuple hp
  obtain ⟨its2, r2, e2, _⟩ := I.tuple hq
  have key := SeqAt.RcAt.tuples (A := X.A) e e2 hu (items_same f r r2)
  have hl : its.toArray.size = its2.toArray.size := by rw [List.size_toArray, List.size_toArray, ← r.length, ← r2.length]
  have e3 : ((List.range (min its.toArray.size its2.toArray.size)).all (fun _ => true) && its.toArray.size == its2.toArray.size) = true := by
    rw [show ((List.range (min its.toArray.size its2.toArray.size)).all fun _ => true) = true from List.all_eq_true.mpr fun _ _ => rfl, hl]
    simp
  rw [e3] at key
  exact key X.prog X.w X.xe _ ⟨.bl true, H, I, rfl, z⟩
end
end Sh
set_option Elab.async false
set_option linter.all false
set_option maxRecDepth 100000
set_option maxHeartbeats 4000000
namespace Sh
open PySem PySem.Spec PySem.W PyProof.Rows L2 NdefX
theorem ec_of {K : Frag} {p : He.Defn} {x q : Str} {st : Stmt} {fd : FuncData} (F : Fun K x q st (He.fAd K p) fd) : fd.code = .ref (He.codeOf K p) := by
  obtain ⟨oc, od, kV, doc, pm, an, cdv, ct, osl, rfl, lk, hcd⟩ := F.ex
  obtain ⟨c, rfl⟩ := He.codeIn_ref hcd
  rw [He.codeOf_eq lk rfl]
/-! ### a head by facts: own exceptions, and tables of defs that make lambdas -/
/-- what classmethods hold -/
def recsG (g : Addr → Option Obj) (as : List Addr) : List Addr := as.flatMap fun a => match g a with
  | some ⟨.type t, _, .fields vs, _⟩ => if t = "classmethod" then vs.toList.filterMap (fun v => match v with | .ref b => some b | _ => none) else []
  | some ⟨.type t, _, .seq vs _, _⟩ => if t = "classmethod" then vs.toList.filterMap (fun v => match v with | .ref b => some b | _ => none) else []
  | _ => []
def asXT (g : Addr → Option Obj) (n : Nat) : List Addr :=
  let a1 := He.asD g n
  let a2 := He.growD g (a1 ++ recsG g a1)
  cStatics :: (a2 ++ cellsG g a2)
/-- a classmethod's def: held by its record -/
structure CD where
  cls : Str
  name : Str
  qual : Str
  st : Stmt
def CD.rcd (K : Frag) (d : CD) : Addr := He.ma K (He.ga K d.cls) d.name
def CD.fn (K : Frag) (d : CD) : Addr := match recIn K (d.rcd K) "classmethod" with
  | some (.ref g :: _) => g
  | _ => 0
def CD.val (d : CD) : XV := some (d.name, d.qual, defArgs d.st, .stmts (defBody d.st), defScope d.st, mainGlobals, [], .none, builtinsNs)
def CD.ok (K : Frag) (d : CD) : Bool := (match recIn K (d.rcd K) "classmethod" with
  | some (.ref _ :: _) => true
  | _ => false) && (fnIn K (d.fn K) && (keepIn K (.ref (d.fn K)) && (readsIn K (He.ga K d.cls) (.type "type") && (decide (specialIn K (.ref (He.ga K d.cls)) "__getattribute__" = some (some (.builtin "type.__getattribute__"))) && ((match findCls K (.ref (He.ga K d.cls)) (.type "type") d.name with
  | some (.get a b c e) => decide (a = .builtin "classmethod.__get__") && (decide (b = .ref (d.rcd K)) && (decide (c = .none) && decide (e = .ref (He.ga K d.cls))))
  | _ => false) && (match K.lookup (d.fn K) with
  | some ⟨_, _, .func fd, _⟩ => codeIn K fd.code d.qual
  | _ => false))))))
theorem CD.read {K : Frag} {d : CD} (h : d.ok K = true) : ClX.CRead K (He.ga K d.cls) (.type "type") := by
  obtain ⟨_, h⟩ := andB h
  obtain ⟨_, h⟩ := andB h
  obtain ⟨_, h⟩ := andB h
  obtain ⟨h1, h⟩ := andB h
  obtain ⟨h2, _⟩ := andB h
  exact ⟨h1, of_decide_eq_true h2⟩
theorem CD.met {K : Frag} {d : CD} (h : d.ok K = true) : ClX.CMet K (He.ga K d.cls) (.type "type") d.name (d.rcd K) (d.fn K) := by
  obtain ⟨h0, h⟩ := andB h
  obtain ⟨hf, h⟩ := andB h
  obtain ⟨_, h⟩ := andB h
  obtain ⟨_, h⟩ := andB h
  obtain ⟨_, h⟩ := andB h
  obtain ⟨h3, _⟩ := andB h
  refine ⟨?_, ?_, hf⟩
  · cases q : findCls K (.ref (He.ga K d.cls)) (.type "type") d.name with
    | none => rw [q] at h3; cases h3
    | some r =>
      rw [q] at h3
      cases r with
      | get a b c e =>
        obtain ⟨e1, h3⟩ := andB h3
        obtain ⟨e2, h3⟩ := andB h3
        obtain ⟨e3, e4⟩ := andB h3
        rw [of_decide_eq_true e1, of_decide_eq_true e2, of_decide_eq_true e3, of_decide_eq_true e4]
      | _ => cases h3
  · unfold CD.fn
    cases q : recIn K (d.rcd K) "classmethod" with
    | none => rw [q] at h0; cases h0
    | some l =>
      rw [q] at h0
      match l, h0 with
      | .ref g :: rest, _ => exact ⟨rest, rfl⟩
theorem CD.fun_ {K : Frag} {d : CD} (h : d.ok K = true) (e : xvOf K (d.fn K) = d.val) : ∃ fd, Fun K d.name d.qual d.st (d.fn K) fd := by
  obtain ⟨_, h⟩ := andB h
  obtain ⟨_, h⟩ := andB h
  obtain ⟨hk, h⟩ := andB h
  obtain ⟨_, h⟩ := andB h
  obtain ⟨_, h⟩ := andB h
  obtain ⟨_, h4⟩ := andB h
  unfold xvOf at e
  cases q : K.lookup (d.fn K) with
  | none => rw [q] at h4; cases h4
  | some o =>
    obtain ⟨oc, od, dt, osl⟩ := o
    rw [q] at h4 e
    cases dt with
    | func fd =>
      obtain ⟨n1, n2, n3, n4, n5, n6, n7, n8, n9, n10, n11, n12, n13, n14, n15⟩ := fd
      have e2 : (some (n1, n2, n3, n4, n5, n6, n7.map (·.1), n8, n15) : XV) = (some (d.name, d.qual, defArgs d.st, .stmts (defBody d.st), defScope d.st, mainGlobals, [], .none, builtinsNs) : XV) := e
      simp only [Option.some.injEq, Prod.mk.injEq] at e2
      obtain ⟨h1, h2, h3, h4', h5, h6, h7, h8, h9⟩ := e2
      cases n7 with
      | cons p r => cases h7
      | nil =>
        subst h1 h2 h3 h4' h5 h6 h8 h9
        exact ⟨_, ⟨_, _, _, _, _, _, _, _, _, rfl, q, h4⟩, hk⟩
    | _ => cases h4
abbrev AlXT : Type := AlX × Bool × List XV
structure SaysXT (fa : List He.Fa) (fn : List He.DefD) (ex : List (Frag → Bool)) (xs : List XD) (tf : List He.Defn) (cm : List CD) (h : Heap) (K : Frag) : Prop where
  s : SaysX fa fn ex xs K
  hd : ∀ p ∈ tf, codeHdIn K (He.cT K p).1 (He.cT K p).2 = true
  out : ∀ p ∈ tf, K.lookup (He.cT K p).2 = none
  empty : ∀ p ∈ tf, h.get? (He.cT K p).2 = some { cls := .none, data := .fields #[] }
  cmo : ∀ (i : Nat) {d : CD}, cm[i]? = some d → d.ok K = true
  cmv : ∀ (i : Nat) {d : CD}, cm[i]? = some d → xvOf K (d.fn K) = d.val
def obsXT (fa : List He.Fa) (fn : List He.DefD) (ex : List (Frag → Bool)) (xs : List XD) (tf : List He.Defn) (cm : List CD) (n : Nat) (g : Addr → Option Obj) : AlXT :=
  (obsX fa fn ex xs (He.frT g (asXT g n)), He.tabsB g tf (He.frT g (asXT g n)) && cm.all (fun d => d.ok (He.frT g (asXT g n))), cm.map fun d => xvOf (He.frT g (asXT g n)) (d.fn (He.frT g (asXT g n))))
def valXT (fn : List He.DefD) (xs : List XD) (cm : List CD) : AlXT := (valX fn xs, true, cm.map CD.val)
theorem saysXT_of {n : Nat} {fa : List He.Fa} {fn : List He.DefD} {ex : List (Frag → Bool)} {xs : List XD} {tf : List He.Defn} {cm : List CD} {h : Heap} (e : obsXT fa fn ex xs tf cm n h.get? = valXT fn xs cm) : SaysXT fa fn ex xs tf cm h (He.frT h.get? (asXT h.get? n)) := by
  have e1 : obsX fa fn ex xs (He.frT h.get? (asXT h.get? n)) = valX fn xs := congrArg (fun z : AlXT => z.1) e
  have e0 : (He.tabsB h.get? tf (He.frT h.get? (asXT h.get? n)) && cm.all (fun d => d.ok (He.frT h.get? (asXT h.get? n)))) = true := congrArg (fun z : AlXT => z.2.1) e
  have e3 : cm.map (fun d => xvOf (He.frT h.get? (asXT h.get? n)) (d.fn (He.frT h.get? (asXT h.get? n)))) = cm.map CD.val := congrArg (fun z : AlXT => z.2.2) e
  obtain ⟨e2, e4⟩ := andB e0
  have key : ∀ p ∈ tf, codeHdIn (He.frT h.get? (asXT h.get? n)) (He.cT (He.frT h.get? (asXT h.get? n)) p).1 (He.cT (He.frT h.get? (asXT h.get? n)) p).2 = true ∧ ∃ o, h.get? (He.cT (He.frT h.get? (asXT h.get? n)) p).2 = some o ∧ He.emptyTab o = true := fun p hp => by
    obtain ⟨h3, h4⟩ := andB (List.all_eq_true.mp e2 p hp)
    refine ⟨h3, ?_⟩
    cases q : h.get? (He.cT (He.frT h.get? (asXT h.get? n)) p).2 with
    | none =>
      rw [q] at h4
      cases h4
    | some o =>
      rw [q] at h4
      exact ⟨o, rfl, h4⟩
  refine ⟨says_of e1, fun p hp => (key p hp).1, fun p hp => ?_, fun p hp => ?_, fun i d hd => List.all_eq_true.mp e4 d (List.mem_of_getElem? hd), fun i d hd => ?_⟩
  · obtain ⟨_, o, q, z⟩ := key p hp
    exact He.frT_none q z
  · obtain ⟨_, o, q, z⟩ := key p hp
    rw [q, He.emptyTab_eq z]
  · have e5 : (cm.map fun d => xvOf (He.frT h.get? (asXT h.get? n)) (d.fn (He.frT h.get? (asXT h.get? n))))[i]? = (cm.map CD.val)[i]? := by rw [e3]
    rw [List.getElem?_map, List.getElem?_map, hd] at e5
    exact Option.some.inj e5
def hookXT (n : Nat) (fa : List He.Fa) (fn : List He.DefD) (ex : List (Frag → Bool)) (xs : List XD) (tf : List He.Defn) (cm : List CD) : PySem.W.Hook where
  α := AlXT
  obs := fun s => obsXT fa fn ex xs tf cm n s.heap.get?
  val := fun _ => valXT fn xs cm
  says := fun _ h => ∃ K : Frag, K.In h ∧ SaysXT fa fn ex xs tf cm h K
  of := fun _ _ e => ⟨_, He.frT_in, saysXT_of e⟩
  keeps := fun _ _ _ ⟨K, hK, c⟩ k => ⟨K, Frag.In.keeps hK k, ⟨c.s, c.hd, c.out, fun p hp => k _ _ (c.empty p hp), c.cmo, c.cmv⟩⟩
theorem obsXT_eq {n : Nat} {fa : List He.Fa} {fn : List He.DefD} {ex : List (Frag → Bool)} {xs : List XD} {tf : List He.Defn} {cm : List CD} {g : Addr → Option Obj} {s : Shared} (h : ∀ a, g a = s.heap.get? a) : obsXT fa fn ex xs tf cm n g = (hookXT n fa fn ex xs tf cm).obs s := by
  have e : g = s.heap.get? := funext h
  rw [e] <;> rfl
end Sh
set_option Elab.async false
set_option linter.all false
set_option maxRecDepth 100000
set_option maxHeartbeats 4000000
namespace Sh
open PySem PySem.Spec PyProof.Rows L2
/-! ### list comprehensions of any number of clauses -/
/-- what a clause asks: its source, its target, its tests, the slots of its own and all later targets -/
structure ClR where
  wi : TI
  g : TG
  tt : TT
  vs : List Nat
/-- the clauses that are left, inside; Nx is to be reached behind them -/
def tIn (D : Addr) (te : TE) : List ClR → L2.St → Hp → (Hp → Prop) → Prop
  | [], σ, H, Nx => te σ H fun y H1 => ∃ acc, H1 D = some (.lst acc) ∧ acc.length < sizeLine ∧ Nx (upd H1 D (.lst (acc ++ [y])))
  | c :: r, σ, H, Nx => c.wi σ H fun J H1 => ∃ W : Nat → Nat → Hp → Prop, (∃ m, W 0 m H1) ∧ ∀ i m H, W i m H →
      (J.stop i H ∧ Nx H) ∨ (J.go i H ∧ ∃ N : Hp → Prop, (∀ H', N H' → ∃ m', m' < m ∧ W (i + 1) m' H') ∧ ∀ x H', J.yld i H x H' → c.g x (wipe σ c.vs) H' fun σ2 H2 => wipe σ2 c.vs = wipe σ c.vs ∧ c.tt σ2 H2 fun b H3 => if b = true then tIn D te r σ2 H3 N else N H3)
/-- the whole: the new list stands at D -/
def tLcN (c : ClR) (r : List ClR) (te : TE) : TE := fun σ H Q => c.wi σ H fun J H1 => ∀ D, H1 D = none → ∃ W : Nat → Nat → Hp → Prop, (∃ m, W 0 m (upd H1 D (.lst []))) ∧ ∀ i m H, W i m H →
      (J.stop i H ∧ Q (.ref D) H) ∨ (J.go i H ∧ ∃ N : Hp → Prop, (∀ H', N H' → ∃ m', m' < m ∧ W (i + 1) m' H') ∧ ∀ x H', J.yld i H x H' → c.g x (wipe σ c.vs) H' fun σ2 H2 => wipe σ2 c.vs = wipe σ c.vs ∧ c.tt σ2 H2 fun b H3 => if b = true then tIn D te r σ2 H3 N else N H3)
/-- the clauses behind the first, in the block's context -/
inductive ClOk (B : Cx) : List Comprehension → List ClR → List Nat → Prop
  | nil {vs : List Nat} : ClOk B [] [] vs
  | cons {tg iter : Expr} {ifs : List Expr} {wi : TI} {g : TG} {tt : TT} {vs vs1 : List Nat} {gs : List Comprehension} {cs : List ClR} (hi : PI B tg iter wi) (hg : PG B tg g) (ht : PTs B ifs tt)
      (hs : ∀ x, foldedSetIterable iter B.env x = pure x) (hv : ∀ i ∈ vs1, i ∈ vs) (r : ClOk B gs cs vs1) : ClOk B (⟨tg, iter, ifs, 0⟩ :: gs) (⟨wi, g, tt, vs1⟩ :: cs) vs
section
variable {prog : Program} {w : World} {A : Around} {s : Shared} {elt : Expr} {gens : List Comprehension} {scope : Scope} {pos : Pos} {it acc : Value} {env : Env}
abbrev NB (prog : Program) (w : World) (A : Around) (env : Env) (R : Result → Shared → Prop) : Value → Shared → Prop := notedBy (model prog w) A env fun e s' => R (.error e) s'
/-- one turn of the loop of clause k: next, store, tests, then what is inside -/
theorem turn_last {k : Nat} {t i : Expr} {ifs : List Expr} {R : Result → Shared → Prop} {V : Fin → Shared → Prop} (h : gens[k]? = some ⟨t, i, ifs, 0⟩) (h' : gens[k + 1]? = none)
    (turn : wpAny (model prog w) A (pyNext it) (fun r s₁ => match r with
      | none => V (.done .next) s₁
      | some v => wpAny (model prog w) A (letOwnedTupleGo t it v) (fun _ s₂ => wpAny (model prog w) A (assign t env v) (fun _ s₃ =>
          wpAny (model prog w) A (forIn ifs true fun c r => if r = true then do let ok ← isTrue c env (eval c env); pure (ForInStep.yield ok) else pure (ForInStep.yield r)) (fun ok s₄ =>
            if ok = true then wpAny (model prog w) A (eval elt env) (fun x s₅ => wpAny (model prog w) A (call (.builtin "list.append") [acc, x]) (fun _ s₆ => V (.again (.compLoop (.ListComp elt gens scope pos) k it acc env)) s₆) (NB prog w A env R) s₅) (NB prog w A env R) s₄
            else V (.again (.compLoop (.ListComp elt gens scope pos) k it acc env)) s₄) (NB prog w A env R) s₃) (NB prog w A env R) s₂) (NB prog w A env R) s₁) (NB prog w A env R) s) :
    wpAny (model prog w) A (compTurn (.ListComp elt gens scope pos) k it acc env) V (NB prog w A env R) s := by
  unfold compTurn
  simp only [h, h']
  refine wpAny_bind (wpAny_standAt (wpAny_bind (wpAny_mono (show wpAny (model prog w) A (pyNext it) _ _ s from turn) (fun r s₁ h₁ => ?_) fun _ _ h' => h')))
  cases r with
  | none => exact wpAny_pure h₁
  | some v =>
    refine wpAny_bind (wpAny_mono h₁ (fun _ s₂ h₂ => ?_) fun _ _ h' => h')
    refine wpAny_bind (wpAny_mono h₂ (fun _ s₃ h₃ => wpAny_bind (wpAny_mono h₃ (fun ok s₄ h₄ => ?_) fun _ _ h' => h')) fun _ _ h' => h')
    cases ok with
    | false => exact wpAny_pure h₄
    | true =>
      exact wpAny_bind (wpAny_bind (wpAny_mono h₄ (fun x s₅ h₅ => wpAny_bind (wpAny_mono h₅ (fun _ s₆ h₆ => wpAny_pure (wpAny_pure h₆)) fun _ _ h' => h')) fun _ _ h' => h'))
theorem turn_more {k : Nat} {t i : Expr} {ifs : List Expr} {R : Result → Shared → Prop} {V : Fin → Shared → Prop} {t1 i1 : Expr} {ifs1 : List Expr} (h : gens[k]? = some ⟨t, i, ifs, 0⟩) (h' : gens[k + 1]? = some ⟨t1, i1, ifs1, 0⟩) (hs : ∀ x, foldedSetIterable i1 env x = pure x)
    (turn : wpAny (model prog w) A (pyNext it) (fun r s₁ => match r with
      | none => V (.done .next) s₁
      | some v => wpAny (model prog w) A (letOwnedTupleGo t it v) (fun _ s₂ => wpAny (model prog w) A (assign t env v) (fun _ s₃ =>
          wpAny (model prog w) A (forIn ifs true fun c r => if r = true then do let ok ← isTrue c env (eval c env); pure (ForInStep.yield ok) else pure (ForInStep.yield r)) (fun ok s₄ =>
            if ok = true then wpAny (model prog w) A (eval i1 env) (fun x s₅ => wpAny (model prog w) A (pyIter x) (fun it1 s₆ => codeAny (model prog w) A (.compStart (.ListComp elt gens scope pos) (k + 1) it1 acc env) (fun r s' => match r with | .ok _ => V (.again (.compLoop (.ListComp elt gens scope pos) k it acc env)) s' | .error _ => False) s₆) (NB prog w A env R) s₅) (NB prog w A env R) s₄
            else V (.again (.compLoop (.ListComp elt gens scope pos) k it acc env)) s₄) (NB prog w A env R) s₃) (NB prog w A env R) s₂) (NB prog w A env R) s₁) (NB prog w A env R) s) :
    wpAny (model prog w) A (compTurn (.ListComp elt gens scope pos) k it acc env) V (NB prog w A env R) s := by
  unfold compTurn
  simp only [h, h']
  refine wpAny_bind (wpAny_standAt (wpAny_bind (wpAny_mono (show wpAny (model prog w) A (pyNext it) _ _ s from turn) (fun r s₁ h₁ => ?_) fun _ _ h' => h')))
  cases r with
  | none => exact wpAny_pure h₁
  | some v =>
    refine wpAny_bind (wpAny_mono h₁ (fun _ s₂ h₂ => ?_) fun _ _ h' => h')
    refine wpAny_bind (wpAny_mono h₂ (fun _ s₃ h₃ => wpAny_bind (wpAny_mono h₃ (fun ok s₄ h₄ => ?_) fun _ _ h' => h')) fun _ _ h' => h')
    cases ok with
    | false => exact wpAny_pure h₄
    | true =>
      refine wpAny_bind (wpAny_mono h₄ (fun x s₅ h₅ => ?_) fun _ _ h' => h')
      refine wpAny_bind (wpAny_standAt (wpAny_bind (wpAny_of_eq (hs x) (wpAny_bind (wpAny_holding (wpAny_mono h₅ (fun it1 s₆ h₆ => ?_) fun _ _ h' => h'))))))
      refine wpAny_bind (wpAny_runOwn ?_)
      rw [Around.mark_none]
      refine codeAny_mono h₆ fun r s' hr => ?_
      cases r with
      | error e => exact hr.elim
      | ok f =>
        first
          | exact wpAny_pure hr
          | exact wpAny_bind (wpAny_pure (wpAny_pure hr))
/-- a later clause's start -/
theorem startN {k : Nat} {c : Comprehension} {R : Result → Shared → Prop} (h : gens[k]? = some c) (hc : c.is_async = 0) (h0 : codeAny (model prog w) A (.compLoop (.ListComp elt gens scope pos) k it acc env) R s)
    (h1 : wpAny (model prog w) A (pyIter it) (fun it' s' => codeAny (model prog w) A (.compLoop (.ListComp elt gens scope pos) k it' acc env) R s') (NB prog w A env R) s) :
    codeAny (model prog w) A (.compStart (.ListComp elt gens scope pos) k it acc env) R s := by
  refine codeAny_of_tree ?_
  show wpAny _ _ ((compStart (.ListComp elt gens scope pos) k it acc env).onRaise (fun x => do noteFrame x env; standAt theWindowsPlace)) _ _ s
  refine wpAny_notedAt ?_
  have hg : (clausesOf (.ListComp elt gens scope pos))[k]? = some c := h
  unfold compStart
  simp only [hg, Option.elim, hc]
  refine wpAny_bind (wpAny_askSetting (wpAny_ite ?_))
  split
  · first
      | exact wpAny_bind (wpAny_pure (wpAny_pure (And.intro rfl h0)))
      | exact wpAny_pure (And.intro rfl h0)
  · have h2 : wpAny (model prog w) A (pyIter it >>= fun x => again (.compLoop (.ListComp elt gens scope pos) k x acc env)) (fun fin s' => match fin with
        | .done f => R (.ok f) s'
        | .again c' => c'.quiet = true ∧ codeAny (model prog w) A c' R s') (NB prog w A env R) s :=
      wpAny_bind (wpAny_mono h1 (fun it' s' h' => wpAny_pure (And.intro rfl h')) fun _ _ x => x)
    first
      | exact wpAny_bind (wpAny_rule (wpAny_bind (wpAny_standAt h2)))
      | exact wpAny_bind (wpAny_rule (wpAny_bind (wpAny_bind (wpAny_standAt (wpAny_pure h2)))))
end
section
variable {B : Cx} {elt : Expr} {te : TE} {gens : List Comprehension} {scope : Scope} {pos : Pos} {D : Addr}
theorem drop_ix {α : Type} {xs ys : List α} {x : α} {k : Nat} (h : xs.drop k = x :: ys) : xs[k]? = some x ∧ xs.drop (k + 1) = ys := by
  refine ⟨?_, ?_⟩
  · have := List.getElem?_drop (xs := xs) (i := k) (j := 0)
    rw [h] at this
    simpa using this.symm
  · rw [← List.drop_drop, h]
    rfl
theorem drop_no {α : Type} {xs : List α} {k : Nat} (h : xs.drop k = []) : xs[k]? = none := by
  rw [List.getElem?_eq_none_iff]
  exact List.drop_eq_nil_iff.mp h
theorem thnX {α : Type} {t : Sem α} {Q Q' : α → Shared → Prop} {M : Model} {A : Around} {E E' : Value → Shared → Prop} {s : Shared} (hE : E = fun _ _ => False) (h : wpAny M A t Q E s) (hQ : ∀ a s, Q a s → Q' a s) : wpAny M A t Q' E' s := by
  subst hE
  exact thnF h hQ
/-- the loop of clause k -/
theorem levelN (hc : B.calm = true) (hx : B.xe = fun _ _ => False) (pe : PE B elt te) {gs : List Comprehension} {cs : List ClR} {vs : List Nat} (C : ClOk B gs cs vs) : ∀ {k : Nat} {tg iter : Expr} {ifs : List Expr} {g : TG} {tt : TT} {J : It} {fp : List Addr} {it : Addr} {tn : Nat → Heap → Prop}
    {pins : List (Addr × Obj)} {σ : L2.St} {H : Hp} {s : Shared} {W : Nat → Nat → Hp → Prop} {m0 : Nat} {R : Result → Shared → Prop} {Nx : Hp → Prop} (hk : gens.drop k = ⟨tg, iter, ifs, 0⟩ :: gs) (pg : PG B tg g) (pt : PTs B ifs tt) (T : Turn B.prog B.w B.K tg J fp it tn)
    (I : L2.Inv B pins (wipe σ vs) H s) (st : tn 0 s.heap) (fpok : ∀ {H' : Hp} {s' : Shared}, L2.Inv B pins (wipe σ vs) H' s' → (∀ b ∈ fp, H' b = none) → ∀ b ∈ fp, FpOk B pins H' b) (fn : ∀ b ∈ fp, H b = none) (w0 : W 0 m0 H)
    (turn : ∀ i m H, W i m H → (J.stop i H ∧ Nx H) ∨ (J.go i H ∧ ∃ N : Hp → Prop, (∀ H', N H' → ∃ m', m' < m ∧ W (i + 1) m' H') ∧ ∀ x H', J.yld i H x H' → g x (wipe σ vs) H' fun σ2 H2 => wipe σ2 vs = wipe σ vs ∧ tt σ2 H2 fun b H3 => if b = true then tIn D te cs σ2 H3 N else N H3))
    (fin : ∀ s' H', L2.Inv B pins (wipe σ vs) H' s' → Nx H' → R (.ok .next) s'), codeAny (model B.prog B.w) B.A (.compLoop (.ListComp elt gens scope pos) k (.ref it) (.ref D) B.env) R s := by
  induction C with
  | nil =>
    intro k tg iter ifs g tt J fp it tn pins σ H s W m0 R Nx hk pg pt T I st fpok fn w0 turn fin
    rename_i vs
    obtain ⟨h1, h2⟩ := drop_ix hk
    refine codeAny_loop rfl (fun n s' => ∃ i H', L2.Inv B pins (wipe σ vs) H' s' ∧ tn i s'.heap ∧ (∀ b ∈ fp, H' b = none) ∧ W i n H') (fun n s5 hI => ?_) m0 ⟨0, H, I, st, fn, w0⟩
    obtain ⟨i, H5, I5, st5, n5, w5⟩ := hI
    show wpAny _ B.A ((compTurn (.ListComp elt gens scope pos) k (.ref it) (.ref D) B.env).onRaise (fun x => do noteFrame x B.env; theTreesLotGoes x)) _ _ s5
    refine wpAny_noted (turn_last (R := R) h1 (drop_no h2) ?_)
    rcases turn i n H5 w5 with ⟨stop, qq⟩ | ⟨go, N, hN, step⟩
    · refine thnF (T.done B rfl rfl rfl hc i pins s5 _ H5 (fun _ _ => False) I5 (fpok I5 n5) st5 stop) fun r s6 ⟨hr, I6⟩ => ?_
      subst hr
      exact fin s6 H5 I6 qq
    · refine thnF (T.item B rfl rfl rfl hc i pins s5 _ H5 (fun _ _ => False) I5 (fpok I5 n5) st5 go) fun r s6 ⟨u, hr, h6⟩ => ?_
      subst hr
      refine thnF h6 fun _ s7 ⟨x, H7, I7, r7, y7, st7, n7⟩ => ?_
      have I7' := I7.pinned (fpok I7 n7) (T.obj _ _ st7)
      refine thnX hx (pg.run _ s7 _ H7 x u _ I7' r7 (step x H7 y7)) fun _ s8 ⟨σ8, H8, I8, hw8, q8⟩ => ?_
      refine thnX hx (pt.run _ s8 σ8 H8 _ I8 q8) fun b s9 ⟨H9, I9, q9⟩ => ?_
      have back : ∀ {s' : Shared} {H' : Hp}, L2.Inv B (pins ++ pinsAt fp s7.heap) σ8 H' s' → N H' → ∃ m, m < n ∧ ∃ i H', L2.Inv B pins (wipe σ vs) H' s' ∧ tn i s'.heap ∧ (∀ b ∈ fp, H' b = none) ∧ W i m H' := fun {s' H'} I' nx => by
        obtain ⟨m', hm, w'⟩ := hN H' nx
        have pin : ∀ b ∈ fp, ∀ o, s7.heap.get? b = some o → s'.heap.get? b = some o ∧ H' b = none := fun b hb o e =>
          let z := I'.pin (b, o) (List.mem_append_right _ (List.mem_append_right _ (mem_pinsAt hb e)))
          ⟨z.1, z.2.1⟩
        refine ⟨m', hm, i + 1, H', I'.unpinned.weak (by rw [← hw8, wipe_length]) (fun j v e => by rw [← hw8] at e; exact (wipe_some e).1), T.keep _ _ _ st7 fun b hb o e => (pin b hb o e).1, fun b hb => ?_, w'⟩
        obtain ⟨o, e, _⟩ := T.obj _ _ st7 b hb
        exact (pin b hb o e).2
      cases b with
      | false =>
        simp only [Bool.false_eq_true, if_false] at q9 ⊢
        exact ⟨by first | trivial | rfl, back I9 q9⟩
      | true =>
        simp only [if_true] at q9 ⊢
        refine thnX hx (pe.run _ s9 σ8 H9 _ I9 q9) fun z s10 ⟨yv, H10, I10, r10, acc, hD, hz, nx⟩ => ?_
        exact app_ok (X := B) I10 hD hz r10 fun s11 I11 => ⟨by first | trivial | rfl, back I11 nx⟩
  | @cons tg1 iter1 ifs1 wi1 g1 tt1 vs vs1 gs cs hi1 hg1 ht1 hs1 hv1 r1 ih =>
    intro k tg iter ifs g tt J fp it tn pins σ H s W m0 R Nx hk pg pt T I st fpok fn w0 turn fin
    obtain ⟨h1, h2⟩ := drop_ix hk
    obtain ⟨h3, _⟩ := drop_ix h2
    refine codeAny_loop rfl (fun n s' => ∃ i H', L2.Inv B pins (wipe σ vs) H' s' ∧ tn i s'.heap ∧ (∀ b ∈ fp, H' b = none) ∧ W i n H') (fun n s5 hI => ?_) m0 ⟨0, H, I, st, fn, w0⟩
    obtain ⟨i, H5, I5, st5, n5, w5⟩ := hI
    show wpAny _ B.A ((compTurn (.ListComp elt gens scope pos) k (.ref it) (.ref D) B.env).onRaise (fun x => do noteFrame x B.env; theTreesLotGoes x)) _ _ s5
    refine wpAny_noted (turn_more (R := R) h1 h3 hs1 ?_)
    rcases turn i n H5 w5 with ⟨stop, qq⟩ | ⟨go, N, hN, step⟩
    · refine thnF (T.done B rfl rfl rfl hc i pins s5 _ H5 (fun _ _ => False) I5 (fpok I5 n5) st5 stop) fun r s6 ⟨hr, I6⟩ => ?_
      subst hr
      exact fin s6 H5 I6 qq
    · refine thnF (T.item B rfl rfl rfl hc i pins s5 _ H5 (fun _ _ => False) I5 (fpok I5 n5) st5 go) fun r s6 ⟨u, hr, h6⟩ => ?_
      subst hr
      refine thnF h6 fun _ s7 ⟨x, H7, I7, r7, y7, st7, n7⟩ => ?_
      have I7' := I7.pinned (fpok I7 n7) (T.obj _ _ st7)
      refine thnX hx (pg.run _ s7 _ H7 x u _ I7' r7 (step x H7 y7)) fun _ s8 ⟨σ8, H8, I8, hw8, q8⟩ => ?_
      refine thnX hx (pt.run _ s8 σ8 H8 _ I8 q8) fun b s9 ⟨H9, I9, q9⟩ => ?_
      have hl8 : (wipe σ vs).length = σ8.length := by rw [← hw8, wipe_length]
      have back : ∀ {σ9 : L2.St} {s' : Shared} {H' : Hp}, L2.Inv B (pins ++ pinsAt fp s7.heap) σ9 H' s' → σ8.length = σ9.length → (∀ (j : Nat) v, (wipe σ vs)[j]? = some (some v) → σ9[j]? = some (some v)) → N H' →
          ∃ m, m < n ∧ ∃ i H', L2.Inv B pins (wipe σ vs) H' s' ∧ tn i s'.heap ∧ (∀ b ∈ fp, H' b = none) ∧ W i m H' := fun {σ9 s' H'} I' hl hkp nx => by
        obtain ⟨m', hm, w'⟩ := hN H' nx
        have pin : ∀ b ∈ fp, ∀ o, s7.heap.get? b = some o → s'.heap.get? b = some o ∧ H' b = none := fun b hb o e =>
          let z := I'.pin (b, o) (List.mem_append_right _ (List.mem_append_right _ (mem_pinsAt hb e)))
          ⟨z.1, z.2.1⟩
        refine ⟨m', hm, i + 1, H', I'.unpinned.weak (hl8.trans hl) hkp, T.keep _ _ _ st7 fun b hb o e => (pin b hb o e).1, fun b hb => ?_, w'⟩
        obtain ⟨o, e, _⟩ := T.obj _ _ st7 b hb
        exact (pin b hb o e).2
      have k8 : ∀ (j : Nat) v, (wipe σ vs)[j]? = some (some v) → σ8[j]? = some (some v) := fun j v e => by
        rw [← hw8] at e
        exact (wipe_some e).1
      have k9 : ∀ (j : Nat) v, (wipe σ vs)[j]? = some (some v) → (wipe σ8 vs1)[j]? = some (some v) := fun j v e => by
        rw [← hw8] at e
        obtain ⟨e1, e2⟩ := wipe_some e
        rw [wipe_out fun z => e2 (hv1 j z)]
        exact e1
      cases b with
      | false =>
        simp only [Bool.false_eq_true, if_false] at q9 ⊢
        exact ⟨by first | trivial | rfl, back I9 rfl k8 q9⟩
      | true =>
        simp only [if_true] at q9 ⊢
        refine thnX hx (hi1.run _ s9 σ8 H9 _ I9 q9) fun xv s10 hx0 => thnX hx hx0 fun itv s11 h11 => ?_
        obtain ⟨it1, fp1, tn1, J1, H11, e1, I11, T1, st11, f11, W1, ⟨m1, w1⟩, turn1⟩ := h11
        subst e1
        have lp : codeAny (model B.prog B.w) B.A (.compLoop (.ListComp elt gens scope pos) (k + 1) (.ref it1) (.ref D) B.env) (fun r s' => match r with
            | .ok _ => ∃ m, m < n ∧ ∃ i H', L2.Inv B pins (wipe σ vs) H' s' ∧ tn i s'.heap ∧ (∀ b ∈ fp, H' b = none) ∧ W i m H'
            | .error _ => False) s11 :=
          ih h2 hg1 ht1 T1 (I11.weak (wipe_length _ _) fun j v e => (wipe_some e).1) st11 (fun {H' s'} I' hn b hb => ⟨hn b hb, (f11 b hb).2⟩) (fun b hb => (f11 b hb).1) w1 turn1 fun s' H' I' nx => back I' (wipe_length σ8 vs1).symm k9 nx
        exact codeAny_mono (startN h3 rfl lp (T1.self B.A 0 _ _ _ st11 lp)) fun r s' hr => by
          cases r with
          | ok f => exact ⟨by first | trivial | rfl, hr⟩
          | error e => exact hr.elim
end
section
variable {X : Cx} {elt tg iter : Expr} {ifs : List Expr} {gs : List Comprehension} {cs : List ClR} {scope : Scope} {own : List (Str × Nat)} {pos : Pos} {wi : TI} {g : TG} {tt : TT} {te : TE}
abbrev blkC (X : Cx) (scope : Scope) (s : Shared) (H : Hp) (C : Addr) (cl : List (Str × Addr)) (fp : List Addr) : Cx := X.blk s H scope (compEnvC scope cl C X.env) fp
theorem lcN_core {pins : List (Addr × Obj)} {s : Shared} {σ : L2.St} {H : Hp} {Q : VK} {pos' : Pos} {use : Option (Value → Sem Unit)} {Qf : Value → Shared → Prop}
    (hc : X.calm = true) (hN : X.N.Nodup) (I : L2.Inv X pins σ H s) (hi : PI X tg iter wi) (ok : BlkOk X.N X.env.scope scope own)
    (hg : ∀ s H C cl fp, PG (blkC X scope s H C cl fp) tg g) (ht : ∀ s H C cl fp, PTs (blkC X scope s H C cl fp) ifs tt) (hC : ∀ s H C cl fp, ClOk (blkC X scope s H C cl fp) gs cs (own.map (·.2))) (he : ∀ s H C cl fp, PE (blkC X scope s H C cl fp) elt te)
    (hs : ∀ x, foldedSetIterable iter X.env x = pure x) (h : tLcN ⟨wi, g, tt, own.map (·.2)⟩ cs te σ H Q)
    (hRR : ∀ D C s' m H', L2.Inv X pins σ H' s' → Q (.ref D) H' → s'.heap.Ns C m → FpOk X pins H' C → compPost (model X.prog X.w) X.A X.xe use Qf (.ref D) C (.ok .next) s') :
    wpAny (model X.prog X.w) X.A (comprehension (.ListComp elt (⟨tg, iter, ifs, 0⟩ :: gs) scope pos) scope X.env pos' (newList []) false (eval iter X.env) use) Qf X.xe s := by
  have fr : ∀ y ∈ scope.names, y.2 = .free → ∃ c, X.env.cells.lookup y.1 = some c := fun y hy e => (ok.free y hy e).elim (fun k => I.ok.has _ (.inl k)) fun k => I.ok.has _ (.inr k)
  refine wpAny_comprehension_free (use := use) rfl hs (closure_ok fr) ok.kind (fun y hy e => by rw [ok.uniq y hy, e]) (thn (hi.run pins s σ H _ I h) fun xv s1 hx => thn hx fun itv s2 ⟨it, fp, tn, J, H2, e, I2, T, st2, f2, q⟩ => ?_)
  subst e
  refine wpAny_newObj_type (newEnv_comp ?_) (by show 0 ≤ sizeLine; decide)
  have hDn : H2 s2.heap.objs.size = none := I2.hok.fresh (Nat.le_refl _)
  obtain ⟨W, ⟨m0, w0⟩, turn⟩ := q _ hDn
  -- behind the making of the list
  generalize hs3 : ({ s2 with heap := s2.heap.push { cls := .type "list", data := .seq ([] : List Value).toArray } } : Shared) = s3
  have h3 : s3.heap = s2.heap.push { cls := .type "list", data := .seq ([] : List Value).toArray } := by rw [← hs3]
  have I3 : L2.Inv X pins σ (upd H2 s2.heap.objs.size (.lst [])) s3 := by
    rw [← hs3]
    exact I2.laid (t' := s2.toks) (fun b o e => Heap.get?_push_of_some _ e) (Nat.le_refl _) ⟨Nat.zero_le _, [], 0, .nil, Heap.get?_push_size _ rfl⟩
  have lt2 : ∀ b ∈ fp, b < s2.heap.objs.size := fun b hb => let ⟨o, e, _⟩ := T.obj _ _ st2 b hb; Heap.lt_size e
  have f3 : ∀ b ∈ fp, FpOk X pins (upd H2 s2.heap.objs.size (.lst [])) b ∧ b < s3.heap.objs.size := fun b hb => by
    refine ⟨⟨?_, (f2 b hb).2⟩, by rw [h3, Heap.size_push]; exact Nat.lt_succ_of_lt (lt2 b hb)⟩
    rw [upd_ne (Nat.ne_of_lt (lt2 b hb))]
    exact (f2 b hb).1
  have st3 : tn 0 s3.heap := T.keep _ _ _ st2 fun b _ o e => by rw [h3]; exact Heap.get?_push_of_some _ e
  have I4 := block_start I3 ok hN f3
  generalize hcl : cellsFrom (s3.heap.objs.size + 1) scope.names (cloFrom X.env.cells scope.names []) = cl at I4
  generalize hH3 : upd H2 s2.heap.objs.size (.lst []) = H3 at I3 I4 w0 f3
  have st4 : tn 0 (pushCells (s3.heap.push { cls := .type "dict", data := .dict #[] }) scope.names) := T.keep _ _ _ st3 fun b _ o e => pushCells_keeps _ _ _ _ (Heap.get?_push_of_some _ e)
  show codeAny _ _ (.compStart (.ListComp elt (⟨tg, iter, ifs, 0⟩ :: gs) scope pos) 0 (.ref it) (.ref s2.heap.objs.size) (compEnvC scope cl s3.heap.objs.size X.env)) (compPost (model X.prog X.w) X.A X.xe use Qf (.ref s2.heap.objs.size) s3.heap.objs.size) { s3 with heap := pushCells (s3.heap.push { cls := .type "dict", data := .dict #[] }) scope.names }
  have loop := levelN (B := blkC X scope s3 H3 s3.heap.objs.size cl fp) (gens := ⟨tg, iter, ifs, 0⟩ :: gs) (scope := scope) (pos := pos) (D := s2.heap.objs.size) (k := 0) (R := compPost (model X.prog X.w) X.A X.xe use Qf (.ref s2.heap.objs.size) s3.heap.objs.size) (Nx := fun H' => Q (.ref s2.heap.objs.size) H') hc rfl (he s3 H3 s3.heap.objs.size cl fp) (hC s3 H3 s3.heap.objs.size cl fp) rfl
    (hg s3 H3 s3.heap.objs.size cl fp) (ht s3 H3 s3.heap.objs.size cl fp) T I4 st4 (fun {H' s'} I' hn b hb => ⟨hn b hb, (I'.ok.exf b hb).1, I'.ok.exfs b hb, .inl hb, fun x c e => (I'.ok.exf b hb).2 x c e, fun p hp => absurd (show p ∈ ([] : List (Addr × Obj)) ++ [] from hp) (by simp)⟩)
    (fun b hb => (f3 b hb).1.1) w0 turn fun s' H' I' qq => ?_
  · exact codeAny_compStart_list loop (T.self X.A 0 _ _ _ st4 loop)
  · have J7 : L2.Inv X pins σ H' s' := I3.call' (ch := fp) I'.os I'.base I'.hok I'.bare fun b hb => ⟨(f3 b hb).1.2.2.2.1, (f3 b hb).1.2.1, (f3 b hb).1.2.2.2.2.1, (f3 b hb).1.2.2.2.2.2⟩
    obtain ⟨m, hn, _⟩ := I'.loc
    exact hRR _ _ s' m H' J7 qq (show s'.heap.Ns s3.heap.objs.size m from hn) (I3.fpOk (Nat.le_refl _) (show H' s3.heap.objs.size = none from I'.free))
/-- as a value -/
theorem pe_lcN (hc : X.calm = true) (hN : X.N.Nodup) (hi : PI X tg iter wi) (ok : BlkOk X.N X.env.scope scope own)
    (hg : ∀ s H C cl fp, PG (blkC X scope s H C cl fp) tg g) (ht : ∀ s H C cl fp, PTs (blkC X scope s H C cl fp) ifs tt) (hC : ∀ s H C cl fp, ClOk (blkC X scope s H C cl fp) gs cs (own.map (·.2))) (he : ∀ s H C cl fp, PE (blkC X scope s H C cl fp) elt te)
    (hs : ∀ x, foldedSetIterable iter X.env x = pure x := by intro _; rfl) : PE X (.ListComp elt (⟨tg, iter, ifs, 0⟩ :: gs) scope pos) (tLcN ⟨wi, g, tt, own.map (·.2)⟩ cs te) := by
  refine ⟨fun pins s σ H Q I h => ?_⟩
  rw [eval_ListComp]
  refine lcN_core hc hN I hi ok hg ht hC he hs h fun D C s' m H' I' q hn f => ⟨m, hn, fun h'' sb => ?_⟩
  exact ⟨.ref D, H', I'.turned (t' := s'.toks) (fun b o hb e => (sb.2 b hb).trans e) f.1 f.2.1 f.2.2.2.1 f.2.2.2.2.1 f.2.2.2.2.2, rfl, q⟩
/-- stored in a name -/
theorem ps_setLcN {i : Nat} {y : Str} {py spos : Pos} (hc : X.calm = true) (hN : X.N.Nodup) (hy : X.N[i]? = some y) (hyl : X.env.scope.names.lookup y = some .local) (hsw : swapsWith (.ListComp elt (⟨tg, iter, ifs, 0⟩ :: gs) scope pos) (some (.Name y py)) spos.line X.env = pure true)
    (hi : PI X tg iter wi) (ok : BlkOk X.N X.env.scope scope own)
    (hg : ∀ s H C cl fp, PG (blkC X scope s H C cl fp) tg g) (ht : ∀ s H C cl fp, PTs (blkC X scope s H C cl fp) ifs tt) (hC : ∀ s H C cl fp, ClOk (blkC X scope s H C cl fp) gs cs (own.map (·.2))) (he : ∀ s H C cl fp, PE (blkC X scope s H C cl fp) elt te)
    (hs : ∀ x, foldedSetIterable iter X.env x = pure x := by intro _; rfl) : PS X (.Assign [.Name y py] (.ListComp elt (⟨tg, iter, ifs, 0⟩ :: gs) scope pos) spos) (tAsg (tLcN ⟨wi, g, tt, own.map (·.2)⟩ cs te) (gName i)) := by
  refine ⟨fun pins s σ H D I h => ?_⟩
  rw [exec_Assign_Name_used _ _ _ _ hsw]
  refine wpAny_bind (wpAny_standAt (wpAny_bind ?_))
  have h' : tLcN ⟨wi, g, tt, own.map (·.2)⟩ cs te σ H (fun x H1 => gName i x σ H1 D.nx) := h
  refine wpAny_bind (thn (lcN_core (Qf := fun _ s' => SP X pins D .next s') (use := some (assign (.Name y py) X.env)) hc hN I hi ok hg ht hC he hs h' fun L C s' m H' I' q hn f => ?_) fun _ s' hq => wpAny_pure (wpAny_pure hq))
  show wpAny _ _ (assign (.Name y py) X.env (.ref L)) _ _ _
  obtain ⟨f0, f1, f2, f3, f4, f5⟩ := f
  refine wpAny_assign_Name (store_ok2 (v := V.ref L) I' hN hy (.inl hyl) rfl (fun s2 I2 ⟨a, sb, ha⟩ => ?_) (.inr hyl))
  have ne : C ≠ a := by
    rcases ha with z | z
    · rw [z]; exact f1
    · exact fun e => f4 y a z e.symm
  exact ⟨m, hn.sameBut sb ne, fun h3 sb3 => ⟨_, H', I2.turned (t' := s2.toks) (fun b o hb e => (sb3.2 b hb).trans e) f0 f1 f3 f4 f5, q⟩⟩
end
end Sh
set_option Elab.async false
set_option linter.all false
set_option maxRecDepth 100000
set_option maxHeartbeats 4000000
namespace Sh
open PySem PySem.Spec PyProof.Rows L2
/-! ### try: .. except X as e: .. except Y as e: .. (the same name e, slot i) -/
/-- behind a suite: the name is gone -/
def gone (i : Nat) (D : Ends) : Ends := { nx := fun σ' H' => D.nx (σ'.set i none) H', rt := D.rt, bk := fun σ' H' => D.bk (σ'.set i none) H', ct := fun σ' H' => D.ct (σ'.set i none) H' }
abbrev HdR := Value × (Addr → Value → Option Addr → TS)
def wAll (K : PySem.W.Frag) (i : Nat) (Wout : WX) (D : Ends) : List HdR → WX
  | [] => Wout
  | (c, ts) :: r => fun cls d σ H => ∃ b, PySem.W.exmOne K cls c = some b ∧ (b = true → ∀ a, H a = none → ts a cls d (gone i D) (σ.set i (some (.ref a))) H) ∧ (b = false → wAll K i Wout D r cls d σ H)
inductive AsOk (X : Cx) (n : Str) : List ExceptHandler → List HdR → Prop
  | nil : AsOk X n [] []
  | cons {x : Str} {c : Value} {ts : Addr → Value → Option Addr → TS} {b₀ : Stmt} {suite : List Stmt} {np pos' : Pos} {hds : List ExceptHandler} {l : List HdR} (hc : Names X x c)
      (hsu : ∀ (a : Addr) (oe : Obj) (cls : Value) (d : Option Addr) (pn : List (Addr × Obj)), Zc cls d oe → (∃ vs, oe.data = .fields vs) → PSs (X.suite a ((a, oe) :: pn)) (b₀ :: suite) (ts a cls d)) (r : AsOk X n hds l) :
      AsOk X n (.ExceptHandler (some (.Name x np)) (some n) (b₀ :: suite) pos' :: hds) ((c, ts) :: l)
section
variable {X : Cx} {n : Str} {i : Nat} {body : List Stmt} {h₀ : ExceptHandler} {hds : List ExceptHandler} {l : List HdR} {pos : Pos} {tb : WX → TS} {Wout : WX}
theorem ps_try_manyAs (hs : X.stack = X.env :: X.outer) (hf : X.env.frame = some X.env.locals) (hN : X.N.Nodup) (hi : X.N[i]? = some n) (hln : X.env.kindOf n = some .local) (tk : Takes X Wout)
    (hb : ∀ (W : WX) (pn : List (Addr × Obj)) (xe : Value → Shared → Prop), Takes (X.tr pn xe) W → PassesOwn (model X.prog X.w) X.A X.env xe → PSs (X.tr pn xe) body (tb W))
    (hh : AsOk X n (h₀ :: hds) l) : PS X (.Try body (h₀ :: hds) [] [] pos) (fun D σ H => tb (wAll X.K i Wout D l) D σ H) := by
  refine ⟨fun pins s σ H D I h => wpAny_Try_except ?_⟩
  have ok := I.ok
  have fr : X.A.frames = some (X.env :: X.outer) := by rw [ok.frames, hs]
  let after : Value → Shared → Prop := fun e s₁ => wpAny (model X.prog X.w) X.A (noteFrame e X.env) (fun _ s₂ => wpAny (model X.prog X.w) X.A (setFlight e none) (fun _ s₃ => wpAny (model X.prog X.w) X.A (handleBy e X.env (h₀ :: hds)) (SP X pins D) X.xe s₃) X.xe s₂) X.xe s₁
  have caught : Takes (X.tr (X.pn ++ pins) after) (wAll X.K i Wout D l) := by
    rintro u s' ⟨a, B, sI, pins', σ', H', cls, d, rfl, J', nb, up, sky, na, os, ag, w⟩
    have J : L2.Inv X pins σ' H' sI := J'.ofTry ok
    have sk : Sky B (X.env :: X.outer) a (Zc cls d) X.env.locals s'.heap := hs ▸ sky
    show wpAny (model X.prog X.w) X.A (noteFrame (.ref a) X.env) _ _ _
    refine Sky.land Zc.steady fr hf sk fun g fl ug => ?_
    have J3 : L2.Inv X pins σ' H' { s' with heap := g } := J.landed nb fl.1 (up.trans ug) os ag
    obtain ⟨oe, vs, ge, hz, gd⟩ := fl.there
    have aside : a ∉ frs (X.env :: X.outer) := fun m => by
      obtain ⟨_, o', q, nf⟩ := fl.2.2.1.mem m
      rw [ge] at q
      cases q
      exact nf _ gd
    have nL : a ≠ X.env.locals := fun z => aside (List.mem_filterMap.mpr ⟨X.env, List.mem_cons_self, by rw [hf, z]⟩)
    have nF : a ∉ X.fs := fun m => let ⟨e, he, q⟩ := List.mem_filterMap.mp m; aside (List.mem_filterMap.mpr ⟨e, List.mem_cons_of_mem _ he, q⟩)
    have S3 := J3.suite ge gd na nL nF
    have look : PySem.W.Looks (model X.prog X.w) g (typeOf (.ref a)) cls := fun A Q E s k q => wpAny_typeOf_ref (k _ _ ge) (by rw [hz.1]; exact q)
    suffices key : ∀ {hs' : List ExceptHandler} {l' : List HdR}, AsOk X n hs' l' → wAll X.K i Wout D l' cls d σ' H' → wpAny (model X.prog X.w) X.A (handleBy (.ref a) X.env hs') (SP X pins D) X.xe { s' with heap := g } from key hh w
    intro hs' l' hk
    induction hk with
    | nil =>
      intro w
      refine wpAny_handleBy_nil ?_
      obtain ⟨_, _, _, o1, vs1, T, _, _, e1, _, d1, f1, _⟩ := id fl
      unfold PySem.passOn
      refine wpAny_bind (wpAny_field e1 d1 f1 ?_)
      rw [if_neg (show ¬ ((Value.ref T == Value.none) = true) from by simp)]
      have out : wpAny (model X.prog X.w) X.A (setFlight (.ref a) X.env.frame) (fun _ s4 => wpAny (model X.prog X.w) X.A (throw (.ref a) : Sem Flow) (SP X pins D) X.xe s4) X.xe { s' with heap := g } := by
        rw [hf]
        exact HandSPX.setFlight_upZ fl fun h4 sk4 up4 => wpAny_throw (tk _ _ ⟨a, B, sI, pins, σ', H', cls, d, rfl, J, nb, (up.trans ug).trans up4, .inr (.inr (by rw [hs]; exact sk4)), na, os, ag, w⟩)
      first
        | exact wpAny_bind (wpAny_pure (wpAny_bind out))
        | exact wpAny_bind out
    | @cons x c ts b₀ suite np pos' hds2 l2 hc hsu r ih =>
      rintro ⟨b, eb, yes, no⟩
      refine wpAny_handleBy_cons (codeAny_handlers_test ?_) (by intro q; cases q)
      have named : ∀ {Q : Value → Shared → Prop} {E : Value → Shared → Prop}, Q c { s' with heap := g } → wpAny (model X.prog X.w) (X.A.mark (some (.ref a))) (eval (.Name x np) X.env) Q E { s' with heap := g } := fun {Q E} q => by
        obtain ⟨k1, k2, k3 | ⟨k3, k4, k5⟩⟩ := hc
        · exact ld_glob (X := X.suite a ((a, oe) :: (X.pn ++ pins))) S3 k1 k3 q k2
        · exact ld_blt (X := X.suite a ((a, oe) :: (X.pn ++ pins))) S3 k1 k3 k4 q k5 k2
      refine named ((PySem.W.exm_one (M := model X.prog X.w) J3.kIn look eb).here ?_)
      cases b with
      | false => exact ih (no rfl)
      | true =>
        refine codeAny_handlers_suite_as (HandSPX.lands_againZ fl fun h4 fl4 up4 => ?_)
        have J4 : L2.Inv X pins σ' H' { s' with heap := h4 } := J.landed nb fl4.1 ((up.trans ug).trans up4) os ag
        obtain ⟨o4, vs4, g4, z4, d4⟩ := fl4.there
        refine store_ok (X := X.suite a ((a, o4) :: (X.pn ++ pins))) (v := .ref a) (J4.suite g4 d4 na nL nF) hN hi (.inl hln) rfl (fun s5 S5 => ?_) (.inr hln)
        refine wpAny_mono ((hsu a o4 cls d (X.pn ++ pins) z4 ⟨_, d4⟩).run [] s5 _ H' _ S5 (yes rfl a na)) (fun f s6 hq => ?_) (fun _ _ z => False.elim z)
        have bye : ∀ {σ6 : L2.St} {H6 : Hp} {Q : Shared → Prop}, L2.Inv (X.suite a ((a, o4) :: (X.pn ++ pins))) [] σ6 H6 s6 → (∀ s7, L2.Inv X pins (σ6.set i none) H6 s7 → Q s7) →
            wpAny (model X.prog X.w) X.A (do bindName X.env n .none; unbindBehindTheSuite X.env n pos') (fun _ s7 => Q s7) X.xe s6 := fun S6 hq => gone_ok (S6.unsuite ok) hN hi hln hq
        cases f with
        | ret u => obtain ⟨v, _, _, S6, r6, q⟩ := hq; exact bye S6 fun s7 J7 => ⟨v, _, _, J7, r6, q⟩
        | next => obtain ⟨_, _, S6, q⟩ := hq; exact bye S6 fun s7 J7 => ⟨_, _, J7, q⟩
        | brk => obtain ⟨_, _, S6, q⟩ := hq; exact bye S6 fun s7 J7 => ⟨_, _, J7, q⟩
        | cont => obtain ⟨_, _, S6, q⟩ := hq; exact bye S6 fun s7 J7 => ⟨_, _, J7, q⟩
  refine wpAny_mono ((hb _ (X.pn ++ pins) after caught PassesOwn.looking).run [] s σ H D (I.toTry _) h) (fun f s1 hq => ?_) (fun e s1 he => he)
  cases f with
  | ret u => obtain ⟨v, _, _, J, r, q⟩ := hq; exact ⟨v, _, _, J.ofTry ok, r, q⟩
  | next => obtain ⟨_, _, J, q⟩ := hq; exact wpAny_execs_nil ⟨_, _, J.ofTry ok, q⟩
  | brk => obtain ⟨_, _, J, q⟩ := hq; exact ⟨_, _, J.ofTry ok, q⟩
  | cont => obtain ⟨_, _, J, q⟩ := hq; exact ⟨_, _, J.ofTry ok, q⟩
end
end Sh
set_option Elab.async false
set_option linter.all false
set_option maxRecDepth 100000
set_option maxHeartbeats 4000000
namespace Sh
open PySem PySem.Spec PyProof.Rows L2
/-! ### o == t, t a tuple, where o's own == gives NotImplemented -/
theorem same_left {M : Model} {A : Around} {E : Value → Shared → Prop} {s : Shared} {x y : Addr} {ox oy : Obj} {R : Bool → Shared → Prop} (hxy : x ≠ y) (hx : s.heap.get? x = some ox) (hy : s.heap.get? y = some oy) (nt : ox.cls ≠ .type "tuple") (h : R false s) : wpAny M A (isSame (.ref x) (.ref y)) R E s := by
  show wpAny M A (if (x == y) = true then pure true else _) R E s
  rw [if_neg (by simpa using hxy)]
  refine wpAny_bind (wpAny_load hx (wpAny_bind (wpAny_load hy ?_)))
  split
  · rename_i h1 _ _ _
    exact absurd h1 nt
  · exact wpAny_pure h
section
variable {X : Cx} {C f : Addr} {fd : FuncData}
theorem sub_tup {K : PySem.W.Frag} {C : Addr} : PySem.W.subIn K (.type "tuple") (.ref C) = some false := by
  have e : fastBuiltinMro "tuple" = some [.type "tuple", .type "object"] := by decide +kernel
  show (fastBuiltinMro "tuple").map (·.contains (.ref C)) = some false
  rw [e]
  first
    | rfl
    | simp
theorem tup_eq_ins {prog : Program} {w : World} {A : Around} {E : Value → Shared → Prop} {s : Shared} {K : PySem.W.Frag} {x b C : Addr} {ox ob : Obj} {od : Option Obj} {Q : Option Value → Shared → Prop} (X : K.In s.heap) (I : PySem.W.InstAt s.heap x ox C od) (nt : PySem.W.mroIn K C (.type "tuple") = some false)
    (hb : s.heap.get? b = some ob) (hc : ob.cls = .type "tuple") (h : Q none s) : wpAny (model prog w) A (tryCompare (.ref b) "__eq__" (.ref x)) Q E s := by
  refine wpAny_tryCompare_declines (show s.TypeIs (.ref b) "tuple" from ⟨ob, hb, hc⟩) F.slot_tuple_eq (GQ.call_here F.slot_tuple_eq ⟨ob, hb, hc⟩ F.entry_tuple_eq (F.args_tuple_eq_2 _ _) ?_)
  have L : PySem.W.Looks (model prog w) s.heap (isInstance (.ref x) (.type "tuple")) false := I.type.andThen (PySem.W.looks_mroIn X nt)
  unfold Builtin.«tuple.__eq__»
  repeat (first | with_reducible refine wpAny_bind (L.here ?_) | wp_step)
  exact ⟨rfl, h⟩
/-- o == xs, where o's own == gives NotImplemented: False -/
def rEqNT (N : List Str) (C : Addr) (tt : TT) : R2 := fun x y H Q => ∃ a b dx fs xs, x = .ref a ∧ y = .ref b ∧ H a = some (.ins C dx fs) ∧ H b = some (.tup xs) ∧
  tt (L2.start N [x, y]) H (fun k H' => k = true ∧ H' a = some (.ins C dx fs) ∧ H' b = some (.tup xs) ∧ Q (.bl false) H')
theorem op_eqNT {qual : Str} {st : Stmt} {N : List Str} {c : Expr} {rest : List Stmt} {p p2 p3 : Pos} {tt : TT} (e : EqC X.K C f)
    (F : Fun X.K "__eq__" qual st f fd) (S : FnScope N ["self", "other"] (defScope st)) (hbd : defBody st = .If c [.Return (some (.Name "NotImplemented" p)) p2] [] p3 :: rest) (hbi : Binds X.K fd ["self", "other"] [])
    (hg : (defScope st).names.lookup ("NotImplemented" : Str) = some .globalImplicit) (hm : X.mg "NotImplemented" = none)
    (ht : ∀ (cdv : Value) (A : Around) (outer : List Env) (s : Shared) (H : Hp) (E : XK), Room 0 A → PT (cxOf CX0 X.prog X.w X.K X.mg X.base N qual (defScope st) f cdv A outer s H E) c tt) (hr : Room 1 X.A) : OpR X (compareOp .Eq) (rEqNT N C tt) := by
  intro pins s σ H x y v u Q I rx ry h
  obtain ⟨a, b, dx, fs, xs, rfl, rfl, ha, hb, hq⟩ := h
  cases rx
  cases ry
  have hab : a ≠ b := ne_of ha hb (by intro z; cases z)
  obtain ⟨mA, J, _⟩ := ins_get I.hok ha
  obtain ⟨od, J, _⟩ := J.look
  obtain ⟨_, its, _, ot, hob, hcl, n, _⟩ := I.hok b _ hb
  have un := hr.un
  have one : wpAny (model X.prog X.w) X.A (tryCompare (.ref a) "__eq__" (.ref b)) (fun r s' => r = none ∧ ∃ H', L2.Inv X pins σ H' s' ∧ H' a = some (.ins C dx fs) ∧ H' b = some (.tup xs) ∧ Q (.bl false) H') X.xe s := by
    unfold tryCompare
    refine wpAny_bind (PySem.W.ifBound_K I.kIn J e.eq e.fn (wpAny_mono (run_ni F S hbd hbi hg hm ht hr I.env0 (us := [.ref a, .ref b]) (vs := [.ref a, .ref b]) (.cons rfl (.cons rfl .nil)) rfl hq) (fun v s' z => ?_) fun _ _ z => z.elim))
    obtain ⟨rfl, H', os, bare, un, hok, q1, q2, q3⟩ := z
    exact wpAny_pure ⟨rfl, H', I.call' os un hok bare (fun b z => absurd z (by simp)), q1, q2, q3⟩
  show wpAny (model X.prog X.w) X.A (richCompare .Eq (.ref a) (.ref b)) (EP X pins σ Q) X.xe s
  simp only [richCompare, cmpInfo_Eq, oneThing_ref]
  refine wpAny_holding (wpAny_bind (wpAny_cRoomFor (by omega) ?_))
  refine wpAny_bind (J.type.here ?_)
  refine wpAny_bind (wpAny_typeOf (show s.TypeIs (.ref b) "tuple" from ⟨_, hob, hcl⟩) ?_)
  have tail : ∀ s1, (∃ H', L2.Inv X pins σ H' s1 ∧ H' a = some (.ins C dx fs) ∧ H' b = some (.tup xs) ∧ Q (.bl false) H') → wpAny (model X.prog X.w) X.A (tryCompare (.ref b) "__eq__" (.ref a)) (fun r s' => r = none ∧ s' = s1) X.xe s1 ∧ wpAny (model X.prog X.w) X.A (isSame (.ref a) (.ref b)) (fun r s' => r = false ∧ s' = s1) X.xe s1 := by
    rintro s1 ⟨H', I1, q1, q2, _⟩
    obtain ⟨mB, J1, _⟩ := ins_get I1.hok q1
    obtain ⟨od1, J1, _⟩ := J1.look
    obtain ⟨_, its1, _, ot1, hob1, hcl1, n1, _⟩ := I1.hok b _ q2
    exact ⟨tup_eq_ins I1.kIn J1 e.nt hob1 hcl1 ⟨rfl, rfl⟩, same_left hab J1.at_ hob1 (by intro z; cases z) ⟨rfl, rfl⟩⟩
  split
  · refine wpAny_bind ((PySem.W.looks_subIn I.kIn sub_tup).here ?_)
    simp only [Bool.false_eq_true, if_false, Bool.not_false, if_true]
    refine wpAny_bind (m := tryCompare (.ref a) _ (.ref b)) (wpAny_mono one (fun r s1 z => ?_) fun _ _ e => e)
    obtain ⟨rfl, z⟩ := z
    refine wpAny_bind (m := tryCompare (.ref b) _ (.ref a)) (wpAny_mono (tail s1 z).1 (fun r s2 y => ?_) fun _ _ e => e)
    obtain ⟨rfl, rfl⟩ := y
    refine wpAny_bind (wpAny_rule (wpAny_bind (wpAny_mono (tail s2 z).2 (fun r s3 y => ?_) fun _ _ e => e)))
    obtain ⟨rfl, rfl⟩ := y
    obtain ⟨H', I1, _, _, q⟩ := z
    exact wpAny_pure ⟨.bl false, H', I1, rfl, q⟩
  · refine wpAny_bind (wpAny_pure ?_)
    simp only [Bool.false_eq_true, if_false, Bool.not_false, if_true]
    refine wpAny_bind (m := tryCompare (.ref a) _ (.ref b)) (wpAny_mono one (fun r s1 z => ?_) fun _ _ e => e)
    obtain ⟨rfl, z⟩ := z
    refine wpAny_bind (m := tryCompare (.ref b) _ (.ref a)) (wpAny_mono (tail s1 z).1 (fun r s2 y => ?_) fun _ _ e => e)
    obtain ⟨rfl, rfl⟩ := y
    refine wpAny_bind (wpAny_rule (wpAny_bind (wpAny_mono (tail s2 z).2 (fun r s3 y => ?_) fun _ _ e => e)))
    obtain ⟨rfl, rfl⟩ := y
    obtain ⟨H', I1, _, _, q⟩ := z
    exact wpAny_pure ⟨.bl false, H', I1, rfl, q⟩
end
end Sh
set_option Elab.async false
set_option linter.all false
set_option maxRecDepth 100000
set_option maxHeartbeats 4000000
namespace Sh
open PySem PySem.Spec PyProof.Rows L2
open AutoSeq1 (wpAny_loadPart')
/-! ### for i, x in enumerate(t), t a tuple -/
abbrev itT (t : Addr) : Obj := { cls := .type "tuple_iterator", data := .fields #[.ref t, .int 0 0] }
abbrev enO (it : Addr) : Obj := { cls := .type "enumerate", data := .fields #[.none, .bool false, .ref it, rawInt 0, .none, .none] }
theorem enumT_new (l : Addr) (items : Array Value) (n : Nat) (dct : Option Addr) (sl : Array (Option Value)) :
    Meets (Builtin.«enumerate.__new__» ⟨[.type "enumerate", .ref l], []⟩) (fun _ R s => s.heap.get? l = some { cls := .type "tuple", dict := dct, data := .seq items n, slots := sl } ∧
      R (.ok (.ret (.ref (s.heap.push (itT l)).objs.size))) { s with heap := (s.heap.push (itT l)).push (enO s.heap.objs.size) }) :=
  .of_wp fun prog w A R s h => by
    obtain ⟨hp, g, d, tk, os⟩ := s
    obtain ⟨hl, h⟩ := h
    have sub := sub_enumerate
    have tup : Heap.IsTuple (Shared.heap ⟨hp, g, d, tk, os⟩) l items := ⟨_, hl, rfl, n, rfl⟩
    wp_walk using wpAny_loadPart' hl
    refine wpAny_stack_any fun st => wpAny_pure ?_
    split
    · rename_i c _ _ _ _ _
      cases (c == Value.type "enumerate") <;>
      · wp_walk using wpAny_loadPart' hl, wpAny_pyIter_tuple tup
        exact ⟨_, rfl, h⟩
    · wp_walk using wpAny_loadPart' hl, wpAny_pyIter_tuple tup
      exact ⟨_, rfl, h⟩
theorem call_enumT {prog : Program} {w : World} {A : Around} {E : Value → Shared → Prop} {s : Shared} {t : Addr} {items : Array Value} {Q : Value → Shared → Prop} (hT : s.heap.IsTuple t items)
    (h : ∀ h', IsEnum h' (s.heap.objs.size + 1) s.heap.objs.size 0 .none → h'.IsTupleIter s.heap.objs.size t 0 → (∀ b o, s.heap.get? b = some o → h'.get? b = some o) → Q (.ref (s.heap.objs.size + 1)) { s with heap := h' }) :
    wpAny (model prog w) A (call (.type "enumerate") [.ref t]) Q E s := by
  obtain ⟨⟨c, dct, dt, sl⟩, hl, hc, n, hd⟩ := hT
  have ec : c = .type "tuple" := hc
  have ed : dt = .seq items n := hd
  subst ec ed
  refine callType_new F.called_enumerate (by decide) (F.typeCall_enumerate_1 _) (F.newCall_enumerate_1 _) (fun obj => F.args_object_init_2 obj _) F.entry_enumerate_new (enumT_new t items n dct sl) ⟨hl, ?_⟩
  have sz : (s.heap.push (itT t)).objs.size = s.heap.objs.size + 1 := Heap.size_push ..
  show _ ∧ _
  rw [sz]
  have ae : ((s.heap.push (itT t)).push (enO s.heap.objs.size)).get? (s.heap.objs.size + 1) = some (enO s.heap.objs.size) := by
    have := Heap.get?_push_size (s.heap.push (itT t)) (o := enO s.heap.objs.size) rfl
    rw [sz] at this
    exact this
  exact ⟨⟨_, ae, rfl⟩, h _ ae ⟨_, Heap.get?_push_of_some _ (Heap.get?_push_size _ rfl), rfl, rfl⟩ fun b o x => Heap.get?_push_of_some _ (Heap.get?_push_of_some _ x)⟩
theorem endT {prog : Program} {w : World} {A : Around} {E : Value → Shared → Prop} {s : Shared} {e it a : Addr} {i : Nat} {items : Array Value} {old : Value} {Q : Option Value → Shared → Prop} (hh : A.handled = none) (he : IsEnum s.heap e it (i : Int) old) (hit : s.heap.IsTupleIter it a i) (ht : s.heap.IsTuple a items)
    (hx : items[i]? = none) (hQ : ∀ h', Heap.ExtBut it s.heap h' → Q none { s with heap := h' }) : wpAny (model prog w) A (pyNext (.ref e)) Q E s := by
  have hT : s.TypeIs (.ref e) "enumerate" := ⟨_, he, rfl⟩
  unfold pyNext
  refine wpAny_bind (wpAny_attempt (wpAny_callSpecial?_slot (name := Str.ofString "__next__") hT F.slot_enumerate_next (wpAny_call_entry F.slot_enumerate_next hT F.entry_enumerate_next ?_ (F.args_enumerate_next_1 _))))
  show wpAny _ _ (field (.ref e) 2 >>= _) _ _ _
  refine wpAny_bind (wpAny_field he rfl (x := .ref it) rfl ?_)
  refine wpAny_bind (PySem.wpAny_nextOf_tuple_end hh hit ht hx fun h' x eb hx' => ?_)
  obtain ⟨o, ho, hc⟩ := hx'
  exact wpAny_bind (wpAny_isInstance (T := "StopIteration") (b := true) ⟨o, ho, hc⟩ isSubtype_stop (wpAny_pure (hQ _ eb)))
/-- the tuple at a, its items in new pairs with their number -/
def ItET (K : PySem.W.Frag) (a : Addr) : It :=
  ⟨fun i H => ∃ (xs : List V) (x : V), SqT K H a xs ∧ xs[i]? = some x, fun i H v H' => ∃ T x, v = .ref T ∧ H T = none ∧ H' = upd H T (.tup [.int (i : Nat), x]) ∧ ∀ xs, SqT K H a xs → xs[i]? = some x, fun i H => ∃ xs : List V, SqT K H a xs ∧ xs.length ≤ i⟩
theorem tup_ne {h : Heap} {a b : Addr} {items : Array Value} {o : Obj} (t : h.IsTuple a items) (hb : h.get? b = some o) (n : o.cls ≠ .type "tuple") : a ≠ b := fun z => by
  obtain ⟨o', h1, h2, _⟩ := t
  rw [z, hb] at h1
  cases h1
  exact n h2
theorem turn_enumT {P : Program} {w : World} {K : PySem.W.Frag} {elts : List Expr} {kk : Nat} {tpos : Pos} (a e it : Addr) :
    Turn P w K (.Tuple elts kk tpos) (ItET K a) [e, it] e (fun i h => (∃ old, IsEnum h e it ((i : Nat) : Int) old) ∧ h.IsTupleIter it a i ∧ e ≠ it) where
  mem := by simp
  obj := fun i h st b hb => by
    obtain ⟨⟨old, he⟩, ⟨o, ho, hc, hd⟩, _⟩ := st
    rcases (show b = e ∨ b = it by simpa using hb) with rfl | rfl
    · exact ⟨_, he, fun v q => nomatch q⟩
    · exact ⟨o, ho, fun v q => by rw [hd] at q; cases q⟩
  keep := fun i h h' st k => let ⟨⟨old, he⟩, hi, hne⟩ := st; ⟨⟨old, k e (by simp) _ he⟩, hi.at fun o q => k it (by simp) o q, hne⟩
  item := by
    intro X hP hw hK hc i pins s σ H E I hf st hg
    subst hP hw hK
    obtain ⟨⟨old, he⟩, hit, hne⟩ := st
    obtain ⟨xs, x, hq, hx⟩ := hg
    obtain ⟨its, rv, p, hz⟩ := I.tuple hq
    obtain ⟨u, hu, ru⟩ := rv.get hx
    have le : e < s.heap.objs.size := Heap.lt_size he
    have li : it < s.heap.objs.size := let ⟨_, q, _⟩ := hit; Heap.lt_size q
    have tp : s.heap.IsTuple a its.toArray := p
    have ae : a ≠ e := tup_ne tp he (fun z => absurd (Value.type.inj z) (by decide))
    have ai : a ≠ it := let ⟨o, q, c, _⟩ := hit; tup_ne tp q (by rw [c]; decide)
    have hil : i < its.toArray.size := by
      have := (List.getElem?_eq_some_iff.mp hu).1
      simpa using this
    refine wpAny_pyNext_enum_itemD (PySem.Draws.tuple (prog := X.prog) (w := X.w) (A := X.A.in1) (I.ok.hd hc) it a ai its.toArray) he ⟨hit, tp⟩ hil hne (by simp [hne, ae.symm]) fun x' h' tk px ho st' hT hsz hk => ?_
    have ex : x' = u := by
      have px' : its.toArray[i]? = some x' := px
      rw [show its.toArray[i]? = its[i]? by simp, hu] at px'
      exact (Option.some.inj px').symm
    subst ex
    refine ⟨_, rfl, wpAny_letOwnedTupleGo_enum (s := { s with heap := h', toks := tk + 1 }) ho fun h'' he' sb => ?_⟩
    have hT2 : h''.get? s.heap.objs.size = some { cls := .type "tuple", data := .seq #[.int i tk, x'] } := (sb.2 _ (Nat.ne_of_gt le)).trans hT
    have new : ObjOk X.prog X.w (upd H s.heap.objs.size (.tup [.int (i : Nat), x])) h'' s.heap.objs.size (.tup [.int (i : Nat), x]) :=
      ⟨by show 2 ≤ sizeLine; decide, [.int i tk, x'], .cons ⟨_, rfl⟩ (.cons ru .nil), ⟨_, hT2, rfl, _, rfl⟩⟩
    have I1 : L2.Inv X pins σ (upd H s.heap.objs.size (.tup [.int (i : Nat), x])) { s with heap := h'', toks := tk + 1 } :=
      I.turnedNew (ch := [e, it]) (fun b ob hb q => (sb.2 b (fun z => hb (by simp [z]))).trans (hk b ob (fun z => hb (by simp [z])) (fun z => hb (by simp [z])) q)) hf (Nat.le_refl _) new
    refine ⟨.ref s.heap.objs.size, _, I1, rfl, ⟨_, x, rfl, I.hok.fresh (Nat.le_refl _), rfl, fun ys hy => by rw [I.tuple_inj hy hq]; exact hx⟩, ⟨⟨x', ?_⟩, st'.1.at fun o q => (sb.2 it (Ne.symm hne)).trans q, hne⟩, fun b hb => ?_⟩
    · rw [show ((i + 1 : Nat) : Int) = (i : Int) + 1 by omega]
      exact he'
    · have lb : b < s.heap.objs.size := by
        rcases (show b = e ∨ b = it by simpa using hb) with rfl | rfl
        · exact le
        · exact li
      rw [upd_ne (Nat.ne_of_lt lb)]
      exact (hf b hb).1
  done := by
    intro X hP hw hK hc i pins s σ H E I hf st hg
    subst hP hw hK
    obtain ⟨⟨old, he⟩, hit, hne⟩ := st
    obtain ⟨xs, hq, hx⟩ := hg
    obtain ⟨its, rv, p, hz⟩ := I.tuple hq
    obtain ⟨f0, f1, f2, f3, f4, f5⟩ := hf it (by simp)
    have hl := rv.length
    have tp : s.heap.IsTuple a its.toArray := p
    have ai : a ≠ it := let ⟨o, q, c, _⟩ := hit; tup_ne tp q (by rw [c]; decide)
    exact endT (I.ok.hd hc) he hit tp (by simp; omega) fun h' eb => ⟨rfl, I.turned (t' := s.toks) (fun b o hb q => eb b o hb q) f0 f1 f3 f4 f5⟩
  self := fun A i s Q E st h => let ⟨⟨_, he⟩, _⟩ := st; wpAny_pyIter_enum he h
def iEnumT (K : PySem.W.Frag) (ta : TA) : TI := fun σ H R => ta σ H fun vs H1 => ∃ a xs, vs = [.ref a] ∧ SqT K H1 a xs ∧ R (ItET K a) H1
theorem pi_enumT {X : Cx} {e : Expr} {ta : TA} {p pos tpos : Pos} {elts : List Expr} {kk : Nat} (hg : Gl X "enumerate") (hm : X.mg "enumerate" = none) (ha : PA X [e] ta) (hs : starEach [e] X.env = [(false, eval e X.env)] := by rfl) :
    PI X (.Tuple elts kk tpos) (.Call (.Name "enumerate" p) [e] [] pos) (iEnumT X.K ta) := by
  refine ⟨fun pins s σ H R I h => ?_⟩
  refine Call_ (ld_blt I hg hm boot_enumerate (PyProof.Rows.callWith_type1 (thn (ha.run pos pins s σ H _ I h) fun us s1 ⟨vs, H1, I1, r1, a, xs, ex, hq, q⟩ => ?_) hs rfl))
  subst ex
  rw [Vals.ref1 r1]
  obtain ⟨its, rv, tp, hz⟩ := I1.tuple hq
  refine call_enumT (show s1.heap.IsTuple a its.toArray from tp) fun h' he hit hk => wpAny_pyIter_enum he ?_
  refine ⟨s1.heap.objs.size + 1, [s1.heap.objs.size + 1, s1.heap.objs.size], _, _, H1, rfl, I1.kept (t' := s1.toks) hk, turn_enumT a (s1.heap.objs.size + 1) s1.heap.objs.size, ⟨⟨.none, he⟩, hit, Nat.succ_ne_self _⟩, fun b hb => ?_, q⟩
  have le : s1.heap.objs.size ≤ b := by
    rcases (show b = s1.heap.objs.size + 1 ∨ b = s1.heap.objs.size by simpa using hb) with z | z
    · rw [z]; exact Nat.le_add_right _ _
    · rw [z]; exact Nat.le_refl _
  exact I1.fpOk le (I1.hok.fresh le)
/-- two readings of what is walked -/
theorem pi_alt {X : Cx} {tg iter : Expr} {w1 w2 : TI} (h1 : PI X tg iter w1) (h2 : PI X tg iter w2) : PI X tg iter (fun σ H R => w1 σ H R ∨ w2 σ H R) :=
  ⟨fun pins s σ H R I h => h.elim (h1.run pins s σ H R I) (h2.run pins s σ H R I)⟩
theorem for_enumT {K : PySem.W.Frag} {a : Addr} {xs : List V} {g : TG} {tb : TS} {D : Ends} {σ : L2.St} {H : Hp} (Pv : Nat → L2.St → Hp → Prop) (h0 : Pv 0 σ H) (hl : ∀ i σ H, i ≤ xs.length → Pv i σ H → SqT K H a xs)
    (hs : ∀ (i : Nat) (x : V) (σ : L2.St) (H : Hp) (T : Addr), xs[i]? = some x → H T = none → Pv i σ H → g (.ref T) σ (upd H T (.tup [.int (i : Nat), x])) fun σ2 H2 => tb { D with nx := Pv (i + 1), ct := Pv (i + 1), bk := D.nx } σ2 H2) (hd : ∀ σ H, Pv xs.length σ H → D.nx σ H) :
    ∃ W : Nat → Nat → L2.St → Hp → Prop, (∃ m, W 0 m σ H) ∧ ∀ i m σ H, W i m σ H →
      ((ItET K a).stop i H ∧ D.nx σ H) ∨ ((ItET K a).go i H ∧ ∃ N : L2.St → Hp → Prop, (∀ σ' H', N σ' H' → ∃ m', m' < m ∧ W (i + 1) m' σ' H') ∧ ∀ x H', (ItET K a).yld i H x H' → g x σ H' fun σ2 H2 => tb { D with nx := N, ct := N, bk := D.nx } σ2 H2) := by
  refine ⟨fun i m σ H => m = xs.length - i ∧ i ≤ xs.length ∧ Pv i σ H, ⟨xs.length, by simp, Nat.zero_le _, h0⟩, ?_⟩
  rintro i m σ H ⟨rfl, hi, p⟩
  have q := hl i σ H hi p
  by_cases hlt : i < xs.length
  · refine .inr ⟨⟨xs, xs[i], q, by simp [hlt]⟩, Pv (i + 1), fun σ' H' p' => ⟨xs.length - (i + 1), by omega, rfl, hlt, p'⟩, fun x H' y => ?_⟩
    obtain ⟨T, x, rfl, nT, rfl, y⟩ := y
    exact hs i x σ _ T (y xs q) nT p
  · have e : i = xs.length := by omega
    subst e
    exact .inl ⟨⟨xs, q, Nat.le_refl _⟩, hd σ H p⟩
end Sh
set_option Elab.async false
set_option linter.all false
set_option maxRecDepth 100000
set_option maxHeartbeats 4000000
namespace Sh
open PySem PySem.Spec PyProof.Rows L2
/-- tuple(s), s a text -/
theorem call_tup_str {X : Cx} (hc : X.calm = true) : CallR X (.type "tuple") (fun xs H Q => ∃ z, xs = [.str z] ∧ z.length ≤ sizeLine ∧ ∀ p, H p = none → Q (.ref p) (upd H p (.tup ((Sh.signs z).map V.str)))) := by
  intro pins s σ H xs us Q I r h
  obtain ⟨z, rfl, hz, q⟩ := h
  obtain ⟨u, rfl, t, rfl⟩ := vals1 r
  have el : ((Sh.signs z).map V.str).length = z.cps.size := by unfold Sh.signs; simp
  refine call_tuple_str (hsz := hz) (I.ok.hd hc) z t fun h' tk acc keep hacc => ?_
  have rv : Vals ((Sh.signs z).map V.str) acc.toList := by
    refine vals_of_at (by rw [el, Array.length_toList]; exact hacc.1.symm) fun j x y h1 h2 => ?_
    obtain ⟨cc, uu, hcc, rfl⟩ := hacc.2 j y (by rw [← Array.getElem?_toList]; exact h2)
    have e2 : ((Sh.signs z).map V.str)[j]? = some (V.str ⟨#[cc]⟩) := by
      unfold Sh.signs
      rw [List.getElem?_map, List.getElem?_map, Array.getElem?_toList, hcc]
      rfl
    rw [e2] at h1
    cases h1
    exact ⟨uu, rfl⟩
  have I1 : Inv X pins σ H { s with heap := h', toks := tk } := I.kept (t' := tk) keep
  have I2 : Inv X pins σ (upd H h'.objs.size (.tup ((Sh.signs z).map V.str))) { s with heap := h'.push { cls := .type "tuple", data := .seq acc }, toks := tk } :=
    I1.laid (t' := tk) (fun b o e => Heap.get?_push_of_some _ e) (Nat.le_refl _) (show ObjOk X.prog X.w _ _ _ (.tup ((Sh.signs z).map V.str)) from ⟨by rw [el]; exact hz, acc.toList, rv, by rw [Array.toArray_toList]; exact IsTup.new _ _⟩)
  exact ⟨.ref h'.objs.size, _, I2, rfl, q _ (I1.hok.fresh (Nat.le_refl _))⟩
end Sh
set_option Elab.async false
set_option linter.all false
set_option maxRecDepth 100000
set_option maxHeartbeats 4000000
namespace Sh
open PySem L2 PyProof.Rows
/-! ### constants that are tuples, told to the hook -/
def relB : V → Value → Bool
  | .non, .none => true
  | .bl b, .bool c => b == c
  | .int i, .int j _ => decide (i = j)
  | .str x, .str y _ => decide (x = y)
  | .ref a, .ref b => decide (a = b)
  | _, _ => false
theorem relB_ok : ∀ {v : V} {u : Value}, relB v u = true → RelV v u := by
  intro v u h
  cases v <;> cases u <;> first | exact absurd h Bool.false_ne_true | skip
  · rfl
  · rename_i b c
    have : b = c := eq_of_beq h
    subst this
    rfl
  · rename_i i j t
    have : i = j := of_decide_eq_true h
    subst this
    exact ⟨t, rfl⟩
  · rename_i x y t
    have : x = y := of_decide_eq_true h
    subst this
    exact ⟨t, rfl⟩
  · rename_i a b
    have : a = b := of_decide_eq_true h
    subst this
    rfl
def relsB : List V → List Value → Bool
  | [], [] => true
  | v :: vs, u :: us => relB v u && relsB vs us
  | _, _ => false
theorem relsB_ok : ∀ {vs : List V} {us : List Value}, relsB vs us = true → Vals vs us
  | [], [], _ => .nil
  | [], _ :: _, h => absurd h Bool.false_ne_true
  | _ :: _, [], h => absurd h Bool.false_ne_true
  | v :: vs, u :: us, h => by
    have h : (relB v u && relsB vs us) = true := h
    rw [Bool.and_eq_true] at h
    exact .cons (relB_ok h.1) (relsB_ok h.2)
/-- the tuple at a has these items -/
def tupB (K : PySem.W.Frag) (a : Addr) (vs : List V) : Bool := match K.lookup a with
  | some ob => decide (ob.cls = .type "tuple") && decide (ob.dict = none) && match ob.data with
    | .seq us _ => relsB vs us.toList
    | _ => false
  | none => false
/-- where the i-th item of the tuple at a stands -/
def kidC (K : PySem.W.Frag) (a : Addr) (i : Nat) : Addr := match K.lookup a with
  | some ob => match ob.data with
    | .seq us _ => match us.toList[i]? with
      | some (.ref b) => b
      | _ => 0
    | _ => 0
  | none => 0
theorem tupB_ok {K : PySem.W.Frag} {a : Addr} {vs : List V} (h : tupB K a vs = true) (hl : vs.length ≤ sizeLine) : (∀ H, SqT K H a vs) ∧ ∃ o, K.lookup a = some o ∧ o.cls = .type "tuple" ∧ o.dict = none := by
  unfold tupB at h
  cases e : K.lookup a with
  | none => rw [e] at h; exact absurd h Bool.false_ne_true
  | some ob =>
    rw [e] at h
    dsimp only at h
    rw [Bool.and_eq_true, Bool.and_eq_true] at h
    obtain ⟨⟨h1, h2⟩, h3⟩ := h
    obtain ⟨c, d, dat, sl⟩ := ob
    obtain rfl : c = .type "tuple" := of_decide_eq_true h1
    obtain rfl : d = none := of_decide_eq_true h2
    dsimp only at h3
    cases dat with
    | seq us n =>
      have v := relsB_ok h3
      have hz : us.size ≤ sizeLine := Nat.le_trans (Nat.le_of_eq ((Array.length_toList (xs := us)).symm.trans (Paired.length v).symm)) hl
      exact ⟨fun _ => .inr ⟨_, us, n, e, rfl, rfl, hz, v⟩, _, rfl, rfl, rfl⟩
    | _ => exact absurd h3 Bool.false_ne_true
end Sh
set_option Elab.async false
set_option linter.all false
set_option maxRecDepth 100000
set_option maxHeartbeats 4000000
namespace Sh
open PySem PySem.Spec PyProof.Rows L2
/-! ### dicts whose keys are tuples of None, bools, ints, texts -/
def leafV : V → Bool
  | .non => true
  | .bl _ => true
  | .int _ => true
  | .str _ => true
  | _ => false
def nkV : V → NestedKey
  | .bl b => .num (if b = true then 1 else 0)
  | .int i => .num i
  | .str x => .text x
  | _ => .none
/-- v, of nested tuples to a depth of n, is the key k -/
def NKn (K : PySem.W.Frag) (H : Hp) : Nat → V → NestedKey → Prop
  | 0, v, k => leafV v = true ∧ k = nkV v
  | n + 1, v, k => (leafV v = true ∧ k = nkV v) ∨ ∃ b vs ks, v = .ref b ∧ SqT K H b vs ∧ Paired (NKn K H n) vs ks ∧ k = .tup ks
/-- the tuple at b is the key k -/
def KeyAt (K : PySem.W.Frag) (H : Hp) (k : NestedKey) (b : Addr) : Prop := ∃ vs ks, SqT K H b vs ∧ Paired (NKn K H 6) vs ks ∧ k = .tup ks
theorem nkn_leaf {K : PySem.W.Frag} {H : Hp} {n : Nat} {v : V} (h : leafV v = true) : NKn K H n v (nkV v) := by
  cases n with
  | zero => exact ⟨h, rfl⟩
  | succ n => exact .inl ⟨h, rfl⟩
def DNo (P : Program) (w : World) (a : Addr) (xs : List (NestedKey × Addr × V)) : HO := .ext fun h => xs.length ≤ sizeLine ∧ (a == sysModules) = false ∧
  ∃ ys : List (NestedKey × Addr × Value), Paired (fun (p : NestedKey × Addr × V) (q : NestedKey × Addr × Value) => p.1 = q.1 ∧ p.2.1 = q.2.1 ∧ RelV p.2.2 q.2.2) xs ys ∧
    ∃ o es ep, h.get? a = some o ∧ o.ExactDict ∧ o.data = .dict es ep ∧ es.toList = ys.map (entryOfKey (nestedKind P w)) ∧ (ys.map (·.1)).Nodup
def kvN (xs : List (NestedKey × Addr × V)) : List (NestedKey × V) := xs.map fun x => (x.1, x.2.2)
/-- at a stands a dict with these keys and values, in their order -/
def DN (P : Program) (w : World) (K : PySem.W.Frag) (H : Hp) (a : Addr) (kvs : List (NestedKey × V)) : Prop := ∃ xs, H a = some (DNo P w a xs) ∧ kvN xs = kvs ∧ ∀ x ∈ xs, KeyAt K H x.1 x.2.1
theorem nkn_mono {K : PySem.W.Frag} {H H' : Hp} (s : ∀ c u, Rd H c (.tup u) → Rd H' c (.tup u)) : ∀ (n : Nat) {v : V} {k : NestedKey}, NKn K H n v k → NKn K H' n v k
  | 0, _, _, h => h
  | n + 1, _, _, h => by
    rcases h with h | ⟨b, vs, ks, e, h1, h2, h3⟩
    · exact .inl h
    · refine .inr ⟨b, vs, ks, e, ?_, ?_, h3⟩
      · rcases h1 with h1 | h1
        · exact .inl (s _ _ h1)
        · exact .inr h1
      · have : ∀ {vs : List V} {ks : List NestedKey}, Paired (NKn K H n) vs ks → Paired (NKn K H' n) vs ks := fun p => by
          induction p with
          | nil => exact .nil
          | cons r t ih => exact .cons (nkn_mono s n r) ih
        exact this h2
theorem KeyAt.mono {K : PySem.W.Frag} {H H' : Hp} {k : NestedKey} {b : Addr} (s : ∀ c u, Rd H c (.tup u) → Rd H' c (.tup u)) (h : KeyAt K H k b) : KeyAt K H' k b := by
  obtain ⟨vs, ks, h1, h2, h3⟩ := h
  refine ⟨vs, ks, ?_, ?_, h3⟩
  · rcases h1 with h1 | h1
    · exact .inl (s _ _ h1)
    · exact .inr h1
  · have : ∀ {vs : List V} {ks : List NestedKey}, Paired (NKn K H 6) vs ks → Paired (NKn K H' 6) vs ks := fun p => by
      induction p with
      | nil => exact .nil
      | cons r t ih => exact .cons (nkn_mono s 6 r) ih
    exact this h2
theorem nk_leafD {v : V} (e : leafV v = true) : (nkV v).depth = 0 := by
  cases v <;> first | rfl | cases e
section
variable {X : Cx} {pins : List (Addr × Obj)} {σ : L2.St} {H : Hp} {s : Shared}
theorem leaf_is {h : Heap} {v : V} {u : Value} (r : RelV v u) (e : leafV v = true) : NestedIs h (nkV v) u := by
  cases v with
  | non => cases r; exact .none
  | bl b => cases r; exact .bool rfl
  | int i => obtain ⟨k, rfl⟩ := r; exact .int i k
  | str x => obtain ⟨k, rfl⟩ := r; exact .text x k
  | byt _ => cases e
  | flt _ => cases e
  | ref _ => cases e
  | ty _ => cases e
theorem nkn_is (I : L2.Inv X pins σ H s) : ∀ (n : Nat) {v : V} {k : NestedKey} {u : Value}, NKn X.K H n v k → RelV v u → NestedIs s.heap k u ∧ k.depth ≤ n
  | 0, _, _, _, h, r => by
    obtain ⟨e, rfl⟩ := h
    exact ⟨leaf_is r e, Nat.le_of_eq (nk_leafD e)⟩
  | n + 1, v, k, u, h, r => by
    rcases h with ⟨e, rfl⟩ | ⟨b, vs, ks, rfl, h1, h2, rfl⟩
    · exact ⟨leaf_is r e, by rw [nk_leafD e]; exact Nat.zero_le _⟩
    · obtain rfl : u = Value.ref b := r
      obtain ⟨its, rv, ⟨o, g, c, m, d⟩, _⟩ := I.tuple h1
      have all : ∀ {vs : List V} {ks : List NestedKey}, Paired (NKn X.K H n) vs ks → ∀ {us : List Value}, Vals vs us → NestedAll s.heap ks us ∧ NestedKey.depthAll ks ≤ n := fun p => by
        induction p with
        | nil =>
          intro us rv
          cases rv
          exact ⟨.nil, Nat.zero_le _⟩
        | cons r t ih =>
          intro us rv
          cases rv with
          | cons r' t' =>
            obtain ⟨a1, a2⟩ := nkn_is I n r r'
            obtain ⟨b1, b2⟩ := ih t'
            refine ⟨.cons a1 b1, ?_⟩
            rw [NestedKey.depthAll]
            exact Nat.max_le.mpr ⟨a2, b2⟩
      obtain ⟨a1, a2⟩ := all h2 rv
      exact ⟨.tup g c d (by simpa using a1), by show NestedKey.depthAll ks + 1 ≤ n + 1; omega⟩
theorem KeyAt.is {k : NestedKey} {b : Addr} (I : L2.Inv X pins σ H s) (h : KeyAt X.K H k b) : (nestedKind X.prog X.w).is s.heap k b := by
  obtain ⟨vs, ks, h1, h2, rfl⟩ := h
  have := nkn_is I 7 (v := .ref b) (k := .tup ks) (u := .ref b) (.inr ⟨b, vs, ks, rfl, h1, h2, rfl⟩) rfl
  exact ⟨this.1, Nat.le_succ_of_le this.2⟩
abbrev RN : NestedKey × Addr × V → NestedKey × Addr × Value → Prop := fun p q => p.1 = q.1 ∧ p.2.1 = q.2.1 ∧ RelV p.2.2 q.2.2
theorem pair_mem : ∀ {xs : List (NestedKey × Addr × V)} {ys : List (NestedKey × Addr × Value)} {y : NestedKey × Addr × Value}, Paired RN xs ys → y ∈ ys → ∃ x ∈ xs, RN x y
  | _, _, _, .nil, h => by simp at h
  | _, _, _, .cons r t, h => by
    rcases List.mem_cons.mp h with rfl | h
    · exact ⟨_, List.mem_cons_self, r⟩
    · obtain ⟨x, hx, r'⟩ := pair_mem t h
      exact ⟨x, List.mem_cons_of_mem _ hx, r'⟩
theorem pair_app {v : V} {u : Value} {k : NestedKey} {b : Addr} (r : RelV v u) : ∀ {xs : List (NestedKey × Addr × V)} {ys : List (NestedKey × Addr × Value)}, Paired RN xs ys → Paired RN (xs ++ [(k, b, v)]) (ys ++ [(k, b, u)])
  | _, _, .nil => .cons ⟨rfl, rfl, r⟩ .nil
  | _, _, .cons r' t => .cons r' (pair_app r t)
theorem pair_set {v : V} {u : Value} {k : NestedKey} (r : RelV v u) : ∀ {xs : List (NestedKey × Addr × V)} {ys : List (NestedKey × Addr × Value)}, Paired RN xs ys → Paired RN (xs.map (fun x => if x.1 = k then (x.1, x.2.1, v) else x)) (ys.map (putAt k u))
  | _, _, .nil => .nil
  | p :: _, q :: _, .cons r' t => by
    rw [List.map_cons, List.map_cons]
    refine .cons ?_ (pair_set r t)
    obtain ⟨r1, r2, r3⟩ := r'
    unfold putAt
    by_cases h : p.1 = k
    · rw [if_pos h, if_pos (r1 ▸ h)]
      exact ⟨r1, r2, r⟩
    · rw [if_neg h, if_neg (r1 ▸ h)]
      exact ⟨r1, r2, r3⟩
/-- what the library's rules ask of such a dict -/
theorem DN.raw {a : Addr} {kvs : List (NestedKey × V)} (I : L2.Inv X pins σ H s) (h : DN X.prog X.w X.K H a kvs) : ∃ xs ys, H a = some (DNo X.prog X.w a xs) ∧ kvN xs = kvs ∧ (∀ x ∈ xs, KeyAt X.K H x.1 x.2.1) ∧ xs.length ≤ sizeLine ∧ (a == sysModules) = false ∧ Paired RN xs ys ∧ s.heap.DictOfH (nestedKind X.prog X.w) a ys := by
  obtain ⟨xs, h1, h2, h3⟩ := h
  obtain ⟨⟨z, nd, ys, pr, o, es, ep, g1, g2, g3, g4, g5⟩, _, _⟩ := (show ObjOk X.prog X.w H s.heap a (DNo X.prog X.w a xs) from I.hok a _ h1)
  refine ⟨xs, ys, h1, h2, h3, z, nd, pr, o, es, ep, g1, g2, g3, g4, fun y hy => ?_, g5⟩
  obtain ⟨x, hx, e1, e2, _⟩ := pair_mem pr hy
  rw [← e1, ← e2]
  exact (h3 x hx).is I
theorem at_val {xs : List (NestedKey × Addr × V)} {ys : List (NestedKey × Addr × Value)} (pr : Paired RN xs ys) (k : NestedKey) : RelO (valV (kvN xs) k) ((atKey ys k).map (·.2)) := by
  induction pr with
  | nil => exact trivial
  | @cons p q ps qs r t ih =>
    obtain ⟨r1, r2, r3⟩ := r
    by_cases e : p.1 = k
    · have e2 : q.1 = k := r1 ▸ e
      rw [show kvN (p :: ps) = (p.1, p.2.2) :: kvN ps from rfl, valV_pos e]
      have : atKey (q :: qs) k = some q.2 := by simp [atKey, e2]
      rw [this]
      exact r3
    · have e2 : ¬ q.1 = k := r1 ▸ e
      rw [show kvN (p :: ps) = (p.1, p.2.2) :: kvN ps from rfl, valV_neg e]
      have : atKey (q :: qs) k = atKey qs k := by simp [atKey, List.find?_cons, e2]
      rw [this]
      exact ih
/-- put: in its place, or at the end -/
def putN (xs : List (NestedKey × Addr × V)) (k : NestedKey) (b : Addr) (v : V) : List (NestedKey × Addr × V) :=
  if (xs.any fun x => decide (x.1 = k)) = true then xs.map (fun x => if x.1 = k then (x.1, x.2.1, v) else x) else xs ++ [(k, b, v)]
theorem kvN_put (xs : List (NestedKey × Addr × V)) (k : NestedKey) (b : Addr) (v : V) : kvN (putN xs k b v) = putK (kvN xs) k v := by
  unfold putN putK
  have e : ((kvN xs).any fun kv => decide (kv.1 = k)) = xs.any fun x => decide (x.1 = k) := by
    unfold kvN
    rw [List.any_map]
    rfl
  rw [e]
  split
  · unfold kvN
    rw [List.map_map, List.map_map]
    refine List.map_congr_left fun x _ => ?_
    by_cases h : x.1 = k <;> simp [h]
  · simp [kvN]
theorem any_pair {xs : List (NestedKey × Addr × V)} {ys : List (NestedKey × Addr × Value)} (pr : Paired RN xs ys) (k : NestedKey) : (xs.any fun x => decide (x.1 = k)) = (atKey ys k).isSome := by
  have h := (at_val pr k).isSome_eq
  rw [Option.isSome_map] at h
  rw [← h, ← valV_any]
  unfold kvN
  rw [List.any_map]
  rfl
theorem put_pair {xs : List (NestedKey × Addr × V)} {ys : List (NestedKey × Addr × Value)} (pr : Paired RN xs ys) (k : NestedKey) (b : Addr) {v : V} {u : Value} (r : RelV v u) : Paired RN (putN xs k b v) (storedH ys k b u) := by
  unfold putN storedH
  rw [any_pair pr k]
  split
  · exact pair_set r pr
  · exact pair_app r pr
theorem len_putN (xs : List (NestedKey × Addr × V)) (k : NestedKey) (b : Addr) (v : V) : (putN xs k b v).length ≤ xs.length + 1 := by
  unfold putN
  split
  · rw [List.length_map]
    omega
  · simp
theorem mem_putN {xs : List (NestedKey × Addr × V)} {k : NestedKey} {b : Addr} {v : V} {x : NestedKey × Addr × V} (h : x ∈ putN xs k b v) : (∃ y ∈ xs, x.1 = y.1 ∧ x.2.1 = y.2.1) ∨ (x.1 = k ∧ x.2.1 = b) := by
  unfold putN at h
  split at h
  · obtain ⟨y, hy, rfl⟩ := List.mem_map.mp h
    by_cases e : y.1 = k
    · rw [if_pos e]
      exact .inl ⟨y, hy, rfl, rfl⟩
    · rw [if_neg e]
      exact .inl ⟨y, hy, rfl, rfl⟩
  · rcases List.mem_append.mp h with h | h
    · exact .inl ⟨x, h, rfl, rfl⟩
    · simp only [List.mem_singleton] at h
      subst h
      exact .inr ⟨rfl, rfl⟩
/-- a dict of this sort is laid, written -/
theorem dno_ok {P : Program} {w : World} {H' : Hp} {h : Heap} {a : Addr} {xs : List (NestedKey × Addr × V)} {ys : List (NestedKey × Addr × Value)} (z : xs.length ≤ sizeLine) (nd : (a == sysModules) = false) (pr : Paired RN xs ys) (d : h.DictOfH (nestedKind P w) a ys) : ObjOk P w H' h a (DNo P w a xs) := by
  obtain ⟨o, es, ep, g1, g2, g3, g4, _, g5⟩ := d
  refine ⟨⟨z, nd, ys, pr, o, es, ep, g1, g2, g3, g4, g5⟩, ⟨o, g1⟩, ?_⟩
  rintro h1 h2 ⟨z', nd', ys', pr', o', es', ep', g1', g2', g3', g4', g5'⟩ k
  exact ⟨z', nd', ys', pr', o', es', ep', k _ g1', g2', g3', g4', g5'⟩
theorem dno_mut {P : Program} {w : World} {a : Addr} {xs : List (NestedKey × Addr × V)} (h : H a = some (DNo P w a xs)) : Mut (H a) := by
  rw [h]
  exact True.intro
theorem dno_tup {P : Program} {w : World} {a : Addr} {xs : List (NestedKey × Addr × V)} {us : List V} : HO.tup us ≠ DNo P w a xs := fun z => by
  unfold DNo at z
  cases z
theorem KeyAt.put {K : PySem.W.Frag} {P : Program} {w : World} {a b : Addr} {xs : List (NestedKey × Addr × V)} {k : NestedKey} {o : HO} (ha : H a = some (DNo P w a xs)) (h : KeyAt K H k b) : KeyAt K (upd H a o) k b := h.mono fun c u r => by
  rcases r with r | ⟨ob, r⟩
  · exact .inl (by rw [upd_ne (ne_of r ha dno_tup)]; exact r)
  · exact .inr ⟨ob, by rw [upd_ne (ne_of r ha (fun z => by unfold DNo at z; cases z))]; exact r⟩
theorem room8 {A : Around} (hu : A.units + 65 < cLine) : (nestedKind X.prog X.w).room A.in1 := by
  show A.units + 1 + 8 < cLine
  omega
/-- d[k] = v, by values -/
theorem dn_set {A : Around} {E : Value → Shared → Prop} {a b : Addr} {kvs : List (NestedKey × V)} {k : NestedKey} {v : V} {u : Value} {Q : Unit → Shared → Prop} (hu : A.units + 65 < cLine) (I : L2.Inv X pins σ H s) (hd : DN X.prog X.w X.K H a kvs) (hk : KeyAt X.K H k b) (hz : kvs.length < sizeLine) (rv : RelV v u)
    (h : ∀ o s', L2.Inv X pins σ (upd H a o) s' → DN X.prog X.w X.K (upd H a o) a (putK kvs k v) → Q () s') : wpAny (model X.prog X.w) A (setItem (.ref a) (.ref b) u) Q E s := by
  obtain ⟨xs, ys, h1, rfl, h3, z, nd, pr, dd⟩ := hd.raw I
  have hzy : ys.length ≤ sizeLine := by rw [← Paired.length pr]; exact z
  have hzx : xs.length < sizeLine := by
    have : (kvN xs).length = xs.length := by unfold kvN; rw [List.length_map]
    omega
  refine wpAny_setItem_heap (hsz := hzy) (room8 hu) (hk.is I) dd fun h' dd' hs => ?_
  have he : ∃ q, h'.get? a = some q := let ⟨q, _, _, hq, _⟩ := dd'; ⟨q, hq⟩
  have hl : (putN xs k b v).length ≤ sizeLine := by have := len_putN xs k b v; omega
  refine h (DNo X.prog X.w a (putN xs k b v)) _ (d_write I (dno_mut h1) hs he (dno_ok hl nd (put_pair pr k b rv) dd')) ⟨_, upd_same, kvN_put _ _ _ _, fun x hx => ?_⟩
  rcases mem_putN hx with ⟨y, hy, e1, e2⟩ | ⟨e1, e2⟩
  · rw [e1, e2]
    exact (h3 y hy).put h1
  · rw [e1, e2]
    exact hk.put h1
theorem dn_setRaw {E : Value → Shared → Prop} {a b : Addr} {kvs : List (NestedKey × V)} {k : NestedKey} {v : V} {u : Value} {Q : Unit → Shared → Prop} (hu : X.A.units + 65 < cLine) (I : L2.Inv X pins σ H s) (hd : DN X.prog X.w X.K H a kvs) (hk : KeyAt X.K H k b) (hz : kvs.length < sizeLine) (rv : RelV v u)
    (h : ∀ o s', L2.Inv X pins σ (upd H a o) s' → DN X.prog X.w X.K (upd H a o) a (putK kvs k v) → Q () s') : wpAny (model X.prog X.w) X.A (dictSet a (.ref b) u) Q E s := by
  obtain ⟨xs, ys, h1, rfl, h3, z, nd, pr, dd⟩ := hd.raw I
  have hzy : ys.length ≤ sizeLine := by rw [← Paired.length pr]; exact z
  have hzx : xs.length < sizeLine := by
    have : (kvN xs).length = xs.length := by unfold kvN; rw [List.length_map]
    omega
  refine wpAny_dictSet_heap (hsz := hzy) (show (nestedKind X.prog X.w).room X.A by show X.A.units + 8 < cLine; omega) (hk.is I) dd fun h' dd' hs => ?_
  have he : ∃ q, h'.get? a = some q := let ⟨q, _, _, hq, _⟩ := dd'; ⟨q, hq⟩
  have hl : (putN xs k b v).length ≤ sizeLine := by have := len_putN xs k b v; omega
  refine h (DNo X.prog X.w a (putN xs k b v)) _ (d_write I (dno_mut h1) hs he (dno_ok hl nd (put_pair pr k b rv) dd')) ⟨_, upd_same, kvN_put _ _ _ _, fun x hx => ?_⟩
  rcases mem_putN hx with ⟨y, hy, e1, e2⟩ | ⟨e1, e2⟩
  · rw [e1, e2]
    exact (h3 y hy).put h1
  · rw [e1, e2]
    exact hk.put h1
end
section
variable {X : Cx} {o i value : Expr} {pos pos' : Pos} {td ty tv : TE}
def tDNewN (P : Program) (w : World) (K : PySem.W.Frag) : TE := fun _ H Q => ∀ p o, H p = none → DN P w K (upd H p o) p [] → Q (.ref p) (upd H p o)
theorem pe_dnewN : PE X (.Dict [] [] pos) (tDNewN X.prog X.w X.K) := ⟨fun pins s σ H Q I h =>
  wpAny_Dict_empty ⟨.ref s.heap.objs.size, upd H s.heap.objs.size (DNo X.prog X.w s.heap.objs.size []), I.laid (t' := s.toks) (fun _ _ q => Heap.get?_push_of_some _ q) (Nat.le_refl _)
      (dno_ok (Nat.zero_le _) (beq_eq_false_iff_ne.mpr (Ne.symm (Nat.ne_of_lt I.big))) .nil (Heap.DictOfH.new s.heap)), rfl,
    h _ _ (I.hok.fresh (Nat.le_refl _)) ⟨[], upd_same, rfl, fun _ z => nomatch z⟩⟩⟩
def tDGetN (P : Program) (w : World) (K : PySem.W.Frag) (td ty : TE) : TE := fun σ H Q => td σ H fun x H1 => ty σ H1 fun y H2 => ∃ a b kvs k v, x = .ref a ∧ y = .ref b ∧ DN P w K H2 a kvs ∧ KeyAt K H2 k b ∧ valV kvs k = some v ∧ Q v H2
theorem pe_dgetN (hu : X.A.units + 65 < cLine) (ho : PE X o td) (hi : PE X i ty) (hs : NoSl i) : PE X (.Subscript o i pos) (tDGetN X.prog X.w X.K td ty) := by
  refine ⟨fun pins s σ H Q I h => ?_⟩
  refine subD_of PySem.F.slot_dict_getitem.lookup hs (thn (ho.run pins s σ H _ I h) fun u s1 ⟨x, H1, I1, rx, q1⟩ => thn (hi.run pins s1 σ H1 _ I1 q1) fun iv s2 ⟨y, H2, I2, ry, a, b, kvs, k, v, ex, ey, hd, hk, hv, q2⟩ => ?_)
  subst ex ey
  obtain rfl : u = Value.ref a := rx
  obtain rfl : iv = Value.ref b := ry
  obtain ⟨xs, ys, h1, rfl, h3, z, nd, pr, dd⟩ := hd.raw I2
  refine ⟨dd.typeIs, ?_⟩
  obtain ⟨w', hw, rw'⟩ := RelO.some_of (v := v) (o := (atKey ys k).map (·.2)) (by rw [← hv]; exact at_val pr k)
  obtain ⟨p, hp, rfl⟩ := Option.map_eq_some_iff.mp hw
  exact wpAny_getItem_heap (room8 hu) (hk.is I2) dd hp ⟨v, H2, I2.tok _, rw', q2⟩
def rDInN (P : Program) (w : World) (K : PySem.W.Frag) : R2 := fun y x H Q => ∃ a b kvs k, x = .ref a ∧ y = .ref b ∧ DN P w K H a kvs ∧ KeyAt K H k b ∧ Q (.bl (valV kvs k).isSome) H
theorem op_dinN (hu : X.A.units + 65 < cLine) : OpR X (compareOp .In) (rDInN X.prog X.w X.K) := by
  intro pins s σ H y x iv u Q I ry rx h
  obtain ⟨a, b, kvs, k, rfl, rfl, hd, hk, q⟩ := h
  obtain rfl : u = Value.ref a := rx
  obtain rfl : iv = Value.ref b := ry
  obtain ⟨xs, ys, h1, rfl, h3, z, nd, pr, dd⟩ := hd.raw I
  refine wpAny_in_heap (room8 hu) (hk.is I) nd dd ⟨.bl _, H, I.tok _, ?_, q⟩
  have := (at_val pr k).isSome_eq
  rw [Option.isSome_map] at this
  rw [this]
  rfl
def rDNotInN (P : Program) (w : World) (K : PySem.W.Frag) : R2 := fun y x H Q => ∃ a b kvs k, x = .ref a ∧ y = .ref b ∧ DN P w K H a kvs ∧ KeyAt K H k b ∧ Q (.bl (!(valV kvs k).isSome)) H
theorem op_dnotinN (hu : X.A.units + 65 < cLine) : OpR X (compareOp .NotIn) (rDNotInN X.prog X.w X.K) := by
  intro pins s σ H y x iv u Q I ry rx h
  obtain ⟨a, b, kvs, k, rfl, rfl, hd, hk, q⟩ := h
  obtain rfl : u = Value.ref a := rx
  obtain rfl : iv = Value.ref b := ry
  obtain ⟨xs, ys, h1, rfl, h3, z, nd, pr, dd⟩ := hd.raw I
  refine wpAny_notIn_heap (room8 hu) (hk.is I) nd dd ⟨.bl _, H, I.tok _, ?_, q⟩
  have := (at_val pr k).isSome_eq
  rw [Option.isSome_map] at this
  rw [this]
  rfl
def sDPutN (P : Program) (w : World) (K : PySem.W.Frag) (td ty tv : TE) : TS := fun D σ H => tv σ H fun v H1 => td σ H1 fun x H2 => ty σ H2 fun y H3 => ∃ a b kvs k, x = .ref a ∧ y = .ref b ∧ DN P w K H3 a kvs ∧ KeyAt K H3 k b ∧ kvs.length < sizeLine ∧ ∀ o, DN P w K (upd H3 a o) a (putK kvs k v) → D.nx σ (upd H3 a o)
theorem ps_dputN (hu : X.A.units + 65 < cLine) (ho : PE X o td) (hi : PE X i ty) (hv : PE X value tv) (hs : swapsWith value (some (.Subscript o i pos')) pos.line X.env = pure false) : PS X (.Assign [.Subscript o i pos'] value pos) (sDPutN X.prog X.w X.K td ty tv) := by
  refine ⟨fun pins s σ H D I h => ?_⟩
  refine wpAny_Assign_Subscript (thn (hv.run pins s σ H _ I h) fun r s1 ⟨v, H1, I1, rv, q1⟩ => thn (ho.run pins s1 σ H1 _ I1 q1) fun u s2 ⟨x, H2, I2, rx, q2⟩ => thn (hi.run pins s2 σ H2 _ I2 q2) fun iv s3 ⟨y, H3, I3, ry, a, b, kvs, k, ex, ey, hd, hk, hz, q3⟩ => ?_) hs
  subst ex ey
  obtain rfl : u = Value.ref a := rx
  obtain rfl : iv = Value.ref b := ry
  exact dn_set hu I3 hd hk hz rv fun o' s4 I4 d4 => ⟨σ, _, I4, q3 o' d4⟩
/-- len(d) -/
theorem call_lenN : CallR X (.builtin "len") (fun xs H Q => ∃ a kvs, xs = [.ref a] ∧ DN X.prog X.w X.K H a kvs ∧ Q (.int kvs.length) H) := by
  intro pins s σ H xs us Q I r h
  obtain ⟨a, kvs, rfl, hd, q⟩ := h
  obtain ⟨u, rfl, r1⟩ := vals1 r
  obtain rfl : u = Value.ref a := r1
  obtain ⟨xs, ys, h1, rfl, h3, z, nd, pr, dd⟩ := hd.raw I
  have e : (kvN xs).length = ys.length := by
    unfold kvN
    rw [List.length_map]
    exact Paired.length pr
  rw [e] at q
  exact call_len_dictH nd dd (by rw [← Paired.length pr]; rw [sizeLine_eq] at z; omega) ⟨.int _, H, I.tok _, ⟨_, rfl⟩, q⟩
/-- isinstance(d, c) -/
theorem call_isiN : CallR X (.builtin "isinstance") (fun xs H Q => ∃ (a : Addr) (kvs : List (NestedKey × V)) (c : V) (u : Value) (b : Bool), xs = [.ref a, c] ∧ DN X.prog X.w X.K H a kvs ∧ ClsV c u ∧ PySem.W.kitOne X.K (.type "dict") u = some b ∧ Q (.bl b) H) := by
  intro pins s σ H xs us Q I r h
  obtain ⟨a, kvs, c, u, b, rfl, hd, k, e, q⟩ := h
  obtain ⟨u1, u2, rfl, r1, r2⟩ := vals2 r
  have e2 := k.eq r2
  subst e2
  obtain rfl : u1 = Value.ref a := r1
  obtain ⟨xs, ys, h1, rfl, h3, z, nd, pr, o, es, ep, g1, g2, _⟩ := hd.raw I
  exact PySem.W.kia_one PySem.W.kitx_dict I.kIn ⟨o, g1, g2.1⟩ e (fun z => nomatch z) fun tk => ⟨.bl b, H, I.tok tk, rfl, q⟩
end
end Sh
set_option Elab.async false
set_option linter.all false
set_option maxRecDepth 100000
set_option maxHeartbeats 4000000
namespace Sh
open PySem PySem.Spec PyProof.Rows L2
/-! ### t[::-1] of a tuple -/
theorem adjust_rev (n : Nat) : Builtin.Slice.sliceAdjust none none (-1) (n : Int) = ((n : Int) - 1, -1) := by
  unfold Builtin.Slice.sliceAdjust
  simp
theorem places_rev (n : Nat) : Builtin.Slice.slicePlaces ((n : Int) - 1) (-1) (-1) = n := by
  unfold Builtin.Slice.slicePlaces
  rw [if_neg (by decide)]
  split
  · rw [show -(-1 : Int) = 1 by decide, Int.ediv_one]
    omega
  · show (0 : Int).toNat = n
    have : (n : Int) ≤ 0 := by omega
    show 0 = n
    omega
theorem fm_congr {α β : Type} {f g : α → Option β} : ∀ {l : List α}, (∀ x ∈ l, f x = g x) → l.filterMap f = l.filterMap g
  | [], _ => rfl
  | x :: l, h => by rw [List.filterMap_cons, List.filterMap_cons, h x List.mem_cons_self, fm_congr fun y hy => h y (List.mem_cons_of_mem _ hy)]
theorem pick_rev (xs : Array Value) : ((List.range xs.size).filterMap fun (k : Nat) => xs[(((xs.size : Int) - 1) + (k : Int) * (-1)).toNat]?).toArray = xs.toList.reverse.toArray := by
  congr 1
  have e : ∀ k ∈ List.range xs.size, xs[(((xs.size : Int) - 1) + (k : Int) * (-1)).toNat]? = xs[xs.size - 1 - k]? := fun k hk => by
    have := List.mem_range.mp hk
    congr 1
    omega
  rw [fm_congr e]
  have h2 : (List.range xs.size).filterMap (fun k => xs[xs.size - 1 - k]?) = ((List.range xs.size).map fun k => xs.size - 1 - k).filterMap (xs[·]?) := by
    rw [List.filterMap_map]
    rfl
  rw [h2, PySem.W.krv_range, List.filterMap_reverse, PySem.W.krv_all]
section
variable {prog : Program} {w : World} {A : Around} {E : Value → Shared → Prop} {s : Shared}
theorem sliceApplied_rev {sl : Addr} {vl vu vs : Value} {n : Nat} {Q : Int × Int × Nat → Shared → Prop} (hs : s.heap.IsSliceOf sl vl vu vs) (pl : IsPart vl none) (pu : IsPart vu none) (ps : IsPart vs (some (-1)))
    (h : Q ((n : Int) - 1, -1, n) s) : wpAny (model prog w) A (Builtin.Slice.sliceApplied (.ref sl) (pure (n : Int))) Q E s := by
  obtain ⟨os, hos, hcs, hds⟩ := id hs
  unfold Builtin.Slice.sliceApplied Builtin.Slice.sliceFields
  refine wpAny_bind (wpAny_bind (wpAny_field hos hds (x := vl) rfl (wpAny_bind (wpAny_field hos hds (x := vu) rfl (wpAny_bind (wpAny_field hos hds (x := vs) rfl (wpAny_pure ?_)))))))
  refine wpAny_bind (HT.slicePart_ ps ?_)
  show wpAny _ _ (if ((-1 : Int) == 0) = true then _ else _) _ _ s
  rw [if_neg (by decide)]
  refine wpAny_bind (HT.slicePart_ pl (wpAny_bind (HT.slicePart_ pu (wpAny_bind (wpAny_pure ?_)))))
  show wpAny _ _ (match Builtin.Slice.sliceAdjust none none (-1) (n : Int) with | (lo, hi) => pure (lo, (-1 : Int), Builtin.Slice.slicePlaces lo hi (-1))) _ _ s
  rw [adjust_rev n]
  show wpAny _ _ (pure ((n : Int) - 1, (-1 : Int), Builtin.Slice.slicePlaces ((n : Int) - 1) (-1) (-1))) _ _ s
  rw [places_rev]
  exact wpAny_pure h
theorem getItem_tuple_rev {t sl : Addr} {items : Array Value} {vl vu vs : Value} {Q : Value → Shared → Prop} (ht : IsTup s.heap t items) (hs : s.heap.IsSliceOf sl vl vu vs) (pl : IsPart vl none) (pu : IsPart vu none) (ps : IsPart vs (some (-1)))
    (h : Q (.ref s.heap.objs.size) { s with heap := s.heap.push { cls := .type "tuple", data := .seq items.toList.reverse.toArray } })
    (hsz : items.size ≤ sizeLine) : wpAny (model prog w) A (getItem (.ref t) (.ref sl)) Q E s := by
  have htake : sizeOk (.seq items.toList.reverse.toArray) := by
    show items.toList.reverse.toArray.size ≤ sizeLine
    rw [List.size_toArray, List.length_reverse, Array.length_toList]
    omega
  obtain ⟨os, hos, hcs, hds⟩ := id hs
  have hTs : s.TypeIs (.ref sl) "slice" := ⟨os, hos, hcs⟩
  unfold getItem
  try with_reducible refine wpAny_holding ?_
  first | refine wpAny_bind (wpAny_pure ?_) | skip
  refine wpAny_bind (wpAny_sequenceKey ht.typeIs (by decide) ?_)
  refine wpAny_bind (wpAny_callSpecial?_slot (name := Str.ofString "__getitem__") ht.typeIs PyProof.Rows.slot_tuple_getitem
    (wpAny_call_entry PyProof.Rows.slot_tuple_getitem ht.typeIs entry_tuple_getitem ?_ (args_tuple_getitem _ _)))
  show wpAny _ _ (Builtin.Tuple.tupleItemsOf (.ref t) >>= _) _ _ s
  refine wpAny_bind (tupleItemsOf_ ht ?_)
  refine wpAny_bind (wpAny_typeOf hTs ?_)
  rw [if_pos (by decide)]
  refine wpAny_bind (sliceApplied_rev hs pl pu ps ?_)
  have hno : ¬ (((items.size : Int) - 1 == 0 && (-1 : Int) == 1 && items.size == items.size) = true) := by
    intro q
    rw [Bool.and_eq_true, Bool.and_eq_true] at q
    exact absurd q.1.2 (by decide)
  show wpAny _ _ (if ((items.size : Int) - 1 == 0 && (-1 : Int) == 1 && items.size == items.size) = true then _ else _) _ _ s
  rw [if_neg hno, pick_rev]
  first
    | exact wpAny_bind (m := Builtin.Tuple.tupleExact _) (wpAny_newObj_type (wpAny_pure ⟨_, rfl, wpAny_pure h⟩) htake)
    | exact wpAny_bind (m := Builtin.Tuple.tupleExact _) (wpAny_newObj_type (wpAny_bind (wpAny_pure (wpAny_pure ⟨_, rfl, wpAny_pure h⟩))) htake)
    | exact wpAny_bind (wpAny_bind (m := Builtin.Tuple.tupleExact _) (wpAny_newObj_type (wpAny_pure (wpAny_pure ⟨_, rfl, wpAny_pure h⟩)) htake))
    | exact wpAny_bind (wpAny_bind (m := Builtin.Tuple.tupleExact _) (wpAny_newObj_type (wpAny_pure ⟨_, rfl, wpAny_pure h⟩) htake))
end
section
variable {X : Cx}
def tRevT (K : PySem.W.Frag) (te : TE) : TE := fun σ H Q => te σ H fun x H1 => ∃ a xs, x = .ref a ∧ SqT K H1 a xs ∧ ∀ p, H1 p = none → Q (.ref p) (upd H1 p (.tup xs.reverse))
theorem pe_revT {e : Expr} {te : TE} {k : Nat} {p1 p2 p3 pos : Pos} (he : PE X e te) : PE X (.Subscript e (.Slice none none (some (.UnaryOp .USub (.Constant (.int 1) k p1) p2)) p3) pos) (tRevT X.K te) := by
  refine ⟨fun pins s σ H Q I h => ?_⟩
  refine Subscript_ (thn (he.run pins s σ H _ I h) fun v s1 ⟨x, H1, I1, r1, q1⟩ => ?_)
  obtain ⟨a, xs, ex, hx, q⟩ := q1
  subst ex
  cases r1
  have hst : PO X (some (.UnaryOp .USub (.Constant (.int 1) k p1) p2)) (tPart (tUn (rU fun i => .int (-i)) (tC (.int 1)))) := po_some (pe_un un_neg pe_int)
  refine wpAny_Slice (thn (po_none.run pins s1 σ H1 (fun o H2 => o = none ∧ H2 = H1) I1 ⟨rfl, rfl⟩) fun vl s2 ⟨l, H2, I2, pl, el, e2⟩ => ?_)
  subst el e2
  refine thn (po_none.run pins s2 σ H2 (fun o H3 => o = none ∧ H3 = H2) I2 ⟨rfl, rfl⟩) fun vu s3 ⟨u, H3, I3, pu, eu, e3⟩ => ?_
  subst eu e3
  refine thn (hst.run pins s3 σ H3 (fun o H4 => o = some (-1) ∧ H4 = H3) I3 ⟨1, rfl, -1, rfl, rfl, rfl⟩) fun vs s4 ⟨o, H4, I4, ps, eo, e4⟩ => ?_
  subst eo e4
  have I5 : L2.Inv X pins σ H4 { s4 with heap := s4.heap.push { cls := .type "slice", data := .fields #[vl, vu, vs] } } := I4.kept (t' := s4.toks) fun b ob q => Heap.get?_push_of_some _ q
  obtain ⟨its, r, ht, hz⟩ := I5.tuple hx
  have hlen := r.length
  show wpAny (model X.prog X.w) X.A (subscriptTail e (.Slice none none (some (.UnaryOp .USub (.Constant (.int 1) k p1) p2)) p3) (.ref a) (.ref s4.heap.objs.size)) (EP X pins σ Q) X.xe { s4 with heap := s4.heap.push { cls := .type "slice", data := .fields #[vl, vu, vs] } }
  refine tail_any (ops := [.ref a, .ref s4.heap.objs.size]) ht.typeIs (PyProof.Rows.slot_tuple_getitem.lookup) ?_ (by with_unfolding_all rfl)
  refine getItem_tuple_rev ht (Heap.IsSliceOf.new _ vl vu vs) pl pu ps ?_ (by rw [List.size_toArray]; omega)
  refine ⟨.ref _, _, I5.laid (t' := s4.toks) (o := .tup xs.reverse) (fun b ob q => Heap.get?_push_of_some _ q) (Nat.le_refl _) ?_, rfl, q _ (I5.hok.fresh (Nat.le_refl _))⟩
  exact ⟨by rw [List.length_reverse]; exact hz, _, r.reverse, ⟨_, Heap.get?_push_size _ rfl, rfl, _, rfl⟩⟩
end
end Sh
set_option Elab.async false
set_option linter.all false
set_option maxRecDepth 100000
set_option maxHeartbeats 4000000
namespace Sh
open PySem PySem.Spec PyProof.Rows L2
/-! ### {k: v for ..} with keys that are tuples -/
section
variable {X : Cx}
/-- one turn of the walk J, the dict at D; T: what becomes of the heap -/
def dcTurn (P : Program) (w : World) (K : PySem.W.Frag) (g : TG) (tt : TT) (tk tv : TE) (vs : List Nat) (σ : L2.St) (D : Addr) (T : Hp → Prop) (x : V) (H' : Hp) : Prop :=
  g x (wipe σ vs) H' fun σ2 H2 => wipe σ2 vs = wipe σ vs ∧ tt σ2 H2 fun b H3 =>
    if b = true then tk σ2 H3 fun y H4 => tv σ2 H4 fun z H5 => ∃ kvs k c, y = .ref c ∧ DN P w K H5 D kvs ∧ KeyAt K H5 k c ∧ kvs.length < sizeLine ∧ ∀ o, DN P w K (upd H5 D o) D (putK kvs k z) → T (upd H5 D o)
    else T H3
def tDcN (P : Program) (w : World) (K : PySem.W.Frag) (wi : TI) (g : TG) (tt : TT) (tk tv : TE) (vs : List Nat) : TE := fun σ H Q => wi σ H fun J H1 => ∀ D o, H1 D = none → DN P w K (upd H1 D o) D [] →
  ∃ W : Nat → Nat → Hp → Prop, (∃ m, W 0 m (upd H1 D o)) ∧ ∀ i m H, W i m H → (J.stop i H ∧ Q (.ref D) H) ∨ (J.go i H ∧ ∃ T : Hp → Prop, (∀ H', T H' → ∃ m', m' < m ∧ W (i + 1) m' H') ∧ ∀ x H', J.yld i H x H' → dcTurn P w K g tt tk tv vs σ D T x H')
theorem dcN_core {pins : List (Addr × Obj)} {s : Shared} {σ : L2.St} {H : Hp} {Q : VK} {kx vx tg iter : Expr} {ifs : List Expr} {scope : Scope} {own : List (Str × Nat)} {pos pos' : Pos} {wi : TI} {g : TG} {tt : TT} {tk tv : TE} {use : Option (Value → Sem Unit)} {Qf : Value → Shared → Prop}
    (hu : X.A.units + 65 < cLine) (calm : X.calm = true) (nodup : X.N.Nodup) (I : L2.Inv X pins σ H s) (walk : PI X tg iter wi) (blk : BlkOk X.N X.env.scope scope own)
    (ptg : ∀ s H C cl fp, PG (X.blk s H scope (compEnvC scope cl C X.env) fp) tg g) (pif : ∀ s H C cl fp, PTs (X.blk s H scope (compEnvC scope cl C X.env) fp) ifs tt)
    (pkx : ∀ s H C cl fp, PE (X.blk s H scope (compEnvC scope cl C X.env) fp) kx tk) (pvx : ∀ s H C cl fp, PE (X.blk s H scope (compEnvC scope cl C X.env) fp) vx tv)
    (folded : ∀ x, foldedSetIterable iter X.env x = pure x) (read : tDcN X.prog X.w X.K wi g tt tk tv (own.map (·.2)) σ H Q)
    (done : ∀ D C s' m H', L2.Inv X pins σ H' s' → Q (.ref D) H' → s'.heap.Ns C m → FpOk X pins H' C → compPost (model X.prog X.w) X.A X.xe use Qf (.ref D) C (.ok .next) s') :
    wpAny (model X.prog X.w) X.A (comprehension (.DictComp kx vx [⟨tg, iter, ifs, 0⟩] scope pos) scope X.env pos' newDict false (eval iter X.env) use) Qf X.xe s := by
  have frees : ∀ y ∈ scope.names, y.2 = .free → ∃ c, X.env.cells.lookup y.1 = some c := fun y hy e =>
    (blk.free y hy e).elim (fun k => I.ok.has _ (.inl k)) fun k => I.ok.has _ (.inr k)
  refine wpAny_comprehension_free (use := use) rfl folded (closure_ok frees) blk.kind (fun y hy e => by rw [blk.uniq y hy, e]) (thn (walk.run pins s σ H _ I read) fun xv s1 hx => thn hx fun itv s2 h2 => ?_)
  obtain ⟨it, fp, tn, J, H2, rfl, I2, T, st2, f2, q⟩ := h2
  refine wpAny_newObj_type (newEnv_comp ?_)
  -- the new dict at D
  obtain ⟨D, hD⟩ : ∃ D, s2.heap.objs.size = D := ⟨_, rfl⟩
  have freeD : H2 D = none := I2.hok.fresh (Nat.le_of_eq hD)
  have laidD : L2.Inv X pins σ (upd H2 D (DNo X.prog X.w D [])) { s2 with heap := s2.heap.push { cls := .type "dict", data := .dict #[] } } := by
    refine I2.laid (t' := s2.toks) (fun b o e => Heap.get?_push_of_some _ e) (Nat.le_of_eq hD) ?_
    rw [← hD]
    exact dno_ok (Nat.zero_le _) (beq_eq_false_iff_ne.mpr (Ne.symm (Nat.ne_of_lt I2.big))) .nil (Heap.DictOfH.new s2.heap)
  obtain ⟨W, ⟨m0, w0⟩, turn⟩ := q D (DNo X.prog X.w D []) freeD ⟨[], upd_same, rfl, fun _ z => nomatch z⟩
  rw [hD]
  obtain ⟨H3, eH3⟩ : ∃ H3, upd H2 D (DNo X.prog X.w D []) = H3 := ⟨_, rfl⟩
  obtain ⟨s3, es3⟩ : ∃ s3 : Shared, { s2 with heap := s2.heap.push { cls := .type "dict", data := .dict #[] } } = s3 := ⟨_, rfl⟩
  have heap3 : s3.heap = s2.heap.push { cls := .type "dict", data := .dict #[] } := by rw [← es3]
  have small : ∀ b ∈ fp, b < s2.heap.objs.size := fun b hb => by
    obtain ⟨o, e, _⟩ := T.obj _ _ st2 b hb
    exact Heap.lt_size e
  have f3 : ∀ b ∈ fp, FpOk X pins H3 b ∧ b < s3.heap.objs.size := fun b hb => by
    have lt := small b hb
    refine ⟨⟨?_, (f2 b hb).2⟩, by rw [heap3, Heap.size_push]; exact Nat.lt_succ_of_lt lt⟩
    rw [← eH3, upd_ne (by rw [← hD]; exact Nat.ne_of_lt lt)]
    exact (f2 b hb).1
  have st3 : tn 0 s3.heap := T.keep _ _ _ st2 fun b _ o e => by rw [heap3]; exact Heap.get?_push_of_some _ e
  rw [eH3] at w0 laidD
  rw [es3] at laidD
  have I4 := block_start laidD blk nodup f3
  -- the block's own environment
  obtain ⟨ce, hce⟩ : ∃ ce, compEnvC scope (cellsFrom (s3.heap.objs.size + 1) scope.names (cloFrom X.env.cells scope.names [])) s3.heap.objs.size X.env = ce := ⟨_, rfl⟩
  have pg := ptg s3 H3 s3.heap.objs.size (cellsFrom (s3.heap.objs.size + 1) scope.names (cloFrom X.env.cells scope.names [])) fp
  have pt := pif s3 H3 s3.heap.objs.size (cellsFrom (s3.heap.objs.size + 1) scope.names (cloFrom X.env.cells scope.names [])) fp
  have pk := pkx s3 H3 s3.heap.objs.size (cellsFrom (s3.heap.objs.size + 1) scope.names (cloFrom X.env.cells scope.names [])) fp
  have pv := pvx s3 H3 s3.heap.objs.size (cellsFrom (s3.heap.objs.size + 1) scope.names (cloFrom X.env.cells scope.names [])) fp
  rw [hce] at I4 pg pt pk pv
  have ceL : ce.locals = s3.heap.objs.size := by rw [← hce]; rfl
  obtain ⟨s4, es4⟩ : ∃ s4 : Shared, { s3 with heap := pushCells (s3.heap.push { cls := .type "dict", data := .dict #[] }) scope.names } = s4 := ⟨_, rfl⟩
  rw [es4] at I4
  have st4 : tn 0 s4.heap := T.keep _ _ _ st3 fun b _ o e => by rw [← es4]; exact pushCells_keeps _ _ _ _ (Heap.get?_push_of_some _ e)
  have nfp : ∀ b ∈ fp, H3 b = none := fun b hb => (f3 b hb).1.1
  have stat : ∀ {σ' : L2.St} {H' : Hp} {s' : Shared}, L2.Inv (X.blk s3 H3 scope ce fp) [] σ' H' s' → (∀ b ∈ fp, H' b = none) → ∀ b ∈ fp, FpOk (X.blk s3 H3 scope ce fp) [] H' b := fun {σ' H' s'} J' hn b hb =>
    ⟨hn b hb, (J'.ok.exf b hb).1, J'.ok.exfs b hb, .inl hb, fun x c e => (J'.ok.exf b hb).2 x c e, fun p hp => by simp at hp⟩
  have loop : codeAny (model X.prog X.w) X.A (.compLoop (.DictComp kx vx [⟨tg, iter, ifs, 0⟩] scope pos) 0 (.ref it) (.ref D) ce) (compPost (model X.prog X.w) X.A X.xe use Qf (.ref D) s3.heap.objs.size) s4 := by
    refine compLoop_anyD (fun n s' => ∃ i H', L2.Inv (X.blk s3 H3 scope ce fp) [] (wipe σ (own.map (·.2))) H' s' ∧ tn i s'.heap ∧ (∀ b ∈ fp, H' b = none) ∧ W i n H') ?_ m0 ⟨0, H3, I4, st4, nfp, w0⟩
    rintro n s5 ⟨i, H5, I5, st5, n5, w5⟩
    rcases turn i n H5 w5 with ⟨stop, qq⟩ | ⟨go, Nx, hNx, step⟩
    · refine thnF (T.done (X.blk s3 H3 scope ce fp) rfl rfl rfl calm i [] s5 _ H5 (fun _ _ => False) I5 (stat I5 n5) st5 stop) fun r s6 ⟨hr, I6⟩ => ?_
      subst hr
      have I7 : L2.Inv X pins σ H5 s6 := laidD.call' (ch := fp) I6.os I6.base I6.hok I6.bare fun b hb => ⟨(f3 b hb).1.2.2.2.1, (f3 b hb).1.2.1, (f3 b hb).1.2.2.2.2.1, (f3 b hb).1.2.2.2.2.2⟩
      have nC : H5 s3.heap.objs.size = none := ceL ▸ (show H5 ce.locals = none from I6.free)
      obtain ⟨m, hn, _⟩ := I6.loc
      exact done D s3.heap.objs.size s6 m H5 I7 qq (ceL ▸ (show s6.heap.Ns ce.locals m from hn)) (laidD.fpOk (Nat.le_refl _) nC)
    · refine thnF (T.item (X.blk s3 H3 scope ce fp) rfl rfl rfl calm i [] s5 _ H5 (fun _ _ => False) I5 (stat I5 n5) st5 go) fun r s6 ⟨u, hr, h6⟩ => ?_
      subst hr
      refine thnF h6 fun _ s7 ⟨x, H7, I7, r7, y7, st7, n7⟩ => ?_
      refine thnF (pg.run _ s7 _ H7 x u _ (I7.pinned (stat I7 n7) (T.obj _ _ st7)) r7 (step x H7 y7)) fun _ s8 ⟨σ8, H8, I8, hw8, q8⟩ => ?_
      refine thnF (pt.run _ s8 σ8 H8 _ I8 q8) fun b s9 ⟨H9, I9, q9⟩ => ?_
      have again : ∀ {s' : Shared} {H' : Hp}, L2.Inv (X.blk s3 H3 scope ce fp) ([] ++ pinsAt fp s7.heap) σ8 H' s' → Nx H' → ∃ m, m < n ∧ ∃ i H', L2.Inv (X.blk s3 H3 scope ce fp) [] (wipe σ (own.map (·.2))) H' s' ∧ tn i s'.heap ∧ (∀ b ∈ fp, H' b = none) ∧ W i m H' := fun {s' H'} J' nx => by
        obtain ⟨m', hm, w'⟩ := hNx H' nx
        have pin' : ∀ b ∈ fp, ∀ o, s7.heap.get? b = some o → s'.heap.get? b = some o ∧ H' b = none := fun b hb o e =>
          let z := J'.pin (b, o) (List.mem_append_right _ (List.mem_append_right _ (mem_pinsAt hb e)))
          ⟨z.1, z.2.1⟩
        refine ⟨m', hm, i + 1, H', (J'.unpinned (pins := [])).weak (by rw [← hw8, wipe_length]) (fun j v e => ?_), T.keep _ _ _ st7 fun b hb o e => (pin' b hb o e).1, fun b hb => ?_, w'⟩
        · rw [← hw8] at e
          exact (wipe_some e).1
        · obtain ⟨o, e, _⟩ := T.obj _ _ st7 b hb
          exact (pin' b hb o e).2
      cases b with
      | false =>
        simp only [Bool.false_eq_true, if_false] at q9 ⊢
        exact again I9 q9
      | true =>
        simp only [if_true] at q9 ⊢
        refine thnF (pk.run _ s9 σ8 H9 _ I9 q9) fun z s10 ⟨yk, H10, I10, r10, q10⟩ => ?_
        refine thnF (pv.run _ s10 σ8 H10 _ I10 q10) fun z2 s11 ⟨yv, H11, I11, r11, kvs, k, c, ek, hD11, hk11, hz11, nx⟩ => ?_
        subst ek
        obtain rfl : z = Value.ref c := r10
        exact dn_setRaw (X := X.blk s3 H3 scope ce fp) hu I11 hD11 hk11 hz11 r11 fun o s12 I12 d12 => again I12 (nx o d12)
  have fin := codeAny_compStart_dict loop (T.self X.A 0 _ _ _ st4 loop)
  rw [es3]
  subst es4 hce
  exact fin
theorem pe_dcN {kx vx tg iter : Expr} {ifs : List Expr} {scope : Scope} {own : List (Str × Nat)} {pos : Pos} {wi : TI} {g : TG} {tt : TT} {tk tv : TE} (hu : X.A.units + 65 < cLine) (calm : X.calm = true) (nodup : X.N.Nodup) (walk : PI X tg iter wi) (blk : BlkOk X.N X.env.scope scope own)
    (ptg : ∀ s H C cl fp, PG (X.blk s H scope (compEnvC scope cl C X.env) fp) tg g) (pif : ∀ s H C cl fp, PTs (X.blk s H scope (compEnvC scope cl C X.env) fp) ifs tt)
    (pkx : ∀ s H C cl fp, PE (X.blk s H scope (compEnvC scope cl C X.env) fp) kx tk) (pvx : ∀ s H C cl fp, PE (X.blk s H scope (compEnvC scope cl C X.env) fp) vx tv)
    (folded : ∀ x, foldedSetIterable iter X.env x = pure x := by intro _; rfl) : PE X (.DictComp kx vx [⟨tg, iter, ifs, 0⟩] scope pos) (tDcN X.prog X.w X.K wi g tt tk tv (own.map (·.2))) := by
  refine ⟨fun pins s σ H Q I h => ?_⟩
  rw [arm_eval_DictComp]
  refine dcN_core hu calm nodup I walk blk ptg pif pkx pvx folded h fun D C s' m H' I' q hn f => ⟨m, hn, fun h'' sb => ?_⟩
  obtain ⟨f0, f1, f2, f3, f4, f5⟩ := f
  exact ⟨.ref D, H', I'.turned (t' := s'.toks) (fun b o hb e => (sb.2 b hb).trans e) f0 f1 f3 f4 f5, rfl, q⟩
end
end Sh
set_option Elab.async false
set_option linter.all false
set_option maxRecDepth 100000
set_option maxHeartbeats 4000000
namespace Sh
open PySem PySem.Spec PyProof.Rows L2 PySem.W
/-! ### dicts whose values are data, compared -/
def valP (l : List (Key × PyData)) (k : Key) : Option PyData := (l.find? fun p => decide (p.1 = k)).map (·.2)
def hitsD (ld : List (Key × PyData)) : List (Key × PyData) → Bool
  | [] => true
  | p :: r => (match valP ld p.1 with | none => false | some e => PyData.eqv p.2 e) && hitsD ld r
abbrev RD (K : PySem.W.Frag) (H : Hp) : Key × V → Key × PyData → Prop := fun p q => p.1 = q.1 ∧ Dp K H p.2 q.2 ∧ SeqAt.shaped q.2 = true
section
variable {X : Cx} {pins : List (Addr × Obj)} {σ : L2.St} {H : Hp} {s : Shared}
theorem rd_val {K : PySem.W.Frag} (k : Key) : ∀ {ls : List (Key × V)} {ld : List (Key × PyData)}, Paired (RD K H) ls ld → (valV ls k = none ∧ valP ld k = none) ∨ ∃ v d, valV ls k = some v ∧ valP ld k = some d ∧ Dp K H v d ∧ SeqAt.shaped d = true
  | _, _, .nil => .inl ⟨rfl, rfl⟩
  | p :: ls, q :: ld, .cons h t => by
    obtain ⟨h1, h2, h3⟩ := h
    by_cases e : p.1 = k
    · refine .inr ⟨p.2, q.2, valV_pos e, ?_, h2, h3⟩
      unfold valP
      rw [List.find?_cons_of_pos (by simpa using h1 ▸ e)]
      rfl
    · have e2 : ¬ q.1 = k := fun z => e (h1.trans z)
      rw [valV_neg e]
      have : valP (q :: ld) k = valP ld k := by
        unfold valP
        rw [List.find?_cons_of_neg (by simpa using e2)]
      rw [this]
      exact rd_val k t
theorem hits_rd (I : L2.Inv X pins σ H s) (hu : X.A.in1.units + 64 < cLine) {ls : List (Key × V)} {vb : List (Key × Value)} {ld : List (Key × PyData)} (rb : KV ls vb) (pl : Paired (RD X.K H) ls ld) :
    ∀ {ks : List (Key × V)} {va : List (Key × Value)} {kd : List (Key × PyData)}, KV ks va → Paired (RD X.K H) ks kd → KeqHits X.A.in1 s vb va (hitsD ld kd)
  | [], _, _, .nil, .nil => .nil
  | p :: _, (k, v) :: _, q :: _, .cons r t, .cons h t' => by
    obtain ⟨r1, r2⟩ := r
    obtain ⟨h1, h2, h3⟩ := h
    have r1 : p.1 = k := r1
    have ih := hits_rd I hu rb pl t t'
    have hv := rb.val p.1
    unfold hitsD
    rw [← h1]
    rcases rd_val p.1 pl with ⟨e1, e2⟩ | ⟨w, d, e1, e2, e3, e4⟩
    · rw [e1] at hv
      rw [e2]
      have hn : valueAt vb k = none := by
        rw [← r1]
        cases hvb : valueAt vb p.1 with
        | none => rfl
        | some y => rw [hvb] at hv; exact hv.elim
      exact .miss hn
    · rw [e1] at hv
      rw [e2]
      obtain ⟨y, hy, ry⟩ := hv.some_of
      obtain ⟨as, q1⟩ := Dp.reads I _ _ _ h2 r2
      obtain ⟨bs, q2⟩ := Dp.reads I _ _ _ e3 ry
      rw [r1] at hy
      exact .hit hy (keq_at (A := X.A) q1 q2 h3 e4 hu) ih
end
section
variable {X : Cx}
def rEqDV (K : PySem.W.Frag) : R2 := fun x y H Q => ∃ a b ks ls kd ld, x = .ref a ∧ y = .ref b ∧ H a = some (.dK ks) ∧ H b = some (.dK ls) ∧ Paired (RD K H) ks kd ∧ Paired (RD K H) ls ld ∧ Q (.bl (ks.length == ls.length && hitsD ld kd)) H
theorem op_eqDV (hu : X.A.units + 65 < cLine) : OpR X (compareOp .Eq) (rEqDV X.K) := by
  intro pins s σ H x y v u Q I rx ry h
  obtain ⟨a, b, ks, ls, kd, ld, rfl, rfl, ea, eb, pk, pl, q⟩ := h
  obtain rfl : v = Value.ref a := rx
  obtain rfl : u = Value.ref b := ry
  obtain ⟨_, ya, va, ra, da⟩ := (show ObjOk X.prog X.w H s.heap a (.dK ks) from I.hok a _ ea)
  obtain ⟨_, yb, vb, rb, db⟩ := (show ObjOk X.prog X.w H s.heap b (.dK ls) from I.hok b _ eb)
  have e : (va.length == vb.length) = (ks.length == ls.length) := by rw [ra.length, rb.length]
  exact keq_eq (knd := mixKind X.prog X.w) ya yb da db (by omega) (fun _ => hits_rd I (by show X.A.units + 1 + 64 < cLine; omega) rb pl ra pk) (fin_bl I q (by rw [e]))
/-- xs != [] -/
def rNeNil (K : PySem.W.Frag) : R2 := fun x y H Q => ∃ a b xs, x = .ref a ∧ y = .ref b ∧ SqL K H a xs ∧ SqL K H b [] ∧ Q (.bl (!xs.isEmpty)) H
theorem op_neNil (hu : X.A.units + 65 < cLine) : OpR X (compareOp .NotEq) (rNeNil X.K) := by
  intro pins s σ H x y v u Q I rx ry h
  obtain ⟨a, b, xs, rfl, rfl, ha, hb, q⟩ := h
  obtain rfl : v = Value.ref a := rx
  obtain rfl : u = Value.ref b := ry
  obtain ⟨its, r, pl, _⟩ := I.list ha
  obtain ⟨its2, r2, pl2, _⟩ := I.list hb
  cases r2
  have hl : s.heap.IsList a its.toArray := pl.isList
  have hl2 : s.heap.IsList b #[] := pl2.isList
  cases r with
  | nil => exact SeqAt.RcNeAt.lists (e := fun _ => true) hl hl2 rfl (by omega) (fun j h1 => by simp at h1) X.prog X.w _ _ ⟨.bl _, H, I, rfl, q⟩
  | cons r t => exact SeqAt.RcNeAt.lists_lengths hl hl2 (by simp) (by omega) X.prog X.w _ _ ⟨.bl _, H, I, rfl, q⟩
end
end Sh
set_option Elab.async false
set_option linter.all false
set_option maxRecDepth 100000
set_option maxHeartbeats 4000000
namespace Sh
open PySem PySem.Spec PyProof.Rows L2
/-! ### dicts with tuple keys, told with the addresses of their keys -/
def DNX (P : Program) (w : World) (K : PySem.W.Frag) (H : Hp) (a : Addr) (xs : List (NestedKey × Addr × V)) : Prop := H a = some (DNo P w a xs) ∧ ∀ x ∈ xs, KeyAt K H x.1 x.2.1
theorem DNX.dn {P : Program} {w : World} {K : PySem.W.Frag} {H : Hp} {a : Addr} {xs : List (NestedKey × Addr × V)} (h : DNX P w K H a xs) : DN P w K H a (kvN xs) := ⟨xs, h.1, rfl, h.2⟩
section
variable {X : Cx} {o i value : Expr} {pos pos' : Pos} {td ty tv : TE}
theorem DNX.raw {pins : List (Addr × Obj)} {σ : L2.St} {H : Hp} {s : Shared} {a : Addr} {xs : List (NestedKey × Addr × V)} (I : L2.Inv X pins σ H s) (h : DNX X.prog X.w X.K H a xs) : ∃ ys, xs.length ≤ sizeLine ∧ (a == sysModules) = false ∧ Paired RN xs ys ∧ s.heap.DictOfH (nestedKind X.prog X.w) a ys := by
  obtain ⟨h1, h3⟩ := h
  obtain ⟨⟨z, nd, ys, pr, o, es, ep, g1, g2, g3, g4, g5⟩, _, _⟩ := (show ObjOk X.prog X.w H s.heap a (DNo X.prog X.w a xs) from I.hok a _ h1)
  refine ⟨ys, z, nd, pr, o, es, ep, g1, g2, g3, g4, fun y hy => ?_, g5⟩
  obtain ⟨x, hx, e1, e2, _⟩ := pair_mem pr hy
  rw [← e1, ← e2]
  exact (h3 x hx).is I
def tDNewX (P : Program) (w : World) (K : PySem.W.Frag) : TE := fun _ H Q => ∀ p, H p = none → Q (.ref p) (upd H p (DNo P w p []))
theorem pe_dnewX : PE X (.Dict [] [] pos) (tDNewX X.prog X.w X.K) := ⟨fun pins s σ H Q I h =>
  wpAny_Dict_empty ⟨.ref s.heap.objs.size, upd H s.heap.objs.size (DNo X.prog X.w s.heap.objs.size []), I.laid (t' := s.toks) (fun _ _ q => Heap.get?_push_of_some _ q) (Nat.le_refl _)
      (dno_ok (Nat.zero_le _) (beq_eq_false_iff_ne.mpr (Ne.symm (Nat.ne_of_lt I.big))) .nil (Heap.DictOfH.new s.heap)), rfl,
    h _ (I.hok.fresh (Nat.le_refl _))⟩⟩
def sDPutX (P : Program) (w : World) (K : PySem.W.Frag) (td ty tv : TE) : TS := fun D σ H => tv σ H fun v H1 => td σ H1 fun x H2 => ty σ H2 fun y H3 => ∃ a b xs k, x = .ref a ∧ y = .ref b ∧ DNX P w K H3 a xs ∧ KeyAt K H3 k b ∧ xs.length < sizeLine ∧
  (DNX P w K (upd H3 a (DNo P w a (putN xs k b v))) a (putN xs k b v) → D.nx σ (upd H3 a (DNo P w a (putN xs k b v))))
theorem ps_dputX (hu : X.A.units + 65 < cLine) (ho : PE X o td) (hi : PE X i ty) (hv : PE X value tv) (hs : swapsWith value (some (.Subscript o i pos')) pos.line X.env = pure false) : PS X (.Assign [.Subscript o i pos'] value pos) (sDPutX X.prog X.w X.K td ty tv) := by
  refine ⟨fun pins s σ H D I h => ?_⟩
  refine wpAny_Assign_Subscript (thn (hv.run pins s σ H _ I h) fun r s1 ⟨v, H1, I1, rv, q1⟩ => thn (ho.run pins s1 σ H1 _ I1 q1) fun u s2 ⟨x, H2, I2, rx, q2⟩ => thn (hi.run pins s2 σ H2 _ I2 q2) fun iv s3 ⟨y, H3, I3, ry, a, b, xs, k, ex, ey, hd, hk, hz, q3⟩ => ?_) hs
  subst ex ey
  obtain rfl : u = Value.ref a := rx
  obtain rfl : iv = Value.ref b := ry
  obtain ⟨ys, z, nd, pr, dd⟩ := hd.raw I3
  obtain ⟨h1, h3⟩ := hd
  have hzy : ys.length ≤ sizeLine := by rw [← Paired.length pr]; exact z
  refine wpAny_setItem_heap (hsz := hzy) (room8 hu) (hk.is I3) dd fun h' dd' hs => ?_
  have he : ∃ q, h'.get? a = some q := let ⟨q, _, _, hq, _⟩ := dd'; ⟨q, hq⟩
  have hl : (putN xs k b v).length ≤ sizeLine := by have := len_putN xs k b v; omega
  refine ⟨σ, _, d_write I3 (dno_mut h1) hs he (dno_ok hl nd (put_pair pr k b rv) dd'), q3 ⟨upd_same, fun x hx => ?_⟩⟩
  rcases mem_putN hx with ⟨y, hy, e1, e2⟩ | ⟨e1, e2⟩
  · rw [e1, e2]
    exact (h3 y hy).put h1
  · rw [e1, e2]
    exact hk.put h1
/-- list(d): the keys as they stand -/
theorem call_list_dX (hc : X.calm = true) : CallR X (.type "list") (fun vs H Q => ∃ d xs, vs = [V.ref d] ∧ DNX X.prog X.w X.K H d xs ∧ ∀ p, H p = none → Q (.ref p) (upd H p (.lst (xs.map fun x => V.ref x.2.1)))) := by
  intro pins s σ H vs us Q I r h
  obtain ⟨d, xs, rfl, hd, q⟩ := h
  obtain ⟨u, rfl, rx⟩ := r.one
  cases rx
  obtain ⟨ys, z, nd, pr, o, es, ep, ho, hx, hdt, he, _, hn⟩ := hd.raw I
  have l2 : xs.length = ys.length := Paired.length pr
  have l1 : es.size = ys.length := by
    have := congrArg List.length he
    rw [Array.length_toList, List.length_map] at this
    exact this
  refine PySem.W.kdl_call (kdl_raw nd hx hdt) (I.ok.hd hc) ho (by omega) fun h' tk acc' c' kp e it => ?_
  have ea : acc'.toList = ys.map fun y => Value.ref y.2.1 := by
    have hl : acc'.toList.length = ys.length := by rw [Array.length_toList, it.1]; exact l1
    refine List.ext_getElem? fun j => ?_
    rw [List.getElem?_map]
    cases hj : acc'.toList[j]? with
    | none =>
      have h1 := List.getElem?_eq_none_iff.mp hj
      rw [List.getElem?_eq_none (by omega)]
      rfl
    | some v =>
      obtain ⟨en, hen, hv⟩ := it.2 j v (by rw [← Array.getElem?_toList]; exact hj)
      have qe : es.toList[j]? = some en := by rw [Array.getElem?_toList]; exact hen
      rw [he, List.getElem?_map] at qe
      obtain ⟨b, hb, e2⟩ := Option.map_eq_some_iff.mp qe
      rw [hb, hv, ← e2]
      rfl
  have eb : ∀ {xs : List (NestedKey × Addr × V)} {ys : List (NestedKey × Addr × Value)}, Paired RN xs ys → Vals (xs.map fun x => V.ref x.2.1) (ys.map fun y => Value.ref y.2.1) := fun pr => by
    induction pr with
    | nil => exact .nil
    | cons h t ih => exact .cons (congrArg Value.ref h.2.1.symm) ih
  have hz : (xs.map fun x => V.ref x.2.1).length ≤ sizeLine := by rw [List.length_map]; exact z
  refine ⟨.ref s.heap.objs.size, _, I.laid (t' := tk) (o := .lst (xs.map fun x => V.ref x.2.1)) kp (Nat.le_refl _) ?_, rfl, q _ (I.hok.fresh (Nat.le_refl _))⟩
  exact ⟨hz, acc'.toList, c', by rw [ea]; exact eb pr, by rw [Array.toArray_toList]; exact e⟩
/-- list(d.values()) -/
def tListValsX (P : Program) (w : World) (K : PySem.W.Frag) (td : TE) : TE := fun σ H Q => td σ H fun x H1 => ∃ d xs, x = .ref d ∧ DNX P w K H1 d xs ∧ ∀ p, H1 p = none → Q (.ref p) (upd H1 p (.lst (xs.map fun x => x.2.2)))
theorem pe_listValsX {e : Expr} {apos cpos mpos p : Pos} (hg : Gl X "list") (hm : X.mg "list" = none) (he : PE X e td) (hc : X.calm = true := by rfl)
    (na : starEach [Expr.Call (.Attribute e "values" apos) [] [] mpos] X.env = (false, eval (Expr.Call (.Attribute e "values" apos) [] [] mpos) X.env) :: starEach [] X.env := by rfl)
    (hbase : attributeBase e "values" X.env (eval e X.env) = eval e X.env := by rfl) (hline : (apos.endLine == mpos.line) = true := by rfl) :
    PE X (.Call (.Name "list" p) [.Call (.Attribute e "values" apos) [] [] mpos] [] cpos) (tListValsX X.prog X.w X.K td) := by
  refine ⟨fun pins s σ H Q I h => ?_⟩
  refine Call_ (ld_blt I hg hm PyProof.Rows.boot_list (PyProof.Rows.callWith_type1 (PyProof.Rows.args_cons ?_ na) na rfl))
  refine wpAny_Call_method (T := "dict") (id := "dict.values") hbase rfl hline PySem.F.plainAttrs_dict PySem.F.slot_dict_values PySem.F.type_dict_values (thn (he.run pins s σ H _ I h) fun u s1 ⟨x, H1, I1, rx, d, xs, ex, hd, q⟩ => ?_)
  subst ex
  obtain rfl : u = Value.ref d := rx
  obtain ⟨ys, z, nd, pr, dd⟩ := hd.raw I1
  obtain ⟨es, ep, hr, hsz, hval⟩ := dd.raw
  refine ⟨dd.typeIs, fun b e => ?_, ?_⟩
  · cases e
    obtain ⟨o, es, ep, ho, hx, _⟩ := dd
    exact ⟨o, ho, hx.2.1⟩
  show wpAny _ _ (callWith mpos (.builtin "dict.values") [.ref d] [] []) _ X.xe s1
  refine method_meetsIn PySem.F.slot_dict_values PySem.F.entry_dict_values rfl (PySem.evalArgs_none ⟨rfl, dd.typeIs, PySem.F.args_dict_values_1 _, _, meets_dict_values_raw d nd, ⟨es, ep, hr⟩, ?_⟩)
  refine PyProof.Rows.args_nil ?_
  have I2 : L2.Inv X pins σ H1 { s1 with heap := s1.heap.push { cls := .type "dict_values", data := .fields #[.ref d] } } := I1.kept (t' := s1.toks) fun b ob q => Heap.get?_push_of_some _ q
  have l2 : xs.length = ys.length := Paired.length pr
  refine PySem.W.kdl_call (KdlSrc.rawValues (r := s1.heap.objs.size) (d := d) (es := es) (ep := ep)) (I1.ok.hd hc) ⟨⟨_, Heap.get?_push_size _ rfl, rfl, rfl⟩, hr.at fun o q => Heap.get?_push_of_some _ q⟩ (by omega) fun h' tk acc' c' kp e it => ?_
  have ea : acc'.toList = ys.map fun y => y.2.2 := by
    have hl : acc'.toList.length = ys.length := by rw [Array.length_toList, it.1]; exact hsz
    refine List.ext_getElem? fun j => ?_
    rw [List.getElem?_map]
    cases hj : acc'.toList[j]? with
    | none =>
      have h1 := List.getElem?_eq_none_iff.mp hj
      rw [List.getElem?_eq_none (by omega)]
      rfl
    | some v =>
      obtain ⟨hi, hv⟩ := it.2 j v (by rw [← Array.getElem?_toList]; exact hj)
      obtain ⟨y, hy, _, e2, _⟩ := hval j hi
      rw [hy, hv, e2]
      rfl
  have eb : ∀ {xs : List (NestedKey × Addr × V)} {ys : List (NestedKey × Addr × Value)}, Paired RN xs ys → Vals (xs.map fun x => x.2.2) (ys.map fun y => y.2.2) := fun pr => by
    induction pr with
    | nil => exact .nil
    | cons h t ih => exact .cons h.2.2 ih
  have hz : (xs.map fun x => x.2.2).length ≤ sizeLine := by rw [List.length_map]; exact z
  refine ⟨.ref _, _, I2.laid (t' := tk) (o := .lst (xs.map fun x => x.2.2)) kp (Nat.le_refl _) ?_, rfl, q _ (I2.hok.fresh (Nat.le_refl _))⟩
  exact ⟨hz, acc'.toList, c', by rw [ea]; exact eb pr, by rw [Array.toArray_toList]; exact e⟩
end
/-! ### {k: v}, the key a tuple -/
def tDisp1N (P : Program) (w : World) (K : PySem.W.Frag) (tk tv : TE) : TE := fun σ H Q => ∀ p o, H p = none → DN P w K (upd H p o) p [] → tk σ (upd H p o) fun x H1 => tv σ H1 fun y H2 => ∃ b k, x = .ref b ∧ DN P w K H2 p [] ∧ KeyAt K H2 k b ∧ ∀ o', DN P w K (upd H2 p o') p [(k, y)] → Q (.ref p) (upd H2 p o')
theorem pe_disp1N {X : Cx} {pos : Pos} {k v : Expr} {tk tv : TE} (hu : X.A.units + 65 < cLine) (hk : PE X k tk) (hv : PE X v tv) : PE X (.Dict [some k] [v] pos) (tDisp1N X.prog X.w X.K tk tv) := by
  refine ⟨fun pins s σ H Q I q => ?_⟩
  have hn := I.hok.fresh (Nat.le_refl s.heap.objs.size)
  have I1 : L2.Inv X pins σ (upd H s.heap.objs.size (DNo X.prog X.w s.heap.objs.size [])) { s with heap := s.heap.push { cls := .type "dict", data := .dict #[] } } := I.laid (t' := s.toks) (fun _ _ q => Heap.get?_push_of_some _ q) (Nat.le_refl _)
      (dno_ok (Nat.zero_le _) (beq_eq_false_iff_ne.mpr (Ne.symm (Nat.ne_of_lt I.big))) .nil (Heap.DictOfH.new s.heap))
  rw [arm_eval_Dict, show (evalEachOpt [some k] X.env).zip ((evalEach [v] X.env).map fun v => do let x ← v; standAt pos; pure x) = ([(eval k X.env, do let x ← eval v X.env; standAt pos; pure x)] : List (Sem Value × Sem Value)).map fun p => (some p.1, p.2) from rfl, dictDisplay_pairs _ (by simp) (by simp)]
  refine wpAny_bind (wpAny_standAt (wpAny_bind (wpAny_subDictH (knd := nestedKind X.prog X.w) (show X.A.units + 8 < cLine by omega) (by simp) ?_)))
  unfold evalPairs
  refine wpAny_bind (thn (hk.run pins _ σ _ _ I1 (q _ _ hn ⟨[], upd_same, rfl, fun _ z => nomatch z⟩)) fun u s1 ⟨x, H1, I2, rx, q1⟩ => ?_)
  refine wpAny_bind (wpAny_holding (wpAny_bind (thn (hv.run pins s1 σ H1 _ I2 q1) fun u2 s2 ⟨y, H2, I3, ry, b, kk, ex, hd, hkey, q2⟩ => wpAny_bind (wpAny_standAt (wpAny_pure ?_)))))
  refine wpAny_bind (wpAny_holding (wpAny_pure (wpAny_pure ?_)))
  subst ex
  obtain rfl : u = Value.ref b := rx
  obtain ⟨xs, ys, h1, e0, h3, z, nd, pr, dd⟩ := hd.raw I3
  have ex0 : xs = [] := List.map_eq_nil_iff.mp e0
  subst ex0
  cases pr
  refine ⟨[(kk, b, u2)], ⟨rfl, rfl, hkey.is I3, True.intro⟩, dd, fun h' tk dd' hs => wpAny_pure ?_⟩
  have he : ∃ q, h'.get? s.heap.objs.size = some q := let ⟨q, _, _, hq, _⟩ := dd'; ⟨q, hq⟩
  have pr' : Paired RN [(kk, b, y)] [(kk, b, u2)] := .cons ⟨rfl, rfl, ry⟩ .nil
  refine ⟨.ref s.heap.objs.size, upd H2 s.heap.objs.size (DNo X.prog X.w s.heap.objs.size [(kk, b, y)]), d_write I3 (dno_mut h1) hs he (dno_ok (by show 1 ≤ sizeLine; decide) nd pr' dd'), rfl, q2 _ ⟨[(kk, b, y)], upd_same, rfl, fun x hx => ?_⟩⟩
  rw [List.mem_singleton.mp hx]
  exact hkey.put h1
end Sh
set_option Elab.async false
set_option linter.all false
set_option maxRecDepth 100000
set_option maxHeartbeats 4000000
namespace Sh
open PySem PySem.Spec PySem.W PySem.Calls PyProof.Rows L2 NdefX
/-! ### a hook whose addresses are written out: the kernel has not to find them -/
def obsXA (fa : List He.Fa) (fn : List He.DefD) (ex : List (Frag → Bool)) (xs : List XD) (tf : List He.Defn) (cm : List CD) (as : List Addr) (g : Addr → Option Obj) : AlXT :=
  (obsX fa fn ex xs (He.frT g as), He.tabsB g tf (He.frT g as) && cm.all (fun d => d.ok (He.frT g as)), cm.map fun d => xvOf (He.frT g as) (d.fn (He.frT g as)))
theorem saysXA_of {as : List Addr} {fa : List He.Fa} {fn : List He.DefD} {ex : List (Frag → Bool)} {xs : List XD} {tf : List He.Defn} {cm : List CD} {h : Heap} (e : obsXA fa fn ex xs tf cm as h.get? = valXT fn xs cm) : SaysXT fa fn ex xs tf cm h (He.frT h.get? as) := by
  have e1 : obsX fa fn ex xs (He.frT h.get? as) = valX fn xs := congrArg (fun z : AlXT => z.1) e
  have e0 : (He.tabsB h.get? tf (He.frT h.get? as) && cm.all (fun d => d.ok (He.frT h.get? as))) = true := congrArg (fun z : AlXT => z.2.1) e
  have e3 : cm.map (fun d => xvOf (He.frT h.get? as) (d.fn (He.frT h.get? as))) = cm.map CD.val := congrArg (fun z : AlXT => z.2.2) e
  obtain ⟨e2, e4⟩ := andB e0
  have key : ∀ p ∈ tf, codeHdIn (He.frT h.get? as) (He.cT (He.frT h.get? as) p).1 (He.cT (He.frT h.get? as) p).2 = true ∧ ∃ o, h.get? (He.cT (He.frT h.get? as) p).2 = some o ∧ He.emptyTab o = true := fun p hp => by
    obtain ⟨h3, h4⟩ := andB (List.all_eq_true.mp e2 p hp)
    refine ⟨h3, ?_⟩
    cases q : h.get? (He.cT (He.frT h.get? as) p).2 with
    | none =>
      rw [q] at h4
      cases h4
    | some o =>
      rw [q] at h4
      exact ⟨o, rfl, h4⟩
  refine ⟨says_of e1, fun p hp => (key p hp).1, fun p hp => ?_, fun p hp => ?_, fun i d hd => List.all_eq_true.mp e4 d (List.mem_of_getElem? hd), fun i d hd => ?_⟩
  · obtain ⟨_, o, q, z⟩ := key p hp
    exact He.frT_none q z
  · obtain ⟨_, o, q, z⟩ := key p hp
    rw [q, He.emptyTab_eq z]
  · have e5 : (cm.map fun d => xvOf (He.frT h.get? as) (d.fn (He.frT h.get? as)))[i]? = (cm.map CD.val)[i]? := by rw [e3]
    rw [List.getElem?_map, List.getElem?_map, hd] at e5
    exact Option.some.inj e5
def hookXA (as : List Addr) (fa : List He.Fa) (fn : List He.DefD) (ex : List (Frag → Bool)) (xs : List XD) (tf : List He.Defn) (cm : List CD) : PySem.W.Hook where
  α := AlXT
  obs := fun s => obsXA fa fn ex xs tf cm as s.heap.get?
  val := fun _ => valXT fn xs cm
  says := fun _ h => ∃ K : Frag, K.In h ∧ SaysXT fa fn ex xs tf cm h K
  of := fun _ _ e => ⟨_, He.frT_in, saysXA_of e⟩
  keeps := fun _ _ _ ⟨K, hK, c⟩ k => ⟨K, Frag.In.keeps hK k, ⟨c.s, c.hd, c.out, fun p hp => k _ _ (c.empty p hp), c.cmo, c.cmv⟩⟩
theorem obsXA_eq {as : List Addr} {fa : List He.Fa} {fn : List He.DefD} {ex : List (Frag → Bool)} {xs : List XD} {tf : List He.Defn} {cm : List CD} {g : Addr → Option Obj} {s : Shared} (h : ∀ a, g a = s.heap.get? a) : obsXA fa fn ex xs tf cm as g = (hookXA as fa fn ex xs tf cm).obs s := by
  have e : g = s.heap.get? := funext h
  rw [e] <;> rfl
/-- the head's run, told in parts: the kernel has not room for all at once -/
theorem run_parts {r : OpenRow} {q : Program} {as : List Addr} {fa : List He.Fa} {fn : List He.DefD} {ex : List (Frag → Bool)} {xs : List XD} {tf : List He.Defn} {cm : List CD} {M : Nat} {loose : List PySem.Str} {w : World}
    (e1 : ∀ os : OsState, (HandSHeadRun.endF (HandSHeadRun.stepQ (HandSHeadRun.denQ HandSHeadRun.tabQ) r.prog w) M r.prog w os).map (fun s => HandSHeadRun.looksF r.prog (boot_heap w.params) s.abs) = some true)
    (e2 : ∀ os : OsState, (HandSHeadRun.endF (HandSHeadRun.stepQ (HandSHeadRun.denQ HandSHeadRun.tabQ) r.prog w) M r.prog w os).map (fun s => HandSHeadRun.seenQ q loose (importedModules r.prog.main.body) (fun s => xlAt q [] s && recOk r.toRowW.records s) s.abs) = some (openGood q loose))
    (e3 : ∀ os : OsState, (HandSHeadRun.endF (HandSHeadRun.stepQ (HandSHeadRun.denQ HandSHeadRun.tabQ) r.prog w) M r.prog w os).map (fun s => obsXA fa fn ex xs tf cm as (HandSHeadRun.getT s)) = some (valXT fn xs cm)) :
    HandSHeadRun.RunEq r q (hookXA as fa fn ex xs tf cm) (fun s => obsXA fa fn ex xs tf cm as (HandSHeadRun.getT s)) M loose w := by
  intro os
  obtain ⟨s, hs, q1⟩ := Option.map_eq_some_iff.mp (e1 os)
  obtain ⟨s2, hs2, q2⟩ := Option.map_eq_some_iff.mp (e2 os)
  obtain ⟨s3, hs3, q3⟩ := Option.map_eq_some_iff.mp (e3 os)
  rw [hs] at hs2 hs3
  obtain rfl : s = s2 := Option.some.inj hs2
  obtain rfl : s = s3 := Option.some.inj hs3
  rw [hs]
  exact congrArg some (Prod.ext q1 (Prod.ext q2 q3))
end Sh
set_option Elab.async false
set_option linter.all false
set_option maxRecDepth 100000
set_option maxHeartbeats 4000000
namespace Sh
open PySem PySem.Spec PySem.W PySem.Calls PyProof.Rows L2 NdefX
/-- where the value of a text key of the dict at a stands -/
def dvA (K : Frag) (a : Addr) (k : PySem.Str) : Addr := match nsIn K a k with
  | some (some (.ref b)) => b
  | _ => 0
theorem kd_get {K : Frag} {w : World} {d : Addr} {es : Array DictEntry} {n : Nat} {z : PySem.Str} {v : V} (D : KDict K w d es n) (h : ∃ u, nsIn K d z = some (some u) ∧ RelV v u) : KDct K w d z v := by
  obtain ⟨u, h, r⟩ := h
  exact ⟨es, n, u, D.at_, D.lit, h, r⟩
/-! ### the hook of THookA, with dicts of the top that have text keys -/
abbrev AlXD : Type := AlXT × List (Option (List (Option (PySem.Str × Int))))
structure SaysXD (fa : List He.Fa) (fn : List He.DefD) (ex : List (Frag → Bool)) (xs : List XD) (tf : List He.Defn) (cm : List CD) (ts : List He.Tab) (w : World) (h : Heap) (K : Frag) : Prop where
  t : SaysXT fa fn ex xs tf cm h K
  tab : ∀ (i : Nat) {t : He.Tab}, ts[i]? = some t → ∃ es n, KDict K w (t.1 K) es n
def obsXD (fa : List He.Fa) (fn : List He.DefD) (ex : List (Frag → Bool)) (xs : List XD) (tf : List He.Defn) (cm : List CD) (ts : List He.Tab) (as : List Addr) (g : Addr → Option Obj) : AlXD :=
  (obsXA fa fn ex xs tf cm as g, ts.map fun t => He.dicW (He.frT g as) (t.1 (He.frT g as)))
def valXD (fn : List He.DefD) (xs : List XD) (cm : List CD) (ts : List He.Tab) (w : World) : AlXD := (valXT fn xs cm, ts.map fun t => some (He.keysIn w.params t.2))
theorem saysXD_of {as : List Addr} {fa : List He.Fa} {fn : List He.DefD} {ex : List (Frag → Bool)} {xs : List XD} {tf : List He.Defn} {cm : List CD} {ts : List He.Tab} {w : World} {h : Heap} (e : obsXD fa fn ex xs tf cm ts as h.get? = valXD fn xs cm ts w) : SaysXD fa fn ex xs tf cm ts w h (He.frT h.get? as) := by
  refine ⟨saysXA_of (congrArg (fun z : AlXD => z.1) e), fun i t ht => ?_⟩
  have e1 : ts.map (fun t => He.dicW (He.frT h.get? as) (t.1 (He.frT h.get? as))) = ts.map fun t => some (He.keysIn w.params t.2) := congrArg (fun z : AlXD => z.2) e
  have e2 : (ts.map fun t => He.dicW (He.frT h.get? as) (t.1 (He.frT h.get? as)))[i]? = (ts.map fun t => some (He.keysIn w.params t.2))[i]? := by rw [e1]
  rw [List.getElem?_map, List.getElem?_map, ht] at e2
  exact He.dicW_ok (Option.some.inj e2)
def hookXD (as : List Addr) (fa : List He.Fa) (fn : List He.DefD) (ex : List (Frag → Bool)) (xs : List XD) (tf : List He.Defn) (cm : List CD) (ts : List He.Tab) : PySem.W.Hook where
  α := AlXD
  obs := fun s => obsXD fa fn ex xs tf cm ts as s.heap.get?
  val := fun w => valXD fn xs cm ts w
  says := fun w h => ∃ K : Frag, K.In h ∧ SaysXD fa fn ex xs tf cm ts w h K
  of := fun _ _ e => ⟨_, He.frT_in, saysXD_of e⟩
  keeps := fun _ _ _ ⟨K, hK, c⟩ k => ⟨K, Frag.In.keeps hK k, ⟨⟨c.t.s, c.t.hd, c.t.out, fun p hp => k _ _ (c.t.empty p hp), c.t.cmo, c.t.cmv⟩, c.tab⟩⟩
theorem obsXD_eq {as : List Addr} {fa : List He.Fa} {fn : List He.DefD} {ex : List (Frag → Bool)} {xs : List XD} {tf : List He.Defn} {cm : List CD} {ts : List He.Tab} {g : Addr → Option Obj} {s : Shared} (h : ∀ a, g a = s.heap.get? a) : obsXD fa fn ex xs tf cm ts as g = (hookXD as fa fn ex xs tf cm ts).obs s := by
  have e : g = s.heap.get? := funext h
  rw [e] <;> rfl
theorem run_partsD {r : OpenRow} {q : Program} {as : List Addr} {fa : List He.Fa} {fn : List He.DefD} {ex : List (Frag → Bool)} {xs : List XD} {tf : List He.Defn} {cm : List CD} {ts : List He.Tab} {M : Nat} {loose : List PySem.Str} {w : World}
    (e1 : ∀ os : OsState, (HandSHeadRun.endF (HandSHeadRun.stepQ (HandSHeadRun.denQ HandSHeadRun.tabQ) r.prog w) M r.prog w os).map (fun s => HandSHeadRun.looksF r.prog (boot_heap w.params) s.abs) = some true)
    (e2 : ∀ os : OsState, (HandSHeadRun.endF (HandSHeadRun.stepQ (HandSHeadRun.denQ HandSHeadRun.tabQ) r.prog w) M r.prog w os).map (fun s => HandSHeadRun.seenQ q loose (importedModules r.prog.main.body) (fun s => xlAt q [] s && recOk r.toRowW.records s) s.abs) = some (openGood q loose))
    (e3 : ∀ os : OsState, (HandSHeadRun.endF (HandSHeadRun.stepQ (HandSHeadRun.denQ HandSHeadRun.tabQ) r.prog w) M r.prog w os).map (fun s => obsXD fa fn ex xs tf cm ts as (HandSHeadRun.getT s)) = some (valXD fn xs cm ts w)) :
    HandSHeadRun.RunEq r q (hookXD as fa fn ex xs tf cm ts) (fun s => obsXD fa fn ex xs tf cm ts as (HandSHeadRun.getT s)) M loose w := by
  intro os
  obtain ⟨s, hs, q1⟩ := Option.map_eq_some_iff.mp (e1 os)
  obtain ⟨s2, hs2, q2⟩ := Option.map_eq_some_iff.mp (e2 os)
  obtain ⟨s3, hs3, q3⟩ := Option.map_eq_some_iff.mp (e3 os)
  rw [hs] at hs2 hs3
  obtain rfl : s = s2 := Option.some.inj hs2
  obtain rfl : s = s3 := Option.some.inj hs3
  rw [hs]
  exact congrArg some (Prod.ext q1 (Prod.ext q2 q3))
end Sh
set_option Elab.async false
set_option linter.all false
set_option maxRecDepth 100000
set_option maxHeartbeats 4000000
namespace ShL
open PySem PySem.W PySem.Calls PyProof.Rows
section
variable {prog : Program} {w : World} {A : Around} {E : Value → Shared → Prop} {s : Shared} {l st : Addr} {its : List Value} {e1 : Nat} {Z : PySem.Fin → Shared → Prop} {ks : List PyData} {J : Shared → Prop} {F : List Addr} {G : Heap → Prop}
/-- a call of f on x keeps what was there; its key is a new object -/
def KeyNewG (J : Shared → Prop) (F : List Addr) (G : Heap → Prop) (d : PyData) (s₁ : Shared) (v : Value) (s₂ : Shared) : Prop := J s₂ ∧ KB F s₁.heap s₂.heap ∧ ∃ a o, v = .ref a ∧ s₁.heap.get? a = none ∧ a ∉ F ∧ s₂.heap.get? a = some o ∧ ∀ g : Heap, G g → g.get? a = some o → ∃ as, Reads g (.ref a) d as
theorem kn_restG {f : Value} {h0 : Heap} (hG : ∀ g, KBx l F h0 g → G g) (hJ : ∀ s g tk, J s → J { s with heap := g, toks := tk }) (j0 : J s) (kb : KBx l F h0 s.heap) (hst : h0.get? st = none) (ns : s.heap.get? st = some (seqObj "list" #[] 0)) (nl : s.heap.get? l = some (seqObj "list" #[] e1)) (hne : st ≠ l) (hsF : st ∉ F) (hlF : l ∉ F)
    (hlen : ks.length = its.length) (hZ : its.length ≤ sizeLine) (hal : AllAlike ks) (hsk : Sortable ks) (hu : ∀ d ∈ ks, A.units + d.depth < cLine)
    (one : ∀ (i : Nat) (v : Value) (d : PyData), its[i]? = some v → ks[i]? = some d → ∀ (s₁ : Shared), J s₁ → KBx l F h0 s₁.heap → wpAny (model prog w) A (call f [v]) (KeyNewG J F G d s₁) (fun _ _ => False) s₁)
    (fin : ∀ s₁ out c, J s₁ → KBx l F h0 s₁.heap → s₁.heap.get? l = some (seqObj "list" (List.toArray out) c) → KeyedOut false ks its out → Z (.done (.ret .none)) s₁) :
    wpAny (model prog w) A (ksk_rest l f false its.toArray e1 (.ref st)) Z E s := by
  unfold ksk_rest; refine wpAny_bind (wpAny_rule ?_)
  first
    | rw [List.forIn_toArray]
    | (rw [← Array.forIn_toList]; simp only [List.toList_toArray])
    | rw [← Array.forIn_toList]
  let R : Heap → Value → PyData → Prop := fun g v d => ∃ a o, v = .ref a ∧ a ≠ st ∧ a ∉ F ∧ g.get? a = some o ∧ ∀ g' : Heap, G g' → g'.get? a = some o → ∃ as, Reads g' (.ref a) d as
  refine wpAny_bind (ksk_fold (fun i s₁ => ∃ kA e, J s₁ ∧ KBx l F h0 s₁.heap ∧ s₁.heap.get? st = some (seqObj "list" kA e) ∧ s₁.heap.get? l = some (seqObj "list" #[] e1) ∧ EachIs (R s₁.heap) kA.toList (ks.take i)) its 0 s
    ⟨#[], 0, j0, kb, ns, nl, by rw [List.take_zero]; exact EachIs.nil⟩ ?step ?done)
  case step =>
    rintro j x s₁ hx ⟨kA, e, j1, kg, ns', nl', hk⟩
    simp only [Nat.zero_add] at hk ⊢
    have hj : j < its.length := (List.getElem?_eq_some_iff.mp hx).1
    obtain ⟨d, hd⟩ : ∃ d, ks[j]? = some d := ⟨_, List.getElem?_eq_getElem (by omega)⟩
    have hz : kA.size ≤ its.length := by
      have q := hk.length
      rw [Array.length_toList, List.length_take] at q; omega
    refine wpAny_bind (wpAny_attempt (wpAny_mono (one j x d hx hd s₁ j1 kg) (fun v s₂ he => ?_) fun _ _ z => z.elim))
    obtain ⟨j2, up, a, o, rfl, hn, haF, hao, hr⟩ := he; try dsimp only
    have has : a ≠ st := fun z => by rw [z, ns'] at hn; cases hn
    have ns2 : s₂.heap.get? st = some (seqObj "list" kA e) := (up _ _ ns').2 hsF
    have nl2 : s₂.heap.get? l = some (seqObj "list" #[] e1) := (up _ _ nl').2 hlF
    have sb := Heap.SameBut.update s₂.heap st (Obj.mapSeq (·.push (.ref a)))
    obtain ⟨c2, hc2⟩ : ∃ c2, (s₂.heap.update st (Obj.mapSeq (·.push (.ref a)))).get? st = some (seqObj "list" (kA.push (.ref a)) c2) := ⟨_, get?_update_seq ns2 (·.push (.ref a))⟩
    refine wpAny_bind (listUpdate_at ns2 rfl ?_ (Nat.le_trans hz hZ) (by rw [Array.size_push]; omega))
    refine wpAny_pure ⟨rfl, kA.push (.ref a), c2, hJ s₂ _ s₂.toks j2, (kg.trans up).same hst sb.2, hc2, (sb.2 l hne.symm).trans nl2, ?_⟩
    rw [show (kA.push (Value.ref a)).toList = kA.toList ++ [.ref a] by simp, show ks.take (j + 1) = ks.take j ++ [d] by rw [List.take_add_one, hd]; rfl]
    refine each_snoc (R := R (s₂.heap.update st (Obj.mapSeq (·.push (.ref a))))) ⟨a, o, rfl, has, haF, (sb.2 a has).trans hao, hr⟩ (hk.mono ?_)
    rintro u d' ⟨b, ob, rfl, hb1, hb2, hb3, hb4⟩
    exact ⟨b, ob, rfl, hb1, hb2, (sb.2 b hb1).trans ((up _ _ hb3).2 hb2), hb4⟩
  case done =>
    rintro s₁ ⟨kA, e, j1, kg, ns', nl', hk⟩
    have hk' : EachIs (fun v d => ∃ as, Reads s₁.heap v d as) kA.toList ks := by
      rw [show ks.take (0 + its.length) = ks from List.take_of_length_le (by omega)] at hk
      refine hk.mono ?_
      rintro u d ⟨b, ob, rfl, _, _, hb3, hb4⟩
      exact hb4 _ (hG _ kg) hb3
    have hsz : kA.size = its.length := by
      have q := hk'.length
      rw [Array.length_toList] at q; omega
    try dsimp only
    refine wpAny_bind (listItems_at ns' rfl ?_)
    obtain ⟨G, g1, g2⟩ := L2.restrict s₁.heap fun b => decide (b ≠ st)
    have kG : KeepsBut l G s₁.heap := fun b o _ q => by
      by_cases z : b = st
      · rw [g2 b (decide_eq_false (by simpa using z))] at q; cases q
      · rw [g1 b (decide_eq_true z)] at q; exact q
    refine keyH_end (κ := dataKind s₁.heap ks) (h₁ := G) kG (g2 st (by simp)) ns' nl' hne (SortsAt.data (s := s₁) hk' hal hsk hu) hsz hZ fun g3 tk3 c k3 n3 => fin _ _ c (hJ s₁ g3 tk3 j1) ?_ n3 ⟨s₁.heap, kA.toList, hal, rfl, hk'⟩
    intro b o hb q
    have ne : b ≠ st := fun z => by rw [z, hst] at q; cases q
    obtain ⟨⟨sl, q1⟩, q2⟩ := kg b o hb q
    exact ⟨⟨sl, k3 b _ hb ((g1 b (decide_eq_true ne)).trans q1)⟩, fun n => k3 b _ hb ((g1 b (decide_eq_true ne)).trans (q2 n))⟩
theorem kn_treeG {f : Value} {n : Nat} (hG : ∀ g, KBx l F s.heap g → G g) (hJ : ∀ s g tk, J s → J { s with heap := g, toks := tk }) (j0 : J s) (hF : ∀ b ∈ F, b < s.heap.objs.size ∧ b ≠ l) (ho : s.heap.get? l = some (seqObj "list" its.toArray n)) (hlen : ks.length = its.length) (hZ : its.length ≤ sizeLine) (hal : AllAlike ks) (hsk : Sortable ks) (hu : ∀ d ∈ ks, A.units + d.depth < cLine)
    (one : ∀ (i : Nat) (v : Value) (d : PyData), its[i]? = some v → ks[i]? = some d → ∀ (s₁ : Shared), J s₁ → KBx l F s.heap s₁.heap → wpAny (model prog w) A (call f [v]) (KeyNewG J F G d s₁) (fun _ _ => False) s₁)
    (fin : ∀ s₁ out c, J s₁ → KBx l F s.heap s₁.heap → s₁.heap.get? l = some (seqObj "list" (List.toArray out) c) → KeyedOut false ks its out → Z (.done (.ret .none)) s₁) :
    wpAny (model prog w) A (ksk_tree l f false) Z E s := by
  have hl : l < s.heap.objs.size := Heap.lt_size ho
  obtain ⟨e1, q1⟩ : ∃ e1, (s.heap.update l (Obj.mapSeq fun _ => (#[] : Array Value))).get? l = some (seqObj "list" #[] e1) := ⟨_, get?_update_seq ho fun _ => #[]⟩
  have zS : ((s.heap.update l (Obj.mapSeq fun _ => (#[] : Array Value))).push (seqObj "tuple" its.toArray 0)).objs.size = s.heap.objs.size + 1 := by rw [size_push', Heap.size_update]
  unfold ksk_tree; refine wpAny_bind (listItems_at ho rfl ?_)
  refine wpAny_bind (listUpdate_at ho rfl ?_ (by rw [List.size_toArray]; exact hZ) (Nat.zero_le _)); refine wpAny_bind (seqEpoch_at q1 rfl ?_)
  refine wpAny_bind (wpAny_newTuple ?_ (by show its.length ≤ _; exact hZ)); refine wpAny_bind (wpAny_newList ?_ (Nat.zero_le _))
  refine wpAny_holding ?_
  refine kn_restG (ks := ks) (F := F) (h0 := s.heap) (s := { s with heap := ((s.heap.update l (Obj.mapSeq fun _ => (#[] : Array Value))).push (seqObj "tuple" its.toArray 0)).push (seqObj "list" #[] 0) }) (st := ((s.heap.update l (Obj.mapSeq fun _ => (#[] : Array Value))).push (seqObj "tuple" its.toArray 0)).objs.size)
    hG hJ (hJ s _ s.toks j0) (fun b o hb q => ⟨⟨o.slots, sortingHeap_old hb q⟩, fun _ => sortingHeap_old hb q⟩) (Heap.get?_none_of_le (by rw [zS]; exact Nat.le_succ _)) (Heap.get?_push_size _ rfl) (Heap.get?_push_of_some _ (Heap.get?_push_of_some _ q1)) (by rw [zS]; exact Nat.ne_of_gt (Nat.lt_succ_of_lt hl)) ?_ (fun z => (hF l z).2 rfl) hlen hZ hal hsk hu one fin
  rw [zS]
  exact fun z => Nat.lt_irrefl _ (Nat.lt_trans (Nat.lt_succ_self _) (hF _ z).1)
end
section
variable {prog : Program} {w : World} {A : Around} {E : Value → Shared → Prop} {s : Shared} {β : Type} {its : List Value} {bs : List β} {R : Value → β → Prop} {J : Shared → Prop} {F : List Addr} {G : Heap → Prop}
theorem kn_turnsG {l : Addr} {f : Value} {k : β → PyData} {h0 : Heap} (e : EachIs R its bs)
    (one : ∀ (v : Value) (x : β), R v x → x ∈ bs → ∀ (s₁ : Shared), J s₁ → KBx l F h0 s₁.heap → wpAny (model prog w) A (call f [v]) (KeyNewG J F G (k x) s₁) (fun _ _ => False) s₁) :
    ∀ (i : Nat) (v : Value) (d : PyData), its[i]? = some v → (bs.map k)[i]? = some d → ∀ (s₁ : Shared), J s₁ → KBx l F h0 s₁.heap → wpAny (model prog w) A (call f [v]) (KeyNewG J F G d s₁) (fun _ _ => False) s₁ := by
  intro i v d hv hd s₁ j1 kb
  rw [List.getElem?_map] at hd
  obtain ⟨x, q, rfl⟩ := Option.map_eq_some_iff.mp hd
  have m : (v, x) ∈ its.zip bs := List.mem_of_getElem? (i := i) (by rw [List.getElem?_zip_eq_some]; exact ⟨hv, q⟩)
  exact one v x (e.zip _ m) (List.mem_of_getElem? q) s₁ j1 kb
/-- sorted(xs, key=f) -/
theorem sorted_key_newG {a q : Addr} {Q : Value → Shared → Prop} (k : β → PyData) (hG : ∀ g, KB F s.heap g → G g) (hJ : ∀ s g tk, J s → J { s with heap := g, toks := tk }) (j0 : J s) (hF : ∀ b ∈ F, b < s.heap.objs.size) (hl : s.heap.IsList a its.toArray) (e : EachIs R its bs) (hal : AllAlike (bs.map k)) (hk : Sortable (bs.map k)) (hL : bs.length ≤ sizeLine) (hu : ∀ x ∈ bs, A.units + 2 + (k x).depth < cLine)
    (one : ∀ (v : Value) (x : β), R v x → x ∈ bs → ∀ (s₁ : Shared), J s₁ → KB F s.heap s₁.heap → wpAny (model prog w) A.in1.in1 (call (.ref q) [v]) (KeyNewG J F G (k x) s₁) (fun _ _ => False) s₁)
    (fin : ∀ s₁ out c, J s₁ → KB F s.heap s₁.heap → s₁.heap.get? (s.heap.objs.size + 1) = some (seqObj "list" (List.toArray out) c) → out.length = bs.length → EachIs R out (bs.mergeSort (dataLe false k)) → Q (.ref (s.heap.objs.size + 1)) s₁) :
    wpAny (model prog w) A (call (.builtin "sorted") [.ref a] [(Str.ofString "key", .ref q)]) Q E s := by
  have lb : (bs.map k).length = its.length := by rw [List.length_map]; exact e.length.symm
  have up : ∀ {g : Heap}, KBx (s.heap.objs.size + 1) F (copyHeap s.heap its) g → KB F s.heap g := fun {g} kb b o z => kb b o (Nat.ne_of_lt (Nat.lt_succ_of_lt (Heap.lt_size z))) (copyHeap_old z)
  have zc : s.heap.objs.size ≤ (copyHeap s.heap its).objs.size := Nat.le_of_lt (Nat.lt_of_succ_lt (Heap.lt_size (copyHeap_at s.heap its)))
  refine sorted_of_sort hl (by rw [e.length]; exact hL) (ksk_s1 _ _) (fun _ => ksk_l1 _ _) fun E' => ?_
  rw [ksk_t1]
  refine kn_treeG (ks := bs.map k) (F := F) (s := { s with heap := copyHeap s.heap its }) (fun g kb => hG g (up kb)) hJ (hJ s _ s.toks j0) (fun b z => ⟨Nat.lt_of_lt_of_le (hF b z) zc, Nat.ne_of_lt (Nat.lt_succ_of_lt (hF b z))⟩) (copyHeap_at s.heap its) lb (by rw [e.length]; exact hL) hal hk (bound_map (A := A.in1.in1) hu) (kn_turnsG e fun v x hR hx s₁ j1 kb => one v x hR hx s₁ j1 (up kb)) fun s₁ out c j1 kb hD ko => ⟨rfl, ?_⟩
  exact fin s₁ out c j1 (up kb) hD ((ko.length lb).trans e.length) (keyedOut_each k ko e)
end
/-! ### the lambda handed to sorted -/
open PySem.Spec L2 LamX NdefX
/-- the key (len(x), x) of a tuple of ints -/
abbrev keyP (x : V × List Int) : PyData := .tuple [.int (x.2.length : Nat), .tuple (x.2.map .int)]
/-- sorted(xs, key=lambda y: (len(y), y)): xs tuples of ints -/
def tSLP (K : PySem.W.Frag) (T : List (Addr × Str)) (N : List Str) (js : List Nat) (ta : TA) (tb : TE) : TE := fun σ H Q => ta σ H fun vs H1 => ∃ (a : Addr) (xs : List (V × List Int)), vs = [.ref a] ∧ SqL K H1 a (xs.map Prod.fst) ∧ Tabs T H1 ∧
  (∀ x ∈ xs, ∃ b, x.1 = .ref b ∧ SqT K H1 b (x.2.map V.int)) ∧
  (∀ x ∈ xs, ∀ H0 b, x.1 = .ref b → SqT K H0 b (x.2.map V.int) → tb (startF N [x.1] (js.map (slotAt σ))) H0 fun v H' => ∃ l, v = .ref l ∧ H0 l = none ∧ H' l = some (.tup [.int (x.2.length : Nat), x.1])) ∧
  ∀ H2 p, ExtN H1 H2 → Tabs T H2 → H2 p = none → Q (.ref p) (upd H2 p (.lst ((xs.mergeSort (dataLe false keyP)).map Prod.fst)))
theorem sqT_extN {K : PySem.W.Frag} {H H' : Hp} {a : Addr} {xs : List V} (h : SqT K H a xs) (e : ExtN H H') : SqT K H' a xs := by
  rcases h with (h | ⟨o, h⟩) | h
  · exact .inl (.inl (e _ _ h fun ps z => by cases z))
  · exact .inl (.inr ⟨o, e _ _ h fun ps z => by cases z⟩)
  · exact .inr h
theorem vals_fst {β : Type} : ∀ {xs : List (V × β)} {its : List Value}, Vals (xs.map Prod.fst) its → EachIs (fun (v : Value) (z : V × β) => RelV z.1 v) its xs
  | [], _, .nil => .nil
  | x :: xs, _, .cons r t => .cons r (vals_fst t)
theorem fst_vals {β : Type} : ∀ {xs : List (V × β)} {its : List Value}, EachIs (fun (v : Value) (z : V × β) => RelV z.1 v) its xs → Vals (xs.map Prod.fst) its
  | [], _, .nil => .nil
  | x :: xs, _, .cons r t => .cons r (fst_vals t)
theorem dp_ints {K : PySem.W.Frag} {H : Hp} : ∀ ns : List Int, DpAll K H (ns.map V.int) (ns.map PyData.int)
  | [] => .nil
  | n :: ns => .cons (.int n) (dp_ints ns)
section
variable {X : Cx}
theorem pe_sortLamP {T : List (Addr × Str)} {c P : Addr} {k : Nat} {x y : Str} {e : Expr} {ta : TA} {tb : TE} {params : Arguments} {body : Expr} {scope : Scope} {lpos kpos p pos : Pos} {N fr : List Str} {js : List Nat}
    (hg : Gl X x) (hm : X.mg x = none) (hv : bootBuiltins x = some (.builtin "sorted")) (hA : PA X [e] ta) (TB : TabB X.base X.mg c P) (hcode : X.env.code = .ref c) (hmT : (P, X.env.qual ++ "<lambda>") ∈ T) (huT : ∀ p ∈ T, p.1 = P → p.2 = X.env.qual ++ "<lambda>")
    (hr : Room (k + 3) X.A) (hdef : defaultsOf params X.env = ([], [])) (S : NScope N [y] fr scope) (hfree : ndefB X.env.scope scope fr = true) (hjs : js.map (fun j => X.N[j]?) = fr.map some)
    (hbind : ∀ (q : Str) (cl : List (Str × Addr)) (pm cv ctv u : Value), bindArgs (PySem.W.kla_fn "<lambda>" q params body scope cl pm cv ctv) ⟨[u], []⟩ = pure [(y, u)])
    (hbody : ∀ (A : Around) (outer : List Env) (s : Shared) (H : Hp) (E : XK) (f c' : Addr), Room k (A.deeper (envF (lamF X params scope c') f s.heap.objs.size)) → PE (ncx C8.CX0 X.prog X.w X.K X.mg X.base N (lamF X params scope c') f A outer s H E) body tb)
    (hn : x ≠ "__name__" := by decide) (hdb : (x == ("__debug__" : Str)) = false := by decide)
    (hpl : (backTo pos (starEach [e] X.env)).any (·.1) = false := by rfl) (hsa : backTo pos (starEach [e] X.env) = (false, eval e X.env) :: backTo pos (starEach [] X.env) := by rfl) :
    PE X (.Call (.Name x p) [e] [⟨some "key", .Lambda params body scope lpos, kpos⟩] pos) (tSLP X.K T N js ta tb) := by
  refine ⟨fun pins s σ H Q I h => ?_⟩
  refine wpAny_Call_Name_kw (ld_blt I hg hm hv ?_ hn hdb)
  refine PyProof.Rows.callWith_kw (thn (hA.run pos pins s σ H _ I h) fun us s1 ⟨vs, H1, I1, r1, q1⟩ => ?_) hsa hpl rfl rfl
  obtain ⟨a, xs, rfl, hs, hT, hrow, hk, q⟩ := q1
  obtain rfl := Vals.ref1 r1
  show wpAny _ _ (evalAll ((do let v ← eval (.Lambda params body scope lpos) X.env; standAt pos; pure v) :: [])) _ _ s1
  refine wpAny_evalAll_cons (wpAny_bind (lam_make2 I1 TB hcode hmT huT hT hdef (fun y hy e => (ndef_free hfree y hy e).elim (fun z => I1.ok.has _ (.inl z)) fun z => I1.ok.has _ (.inr z)) fun f c' pm ctv H2 s2 I2 eN T2 hf hfn hfr hco => wpAny_bind (wpAny_standAt (wpAny_pure ?_))))
  refine wpAny_evalAll_nil ?_
  show wpAny _ _ (call (.builtin "sorted") [.ref a] [(Str.ofString "key", .ref f)]) _ _ s2
  have hs2 := sqL_extN hs eN
  obtain ⟨its, rv, hl, hz⟩ := I2.list hs2
  have ev := vals_fst rv
  have hrow2 : ∀ x ∈ xs, ∃ b, x.1 = .ref b ∧ SqT X.K H2 b (x.2.map V.int) := fun x hx => let ⟨b, e, q⟩ := hrow x hx; ⟨b, e, sqT_extN q eN⟩
  have zl : xs.length ≤ sizeLine := by rw [List.length_map] at hz; exact hz
  have cp : Caps X (cloFrom X.env.cells scope.names []) fr js := Caps.made I2.ok (ndef_free hfree) (ndef_fr hfree) hjs
  have hr2 : Room (k + 1) X.A.in1.in1 := (Room.in1 (k := k + 2) hr).in1
  have un := hr.un
  have fl : ∀ b ∈ frs X.stack, ∃ o, s2.heap.get? b = some o ∧ ∀ vs, o.data ≠ .fields vs := fun b z => (I2.env0.funs.mem z).2
  have inv_of : ∀ s₁ : Shared, s₁.os = s2.os ∧ AllBare s₁.gens → KB (frs X.stack) s2.heap s₁.heap → L2.Inv X pins σ H2 s₁ := fun s₁ j1 up => by
    have kg : ∀ b o, H2 b = some o → ∀ u, s2.heap.get? b = some u → s₁.heap.get? b = some u := fun b o q u r => (up b u r).2 fun z => by rw [I2.stkFree b z] at q; cases q
    have u3 : Un (frs X.stack) [] H2 H2 s2.heap s₁.heap := ⟨fun b ob q _ n _ => (up b ob q).2 n, fun b ob q _ _ _ => (up b ob q).1, fun _ _ _ n _ => n, fun b ob q _ => let ⟨sl, r⟩ := (up b ob q).1; ⟨_, r⟩, fun _ _ q => q, fun _ _ _ q => q, fun _ ps q => ⟨#[], by rw [q]; simp⟩⟩
    have k3 : HOk X.prog X.w H2 s₁.heap := fun b o q => (I2.hok b o q).stay (fun d u hd r => hd.elim (fun z => kg d o (by rw [z]; exact q) u r) fun z => kg d _ z u r) (fun _ q => q) fun _ _ q => q
    exact I2.call' j1.1 u3 k3 j1.2 (fun b z => absurd z (by simp))
  refine sorted_key_newG (R := fun (v : Value) (z : V × List Int) => RelV z.1 v) (F := frs X.stack) (G := fun g => ∃ s', s'.heap = g ∧ L2.Inv X pins σ H2 s') keyP (fun g up => ⟨{ s2 with heap := g }, rfl, inv_of _ ⟨rfl, I2.bare⟩ up⟩) (J := fun s' => s'.os = s2.os ∧ AllBare s'.gens) (fun s g tk j => j) ⟨rfl, I2.bare⟩ (fun b z => let ⟨o, q, _⟩ := fl b z; Heap.lt_size q) hl.isList ev (AllAlike.of fun z z' => by simp [keyP, alike, alikeAll, alike_ints]) (Sortable.tuples fun z => ⟨_, _, rfl⟩) zl (fun z _ => ?_) (fun v z hv hz s₁ j1 up => ?_) fun s₁ out ce j1 up hat hlen ho => ?_
  · have e : (keyP z).depth = 2 := by simp [keyP, PyData.depth, PyData.depthAll, depth_ints]
    rw [e]
    omega
  · obtain ⟨br, ez, hbr⟩ := hrow2 z hz
    have kg : ∀ b o, H2 b = some o → ∀ u, s2.heap.get? b = some u → s₁.heap.get? b = some u := fun b o q u r => (up b u r).2 fun z => by rw [I2.stkFree b z] at q; cases q
    have u3 : Un (frs X.stack) [] H2 H2 s2.heap s₁.heap := ⟨fun b ob q _ n _ => (up b ob q).2 n, fun b ob q _ _ _ => (up b ob q).1, fun _ _ _ n _ => n, fun b ob q _ => let ⟨sl, r⟩ := (up b ob q).1; ⟨_, r⟩, fun _ _ q => q, fun _ _ _ q => q, fun _ ps q => ⟨#[], by rw [q]; simp⟩⟩
    have k3 : HOk X.prog X.w H2 s₁.heap := fun b o q => (I2.hok b o q).stay (fun d u hd r => hd.elim (fun z => kg d o (by rw [z]; exact q) u r) fun z => kg d _ z u r) (fun _ q => q) fun _ _ q => q
    have I3 : L2.Inv X pins σ H2 s₁ := I2.call' j1.1 u3 k3 j1.2 (fun b z => absurd z (by simp))
    have e3 := I3.env0
    obtain ⟨H0, hq0, hf0⟩ : ∃ H0 : Hp, SqT X.K H0 br (z.2.map V.int) ∧ ∀ c o, H0 c = some o → H2 c ≠ none ∧ ∃ ob u, o = .frz ob u ∧ s₁.heap.get? c = some ob ∧ ∀ G, ObjOk X.prog X.w G s₁.heap c o := by
      rcases hbr with hR | hK
      · obtain ⟨zl, its, rv, ob, hob, ht⟩ := (hR.ok I3.hok : ObjOk X.prog X.w H2 s₁.heap br (.tup _))
        refine ⟨upd (fun _ => none) br (.frz ob (.tup (z.2.map V.int))), .inl (.inr ⟨ob, upd_same⟩), fun c o hc => ?_⟩
        by_cases e : c = br
        · subst e
          rw [upd_same] at hc
          cases hc
          refine ⟨fun n => ?_, _, _, rfl, hob, fun G => ⟨hob, zl, its, rv, ob, hob, ht⟩⟩
          rcases hR with h | ⟨_, h⟩ <;> rw [n] at h <;> cases h
        · rw [upd_ne e] at hc
          cases hc
      · exact ⟨fun _ => none, .inr hK, fun c o hc => by cases hc⟩
    have h0 : ∀ c, H2 c = none → H0 c = none := fun c n => by
      cases q : H0 c with
      | none => rfl
      | some o => exact absurd n (hf0 c o q).1
    have e4 : Env0 X.prog X.w X.K X.mg X.base X.A.in1.in1 X.stack s₁ H0 := ⟨e3.in1.in1.frames, e3.mod, fun b o q => ⟨(e3.bs b o q).1, h0 _ (e3.bs b o q).2⟩, e3.bsz, e3.funs, fun b hb => h0 _ (e3.frf b hb), fun b o q => let ⟨_, _, _, _, _, k⟩ := hf0 b o q; k _, e3.bare⟩
    have of1 : s₁.heap.get? f = some (PySem.W.kla_obj "<lambda>" (X.env.qual ++ "<lambda>") params body scope (cloFrom X.env.cells scope.names []) pm c' ctv) := (up _ _ hf).2 hfr
    obtain ⟨⟨oc, us', tc, hoc, hdc, hvc⟩, _, _⟩ := I3.hok c' _ hco
    have C3 := cells_of I3 cp
    have rc : codeAny (model X.prog X.w) X.A.in1.in1 (.call (.ref f) ⟨[v], []⟩) (CR C8.CX0 X.stack X.prog X.w H0 s₁ (fun v H' => ∃ l, v = .ref l ∧ H0 l = none ∧ H' l = some (.tup [.int (z.2.length : Nat), z.1])) C8.E0) s₁ := by
      refine PySem.W.kla_callFunE hr2.depth of1 rfl S.co S.gen rfl ⟨c', oc, us', tc, rfl, hoc, hdc, hvc⟩ ?_
      rw [hbind]
      refine wpAny_pure (wpAny_newFunctionEnv S.nocell (fun yy hy => by
        rw [List.mem_singleton] at hy
        rw [hy]
        exact S.par y List.mem_cons_self) (fun h₁ hns hsb => ⟨I3.nolimit.fresh _ hsb, ?_⟩) S.kind)
      show codeAny _ _ (.expr body (envF (lamF X params scope c') f s₁.heap.objs.size)) _ _
      have kp : ∀ b o, s₁.heap.get? b = some o → h₁.get? b = some o := fun b o e => hsb.extBut b o (Nat.ne_of_lt (Heap.lt_size e)) (Heap.get?_push_of_some _ e)
      have J := inv_startN (CX := C8.CX0) (E := C8.E0) (F := lamF X params scope c') (f := f) (tk := s₁.toks + 1) S hr2.hd e4 (vs := [z.1]) (us := [v]) rfl (.cons hv .nil) ⟨C3.len, fun y c q => ⟨h0 _ (C3.all y c q).1, (C3.all y c q).2⟩, C3.inj, C3.has⟩ hns kp
      refine PySem.W.kla_codeExpr (wpAny_mono ((hbody _ X.stack s₁ _ C8.E0 f c' (hr2.deeper _)).run [] _ _ _ _ J (hk z hz H0 br ez hq0)) (fun v s' hq => ?_) fun e s' hq => hq)
      obtain ⟨w', H', J', rv, q⟩ := hq
      exact ⟨w', H', J'.os, J'.bare, J'.base, J'.hok, rv, q⟩
    refine wpAny_call (codeAny_mono rc fun r s' hq => ?_)
    cases r with
    | error e => exact (show False from hq).elim
    | ok fl =>
      cases fl with
      | next => exact False.elim hq
      | brk => exact False.elim hq
      | cont => exact False.elim hq
      | ret u =>
        obtain ⟨v, H', os, bare, un', hok, rv', l, rfl, hl2, hl'⟩ := hq
        obtain rfl : u = Value.ref l := rv'
        obtain ⟨zl', its', rvl, ob, hob, hcl, n', hdt⟩ := hok l _ hl'
        have hn : s₁.heap.get? l = none := by
          cases q : s₁.heap.get? l with
          | none => rfl
          | some o =>
            have := un'.free l o q hl2 (by simp)
            rw [hl'] at this
            cases this
        refine ⟨⟨os.trans j1.1, bare⟩, fun b o q => ?_, l, _, rfl, hn, fun z => ?_, hob, fun g ⟨sg, eg, Ig⟩ hg => ?_⟩
        · cases q0 : H0 b with
          | none => exact ⟨un'.any q q0 (by simp), fun n => un'.keep b o q q0 n (by simp)⟩
          | some u =>
            obtain ⟨_, ob', u', rfl, hg, _⟩ := hf0 b u q0
            have hb' : s'.heap.get? b = some ob' := (hok b _ (un'.frzs b _ _ q0)).1
            rw [hg] at q
            cases q
            exact ⟨⟨o.slots, hb'⟩, fun _ => hb'⟩
        · obtain ⟨o, q, _⟩ := (e3.funs.mem z).2
          rw [hn] at q
          cases q
        · subst eg
          cases rvl with
          | cons r1 rt =>
            cases rt with
            | cons r2 rt2 =>
              cases rt2
              obtain ⟨t1, rfl⟩ := r1
              rw [ez] at r2
              obtain ⟨as, rd⟩ := Dp.reads Ig (.tuple (z.2.map .int)) (.ref br) _ (.tup hbr (dp_ints _)) r2
              exact ⟨_, Reads.tuple hg hcl hdt (by simpa using ReadsAll.cons (Reads.int _ _) (ReadsAll.cons rd ReadsAll.nil))⟩
  · have nP : H2 (s2.heap.objs.size + 1) = none := I2.hok.fresh (Nat.le_succ _)
    have kg : ∀ b o, H2 b = some o → ∀ u, s2.heap.get? b = some u → s₁.heap.get? b = some u := fun b o q u r => (up b u r).2 fun z => by rw [I2.stkFree b z] at q; cases q
    have at_ : ∀ b o, H2 b = some o → upd H2 (s2.heap.objs.size + 1) (.lst ((xs.mergeSort (dataLe false keyP)).map Prod.fst)) b = some o := fun b o q => by rw [upd_ne (ne_of_none q nP)]; exact q
    have u3 : Un (frs X.stack) [] H2 (upd H2 (s2.heap.objs.size + 1) (.lst ((xs.mergeSort (dataLe false keyP)).map Prod.fst))) s2.heap s₁.heap :=
      ⟨fun b ob q _ n _ => (up b ob q).2 n, fun b ob q _ _ _ => (up b ob q).1, fun b ob q n _ => by rw [upd_ne (Nat.ne_of_lt (Nat.lt_succ_of_lt (Heap.lt_size q)))]; exact n, fun b ob q _ => let ⟨sl, r⟩ := (up b ob q).1; ⟨_, r⟩, fun _ _ q => at_ _ _ q, fun _ _ _ q => at_ _ _ q, fun b ps q => ⟨#[], by rw [at_ _ _ q]; simp⟩⟩
    have k3 : HOk X.prog X.w (upd H2 (s2.heap.objs.size + 1) (.lst ((xs.mergeSort (dataLe false keyP)).map Prod.fst))) s₁.heap := fun b o q => by
      by_cases hb : b = s2.heap.objs.size + 1
      · rw [hb, upd_same] at q
        cases q
        rw [hb]
        exact ⟨by rw [List.length_map, ← ho.length, hlen]; exact zl, out, ce, fst_vals ho, hat⟩
      · rw [upd_ne hb] at q
        exact (I2.hok b o q).stay (fun d u hd r => hd.elim (fun z => kg d o (by rw [z]; exact q) u r) fun z => kg d _ z u r) (fun _ q => at_ _ _ q) fun _ _ q => at_ _ _ q
    exact ⟨.ref _, _, I2.call' j1.1 u3 k3 j1.2 (fun b z => absurd z (by simp)), rfl, q _ _ eN T2 nP⟩
end
end ShL
set_option Elab.async false
set_option linter.all false
set_option maxRecDepth 100000
set_option maxHeartbeats 4000000
namespace Sh
open PySem PySem.Spec PySem.W PySem.Calls PySem.SeqAt PyProof.Rows L2
/-! ### sorted of empty tuples -/
theorem call_tuple_lt {prog : Program} {w : World} {A : Around} {s : Shared} {E : Value → Shared → Prop} {Q : Value → Shared → Prop} {l b : Addr} {items items2 : Array Value} {e r : Nat → Bool} (hl : s.heap.IsTuple l items) (hb : s.heap.IsTuple b items2)
    (he : ∀ j (h1 : j < items.size) (h2 : j < items2.size), EqAt A.in1 s items[j] items2[j] (e j)) (hr : ∀ j (h1 : j < items.size) (h2 : j < items2.size), e j = false → RcLt A.in1 s items[j] items2[j] (r j))
    (h : Q (.bool (firstLt e r (decide (items.size < items2.size)) (List.range (min items.size items2.size)))) s) : wpAny (model prog w) A (call (.builtin "tuple.__lt__") [.ref l, .ref b]) Q E s := by
  obtain ⟨⟨cls, dd, data, sl⟩, ho, hc, n, hd⟩ := id hl
  obtain ⟨⟨cls2, dd2, data2, sl2⟩, ho2, hc2, n2, hd2⟩ := id hb
  simp only at hc hd hc2 hd2
  subst hc hd hc2 hd2
  exact call_meets F.slot_tuple_lt ⟨_, ho, rfl⟩ F.entry_tuple_lt (F.args_tuple_lt_2 _ _) (tuple_ltAt l b items items2 n n2 dd dd2 sl sl2 e r) ⟨ho, ho2, he, hr, h⟩
section
variable {prog : Program} {w : World} {A : Around} {s : Shared}
theorem reads_empty {a : Addr} (h : s.heap.IsTuple a #[]) : ∃ as, Reads s.heap (.ref a) (.tuple []) as := by
  obtain ⟨o, ho, hc, n, hd⟩ := h
  exact ⟨_, Reads.tuple ho hc hd .nil⟩
theorem kind_empty {vs : List Value} {M : Model} {E : Value → Shared → Prop} {Q : SortKind → Shared → Prop} (h2 : 2 ≤ vs.length) (hT : ∀ v ∈ vs, ∃ a, v = .ref a ∧ s.heap.IsTuple a #[]) (h : Q oneType' s) : wpAny M A (keyKind' vs.toArray) Q E s := by
  obtain ⟨v₁, v₂, rest, rfl⟩ : ∃ v₁ v₂ rest, vs = v₁ :: v₂ :: rest := by
    match vs, h2 with
    | [], h2 => simp at h2
    | [_], h2 => simp at h2
    | v₁ :: v₂ :: rest, _ => exact ⟨v₁, v₂, rest, rfl⟩
  have lk : ∀ v ∈ v₁ :: v₂ :: rest, Looks M s.heap (typeOf v) (.type "tuple") := fun v hv => by
    obtain ⟨a, rfl, ht⟩ := hT v hv
    obtain ⟨as, r⟩ := reads_empty ht
    exact looks_reads r
  rw [keyKind'_eq, List.mapM_toArray, map_eq_pure_bind]
  refine wpAny_bind (wpAny_bind (kas_mapM (r := none) _ (fun v hv Q' hq => ?_) (wpAny_pure ?_)))
  · rw [kas_first_eq]
    refine wpAny_bind ((lk v hv).here ?_)
    rw [if_neg (by simp)]
    obtain ⟨a, rfl, o, ho, hc, n, hd⟩ := hT v hv
    refine wpAny_bind (listItems_at ho hd (wpAny_pure ?_))
    exact hq
  · rw [if_neg (by simp), if_neg (by simp)]
    rw [oneTypeOnly'_eq, List.mapM_toArray, map_eq_pure_bind]
    refine wpAny_bind (wpAny_bind (wpAny_bind (kas_mapM (r := .type "tuple") _ (fun v hv Q' hq => (lk v hv).here hq) (wpAny_pure ?_))))
    have hall : ((List.map (fun _ => Value.type "tuple") (v₁ :: v₂ :: rest)).toArray.all fun x => x == Value.type "tuple") = true := by
      simp only [List.all_toArray, List.all_map, List.all_eq_true]
      intro _ _
      exact beq_self_eq_true _
    have h0 : (List.map (fun _ => Value.type "tuple") (v₁ :: v₂ :: rest)).toArray[0]? = some (Value.type "tuple") := by simp
    rw [h0]
    simp only [hall, if_true]
    exact wpAny_pure (wpAny_pure h)
theorem sortsAt_empty {vs : List Value} (e : ∀ v ∈ vs, ∃ a, v = .ref a ∧ s.heap.IsTuple a #[]) (hu : A.units + 1 < cLine) : SortsAt prog w A s (dataKind s.heap (vs.map fun _ => .tuple [])) vs := by
  have hal : AllAlike (vs.map fun _ => PyData.tuple []) := AllAlike.of fun _ _ => by simp [alike, alikeAll]
  refine ⟨fun v hv => ?_, oneType', ?_, fun h2 E Q hq => kind_empty h2 e hq⟩
  · obtain ⟨a, rfl, ht⟩ := e v hv
    obtain ⟨as, r⟩ := reads_empty ht
    exact ⟨_, dataKind_some hal (List.mem_map.mpr ⟨_, hv, rfl⟩) r⟩
  · intro E x y a b Q ha hb hq
    obtain ⟨d, as, hd, ra, rfl⟩ := dataKind_inv ha
    obtain ⟨d', as', hd', rb, rfl⟩ := dataKind_inv hb
    obtain ⟨_, _, rfl⟩ := List.mem_map.mp hd
    obtain ⟨_, _, rfl⟩ := List.mem_map.mp hd'
    have hq' : Q (dataLt (.tuple []) (.tuple [])) s := hq
    have e0 : dataLt (.tuple []) (.tuple []) = false := lex_irrefl _
    rw [e0] at hq'
    cases ra with
    | @tuple l o xs n _ _ h1 h2 h3 h4 =>
      cases rb with
      | @tuple l' o' xs' n' _ _ k1 k2 k3 k4 =>
        have n1 : xs = #[] := by
          have := SeqAt.ReadsAll.length _ _ _ h4
          exact Array.eq_empty_of_size_eq_zero (by simpa using this)
        have n2 : xs' = #[] := by
          have := SeqAt.ReadsAll.length _ _ _ k4
          exact Array.eq_empty_of_size_eq_zero (by simpa using this)
        subst n1 n2
        rw [keyLt'_oneType, oneLt'_eq]
        simp only [if_true]
        refine wpAny_bind (wpAny_cRoomFor (by omega) ?_)
        refine wpAny_bind (wpAny_callSpecialIfBound?_slot (T := "tuple") ⟨_, h1, h2⟩ F.slot_tuple_lt (call_tuple_lt (e := fun _ => false) (r := fun _ => false) ⟨_, h1, h2, _, h3⟩ ⟨_, k1, k2, _, k3⟩ (fun j j1 j2 => absurd j1 (by simp)) (fun j j1 j2 => absurd j1 (by simp)) ?_))
        exact wpAny_truthy_bool hq'
end
theorem vals_eachR : ∀ {out : List Value} {xs : List V}, EachIs (fun (v : Value) (z : V) => RelV z v) out xs → Vals xs out
  | _, _, .nil => .nil
  | _, _, .cons r t => .cons r (vals_eachR t)
section
variable {X : Cx}
def rSortedE (K : PySem.W.Frag) : List V → Hp → VK → Prop := fun vs H Q => ∃ (a : Addr) (xs : List V), vs = [V.ref a] ∧ SqL K H a xs ∧ (∀ x ∈ xs, ∃ b, x = .ref b ∧ SqT K H b []) ∧ ∀ p, H p = none → Q (.ref p) (upd H p (.lst xs))
theorem cr_sortedE (hu : X.A.units + 65 < cLine) : CallR X (.builtin "sorted") (rSortedE X.K) := by
  intro pins s σ H vs us Q I r h
  obtain ⟨a, xs, rfl, hs, hd, q⟩ := h
  obtain ⟨its, rv, hl, hz⟩ := I.list hs
  rw [Vals.ref1 r]
  have zl : its.length ≤ sizeLine := by rw [← Paired.length rv]; exact hz
  have hv : ∀ {ys : List V} {us : List Value}, Vals ys us → (∀ x ∈ ys, ∃ b, x = .ref b ∧ SqT X.K H b []) → (∀ v ∈ us, ∃ b, v = .ref b ∧ s.heap.IsTuple b #[]) ∧ EachIs (fun (v : Value) (z : V) => RelV z v) us ys := fun {ys us} rv => by
    induction rv with
    | nil => exact fun _ => ⟨fun v hv => absurd hv (by simp), .nil⟩
    | cons r t ih =>
      intro h
      obtain ⟨i1, i2⟩ := ih fun x hx => h x (List.mem_cons_of_mem _ hx)
      refine ⟨fun v hv => ?_, .cons r i2⟩
      rcases List.mem_cons.mp hv with rfl | hv
      · obtain ⟨b, rfl, ht⟩ := h _ List.mem_cons_self
        obtain rfl := (show v = Value.ref b from r)
        obtain ⟨its0, rv0, ht0, _⟩ := I.tuple ht
        cases rv0
        exact ⟨b, rfl, let ⟨o, g, c, n, d⟩ := ht0; ⟨o, g, c, n, d⟩⟩
      · exact i1 v hv
  obtain ⟨h1, h2⟩ := hv rv hd
  have hcopy : ∀ v ∈ its, ∃ b, v = .ref b ∧ (sortingHeap (copyHeap s.heap its) (s.heap.objs.size + 1) its).IsTuple b #[] := fun v hm => by
    obtain ⟨b, e, o, g, c, n, d⟩ := h1 v hm
    exact ⟨b, e, o, sorting_copy_old g, c, n, d⟩
  have er : EachIs (fun v b => ∃ as, Reads (sortingHeap (copyHeap s.heap its) (s.heap.objs.size + 1) its) v ((fun _ : V => PyData.tuple []) b) as) its xs := by
    refine EachIs.of_zip h2.length fun p hp => ?_
    obtain ⟨b, e, ht⟩ := hcopy p.1 (List.of_mem_zip hp).1
    rw [e]
    exact reads_empty (s := { s with heap := sortingHeap (copyHeap s.heap its) (s.heap.objs.size + 1) its }) ht
  have hal : AllAlike (xs.map fun _ => PyData.tuple []) := AllAlike.of fun _ _ => by simp [alike, alikeAll]
  have em : its.map (fun _ => PyData.tuple []) = xs.map fun _ => PyData.tuple [] := by
    rw [List.map_const', List.map_const', h2.length]
  have ms : xs.mergeSort (dataLe false fun _ => PyData.tuple []) = xs := List.mergeSort_of_pairwise (List.pairwise_of_forall fun _ _ => by
    simp [dataLe, sortLe, KeyOrd.blt, listOrd, lex_irrefl])
  have sv := sortVals_data false h2 er hal
  rw [ms] at sv
  have S := sortsAt_empty (prog := X.prog) (w := X.w) (A := X.A.in1.in1) (s := { s with heap := sortingHeap (copyHeap s.heap its) (s.heap.objs.size + 1) its }) hcopy (by show X.A.units + 1 + 1 + 1 < cLine; omega)
  rw [em] at S
  refine sorted_vals hl.isList S zl ?_
  have hlen := sv.length
  generalize sortVals _ false its its = out at sv hlen ⊢
  obtain ⟨ep, he'⟩ := PyProof.Rows.sortedAll_at s.heap its out.toArray
  have vo := vals_eachR sv
  refine ⟨.ref _, upd H (s.heap.objs.size + 1) (.lst xs), I.laid (t' := s.toks) (fun _ _ => PyProof.Rows.sortedAll_old) (Nat.le_succ _) ⟨hz, out, ep, vo, he'⟩, rfl, q _ (I.hok.fresh (Nat.le_succ _))⟩
end
end Sh
set_option Elab.async false
set_option linter.all false
set_option maxRecDepth 100000
set_option maxHeartbeats 4000000
namespace Sh
open PySem PySem.Spec PySem.SeqAt PyProof.Rows L2
/-! ### t.index(x): tuples of None, bools, ints, texts in a tuple -/
/-- an item is the key k -/
def KV1 (K : PySem.W.Frag) (H : Hp) (y : V) (k : NestedKey) : Prop := ∃ c, y = V.ref c ∧ KeyAt K H k c
section
variable {X : Cx} {pins : List (Addr × Obj)} {σ : L2.St} {H : Hp} {s : Shared}
theorem kv1_all (I : L2.Inv X pins σ H s) : ∀ {ys : List V} {ks : List NestedKey} {us : List Value}, Paired (KV1 X.K H) ys ks → Vals ys us → NestedAll s.heap ks us
  | _, _, _, .nil, .nil => .nil
  | _, _, _, .cons ⟨c, e, hk⟩ t, .cons r t' => by
    subst e
    cases r
    exact .cons (hk.is I).1 (kv1_all I t t')
def rTIndexN (K : PySem.W.Frag) : V → List V → Hp → VK → Prop := fun x xs H Q => ∃ (a b : Addr) (ys : List V) (ks : List NestedKey) (k : NestedKey), x = .ref a ∧ xs = [.ref b] ∧ SqT K H a ys ∧ Paired (KV1 K H) ys ks ∧ KeyAt K H k b ∧ k ∈ ks ∧ Q (.int (ks.idxOf k : Nat)) H
theorem mt_tindexN (hu : X.A.units + 65 < cLine) : MtR X "tuple.index" (rTIndexN X.K) := by
  intro pins s σ H x xs v us Q I rx rs h
  obtain ⟨a, b, ys, ks, k, rfl, rfl, hq, pk, hb, hm, q⟩ := h
  cases rx
  rw [Vals.ref1 rs]
  obtain ⟨its, r, pl, hz⟩ := I.tuple hq
  have hkb := hb.is I
  refine call_tuple_index (vs := its) (let ⟨o, g, c, n, d⟩ := pl; ⟨o, g, c, n, d⟩) (ItemsEq.nested (kv1_all I pk r) hkb.1 (by have := hkb.2; show X.A.units + 1 + k.depth < cLine; omega)) hm ⟨.int _, H, I.tok _, ⟨_, rfl⟩, q⟩
/-! ### tuples told with their object: what is made of a list, methods of it -/
/-- a tuple, known to its object, which has no dict -/
def TupF (H : Hp) (p : Addr) (xs : List V) : Prop := ∃ o : Obj, H p = some (.frz o (.tup xs)) ∧ o.dict = none
theorem TupF.t {K : PySem.W.Frag} {H : Hp} {p : Addr} {xs : List V} (h : TupF H p xs) : SqT K H p xs := let ⟨o, e, _⟩ := h; .inl (.inr ⟨o, e⟩)
theorem call_tuple_frz : CallR X (.type "tuple") (fun xs H Q => ∃ p ys, xs = [.ref p] ∧ SqL X.K H p ys ∧ ∀ l H', H l = none → (∀ b o, H b = some o → H' b = some o) → TupF H' l ys → (∃ o, H' = upd H l o) → Q (.ref l) H') := by
  intro pins s σ H xs us Q I r h
  obtain ⟨p, ys, rfl, hq, q⟩ := h
  obtain ⟨u, rfl, rx⟩ := vals1 r
  cases rx
  obtain ⟨its, r', pl, hz⟩ := I.list hq
  have hlen := r'.length
  refine call_tuple_list pl.isList (fun h' kp => ?_) (by simp only [List.size_toArray] <;> omega)
  have I1 : L2.Inv X pins σ H { s with heap := h' } := I.kept (t' := s.toks) kp
  have hn := I1.hok.fresh (Nat.le_refl h'.objs.size)
  have I2 : L2.Inv X pins σ (upd H h'.objs.size (.frz { cls := .type "tuple", data := .seq its.toArray } (.tup ys))) { s with heap := h'.push { cls := .type "tuple", data := .seq its.toArray } } :=
    I1.laid (t' := s.toks) (fun b o e => Heap.get?_push_of_some _ e) (Nat.le_refl _) (show ObjOk X.prog X.w _ _ _ (.frz _ (.tup ys)) from ⟨Heap.get?_push_size _ rfl, hz, its, r', IsTup.new _ _⟩)
  exact ⟨.ref h'.objs.size, _, I2, rfl, q _ _ hn (fun b o e => by rw [upd_ne (ne_of_none e hn)]; exact e) ⟨_, upd_same, rfl⟩ ⟨_, rfl⟩⟩
def tBMF (r : V → List V → Hp → VK → Prop) (to : TE) (t : TA) : TE := fun σ H Q => to σ H fun x H1 => (∃ p xs, x = .ref p ∧ TupF H1 p xs) ∧ t σ H1 fun xs H2 => r x xs H2 Q
theorem pe_bmF {o e : Expr} {es : List Expr} {to : TE} {t : TA} {name : Str} {apos cpos : Pos} {id : String} {r : V → List V → Hp → VK → Prop} (slot : Slot "tuple" name id) (hty : typeOf (.builtin id) = pure (.type "method_descriptor")) (hm : MtR X id r) (ho : PE X o to) (ha : PA X (e :: es) t)
    (hbase : attributeBase o name X.env (eval o X.env) = eval o X.env := by rfl)
    (hfew : ((backTo cpos (starEach (e :: es) X.env)).all (fun x => !x.1) && (backToKw cpos (keywordEach [] X.env)).all (fun x => x.1.isSome)
      && decide ((e :: es).length + ([] : List Keyword).length + (if ([] : List Keyword).isEmpty then 0 else 1) < 30)) = true := by rfl)
    (hline : (apos.endLine == cpos.line) = true := by rfl) (hs : starEach (e :: es) X.env = (false, eval e X.env) :: starEach es X.env := by rfl) (hplain : (backTo cpos (starEach es X.env)).any (·.1) = false := by rfl) :
    PE X (.Call (.Attribute o name apos) (e :: es) [] cpos) (tBMF r to t) := by
  refine ⟨fun pins s σ H Q I h => ?_⟩
  refine wpAny_Call_method_late hbase hfew hline rfl (thn (ho.run pins s σ H _ I h) fun v s1 ⟨x, H1, I1, r1, ty, q1⟩ => ?_)
  have hh : s1.TypeIs v "tuple" ∧ ∀ a, v = .ref a → ∃ ob, s1.heap.get? a = some ob ∧ ob.dict = none := by
    obtain ⟨p, xs, rfl, ob, e1, e2⟩ := ty
    obtain rfl : v = Value.ref p := r1
    obtain ⟨g, _, its, _, ob', g', c, _⟩ := (show ObjOk X.prog X.w H1 s1.heap p (.frz ob (.tup xs)) from I1.hok p _ e1)
    rw [g] at g'
    cases g'
    exact ⟨⟨ob, g, c⟩, fun a e => by cases e; exact ⟨ob, g, e2⟩⟩
  obtain ⟨h1, h2⟩ := hh
  refine ⟨"tuple", id, PySem.F.plainAttrs_tuple, slot, hty, h1, h2, ?_⟩
  have hA := ha.run cpos pins s1 σ H1 _ I1 q1
  rw [hs] at hA ⊢
  refine Calls.callWith_builtin (by show (false || (backTo cpos (starEach es X.env)).any (·.1)) = false; rw [hplain] <;> rfl) (Calls.evalArgs_plain ?_)
  exact thn hA fun us s2 ⟨vs, H2, I2, r2, q2⟩ => hm pins s2 σ H2 x vs v us Q I2 r1 r2 q2
end
end Sh


set_option Elab.async false
set_option linter.all false
set_option maxRecDepth 100000
set_option maxHeartbeats 4000000
namespace Toy
open PySem L2 Sh ShL LamX NdefX
def top (i : Nat) : Stmt := PySem.Challenge.pw_treeshed_k17_rows_and_stories.main.body.getD i (.Pass ⟨0, 0, 0, 0⟩)
abbrev s_x_TooMany : Stmt := inClass (top 2) 0
theorem sc_x_TooMany : NdefX.NScope ["self", "what", "many", "most", "__class__"] ["self", "what", "many", "most"] ["__class__"] (defScope s_x_TooMany) := NdefX.nscope_by (by decide +kernel)
abbrev s_is_told : Stmt := top 18
abbrev N_is_told : List Str := ["value"]
theorem sc_is_told : FnScope ["value"] ["value"] (defScope s_is_told) := ⟨rfl, rfl, rfl, by decide +kernel, rfl, by decide +kernel, by decide +kernel⟩
abbrev s_is_small : Stmt := top 19
abbrev N_is_small : List Str := ["value"]
theorem sc_is_small : FnScope ["value"] ["value"] (defScope s_is_small) := ⟨rfl, rfl, rfl, by decide +kernel, rfl, by decide +kernel, by decide +kernel⟩
abbrev s_is_test : Stmt := top 20
abbrev N_is_test : List Str := ["value", "most", "part"]
theorem sc_is_test : FnScope ["value", "most", "part"] ["value", "most"] (defScope s_is_test) := ⟨rfl, rfl, rfl, by decide +kernel, rfl, by decide +kernel, by decide +kernel⟩
abbrev s_is_plain : Stmt := top 21
abbrev N_is_plain : List Str := ["value", "block"]
theorem sc_is_plain : FnScope ["value", "block"] ["value", "block"] (defScope s_is_plain) := ⟨rfl, rfl, rfl, by decide +kernel, rfl, by decide +kernel, by decide +kernel⟩
abbrev s_is_if : Stmt := top 22
abbrev N_is_if : List Str := ["value"]
theorem sc_is_if : FnScope ["value"] ["value"] (defScope s_is_if) := ⟨rfl, rfl, rfl, by decide +kernel, rfl, by decide +kernel, by decide +kernel⟩
abbrev s_looked_over : Stmt := top 23
abbrev N_looked_over : List Str := ["name", "block", "many", "waiting", "statement"]
theorem sc_looked_over : FnScope ["name", "block", "many", "waiting", "statement"] ["name", "block"] (defScope s_looked_over) := ⟨rfl, rfl, rfl, by decide +kernel, rfl, by decide +kernel, by decide +kernel⟩
abbrev s_kept_test : Stmt := top 24
abbrev N_kept_test : List Str := ["test", "part"]
theorem sc_kept_test : FnScope ["test", "part"] ["test"] (defScope s_kept_test) := ⟨rfl, rfl, rfl, by decide +kernel, rfl, by decide +kernel, by decide +kernel⟩
abbrev s_kept_block : Stmt := top 25
abbrev N_kept_block : List Str := ["block", "found", "statement"]
theorem sc_kept_block : FnScope ["block", "found", "statement"] ["block"] (defScope s_kept_block) := ⟨rfl, rfl, rfl, by decide +kernel, rfl, by decide +kernel, by decide +kernel⟩
abbrev s_Routine_init : Stmt := inClass (top 41) 0
abbrev N_Routine_init : List Str := ["self", "down", "turn", "up", "many", "name", "block"]
theorem sc_Routine_init : FnScope ["self", "down", "turn", "up", "many", "name", "block"] ["self", "down", "turn", "up"] (defScope s_Routine_init) := ⟨rfl, rfl, rfl, by decide +kernel, rfl, by decide +kernel, by decide +kernel⟩
abbrev s_is_whole : Stmt := top 45
abbrev N_is_whole : List Str := ["value"]
theorem sc_is_whole : FnScope ["value"] ["value"] (defScope s_is_whole) := ⟨rfl, rfl, rfl, by decide +kernel, rfl, by decide +kernel, by decide +kernel⟩
abbrev s_is_asked_call : Stmt := top 46
abbrev N_is_asked_call : List Str := ["value"]
theorem sc_is_asked_call : FnScope ["value"] ["value"] (defScope s_is_asked_call) := ⟨rfl, rfl, rfl, by decide +kernel, rfl, by decide +kernel, by decide +kernel⟩
abbrev s_checked_calls : Stmt := top 47
abbrev N_checked_calls : List Str := ["calls", "index", "call"]
theorem sc_checked_calls : FnScope ["calls", "index", "call"] ["calls"] (defScope s_checked_calls) := ⟨rfl, rfl, rfl, by decide +kernel, rfl, by decide +kernel, by decide +kernel⟩
abbrev s_checked_script : Stmt := top 48
abbrev N_checked_script : List Str := ["name", "script", "many", "index", "number"]
theorem sc_checked_script : FnScope ["name", "script", "many", "index", "number"] ["name", "script", "many"] (defScope s_checked_script) := ⟨rfl, rfl, rfl, by decide +kernel, rfl, by decide +kernel, by decide +kernel⟩
abbrev s_checked_aspects : Stmt := top 49
abbrev N_checked_aspects : List Str := ["aspects", "index", "aspect"]
theorem sc_checked_aspects : FnScope ["aspects", "index", "aspect"] ["aspects"] (defScope s_checked_aspects) := ⟨rfl, rfl, rfl, by decide +kernel, rfl, by decide +kernel, by decide +kernel⟩
abbrev s_is_kind : Stmt := top 50
abbrev N_is_kind : List Str := ["value"]
theorem sc_is_kind : FnScope ["value"] ["value"] (defScope s_is_kind) := ⟨rfl, rfl, rfl, by decide +kernel, rfl, by decide +kernel, by decide +kernel⟩
abbrev s_checked_where : Stmt := top 51
abbrev N_checked_where : List Str := ["where", "one", "number"]
theorem sc_checked_where : FnScope ["where", "one", "number"] ["where", "one"] (defScope s_checked_where) := ⟨rfl, rfl, rfl, by decide +kernel, rfl, by decide +kernel, by decide +kernel⟩
abbrev s_thinned : Stmt := top 52
abbrev N_thinned : List Str := ["numbers", "rows", "number", "row"]
theorem sc_thinned : FnScope ["numbers", "rows", "number", "row"] ["numbers"] (defScope s_thinned) := ⟨rfl, rfl, rfl, by decide +kernel, rfl, by decide +kernel, by decide +kernel⟩
abbrev s_all_rows : Stmt := top 53
abbrev N_all_rows : List Str := ["calls", "scripts", "words", "rows", "script", "row", "number"]
theorem sc_all_rows : FnScope ["calls", "scripts", "words", "rows", "script", "row", "number"] ["calls", "scripts", "words"] (defScope s_all_rows) := ⟨rfl, rfl, rfl, by decide +kernel, rfl, by decide +kernel, by decide +kernel⟩
abbrev s_all_starts : Stmt := top 54
abbrev N_all_starts : List Str := ["rows", "row", "length"]
theorem sc_all_starts : FnScope ["rows", "row", "length"] ["rows"] (defScope s_all_starts) := ⟨rfl, rfl, rfl, by decide +kernel, rfl, by decide +kernel, by decide +kernel⟩
abbrev s_all_steps : Stmt := top 55
abbrev N_all_steps : List Str := ["rows", "many", "steps", "row", "longer", "number", "other"]
theorem sc_all_steps : FnScope ["rows", "many", "steps", "row", "longer", "number", "other"] ["rows", "many"] (defScope s_all_steps) := ⟨rfl, rfl, rfl, by decide +kernel, rfl, by decide +kernel, by decide +kernel⟩
abbrev s_Question_init : Stmt := inClass (top 56) 0
abbrev N_Question_init : List Str := ["self", "calls", "one", "other", "aspects", "where", "sides", "words", "at", "row"]
theorem sc_Question_init : FnScope ["self", "calls", "one", "other", "aspects", "where", "sides", "words", "at", "row"] ["self", "calls", "one", "other", "aspects", "where"] (defScope s_Question_init) := ⟨rfl, rfl, rfl, by decide +kernel, rfl, by decide +kernel, by decide +kernel⟩
abbrev s_rows_of : Stmt := top 57
abbrev N_rows_of : List Str := ["question", "words"]
theorem sc_rows_of : FnScope ["question", "words"] ["question", "words"] (defScope s_rows_of) := ⟨rfl, rfl, rfl, by decide +kernel, rfl, by decide +kernel, by decide +kernel⟩
abbrev s_stories_of : Stmt := top 58
abbrev N_stories_of : List Str := ["question", "words", "there", "rows", "first", "row"]
theorem sc_stories_of : FnScope ["question", "words", "there", "rows", "first", "row"] ["question", "words", "there"] (defScope s_stories_of) := ⟨rfl, rfl, rfl, by decide +kernel, rfl, by decide +kernel, by decide +kernel⟩
abbrev s_l_pen_of : Stmt := top 60
abbrev N_l_pen_of : List Str := ["_law_script"]
theorem sc_l_pen_of : FnScope ["_law_script"] ["_law_script"] (defScope s_l_pen_of) := ⟨rfl, rfl, rfl, by decide +kernel, rfl, by decide +kernel, by decide +kernel⟩
abbrev s_l_draw : Stmt := top 61
abbrev N_l_draw : List Str := ["_law_pen", "_law_many", "_law_digit", "_law_place", "_law_size", "_law_told", "_law_blend"]
theorem sc_l_draw : FnScope ["_law_pen", "_law_many", "_law_digit", "_law_place", "_law_size", "_law_told", "_law_blend"] ["_law_pen", "_law_many"] (defScope s_l_draw) := ⟨rfl, rfl, rfl, by decide +kernel, rfl, by decide +kernel, by decide +kernel⟩
abbrev s_l_pick : Stmt := top 62
abbrev N_l_pick : List Str := ["_law_pen", "_law_menu"]
theorem sc_l_pick : FnScope ["_law_pen", "_law_menu"] ["_law_pen", "_law_menu"] (defScope s_l_pick) := ⟨rfl, rfl, rfl, by decide +kernel, rfl, by decide +kernel, by decide +kernel⟩
abbrev s_l_usual : Stmt := top 63
abbrev N_l_usual : List Str := ["_law_name", "_law_lacks", "_law_stays", "_law_leave", "_law_make", "_law_keeps", "_law_yes", "_law_no", "_law_alone", "_law_bare", "_law_found", "_law_stop"]
theorem sc_l_usual : FnScope ["_law_name", "_law_lacks", "_law_stays", "_law_leave", "_law_make", "_law_keeps", "_law_yes", "_law_no", "_law_alone", "_law_bare", "_law_found", "_law_stop"] ["_law_name"] (defScope s_l_usual) := ⟨rfl, rfl, rfl, by decide +kernel, rfl, by decide +kernel, by decide +kernel⟩
abbrev s_l_routine : Stmt := top 64
abbrev N_l_routine : List Str := ["_law_blocks"]
theorem sc_l_routine : FnScope ["_law_blocks"] ["_law_blocks"] (defScope s_l_routine) := ⟨rfl, rfl, rfl, by decide +kernel, rfl, by decide +kernel, by decide +kernel⟩
abbrev s_l_scripts : Stmt := top 65
abbrev N_l_scripts : List Str := ["_law_pen", "_law_many", "_law_rows_here", "_law_left_here", "_law_k", "_law_order", "_law_n", "_law_turned", "_law_number"]
theorem sc_l_scripts : FnScope ["_law_pen", "_law_many", "_law_rows_here", "_law_left_here", "_law_k", "_law_order", "_law_n", "_law_turned", "_law_number"] ["_law_pen", "_law_many"] (defScope s_l_scripts) := ⟨rfl, rfl, rfl, by decide +kernel, rfl, by decide +kernel, by decide +kernel⟩
abbrev s_l_left : Stmt := top 66
abbrev N_l_left : List Str := ["_law_script", "_law_calls", "_law_words", "_law_own", "_law_found", "_law_bits", "_law_digits", "_law_number", "_law_k"]
theorem sc_l_left : FnScope ["_law_script", "_law_calls", "_law_words", "_law_own", "_law_found", "_law_bits", "_law_digits", "_law_number", "_law_k"] ["_law_script", "_law_calls", "_law_words"] (defScope s_l_left) := ⟨rfl, rfl, rfl, by decide +kernel, rfl, by decide +kernel, by decide +kernel⟩
abbrev s_l_rows : Stmt := top 67
abbrev N_l_rows : List Str := ["_law_one", "_law_other", "_law_calls", "_law_words", "_law_left_here", "_law_found", "_law_length", "_law_row", "_law_k"]
theorem sc_l_rows : FnScope ["_law_one", "_law_other", "_law_calls", "_law_words", "_law_left_here", "_law_found", "_law_length", "_law_row", "_law_k"] ["_law_one", "_law_other", "_law_calls", "_law_words"] (defScope s_l_rows) := ⟨rfl, rfl, rfl, by decide +kernel, rfl, by decide +kernel, by decide +kernel⟩
abbrev s_law : Stmt := top 68
abbrev N_law : List Str := ["_law_script", "_law_pen", "_law_turn", "_law_many", "_law_blocks", "_law_calls", "_law_one", "_law_other", "_law_made", "_law_question", "_law_words", "_law_due", "_law_found", "_law_there", "_law_old", "_law_k", "_law_part", "_law_which", "_law_value", "_law_row"]
theorem sc_law : FnScope ["_law_script", "_law_pen", "_law_turn", "_law_many", "_law_blocks", "_law_calls", "_law_one", "_law_other", "_law_made", "_law_question", "_law_words", "_law_due", "_law_found", "_law_there", "_law_old", "_law_k", "_law_part", "_law_which", "_law_value", "_law_row"] ["_law_script"] (defScope s_law) := ⟨rfl, rfl, rfl, by decide +kernel, rfl, by decide +kernel, by decide +kernel⟩
structure Tx (P : Program) (w : World) (K : PySem.W.Frag) (mg : Str → Option Value) where
  b_super : mg "super" = none
  c_ShedError : Addr
  m_ShedError : mg "ShedError" = some (.ref c_ShedError)
  iS : (PySem.W.clsIn K c_ShedError).isSome = true
  tS : PySem.W.typeIn K (.ref c_ShedError) = some (.type "type")
  o_get : PySem.W.specialIn K (.builtin "object.__class__") "__get__" = some (some (.builtin "getset_descriptor.__get__"))
  o_tk : PySem.W.takesIn K (.builtin "object.__class__") = some true
  c_TooMany : Addr
  m_TooMany : mg "TooMany" = some (.ref c_TooMany)
  x_TooMany : XCls K c_ShedError c_TooMany
  a_x_TooMany : Addr
  fd_x_TooMany : FuncData
  i_TooMany : XInit P K mg c_TooMany a_x_TooMany "TooMany.__init__" s_x_TooMany fd_x_TooMany
  nf_TooMany_what : PySem.W.findIn K (.ref c_TooMany) "what" = some none
  nf_TooMany_many : PySem.W.findIn K (.ref c_TooMany) "many" = some none
  nf_TooMany_most : PySem.W.findIn K (.ref c_TooMany) "most" = some none
  kb_TooMany_3 : KBn K fd_x_TooMany ["self", "what", "many", "most"] 4 [] rotU rotV
  xnd : [c_TooMany, c_ShedError].Nodup
  b_len : mg "len" = none
  b_isinstance : mg "isinstance" = none
  b_int : mg "int" = none
  b_list : mg "list" = none
  b_sorted : mg "sorted" = none
  b_abs : mg "abs" = none
  b_range : mg "range" = none
  b_tuple : mg "tuple" = none
  b_max : mg "max" = none
  b_min : mg "min" = none
  b_all : mg "all" = none
  b_enumerate : mg "enumerate" = none
  b_str : mg "str" = none
  b_bool : mg "bool" = none
  b_dict : mg "dict" = none
  b_sum : mg "sum" = none
  b_zip : mg "zip" = none
  c_Routine : Addr
  m_Routine : mg "Routine" = some (.ref c_Routine)
  cl_Routine : Cls K c_Routine
  na_Routine_down : NoAttr K c_Routine "down"
  na_Routine_turn : NoAttr K c_Routine "turn"
  na_Routine_up : NoAttr K c_Routine "up"
  c_Question : Addr
  m_Question : mg "Question" = some (.ref c_Question)
  cl_Question : Cls K c_Question
  na_Question_calls : NoAttr K c_Question "calls"
  na_Question_one : NoAttr K c_Question "one"
  na_Question_other : NoAttr K c_Question "other"
  na_Question_aspects : NoAttr K c_Question "aspects"
  na_Question_where : NoAttr K c_Question "where"
  na_Question_row_sets : NoAttr K c_Question "row_sets"
  na_Question_row_steps : NoAttr K c_Question "row_steps"
  na_Question_row_starts : NoAttr K c_Question "row_starts"
  na_Question_row_places : NoAttr K c_Question "row_places"
  m_MOST_TESTS : ∃ t, mg "MOST_TESTS" = some (.int 6 t)
  m_MOST_STATEMENTS : ∃ t, mg "MOST_STATEMENTS" = some (.int 40 t)
  g_BLOCKS : Addr
  m_BLOCKS : mg "BLOCKS" = some (.ref g_BLOCKS)
  y_BLOCKS : ∃ o, K.lookup g_BLOCKS = some o ∧ o.cls = .type "tuple" ∧ o.dict = none
  q_BLOCKS : ∀ H, SqT K H g_BLOCKS [.str "down", .str "turn", .str "up"]
  g_ATOMS : Addr
  m_ATOMS : mg "ATOMS" = some (.ref g_ATOMS)
  y_ATOMS : ∃ o, K.lookup g_ATOMS = some o ∧ o.cls = .type "tuple" ∧ o.dict = none
  q_ATOMS : ∀ H, SqT K H g_ATOMS [.str "mark", .str "own", .str "flag", .str "root", .str "ends", .str "next", .str "true"]
  g_ANSWERS : Addr
  m_ANSWERS : mg "ANSWERS" = some (.ref g_ANSWERS)
  y_ANSWERS : ∃ o, K.lookup g_ANSWERS = some o ∧ o.cls = .type "tuple" ∧ o.dict = none
  q_ANSWERS : ∀ H, SqT K H g_ANSWERS [.str "yes", .str "no", .str "value", .str "node", .str "p"]
  g_ASPECTS : Addr
  m_ASPECTS : mg "ASPECTS" = some (.ref g_ASPECTS)
  y_ASPECTS : ∃ o, K.lookup g_ASPECTS = some o ∧ o.cls = .type "tuple" ∧ o.dict = none
  q_ASPECTS : ∀ H, SqT K H g_ASPECTS [.str "answers", .str "trees", .str "places", .str "shared", .str "cursor", .str "rule"]
  g_KINDS : Addr
  m_KINDS : mg "KINDS" = some (.ref g_KINDS)
  y_KINDS : ∃ o, K.lookup g_KINDS = some o ∧ o.cls = .type "tuple" ∧ o.dict = none
  q_KINDS : ∀ H, SqT K H g_KINDS [.str "yes", .str "no", .str "none", .str "is", .str "at", .str "misuse"]
  g_WHERE : Addr
  m_WHERE : mg "WHERE" = some (.ref g_WHERE)
  es_WHERE : Array DictEntry
  n_WHERE : Nat
  k_WHERE : KDict K w g_WHERE es_WHERE n_WHERE
  g_WHERE_make : Addr
  q_WHERE_make : ∀ H, SqT K H g_WHERE_make [.str "down"]
  kv_WHERE_make : ∃ u, PySem.W.nsIn K g_WHERE "make" = some (some u) ∧ RelV (.ref g_WHERE_make) u
  g_WHERE_cut : Addr
  q_WHERE_cut : ∀ H, SqT K H g_WHERE_cut [.str "turn", .str "up"]
  kv_WHERE_cut : ∃ u, PySem.W.nsIn K g_WHERE "cut" = some (some u) ∧ RelV (.ref g_WHERE_cut) u
  g_WHERE_keep : Addr
  q_WHERE_keep : ∀ H, SqT K H g_WHERE_keep [.str "down", .str "turn"]
  kv_WHERE_keep : ∃ u, PySem.W.nsIn K g_WHERE "keep" = some (some u) ∧ RelV (.ref g_WHERE_keep) u
  g_WHERE_stop : Addr
  q_WHERE_stop : ∀ H, SqT K H g_WHERE_stop [.str "down", .str "up"]
  kv_WHERE_stop : ∃ u, PySem.W.nsIn K g_WHERE "stop" = some (some u) ∧ RelV (.ref g_WHERE_stop) u
  kn_WHERE_flag : PySem.W.nsIn K g_WHERE "flag" = some none
  kn_WHERE_return : PySem.W.nsIn K g_WHERE "return" = some none
  a_is_told : Addr
  fd_is_told : FuncData
  F_is_told : Fun K "is_told" "is_told" s_is_told a_is_told fd_is_told
  bi_is_told : Binds K fd_is_told ["value"] []
  m_is_told : mg "is_told" = some (.ref a_is_told)
  a_is_small : Addr
  fd_is_small : FuncData
  F_is_small : Fun K "is_small" "is_small" s_is_small a_is_small fd_is_small
  bi_is_small : Binds K fd_is_small ["value"] []
  m_is_small : mg "is_small" = some (.ref a_is_small)
  a_is_test : Addr
  fd_is_test : FuncData
  F_is_test : Fun K "is_test" "is_test" s_is_test a_is_test fd_is_test
  bi_is_test : Binds K fd_is_test ["value", "most"] []
  m_is_test : mg "is_test" = some (.ref a_is_test)
  a_is_plain : Addr
  fd_is_plain : FuncData
  F_is_plain : Fun K "is_plain" "is_plain" s_is_plain a_is_plain fd_is_plain
  bi_is_plain : Binds K fd_is_plain ["value", "block"] []
  m_is_plain : mg "is_plain" = some (.ref a_is_plain)
  a_is_if : Addr
  fd_is_if : FuncData
  F_is_if : Fun K "is_if" "is_if" s_is_if a_is_if fd_is_if
  bi_is_if : Binds K fd_is_if ["value"] []
  m_is_if : mg "is_if" = some (.ref a_is_if)
  a_looked_over : Addr
  fd_looked_over : FuncData
  F_looked_over : Fun K "looked_over" "looked_over" s_looked_over a_looked_over fd_looked_over
  bi_looked_over : Binds K fd_looked_over ["name", "block"] []
  m_looked_over : mg "looked_over" = some (.ref a_looked_over)
  a_kept_test : Addr
  fd_kept_test : FuncData
  F_kept_test : Fun K "kept_test" "kept_test" s_kept_test a_kept_test fd_kept_test
  bi_kept_test : Binds K fd_kept_test ["test"] []
  m_kept_test : mg "kept_test" = some (.ref a_kept_test)
  a_kept_block : Addr
  fd_kept_block : FuncData
  F_kept_block : Fun K "kept_block" "kept_block" s_kept_block a_kept_block fd_kept_block
  bi_kept_block : Binds K fd_kept_block ["block"] []
  m_kept_block : mg "kept_block" = some (.ref a_kept_block)
  a_Routine_init : Addr
  fd_Routine_init : FuncData
  F_Routine_init : Fun K "__init__" "Routine.__init__" s_Routine_init a_Routine_init fd_Routine_init
  bi_Routine_init : Binds K fd_Routine_init ["self", "down", "turn", "up"] []
  mk_Routine : Mk K c_Routine a_Routine_init
  a_is_whole : Addr
  fd_is_whole : FuncData
  F_is_whole : Fun K "is_whole" "is_whole" s_is_whole a_is_whole fd_is_whole
  bi_is_whole : Binds K fd_is_whole ["value"] []
  m_is_whole : mg "is_whole" = some (.ref a_is_whole)
  a_is_asked_call : Addr
  fd_is_asked_call : FuncData
  F_is_asked_call : Fun K "is_asked_call" "is_asked_call" s_is_asked_call a_is_asked_call fd_is_asked_call
  bi_is_asked_call : Binds K fd_is_asked_call ["value"] []
  m_is_asked_call : mg "is_asked_call" = some (.ref a_is_asked_call)
  a_checked_calls : Addr
  fd_checked_calls : FuncData
  F_checked_calls : Fun K "checked_calls" "checked_calls" s_checked_calls a_checked_calls fd_checked_calls
  bi_checked_calls : Binds K fd_checked_calls ["calls"] []
  m_checked_calls : mg "checked_calls" = some (.ref a_checked_calls)
  a_checked_script : Addr
  fd_checked_script : FuncData
  F_checked_script : Fun K "checked_script" "checked_script" s_checked_script a_checked_script fd_checked_script
  bi_checked_script : Binds K fd_checked_script ["name", "script", "many"] []
  m_checked_script : mg "checked_script" = some (.ref a_checked_script)
  a_checked_aspects : Addr
  fd_checked_aspects : FuncData
  F_checked_aspects : Fun K "checked_aspects" "checked_aspects" s_checked_aspects a_checked_aspects fd_checked_aspects
  bi_checked_aspects : Binds K fd_checked_aspects ["aspects"] []
  m_checked_aspects : mg "checked_aspects" = some (.ref a_checked_aspects)
  a_is_kind : Addr
  fd_is_kind : FuncData
  F_is_kind : Fun K "is_kind" "is_kind" s_is_kind a_is_kind fd_is_kind
  bi_is_kind : Binds K fd_is_kind ["value"] []
  m_is_kind : mg "is_kind" = some (.ref a_is_kind)
  a_checked_where : Addr
  fd_checked_where : FuncData
  F_checked_where : Fun K "checked_where" "checked_where" s_checked_where a_checked_where fd_checked_where
  bi_checked_where : Binds K fd_checked_where ["where", "one"] []
  m_checked_where : mg "checked_where" = some (.ref a_checked_where)
  a_thinned : Addr
  fd_thinned : FuncData
  F_thinned : Fun K "thinned" "thinned" s_thinned a_thinned fd_thinned
  bi_thinned : Binds K fd_thinned ["numbers"] []
  m_thinned : mg "thinned" = some (.ref a_thinned)
  a_all_rows : Addr
  fd_all_rows : FuncData
  F_all_rows : Fun K "all_rows" "all_rows" s_all_rows a_all_rows fd_all_rows
  bi_all_rows : Binds K fd_all_rows ["calls", "scripts", "words"] []
  m_all_rows : mg "all_rows" = some (.ref a_all_rows)
  a_all_starts : Addr
  fd_all_starts : FuncData
  F_all_starts : Fun K "all_starts" "all_starts" s_all_starts a_all_starts fd_all_starts
  bi_all_starts : Binds K fd_all_starts ["rows"] []
  m_all_starts : mg "all_starts" = some (.ref a_all_starts)
  a_all_steps : Addr
  fd_all_steps : FuncData
  F_all_steps : Fun K "all_steps" "all_steps" s_all_steps a_all_steps fd_all_steps
  bi_all_steps : Binds K fd_all_steps ["rows", "many"] []
  m_all_steps : mg "all_steps" = some (.ref a_all_steps)
  a_Question_init : Addr
  fd_Question_init : FuncData
  F_Question_init : FunD K "__init__" "Question.__init__" (defArgs s_Question_init) (defBody s_Question_init) (defScope s_Question_init) [.non] [] a_Question_init fd_Question_init
  bd1_Question_init : ∃ ds, Vals [.non] ds ∧ Binds K fd_Question_init ["self", "calls", "one", "other", "aspects", "where"] ds
  bi_Question_init : Binds K fd_Question_init ["self", "calls", "one", "other", "aspects", "where"] []
  mk_Question : Mk K c_Question a_Question_init
  a_rows_of : Addr
  fd_rows_of : FuncData
  F_rows_of : Fun K "rows_of" "rows_of" s_rows_of a_rows_of fd_rows_of
  bi_rows_of : Binds K fd_rows_of ["question", "words"] []
  m_rows_of : mg "rows_of" = some (.ref a_rows_of)
  a_stories_of : Addr
  fd_stories_of : FuncData
  F_stories_of : Fun K "stories_of" "stories_of" s_stories_of a_stories_of fd_stories_of
  bi_stories_of : Binds K fd_stories_of ["question", "words", "there"] []
  m_stories_of : mg "stories_of" = some (.ref a_stories_of)
  a_l_pen_of : Addr
  fd_l_pen_of : FuncData
  F_l_pen_of : Fun K "_law_pen_of" "_law_pen_of" s_l_pen_of a_l_pen_of fd_l_pen_of
  bi_l_pen_of : Binds K fd_l_pen_of ["_law_script"] []
  m_l_pen_of : mg "_law_pen_of" = some (.ref a_l_pen_of)
  a_l_draw : Addr
  fd_l_draw : FuncData
  F_l_draw : Fun K "_law_draw" "_law_draw" s_l_draw a_l_draw fd_l_draw
  bi_l_draw : Binds K fd_l_draw ["_law_pen", "_law_many"] []
  m_l_draw : mg "_law_draw" = some (.ref a_l_draw)
  a_l_pick : Addr
  fd_l_pick : FuncData
  F_l_pick : Fun K "_law_pick" "_law_pick" s_l_pick a_l_pick fd_l_pick
  bi_l_pick : Binds K fd_l_pick ["_law_pen", "_law_menu"] []
  m_l_pick : mg "_law_pick" = some (.ref a_l_pick)
  a_l_usual : Addr
  fd_l_usual : FuncData
  F_l_usual : Fun K "_law_usual" "_law_usual" s_l_usual a_l_usual fd_l_usual
  bi_l_usual : Binds K fd_l_usual ["_law_name"] []
  m_l_usual : mg "_law_usual" = some (.ref a_l_usual)
  a_l_routine : Addr
  fd_l_routine : FuncData
  F_l_routine : Fun K "_law_routine" "_law_routine" s_l_routine a_l_routine fd_l_routine
  bi_l_routine : Binds K fd_l_routine ["_law_blocks"] []
  m_l_routine : mg "_law_routine" = some (.ref a_l_routine)
  a_l_scripts : Addr
  fd_l_scripts : FuncData
  F_l_scripts : Fun K "_law_scripts" "_law_scripts" s_l_scripts a_l_scripts fd_l_scripts
  bi_l_scripts : Binds K fd_l_scripts ["_law_pen", "_law_many"] []
  m_l_scripts : mg "_law_scripts" = some (.ref a_l_scripts)
  a_l_left : Addr
  fd_l_left : FuncData
  F_l_left : Fun K "_law_left" "_law_left" s_l_left a_l_left fd_l_left
  bi_l_left : Binds K fd_l_left ["_law_script", "_law_calls", "_law_words"] []
  m_l_left : mg "_law_left" = some (.ref a_l_left)
  a_l_rows : Addr
  fd_l_rows : FuncData
  F_l_rows : Fun K "_law_rows" "_law_rows" s_l_rows a_l_rows fd_l_rows
  bi_l_rows : Binds K fd_l_rows ["_law_one", "_law_other", "_law_calls", "_law_words"] []
  m_l_rows : mg "_law_rows" = some (.ref a_l_rows)
  a_law : Addr
  fd_law : FuncData
  F_law : Fun K "law" "law" s_law a_law fd_law
  bi_law : Binds K fd_law ["_law_script"] []
  m_law : mg "law" = some (.ref a_law)
  ca_Routine : PySem.W.findIn K (.ref c_Routine) "__class__" = some (some (.builtin "object.__class__"))
  ob_Routine : PySem.W.mroIn K c_Routine (.type "object") = some true
  kc_all_rows : Addr
  tb_all_rows : Addr
  ec_all_rows : fd_all_rows.code = .ref kc_all_rows
  tnd : [tb_all_rows].Nodup
section
variable {P : Program} {w : World} {K : PySem.W.Frag} {mg : Str → Option Value}
def tabs (T : Tx P w K mg) : List (Addr × Str) := [(T.tb_all_rows, (PyProof.Rows.envOfC "all_rows" (defScope s_all_rows) 0 0 .none).qual ++ "<lambda>")]
theorem mem_all_rows (T : Tx P w K mg) : (T.tb_all_rows, (PyProof.Rows.envOfC "all_rows" (defScope s_all_rows) 0 0 .none).qual ++ "<lambda>") ∈ tabs T := .head _
theorem uniq_all_rows (T : Tx P w K mg) : ∀ p ∈ tabs T, p.1 = T.tb_all_rows → p.2 = (PyProof.Rows.envOfC "all_rows" (defScope s_all_rows) 0 0 .none).qual ++ "<lambda>" := ShL.tab_uniq (T := tabs T) T.tnd (mem_all_rows T)
structure Bx (T : Tx P w K mg) (base : Heap) : Prop where
  tb_all_rows : LamX.TabB base mg T.kc_all_rows T.tb_all_rows
end
theorem hu65_of {A : Around} {k : Nat} (hr : Room k A) : A.units + 65 < cLine := by have := hr.un; omega
end Toy


set_option Elab.async false
set_option linter.all false
set_option maxRecDepth 100000
set_option maxHeartbeats 4000000
namespace Toy
open PySem L2 Sh ShL LamX NdefX
/-! ### the exceptions are made -/
theorem kp_two {H : Hp} {a dx : Addr} {o1 o2 : HO} (hd : H dx = none) : Kp a H (upd (upd H dx o1) a o2) := fun b o e nb => by
  rw [upd_ne nb, upd_ne (ne_of_none e hd)]
  exact e
theorem kp_more {H H1 : Hp} {a dx : Addr} {o1 : HO} (k : Kp a H H1) (hd : H dx = none) : Kp a H (upd H1 dx o1) := fun b o e nb => by
  rw [upd_ne (ne_of_none e hd)]
  exact k b o e nb
section
variable {P : Program} {w : World} {K : PySem.W.Frag} {mg : Str → Option Value} {base : Heap}
theorem ok_x_TooMany (T : Tx P w K mg) : FnOk P w K mg base CX0 1 T.a_x_TooMany T.fd_x_TooMany ["self", "what", "many", "most"] (spXI T.c_TooMany ["what", "many", "most"]) := by
  obtain ⟨oc, od, kV, doc, pm, an, ct, osl, cc, cda, hfd, lk, hcd, SF⟩ := T.i_TooMany.fn
  rw [hfd] at lk ⊢
  refine fn_super (k := 0) lk hcd sc_x_TooMany rfl SF rfl (fun vs H Q E h => ?_) (fun A outer s H vs Q E hr h => ?_)
  · obtain ⟨a, ws, rfl, hl, _⟩ := h
    rw [List.length_cons, hl]
    rfl
  obtain ⟨a, ws, rfl, hl, ha, q⟩ := h
  match ws, hl, q with
  | [v1, v2, v3], _, q =>
  refine ⟨a, T.c_TooMany, _, _, rfl, ha, T.i_TooMany.sc, (pa_cons (pv 1) (pa_cons (pv 2) (pa_cons (pv 3) pa_nil))), (pss_cons (ps_ost (pv 0) (pv 1)) (pss_cons (ps_ost (pv 0) (pv 2)) (pss_one (ps_ost (pv 0) (pv 3))))), ?_⟩
  refine ⟨_, rfl, _, rfl, _, rfl, by show 3 ≤ 1000; decide, ha, ?_⟩
  refine ⟨_, rfl, _, rfl, a, T.c_TooMany, rfl, T.i_TooMany.m.ox, T.nf_TooMany_what, .inl ⟨ha, fun dx hd hne => ?_⟩⟩
  have ea := (upd_same : upd (upd H dx (exd dx [("what", v1)])) a (exo a T.c_TooMany (some dx)) a = _)
  have ed : upd (upd H dx (exd dx [("what", v1)])) a (exo a T.c_TooMany (some dx)) dx = some (exd dx [("what", v1)]) := by rw [upd_ne hne, upd_same]
  have k0 := (kp_two hd : Kp a H (upd (upd H dx (exd dx [("what", v1)])) a (exo a T.c_TooMany (some dx))))
  generalize upd (upd H dx (exd dx [("what", v1)])) a (exo a T.c_TooMany (some dx)) = H1 at ea ed k0 ⊢
  refine ⟨_, rfl, _, rfl, a, T.c_TooMany, rfl, T.i_TooMany.m.ox, T.nf_TooMany_many, .inr ⟨dx, _, ea, ed, by show 1 ≤ 900; decide, ?_⟩⟩
  have k2 := (kp_more k0 hd : Kp a H (upd H1 dx (exd dx [("many", v2), ("what", v1)])))
  replace ea : upd H1 dx (exd dx [("many", v2), ("what", v1)]) a = some (exo a T.c_TooMany (some dx)) := by rw [upd_ne hne.symm]; exact ea
  replace ed : upd H1 dx (exd dx [("many", v2), ("what", v1)]) dx = some (exd dx [("many", v2), ("what", v1)]) := upd_same
  generalize upd H1 dx (exd dx [("many", v2), ("what", v1)]) = H2 at ea ed k2 ⊢
  refine ⟨_, rfl, _, rfl, a, T.c_TooMany, rfl, T.i_TooMany.m.ox, T.nf_TooMany_most, .inr ⟨dx, _, ea, ed, by show 2 ≤ 900; decide, ?_⟩⟩
  exact q _ dx (kp_more k2 hd) hd hne (by rw [upd_ne hne.symm]; exact ea) upd_same
end
end Toy


set_option Elab.async false
set_option linter.all false
set_option maxRecDepth 100000
set_option maxHeartbeats 4000000
namespace Toy
open PySem L2 Sh ShL LamX NdefX
theorem nil_binds {K : PySem.W.Frag} {fd : FuncData} {ps : List Str} (h : ∃ ds, Vals [] ds ∧ Binds K fd ps ds) : Binds K fd ps [] := by
  obtain ⟨ds, v, b⟩ := h
  cases v
  exact b
abbrev PP : Program := (PySem.Challenge.rw_treeshed_k17_rows_and_stories).prog
def hFa : List He.Fa := [.free "len", .free "isinstance", .free "int", .free "list", .free "sorted", .free "abs", .free "range", .free "tuple", .free "max", .free "min", .free "all", .free "enumerate", .free "str", .free "bool", .free "dict", .free "sum", .free "zip", .free "super", .glo "ShedError", .glo "TooMany", .glo "Routine", .cls "Routine", .noat "Routine" "down", .noat "Routine" "turn", .noat "Routine" "up", .glo "Question", .cls "Question", .noat "Question" "calls", .noat "Question" "one", .noat "Question" "other", .noat "Question" "aspects", .noat "Question" "where", .noat "Question" "row_sets", .noat "Question" "row_steps", .noat "Question" "row_starts", .noat "Question" "row_places", .glo "BLOCKS", .glo "ATOMS", .glo "ANSWERS", .int "MOST_TESTS" 6, .int "MOST_STATEMENTS" 40, .glo "ASPECTS", .glo "KINDS", .glo "WHERE", .glo "is_told", .glo "is_small", .glo "is_test", .glo "is_plain", .glo "is_if", .glo "looked_over", .glo "kept_test", .glo "kept_block", .mkr "Routine", .glo "is_whole", .glo "is_asked_call", .glo "checked_calls", .glo "checked_script", .glo "checked_aspects", .glo "is_kind", .glo "checked_where", .glo "thinned", .glo "all_rows", .glo "all_starts", .glo "all_steps", .mkr "Question", .glo "rows_of", .glo "stories_of", .glo "_law_pen_of", .glo "_law_draw", .glo "_law_pick", .glo "_law_usual", .glo "_law_routine", .glo "_law_scripts", .glo "_law_left", .glo "_law_rows", .glo "law"]
def hFn : List He.DefD := [⟨("is_told", none), "is_told", "is_told", defArgs s_is_told, defBody s_is_told, defScope s_is_told, [], []⟩, ⟨("is_small", none), "is_small", "is_small", defArgs s_is_small, defBody s_is_small, defScope s_is_small, [], []⟩, ⟨("is_test", none), "is_test", "is_test", defArgs s_is_test, defBody s_is_test, defScope s_is_test, [], []⟩, ⟨("is_plain", none), "is_plain", "is_plain", defArgs s_is_plain, defBody s_is_plain, defScope s_is_plain, [], []⟩, ⟨("is_if", none), "is_if", "is_if", defArgs s_is_if, defBody s_is_if, defScope s_is_if, [], []⟩, ⟨("looked_over", none), "looked_over", "looked_over", defArgs s_looked_over, defBody s_looked_over, defScope s_looked_over, [], []⟩, ⟨("kept_test", none), "kept_test", "kept_test", defArgs s_kept_test, defBody s_kept_test, defScope s_kept_test, [], []⟩, ⟨("kept_block", none), "kept_block", "kept_block", defArgs s_kept_block, defBody s_kept_block, defScope s_kept_block, [], []⟩, ⟨("Routine", some "__init__"), "__init__", "Routine.__init__", defArgs s_Routine_init, defBody s_Routine_init, defScope s_Routine_init, [], []⟩, ⟨("is_whole", none), "is_whole", "is_whole", defArgs s_is_whole, defBody s_is_whole, defScope s_is_whole, [], []⟩, ⟨("is_asked_call", none), "is_asked_call", "is_asked_call", defArgs s_is_asked_call, defBody s_is_asked_call, defScope s_is_asked_call, [], []⟩, ⟨("checked_calls", none), "checked_calls", "checked_calls", defArgs s_checked_calls, defBody s_checked_calls, defScope s_checked_calls, [], []⟩, ⟨("checked_script", none), "checked_script", "checked_script", defArgs s_checked_script, defBody s_checked_script, defScope s_checked_script, [], []⟩, ⟨("checked_aspects", none), "checked_aspects", "checked_aspects", defArgs s_checked_aspects, defBody s_checked_aspects, defScope s_checked_aspects, [], []⟩, ⟨("is_kind", none), "is_kind", "is_kind", defArgs s_is_kind, defBody s_is_kind, defScope s_is_kind, [], []⟩, ⟨("checked_where", none), "checked_where", "checked_where", defArgs s_checked_where, defBody s_checked_where, defScope s_checked_where, [], []⟩, ⟨("thinned", none), "thinned", "thinned", defArgs s_thinned, defBody s_thinned, defScope s_thinned, [], []⟩, ⟨("all_rows", none), "all_rows", "all_rows", defArgs s_all_rows, defBody s_all_rows, defScope s_all_rows, [], []⟩, ⟨("all_starts", none), "all_starts", "all_starts", defArgs s_all_starts, defBody s_all_starts, defScope s_all_starts, [], []⟩, ⟨("all_steps", none), "all_steps", "all_steps", defArgs s_all_steps, defBody s_all_steps, defScope s_all_steps, [], []⟩, ⟨("Question", some "__init__"), "__init__", "Question.__init__", defArgs s_Question_init, defBody s_Question_init, defScope s_Question_init, [.non], []⟩, ⟨("rows_of", none), "rows_of", "rows_of", defArgs s_rows_of, defBody s_rows_of, defScope s_rows_of, [], []⟩, ⟨("stories_of", none), "stories_of", "stories_of", defArgs s_stories_of, defBody s_stories_of, defScope s_stories_of, [], []⟩, ⟨("_law_pen_of", none), "_law_pen_of", "_law_pen_of", defArgs s_l_pen_of, defBody s_l_pen_of, defScope s_l_pen_of, [], []⟩, ⟨("_law_draw", none), "_law_draw", "_law_draw", defArgs s_l_draw, defBody s_l_draw, defScope s_l_draw, [], []⟩, ⟨("_law_pick", none), "_law_pick", "_law_pick", defArgs s_l_pick, defBody s_l_pick, defScope s_l_pick, [], []⟩, ⟨("_law_usual", none), "_law_usual", "_law_usual", defArgs s_l_usual, defBody s_l_usual, defScope s_l_usual, [], []⟩, ⟨("_law_routine", none), "_law_routine", "_law_routine", defArgs s_l_routine, defBody s_l_routine, defScope s_l_routine, [], []⟩, ⟨("_law_scripts", none), "_law_scripts", "_law_scripts", defArgs s_l_scripts, defBody s_l_scripts, defScope s_l_scripts, [], []⟩, ⟨("_law_left", none), "_law_left", "_law_left", defArgs s_l_left, defBody s_l_left, defScope s_l_left, [], []⟩, ⟨("_law_rows", none), "_law_rows", "_law_rows", defArgs s_l_rows, defBody s_l_rows, defScope s_l_rows, [], []⟩, ⟨("law", none), "law", "law", defArgs s_law, defBody s_law, defScope s_law, [], []⟩]
def hEx : List (PySem.W.Frag → Bool) := [fun K => (PySem.W.clsIn K (He.ga K "ShedError")).isSome,
  fun K => decide (PySem.W.typeIn K (.ref (He.ga K "ShedError")) = some (.type "type")),
  fun K => decide (PySem.W.specialIn K (.builtin "object.__class__") "__get__" = some (some (.builtin "getset_descriptor.__get__"))),
  fun K => decide (PySem.W.takesIn K (.builtin "object.__class__") = some true),
  fun K => xclsB K (He.ga K "ShedError") (He.ga K "TooMany"),
  fun K => xinitB PP.main.file K (He.ga K "TooMany") (He.ma K (He.ga K "TooMany") "__init__") "TooMany.__init__",
  fun K => decide (PySem.W.nsIn K cStatics "thirdparty.any" = some none),
  fun K => decide (PySem.W.findIn K (.ref (He.ga K "TooMany")) "what" = some none),
  fun K => decide (PySem.W.findIn K (.ref (He.ga K "TooMany")) "many" = some none),
  fun K => decide (PySem.W.findIn K (.ref (He.ga K "TooMany")) "most" = some none),
  fun K => decide ([He.ga K "TooMany", He.ga K "ShedError"].Nodup),
  fun K => Sh.tupB K (He.ga K "BLOCKS") [.str "down", .str "turn", .str "up"],
  fun K => Sh.tupB K (He.ga K "ATOMS") [.str "mark", .str "own", .str "flag", .str "root", .str "ends", .str "next", .str "true"],
  fun K => Sh.tupB K (He.ga K "ANSWERS") [.str "yes", .str "no", .str "value", .str "node", .str "p"],
  fun K => Sh.tupB K (He.ga K "ASPECTS") [.str "answers", .str "trees", .str "places", .str "shared", .str "cursor", .str "rule"],
  fun K => Sh.tupB K (He.ga K "KINDS") [.str "yes", .str "no", .str "none", .str "is", .str "at", .str "misuse"],
  fun K => He.valsB K (He.ga K "WHERE") [("make", .adr (fun K => (Sh.dvA K (He.ga K "WHERE") "make"))), ("cut", .adr (fun K => (Sh.dvA K (He.ga K "WHERE") "cut"))), ("keep", .adr (fun K => (Sh.dvA K (He.ga K "WHERE") "keep"))), ("stop", .adr (fun K => (Sh.dvA K (He.ga K "WHERE") "stop")))],
  fun K => Sh.tupB K (Sh.dvA K (He.ga K "WHERE") "make") [.str "down"],
  fun K => Sh.tupB K (Sh.dvA K (He.ga K "WHERE") "cut") [.str "turn", .str "up"],
  fun K => Sh.tupB K (Sh.dvA K (He.ga K "WHERE") "keep") [.str "down", .str "turn"],
  fun K => Sh.tupB K (Sh.dvA K (He.ga K "WHERE") "stop") [.str "down", .str "up"],
  fun K => decide (PySem.W.nsIn K (He.ga K "WHERE") "flag" = some none),
  fun K => decide (PySem.W.nsIn K (He.ga K "WHERE") "return" = some none),
  fun K => decide (PySem.W.findIn K (.ref (He.ga K "Routine")) "__class__" = some (some (.builtin "object.__class__"))),
  fun K => decide (PySem.W.mroIn K (He.ga K "Routine") (.type "object") = some true),
  fun K => decide ([He.tabOf K (He.codeOf K ("all_rows", none))].Nodup)]
def hXs : List XD := [⟨"TooMany", "TooMany.__init__", s_x_TooMany⟩]
abbrev Says (K : PySem.W.Frag) : Prop := SaysX hFa hFn hEx hXs K
def lawAt : Nat := 68
def loose : List PySem.Str := (["__name__", "ShedError", "TooMany", "BadStatement", "BadText", "BadCall", "BadScript", "BadAspect", "BadWhere", "BLOCKS", "ATOMS", "ANSWERS", "MOST_TESTS", "MOST_STATEMENTS", "INDENT", "WHERE", "TEST_WORDS", "is_told", "is_small", "is_test", "is_plain", "is_if", "looked_over", "kept_test", "kept_block", "test_text", "in_brackets", "plain_text", "lines_of", "if_lines"] : List PySem.Str) ++ (["MOST_SIGNS_OF_NESTING", "plain_lines", "atom_texts", "TestReader", "read_test", "OpenBlock", "BlockReader", "read_blocks", "Routine", "ASPECTS", "KINDS", "is_whole", "is_asked_call", "checked_calls", "checked_script", "checked_aspects", "is_kind", "checked_where", "thinned", "all_rows", "all_starts", "all_steps", "Question", "rows_of", "stories_of", "_law_pen_of", "_law_draw", "_law_pick", "_law_usual", "_law_routine"] : List PySem.Str) ++ (["_law_scripts", "_law_left", "_law_rows"] : List PySem.Str)
theorem IXe_TooMany {K : PySem.W.Frag} {h : Heap} {mg : Str → Option Value} (X : K.In h) (G : h.Ns mainGlobals mg) (c : Says K) : ∃ fd, XInit PP K mg (He.ga K "TooMany") (He.ma K (He.ga K "TooMany") "__init__") "TooMany.__init__" s_x_TooMany fd := (xinit_of (P := PP) (mg := mg) (d := ⟨"TooMany", "TooMany.__init__", s_x_TooMany⟩) (xclsB_ok (c.e 4 (f := fun K => xclsB K (He.ga K "ShedError") (He.ga K "TooMany")) rfl)) (c.x 0 rfl) (c.e 5 (f := fun K => xinitB PP.main.file K (He.ga K "TooMany") (He.ma K (He.ga K "TooMany") "__init__") "TooMany.__init__") rfl) (He.free_ok X G (c.d.fact 17 (f := .free "super") rfl)) (of_decide_eq_true (c.e 6 (f := fun K => decide (PySem.W.nsIn K cStatics "thirdparty.any" = some none)) rfl)) (by decide +kernel) ⟨_, rfl, rfl⟩ (by decide +kernel) (by decide +kernel) (by decide +kernel))
theorem IX_TooMany {K : PySem.W.Frag} {h : Heap} {mg : Str → Option Value} (X : K.In h) (G : h.Ns mainGlobals mg) (c : Says K) : XInit PP K mg (He.ga K "TooMany") (He.ma K (He.ga K "TooMany") "__init__") "TooMany.__init__" s_x_TooMany (IXe_TooMany X G c).choose := (IXe_TooMany X G c).choose_spec
def hTf : List He.Defn := [("all_rows", none)]
def hCm : List CD := []
def hTb : List He.Tab := [((fun K => (He.ga K "WHERE")), ["make", "cut", "keep", "stop"])]
abbrev SaysT (w : World) (h : Heap) (K : PySem.W.Frag) : Prop := SaysXD hFa hFn hEx hXs hTf hCm hTb w h K
noncomputable def tx_of {w : World} {K : PySem.W.Frag} {h : Heap} {mg : Str → Option Value} (X : K.In h) (G : h.Ns mainGlobals mg) (c : SaysT w h K) : Tx PP w K mg where
  b_len := He.free_ok X G (c.t.s.d.fact 0 (f := .free "len") rfl)
  b_isinstance := He.free_ok X G (c.t.s.d.fact 1 (f := .free "isinstance") rfl)
  b_int := He.free_ok X G (c.t.s.d.fact 2 (f := .free "int") rfl)
  b_list := He.free_ok X G (c.t.s.d.fact 3 (f := .free "list") rfl)
  b_sorted := He.free_ok X G (c.t.s.d.fact 4 (f := .free "sorted") rfl)
  b_abs := He.free_ok X G (c.t.s.d.fact 5 (f := .free "abs") rfl)
  b_range := He.free_ok X G (c.t.s.d.fact 6 (f := .free "range") rfl)
  b_tuple := He.free_ok X G (c.t.s.d.fact 7 (f := .free "tuple") rfl)
  b_max := He.free_ok X G (c.t.s.d.fact 8 (f := .free "max") rfl)
  b_min := He.free_ok X G (c.t.s.d.fact 9 (f := .free "min") rfl)
  b_all := He.free_ok X G (c.t.s.d.fact 10 (f := .free "all") rfl)
  b_enumerate := He.free_ok X G (c.t.s.d.fact 11 (f := .free "enumerate") rfl)
  b_str := He.free_ok X G (c.t.s.d.fact 12 (f := .free "str") rfl)
  b_bool := He.free_ok X G (c.t.s.d.fact 13 (f := .free "bool") rfl)
  b_dict := He.free_ok X G (c.t.s.d.fact 14 (f := .free "dict") rfl)
  b_sum := He.free_ok X G (c.t.s.d.fact 15 (f := .free "sum") rfl)
  b_zip := He.free_ok X G (c.t.s.d.fact 16 (f := .free "zip") rfl)
  b_super := He.free_ok X G (c.t.s.d.fact 17 (f := .free "super") rfl)
  c_ShedError := He.ga K "ShedError"
  m_ShedError := He.glo_ok X G (c.t.s.d.fact 18 (f := .glo "ShedError") rfl)
  iS := (c.t.s.e 0 (f := fun K => (PySem.W.clsIn K (He.ga K "ShedError")).isSome) rfl)
  tS := of_decide_eq_true (c.t.s.e 1 (f := fun K => decide (PySem.W.typeIn K (.ref (He.ga K "ShedError")) = some (.type "type"))) rfl)
  o_get := of_decide_eq_true (c.t.s.e 2 (f := fun K => decide (PySem.W.specialIn K (.builtin "object.__class__") "__get__" = some (some (.builtin "getset_descriptor.__get__")))) rfl)
  o_tk := of_decide_eq_true (c.t.s.e 3 (f := fun K => decide (PySem.W.takesIn K (.builtin "object.__class__") = some true)) rfl)
  c_TooMany := He.ga K "TooMany"
  m_TooMany := He.glo_ok X G (c.t.s.d.fact 19 (f := .glo "TooMany") rfl)
  x_TooMany := xclsB_ok (c.t.s.e 4 (f := fun K => xclsB K (He.ga K "ShedError") (He.ga K "TooMany")) rfl)
  a_x_TooMany := He.ma K (He.ga K "TooMany") "__init__"
  fd_x_TooMany := (IXe_TooMany X G c.t.s).choose
  i_TooMany := IX_TooMany X G c.t.s
  nf_TooMany_what := of_decide_eq_true (c.t.s.e 7 (f := fun K => decide (PySem.W.findIn K (.ref (He.ga K "TooMany")) "what" = some none)) rfl)
  nf_TooMany_many := of_decide_eq_true (c.t.s.e 8 (f := fun K => decide (PySem.W.findIn K (.ref (He.ga K "TooMany")) "many" = some none)) rfl)
  nf_TooMany_most := of_decide_eq_true (c.t.s.e 9 (f := fun K => decide (PySem.W.findIn K (.ref (He.ga K "TooMany")) "most" = some none)) rfl)
  kb_TooMany_3 := kbn_x (IX_TooMany X G c.t.s) fun cc kV doc pm an cda ct us ws h1 h2 => match us, ws, h1, h2 with | [_, _, _, _], [], _, _ => rfl
  xnd := of_decide_eq_true (c.t.s.e 10 (f := fun K => decide ([He.ga K "TooMany", He.ga K "ShedError"].Nodup)) rfl)
  c_Routine := He.ga K "Routine"
  m_Routine := He.glo_ok X G (c.t.s.d.fact 20 (f := .glo "Routine") rfl)
  cl_Routine := He.cls_ok (c.t.s.d.fact 21 (f := .cls "Routine") rfl)
  na_Routine_down := He.noat_ok (c.t.s.d.fact 22 (f := .noat "Routine" "down") rfl)
  na_Routine_turn := He.noat_ok (c.t.s.d.fact 23 (f := .noat "Routine" "turn") rfl)
  na_Routine_up := He.noat_ok (c.t.s.d.fact 24 (f := .noat "Routine" "up") rfl)
  c_Question := He.ga K "Question"
  m_Question := He.glo_ok X G (c.t.s.d.fact 25 (f := .glo "Question") rfl)
  cl_Question := He.cls_ok (c.t.s.d.fact 26 (f := .cls "Question") rfl)
  na_Question_calls := He.noat_ok (c.t.s.d.fact 27 (f := .noat "Question" "calls") rfl)
  na_Question_one := He.noat_ok (c.t.s.d.fact 28 (f := .noat "Question" "one") rfl)
  na_Question_other := He.noat_ok (c.t.s.d.fact 29 (f := .noat "Question" "other") rfl)
  na_Question_aspects := He.noat_ok (c.t.s.d.fact 30 (f := .noat "Question" "aspects") rfl)
  na_Question_where := He.noat_ok (c.t.s.d.fact 31 (f := .noat "Question" "where") rfl)
  na_Question_row_sets := He.noat_ok (c.t.s.d.fact 32 (f := .noat "Question" "row_sets") rfl)
  na_Question_row_steps := He.noat_ok (c.t.s.d.fact 33 (f := .noat "Question" "row_steps") rfl)
  na_Question_row_starts := He.noat_ok (c.t.s.d.fact 34 (f := .noat "Question" "row_starts") rfl)
  na_Question_row_places := He.noat_ok (c.t.s.d.fact 35 (f := .noat "Question" "row_places") rfl)
  g_BLOCKS := (He.ga K "BLOCKS")
  m_BLOCKS := He.glo_ok X G (c.t.s.d.fact 36 (f := .glo "BLOCKS") rfl)
  y_BLOCKS := (Sh.tupB_ok (c.t.s.e 11 (f := fun K => Sh.tupB K (He.ga K "BLOCKS") [.str "down", .str "turn", .str "up"]) rfl) (by show 3 ≤ sizeLine; decide)).2
  q_BLOCKS := (Sh.tupB_ok (c.t.s.e 11 (f := fun K => Sh.tupB K (He.ga K "BLOCKS") [.str "down", .str "turn", .str "up"]) rfl) (by show 3 ≤ sizeLine; decide)).1
  g_ATOMS := (He.ga K "ATOMS")
  m_ATOMS := He.glo_ok X G (c.t.s.d.fact 37 (f := .glo "ATOMS") rfl)
  y_ATOMS := (Sh.tupB_ok (c.t.s.e 12 (f := fun K => Sh.tupB K (He.ga K "ATOMS") [.str "mark", .str "own", .str "flag", .str "root", .str "ends", .str "next", .str "true"]) rfl) (by show 7 ≤ sizeLine; decide)).2
  q_ATOMS := (Sh.tupB_ok (c.t.s.e 12 (f := fun K => Sh.tupB K (He.ga K "ATOMS") [.str "mark", .str "own", .str "flag", .str "root", .str "ends", .str "next", .str "true"]) rfl) (by show 7 ≤ sizeLine; decide)).1
  g_ANSWERS := (He.ga K "ANSWERS")
  m_ANSWERS := He.glo_ok X G (c.t.s.d.fact 38 (f := .glo "ANSWERS") rfl)
  y_ANSWERS := (Sh.tupB_ok (c.t.s.e 13 (f := fun K => Sh.tupB K (He.ga K "ANSWERS") [.str "yes", .str "no", .str "value", .str "node", .str "p"]) rfl) (by show 5 ≤ sizeLine; decide)).2
  q_ANSWERS := (Sh.tupB_ok (c.t.s.e 13 (f := fun K => Sh.tupB K (He.ga K "ANSWERS") [.str "yes", .str "no", .str "value", .str "node", .str "p"]) rfl) (by show 5 ≤ sizeLine; decide)).1
  m_MOST_TESTS := He.int_ok X G (c.t.s.d.fact 39 (f := .int "MOST_TESTS" 6) rfl)
  m_MOST_STATEMENTS := He.int_ok X G (c.t.s.d.fact 40 (f := .int "MOST_STATEMENTS" 40) rfl)
  g_ASPECTS := (He.ga K "ASPECTS")
  m_ASPECTS := He.glo_ok X G (c.t.s.d.fact 41 (f := .glo "ASPECTS") rfl)
  y_ASPECTS := (Sh.tupB_ok (c.t.s.e 14 (f := fun K => Sh.tupB K (He.ga K "ASPECTS") [.str "answers", .str "trees", .str "places", .str "shared", .str "cursor", .str "rule"]) rfl) (by show 6 ≤ sizeLine; decide)).2
  q_ASPECTS := (Sh.tupB_ok (c.t.s.e 14 (f := fun K => Sh.tupB K (He.ga K "ASPECTS") [.str "answers", .str "trees", .str "places", .str "shared", .str "cursor", .str "rule"]) rfl) (by show 6 ≤ sizeLine; decide)).1
  g_KINDS := (He.ga K "KINDS")
  m_KINDS := He.glo_ok X G (c.t.s.d.fact 42 (f := .glo "KINDS") rfl)
  y_KINDS := (Sh.tupB_ok (c.t.s.e 15 (f := fun K => Sh.tupB K (He.ga K "KINDS") [.str "yes", .str "no", .str "none", .str "is", .str "at", .str "misuse"]) rfl) (by show 6 ≤ sizeLine; decide)).2
  q_KINDS := (Sh.tupB_ok (c.t.s.e 15 (f := fun K => Sh.tupB K (He.ga K "KINDS") [.str "yes", .str "no", .str "none", .str "is", .str "at", .str "misuse"]) rfl) (by show 6 ≤ sizeLine; decide)).1
  g_WHERE := (He.ga K "WHERE")
  m_WHERE := He.glo_ok X G (c.t.s.d.fact 43 (f := .glo "WHERE") rfl)
  es_WHERE := (c.tab 0 (t := ((fun K => (He.ga K "WHERE")), ["make", "cut", "keep", "stop"])) rfl).choose
  n_WHERE := (c.tab 0 (t := ((fun K => (He.ga K "WHERE")), ["make", "cut", "keep", "stop"])) rfl).choose_spec.choose
  k_WHERE := (c.tab 0 (t := ((fun K => (He.ga K "WHERE")), ["make", "cut", "keep", "stop"])) rfl).choose_spec.choose_spec
  kv_WHERE_make := He.valsB_ok (c.t.s.e 16 (f := fun K => He.valsB K (He.ga K "WHERE") [("make", .adr (fun K => (Sh.dvA K (He.ga K "WHERE") "make"))), ("cut", .adr (fun K => (Sh.dvA K (He.ga K "WHERE") "cut"))), ("keep", .adr (fun K => (Sh.dvA K (He.ga K "WHERE") "keep"))), ("stop", .adr (fun K => (Sh.dvA K (He.ga K "WHERE") "stop")))]) rfl) (.head _)
  g_WHERE_make := (Sh.dvA K (He.ga K "WHERE") "make")
  q_WHERE_make := (Sh.tupB_ok (c.t.s.e 17 (f := fun K => Sh.tupB K (Sh.dvA K (He.ga K "WHERE") "make") [.str "down"]) rfl) (by show 1 ≤ sizeLine; decide)).1
  kv_WHERE_cut := He.valsB_ok (c.t.s.e 16 (f := fun K => He.valsB K (He.ga K "WHERE") [("make", .adr (fun K => (Sh.dvA K (He.ga K "WHERE") "make"))), ("cut", .adr (fun K => (Sh.dvA K (He.ga K "WHERE") "cut"))), ("keep", .adr (fun K => (Sh.dvA K (He.ga K "WHERE") "keep"))), ("stop", .adr (fun K => (Sh.dvA K (He.ga K "WHERE") "stop")))]) rfl) (.tail _ (.head _))
  g_WHERE_cut := (Sh.dvA K (He.ga K "WHERE") "cut")
  q_WHERE_cut := (Sh.tupB_ok (c.t.s.e 18 (f := fun K => Sh.tupB K (Sh.dvA K (He.ga K "WHERE") "cut") [.str "turn", .str "up"]) rfl) (by show 2 ≤ sizeLine; decide)).1
  kv_WHERE_keep := He.valsB_ok (c.t.s.e 16 (f := fun K => He.valsB K (He.ga K "WHERE") [("make", .adr (fun K => (Sh.dvA K (He.ga K "WHERE") "make"))), ("cut", .adr (fun K => (Sh.dvA K (He.ga K "WHERE") "cut"))), ("keep", .adr (fun K => (Sh.dvA K (He.ga K "WHERE") "keep"))), ("stop", .adr (fun K => (Sh.dvA K (He.ga K "WHERE") "stop")))]) rfl) (.tail _ (.tail _ (.head _)))
  g_WHERE_keep := (Sh.dvA K (He.ga K "WHERE") "keep")
  q_WHERE_keep := (Sh.tupB_ok (c.t.s.e 19 (f := fun K => Sh.tupB K (Sh.dvA K (He.ga K "WHERE") "keep") [.str "down", .str "turn"]) rfl) (by show 2 ≤ sizeLine; decide)).1
  kv_WHERE_stop := He.valsB_ok (c.t.s.e 16 (f := fun K => He.valsB K (He.ga K "WHERE") [("make", .adr (fun K => (Sh.dvA K (He.ga K "WHERE") "make"))), ("cut", .adr (fun K => (Sh.dvA K (He.ga K "WHERE") "cut"))), ("keep", .adr (fun K => (Sh.dvA K (He.ga K "WHERE") "keep"))), ("stop", .adr (fun K => (Sh.dvA K (He.ga K "WHERE") "stop")))]) rfl) (.tail _ (.tail _ (.tail _ (.head _))))
  g_WHERE_stop := (Sh.dvA K (He.ga K "WHERE") "stop")
  q_WHERE_stop := (Sh.tupB_ok (c.t.s.e 20 (f := fun K => Sh.tupB K (Sh.dvA K (He.ga K "WHERE") "stop") [.str "down", .str "up"]) rfl) (by show 2 ≤ sizeLine; decide)).1
  kn_WHERE_flag := of_decide_eq_true (c.t.s.e 21 (f := fun K => decide (PySem.W.nsIn K (He.ga K "WHERE") "flag" = some none)) rfl)
  kn_WHERE_return := of_decide_eq_true (c.t.s.e 22 (f := fun K => decide (PySem.W.nsIn K (He.ga K "WHERE") "return" = some none)) rfl)
  a_is_told := (He.ga K "is_told")
  fd_is_told := (c.t.s.d.def_ 0 (d := ⟨("is_told", none), "is_told", "is_told", defArgs s_is_told, defBody s_is_told, defScope s_is_told, [], []⟩) rfl).choose
  F_is_told := fun_of (st := s_is_told) (c.t.s.d.def_ 0 (d := ⟨("is_told", none), "is_told", "is_told", defArgs s_is_told, defBody s_is_told, defScope s_is_told, [], []⟩) rfl).choose_spec
  bi_is_told := (fun_of (st := s_is_told) (c.t.s.d.def_ 0 (d := ⟨("is_told", none), "is_told", "is_told", defArgs s_is_told, defBody s_is_told, defScope s_is_told, [], []⟩) rfl).choose_spec).binds (ps := ["value"]) fun _ _ _ _ _ _ us hl => match us, hl with | [_], _ => rfl
  m_is_told := He.glo_ok X G (c.t.s.d.fact 44 (f := .glo "is_told") rfl)
  a_is_small := (He.ga K "is_small")
  fd_is_small := (c.t.s.d.def_ 1 (d := ⟨("is_small", none), "is_small", "is_small", defArgs s_is_small, defBody s_is_small, defScope s_is_small, [], []⟩) rfl).choose
  F_is_small := fun_of (st := s_is_small) (c.t.s.d.def_ 1 (d := ⟨("is_small", none), "is_small", "is_small", defArgs s_is_small, defBody s_is_small, defScope s_is_small, [], []⟩) rfl).choose_spec
  bi_is_small := (fun_of (st := s_is_small) (c.t.s.d.def_ 1 (d := ⟨("is_small", none), "is_small", "is_small", defArgs s_is_small, defBody s_is_small, defScope s_is_small, [], []⟩) rfl).choose_spec).binds (ps := ["value"]) fun _ _ _ _ _ _ us hl => match us, hl with | [_], _ => rfl
  m_is_small := He.glo_ok X G (c.t.s.d.fact 45 (f := .glo "is_small") rfl)
  a_is_test := (He.ga K "is_test")
  fd_is_test := (c.t.s.d.def_ 2 (d := ⟨("is_test", none), "is_test", "is_test", defArgs s_is_test, defBody s_is_test, defScope s_is_test, [], []⟩) rfl).choose
  F_is_test := fun_of (st := s_is_test) (c.t.s.d.def_ 2 (d := ⟨("is_test", none), "is_test", "is_test", defArgs s_is_test, defBody s_is_test, defScope s_is_test, [], []⟩) rfl).choose_spec
  bi_is_test := (fun_of (st := s_is_test) (c.t.s.d.def_ 2 (d := ⟨("is_test", none), "is_test", "is_test", defArgs s_is_test, defBody s_is_test, defScope s_is_test, [], []⟩) rfl).choose_spec).binds (ps := ["value", "most"]) fun _ _ _ _ _ _ us hl => match us, hl with | [_, _], _ => rfl
  m_is_test := He.glo_ok X G (c.t.s.d.fact 46 (f := .glo "is_test") rfl)
  a_is_plain := (He.ga K "is_plain")
  fd_is_plain := (c.t.s.d.def_ 3 (d := ⟨("is_plain", none), "is_plain", "is_plain", defArgs s_is_plain, defBody s_is_plain, defScope s_is_plain, [], []⟩) rfl).choose
  F_is_plain := fun_of (st := s_is_plain) (c.t.s.d.def_ 3 (d := ⟨("is_plain", none), "is_plain", "is_plain", defArgs s_is_plain, defBody s_is_plain, defScope s_is_plain, [], []⟩) rfl).choose_spec
  bi_is_plain := (fun_of (st := s_is_plain) (c.t.s.d.def_ 3 (d := ⟨("is_plain", none), "is_plain", "is_plain", defArgs s_is_plain, defBody s_is_plain, defScope s_is_plain, [], []⟩) rfl).choose_spec).binds (ps := ["value", "block"]) fun _ _ _ _ _ _ us hl => match us, hl with | [_, _], _ => rfl
  m_is_plain := He.glo_ok X G (c.t.s.d.fact 47 (f := .glo "is_plain") rfl)
  a_is_if := (He.ga K "is_if")
  fd_is_if := (c.t.s.d.def_ 4 (d := ⟨("is_if", none), "is_if", "is_if", defArgs s_is_if, defBody s_is_if, defScope s_is_if, [], []⟩) rfl).choose
  F_is_if := fun_of (st := s_is_if) (c.t.s.d.def_ 4 (d := ⟨("is_if", none), "is_if", "is_if", defArgs s_is_if, defBody s_is_if, defScope s_is_if, [], []⟩) rfl).choose_spec
  bi_is_if := (fun_of (st := s_is_if) (c.t.s.d.def_ 4 (d := ⟨("is_if", none), "is_if", "is_if", defArgs s_is_if, defBody s_is_if, defScope s_is_if, [], []⟩) rfl).choose_spec).binds (ps := ["value"]) fun _ _ _ _ _ _ us hl => match us, hl with | [_], _ => rfl
  m_is_if := He.glo_ok X G (c.t.s.d.fact 48 (f := .glo "is_if") rfl)
  a_looked_over := (He.ga K "looked_over")
  fd_looked_over := (c.t.s.d.def_ 5 (d := ⟨("looked_over", none), "looked_over", "looked_over", defArgs s_looked_over, defBody s_looked_over, defScope s_looked_over, [], []⟩) rfl).choose
  F_looked_over := fun_of (st := s_looked_over) (c.t.s.d.def_ 5 (d := ⟨("looked_over", none), "looked_over", "looked_over", defArgs s_looked_over, defBody s_looked_over, defScope s_looked_over, [], []⟩) rfl).choose_spec
  bi_looked_over := (fun_of (st := s_looked_over) (c.t.s.d.def_ 5 (d := ⟨("looked_over", none), "looked_over", "looked_over", defArgs s_looked_over, defBody s_looked_over, defScope s_looked_over, [], []⟩) rfl).choose_spec).binds (ps := ["name", "block"]) fun _ _ _ _ _ _ us hl => match us, hl with | [_, _], _ => rfl
  m_looked_over := He.glo_ok X G (c.t.s.d.fact 49 (f := .glo "looked_over") rfl)
  a_kept_test := (He.ga K "kept_test")
  fd_kept_test := (c.t.s.d.def_ 6 (d := ⟨("kept_test", none), "kept_test", "kept_test", defArgs s_kept_test, defBody s_kept_test, defScope s_kept_test, [], []⟩) rfl).choose
  F_kept_test := fun_of (st := s_kept_test) (c.t.s.d.def_ 6 (d := ⟨("kept_test", none), "kept_test", "kept_test", defArgs s_kept_test, defBody s_kept_test, defScope s_kept_test, [], []⟩) rfl).choose_spec
  bi_kept_test := (fun_of (st := s_kept_test) (c.t.s.d.def_ 6 (d := ⟨("kept_test", none), "kept_test", "kept_test", defArgs s_kept_test, defBody s_kept_test, defScope s_kept_test, [], []⟩) rfl).choose_spec).binds (ps := ["test"]) fun _ _ _ _ _ _ us hl => match us, hl with | [_], _ => rfl
  m_kept_test := He.glo_ok X G (c.t.s.d.fact 50 (f := .glo "kept_test") rfl)
  a_kept_block := (He.ga K "kept_block")
  fd_kept_block := (c.t.s.d.def_ 7 (d := ⟨("kept_block", none), "kept_block", "kept_block", defArgs s_kept_block, defBody s_kept_block, defScope s_kept_block, [], []⟩) rfl).choose
  F_kept_block := fun_of (st := s_kept_block) (c.t.s.d.def_ 7 (d := ⟨("kept_block", none), "kept_block", "kept_block", defArgs s_kept_block, defBody s_kept_block, defScope s_kept_block, [], []⟩) rfl).choose_spec
  bi_kept_block := (fun_of (st := s_kept_block) (c.t.s.d.def_ 7 (d := ⟨("kept_block", none), "kept_block", "kept_block", defArgs s_kept_block, defBody s_kept_block, defScope s_kept_block, [], []⟩) rfl).choose_spec).binds (ps := ["block"]) fun _ _ _ _ _ _ us hl => match us, hl with | [_], _ => rfl
  m_kept_block := He.glo_ok X G (c.t.s.d.fact 51 (f := .glo "kept_block") rfl)
  a_Routine_init := (He.ma K (He.ga K "Routine") "__init__")
  fd_Routine_init := (c.t.s.d.def_ 8 (d := ⟨("Routine", some "__init__"), "__init__", "Routine.__init__", defArgs s_Routine_init, defBody s_Routine_init, defScope s_Routine_init, [], []⟩) rfl).choose
  F_Routine_init := fun_of (st := s_Routine_init) (c.t.s.d.def_ 8 (d := ⟨("Routine", some "__init__"), "__init__", "Routine.__init__", defArgs s_Routine_init, defBody s_Routine_init, defScope s_Routine_init, [], []⟩) rfl).choose_spec
  bi_Routine_init := (fun_of (st := s_Routine_init) (c.t.s.d.def_ 8 (d := ⟨("Routine", some "__init__"), "__init__", "Routine.__init__", defArgs s_Routine_init, defBody s_Routine_init, defScope s_Routine_init, [], []⟩) rfl).choose_spec).binds (ps := ["self", "down", "turn", "up"]) fun _ _ _ _ _ _ us hl => match us, hl with | [_, _, _, _], _ => rfl
  mk_Routine := He.mkr_ok (c.t.s.d.fact 52 (f := .mkr "Routine") rfl)
  a_is_whole := (He.ga K "is_whole")
  fd_is_whole := (c.t.s.d.def_ 9 (d := ⟨("is_whole", none), "is_whole", "is_whole", defArgs s_is_whole, defBody s_is_whole, defScope s_is_whole, [], []⟩) rfl).choose
  F_is_whole := fun_of (st := s_is_whole) (c.t.s.d.def_ 9 (d := ⟨("is_whole", none), "is_whole", "is_whole", defArgs s_is_whole, defBody s_is_whole, defScope s_is_whole, [], []⟩) rfl).choose_spec
  bi_is_whole := (fun_of (st := s_is_whole) (c.t.s.d.def_ 9 (d := ⟨("is_whole", none), "is_whole", "is_whole", defArgs s_is_whole, defBody s_is_whole, defScope s_is_whole, [], []⟩) rfl).choose_spec).binds (ps := ["value"]) fun _ _ _ _ _ _ us hl => match us, hl with | [_], _ => rfl
  m_is_whole := He.glo_ok X G (c.t.s.d.fact 53 (f := .glo "is_whole") rfl)
  a_is_asked_call := (He.ga K "is_asked_call")
  fd_is_asked_call := (c.t.s.d.def_ 10 (d := ⟨("is_asked_call", none), "is_asked_call", "is_asked_call", defArgs s_is_asked_call, defBody s_is_asked_call, defScope s_is_asked_call, [], []⟩) rfl).choose
  F_is_asked_call := fun_of (st := s_is_asked_call) (c.t.s.d.def_ 10 (d := ⟨("is_asked_call", none), "is_asked_call", "is_asked_call", defArgs s_is_asked_call, defBody s_is_asked_call, defScope s_is_asked_call, [], []⟩) rfl).choose_spec
  bi_is_asked_call := (fun_of (st := s_is_asked_call) (c.t.s.d.def_ 10 (d := ⟨("is_asked_call", none), "is_asked_call", "is_asked_call", defArgs s_is_asked_call, defBody s_is_asked_call, defScope s_is_asked_call, [], []⟩) rfl).choose_spec).binds (ps := ["value"]) fun _ _ _ _ _ _ us hl => match us, hl with | [_], _ => rfl
  m_is_asked_call := He.glo_ok X G (c.t.s.d.fact 54 (f := .glo "is_asked_call") rfl)
  a_checked_calls := (He.ga K "checked_calls")
  fd_checked_calls := (c.t.s.d.def_ 11 (d := ⟨("checked_calls", none), "checked_calls", "checked_calls", defArgs s_checked_calls, defBody s_checked_calls, defScope s_checked_calls, [], []⟩) rfl).choose
  F_checked_calls := fun_of (st := s_checked_calls) (c.t.s.d.def_ 11 (d := ⟨("checked_calls", none), "checked_calls", "checked_calls", defArgs s_checked_calls, defBody s_checked_calls, defScope s_checked_calls, [], []⟩) rfl).choose_spec
  bi_checked_calls := (fun_of (st := s_checked_calls) (c.t.s.d.def_ 11 (d := ⟨("checked_calls", none), "checked_calls", "checked_calls", defArgs s_checked_calls, defBody s_checked_calls, defScope s_checked_calls, [], []⟩) rfl).choose_spec).binds (ps := ["calls"]) fun _ _ _ _ _ _ us hl => match us, hl with | [_], _ => rfl
  m_checked_calls := He.glo_ok X G (c.t.s.d.fact 55 (f := .glo "checked_calls") rfl)
  a_checked_script := (He.ga K "checked_script")
  fd_checked_script := (c.t.s.d.def_ 12 (d := ⟨("checked_script", none), "checked_script", "checked_script", defArgs s_checked_script, defBody s_checked_script, defScope s_checked_script, [], []⟩) rfl).choose
  F_checked_script := fun_of (st := s_checked_script) (c.t.s.d.def_ 12 (d := ⟨("checked_script", none), "checked_script", "checked_script", defArgs s_checked_script, defBody s_checked_script, defScope s_checked_script, [], []⟩) rfl).choose_spec
  bi_checked_script := (fun_of (st := s_checked_script) (c.t.s.d.def_ 12 (d := ⟨("checked_script", none), "checked_script", "checked_script", defArgs s_checked_script, defBody s_checked_script, defScope s_checked_script, [], []⟩) rfl).choose_spec).binds (ps := ["name", "script", "many"]) fun _ _ _ _ _ _ us hl => match us, hl with | [_, _, _], _ => rfl
  m_checked_script := He.glo_ok X G (c.t.s.d.fact 56 (f := .glo "checked_script") rfl)
  a_checked_aspects := (He.ga K "checked_aspects")
  fd_checked_aspects := (c.t.s.d.def_ 13 (d := ⟨("checked_aspects", none), "checked_aspects", "checked_aspects", defArgs s_checked_aspects, defBody s_checked_aspects, defScope s_checked_aspects, [], []⟩) rfl).choose
  F_checked_aspects := fun_of (st := s_checked_aspects) (c.t.s.d.def_ 13 (d := ⟨("checked_aspects", none), "checked_aspects", "checked_aspects", defArgs s_checked_aspects, defBody s_checked_aspects, defScope s_checked_aspects, [], []⟩) rfl).choose_spec
  bi_checked_aspects := (fun_of (st := s_checked_aspects) (c.t.s.d.def_ 13 (d := ⟨("checked_aspects", none), "checked_aspects", "checked_aspects", defArgs s_checked_aspects, defBody s_checked_aspects, defScope s_checked_aspects, [], []⟩) rfl).choose_spec).binds (ps := ["aspects"]) fun _ _ _ _ _ _ us hl => match us, hl with | [_], _ => rfl
  m_checked_aspects := He.glo_ok X G (c.t.s.d.fact 57 (f := .glo "checked_aspects") rfl)
  a_is_kind := (He.ga K "is_kind")
  fd_is_kind := (c.t.s.d.def_ 14 (d := ⟨("is_kind", none), "is_kind", "is_kind", defArgs s_is_kind, defBody s_is_kind, defScope s_is_kind, [], []⟩) rfl).choose
  F_is_kind := fun_of (st := s_is_kind) (c.t.s.d.def_ 14 (d := ⟨("is_kind", none), "is_kind", "is_kind", defArgs s_is_kind, defBody s_is_kind, defScope s_is_kind, [], []⟩) rfl).choose_spec
  bi_is_kind := (fun_of (st := s_is_kind) (c.t.s.d.def_ 14 (d := ⟨("is_kind", none), "is_kind", "is_kind", defArgs s_is_kind, defBody s_is_kind, defScope s_is_kind, [], []⟩) rfl).choose_spec).binds (ps := ["value"]) fun _ _ _ _ _ _ us hl => match us, hl with | [_], _ => rfl
  m_is_kind := He.glo_ok X G (c.t.s.d.fact 58 (f := .glo "is_kind") rfl)
  a_checked_where := (He.ga K "checked_where")
  fd_checked_where := (c.t.s.d.def_ 15 (d := ⟨("checked_where", none), "checked_where", "checked_where", defArgs s_checked_where, defBody s_checked_where, defScope s_checked_where, [], []⟩) rfl).choose
  F_checked_where := fun_of (st := s_checked_where) (c.t.s.d.def_ 15 (d := ⟨("checked_where", none), "checked_where", "checked_where", defArgs s_checked_where, defBody s_checked_where, defScope s_checked_where, [], []⟩) rfl).choose_spec
  bi_checked_where := (fun_of (st := s_checked_where) (c.t.s.d.def_ 15 (d := ⟨("checked_where", none), "checked_where", "checked_where", defArgs s_checked_where, defBody s_checked_where, defScope s_checked_where, [], []⟩) rfl).choose_spec).binds (ps := ["where", "one"]) fun _ _ _ _ _ _ us hl => match us, hl with | [_, _], _ => rfl
  m_checked_where := He.glo_ok X G (c.t.s.d.fact 59 (f := .glo "checked_where") rfl)
  a_thinned := (He.ga K "thinned")
  fd_thinned := (c.t.s.d.def_ 16 (d := ⟨("thinned", none), "thinned", "thinned", defArgs s_thinned, defBody s_thinned, defScope s_thinned, [], []⟩) rfl).choose
  F_thinned := fun_of (st := s_thinned) (c.t.s.d.def_ 16 (d := ⟨("thinned", none), "thinned", "thinned", defArgs s_thinned, defBody s_thinned, defScope s_thinned, [], []⟩) rfl).choose_spec
  bi_thinned := (fun_of (st := s_thinned) (c.t.s.d.def_ 16 (d := ⟨("thinned", none), "thinned", "thinned", defArgs s_thinned, defBody s_thinned, defScope s_thinned, [], []⟩) rfl).choose_spec).binds (ps := ["numbers"]) fun _ _ _ _ _ _ us hl => match us, hl with | [_], _ => rfl
  m_thinned := He.glo_ok X G (c.t.s.d.fact 60 (f := .glo "thinned") rfl)
  kc_all_rows := He.codeOf K ("all_rows", none)
  tb_all_rows := He.tabOf K (He.codeOf K ("all_rows", none))
  ec_all_rows := ec_of (p := ("all_rows", none)) (fun_of (st := s_all_rows) (c.t.s.d.def_ 17 (d := ⟨("all_rows", none), "all_rows", "all_rows", defArgs s_all_rows, defBody s_all_rows, defScope s_all_rows, [], []⟩) rfl).choose_spec)
  a_all_rows := (He.ga K "all_rows")
  fd_all_rows := (c.t.s.d.def_ 17 (d := ⟨("all_rows", none), "all_rows", "all_rows", defArgs s_all_rows, defBody s_all_rows, defScope s_all_rows, [], []⟩) rfl).choose
  F_all_rows := fun_of (st := s_all_rows) (c.t.s.d.def_ 17 (d := ⟨("all_rows", none), "all_rows", "all_rows", defArgs s_all_rows, defBody s_all_rows, defScope s_all_rows, [], []⟩) rfl).choose_spec
  bi_all_rows := (fun_of (st := s_all_rows) (c.t.s.d.def_ 17 (d := ⟨("all_rows", none), "all_rows", "all_rows", defArgs s_all_rows, defBody s_all_rows, defScope s_all_rows, [], []⟩) rfl).choose_spec).binds (ps := ["calls", "scripts", "words"]) fun _ _ _ _ _ _ us hl => match us, hl with | [_, _, _], _ => rfl
  m_all_rows := He.glo_ok X G (c.t.s.d.fact 61 (f := .glo "all_rows") rfl)
  a_all_starts := (He.ga K "all_starts")
  fd_all_starts := (c.t.s.d.def_ 18 (d := ⟨("all_starts", none), "all_starts", "all_starts", defArgs s_all_starts, defBody s_all_starts, defScope s_all_starts, [], []⟩) rfl).choose
  F_all_starts := fun_of (st := s_all_starts) (c.t.s.d.def_ 18 (d := ⟨("all_starts", none), "all_starts", "all_starts", defArgs s_all_starts, defBody s_all_starts, defScope s_all_starts, [], []⟩) rfl).choose_spec
  bi_all_starts := (fun_of (st := s_all_starts) (c.t.s.d.def_ 18 (d := ⟨("all_starts", none), "all_starts", "all_starts", defArgs s_all_starts, defBody s_all_starts, defScope s_all_starts, [], []⟩) rfl).choose_spec).binds (ps := ["rows"]) fun _ _ _ _ _ _ us hl => match us, hl with | [_], _ => rfl
  m_all_starts := He.glo_ok X G (c.t.s.d.fact 62 (f := .glo "all_starts") rfl)
  a_all_steps := (He.ga K "all_steps")
  fd_all_steps := (c.t.s.d.def_ 19 (d := ⟨("all_steps", none), "all_steps", "all_steps", defArgs s_all_steps, defBody s_all_steps, defScope s_all_steps, [], []⟩) rfl).choose
  F_all_steps := fun_of (st := s_all_steps) (c.t.s.d.def_ 19 (d := ⟨("all_steps", none), "all_steps", "all_steps", defArgs s_all_steps, defBody s_all_steps, defScope s_all_steps, [], []⟩) rfl).choose_spec
  bi_all_steps := (fun_of (st := s_all_steps) (c.t.s.d.def_ 19 (d := ⟨("all_steps", none), "all_steps", "all_steps", defArgs s_all_steps, defBody s_all_steps, defScope s_all_steps, [], []⟩) rfl).choose_spec).binds (ps := ["rows", "many"]) fun _ _ _ _ _ _ us hl => match us, hl with | [_, _], _ => rfl
  m_all_steps := He.glo_ok X G (c.t.s.d.fact 63 (f := .glo "all_steps") rfl)
  a_Question_init := (He.ma K (He.ga K "Question") "__init__")
  fd_Question_init := (c.t.s.d.def_ 20 (d := ⟨("Question", some "__init__"), "__init__", "Question.__init__", defArgs s_Question_init, defBody s_Question_init, defScope s_Question_init, [.non], []⟩) rfl).choose
  F_Question_init := (c.t.s.d.def_ 20 (d := ⟨("Question", some "__init__"), "__init__", "Question.__init__", defArgs s_Question_init, defBody s_Question_init, defScope s_Question_init, [.non], []⟩) rfl).choose_spec
  bd1_Question_init := ((c.t.s.d.def_ 20 (d := ⟨("Question", some "__init__"), "__init__", "Question.__init__", defArgs s_Question_init, defBody s_Question_init, defScope s_Question_init, [.non], []⟩) rfl).choose_spec).binds1 (ps := ["self", "calls", "one", "other", "aspects", "where"]) 5 0 (fun z => nomatch z) rfl fun T kV doc pm an cdv ct us its h1 h2 => match us, its, h1, h2 with | [_, _, _, _, _], [_], _, _ => ⟨_, rfl, rfl⟩
  bi_Question_init := nil_binds (((c.t.s.d.def_ 20 (d := ⟨("Question", some "__init__"), "__init__", "Question.__init__", defArgs s_Question_init, defBody s_Question_init, defScope s_Question_init, [.non], []⟩) rfl).choose_spec).binds1 (ps := ["self", "calls", "one", "other", "aspects", "where"]) 6 1 (fun z => nomatch z) rfl fun T kV doc pm an cdv ct us its h1 h2 => match us, its, h1, h2 with | [_, _, _, _, _, _], [_], _, _ => ⟨_, rfl, rfl⟩)
  mk_Question := He.mkr_ok (c.t.s.d.fact 64 (f := .mkr "Question") rfl)
  a_rows_of := (He.ga K "rows_of")
  fd_rows_of := (c.t.s.d.def_ 21 (d := ⟨("rows_of", none), "rows_of", "rows_of", defArgs s_rows_of, defBody s_rows_of, defScope s_rows_of, [], []⟩) rfl).choose
  F_rows_of := fun_of (st := s_rows_of) (c.t.s.d.def_ 21 (d := ⟨("rows_of", none), "rows_of", "rows_of", defArgs s_rows_of, defBody s_rows_of, defScope s_rows_of, [], []⟩) rfl).choose_spec
  bi_rows_of := (fun_of (st := s_rows_of) (c.t.s.d.def_ 21 (d := ⟨("rows_of", none), "rows_of", "rows_of", defArgs s_rows_of, defBody s_rows_of, defScope s_rows_of, [], []⟩) rfl).choose_spec).binds (ps := ["question", "words"]) fun _ _ _ _ _ _ us hl => match us, hl with | [_, _], _ => rfl
  m_rows_of := He.glo_ok X G (c.t.s.d.fact 65 (f := .glo "rows_of") rfl)
  a_stories_of := (He.ga K "stories_of")
  fd_stories_of := (c.t.s.d.def_ 22 (d := ⟨("stories_of", none), "stories_of", "stories_of", defArgs s_stories_of, defBody s_stories_of, defScope s_stories_of, [], []⟩) rfl).choose
  F_stories_of := fun_of (st := s_stories_of) (c.t.s.d.def_ 22 (d := ⟨("stories_of", none), "stories_of", "stories_of", defArgs s_stories_of, defBody s_stories_of, defScope s_stories_of, [], []⟩) rfl).choose_spec
  bi_stories_of := (fun_of (st := s_stories_of) (c.t.s.d.def_ 22 (d := ⟨("stories_of", none), "stories_of", "stories_of", defArgs s_stories_of, defBody s_stories_of, defScope s_stories_of, [], []⟩) rfl).choose_spec).binds (ps := ["question", "words", "there"]) fun _ _ _ _ _ _ us hl => match us, hl with | [_, _, _], _ => rfl
  m_stories_of := He.glo_ok X G (c.t.s.d.fact 66 (f := .glo "stories_of") rfl)
  a_l_pen_of := (He.ga K "_law_pen_of")
  fd_l_pen_of := (c.t.s.d.def_ 23 (d := ⟨("_law_pen_of", none), "_law_pen_of", "_law_pen_of", defArgs s_l_pen_of, defBody s_l_pen_of, defScope s_l_pen_of, [], []⟩) rfl).choose
  F_l_pen_of := fun_of (st := s_l_pen_of) (c.t.s.d.def_ 23 (d := ⟨("_law_pen_of", none), "_law_pen_of", "_law_pen_of", defArgs s_l_pen_of, defBody s_l_pen_of, defScope s_l_pen_of, [], []⟩) rfl).choose_spec
  bi_l_pen_of := (fun_of (st := s_l_pen_of) (c.t.s.d.def_ 23 (d := ⟨("_law_pen_of", none), "_law_pen_of", "_law_pen_of", defArgs s_l_pen_of, defBody s_l_pen_of, defScope s_l_pen_of, [], []⟩) rfl).choose_spec).binds (ps := ["_law_script"]) fun _ _ _ _ _ _ us hl => match us, hl with | [_], _ => rfl
  m_l_pen_of := He.glo_ok X G (c.t.s.d.fact 67 (f := .glo "_law_pen_of") rfl)
  a_l_draw := (He.ga K "_law_draw")
  fd_l_draw := (c.t.s.d.def_ 24 (d := ⟨("_law_draw", none), "_law_draw", "_law_draw", defArgs s_l_draw, defBody s_l_draw, defScope s_l_draw, [], []⟩) rfl).choose
  F_l_draw := fun_of (st := s_l_draw) (c.t.s.d.def_ 24 (d := ⟨("_law_draw", none), "_law_draw", "_law_draw", defArgs s_l_draw, defBody s_l_draw, defScope s_l_draw, [], []⟩) rfl).choose_spec
  bi_l_draw := (fun_of (st := s_l_draw) (c.t.s.d.def_ 24 (d := ⟨("_law_draw", none), "_law_draw", "_law_draw", defArgs s_l_draw, defBody s_l_draw, defScope s_l_draw, [], []⟩) rfl).choose_spec).binds (ps := ["_law_pen", "_law_many"]) fun _ _ _ _ _ _ us hl => match us, hl with | [_, _], _ => rfl
  m_l_draw := He.glo_ok X G (c.t.s.d.fact 68 (f := .glo "_law_draw") rfl)
  a_l_pick := (He.ga K "_law_pick")
  fd_l_pick := (c.t.s.d.def_ 25 (d := ⟨("_law_pick", none), "_law_pick", "_law_pick", defArgs s_l_pick, defBody s_l_pick, defScope s_l_pick, [], []⟩) rfl).choose
  F_l_pick := fun_of (st := s_l_pick) (c.t.s.d.def_ 25 (d := ⟨("_law_pick", none), "_law_pick", "_law_pick", defArgs s_l_pick, defBody s_l_pick, defScope s_l_pick, [], []⟩) rfl).choose_spec
  bi_l_pick := (fun_of (st := s_l_pick) (c.t.s.d.def_ 25 (d := ⟨("_law_pick", none), "_law_pick", "_law_pick", defArgs s_l_pick, defBody s_l_pick, defScope s_l_pick, [], []⟩) rfl).choose_spec).binds (ps := ["_law_pen", "_law_menu"]) fun _ _ _ _ _ _ us hl => match us, hl with | [_, _], _ => rfl
  m_l_pick := He.glo_ok X G (c.t.s.d.fact 69 (f := .glo "_law_pick") rfl)
  a_l_usual := (He.ga K "_law_usual")
  fd_l_usual := (c.t.s.d.def_ 26 (d := ⟨("_law_usual", none), "_law_usual", "_law_usual", defArgs s_l_usual, defBody s_l_usual, defScope s_l_usual, [], []⟩) rfl).choose
  F_l_usual := fun_of (st := s_l_usual) (c.t.s.d.def_ 26 (d := ⟨("_law_usual", none), "_law_usual", "_law_usual", defArgs s_l_usual, defBody s_l_usual, defScope s_l_usual, [], []⟩) rfl).choose_spec
  bi_l_usual := (fun_of (st := s_l_usual) (c.t.s.d.def_ 26 (d := ⟨("_law_usual", none), "_law_usual", "_law_usual", defArgs s_l_usual, defBody s_l_usual, defScope s_l_usual, [], []⟩) rfl).choose_spec).binds (ps := ["_law_name"]) fun _ _ _ _ _ _ us hl => match us, hl with | [_], _ => rfl
  m_l_usual := He.glo_ok X G (c.t.s.d.fact 70 (f := .glo "_law_usual") rfl)
  a_l_routine := (He.ga K "_law_routine")
  fd_l_routine := (c.t.s.d.def_ 27 (d := ⟨("_law_routine", none), "_law_routine", "_law_routine", defArgs s_l_routine, defBody s_l_routine, defScope s_l_routine, [], []⟩) rfl).choose
  F_l_routine := fun_of (st := s_l_routine) (c.t.s.d.def_ 27 (d := ⟨("_law_routine", none), "_law_routine", "_law_routine", defArgs s_l_routine, defBody s_l_routine, defScope s_l_routine, [], []⟩) rfl).choose_spec
  bi_l_routine := (fun_of (st := s_l_routine) (c.t.s.d.def_ 27 (d := ⟨("_law_routine", none), "_law_routine", "_law_routine", defArgs s_l_routine, defBody s_l_routine, defScope s_l_routine, [], []⟩) rfl).choose_spec).binds (ps := ["_law_blocks"]) fun _ _ _ _ _ _ us hl => match us, hl with | [_], _ => rfl
  m_l_routine := He.glo_ok X G (c.t.s.d.fact 71 (f := .glo "_law_routine") rfl)
  a_l_scripts := (He.ga K "_law_scripts")
  fd_l_scripts := (c.t.s.d.def_ 28 (d := ⟨("_law_scripts", none), "_law_scripts", "_law_scripts", defArgs s_l_scripts, defBody s_l_scripts, defScope s_l_scripts, [], []⟩) rfl).choose
  F_l_scripts := fun_of (st := s_l_scripts) (c.t.s.d.def_ 28 (d := ⟨("_law_scripts", none), "_law_scripts", "_law_scripts", defArgs s_l_scripts, defBody s_l_scripts, defScope s_l_scripts, [], []⟩) rfl).choose_spec
  bi_l_scripts := (fun_of (st := s_l_scripts) (c.t.s.d.def_ 28 (d := ⟨("_law_scripts", none), "_law_scripts", "_law_scripts", defArgs s_l_scripts, defBody s_l_scripts, defScope s_l_scripts, [], []⟩) rfl).choose_spec).binds (ps := ["_law_pen", "_law_many"]) fun _ _ _ _ _ _ us hl => match us, hl with | [_, _], _ => rfl
  m_l_scripts := He.glo_ok X G (c.t.s.d.fact 72 (f := .glo "_law_scripts") rfl)
  a_l_left := (He.ga K "_law_left")
  fd_l_left := (c.t.s.d.def_ 29 (d := ⟨("_law_left", none), "_law_left", "_law_left", defArgs s_l_left, defBody s_l_left, defScope s_l_left, [], []⟩) rfl).choose
  F_l_left := fun_of (st := s_l_left) (c.t.s.d.def_ 29 (d := ⟨("_law_left", none), "_law_left", "_law_left", defArgs s_l_left, defBody s_l_left, defScope s_l_left, [], []⟩) rfl).choose_spec
  bi_l_left := (fun_of (st := s_l_left) (c.t.s.d.def_ 29 (d := ⟨("_law_left", none), "_law_left", "_law_left", defArgs s_l_left, defBody s_l_left, defScope s_l_left, [], []⟩) rfl).choose_spec).binds (ps := ["_law_script", "_law_calls", "_law_words"]) fun _ _ _ _ _ _ us hl => match us, hl with | [_, _, _], _ => rfl
  m_l_left := He.glo_ok X G (c.t.s.d.fact 73 (f := .glo "_law_left") rfl)
  a_l_rows := (He.ga K "_law_rows")
  fd_l_rows := (c.t.s.d.def_ 30 (d := ⟨("_law_rows", none), "_law_rows", "_law_rows", defArgs s_l_rows, defBody s_l_rows, defScope s_l_rows, [], []⟩) rfl).choose
  F_l_rows := fun_of (st := s_l_rows) (c.t.s.d.def_ 30 (d := ⟨("_law_rows", none), "_law_rows", "_law_rows", defArgs s_l_rows, defBody s_l_rows, defScope s_l_rows, [], []⟩) rfl).choose_spec
  bi_l_rows := (fun_of (st := s_l_rows) (c.t.s.d.def_ 30 (d := ⟨("_law_rows", none), "_law_rows", "_law_rows", defArgs s_l_rows, defBody s_l_rows, defScope s_l_rows, [], []⟩) rfl).choose_spec).binds (ps := ["_law_one", "_law_other", "_law_calls", "_law_words"]) fun _ _ _ _ _ _ us hl => match us, hl with | [_, _, _, _], _ => rfl
  m_l_rows := He.glo_ok X G (c.t.s.d.fact 74 (f := .glo "_law_rows") rfl)
  a_law := (He.ga K "law")
  fd_law := (c.t.s.d.def_ 31 (d := ⟨("law", none), "law", "law", defArgs s_law, defBody s_law, defScope s_law, [], []⟩) rfl).choose
  F_law := fun_of (st := s_law) (c.t.s.d.def_ 31 (d := ⟨("law", none), "law", "law", defArgs s_law, defBody s_law, defScope s_law, [], []⟩) rfl).choose_spec
  bi_law := (fun_of (st := s_law) (c.t.s.d.def_ 31 (d := ⟨("law", none), "law", "law", defArgs s_law, defBody s_law, defScope s_law, [], []⟩) rfl).choose_spec).binds (ps := ["_law_script"]) fun _ _ _ _ _ _ us hl => match us, hl with | [_], _ => rfl
  m_law := He.glo_ok X G (c.t.s.d.fact 75 (f := .glo "law") rfl)
  ca_Routine := of_decide_eq_true (c.t.s.e 23 (f := fun K => decide (PySem.W.findIn K (.ref (He.ga K "Routine")) "__class__" = some (some (.builtin "object.__class__")))) rfl)
  ob_Routine := of_decide_eq_true (c.t.s.e 24 (f := fun K => decide (PySem.W.mroIn K (He.ga K "Routine") (.type "object") = some true)) rfl)
  tnd := of_decide_eq_true (c.t.s.e 25 (f := fun K => decide ([He.tabOf K (He.codeOf K ("all_rows", none))].Nodup)) rfl)
end Toy


set_option Elab.async false
set_option linter.all false
set_option maxRecDepth 100000
set_option maxHeartbeats 4000000
namespace Toy
open PySem L2 Sh ShL LamX NdefX
/-! ### the head: the run of the top, in the kernel -/
abbrev R : PySem.W.OpenRow := PySem.W.OpenLaw.row PySem.Challenge.rw_treeshed_k17_rows_and_stories
def hAs : List Addr := [2, 3, 6, 4, 24, 46, 67, 88, 109, 130, 151, 172, 175, 176, 177, 178, 183, 190, 197, 202, 209, 216, 223, 228, 235, 242, 249, 256, 263, 270, 275, 280, 318, 329, 346, 400, 409, 448, 453, 454, 461, 468, 473, 480, 487, 494, 499, 504, 509, 514, 519, 542, 553, 558, 565, 572, 579, 586, 593, 598, 603, 608, 613, 0, 23, 45, 66, 87, 108, 129, 150, 171, 179, 180, 181, 182, 189, 196, 201, 208, 215, 222, 227, 234, 241, 248, 255, 262, 269, 274, 279, 317, 328, 345, 399, 408, 447, 460, 467, 472, 479, 486, 493, 498, 503, 508, 513, 518, 541, 552, 557, 564, 571, 578, 585, 592, 597, 602, 607, 612, 22, 25, 43, 44, 64, 65, 85, 86, 106, 107, 127, 128, 148, 149, 169, 170, 184, 185, 186, 187, 188, 191, 192, 193, 194, 195, 198, 199, 200, 203, 204, 205, 206, 207, 210, 211, 212, 213, 214, 217, 218, 219, 220, 221, 224, 225, 226, 229, 230, 231, 232, 233, 236, 237, 238, 239, 240, 243, 244, 245, 246, 247, 250, 251, 252, 253, 254, 257, 258, 259, 260, 261, 264, 265, 266, 267, 268, 271, 272, 273, 276, 277, 278, 294, 301, 308, 315, 316, 319, 320, 323, 324, 325, 326, 327, 343, 344, 347, 348, 364, 371, 376, 383, 390, 397, 398, 401, 402, 405, 406, 407, 421, 428, 435, 444, 446, 449, 450, 455, 456, 457, 458, 459, 462, 463, 464, 465, 466, 469, 470, 471, 474, 475, 476, 477, 478, 481, 482, 483, 484, 485, 488, 489, 490, 491, 492, 495, 496, 497, 500, 501, 502, 505, 506, 507, 510, 511, 512, 515, 516, 517, 532, 539, 540, 543, 544, 547, 548, 549, 550, 551, 554, 555, 556, 559, 560, 561, 562, 563, 566, 567, 568, 569, 570, 573, 574, 575, 576, 577, 580, 581, 582, 583, 584, 587, 588, 589, 590, 591, 594, 595, 596, 599, 600, 601, 604, 605, 606, 609, 610, 611, 42, 31, 63, 52, 84, 73, 105, 94, 126, 115, 147, 136, 168, 157, 293, 300, 307, 314, 342, 363, 370, 375, 382, 389, 396, 420, 427, 434, 442, 443, 531, 527, 538, 37, 38, 39, 40, 41, 58, 59, 60, 61, 62, 79, 80, 81, 82, 83, 100, 101, 102, 103, 104, 121, 122, 123, 124, 125, 142, 143, 144, 145, 146, 163, 164, 165, 166, 167, 288, 289, 290, 291, 292, 295, 296, 297, 298, 299, 302, 303, 304, 305, 306, 309, 310, 311, 312, 313, 337, 338, 339, 340, 341, 358, 359, 360, 361, 362, 365, 366, 367, 368, 369, 372, 373, 374, 377, 378, 379, 380, 381, 384, 385, 386, 387, 388, 391, 392, 393, 394, 395, 417, 418, 419, 422, 423, 424, 425, 426, 429, 430, 431, 432, 433, 441, 445, 528, 529, 530, 533, 534, 535, 536, 537, 31, 52, 73, 94, 115, 136, 157]
abbrev hk : PySem.W.Hook := hookXD hAs hFa hFn hEx hXs hTf hCm hTb
def ob (s : PySem.W.SharedT) : AlXD := obsXD hFa hFn hEx hXs hTf hCm hTb hAs (HandSHeadRun.getT s)
theorem ob_eq (s : PySem.W.SharedT) : ob s = hk.obs s.abs := obsXD_eq (HandSHeadRun.getT_eq s)
def wf (b : Bool) (w : World) : World := w.withFollow "special-get-raises" b
section
open HandSHeadRun PySem.W
set_option maxHeartbeats 0 in
theorem run1b (b : Bool) (w : World) (os : OsState) : (endF (stepQ (denQ tabQ) R.prog (wf b w)) 20000 R.prog (wf b w) os).map (fun s => looksF R.prog (boot_heap (wf b w).params) s.abs) = some true := by
  cases b <;> kernel_rfl
theorem run1 (w : World) (os : OsState) : (endF (stepQ (denQ tabQ) R.prog w) 20000 R.prog w os).map (fun s => looksF R.prog (boot_heap w.params) s.abs) = some true := by
  have h := run1b (w.params.followText "special-get-raises") w os
  unfold wf at h
  rw [World.withFollow_self] at h
  exact h
set_option maxHeartbeats 0 in
theorem run2b (b : Bool) (w : World) (os : OsState) : (endF (stepQ (denQ tabQ) R.prog (wf b w)) 20000 R.prog (wf b w) os).map (fun s => seenQ (PySem.W.view R.prog [68]) loose (importedModules R.prog.main.body) (fun s => xlAt (PySem.W.view R.prog [68]) [] s && recOk R.toRowW.records s) s.abs) = some (openGood (PySem.W.view R.prog [68]) loose) := by
  cases b <;> kernel_rfl
theorem run2 (w : World) (os : OsState) : (endF (stepQ (denQ tabQ) R.prog w) 20000 R.prog w os).map (fun s => seenQ (PySem.W.view R.prog [68]) loose (importedModules R.prog.main.body) (fun s => xlAt (PySem.W.view R.prog [68]) [] s && recOk R.toRowW.records s) s.abs) = some (openGood (PySem.W.view R.prog [68]) loose) := by
  have h := run2b (w.params.followText "special-get-raises") w os
  unfold wf at h
  rw [World.withFollow_self] at h
  exact h
set_option maxHeartbeats 0 in
theorem run3b (b : Bool) (w : World) (os : OsState) : (endF (stepQ (denQ tabQ) R.prog (wf b w)) 20000 R.prog (wf b w) os).map (fun s => obsXD hFa hFn hEx hXs hTf hCm hTb hAs (HandSHeadRun.getT s)) = some (valXD hFn hXs hCm hTb (wf b w)) := by
  cases b <;> kernel_rfl
theorem run3 (w : World) (os : OsState) : (endF (stepQ (denQ tabQ) R.prog w) 20000 R.prog w os).map (fun s => obsXD hFa hFn hEx hXs hTf hCm hTb hAs (HandSHeadRun.getT s)) = some (valXD hFn hXs hCm hTb w) := by
  have h := run3b (w.params.followText "special-get-raises") w os
  unfold wf at h
  rw [World.withFollow_self] at h
  exact h
end
theorem run (w : World) : HandSHeadRun.RunEq R (PySem.W.view R.prog [68]) hk ob 20000 loose w := run_partsD (run1 w) (run2 w) (run3 w)
end Toy


set_option Elab.async false
set_option linter.all false
set_option maxRecDepth 100000
set_option maxHeartbeats 4000000
namespace Toy
open PySem L2 Sh ShL LamX NdefX
/-! ### words -/
abbrev Wd := List Nat
def sw (l : Wd) : Str := ⟨l.toArray⟩
theorem sw_list (a : Wd) : (sw a).cps.toList = a := rfl
theorem sw_inj {a b : Wd} (h : sw a = sw b) : a = b := by
  have := congrArg (fun s : Str => s.cps.toList) h
  exact this
theorem sw_of (s : Str) : s = sw s.cps.toList := by
  cases s
  rfl
theorem sw_app (a b : Wd) : sw a ++ sw b = sw (a ++ b) := by
  show (⟨a.toArray ++ b.toArray⟩ : Str) = ⟨(a ++ b).toArray⟩
  simp
theorem sw_one (c : Nat) : (⟨#[c]⟩ : Str) = sw [c] := rfl
theorem sw_len (a : Wd) : (sw a).length = a.length := by
  show a.toArray.size = a.length
  simp
theorem sw_dec (a b : Wd) : decide (V.str (sw a) = V.str (sw b)) = decide (a = b) := by
  apply decide_eq_decide.mpr
  exact ⟨fun h => sw_inj (V.str.inj h), fun h => by rw [h]⟩
theorem cut_init (a : Wd) : cutS (sw a) none (some (-1)) = sw a.dropLast := by
  have e1 : HT.sIx (sw a).length (sw a).length (some (-1)) = (sw a).length - 1 := by
    unfold HT.sIx
    simp
    omega
  unfold cutS
  rw [e1, HT.sIx_none, sw_list, sw_len]
  show (⟨((a.drop 0).take (a.length - 1 - 0)).toArray⟩ : Str) = ⟨a.dropLast.toArray⟩
  rw [List.drop_zero, Nat.sub_zero, List.dropLast_eq_take]
theorem cut_to (a : Wd) (k : Nat) : cutS (sw a) none (some (k : Int)) = sw (a.take k) := by
  unfold cutS
  rw [HT.sIx_nat, HT.sIx_none, sw_list, sw_len]
  show (⟨((a.drop 0).take (min k a.length - 0)).toArray⟩ : Str) = ⟨(a.take k).toArray⟩
  rw [List.drop_zero, Nat.sub_zero]
  by_cases h : k ≤ a.length
  · rw [Nat.min_eq_left h]
  · rw [Nat.min_eq_right (by omega), List.take_of_length_le (Nat.le_refl _), List.take_of_length_le (by omega)]
theorem cut_from (a : Wd) (k : Nat) : cutS (sw a) (some (k : Int)) none = sw (a.drop k) := by
  unfold cutS
  rw [HT.sIx_nat, HT.sIx_none, sw_list, sw_len]
  show (⟨((a.drop (min k a.length)).take (a.length - min k a.length)).toArray⟩ : Str) = ⟨(a.drop k).toArray⟩
  by_cases h : k ≤ a.length
  · rw [Nat.min_eq_left h, List.take_of_length_le (by simp)]
  · rw [Nat.min_eq_right (by omega), List.drop_of_length_le (Nat.le_refl _), List.drop_of_length_le (by omega), List.take_nil]
theorem atW_zero {a : Wd} {c : Nat} (h : a[0]? = some c) : atI (sw a).cps.toList 0 = some c := by
  rw [sw_list]
  unfold atI ixN
  obtain ⟨h1, _⟩ := List.getElem?_eq_some_iff.mp h
  rw [if_pos (Int.le_refl 0), if_pos (by omega)]
  exact h
theorem atW_last {a : Wd} {c : Nat} (h : a.getLast? = some c) : atI (sw a).cps.toList (-1) = some c := by
  rw [sw_list]
  unfold atI ixN
  have h1 : 0 < a.length := by
    cases a with
    | nil => cases h
    | cons x r => simp
  rw [if_neg (by decide), if_pos (by omega)]
  show a[(-1 + (a.length : Int)).toNat]? = some c
  rw [show (-1 + (a.length : Int)).toNat = a.length - 1 by omega, ← List.getLast?_eq_getElem?]
  exact h
/-! ### the order of places -/
def kW (z p : Wd) : List Int := p.map fun c => ((z.idxOf c : Nat) : Int)
def ordW (z : Wd) (ws : List Wd) : List Wd := ws.mergeSort fun p q => decide (kW z p ≤ kW z q)
theorem ordW_perm (z : Wd) (ws : List Wd) : (ordW z ws).Perm ws := List.mergeSort_perm ws _
theorem ordW_mem {z : Wd} {ws : List Wd} {p : Wd} : p ∈ ordW z ws ↔ p ∈ ws := (ordW_perm z ws).mem_iff
theorem ordW_len (z : Wd) (ws : List Wd) : (ordW z ws).length = ws.length := (ordW_perm z ws).length_eq
theorem ordW_nodup {z : Wd} {ws : List Wd} (h : ws.Nodup) : (ordW z ws).Nodup := (ordW_perm z ws).nodup_iff.mpr h
theorem ordW_sorted (z : Wd) (ws : List Wd) : (ordW z ws).Pairwise fun p q => kW z p ≤ kW z q := by
  have := List.pairwise_mergeSort (le := fun p q => decide (kW z p ≤ kW z q)) (fun a b c h1 h2 => decide_eq_true (List.le_trans (of_decide_eq_true h1) (of_decide_eq_true h2)))
    (fun a b => by
      rcases List.le_total (kW z a) (kW z b) with h | h
      · simp [h]
      · simp [h]) ws
  exact this.imp fun h => of_decide_eq_true h
theorem kW_inj {z : Wd} : ∀ {p q : Wd}, (∀ c ∈ p, c ∈ z) → (∀ c ∈ q, c ∈ z) → kW z p = kW z q → p = q
  | [], [], _, _, _ => rfl
  | [], _ :: _, _, _, h => by cases h
  | _ :: _, [], _, _, h => by cases h
  | c :: p, d :: q, h1, h2, h => by
    unfold kW at h
    rw [List.map_cons, List.map_cons, List.cons.injEq] at h
    have e : z.idxOf c = z.idxOf d := Int.ofNat.inj h.1
    have e1 := List.getElem_idxOf (List.idxOf_lt_length_of_mem (h1 c List.mem_cons_self))
    have e2 := List.getElem_idxOf (List.idxOf_lt_length_of_mem (h2 d List.mem_cons_self))
    have e3 : c = d := by
      rw [← e1, ← e2]
      simp only [e]
    rw [e3, kW_inj (fun c h => h1 c (List.mem_cons_of_mem _ h)) (fun c h => h2 c (List.mem_cons_of_mem _ h)) h.2]
theorem ordW_uniq {z : Wd} {ws us : List Wd} (hp : ws.Perm us) (hz : ∀ p ∈ ws, ∀ c ∈ p, c ∈ z) : ordW z ws = ordW z us := by
  refine List.Perm.eq_of_pairwise (le := fun p q => kW z p ≤ kW z q) (fun a b ha hb h1 h2 => ?_) (ordW_sorted z ws) (ordW_sorted z us) (((ordW_perm z ws).trans hp).trans (ordW_perm z us).symm)
  exact kW_inj (hz a (ordW_mem.mp ha)) (hz b (hp.mem_iff.mpr (ordW_mem.mp hb))) (List.le_antisymm h1 h2)
theorem ordW_idem {z : Wd} {ws : List Wd} (hz : ∀ p ∈ ws, ∀ c ∈ p, c ∈ z) : ordW z (ordW z ws) = ordW z ws := ordW_uniq (ordW_perm z ws) fun p h => hz p (ordW_mem.mp h)
theorem ordW_sub {z : Wd} {ws us : List Wd} (hs : us.Sublist (ordW z ws)) (hz : ∀ p ∈ ws, ∀ c ∈ p, c ∈ z) : ordW z us = us := by
  have hm : ∀ p ∈ us, ∀ c ∈ p, c ∈ z := fun p h => hz p (ordW_mem.mp (hs.subset h))
  refine List.Perm.eq_of_pairwise (le := fun p q => kW z p ≤ kW z q) (fun a b ha hb h1 h2 => ?_) (ordW_sorted z us) ((ordW_sorted z ws).sublist hs) (ordW_perm z us)
  exact kW_inj (hm a (ordW_mem.mp ha)) (hm b hb) (List.le_antisymm h1 h2)
theorem ordW_head {z : Wd} {ws : List Wd} (h : ([] : Wd) ∈ ws) : (ordW z ws)[0]? = some [] := by
  have hm := ordW_mem (z := z).mpr h
  have hs := ordW_sorted z ws
  cases e : ordW z ws with
  | nil =>
    rw [e] at hm
    cases hm
  | cons a r =>
    rw [e] at hm hs
    rcases List.mem_cons.mp hm with e | e
    · rw [← e]
      rfl
    · have := (List.pairwise_cons.mp hs).1 _ e
      have e2 : kW z a = [] := by
        have h3 : kW z a ≤ [] := this
        cases e4 : kW z a with
        | nil => rfl
        | cons x y =>
          rw [e4] at h3
          exact absurd h3 (by simp)
      cases a with
      | nil => rfl
      | cons x y => cases e2
abbrev keyS (z : Wd) (s : Str) : List Int := kW z s.cps.toList
theorem sort_sw (z : Wd) (ws : List Wd) : (ws.map sw).mergeSort (PySem.W.dataLe false (keyD (keyS z))) = (ordW z ws).map sw := by
  have e : PySem.W.dataLe false (keyD (keyS z)) = fun p q => decide (keyS z p ≤ keyS z q) := PySem.W.dataLe_rows (keyS z)
  rw [e]
  exact (List.map_mergeSort (f := sw) (l := ws) fun a _ b _ => rfl).symm
/-! ### Paired -/
theorem paired_mono {α β : Type} {R S : α → β → Prop} (f : ∀ a b, R a b → S a b) : ∀ {xs : List α} {ys : List β}, Paired R xs ys → Paired S xs ys
  | _, _, .nil => .nil
  | _, _, .cons h t => .cons (f _ _ h) (paired_mono f t)
theorem paired_ix {α β : Type} {R : α → β → Prop} : ∀ {xs : List α} {ys : List β} {n : Nat} {x : α}, Paired R xs ys → xs[n]? = some x → ∃ y, ys[n]? = some y ∧ R x y
  | _, _, _, _, .nil, h => by cases h
  | _, _, 0, _, .cons h t, e => by cases e; exact ⟨_, rfl, h⟩
  | _ :: _, _ :: _, n + 1, _, .cons h t, e => by
    obtain ⟨y, h1, h2⟩ := paired_ix (n := n) t (by simpa using e)
    exact ⟨y, by simpa using h1, h2⟩
theorem paired_ix' {α β : Type} {R : α → β → Prop} : ∀ {xs : List α} {ys : List β} {n : Nat} {y : β}, Paired R xs ys → ys[n]? = some y → ∃ x, xs[n]? = some x ∧ R x y
  | _, _, _, _, .nil, h => by cases h
  | _, _, 0, _, .cons h t, e => by cases e; exact ⟨_, rfl, h⟩
  | _ :: _, _ :: _, n + 1, _, .cons h t, e => by
    obtain ⟨y, h1, h2⟩ := paired_ix' (n := n) t (by simpa using e)
    exact ⟨y, by simpa using h1, h2⟩
theorem paired_app {α β : Type} {R : α → β → Prop} : ∀ {xs xs' : List α} {ys ys' : List β}, Paired R xs ys → Paired R xs' ys' → Paired R (xs ++ xs') (ys ++ ys')
  | _, _, _, _, .nil, h => h
  | _, _, _, _, .cons h t, k => .cons h (paired_app t k)
theorem paired_take {α β : Type} {R : α → β → Prop} : ∀ {xs : List α} {ys : List β} (n : Nat), Paired R xs ys → Paired R (xs.take n) (ys.take n)
  | _, _, 0, _ => by rw [List.take_zero, List.take_zero]; exact .nil
  | _, _, _ + 1, .nil => .nil
  | _, _, n + 1, .cons h t => .cons h (paired_take n t)
theorem paired_drop {α β : Type} {R : α → β → Prop} : ∀ {xs : List α} {ys : List β} (n : Nat), Paired R xs ys → Paired R (xs.drop n) (ys.drop n)
  | _, _, 0, h => h
  | _, _, _ + 1, .nil => .nil
  | _, _, n + 1, .cons h t => paired_drop n t
theorem paired_self {α β : Type} {f : β → α} : ∀ us : List β, Paired (fun x u => x = f u) (us.map f) us
  | [] => .nil
  | _ :: us => .cons rfl (paired_self us)
theorem paired_eq {α β : Type} {f : β → α} : ∀ {xs : List α} {us : List β}, Paired (fun x u => x = f u) xs us → xs = us.map f
  | _, _, .nil => rfl
  | _, _, .cons h t => by rw [List.map_cons, h, paired_eq t]
theorem paired_left {α β : Type} {R : α → β → Prop} : ∀ {xs : List α} {ys : List β} {x : α}, Paired R xs ys → x ∈ xs → ∃ y ∈ ys, R x y
  | _, _, _, .cons h t, m => by
    rcases List.mem_cons.mp m with rfl | m
    · exact ⟨_, List.mem_cons_self, h⟩
    · obtain ⟨y, h1, h2⟩ := paired_left t m
      exact ⟨y, List.mem_cons_of_mem _ h1, h2⟩
theorem paired_map {α β γ : Type} {R : α → β → Prop} {S : α → γ → Prop} {f : β → γ} (h : ∀ a b, R a b → S a (f b)) : ∀ {xs : List α} {ys : List β}, Paired R xs ys → Paired S xs (ys.map f)
  | _, _, .nil => .nil
  | _, _, .cons r t => .cons (h _ _ r) (paired_map h t)
/-! ### a comprehension, turn by turn -/
theorem lcG {α : Type} {J : It} {us : List α} {xs : List V} {R0 : V → α → Prop} {G : Hp → Prop} {Y : Nat → Hp → V → Hp → Prop} (w : Walk J xs.length G Y) (hY : ∀ i H x H', Y i H x H' → H' = H ∧ xs[i]? = some x) (pr : Paired R0 xs us)
    {g : TG} {tt : TT} {te : TE} {vs : List Nat} {σ : L2.St} {H1 : Hp} {D : Addr} {Qd : Hp → Prop} (C : Nat → Hp → Prop) (hC0 : C 0 (upd H1 D (.lst []))) (hC : ∀ i H acc, C i H → C i (upd H D (.lst acc))) (hG : ∀ i H, i ≤ xs.length → C i H → G H) (hl : us.length ≤ 40000)
    (keep : α → Bool) (S : Hp → V → α → Prop) (hS : ∀ H acc acc' v u, H D = some (.lst acc) → S H v u → S (upd H D (.lst acc')) v u)
    (hs : ∀ i x u H acc (R : VK) (N : Hp → Prop), us[i]? = some u → R0 x u → C i H → H D = some (.lst acc) → (keep u = true → ∀ y H', C (i + 1) H' → H' D = some (.lst acc) → (∀ v u, S H v u → S H' v u) → S H' y u → R y H') →
      (keep u = false → ∀ H', C (i + 1) H' → H' D = some (.lst acc) → (∀ v u, S H v u → S H' v u) → N H') → g x (wipe σ vs) H fun σ2 H2 => wipe σ2 vs = wipe σ vs ∧ tt σ2 H2 fun b H3 => if b = true then te σ2 H3 R else N H3)
    (hd : ∀ H acc, C xs.length H → H D = some (.lst acc) → Paired (S H) acc (us.filter keep) → Qd H) :
    ∃ W : Nat → Nat → Hp → Prop, (∃ m, W 0 m (upd H1 D (.lst []))) ∧ ∀ i m H, W i m H →
      (J.stop i H ∧ Qd H) ∨ (J.go i H ∧ ∃ Nx : Hp → Prop, (∀ H', Nx H' → ∃ m', m' < m ∧ W (i + 1) m' H') ∧ ∀ x H', J.yld i H x H' → g x (wipe σ vs) H' fun σ2 H2 => wipe σ2 vs = wipe σ vs ∧ tt σ2 H2 fun b H3 =>
        if b = true then te σ2 H3 fun y H4 => ∃ acc, H4 D = some (.lst acc) ∧ acc.length < sizeLine ∧ Nx (upd H4 D (.lst (acc ++ [y]))) else Nx H3) := by
  have hlen := pr.length
  refine lc_it w (fun i H => ∃ acc, H D = some (.lst acc) ∧ C i H ∧ Paired (S H) acc ((us.take i).filter keep)) ⟨[], upd_same, hC0, by rw [List.take_zero]; exact .nil⟩ (fun i H hi ⟨_, _, c, _⟩ => hG i H hi c) (fun i x H H' hi ⟨acc, hD, c, p⟩ y => ?_)
    fun H ⟨acc, hD, c, p⟩ => hd H acc c hD (by rw [hlen, List.take_of_length_le (Nat.le_refl _)] at p; exact p)
  obtain ⟨rfl, hx⟩ := hY _ _ _ _ y
  obtain ⟨u, hu, r⟩ := paired_ix pr hx
  have e : (us.take (i + 1)) = us.take i ++ [u] := by rw [List.take_add_one, hu]; rfl
  refine hs i x u _ acc _ _ hu r c hD (fun k z H2 c2 hD2 m sy => ?_) fun k H2 c2 hD2 m => ?_
  · refine ⟨acc, hD2, ?_, acc ++ [z], upd_same, hC _ _ _ c2, ?_⟩
    · rw [p.length, sizeLine_eq]
      have h1 := List.length_filter_le keep (us.take i)
      rw [List.length_take] at h1
      omega
    · rw [e, List.filter_append, List.filter_cons_of_pos k, List.filter_nil]
      exact paired_app (paired_mono (fun a b q => hS _ _ _ _ _ hD2 (m a b q)) p) (.cons (hS _ _ _ _ _ hD2 sy) .nil)
  · refine ⟨acc, hD2, c2, ?_⟩
    rw [e, List.filter_append, List.filter_cons_of_neg (by rw [k]; decide), List.filter_nil, List.append_nil]
    exact paired_mono m p
/-- the items are told by f; all that was stands -/
theorem lcF {α : Type} {J : It} {us : List α} {xs : List V} {R0 : V → α → Prop} {G : Hp → Prop} {Y : Nat → Hp → V → Hp → Prop} (w : Walk J xs.length G Y) (hY : ∀ i H x H', Y i H x H' → H' = H ∧ xs[i]? = some x) (pr : Paired R0 xs us)
    {g : TG} {tt : TT} {te : TE} {vs : List Nat} {σ : L2.St} {H1 : Hp} {D : Addr} {Qd : Hp → Prop} (hD : H1 D = none) (hG : ∀ H, Same H1 H → G H) (hl : us.length ≤ 40000)
    (keep : α → Bool) (f : α → V)
    (hs : ∀ x u H (R : VK) (N : Hp → Prop), u ∈ us → R0 x u → Same H1 H → (keep u = true → R (f u) H) → (keep u = false → N H) → g x (wipe σ vs) H fun σ2 H2 => wipe σ2 vs = wipe σ vs ∧ tt σ2 H2 fun b H3 => if b = true then te σ2 H3 R else N H3)
    (hd : ∀ H, Same H1 H → H D = some (.lst ((us.filter keep).map f)) → Qd H) :
    ∃ W : Nat → Nat → Hp → Prop, (∃ m, W 0 m (upd H1 D (.lst []))) ∧ ∀ i m H, W i m H →
      (J.stop i H ∧ Qd H) ∨ (J.go i H ∧ ∃ Nx : Hp → Prop, (∀ H', Nx H' → ∃ m', m' < m ∧ W (i + 1) m' H') ∧ ∀ x H', J.yld i H x H' → g x (wipe σ vs) H' fun σ2 H2 => wipe σ2 vs = wipe σ vs ∧ tt σ2 H2 fun b H3 =>
        if b = true then te σ2 H3 fun y H4 => ∃ acc, H4 D = some (.lst acc) ∧ acc.length < sizeLine ∧ Nx (upd H4 D (.lst (acc ++ [y]))) else Nx H3) := by
  refine lcG w hY pr (fun _ H => Same H1 H) (same_upd hD) (fun _ H acc s b o h => ?_) (fun i H _ s => hG H s) hl keep (fun _ v u => v = f u) (fun _ _ _ _ _ _ h => h) (fun i x u H acc R N hu r s hDH k1 k2 => ?_) fun H acc s hDH p => ?_
  · rw [upd_ne (ne_of_none h hD)]
    exact s _ _ h
  · exact hs x u H R N (List.mem_of_getElem? hu) r s (fun k => k1 k _ _ s hDH (fun _ _ h => h) rfl) fun k => k2 k _ s hDH fun _ _ h => h
  · rw [paired_eq p] at hDH
    exact hd H s hDH
theorem yat {xs : List V} : ∀ i H x H', YAt xs i H x H' → H' = H ∧ xs[i]? = some x := fun _ _ _ _ h => h
/-- the signs of a text -/
abbrev sgs (z : Wd) : List V := z.map fun c => V.str (sw [c])
theorem walk_sgs (z : Wd) : Walk (Its (sw z)) (sgs z).length (fun _ => True) (YAt (sgs z)) := by
  have := walk_str (z := sw z)
  rw [show (sw z).cps.size = (sgs z).length by rw [List.length_map]; show z.toArray.size = z.length; simp] at this
  refine this.mono (fun _ h => h) fun i H x H' hi _ ⟨e, c, h1, h2⟩ => ⟨e, ?_⟩
  have h3 : z[i]? = some c := by
    rw [← h1]
    show z[i]? = z.toArray[i]?
    simp
  rw [List.getElem?_map, h3, h2]
  rfl
theorem pr_sgs (z : Wd) : Paired (fun (x : V) c => x = V.str (sw [c])) (sgs z) z := paired_self z
/-- membership among texts -/
abbrev wsV (ps : List Wd) : List V := ps.map fun p => V.str (sw p)
theorem wsV_flat (ps : List Wd) : (wsV ps).all flatV = true := by
  rw [List.all_eq_true]
  intro x h
  obtain ⟨p, _, rfl⟩ := List.mem_map.mp h
  rfl
theorem wsV_in (p : Wd) (ps : List Wd) : inV (.str (sw p)) (wsV ps) = decide (p ∈ ps) := by
  induction ps with
  | nil => rfl
  | cons q ps ih =>
    show (eqV (.str (sw q)) (.str (sw p)) || inV (.str (sw p)) (wsV ps)) = _
    rw [ih]
    have e : eqV (.str (sw q)) (.str (sw p)) = decide (q = p) := by
      show ((sw q) == (sw p)) = _
      by_cases h : q = p
      · rw [h]; simp
      · rw [decide_eq_false h]
        exact beq_eq_false_iff_ne.mpr fun z => h (sw_inj z)
    rw [e]
    by_cases h : q = p
    · simp [h]
    · simp [h, Ne.symm h]
end Toy


set_option Elab.async false
set_option linter.all false
set_option maxRecDepth 100000
set_option maxHeartbeats 4000000
namespace Toy
open PySem L2 Sh ShL LamX NdefX
theorem hu200_of {A : Around} {k : Nat} (hr : Room k A) : A.units + 200 < cLine := by have := hr.un; omega
theorem iteD {c A B : Prop} [Decidable c] (hA : c → A) (hB : ¬ c → B) : if decide c = true then A else B := ite2 (fun h => hA (of_decide_eq_true h)) fun h => hB fun z => h (decide_eq_true z)
theorem iteN {c A B : Prop} [Decidable c] (hA : ¬ c → A) (hB : c → B) : if (!decide c) = true then A else B := by
  by_cases h : c
  · rw [decide_eq_true h]
    exact iteF (hB h)
  · rw [decide_eq_false h]
    exact iteT (hA h)
theorem andV {ta tb : TE} {σ : L2.St} {H : Hp} {Q : VK} {a b : Bool} (h1 : ∀ R : VK, R (.bl a) H → ta σ H R) (h2 : ∀ R : VK, R (.bl b) H → tb σ H R) (q : Q (.bl (a && b)) H) : tAndV ta tb σ H Q := by
  refine h1 _ ⟨a, rfl, ?_⟩
  cases a
  · exact iteF q
  · exact iteT (h2 _ q)
theorem orV {ta tb : TE} {σ : L2.St} {H : Hp} {Q : VK} {a b : Bool} (h1 : ∀ R : VK, R (.bl a) H → ta σ H R) (h2 : ∀ R : VK, R (.bl b) H → tb σ H R) (q : Q (.bl (a || b)) H) : tOrV ta tb σ H Q := by
  refine h1 _ ⟨a, rfl, ?_⟩
  cases a
  · exact iteF (h2 _ q)
  · exact iteT q
theorem asgI {te : TE} {g : TG} {u : TS} {D : Ends} {σ : L2.St} {H : Hp} (h : te σ H fun v H1 => g v σ H1 (u D)) : tSeq (tAsg te g) u D σ H := h
theorem asgE {te : TE} {g : TG} {D : Ends} {σ : L2.St} {H : Hp} (h : te σ H fun v H1 => g v σ H1 D.nx) : tAsg te g D σ H := h
theorem opI {r : R2} {ta tb : TE} {σ : L2.St} {H : Hp} {Q : VK} (h : ta σ H fun x H1 => tb σ H1 fun y H2 => r x y H2 Q) : tOp r ta tb σ H Q := h
theorem consI {te : TE} {ts : TA} {σ : L2.St} {H : Hp} {k : List V → Hp → Prop} (h : te σ H fun v H1 => ts σ H1 fun vs H2 => k (v :: vs) H2) : tCons te ts σ H k := h
theorem retE {te : TE} {D : Ends} {σ : L2.St} {H : Hp} (h : te σ H D.rt) : tRet te D σ H := h
theorem makeI {C : Addr} {sp : Sp} {dvs : List V} {E : XK} {t : TA} {σ : L2.St} {H : Hp} {Q : VK} (h : t σ H fun vs H1 => ∀ x dx, H1 x = none → H1 dx = none → dx ≠ x → sp (.ref x :: (vs ++ dvs)) (upd (upd H1 dx (.own x)) x (.ins C dx [])) (fun v H2 => v = .non ∧ Q (.ref x) H2) E) : tMake C sp dvs E t σ H Q := h
theorem callI {sp : Sp} {dvs : List V} {E : XK} {t : TA} {σ : L2.St} {H : Hp} {Q : VK} (h : t σ H fun vs H1 => sp (vs ++ dvs) H1 Q E) : tCall sp dvs E t σ H Q := h
theorem ifEI {t : TT} {a b : TE} {σ : L2.St} {H : Hp} {Q : VK} (h : t σ H fun c H1 => if c = true then a σ H1 Q else b σ H1 Q) : tIf t a b σ H Q := h
theorem sigI {t : TS} {D : Ends} {σ σ' : L2.St} {H : Hp} (e : σ = σ') (h : t D σ' H) : t D σ H := by rw [e]; exact h
theorem isi_bb {K : PySem.W.Frag} : PySem.W.kitOne K (.type "bool") (.type "bool") = some true := kit_ty (by decide +kernel)
theorem cbI {r : List V → Hp → VK → Prop} {t : TA} {σ : L2.St} {H : Hp} {Q : VK} (h : t σ H fun vs H1 => r vs H1 Q) : tCB r t σ H Q := h
theorem forI2 {W : TI} {g : TG} {tb u : TS} {D : Ends} {σ : L2.St} {H : Hp} (h : tFor W g tb { D with nx := u D } σ H) : tSeq (tFor W g tb) u D σ H := h
theorem whileI {c : TT} {tb u : TS} {D : Ends} {σ : L2.St} {H : Hp} (h : tWhile c tb { D with nx := u D } σ H) : tSeq (tWhile c tb) u D σ H := h
/-! ### lists or tuples -/
/-- a tuple, not locked -/
def SqU (K : PySem.W.Frag) (H : Hp) (p : Addr) (xs : List V) : Prop := H p = some (.tup xs) ∨ ∃ (o : Obj) (its : Array Value) (n : Nat), K.lookup p = some o ∧ o.cls = .type "tuple" ∧ o.data = .seq its n ∧ its.size ≤ sizeLine ∧ Vals xs its.toList
theorem SqU.t {K : PySem.W.Frag} {H : Hp} {p : Addr} {xs : List V} (h : SqU K H p xs) : SqT K H p xs := h.imp (fun h => .inl h) id
theorem SqU.of {K : PySem.W.Frag} {H : Hp} {p : Addr} {xs : List V} (h : H p = some (.tup xs)) : SqU K H p xs := .inl h
theorem SqU.same {K : PySem.W.Frag} {H H' : Hp} {p : Addr} {xs : List V} (s : Same H H') (h : SqU K H p xs) : SqU K H' p xs := h.imp (fun h => s _ _ h) id
def Sq (K : PySem.W.Frag) (H : Hp) (p : Addr) (xs : List V) : Prop := SqL K H p xs ∨ SqU K H p xs
theorem Sq.lt {K : PySem.W.Frag} {H : Hp} {p : Addr} {xs : List V} (h : Sq K H p xs) : SqL K H p xs ∨ SqT K H p xs := h.imp id SqU.t
theorem seqTT {K : PySem.W.Frag} {H H' : Hp} {a : Addr} {xs : List V} (e : Same H H') (h : SqL K H a xs) : SqL K H' a xs := e.seq h
theorem Sq.same {K : PySem.W.Frag} {H H' : Hp} {p : Addr} {xs : List V} (s : Same H H') (h : Sq K H p xs) : Sq K H' p xs := h.imp (fun h => s.seq h) fun h => h.same s
theorem kit_tl {K : PySem.W.Frag} {t : String} (h : t = "list" ∨ t = "tuple") : PySem.W.kitAny K (.type t) [.type "tuple", .type "list"] = some true := by
  rcases h with rfl | rfl
  · exact kitAny_cons (b := false) (kit_ty (by decide +kernel)) (fun _ => kitAny_cons (b := true) (kit_ty (by decide +kernel)) (fun z => nomatch z) fun _ => rfl) fun z => nomatch z
  · exact kitAny_cons (b := true) (kit_ty (by decide +kernel)) (fun z => nomatch z) fun _ => rfl
theorem Sq.ty {K : PySem.W.Frag} {H : Hp} {p : Addr} {xs : List V} (h : Sq K H p xs) : ∃ t : String, (t = "list" ∨ t = "tuple") ∧ TyX K H (.ref p) (.type t) := by
  rcases h with h | h
  · refine ⟨_, .inl rfl, ?_⟩
    rcases h with (h | ⟨o, h⟩) | ⟨o, its, n, h, c, _⟩
    · exact .base (.lst h)
    · exact .base (.frz h)
    · exact .kList h c
  · refine ⟨_, .inr rfl, ?_⟩
    rcases h with h | ⟨o, its, n, h, c, _⟩
    · exact .base (.tup h)
    · exact .kTuple h c
section
variable {K : PySem.W.Frag} {σ : L2.St} {H : Hp} {Q : VK}
theorem ixA {te : TE} {i : Int} {p : Addr} {xs : List V} {x : V} (hv : ∀ R : VK, R (.ref p) H → te σ H R) (hs : Sq K H p xs) (hx : atI xs i = some x) (q : Q x H) : tAlt (tOp (rIxL K) te (tC (.int i))) (tOp (rIxT K) te (tC (.int i))) σ H Q :=
  hs.elim (fun h => .inl (hv _ ⟨p, xs, i, x, rfl, rfl, h, hx, q⟩)) fun h => .inr (hv _ ⟨p, xs, i, x, rfl, rfl, h.t, hx, q⟩)
/-- the slot n holds p -/
theorem vI {n : Nat} {v : V} (h : σ[n]? = some (some v)) : ∀ R : VK, R v H → tVar n σ H R := fun _ q => ⟨v, h, q⟩
theorem revA {te : TE} {p : Addr} {xs : List V} (hv : ∀ R : VK, R (.ref p) H → te σ H R) (hs : Sq K H p xs) (q : ∀ l H', H l = none → Same H H' → Sq K H' l xs.reverse → Q (.ref l) H') : tAlt (tRevL K te) (tRevT K te) σ H Q :=
  hs.elim (fun h => .inl (hv _ ⟨p, xs, rfl, h, fun l hl => q l _ hl (same_upd hl) (.inl (SqL.of upd_same))⟩)) fun h => .inr (hv _ ⟨p, xs, rfl, h.t, fun l hl => q l _ hl (same_upd hl) (.inr (SqU.of upd_same))⟩)
/-- xs[1:] -/
theorem tailA {te : TE} {p : Addr} {xs : List V} (hv : ∀ R : VK, R (.ref p) H → te σ H R) (hs : Sq K H p xs) (q : ∀ l H', Same H H' → Sq K H' l (cutV xs (some 1) none) → Q (.ref l) H') (h1 : xs ≠ []) :
    tAlt (tSl (rSlL K) te (tPart (tC (.int 1))) tNoPart) (tSl (rSlA K) te (tPart (tC (.int 1))) tNoPart) σ H Q := by
  refine hs.elim (fun h => .inl (hv _ ⟨1, rfl, p, xs, rfl, h, fun l hl => q l _ (same_upd hl) (.inl (SqL.of upd_same))⟩)) fun h => .inr (hv _ ⟨1, rfl, p, xs, rfl, h.t, fun hz => ?_, fun _ l hl => q l _ (same_upd hl) (.inr (SqU.of upd_same))⟩)
  exfalso
  have := hz.1
  rw [show (some (1 : Int)) = some ((1 : Nat) : Int) from rfl, HT.sIx_nat] at this
  have h2 : 0 < xs.length := List.length_pos_iff.mpr h1
  omega
theorem isiA {te : TE} {p : Addr} {xs : List V} (hv : ∀ R : VK, R (.ref p) H → te σ H R) (hs : Sq K H p xs) (q : ∀ H', Same H H' → Q (.bl true) H') :
    tCB (rIsiT K) (tCons te (tCons (tTup (tCons (tC (.ty "tuple")) (tCons (tC (.ty "list")) tNil))) tNil)) σ H Q := by
  refine hv _ ⟨by decide, fun tp htp => ?_⟩
  have s1 := same_upd (o := .tup [V.ty "tuple", V.ty "list"]) htp
  obtain ⟨t, ht, ty⟩ := (hs.same s1).ty
  exact ⟨_, tp, _, _, [.type "tuple", .type "list"], true, rfl, upd_same, .cons (.ty _) (.cons (.ty _) .nil), ty, kit_tl ht, q _ s1⟩
end
theorem same_two {H : Hp} {d : Addr} {o1 o2 : HO} (hd : H d = none) : Same H (upd (upd H d o1) d o2) := fun b o h => by rw [upd_ne (ne_of_none h hd), upd_ne (ne_of_none h hd)]; exact h
/-! ### comprehensions that map -/
theorem lcM {α : Type} {J : It} {us : List α} {xs : List V} {R0 : V → α → Prop} {G : Hp → Prop} {Y : Nat → Hp → V → Hp → Prop} (w : Walk J xs.length G Y) (hY : ∀ i H x H', Y i H x H' → H' = H ∧ xs[i]? = some x) (pr : Paired R0 xs us)
    {g : TG} {tt : TT} {te : TE} {vs : List Nat} {σ : L2.St} {H1 : Hp} {D : Addr} {Qd : Hp → Prop} (hD : H1 D = none) (hG : ∀ H, Same H1 H → G H) (hl : us.length ≤ 40000)
    (R : Hp → V → α → Prop) (mono : ∀ H H' v u, Same H H' → R H v u → R H' v u) (hS : ∀ H acc acc' v u, H D = some (.lst acc) → R H v u → R (upd H D (.lst acc')) v u)
    (hs : ∀ (i : Nat) (x : V) (u : α) (H : Hp) (Rk : VK) (N : Hp → Prop), us[i]? = some u → R0 x u → Same H1 H → (∀ y H', Same H H' → R H' y u → Rk y H') → g x (wipe σ vs) H fun σ2 H2 => wipe σ2 vs = wipe σ vs ∧ tt σ2 H2 fun b H3 => if b = true then te σ2 H3 Rk else N H3)
    (hd : ∀ H acc, Same H1 H → H D = some (.lst acc) → Paired (R H) acc us → Qd H) :
    ∃ W : Nat → Nat → Hp → Prop, (∃ m, W 0 m (upd H1 D (.lst []))) ∧ ∀ i m H, W i m H →
      (J.stop i H ∧ Qd H) ∨ (J.go i H ∧ ∃ Nx : Hp → Prop, (∀ H', Nx H' → ∃ m', m' < m ∧ W (i + 1) m' H') ∧ ∀ x H', J.yld i H x H' → g x (wipe σ vs) H' fun σ2 H2 => wipe σ2 vs = wipe σ vs ∧ tt σ2 H2 fun b H3 =>
        if b = true then te σ2 H3 fun y H4 => ∃ acc, H4 D = some (.lst acc) ∧ acc.length < sizeLine ∧ Nx (upd H4 D (.lst (acc ++ [y]))) else Nx H3) := by
  refine lcG w hY pr (fun _ H => Same H1 H) (same_upd hD) (fun _ H acc s b o h => by rw [upd_ne (ne_of_none h hD)]; exact s _ _ h) (fun i H _ s => hG H s) hl (fun _ => true) R hS (fun i x u H acc Rk N hu r s hDH k1 _ => ?_) (fun H acc s hDH p => hd H acc s hDH (by rw [List.filter_eq_self.mpr (fun _ _ => rfl)] at p; exact p))
  exact hs i x u H Rk N hu r s fun y H' s' h' => k1 rfl y H' (s.trans s') (s' _ _ hDH) (fun v u h => mono _ _ _ _ s' h) h'
theorem cut1 (x : V) (xs : List V) : cutV (x :: xs) (some 1) none = xs := by
  unfold cutV
  rw [show (some (1 : Int)) = some ((1 : Nat) : Int) from rfl, HT.sIx_nat, HT.sIx_none]
  simp
theorem tail_ne (x : V) (xs : List V) : ¬ (HT.sIx (x :: xs).length 0 (some 1) = 0 ∧ HT.sIx (x :: xs).length (x :: xs).length none = (x :: xs).length) := by
  rintro ⟨h, _⟩
  rw [show (some (1 : Int)) = some ((1 : Nat) : Int) from rfl, HT.sIx_nat] at h
  simp at h
/-- a walk over x[1:], x a list or a tuple -/
theorem lcTail {K : PySem.W.Frag} {te0 te : TE} {g : TG} {tt : TT} {vs : List Nat} {σ : L2.St} {H : Hp} {Q : VK} {p : Addr} {x0 : V} {xs : List V} (hv : ∀ (R : VK), R (.ref p) H → te0 σ H R) (hs : Sq K H p (x0 :: xs))
    (h : ∀ (J : It) (G : Hp → Prop) (H1 : Hp), Same H H1 → Walk J xs.length G (YAt xs) → (∀ H', Same H1 H' → G H') → ∀ D, H1 D = none →
      ∃ W : Nat → Nat → Hp → Prop, (∃ m, W 0 m (upd H1 D (.lst []))) ∧ ∀ i m H, W i m H →
      (J.stop i H ∧ Q (.ref D) H) ∨ (J.go i H ∧ ∃ Nx : Hp → Prop, (∀ H', Nx H' → ∃ m', m' < m ∧ W (i + 1) m' H') ∧ ∀ x H', J.yld i H x H' → g x (wipe σ vs) H' fun σ2 H2 => wipe σ2 vs = wipe σ vs ∧ tt σ2 H2 fun b H3 =>
        if b = true then te σ2 H3 fun y H4 => ∃ acc, H4 D = some (.lst acc) ∧ acc.length < sizeLine ∧ Nx (upd H4 D (.lst (acc ++ [y]))) else Nx H3)) :
    tLc (fun σ H_1 R => iList K (tAlt (tSl (rSlL K) te0 (tPart (tC (.int 1))) tNoPart) (tSl (rSlA K) te0 (tPart (tC (.int 1))) tNoPart)) σ H_1 R ∨ iTup K (tAlt (tSl (rSlL K) te0 (tPart (tC (.int 1))) tNoPart) (tSl (rSlA K) te0 (tPart (tC (.int 1))) tNoPart)) σ H_1 R) g tt te vs σ H Q := by
  rcases hs with hs | hs
  · refine .inl (.inl (hv _ ⟨1, rfl, p, _, rfl, hs, fun l hl => ?_⟩))
    rw [cut1]
    exact ⟨l, rfl, ⟨_, SqL.of upd_same⟩, h (Itl K l) _ _ (same_upd hl) walk_list fun H' s => s.seq (SqL.of upd_same)⟩
  · refine .inr (.inr (hv _ ⟨1, rfl, p, _, rfl, hs.t, fun z => absurd z (tail_ne _ _), fun _ l hl => ?_⟩))
    rw [cut1]
    exact ⟨l, rfl, ⟨_, SqT.of upd_same⟩, h (Itt K l) _ _ (same_upd hl) walk_tup fun H' s => seqT s (SqT.of upd_same)⟩
/-- a walk over x, x a list or a tuple -/
theorem lcSq {K : PySem.W.Frag} {te0 te : TE} {g : TG} {tt : TT} {vs : List Nat} {σ : L2.St} {H : Hp} {Q : VK} {p : Addr} {xs : List V} (hv : ∀ (R : VK), R (.ref p) H → te0 σ H R) (hs : Sq K H p xs)
    (h : ∀ (J : It) (G : Hp → Prop), Walk J xs.length G (YAt xs) → (∀ H', Same H H' → G H') → ∀ D, H D = none →
      ∃ W : Nat → Nat → Hp → Prop, (∃ m, W 0 m (upd H D (.lst []))) ∧ ∀ i m H, W i m H →
      (J.stop i H ∧ Q (.ref D) H) ∨ (J.go i H ∧ ∃ Nx : Hp → Prop, (∀ H', Nx H' → ∃ m', m' < m ∧ W (i + 1) m' H') ∧ ∀ x H', J.yld i H x H' → g x (wipe σ vs) H' fun σ2 H2 => wipe σ2 vs = wipe σ vs ∧ tt σ2 H2 fun b H3 =>
        if b = true then te σ2 H3 fun y H4 => ∃ acc, H4 D = some (.lst acc) ∧ acc.length < sizeLine ∧ Nx (upd H4 D (.lst (acc ++ [y]))) else Nx H3)) :
    tLc (fun σ H_1 R => iList K te0 σ H_1 R ∨ iTup K te0 σ H_1 R) g tt te vs σ H Q := by
  rcases hs with hs | hs
  · exact .inl (hv _ ⟨p, rfl, ⟨_, hs⟩, h (Itl K p) _ walk_list fun H' s => s.seq hs⟩)
  · exact .inr (hv _ ⟨p, rfl, ⟨_, hs.t⟩, h (Itt K p) _ walk_tup fun H' s => seqT s hs.t⟩)
/-- a loop over x, x a list or a tuple -/
theorem forSq {K : PySem.W.Frag} {te0 : TE} {g : TG} {tb : TS} {D : Ends} {σ : L2.St} {H H0 : Hp} {p : Addr} {xs : List V} (hv : ∀ (R : VK), R (.ref p) H → te0 σ H R) (hs : Sq K H0 p xs) (s0 : Same H0 H)
    (h : ∀ (J : It) (G : Hp → Prop), Walk J xs.length G (YAt xs) → (∀ H', Same H0 H' → G H') →
      ∃ W : Nat → Nat → L2.St → Hp → Prop, (∃ m, W 0 m σ H) ∧ ∀ i m σ H, W i m σ H →
      (J.stop i H ∧ D.nx σ H) ∨ (J.go i H ∧ ∃ N : L2.St → Hp → Prop, (∀ σ' H', N σ' H' → ∃ m', m' < m ∧ W (i + 1) m' σ' H') ∧ ∀ x H', J.yld i H x H' → g x σ H' fun σ2 H2 => tb { D with nx := N, ct := N, bk := D.nx } σ2 H2)) :
    tFor (fun σ H_1 R => iList K te0 σ H_1 R ∨ iTup K te0 σ H_1 R) g tb D σ H := by
  rcases hs with hs | hs
  · exact .inl (hv _ ⟨p, rfl, ⟨_, s0.seq hs⟩, h (Itl K p) _ walk_list fun H' s => s.seq hs⟩)
  · exact .inr (hv _ ⟨p, rfl, ⟨_, seqT s0 hs.t⟩, h (Itt K p) _ walk_tup fun H' s => seqT s hs.t⟩)
theorem cut_take' (xs : List V) (c : Nat) : cutV xs none (some (c : Int)) = xs.take c := by
  unfold cutV
  rw [HT.sIx_nat, HT.sIx_none]
  show (xs.drop 0).take (min c xs.length - 0) = xs.take c
  rw [List.drop_zero, Nat.sub_zero]
  by_cases h : c ≤ xs.length
  · rw [Nat.min_eq_left h]
  · rw [Nat.min_eq_right (by omega), List.take_of_length_le (Nat.le_refl _), List.take_of_length_le (by omega)]
end Toy


set_option Elab.async false
set_option linter.all false
set_option maxRecDepth 100000
set_option maxHeartbeats 4000000
namespace Toy
open PySem L2 Sh ShL LamX NdefX
/-! ### tests and statements: data -/
inductive Atm | mark | own | flag | root | ends | next | tru
def Atm.s : Atm → Str
  | .mark => "mark" | .own => "own" | .flag => "flag" | .root => "root" | .ends => "ends" | .next => "next" | .tru => "true"
inductive Tst
  | atom (z : Atm)
  | oth (n : Int)
  | no (t : Tst)
  | bin (b : Bool) (t u : Tst)
def Tst.dep : Tst → Nat
  | .atom _ => 1
  | .oth _ => 1
  | .no t => t.dep + 1
  | .bin _ t u => max t.dep u.dep + 1
def binS (b : Bool) : Str := if b = true then "and" else "or"
abbrev atomsV : List V := [.str "mark", .str "own", .str "flag", .str "root", .str "ends", .str "next", .str "true"]
abbrev SQ := Hp → Addr → List V → Prop
def TstAt (S : SQ) (H : Hp) : Tst → V → Prop
  | .atom z, v => ∃ p, v = .ref p ∧ S H p [.str z.s]
  | .oth n, v => 0 ≤ n ∧ n ≤ 2 ∧ ∃ p, v = .ref p ∧ S H p [.str "others", .int n]
  | .no t, v => ∃ p u, v = .ref p ∧ S H p [.str "not", u] ∧ TstAt S H t u
  | .bin b t u, v => ∃ p x y, v = .ref p ∧ S H p [.str (binS b), x, y] ∧ TstAt S H t x ∧ TstAt S H u y
inductive Ans | yes | no | value | node | p
def Ans.s : Ans → Str
  | .yes => "yes" | .no => "no" | .value => "value" | .node => "node" | .p => "p"
inductive Bn | down | turn | up
def Bn.s : Bn → Str
  | .down => "down" | .turn => "turn" | .up => "up"
inductive Pl | mark | unmark | flag (b : Bool) | ret (a : Ans) | make | cut | keep | stop
def Pl.vs : Pl → List V
  | .mark => [.str "mark"] | .unmark => [.str "unmark"] | .flag b => [.str "flag", .bl b] | .ret a => [.str "return", .str a.s]
  | .make => [.str "make"] | .cut => [.str "cut"] | .keep => [.str "keep"] | .stop => [.str "stop"]
def Pl.ok : Bn → Pl → Bool
  | .down, .cut => false | .turn, .make => false | .turn, .stop => false | .up, .make => false | .up, .keep => false | _, _ => true
/-- a block: its statements in order -/
inductive Blk
  | nil
  | st (p : Pl) (r : Blk)
  | ife (t : Tst) (a b r : Blk)
def Blk.size : Blk → Nat
  | .nil => 0
  | .st _ r => r.size + 1
  | .ife _ a b r => a.size + b.size + r.size + 1
def Blk.dep : Blk → Nat
  | .nil => 1
  | .st _ r => r.dep
  | .ife _ a b r => max (max a.dep b.dep + 1) r.dep
def Blk.len : Blk → Nat
  | .nil => 0
  | .st _ r => r.len + 1
  | .ife _ _ _ r => r.len + 1
def Blk.ok (n : Bn) : Blk → Prop
  | .nil => True
  | .st p r => p.ok n = true ∧ r.ok n
  | .ife t a b r => t.dep ≤ 6 ∧ 0 < a.len ∧ a.ok n ∧ b.ok n ∧ r.ok n
def BlkV (S : SQ) (H : Hp) : Blk → List V → Prop
  | .nil, vs => vs = []
  | .st p r, vs => ∃ q ws, vs = .ref q :: ws ∧ S H q p.vs ∧ BlkV S H r ws
  | .ife t a b r, vs => ∃ q tv pa pb xa xb ws, vs = .ref q :: ws ∧ S H q [.str "if", tv, .ref pa, .ref pb] ∧ TstAt S H t tv ∧ S H pa xa ∧ BlkV S H a xa ∧ S H pb xb ∧ BlkV S H b xb ∧ BlkV S H r ws
def BlkAt (S : SQ) (H : Hp) (b : Blk) (p : Addr) : Prop := ∃ xs, S H p xs ∧ BlkV S H b xs
theorem TstAt.mono {S S' : SQ} {H H' : Hp} (s : ∀ p xs, S H p xs → S' H' p xs) : ∀ {t : Tst} {v : V}, TstAt S H t v → TstAt S' H' t v
  | .atom z, v, h => by obtain ⟨p, e, h2⟩ := h; exact ⟨p, e, s _ _ h2⟩
  | .oth n, v, h => by obtain ⟨h0, h1, p, e, h2⟩ := h; exact ⟨h0, h1, p, e, s _ _ h2⟩
  | .no t, v, h => by obtain ⟨p, u, e, h2, h3⟩ := h; exact ⟨p, u, e, s _ _ h2, TstAt.mono s h3⟩
  | .bin b t u, v, h => by obtain ⟨p, x, y, e, h2, h3, h4⟩ := h; exact ⟨p, x, y, e, s _ _ h2, TstAt.mono s h3, TstAt.mono s h4⟩
theorem BlkV.mono {S S' : SQ} {H H' : Hp} (s : ∀ p xs, S H p xs → S' H' p xs) : ∀ {b : Blk} {vs : List V}, BlkV S H b vs → BlkV S' H' b vs
  | .nil, vs, h => h
  | .st p r, vs, h => by obtain ⟨q, ws, e, h1, h2⟩ := h; exact ⟨q, ws, e, s _ _ h1, BlkV.mono s h2⟩
  | .ife t a b r, vs, h => by
    obtain ⟨q, tv, pa, pb, xa, xb, ws, e, h1, h2, h3, h4, h5, h6, h7⟩ := h
    exact ⟨q, tv, pa, pb, xa, xb, ws, e, s _ _ h1, h2.mono s, s _ _ h3, BlkV.mono s h4, s _ _ h5, BlkV.mono s h6, BlkV.mono s h7⟩
theorem BlkV.len {S : SQ} {H : Hp} : ∀ {b : Blk} {vs : List V}, BlkV S H b vs → vs.length = b.len
  | .nil, vs, h => by rw [show vs = [] from h]; rfl
  | .st p r, vs, h => by obtain ⟨q, ws, rfl, h1, h2⟩ := h; show ws.length + 1 = r.len + 1; rw [BlkV.len h2]
  | .ife t a b r, vs, h => by
    obtain ⟨q, tv, pa, pb, xa, xb, ws, rfl, h1, h2, h3, h4, h5, h6, h7⟩ := h
    show ws.length + 1 = r.len + 1
    rw [BlkV.len h7]
theorem Blk.len_size : ∀ b : Blk, b.len ≤ b.size
  | .nil => Nat.le_refl _
  | .st p r => Nat.succ_le_succ r.len_size
  | .ife t a b r => by have := r.len_size; show r.len + 1 ≤ a.size + b.size + r.size + 1; omega
abbrev TstQ (K : PySem.W.Frag) := TstAt (Sq K)
/-! ### is_told, is_small, is_test -/
def spTold (K : PySem.W.Frag) : Sp := fun vs H Q _ => ∃ (p : Addr) (z : Str) (xs : List V), vs = [.ref p] ∧ Sq K H p (.str z :: xs) ∧ ∀ H', Same H H' → Q (.bl true) H'
def spSmall : Sp := fun vs H Q _ => ∃ n : Int, vs = [.int n] ∧ 0 ≤ n ∧ n ≤ 2 ∧ Q (.bl true) H
def spTest (K : PySem.W.Frag) (n : Nat) : Sp := fun vs H Q _ => ∃ (v : V) (m : Nat) (t : Tst), vs = [v, .int (m : Int)] ∧ TstQ K H t v ∧ t.dep ≤ n ∧ t.dep ≤ m ∧ ∀ H', Same H H' → Q (.bl true) H'
theorem at0 {x : V} {xs : List V} : atI (x :: xs) 0 = some x := at_of (j := 0) rfl rfl
theorem at1 {x y : V} {xs : List V} : atI (x :: y :: xs) 1 = some y := at_of (j := 1) rfl rfl
theorem at2 {x y z : V} {xs : List V} : atI (x :: y :: z :: xs) 2 = some z := at_of (j := 2) rfl rfl
theorem at3 {x y z u : V} {xs : List V} : atI (x :: y :: z :: u :: xs) 3 = some u := at_of (j := 3) rfl rfl
section
variable {P : Program} {w : World} {K : PySem.W.Frag} {mg : Str → Option Value} {base : Heap}
theorem ok_is_told (T : Tx P w K mg) (B : Bx T base) : FnOk P w K mg base CX0 1 T.a_is_told T.fd_is_told ["value"] (spTold K) := by
  refine okT T.F_is_told sc_is_told (fun vs H Q E h => ?_) (fun cdv A outer s H vs Q E hcd hr h => ?_)
  · obtain ⟨p, z, xs, rfl, _⟩ := h
    rfl
  obtain ⟨p, z, xs, rfl, hp, q⟩ := h
  refine ⟨_, (pss_one (ps_ret (pe_and (pe_callB call_isiT (by rfl) T.b_isinstance (by decide +kernel) (pa_cons (pv 0) (pa_cons (pe_tup (pa_cons (pe_bltn (v := .ty "tuple") (by rfl) T.b_tuple (by decide +kernel) rfl) (pa_cons (pe_bltn (v := .ty "list") (by rfl) T.b_list (by decide +kernel) rfl) pa_nil))) pa_nil))) (pe_and (pe_cmpR op_gt (pe_callB call_len_seq (by rfl) T.b_len (by decide +kernel) (pa_cons (pv 0) pa_nil)) pe_int (nomark _)) (pe_one (pe_callB call_isi (by rfl) T.b_isinstance (by decide +kernel) (pa_cons (pe_alt (pe_ix ix_list (pv 0) pe_int (fun _ _ => rfl)) (pe_ix ix_tup (pv 0) pe_int (fun _ _ => rfl))) (pa_cons (pe_bltn (v := .ty "str") (by rfl) T.b_str (by decide +kernel) rfl) pa_nil)))))))), ?_⟩
  refine retE (isiA (vI rfl) hp fun H' s1 => ⟨true, rfl, iteT ?_⟩)
  have hp1 := hp.same s1
  refine ⟨_, rfl, p, _, rfl, hp1.lt, _, _, rfl, rfl, true, ?_, iteT ?_⟩
  · exact congrArg V.bl (decide_eq_true (by rw [List.length_cons]; omega))
  refine ixA (vI rfl) hp1 at0 ?_
  exact ⟨_, _, _, _, true, rfl, .ty _, .base (.str _), kit_ty (by decide +kernel), q _ s1⟩
theorem ok_is_small (T : Tx P w K mg) (B : Bx T base) : FnOk P w K mg base CX0 1 T.a_is_small T.fd_is_small ["value"] spSmall := by
  refine okT T.F_is_small sc_is_small (fun vs H Q E h => ?_) (fun cdv A outer s H vs Q E hcd hr h => ?_)
  · obtain ⟨n, rfl, _⟩ := h
    rfl
  obtain ⟨n, rfl, h0, h2, q⟩ := h
  refine ⟨_, (pss_one (ps_ret (pe_and (pe_callB call_isi (by rfl) T.b_isinstance (by decide +kernel) (pa_cons (pv 0) (pa_cons (pe_bltn (v := .ty "int") (by rfl) T.b_int (by decide +kernel) rfl) pa_nil))) (pe_and (pe_not (pe_callB call_isi (by rfl) T.b_isinstance (by decide +kernel) (pa_cons (pv 0) (pa_cons (pe_bltn (v := .ty "bool") (by rfl) T.b_bool (by decide +kernel) rfl) pa_nil)))) (pe_one (pe_chain op_le op_le pe_int (pv 0) pe_int)))))), ?_⟩
  refine ⟨_, rfl, _, _, _, _, true, rfl, .ty _, .base (.int _), kit_ty (by decide +kernel), true, rfl, iteT ?_⟩
  refine ⟨_, rfl, _, _, _, _, false, rfl, .ty _, .base (.int _), kit_ty (by decide +kernel), _, rfl, true, rfl, iteT ?_⟩
  refine ⟨_, rfl, _, _, rfl, rfl, true, congrArg V.bl (decide_eq_true h0), iteT ?_⟩
  refine ⟨_, _, rfl, rfl, ?_⟩
  show Q (.bl (decide (n ≤ 2))) H
  rw [decide_eq_true h2]
  exact q
def testDict : List (Key × V) := [(.inr "not", .int 2), (.inr "and", .int 3), (.inr "or", .int 3)]
theorem testDict_new : mergeK [] testDict = testDict := by
  unfold testDict
  show putK (putK (putK ([] : List (Key × V)) (.inr "not") (.int 2)) (.inr "and") (.int 3)) (.inr "or") (.int 3) = _
  rw [show putK ([] : List (Key × V)) (.inr "not") (.int 2) = [(.inr "not", .int 2)] from rfl, putK_new _ (show valV ([(.inr "not", .int 2)] : List (Key × V)) (.inr "and") = none from (valV_neg (by decide +kernel)).trans valV_nil)]
  exact putK_new _ (show valV ([(.inr "not", .int 2), (.inr "and", .int 3)] : List (Key × V)) (.inr "or") = none from (valV_neg (by decide +kernel)).trans ((valV_neg (by decide +kernel)).trans valV_nil))
theorem testDict_no : valV testDict (.inr "not") = some (.int 2) := valV_pos rfl
theorem testDict_bin (b : Bool) : valV testDict (.inr (binS b)) = some (.int 3) := by
  cases b
  · exact (valV_neg (by decide +kernel)).trans ((valV_neg (by decide +kernel)).trans (valV_pos rfl))
  · exact (valV_neg (by decide +kernel)).trans (valV_pos rfl)
theorem TstAt.same {K : PySem.W.Frag} {H H' : Hp} {t : Tst} {v : V} (s : Same H H') (h : TstQ K H t v) : TstQ K H' t v := h.mono fun _ _ h => h.same s
abbrev threeV : List V := [.str "not", .str "and", .str "or"]
/-- a test's tuple: three cases -/
theorem TstAt.three {K : PySem.W.Frag} {H : Hp} {t : Tst} {v : V} (h : TstQ K H t v) : ∃ p z xs, v = .ref p ∧ Sq K H p (.str z :: xs) ∧
    ((xs = [] ∧ inV (.str z) atomsV = true ∧ inV (.str z) threeV = false ∧ ∀ (S : SQ) H' r, S H' r [.str z] → TstAt S H' t (.ref r)) ∨
    (z = "others" ∧ ∃ n : Int, xs = [.int n] ∧ 0 ≤ n ∧ n ≤ 2 ∧ ∀ (S : SQ) H' r, S H' r [.str z, .int n] → TstAt S H' t (.ref r)) ∨
    ∃ ts : List Tst, inV (.str z) atomsV = false ∧ inV (.str z) threeV = true ∧ ¬ z = "others" ∧ valV testDict (.inr z) = some (.int ((xs.length + 1 : Nat) : Int)) ∧ Paired (fun u t' => TstQ K H t' u) xs ts ∧ (∀ t' ∈ ts, t'.dep + 1 ≤ t.dep) ∧ xs.length ≤ 2 ∧ 0 < xs.length ∧
      ∀ (S : SQ) H' r ys, S H' r (.str z :: ys) → Paired (fun y t' => TstAt S H' t' y) ys ts → TstAt S H' t (.ref r)) := by
  cases t with
  | atom z => obtain ⟨p, e, h2⟩ := h; exact ⟨p, _, _, e, h2, .inl ⟨rfl, by cases z <;> decide +kernel, by cases z <;> decide +kernel, fun S H' r h => ⟨r, rfl, h⟩⟩⟩
  | oth n => obtain ⟨h0, h1, p, e, h2⟩ := h; exact ⟨p, _, _, e, h2, .inr (.inl ⟨rfl, n, rfl, h0, h1, fun S H' r h => ⟨h0, h1, r, rfl, h⟩⟩)⟩
  | no t =>
    obtain ⟨p, u, e, h2, h3⟩ := h
    refine ⟨p, _, _, e, h2, .inr (.inr ⟨[t], by decide +kernel, by decide +kernel, by decide +kernel, testDict_no, .cons h3 .nil, fun t' ht => ?_, by simp, by simp, fun S H' r ys h pr => ?_⟩)⟩
    · rw [List.mem_singleton.mp ht]
      exact Nat.le_refl _
    · cases pr with
      | cons a b => cases b; exact ⟨r, _, rfl, h, a⟩
  | bin b t u =>
    obtain ⟨p, x, y, e, h2, h3, h4⟩ := h
    refine ⟨p, _, _, e, h2, .inr (.inr ⟨[t, u], by cases b <;> decide +kernel, by cases b <;> decide +kernel, by cases b <;> decide +kernel, testDict_bin b, .cons h3 (.cons h4 .nil), fun t' ht => ?_, by simp, by simp, fun S H' r ys h pr => ?_⟩)⟩
    · have : Tst.dep (.bin b t u) = max t.dep u.dep + 1 := rfl
      rw [this]
      rcases List.mem_cons.mp ht with rfl | ht
      · exact Nat.succ_le_succ (Nat.le_max_left _ _)
      · rw [List.mem_singleton.mp ht]
        exact Nat.succ_le_succ (Nat.le_max_right _ _)
    · cases pr with
      | cons a b1 => cases b1 with
        | cons c d => cases d; exact ⟨r, _, _, rfl, h, a, c⟩
theorem bls_true {H : Hp} : ∀ {acc : List V} {ts : List Tst}, Paired (fun y _ => y = V.bl true) acc ts → acc = (List.replicate ts.length true).map V.bl
  | _, _, .nil => rfl
  | _, _, .cons h t => by rw [h, bls_true (H := H) t]; rfl
theorem all_rep (n : Nat) : (List.replicate n true).all id = true := by
  induction n with
  | zero => rfl
  | succ n ih => rw [List.replicate_succ, List.all_cons, ih]; rfl
theorem test_step (T : Tx P w K mg) (B : Bx T base) {k n : Nat} (hk : 1 ≤ k) (okR : FnOk P w K mg base CX0 k T.a_is_test T.fd_is_test ["value", "most"] (spTest K n)) : FnOk P w K mg base CX0 (k + 1) T.a_is_test T.fd_is_test ["value", "most"] (spTest K (n + 1)) := by
  refine okT T.F_is_test sc_is_test (fun vs H Q E h => ?_) (fun cdv A outer s H vs Q E hcd hr h => ?_)
  · obtain ⟨v, m, t, rfl, _⟩ := h
    rfl
  have hu := hu_of hr
  obtain ⟨v, m, t, rfl, ht, hn, hm, q⟩ := h
  refine ⟨_, (pss_cons (ps_if (PW.pt (pw_or (pt_cmpR op_eq (pv 1) pe_int (nomark _)) (pw_or1 (pt_not (pt_val (pe_call (ok_is_told (w := w) T B) (hr.mono (by omega)) (by rfl) T.m_is_told T.F_is_told.kp T.bi_is_told .nil pass0 (pa_cons (pv 0) pa_nil)))))))
 (pss_one (ps_ret pe_bl))
 pss_nil)
 (pss_cons (ps_if (pt_cmpR op_in_seq (pe_alt (pe_ix ix_list (pv 0) pe_int (fun _ _ => rfl)) (pe_ix ix_tup (pv 0) pe_int (fun _ _ => rfl))) (pe_glob (v := .ref T.g_ATOMS) (by rfl) T.m_ATOMS rfl) (by rfl))
 (pss_one (ps_ret (pe_cmpR op_eq (pe_callB call_len_seq (by rfl) T.b_len (by decide +kernel) (pa_cons (pv 0) pa_nil)) pe_int (nomark _))))
 pss_nil)
 (pss_cons (ps_if (pt_cmpR op_eq (pe_alt (pe_ix ix_list (pv 0) pe_int (fun _ _ => rfl)) (pe_ix ix_tup (pv 0) pe_int (fun _ _ => rfl))) pe_str (nomark _))
 (pss_one (ps_ret (pe_and (pe_cmpR op_eq (pe_callB call_len_seq (by rfl) T.b_len (by decide +kernel) (pa_cons (pv 0) pa_nil)) pe_int (nomark _)) (pe_one (pe_call (ok_is_small (w := w) T B) (hr.mono (by omega)) (by rfl) T.m_is_small T.F_is_small.kp T.bi_is_small .nil pass0 (pa_cons (pe_alt (pe_ix ix_list (pv 0) pe_int (fun _ _ => rfl)) (pe_ix ix_tup (pv 0) pe_int (fun _ _ => rfl))) pa_nil))))))
 pss_nil)
 (pss_cons (ps_if (pt_cmpR op_ne (pe_callB call_len_seq (by rfl) T.b_len (by decide +kernel) (pa_cons (pv 0) pa_nil)) (pe_dget2 hu (pe_disp (pps_cons pe_str pe_int (pps_cons pe_str pe_int (pps_cons pe_str pe_int pps_nil))) (by rfl) (by rfl) (fun z => by cases z) (by decide)) (pe_alt (pe_ix ix_list (pv 0) pe_int (fun _ _ => rfl)) (pe_ix ix_tup (pv 0) pe_int (fun _ _ => rfl))) pe_int ⟨by rfl, by rfl, by rfl, by rfl⟩) (nomark _))
 (pss_one (ps_ret pe_bl))
 pss_nil)
 (pss_one (ps_ret (pe_callB (cr_all rfl) (by rfl) T.b_all (by decide +kernel) (pa_cons (pe_lc (own := [("part", 2)]) (g := gName 2) rfl sc_is_test.nd (pi_alt (pi_list (pe_alt (pe_slice sl_list (pv 0) (po_some pe_int) po_none) (pe_slice sl_tupA (pv 0) (po_some pe_int) po_none))) (pi_tup (pe_alt (pe_slice sl_list (pv 0) (po_some pe_int) po_none) (pe_slice sl_tupA (pv 0) (po_some pe_int) po_none)))) (blkOk_by (own := [("part", 2)]) (N := N_is_test) (sc := defScope s_is_test) (by decide +kernel)) (fun _ _ _ _ _ => (pg_name (i := 2) sc_is_test.nd rfl (by first | exact Or.inl rfl | exact Or.inr rfl))) (fun _ _ _ _ _ => pts_nil) (fun _ _ _ _ _ => (pe_call okR (hr.mono (by omega)) (by rfl) T.m_is_test T.F_is_test.kp T.bi_is_test .nil pass0 (pa_cons (pv 2) (pa_cons (pe_op op_sub (pv 1) pe_int) pa_nil))))) pa_nil)))))))), ?_⟩
  have hm1 : 1 ≤ t.dep := by cases t <;> simp [Tst.dep]
  obtain ⟨p, z, xs, rfl, hp, h3⟩ := ht.three
  refine ⟨_, rfl, rfl, _, rfl, ?_⟩
  rw [decide_eq_false (show ¬ V.int (m : Int) = V.int 0 from fun e => by have := V.int.inj e; omega)]
  refine iteF ?_
  refine ⟨_, rfl, p, z, xs, rfl, hp, fun H1 s1 => ⟨_, rfl, iteF ?_⟩⟩
  refine nextS ?_
  dsimp only
  have hp1 := hp.same s1
  refine ixA (vI rfl) hp1 at0 ⟨T.g_ATOMS, atomsV, rfl, .inr (T.q_ATOMS _), rfl, rfl, _, rfl, ?_⟩
  rcases h3 with ⟨rfl, hin, _⟩ | ⟨rfl, n0, rfl, n1, n2, _⟩ | ⟨ts, hin, _, hno, hv, hts, hd, hl, _⟩
  · rw [hin]
    refine iteT ?_
    refine ⟨_, rfl, p, _, rfl, hp1.lt, rfl, ?_⟩
    exact q _ s1
  · rw [show inV (.str "others") atomsV = false by decide +kernel]
    refine iteF ?_
    refine nextS ?_
    dsimp only
    refine ixA (vI rfl) hp1 at0 ⟨rfl, _, rfl, ?_⟩
    rw [decide_eq_true rfl]
    refine iteT ?_
    refine ⟨_, rfl, p, _, rfl, hp1.lt, rfl, _, rfl, iteT ?_⟩
    refine ixA (vI rfl) hp1 at1 ?_
    exact ⟨n0, rfl, n1, n2, q _ s1⟩
  rw [hin]
  refine iteF ?_
  refine nextS ?_
  dsimp only
  refine ixA (vI rfl) hp1 at0 ⟨rfl, _, rfl, ?_⟩
  rw [decide_eq_false (fun e => hno (V.str.inj e))]
  refine iteF ?_
  refine nextS ?_
  dsimp only
  refine ⟨_, rfl, p, _, rfl, hp1.lt, ?_⟩
  refine fun d hd0 => ⟨upd_same, testDict, rfl, by decide, ?_⟩
  rw [testDict_new]
  have s2 := same_two (o1 := .dK []) (o2 := .dK testDict) hd0
  have e2 : upd (upd H1 d (.dK [])) d (.dK testDict) d = some (.dK testDict) := upd_same
  generalize upd (upd H1 d (.dK [])) d (.dK testDict) = H2 at s2 e2 ⊢
  have hp2 := hp1.same s2
  refine ⟨d, rfl, .inl ⟨_, .inl e2⟩, ?_⟩
  refine ixA (vI rfl) hp2 at0 ⟨_, DGet.k (k := .inr z) e2, ?_⟩
  rw [hv]
  refine ⟨rfl, _, rfl, ?_⟩
  rw [decide_eq_true (show V.int ((V.str z :: xs).length : Int) = (some (V.int ((xs.length + 1 : Nat) : Int))).getD (V.int 0) from rfl)]
  refine iteF ?_
  refine nextS ?_
  dsimp only
  refine retE (cbI (consI (lcTail (vI rfl) hp2 fun J G H3 s3 wk hG D hD => ?_)))
  have s03 := (s1.trans s2).trans s3
  have hts3 : Paired (fun u t' => TstQ K H3 t' u) xs ts := paired_mono (fun u t' h => h.same s03) hts
  refine lcM wk yat hts3 hD hG (by rw [← hts.length]; omega) (fun _ y _ => y = .bl true) (fun _ _ _ _ _ h => h) (fun _ _ _ _ _ _ h => h) (fun i x u H4 Rk N hu0 r s4 kk => ?_) (fun H4 acc s4 hacc pr => ?_)
  · refine ⟨rfl, yes_ite ?_⟩
    have hb := hd u (List.mem_of_getElem? hu0)
    refine ⟨_, rfl, _, rfl, _, _, rfl, rfl, x, m - 1, u, ?_, r.same s4, by omega, by omega, fun H5 s5 => kk _ _ s5 rfl⟩
    show [x, V.int ((m : Int) - 1)] = [x, V.int ((m - 1 : Nat) : Int)]
    rw [show ((m - 1 : Nat) : Int) = (m : Int) - 1 by omega]
  · rw [bls_true (H := H4) pr] at hacc
    refine ⟨D, _, rfl, SqL.of hacc, ?_⟩
    rw [all_rep]
    exact q _ (s03.trans s4)
theorem test_zero (T : Tx P w K mg) (B : Bx T base) : FnOk P w K mg base CX0 1 T.a_is_test T.fd_is_test ["value", "most"] (spTest K 0) := by
  refine okT T.F_is_test sc_is_test (fun vs H Q E h => ?_) (fun cdv A outer s H vs Q E hcd hr h => ?_)
  · obtain ⟨v, m, t, rfl, _⟩ := h
    rfl
  · obtain ⟨v, m, t, rfl, ht, hn, _⟩ := h
    exact absurd hn (by cases t <;> simp [Tst.dep])
theorem test_all (T : Tx P w K mg) (B : Bx T base) : ∀ n, FnOk P w K mg base CX0 (n + 1) T.a_is_test T.fd_is_test ["value", "most"] (spTest K n)
  | 0 => test_zero T B
  | n + 1 => test_step T B (by omega) (test_all T B n)
theorem ok_is_test (T : Tx P w K mg) (B : Bx T base) : FnOk P w K mg base CX0 7 T.a_is_test T.fd_is_test ["value", "most"] (spTest K 6) := (test_all T B 6)
end
end Toy


set_option Elab.async false
set_option linter.all false
set_option maxRecDepth 100000
set_option maxHeartbeats 4000000
namespace Toy
open PySem L2 Sh ShL LamX NdefX
/-! ### is_plain, is_if -/
def spPlain (K : PySem.W.Frag) : Sp := fun vs H Q _ => ∃ (q : Addr) (n : Bn) (p : Pl), vs = [.ref q, .str n.s] ∧ Sq K H q p.vs ∧ p.ok n = true ∧ ∀ H', Same H H' → Q (.bl true) H'
theorem Pl.head (p : Pl) : ∃ z xs, p.vs = .str z :: xs := by cases p <;> exact ⟨_, _, rfl⟩
section
variable {P : Program} {w : World} {K : PySem.W.Frag} {mg : Str → Option Value} {base : Heap}
theorem ok_is_plain (T : Tx P w K mg) (B : Bx T base) : FnOk P w K mg base CX0 2 T.a_is_plain T.fd_is_plain ["value", "block"] (spPlain K) := by
  refine okT T.F_is_plain sc_is_plain (fun vs H Q E h => ?_) (fun cdv A outer s H vs Q E hcd hr h => ?_)
  · obtain ⟨q, n, p, rfl, _⟩ := h
    rfl
  obtain ⟨a, n, p, rfl, hp, hok, q⟩ := h
  refine ⟨_, (pss_cons (ps_if (pt_not (pt_val (pe_call (ok_is_told (w := w) T B) (hr.mono (by decide)) (by rfl) T.m_is_told T.F_is_told.kp T.bi_is_told .nil pass0 (pa_cons (pv 0) pa_nil))))
 (pss_one (ps_ret pe_bl))
 pss_nil)
 (pss_cons (ps_if (pt_cmpR op_in_seq (pe_alt (pe_ix ix_list (pv 0) pe_int (fun _ _ => rfl)) (pe_ix ix_tup (pv 0) pe_int (fun _ _ => rfl))) (pe_tup (pa_cons pe_str (pa_cons pe_str pa_nil))) (by rfl))
 (pss_one (ps_ret (pe_cmpR op_eq (pe_callB call_len_seq (by rfl) T.b_len (by decide +kernel) (pa_cons (pv 0) pa_nil)) pe_int (nomark _))))
 pss_nil)
 (pss_cons (ps_if (pt_cmpR (op_in_kd T.k_WHERE) (pe_alt (pe_ix ix_list (pv 0) pe_int (fun _ _ => rfl)) (pe_ix ix_tup (pv 0) pe_int (fun _ _ => rfl))) (pe_glob (v := .ref T.g_WHERE) (by rfl) T.m_WHERE rfl) (by rfl))
 (pss_one (ps_ret (pe_and (pe_cmpR op_eq (pe_callB call_len_seq (by rfl) T.b_len (by decide +kernel) (pa_cons (pv 0) pa_nil)) pe_int (nomark _)) (pe_one (pe_cmpR op_in_seq (pv 1) (pe_ix ix_kdict (pe_glob (v := .ref T.g_WHERE) (by rfl) T.m_WHERE rfl) (pe_alt (pe_ix ix_list (pv 0) pe_int (fun _ _ => rfl)) (pe_ix ix_tup (pv 0) pe_int (fun _ _ => rfl))) (fun _ _ => rfl)) (by rfl))))))
 pss_nil)
 (pss_cons (ps_if (pt_cmpR op_eq (pe_alt (pe_ix ix_list (pv 0) pe_int (fun _ _ => rfl)) (pe_ix ix_tup (pv 0) pe_int (fun _ _ => rfl))) pe_str (nomark _))
 (pss_one (ps_ret (pe_and (pe_cmpR op_eq (pe_callB call_len_seq (by rfl) T.b_len (by decide +kernel) (pa_cons (pv 0) pa_nil)) pe_int (nomark _)) (pe_one (pe_callB call_isi (by rfl) T.b_isinstance (by decide +kernel) (pa_cons (pe_alt (pe_ix ix_list (pv 0) pe_int (fun _ _ => rfl)) (pe_ix ix_tup (pv 0) pe_int (fun _ _ => rfl))) (pa_cons (pe_bltn (v := .ty "bool") (by rfl) T.b_bool (by decide +kernel) rfl) pa_nil)))))))
 pss_nil)
 (pss_one (ps_ret (pe_and (pe_cmpR op_eq (pe_alt (pe_ix ix_list (pv 0) pe_int (fun _ _ => rfl)) (pe_ix ix_tup (pv 0) pe_int (fun _ _ => rfl))) pe_str (nomark _)) (pe_and (pe_cmpR op_eq (pe_callB call_len_seq (by rfl) T.b_len (by decide +kernel) (pa_cons (pv 0) pa_nil)) pe_int (nomark _)) (pe_and (pe_callB call_isi (by rfl) T.b_isinstance (by decide +kernel) (pa_cons (pe_alt (pe_ix ix_list (pv 0) pe_int (fun _ _ => rfl)) (pe_ix ix_tup (pv 0) pe_int (fun _ _ => rfl))) (pa_cons (pe_bltn (v := .ty "str") (by rfl) T.b_str (by decide +kernel) rfl) pa_nil))) (pe_one (pe_cmpR op_in_seq (pe_alt (pe_ix ix_list (pv 0) pe_int (fun _ _ => rfl)) (pe_ix ix_tup (pv 0) pe_int (fun _ _ => rfl))) (pe_glob (v := .ref T.g_ANSWERS) (by rfl) T.m_ANSWERS rfl) (by rfl)))))))))))), ?_⟩
  obtain ⟨z, xs, ez⟩ := p.head
  refine ⟨_, rfl, a, z, xs, rfl, by rw [← ez]; exact hp, fun H1 s1 => ⟨_, rfl, iteF ?_⟩⟩
  refine nextS ?_
  dsimp only
  have hp1 := hp.same s1
  clear ez
  cases p with
  | mark =>
    refine ixA (vI rfl) hp1 at0 ⟨by decide, fun tp htp => ⟨tp, _, rfl, .inr (SqT.of upd_same), rfl, rfl, _, rfl, ?_⟩⟩
    have s2 := s1.trans (same_upd (o := .tup [V.str "mark", V.str "unmark"]) htp)
    have hp2 := hp.same s2
    rw [show inV (.str "mark") [V.str "mark", V.str "unmark"] = true by decide +kernel]
    refine iteT ?_
    refine ⟨_, rfl, a, _, rfl, hp2.lt, rfl, ?_⟩
    exact q _ s2
  | unmark =>
    refine ixA (vI rfl) hp1 at0 ⟨by decide, fun tp htp => ⟨tp, _, rfl, .inr (SqT.of upd_same), rfl, rfl, _, rfl, ?_⟩⟩
    have s2 := s1.trans (same_upd (o := .tup [V.str "mark", V.str "unmark"]) htp)
    have hp2 := hp.same s2
    rw [show inV (.str "unmark") [V.str "mark", V.str "unmark"] = true by decide +kernel]
    refine iteT ?_
    refine ⟨_, rfl, a, _, rfl, hp2.lt, rfl, ?_⟩
    exact q _ s2
  | make =>
    refine ixA (vI rfl) hp1 at0 ⟨by decide, fun tp htp => ⟨tp, _, rfl, .inr (SqT.of upd_same), rfl, rfl, _, rfl, ?_⟩⟩
    have s2 := s1.trans (same_upd (o := .tup [V.str "mark", V.str "unmark"]) htp)
    have hp2 := hp.same s2
    rw [show inV (.str "make") [V.str "mark", V.str "unmark"] = false by decide +kernel]
    refine iteF ?_
    refine nextS ?_
    dsimp only
    refine ixA (vI rfl) hp2 at0 ⟨_, _, rfl, rfl, T.kv_WHERE_make.choose_spec.1, _, rfl, iteT ?_⟩
    refine ⟨_, rfl, a, _, rfl, hp2.lt, rfl, _, rfl, iteT ?_⟩
    refine ⟨_, rfl, ixA (vI rfl) hp2 at0 ⟨_, _, _, rfl, rfl, kd_get T.k_WHERE T.kv_WHERE_make, T.g_WHERE_make, _, rfl, .inr (T.q_WHERE_make _), rfl, rfl, ?_⟩⟩
    cases n <;> first | exact absurd hok (by decide) | exact q _ s2
  | cut =>
    refine ixA (vI rfl) hp1 at0 ⟨by decide, fun tp htp => ⟨tp, _, rfl, .inr (SqT.of upd_same), rfl, rfl, _, rfl, ?_⟩⟩
    have s2 := s1.trans (same_upd (o := .tup [V.str "mark", V.str "unmark"]) htp)
    have hp2 := hp.same s2
    rw [show inV (.str "cut") [V.str "mark", V.str "unmark"] = false by decide +kernel]
    refine iteF ?_
    refine nextS ?_
    dsimp only
    refine ixA (vI rfl) hp2 at0 ⟨_, _, rfl, rfl, T.kv_WHERE_cut.choose_spec.1, _, rfl, iteT ?_⟩
    refine ⟨_, rfl, a, _, rfl, hp2.lt, rfl, _, rfl, iteT ?_⟩
    refine ⟨_, rfl, ixA (vI rfl) hp2 at0 ⟨_, _, _, rfl, rfl, kd_get T.k_WHERE T.kv_WHERE_cut, T.g_WHERE_cut, _, rfl, .inr (T.q_WHERE_cut _), rfl, rfl, ?_⟩⟩
    cases n <;> first | exact absurd hok (by decide) | exact q _ s2
  | keep =>
    refine ixA (vI rfl) hp1 at0 ⟨by decide, fun tp htp => ⟨tp, _, rfl, .inr (SqT.of upd_same), rfl, rfl, _, rfl, ?_⟩⟩
    have s2 := s1.trans (same_upd (o := .tup [V.str "mark", V.str "unmark"]) htp)
    have hp2 := hp.same s2
    rw [show inV (.str "keep") [V.str "mark", V.str "unmark"] = false by decide +kernel]
    refine iteF ?_
    refine nextS ?_
    dsimp only
    refine ixA (vI rfl) hp2 at0 ⟨_, _, rfl, rfl, T.kv_WHERE_keep.choose_spec.1, _, rfl, iteT ?_⟩
    refine ⟨_, rfl, a, _, rfl, hp2.lt, rfl, _, rfl, iteT ?_⟩
    refine ⟨_, rfl, ixA (vI rfl) hp2 at0 ⟨_, _, _, rfl, rfl, kd_get T.k_WHERE T.kv_WHERE_keep, T.g_WHERE_keep, _, rfl, .inr (T.q_WHERE_keep _), rfl, rfl, ?_⟩⟩
    cases n <;> first | exact absurd hok (by decide) | exact q _ s2
  | stop =>
    refine ixA (vI rfl) hp1 at0 ⟨by decide, fun tp htp => ⟨tp, _, rfl, .inr (SqT.of upd_same), rfl, rfl, _, rfl, ?_⟩⟩
    have s2 := s1.trans (same_upd (o := .tup [V.str "mark", V.str "unmark"]) htp)
    have hp2 := hp.same s2
    rw [show inV (.str "stop") [V.str "mark", V.str "unmark"] = false by decide +kernel]
    refine iteF ?_
    refine nextS ?_
    dsimp only
    refine ixA (vI rfl) hp2 at0 ⟨_, _, rfl, rfl, T.kv_WHERE_stop.choose_spec.1, _, rfl, iteT ?_⟩
    refine ⟨_, rfl, a, _, rfl, hp2.lt, rfl, _, rfl, iteT ?_⟩
    refine ⟨_, rfl, ixA (vI rfl) hp2 at0 ⟨_, _, _, rfl, rfl, kd_get T.k_WHERE T.kv_WHERE_stop, T.g_WHERE_stop, _, rfl, .inr (T.q_WHERE_stop _), rfl, rfl, ?_⟩⟩
    cases n <;> first | exact absurd hok (by decide) | exact q _ s2
  | flag b =>
    refine ixA (vI rfl) hp1 at0 ⟨by decide, fun tp htp => ⟨tp, _, rfl, .inr (SqT.of upd_same), rfl, rfl, _, rfl, ?_⟩⟩
    have s2 := s1.trans (same_upd (o := .tup [V.str "mark", V.str "unmark"]) htp)
    have hp2 := hp.same s2
    rw [show inV (.str "flag") [V.str "mark", V.str "unmark"] = false by decide +kernel]
    refine iteF ?_
    refine nextS ?_
    dsimp only
    refine ixA (vI rfl) hp2 at0 ⟨_, _, rfl, rfl, T.kn_WHERE_flag, _, rfl, iteF ?_⟩
    refine nextS ?_
    dsimp only
    refine ixA (vI rfl) hp2 at0 ⟨rfl, _, rfl, ?_⟩
    rw [decide_eq_true rfl]
    refine iteT ?_
    refine ⟨_, rfl, a, _, rfl, hp2.lt, rfl, _, rfl, iteT ?_⟩
    refine ixA (vI rfl) hp2 at1 ?_
    exact ⟨_, _, _, _, true, rfl, .ty _, .base (.bl _), kit_ty (by decide +kernel), q _ s2⟩
  | ret r =>
    refine ixA (vI rfl) hp1 at0 ⟨by decide, fun tp htp => ⟨tp, _, rfl, .inr (SqT.of upd_same), rfl, rfl, _, rfl, ?_⟩⟩
    have s2 := s1.trans (same_upd (o := .tup [V.str "mark", V.str "unmark"]) htp)
    have hp2 := hp.same s2
    rw [show inV (.str "return") [V.str "mark", V.str "unmark"] = false by decide +kernel]
    refine iteF ?_
    refine nextS ?_
    dsimp only
    refine ixA (vI rfl) hp2 at0 ⟨_, _, rfl, rfl, T.kn_WHERE_return, _, rfl, iteF ?_⟩
    refine nextS ?_
    dsimp only
    refine ixA (vI rfl) hp2 at0 ⟨rfl, _, rfl, ?_⟩
    rw [decide_eq_false (fun e => absurd (V.str.inj e) (by decide +kernel))]
    refine iteF ?_
    refine nextS ?_
    dsimp only
    refine retE ?_
    refine ixA (vI rfl) hp2 at0 ⟨rfl, true, ?_, iteT ?_⟩
    · rfl
    refine ⟨_, rfl, a, _, rfl, hp2.lt, rfl, _, rfl, iteT ?_⟩
    refine ixA (vI rfl) hp2 at1 ?_
    refine ⟨_, _, _, _, true, rfl, .ty _, .base (.str _), kit_ty (by decide +kernel), _, rfl, iteT ?_⟩
    refine ixA (vI rfl) hp2 at1 ?_
    refine ⟨T.g_ANSWERS, _, rfl, .inr (T.q_ANSWERS _), rfl, rfl, ?_⟩
    rw [show inV (.str r.s) [V.str "yes", V.str "no", V.str "value", V.str "node", V.str "p"] = true by cases r <;> decide +kernel]
    exact q _ s2
def spIf (K : PySem.W.Frag) : Sp := fun vs H Q _ => ∃ q : Addr, vs = [.ref q] ∧ ((∃ p : Pl, Sq K H q p.vs ∧ ∀ H', Same H H' → Q (.bl false) H') ∨
  ∃ (t : Tst) (tv : V) (pa pb : Addr) (xa xb : List V), Sq K H q [.str "if", tv, .ref pa, .ref pb] ∧ TstQ K H t tv ∧ t.dep ≤ 6 ∧ Sq K H pa xa ∧ 0 < xa.length ∧ Sq K H pb xb ∧ ∀ H', Same H H' → Q (.bl true) H')
theorem ok_is_if (T : Tx P w K mg) (B : Bx T base) : FnOk P w K mg base CX0 8 T.a_is_if T.fd_is_if ["value"] (spIf K) := by
  refine okT T.F_is_if sc_is_if (fun vs H Q E h => ?_) (fun cdv A outer s H vs Q E hcd hr h => ?_)
  · obtain ⟨q, rfl, _⟩ := h
    rfl
  obtain ⟨a, rfl, h⟩ := h
  refine ⟨_, (pss_cons (ps_if (PW.pt (pw_or (pt_not (pt_val (pe_call (ok_is_told (w := w) T B) (hr.mono (by decide)) (by rfl) T.m_is_told T.F_is_told.kp T.bi_is_told .nil pass0 (pa_cons (pv 0) pa_nil)))) (pw_or (pt_cmpR op_ne (pe_alt (pe_ix ix_list (pv 0) pe_int (fun _ _ => rfl)) (pe_ix ix_tup (pv 0) pe_int (fun _ _ => rfl))) pe_str (nomark _)) (pw_or (pt_cmpR op_ne (pe_callB call_len_seq (by rfl) T.b_len (by decide +kernel) (pa_cons (pv 0) pa_nil)) pe_int (nomark _)) (pw_or1 (pt_not (pt_val (pe_call (ok_is_test (w := w) T B) (hr.mono (by decide)) (by rfl) T.m_is_test T.F_is_test.kp T.bi_is_test .nil pass0 (pa_cons (pe_alt (pe_ix ix_list (pv 0) pe_int (fun _ _ => rfl)) (pe_ix ix_tup (pv 0) pe_int (fun _ _ => rfl))) (pa_cons (pe_glob (v := .int 6) (by rfl) T.m_MOST_TESTS.choose_spec ⟨_, rfl⟩) pa_nil))))))))))
 (pss_one (ps_ret pe_bl))
 pss_nil)
 (pss_one (ps_ret (pe_and (pe_callB call_isiT (by rfl) T.b_isinstance (by decide +kernel) (pa_cons (pe_alt (pe_ix ix_list (pv 0) pe_int (fun _ _ => rfl)) (pe_ix ix_tup (pv 0) pe_int (fun _ _ => rfl))) (pa_cons (pe_tup (pa_cons (pe_bltn (v := .ty "tuple") (by rfl) T.b_tuple (by decide +kernel) rfl) (pa_cons (pe_bltn (v := .ty "list") (by rfl) T.b_list (by decide +kernel) rfl) pa_nil))) pa_nil))) (pe_and (pe_cmpR op_gt (pe_callB call_len_seq (by rfl) T.b_len (by decide +kernel) (pa_cons (pe_alt (pe_ix ix_list (pv 0) pe_int (fun _ _ => rfl)) (pe_ix ix_tup (pv 0) pe_int (fun _ _ => rfl))) pa_nil)) pe_int (nomark _)) (pe_one (pe_callB call_isiT (by rfl) T.b_isinstance (by decide +kernel) (pa_cons (pe_alt (pe_ix ix_list (pv 0) pe_int (fun _ _ => rfl)) (pe_ix ix_tup (pv 0) pe_int (fun _ _ => rfl))) (pa_cons (pe_tup (pa_cons (pe_bltn (v := .ty "tuple") (by rfl) T.b_tuple (by decide +kernel) rfl) (pa_cons (pe_bltn (v := .ty "list") (by rfl) T.b_list (by decide +kernel) rfl) pa_nil))) pa_nil))))))))), ?_⟩
  rcases h with ⟨p, hp, q⟩ | ⟨t, tv, pa, pb, xa, xb, hp, ht, hd, ha, hl, hb, q⟩
  · obtain ⟨z, xs, ez⟩ := p.head
    have hz : ¬ z = "if" := by
      cases p <;> (cases ez; decide +kernel)
    rw [ez] at hp
    refine ⟨_, rfl, a, z, xs, rfl, hp, fun H1 s1 => ⟨_, rfl, iteF ?_⟩⟩
    have hp1 := hp.same s1
    refine ixA (vI rfl) hp1 at0 ⟨rfl, _, rfl, ?_⟩
    rw [decide_eq_false (fun e => hz (V.str.inj e))]
    refine iteT ?_
    exact iteT (q _ s1)
  refine ⟨_, rfl, a, _, _, rfl, hp, fun H1 s1 => ⟨_, rfl, iteF ?_⟩⟩
  have hp1 := hp.same s1
  refine ixA (vI rfl) hp1 at0 ⟨rfl, _, rfl, ?_⟩
  rw [decide_eq_true rfl]
  refine iteF ?_
  refine ⟨_, rfl, a, _, rfl, hp1.lt, rfl, _, rfl, iteF ?_⟩
  refine ixA (vI rfl) hp1 at1 ?_
  refine ⟨tv, 6, t, rfl, ht.same s1, hd, hd, fun H2 s2 => ⟨_, rfl, iteF ?_⟩⟩
  refine nextS ?_
  dsimp only
  have s12 := s1.trans s2
  have hp2 := hp.same s12
  refine retE ?_
  have ha2 := ha.same s12
  refine isiA (fun R h => ixA (vI rfl) hp2 at2 h) ha2 fun H3 s3 => ⟨true, rfl, iteT ?_⟩
  have hp3 := hp2.same s3
  have ha3 := ha2.same s3
  refine ixA (vI rfl) hp3 at2 ⟨pa, xa, rfl, ha3.lt, _, _, rfl, rfl, true, congrArg V.bl (decide_eq_true (by omega)), iteT ?_⟩
  refine isiA (fun R h => ixA (vI rfl) hp3 at3 h) (hb.same (s12.trans s3)) fun H4 s4 => ?_
  exact q _ ((s12.trans s3).trans s4)
end
end Toy


set_option Elab.async false
set_option linter.all false
set_option maxRecDepth 100000
set_option maxHeartbeats 4000000
namespace Toy
open PySem L2 Sh ShL LamX NdefX
/-! ### looked_over -/
def Blk.app : Blk → Blk → Blk
  | .nil, c => c
  | .st p r, c => .st p (r.app c)
  | .ife t a b r, c => .ife t a b (r.app c)
theorem Blk.app_size : ∀ a c : Blk, (a.app c).size = a.size + c.size
  | .nil, c => by show c.size = 0 + c.size; omega
  | .st p r, c => by show (r.app c).size + 1 = r.size + 1 + c.size; rw [r.app_size c]; omega
  | .ife t a b r, c => by show a.size + b.size + (r.app c).size + 1 = a.size + b.size + r.size + 1 + c.size; rw [r.app_size c]; omega
theorem Blk.app_ok {n : Bn} : ∀ {a c : Blk}, a.ok n → c.ok n → (a.app c).ok n
  | .nil, c, _, h => h
  | .st p r, c, h, k => ⟨h.1, Blk.app_ok h.2 k⟩
  | .ife t a b r, c, h, k => ⟨h.1, h.2.1, h.2.2.1, h.2.2.2.1, Blk.app_ok h.2.2.2.2 k⟩
theorem BlkV.app {S : SQ} {H : Hp} : ∀ {a c : Blk} {xs ys : List V}, BlkV S H a xs → BlkV S H c ys → BlkV S H (a.app c) (xs ++ ys)
  | .nil, c, xs, ys, h, k => by rw [show xs = [] from h]; exact k
  | .st p r, c, xs, ys, h, k => by
    obtain ⟨q, ws, rfl, h1, h2⟩ := h
    exact ⟨q, ws ++ ys, rfl, h1, BlkV.app h2 k⟩
  | .ife t a b r, c, xs, ys, h, k => by
    obtain ⟨q, tv, pa, pb, xa, xb, ws, rfl, h1, h2, h3, h4, h5, h6, h7⟩ := h
    exact ⟨q, tv, pa, pb, xa, xb, ws ++ ys, rfl, h1, h2, h3, h4, h5, h6, BlkV.app h7 k⟩
theorem pop_rev (v : V) (ws : List V) : ((v :: ws).reverse)[(v :: ws).reverse.length - 1]? = some v ∧ (v :: ws).reverse.dropLast = ws.reverse := by
  rw [List.reverse_cons]
  refine ⟨?_, by rw [List.dropLast_concat]⟩
  rw [List.length_append, List.length_singleton, Nat.add_sub_cancel, List.getElem?_append_right (Nat.le_refl _), Nat.sub_self]
  rfl
def spLook (K : PySem.W.Frag) : Sp := fun vs H Q _ => ∃ (p : Addr) (n : Bn) (b : Blk) (xs : List V), vs = [.str n.s, .ref p] ∧ Sq K H p xs ∧ BlkV (Sq K) H b xs ∧ b.ok n ∧ b.size ≤ 10000 ∧ ∀ H', Same H H' → Q (.int (b.size : Nat)) H'
section
variable {P : Program} {w : World} {K : PySem.W.Frag} {mg : Str → Option Value} {base : Heap}
theorem ok_looked_over (T : Tx P w K mg) (B : Bx T base) : FnOk P w K mg base CX0 9 T.a_looked_over T.fd_looked_over ["name", "block"] (spLook K) := by
  refine okT T.F_looked_over sc_looked_over (fun vs H Q E h => ?_) (fun cdv A outer s H vs Q E hcd hr h => ?_)
  · obtain ⟨p, n, b, xs, rfl, _⟩ := h
    rfl
  obtain ⟨p, n, b, xs, rfl, hp, hb, hok, hsz, q⟩ := h
  refine ⟨_, (pss_cons (ps_if (pt_not (pt_val (pe_callB call_isiT (by rfl) T.b_isinstance (by decide +kernel) (pa_cons (pv 1) (pa_cons (pe_tup (pa_cons (pe_bltn (v := .ty "tuple") (by rfl) T.b_tuple (by decide +kernel) rfl) (pa_cons (pe_bltn (v := .ty "list") (by rfl) T.b_list (by decide +kernel) rfl) pa_nil))) pa_nil)))))
 (pss_one ps_never)
 pss_nil)
 (pss_cons (ps_par (i := 2) (j := 3) (by rfl) sc_looked_over.nd rfl rfl (by decide) rfl rfl (pa_cons pe_int (pa_cons (pe_callTy call_list_of (by rfl) T.b_list (by decide +kernel) (pa_cons (pe_alt (pe_revL (pv 1)) (pe_revT (pv 1))) pa_nil)) pa_nil)) (by rfl))
 (pss_cons (ps_while PassesOwn.never (pt_truth (pv 3) (by intro _; rfl))
 (pss_cons (ps_set (i := 4) sc_looked_over.nd rfl (by first | exact Or.inl rfl | exact Or.inr rfl) (pe_bm0 PySem.F.plainAttrs_list PySem.F.slot_list_pop PySem.F.type_list_pop mt_pop (pv 3)))
 (pss_cons (ps_if (pt_val (pe_call (ok_is_if (w := w) T B) (hr.mono (by decide)) (by rfl) T.m_is_if T.F_is_if.kp T.bi_is_if .nil pass0 (pa_cons (pv 4) pa_nil)))
 (pss_one (ps_expr (pe_bm PySem.F.plainAttrs_list PySem.F.slot_list_extend PySem.F.type_list_extend mt_extend (pv 3) (pa_cons (pe_op op_cat (pe_callTy call_list_of (by rfl) T.b_list (by decide +kernel) (pa_cons (pe_alt (pe_revL (pe_alt (pe_ix ix_list (pv 4) pe_int (fun _ _ => rfl)) (pe_ix ix_tup (pv 4) pe_int (fun _ _ => rfl)))) (pe_revT (pe_alt (pe_ix ix_list (pv 4) pe_int (fun _ _ => rfl)) (pe_ix ix_tup (pv 4) pe_int (fun _ _ => rfl))))) pa_nil)) (pe_callTy call_list_of (by rfl) T.b_list (by decide +kernel) (pa_cons (pe_alt (pe_revL (pe_alt (pe_ix ix_list (pv 4) pe_int (fun _ _ => rfl)) (pe_ix ix_tup (pv 4) pe_int (fun _ _ => rfl)))) (pe_revT (pe_alt (pe_ix ix_list (pv 4) pe_int (fun _ _ => rfl)) (pe_ix ix_tup (pv 4) pe_int (fun _ _ => rfl))))) pa_nil))) pa_nil))))
 (pss_one (ps_if (pt_not (pt_val (pe_call (ok_is_plain (w := w) T B) (hr.mono (by decide)) (by rfl) T.m_is_plain T.F_is_plain.kp T.bi_is_plain .nil pass0 (pa_cons (pv 4) (pa_cons (pv 0) pa_nil)))))
 (pss_one ps_never)
 pss_nil)))
 (pss_one (ps_aug (i := 2) sc_looked_over.nd rfl (by first | exact Or.inl rfl | exact Or.inr rfl) pe_int ip_add)))))
 (pss_one (ps_ret (pv 2)))))), ?_⟩
  refine isiA (vI rfl) hp fun H1 s1 => ⟨true, rfl, iteF ?_⟩
  refine nextS ?_
  dsimp only
  refine revA (vI rfl) (hp.same s1) fun l H2 _ s2 hl => ⟨l, _, rfl, hl.lt, fun W hW => ?_⟩
  have s12 := s1.trans s2
  refine ⟨_, _, rfl, ?_⟩
  dsimp only
  refine whileI ?_
  refine ⟨fun m σ H' => ∃ (v4 : Option V) (rest : Blk) (vs : List V), m = rest.size ∧ rest.size ≤ b.size ∧ σ = [some (.str n.s), some (.ref p), some (.int ((b.size : Int) - (rest.size : Int))), some (.ref W), v4] ∧ Same H2 H' ∧ H' W = some (.lst vs.reverse) ∧ BlkV (Sq K) H2 rest vs ∧ rest.ok n, ⟨b.size, ?_⟩, ?_⟩
  · refine ⟨none, b, xs, rfl, Nat.le_refl _, ?_, same_upd hW, upd_same, BlkV.mono (fun _ _ h => h.same s12) hb, hok⟩
    rw [Int.sub_self]
    rfl
  rintro m σ H3 ⟨v4, rest, vs, rfl, hle, rfl, s3, hW3, hv, hrok⟩
  refine ⟨_, rfl, !vs.reverse.isEmpty, .inl ⟨_, SqL.of hW3, rfl⟩, ?_⟩
  have s13 := s12.trans s3
  cases rest with
  | nil =>
    obtain rfl : vs = [] := hv
    refine iteF ?_
    refine ⟨_, rfl, ?_⟩
    have := q H3 s13
    rwa [show ((b.size : Int) - ((Blk.nil).size : Int)) = (b.size : Int) by show (b.size : Int) - ((0 : Nat) : Int) = _; omega]
  | st pl r =>
    obtain ⟨qa, ws, rfl, h1, h2⟩ := hv
    obtain ⟨e1, e2⟩ := pop_rev (.ref qa) ws
    rw [show (!(V.ref qa :: ws).reverse.isEmpty) = true by simp]
    refine iteT ?_
    refine ⟨_, fun σ' H' h => ⟨r.size, Nat.lt_succ_self _, h⟩, ?_⟩
    refine asgI ⟨_, rfl, .inl ⟨rfl, _, SqL.of hW3⟩, W, _, .ref qa, rfl, rfl, hW3, e1, ?_⟩
    rw [e2]
    dsimp only [gName]
    have s4 : Same H2 (upd H3 W (.lst ws.reverse)) := fun c o h => by rw [upd_ne (ne_of_none h hW)]; exact s3 _ _ h
    refine ⟨_, rfl, qa, rfl, .inl ⟨pl, h1.same s4, fun H4 s5 => ⟨_, rfl, iteF ?_⟩⟩⟩
    refine ⟨_, rfl, _, rfl, qa, n, pl, rfl, h1.same (s4.trans s5), hrok.1, fun H5 s6 => ⟨_, rfl, iteF ?_⟩⟩
    refine nextS ?_
    refine ⟨_, rfl, _, _, rfl, rfl, ?_⟩
    have s56 := s5.trans s6
    refine ⟨some (.ref qa), r, ws, rfl, Nat.le_trans (Nat.le_succ _) hle, ?_, s4.trans s56, s56 _ _ upd_same, h2, hrok.2⟩
    show [some (V.str n.s), some (V.ref p), some (V.int ((b.size : Int) - ((r.size + 1 : Nat) : Int) + 1)), some (V.ref W), some (V.ref qa)] = _
    rw [show (b.size : Int) - ((r.size + 1 : Nat) : Int) + 1 = (b.size : Int) - (r.size : Int) by omega]
  | ife t a c r =>
    obtain ⟨qa, tv, pa, pb, xa, xb, ws, rfl, h1, h2, h3, h4, h5, h6, h7⟩ := hv
    obtain ⟨e1, e2⟩ := pop_rev (.ref qa) ws
    obtain ⟨k1, k2, k3, k4, k5⟩ := hrok
    rw [show (!(V.ref qa :: ws).reverse.isEmpty) = true by simp]
    refine iteT ?_
    have esz : (Blk.ife t a c r).size = a.size + c.size + r.size + 1 := rfl
    refine ⟨_, fun σ' H' h => ⟨(a.app (c.app r)).size, by rw [Blk.app_size, Blk.app_size, esz]; omega, h⟩, ?_⟩
    refine asgI ⟨_, rfl, .inl ⟨rfl, _, SqL.of hW3⟩, W, _, .ref qa, rfl, rfl, hW3, e1, ?_⟩
    rw [e2]
    dsimp only [gName]
    have s4 : Same H2 (upd H3 W (.lst ws.reverse)) := fun c o h => by rw [upd_ne (ne_of_none h hW)]; exact s3 _ _ h
    have hla : 0 < xa.length := by rw [h4.len]; exact k2
    refine ⟨_, rfl, qa, rfl, .inr ⟨t, tv, pa, pb, xa, xb, h1.same s4, h2.same s4, k1, h3.same s4, hla, h5.same s4, fun H4 s5 => ⟨_, rfl, iteT ?_⟩⟩⟩
    have s45 := s4.trans s5
    have w4 : H4 W = some (.lst ws.reverse) := s5 _ _ upd_same
    refine ⟨_, rfl, .inl ⟨rfl, _, SqL.of w4⟩, ?_⟩
    refine revA (fun R h => ixA (vI rfl) (h1.same s45) at3 h) (h5.same s45) fun l1 H5 n5 s6 hl1 => ⟨l1, _, rfl, hl1.lt, fun m1 hm1 => ?_⟩
    have s7 := same_upd (o := .lst xb.reverse) hm1
    have s47 := (s45.trans s6).trans s7
    refine revA (fun R h => ixA (vI rfl) (h1.same s47) at2 h) (h3.same s47) fun l2 H6 n6 s8 hl2 => ⟨l2, _, rfl, hl2.lt, fun m2 hm2 => ?_⟩
    have s9 := same_upd (o := .lst xa.reverse) hm2
    have lsz : xa.length ≤ 10000 ∧ xb.length ≤ 10000 ∧ ws.length ≤ 10000 := by
      have := a.len_size
      have := c.len_size
      have := r.len_size
      rw [h4.len, h6.len, h7.len]
      rw [esz] at hle
      omega
    refine ⟨m1, m2, xb.reverse, xa.reverse, rfl, rfl, s9 _ _ (s8 _ _ upd_same), upd_same, ?_, fun m3 hm3 => ?_⟩
    · rw [List.length_reverse, List.length_reverse, sizeLine_eq]
      omega
    have s10 := same_upd (o := .lst (xb.reverse ++ xa.reverse)) hm3
    have s5a := (((s6.trans s7).trans s8).trans s9).trans s10
    refine ⟨W, m3, ws.reverse, xb.reverse ++ xa.reverse, rfl, rfl, s5a _ _ w4, upd_same, ?_, ?_⟩
    · rw [List.length_append, List.length_reverse, List.length_reverse, List.length_reverse, sizeLine_eq]
      omega
    refine ⟨_, rfl, _, _, rfl, rfl, ?_⟩
    refine ⟨some (.ref qa), a.app (c.app r), xa ++ (xb ++ ws), rfl, ?_, ?_, ?_, ?_, h4.app (h6.app h7), Blk.app_ok k3 (Blk.app_ok k4 k5)⟩
    · rw [Blk.app_size, Blk.app_size]
      rw [esz] at hle
      omega
    · show [some (V.str n.s), some (V.ref p), some (V.int ((b.size : Int) - (((Blk.ife t a c r).size : Nat) : Int) + 1)), some (V.ref W), some (V.ref qa)] = _
      rw [esz, Blk.app_size, Blk.app_size]
      rw [show (b.size : Int) - ((a.size + c.size + r.size + 1 : Nat) : Int) + 1 = (b.size : Int) - ((a.size + (c.size + r.size) : Nat) : Int) by omega]
    · intro d o h
      rw [upd_ne (ne_of_none h hW)]
      exact (s45.trans s5a) _ _ h
    · rw [upd_same, List.reverse_append, List.reverse_append, List.append_assoc]
end
end Toy


set_option Elab.async false
set_option linter.all false
set_option maxRecDepth 100000
set_option maxHeartbeats 4000000
namespace Toy
open PySem L2 Sh ShL LamX NdefX
/-! ### kept_test -/
theorem SqU.putL {K : PySem.W.Frag} {H : Hp} {D p : Addr} {acc acc' xs : List V} (e : H D = some (.lst acc)) (h : SqU K H p xs) : SqU K (upd H D (.lst acc')) p xs := h.imp (fun h => by rw [upd_ne (ne_of h e (by intro z; cases z))]; exact h) id
def spKeptT (K : PySem.W.Frag) (n : Nat) : Sp := fun vs H Q _ => ∃ (v : V) (t : Tst), vs = [v] ∧ TstQ K H t v ∧ t.dep ≤ n ∧ ∀ H' r, Same H H' → TstAt (SqU K) H' t r → Q r H'
section
variable {P : Program} {w : World} {K : PySem.W.Frag} {mg : Str → Option Value} {base : Heap}
/-- tuple(x) of a list or a tuple -/
theorem tupleA {te : TE} {σ : L2.St} {H : Hp} {Q : VK} {p : Addr} {xs : List V} (hv : ∀ R : VK, R (.ref p) H → te σ H R) (hs : Sq K H p xs) (q : ∀ l H', Same H H' → SqU K H' l xs → Q (.ref l) H') :
    tCB (fun xs H_1 Q => ∃ p ys, xs = [V.ref p] ∧ ((SqL K H_1 p ys ∧ ∀ (l : Addr), H_1 l = none → Q (V.ref l) (upd H_1 l (HO.tup ys))) ∨ SqT K H_1 p ys ∧ Q (V.ref p) H_1)) (tCons te tNil) σ H Q :=
  hv _ ⟨p, xs, rfl, hs.elim (fun h => .inl ⟨h, fun l hl => q l _ (same_upd hl) (SqU.of upd_same)⟩) fun h => .inr ⟨h.t, q p H (Same.refl _) h⟩⟩
theorem keptT_step (T : Tx P w K mg) (B : Bx T base) {k n : Nat} (okR : FnOk P w K mg base CX0 k T.a_kept_test T.fd_kept_test ["test"] (spKeptT K n)) : FnOk P w K mg base CX0 (k + 1) T.a_kept_test T.fd_kept_test ["test"] (spKeptT K (n + 1)) := by
  refine okT T.F_kept_test sc_kept_test (fun vs H Q E h => ?_) (fun cdv A outer s H vs Q E hcd hr h => ?_)
  · obtain ⟨v, t, rfl, _⟩ := h
    rfl
  obtain ⟨v, t, rfl, ht, hn, q⟩ := h
  refine ⟨_, (pss_cons (ps_if (pt_cmpR op_in_seq (pe_alt (pe_ix ix_list (pv 0) pe_int (fun _ _ => rfl)) (pe_ix ix_tup (pv 0) pe_int (fun _ _ => rfl))) (pe_tup (pa_cons pe_str (pa_cons pe_str (pa_cons pe_str pa_nil)))) (by rfl))
 (pss_one (ps_ret (pe_op op_catA (pe_tup (pa_cons (pe_alt (pe_ix ix_list (pv 0) pe_int (fun _ _ => rfl)) (pe_ix ix_tup (pv 0) pe_int (fun _ _ => rfl))) pa_nil)) (pe_callTy call_tuple_of (by rfl) T.b_tuple (by decide +kernel) (pa_cons (pe_lc (own := [("part", 1)]) (g := gName 1) rfl sc_kept_test.nd (pi_alt (pi_list (pe_alt (pe_slice sl_list (pv 0) (po_some pe_int) po_none) (pe_slice sl_tupA (pv 0) (po_some pe_int) po_none))) (pi_tup (pe_alt (pe_slice sl_list (pv 0) (po_some pe_int) po_none) (pe_slice sl_tupA (pv 0) (po_some pe_int) po_none)))) (blkOk_by (own := [("part", 1)]) (N := N_kept_test) (sc := defScope s_kept_test) (by decide +kernel)) (fun _ _ _ _ _ => (pg_name (i := 1) sc_kept_test.nd rfl (by first | exact Or.inl rfl | exact Or.inr rfl))) (fun _ _ _ _ _ => pts_nil) (fun _ _ _ _ _ => (pe_call okR (hr.mono (by omega)) (by rfl) T.m_kept_test T.F_kept_test.kp T.bi_kept_test .nil pass0 (pa_cons (pv 1) pa_nil)))) pa_nil)))))
 pss_nil)
 (pss_one (ps_ret (pe_callTy call_tuple_of (by rfl) T.b_tuple (by decide +kernel) (pa_cons (pv 0) pa_nil))))), ?_⟩
  obtain ⟨p, z, xs, rfl, hp, h3⟩ := ht.three
  refine ixA (vI rfl) hp at0 ⟨by decide, fun tp htp => ⟨tp, _, rfl, .inr (SqT.of upd_same), rfl, rfl, _, rfl, ?_⟩⟩
  have s1 := same_upd (o := .tup [V.str "not", V.str "and", V.str "or"]) htp
  have hp1 := hp.same s1
  rcases h3 with ⟨rfl, _, hin, mk⟩ | ⟨rfl, n0, rfl, _, _, mk⟩ | ⟨ts, _, hin, _, _, hts, hd, hl, hl0, mk⟩
  · rw [hin]
    refine iteF ?_
    refine nextS ?_
    dsimp only
    exact retE (tupleA (vI rfl) hp1 fun l H' s2 h => q _ _ (s1.trans s2) (mk _ _ _ h))
  · rw [show inV (.str "others") [V.str "not", V.str "and", V.str "or"] = false by decide +kernel]
    refine iteF ?_
    refine nextS ?_
    dsimp only
    exact retE (tupleA (vI rfl) hp1 fun l H' s2 h => q _ _ (s1.trans s2) (mk _ _ _ h))
  rw [hin]
  refine iteT ?_
  refine retE ?_
  refine ixA (vI rfl) hp1 at0 ⟨by show 1 ≤ sizeLine; decide, fun t1 ht1 => ?_⟩
  have s2 := same_upd (o := .tup [V.str z]) ht1
  have hp2 := hp1.same s2
  have e2 : upd (upd H tp (.tup [V.str "not", V.str "and", V.str "or"])) t1 (.tup [V.str z]) t1 = some (.tup [V.str z]) := upd_same
  have s12 := s1.trans s2
  generalize upd (upd H tp (.tup [V.str "not", V.str "and", V.str "or"])) t1 (.tup [V.str z]) = H2 at hp2 e2 s12 ⊢
  refine cbI (consI (lcTail (vI rfl) hp2 fun J G H3 s3 wk hG D hD => ?_))
  have s13 := s12.trans s3
  have hts3 : Paired (fun u t' => TstQ K H3 t' u) xs ts := paired_mono (fun u t' h => h.same s13) hts
  refine lcM wk yat hts3 hD hG (by rw [← hts.length]; omega) (fun H y t' => TstAt (SqU K) H t' y) (fun _ _ _ _ s h => h.mono fun _ _ h => h.same s) (fun _ _ _ _ _ e h => h.mono fun _ _ h => h.putL e) (fun i x u H4 Rk N hu0 r s4 kk => ?_) (fun H4 acc s4 hacc pr => ?_)
  · refine ⟨rfl, yes_ite ?_⟩
    have hb := hd u (List.mem_of_getElem? hu0)
    exact ⟨_, rfl, x, u, rfl, r.same s4, by omega, fun H5 r5 s5 h5 => kk _ _ s5 h5⟩
  · have s14 := s13.trans s4
    refine ⟨D, acc, rfl, .inl ⟨SqL.of hacc, fun l hl' => ?_⟩⟩
    have s5 := same_upd (o := .tup acc) hl'
    refine ⟨t1, l, _, _, rfl, rfl, .inl (.inl (s5 _ _ (s4 _ _ (s3 _ _ e2)))), SqT.of upd_same, ?_, fun z => absurd z (by simp), fun _ z => ?_, fun _ _ r hr' => ?_⟩
    · have := pr.length
      rw [← hts.length] at this
      rw [sizeLine_eq]
      simp
      omega
    · have := pr.length
      rw [← hts.length, z] at this
      simp at this
      omega
    · have s6 := same_upd (o := .tup ([V.str z] ++ acc)) hr'
      refine q _ _ (s14.trans (s5.trans s6)) (mk _ _ _ acc (SqU.of upd_same) ?_)
      exact paired_mono (fun y t' h => h.mono fun _ _ h => h.same (s5.trans s6)) pr
theorem keptT_zero (T : Tx P w K mg) (B : Bx T base) : FnOk P w K mg base CX0 1 T.a_kept_test T.fd_kept_test ["test"] (spKeptT K 0) := by
  refine okT T.F_kept_test sc_kept_test (fun vs H Q E h => ?_) (fun cdv A outer s H vs Q E hcd hr h => ?_)
  · obtain ⟨v, t, rfl, _⟩ := h
    rfl
  · obtain ⟨v, t, rfl, ht, hn, _⟩ := h
    exact absurd hn (by cases t <;> simp [Tst.dep])
theorem keptT_all (T : Tx P w K mg) (B : Bx T base) : ∀ n, FnOk P w K mg base CX0 (n + 1) T.a_kept_test T.fd_kept_test ["test"] (spKeptT K n)
  | 0 => keptT_zero T B
  | n + 1 => keptT_step T B (keptT_all T B n)
theorem ok_kept_test (T : Tx P w K mg) (B : Bx T base) : FnOk P w K mg base CX0 7 T.a_kept_test T.fd_kept_test ["test"] (spKeptT K 6) := keptT_all T B 6
end
end Toy


set_option Elab.async false
set_option linter.all false
set_option maxRecDepth 100000
set_option maxHeartbeats 4000000
namespace Toy
open PySem L2 Sh ShL LamX NdefX
/-! ### kept_block -/
inductive Hd
  | st (p : Pl)
  | ife (t : Tst) (a b : Blk)
def Blk.hs : Blk → List Hd
  | .nil => []
  | .st p r => .st p :: r.hs
  | .ife t a b r => .ife t a b :: r.hs
def HdAt (S : SQ) (H : Hp) (v : V) : Hd → Prop
  | .st p => ∃ q, v = .ref q ∧ S H q p.vs
  | .ife t a b => ∃ q tv pa pb xa xb, v = .ref q ∧ S H q [.str "if", tv, .ref pa, .ref pb] ∧ TstAt S H t tv ∧ S H pa xa ∧ BlkV S H a xa ∧ S H pb xb ∧ BlkV S H b xb
theorem HdAt.mono {S S' : SQ} {H H' : Hp} (s : ∀ p xs, S H p xs → S' H' p xs) {v : V} : ∀ {h : Hd}, HdAt S H v h → HdAt S' H' v h
  | .st p, h => by obtain ⟨q, e, h1⟩ := h; exact ⟨q, e, s _ _ h1⟩
  | .ife t a b, h => by
    obtain ⟨q, tv, pa, pb, xa, xb, e, h1, h2, h3, h4, h5, h6⟩ := h
    exact ⟨q, tv, pa, pb, xa, xb, e, s _ _ h1, h2.mono s, s _ _ h3, h4.mono s, s _ _ h5, h6.mono s⟩
theorem BlkV.hs {S : SQ} {H : Hp} : ∀ {b : Blk} {vs : List V}, BlkV S H b vs → Paired (fun v h => HdAt S H v h) vs b.hs
  | .nil, vs, h => by rw [show vs = [] from h]; exact .nil
  | .st p r, vs, h => by obtain ⟨q, ws, rfl, h1, h2⟩ := h; exact .cons ⟨q, rfl, h1⟩ (BlkV.hs h2)
  | .ife t a b r, vs, h => by
    obtain ⟨q, tv, pa, pb, xa, xb, ws, rfl, h1, h2, h3, h4, h5, h6, h7⟩ := h
    exact .cons ⟨q, tv, pa, pb, xa, xb, rfl, h1, h2, h3, h4, h5, h6⟩ (BlkV.hs h7)
theorem BlkV.of_hs {S : SQ} {H : Hp} : ∀ {b : Blk} {vs : List V}, Paired (fun v h => HdAt S H v h) vs b.hs → BlkV S H b vs
  | .nil, vs, h => by cases h; rfl
  | .st p r, _, .cons ⟨q, e, h1⟩ t => ⟨q, _, by rw [e], h1, BlkV.of_hs t⟩
  | .ife t a b r, _, .cons ⟨q, tv, pa, pb, xa, xb, e, h1, h2, h3, h4, h5, h6⟩ t' => ⟨q, tv, pa, pb, xa, xb, _, by rw [e], h1, h2, h3, h4, h5, h6, BlkV.of_hs t'⟩
/-- tests of six within one another at most -/
def Blk.okT : Blk → Prop
  | .nil => True
  | .st _ r => r.okT
  | .ife t a b r => t.dep ≤ 6 ∧ a.okT ∧ b.okT ∧ r.okT
theorem Blk.ok.okT {n : Bn} : ∀ {b : Blk}, b.ok n → b.okT
  | .nil, _ => True.intro
  | .st _ r, h => Blk.ok.okT (b := r) h.2
  | .ife t a b r, h => ⟨h.1, Blk.ok.okT (b := a) h.2.2.1, Blk.ok.okT (b := b) h.2.2.2.1, Blk.ok.okT (b := r) h.2.2.2.2⟩
def Hd.fine (n : Nat) : Hd → Prop
  | .st _ => True
  | .ife t a b => t.dep ≤ 6 ∧ a.okT ∧ b.okT ∧ a.dep ≤ n ∧ b.dep ≤ n ∧ a.size ≤ 10000 ∧ b.size ≤ 10000
theorem Blk.fine {n : Nat} : ∀ {b : Blk}, b.okT → b.dep ≤ n + 1 → b.size ≤ 10000 → ∀ h ∈ b.hs, h.fine n
  | .nil, _, _, _, h, hm => nomatch hm
  | .st p r, h1, h2, h3, h, hm => by
    rcases List.mem_cons.mp hm with rfl | hm
    · exact True.intro
    · exact Blk.fine (b := r) h1 h2 (Nat.le_trans (Nat.le_succ _) h3) h hm
  | .ife t a b r, h1, h2, h3, h, hm => by
    obtain ⟨k1, k2, k3, k4⟩ := h1
    have e1 : max (max a.dep b.dep + 1) r.dep ≤ n + 1 := h2
    have e2 : a.size + b.size + r.size + 1 ≤ 10000 := h3
    rcases List.mem_cons.mp hm with rfl | hm
    · exact ⟨k1, k2, k3, by omega, by omega, by omega, by omega⟩
    · exact Blk.fine (b := r) k4 (by omega) (by omega) h hm
theorem Blk.hs_len : ∀ b : Blk, b.hs.length = b.len
  | .nil => rfl
  | .st p r => congrArg Nat.succ r.hs_len
  | .ife t a b r => congrArg Nat.succ r.hs_len
def spKeptB (K : PySem.W.Frag) (n : Nat) : Sp := fun vs H Q _ => ∃ (p : Addr) (b : Blk) (xs : List V), vs = [.ref p] ∧ Sq K H p xs ∧ BlkV (Sq K) H b xs ∧ b.okT ∧ b.dep ≤ n ∧ b.size ≤ 10000 ∧ ∀ H' l ys, Same H H' → SqU K H' l ys → BlkV (SqU K) H' b ys → Q (.ref l) H'
theorem Blk.dep_pos : ∀ b : Blk, 1 ≤ b.dep
  | .nil => Nat.le_refl _
  | .st p r => r.dep_pos
  | .ife t a b r => Nat.le_trans r.dep_pos (Nat.le_max_right _ _)
theorem Pl.not_if (p : Pl) : ∃ z xs, p.vs = .str z :: xs ∧ ¬ z = "if" := by cases p <;> exact ⟨_, _, rfl, by decide +kernel⟩
section
variable {P : Program} {w : World} {K : PySem.W.Frag} {mg : Str → Option Value} {base : Heap}
theorem keptB_step (T : Tx P w K mg) (B : Bx T base) {k n : Nat} (hk : 7 ≤ k) (okR : FnOk P w K mg base CX0 k T.a_kept_block T.fd_kept_block ["block"] (spKeptB K n)) : FnOk P w K mg base CX0 (k + 1) T.a_kept_block T.fd_kept_block ["block"] (spKeptB K (n + 1)) := by
  refine okT T.F_kept_block sc_kept_block (fun vs H Q E h => ?_) (fun cdv A outer s H vs Q E hcd hr h => ?_)
  · obtain ⟨p, b, xs, rfl, _⟩ := h
    rfl
  obtain ⟨p, b, xs, rfl, hp, hb, hok, hn, hsz, q⟩ := h
  refine ⟨_, (pss_cons (ps_set (i := 1) sc_kept_block.nd rfl (by first | exact Or.inl rfl | exact Or.inr rfl) (pe_lst pa_nil))
 (pss_cons (ps_for PassesOwn.never rfl (pi_alt (pi_list (pv 0)) (pi_tup (pv 0))) (pg_name (i := 2) sc_kept_block.nd rfl (by first | exact Or.inl rfl | exact Or.inr rfl))
 (pss_one (ps_if (pt_cmpR op_eq (pe_alt (pe_ix ix_list (pv 2) pe_int (fun _ _ => rfl)) (pe_ix ix_tup (pv 2) pe_int (fun _ _ => rfl))) pe_str (nomark _))
 (pss_one (ps_expr (pe_bm PySem.F.plainAttrs_list PySem.F.slot_list_append PySem.F.type_list_append mt_append (pv 1) (pa_cons (pe_tup (pa_cons pe_str (pa_cons (pe_call (ok_kept_test (w := w) T B) (hr.mono (by omega)) (by rfl) T.m_kept_test T.F_kept_test.kp T.bi_kept_test .nil pass0 (pa_cons (pe_alt (pe_ix ix_list (pv 2) pe_int (fun _ _ => rfl)) (pe_ix ix_tup (pv 2) pe_int (fun _ _ => rfl))) pa_nil)) (pa_cons (pe_call okR (hr.mono (by omega)) (by rfl) T.m_kept_block T.F_kept_block.kp T.bi_kept_block .nil pass0 (pa_cons (pe_alt (pe_ix ix_list (pv 2) pe_int (fun _ _ => rfl)) (pe_ix ix_tup (pv 2) pe_int (fun _ _ => rfl))) pa_nil)) (pa_cons (pe_call okR (hr.mono (by omega)) (by rfl) T.m_kept_block T.F_kept_block.kp T.bi_kept_block .nil pass0 (pa_cons (pe_alt (pe_ix ix_list (pv 2) pe_int (fun _ _ => rfl)) (pe_ix ix_tup (pv 2) pe_int (fun _ _ => rfl))) pa_nil)) pa_nil))))) pa_nil))))
 (pss_one (ps_expr (pe_bm PySem.F.plainAttrs_list PySem.F.slot_list_append PySem.F.type_list_append mt_append (pv 1) (pa_cons (pe_callTy call_tuple_of (by rfl) T.b_tuple (by decide +kernel) (pa_cons (pv 2) pa_nil)) pa_nil)))))))
 (pss_one (ps_ret (pe_callTy call_tuple_of (by rfl) T.b_tuple (by decide +kernel) (pa_cons (pv 1) pa_nil)))))), ?_⟩
  refine asgI ⟨by decide, fun F hF => ?_⟩
  dsimp only [gName]
  have s1 := same_upd (o := .lst []) hF
  have hp1 := hp.same s1
  have hfine := Blk.fine hok hn hsz
  have hpr := hb.hs
  have hlen : xs.length = b.hs.length := hpr.length
  have hl1 : b.hs.length ≤ 10000 := by rw [Blk.hs_len]; exact Nat.le_trans b.len_size hsz
  have putS : ∀ {H1 H2 : Hp} {acc acc' : List V} {v : V} {h : Hd}, Same H1 H2 → H2 F = some (.lst acc) → HdAt (SqU K) H1 v h → HdAt (SqU K) (upd H2 F (.lst acc')) v h := fun s e h => HdAt.mono (fun _ _ h => SqU.putL e (h.same s)) h
  refine forI2 (forSq (xs := xs) (vI rfl) hp s1 fun J G wk hG => ?_)
  refine for_it wk (fun i σ H' => ∃ v2, σ = [some (.ref p), some (.ref F), v2] ∧ Same H H' ∧ ∃ acc, H' F = some (.lst acc) ∧ Paired (fun v h => HdAt (SqU K) H' v h) acc (b.hs.take i)) ⟨none, rfl, s1, [], upd_same, by rw [List.take_zero]; exact .nil⟩
    (fun i σ H' _ ⟨_, _, s, _⟩ => hG H' s) (fun i x σ H' H'' hi ⟨v2, hσ, s, acc, hacc, pr⟩ y => ?_) (fun σ H' ⟨v2, hσ, s, acc, hacc, pr⟩ => ?_)
  · obtain ⟨rfl, hx⟩ := y
    subst hσ
    obtain ⟨h, hh, hat⟩ := paired_ix hpr hx
    have et : b.hs.take (i + 1) = b.hs.take i ++ [h] := by rw [List.take_add_one, hh]; rfl
    have la : acc.length < sizeLine := by
      rw [pr.length, List.length_take, sizeLine_eq]
      omega
    dsimp only [gName]
    have fin := hfine h (List.mem_of_getElem? hh)
    have hat2 := hat.mono (S' := Sq K) (H' := H'') fun _ _ h => h.same s
    cases h with
    | st pl =>
      obtain ⟨qa, rfl, hq⟩ := hat2
      obtain ⟨z, zs, ez, nz⟩ := pl.not_if
      refine ixA (vI rfl) (by rw [ez] at hq; exact hq) at0 ⟨rfl, _, rfl, ?_⟩
      rw [decide_eq_false (fun e => nz (V.str.inj e))]
      refine iteF ?_
      refine ⟨_, rfl, .inl ⟨rfl, _, SqL.of hacc⟩, tupleA (vI rfl) hq fun l H3 s3 hl => ?_⟩
      have e3 := s3 _ _ hacc
      refine ⟨F, acc, .ref l, rfl, rfl, e3, la, some (.ref qa), rfl, fun c o hc => ?_, acc ++ [.ref l], upd_same, ?_⟩
      · rw [upd_ne (ne_of_none hc hF)]
        exact s3 _ _ (s _ _ hc)
      · rw [et]
        exact paired_app (paired_mono (fun _ _ h => putS s3 e3 h) pr) (.cons ⟨l, rfl, hl.putL e3⟩ .nil)
    | ife t a c =>
      obtain ⟨qa, tv, pa, pb, xa, xb, rfl, hq, ht, ha, hva, hc, hvc⟩ := hat2
      obtain ⟨f1, f2, f3, f4, f5, f6, f7⟩ := fin
      refine ixA (vI rfl) hq at0 ⟨rfl, _, rfl, ?_⟩
      rw [decide_eq_true rfl]
      refine iteT ?_
      refine ⟨_, rfl, .inl ⟨rfl, _, SqL.of hacc⟩, ?_⟩
      refine ixA (vI rfl) hq at1 ⟨tv, t, rfl, ht, f1, fun H3 r s3 hr3 => ?_⟩
      refine ixA (vI rfl) (hq.same s3) at2 ⟨pa, a, xa, rfl, ha.same s3, hva.mono fun _ _ h => h.same s3, f2, f4, f6, fun H4 l4 ys4 s4 k4 k4' => ?_⟩
      have s34 := s3.trans s4
      refine ixA (vI rfl) (hq.same s34) at3 ⟨pb, c, xb, rfl, hc.same s34, hvc.mono fun _ _ h => h.same s34, f3, f5, f7, fun H5 l5 ys5 s5 k5 k5' => ?_⟩
      refine ⟨by show 4 ≤ sizeLine; decide, fun l hl => ?_⟩
      have s6 := same_upd (o := .tup [V.str "if", r, .ref l4, .ref l5]) hl
      have s36 := (s34.trans s5).trans s6
      have e6 := s36 _ _ hacc
      refine ⟨F, acc, .ref l, rfl, rfl, e6, la, some (.ref qa), rfl, fun d o hd => ?_, acc ++ [.ref l], upd_same, ?_⟩
      · rw [upd_ne (ne_of_none hd hF)]
        exact s36 _ _ (s _ _ hd)
      · rw [et]
        refine paired_app (paired_mono (fun _ _ h => putS s36 e6 h) pr) (.cons ?_ .nil)
        have s56 := s5.trans s6
        refine HdAt.mono (S := SqU K) (fun _ _ h => SqU.putL e6 h) (h := .ife t a c) ⟨l, r, l4, l5, ys4, ys5, rfl, SqU.of upd_same, hr3.mono fun _ _ h => h.same (s4.trans s56), k4.same s56, k4'.mono fun _ _ h => h.same s56, k5.same s6, k5'.mono fun _ _ h => h.same s6⟩
  · subst hσ
    rw [hlen, List.take_of_length_le (Nat.le_refl _)] at pr
    refine ⟨_, rfl, F, acc, rfl, .inl ⟨SqL.of hacc, fun l hl => ?_⟩⟩
    have s2 := same_upd (o := .tup acc) hl
    exact q _ l acc (s.trans s2) (SqU.of upd_same) (BlkV.of_hs (paired_mono (fun _ _ h => h.mono fun _ _ h => h.same s2) pr))
theorem keptB_zero (T : Tx P w K mg) (B : Bx T base) {k : Nat} : FnOk P w K mg base CX0 (k + 1) T.a_kept_block T.fd_kept_block ["block"] (spKeptB K 0) := by
  refine okT T.F_kept_block sc_kept_block (fun vs H Q E h => ?_) (fun cdv A outer s H vs Q E hcd hr h => ?_)
  · obtain ⟨p, b, xs, rfl, _⟩ := h
    rfl
  · obtain ⟨p, b, xs, rfl, _, _, _, hn, _⟩ := h
    exact absurd b.dep_pos (by omega)
theorem keptB_all (T : Tx P w K mg) (B : Bx T base) : ∀ n, FnOk P w K mg base CX0 (n + 7 + 1) T.a_kept_block T.fd_kept_block ["block"] (spKeptB K n)
  | 0 => keptB_zero T B
  | n + 1 => keptB_step T B (by omega) (keptB_all T B n)
theorem ok_kept_block (T : Tx P w K mg) (B : Bx T base) : FnOk P w K mg base CX0 20 T.a_kept_block T.fd_kept_block ["block"] (spKeptB K 12) := keptB_all T B 12
end
end Toy


set_option Elab.async false
set_option linter.all false
set_option maxRecDepth 100000
set_option maxHeartbeats 4000000
namespace Toy
open PySem L2 Sh ShL LamX NdefX
/-! ### Routine -/
theorem walk_zipT {K : PySem.W.Frag} {a b : Addr} {xs ys : List V} (hl : xs.length = ys.length) : Walk (RZ.ItzT K a b) xs.length (fun H => SqT K H a xs ∧ SqT K H b ys) (YPair (fun i => xs[i]?) (fun i => ys[i]?)) := by
  refine ⟨fun i H hi q => ?_, fun H q => ⟨xs, ys, q.1, q.2, .inl (Nat.le_refl _)⟩, fun i H v H' _ q y => ?_⟩
  · exact ⟨xs, ys, xs[i], ys[i]'(hl ▸ hi), q.1, q.2, List.getElem?_eq_getElem hi, List.getElem?_eq_getElem (hl ▸ hi)⟩
  · obtain ⟨T, x, y, e1, e2, e3, e4, e5⟩ := y
    exact ⟨T, x, y, e1, e2, e3, e4 xs q.1, e5 ys q.2⟩
def rflds (pd pt pu : Addr) : List (Str × V) := putF "up" (.ref pu) (putF "turn" (.ref pt) (putF "down" (.ref pd) []))
def RoutAt (K : PySem.W.Frag) (C : Addr) (H : Hp) (p : Addr) (d t u : Blk) : Prop := ∃ dx pd pt pu xd xt xu, H p = some (.ins C dx (rflds pd pt pu)) ∧ SqU K H pd xd ∧ BlkV (SqU K) H d xd ∧ SqU K H pt xt ∧ BlkV (SqU K) H t xt ∧ SqU K H pu xu ∧ BlkV (SqU K) H u xu
theorem RoutAt.same {K : PySem.W.Frag} {C : Addr} {H H' : Hp} {p : Addr} {d t u : Blk} (s : Same H H') (h : RoutAt K C H p d t u) : RoutAt K C H' p d t u := by
  obtain ⟨dx, pd, pt, pu, xd, xt, xu, h0, h1, h2, h3, h4, h5, h6⟩ := h
  exact ⟨dx, pd, pt, pu, xd, xt, xu, s _ _ h0, h1.same s, h2.mono fun _ _ h => h.same s, h3.same s, h4.mono fun _ _ h => h.same s, h5.same s, h6.mono fun _ _ h => h.same s⟩
theorem SqU.kp {K : PySem.W.Frag} {H H' : Hp} {d p : Addr} {xs : List V} (k : Kp d H H') (n : ∀ ys, H d ≠ some (.tup ys)) (h : SqU K H p xs) : SqU K H' p xs := h.imp (fun h => k _ _ h fun e => n _ (by rw [← e]; exact h)) id
theorem SqU.kpi {K : PySem.W.Frag} {H H' : Hp} {x p C dx : Addr} {fs : List (Str × V)} {xs : List V} (hx : H x = some (.ins C dx fs)) (k : Kp x H H') (h : SqU K H p xs) : SqU K H' p xs := h.kp k fun ys e => by rw [hx] at e; cases e
theorem Sq.kpi {K : PySem.W.Frag} {H H' : Hp} {x p C dx : Addr} {fs : List (Str × V)} {xs : List V} (hx : H x = some (.ins C dx fs)) (k : Kp x H H') (h : Sq K H p xs) : Sq K H' p xs := by
  rcases h with ((h | ⟨o, h⟩) | h) | h
  · exact .inl (.inl (.inl (k _ _ h (ne_of h hx (by intro z; cases z)))))
  · exact .inl (.inl (.inr ⟨o, k _ _ h (ne_of h hx (by intro z; cases z))⟩))
  · exact .inl (.inr h)
  · exact .inr (h.kpi hx k)
def Fit (d t u : Blk) : Prop := d.ok .down ∧ t.ok .turn ∧ u.ok .up ∧ d.size + t.size + u.size ≤ 40 ∧ d.dep ≤ 12 ∧ t.dep ≤ 12 ∧ u.dep ≤ 12
def spRoutine (K : PySem.W.Frag) (C : Addr) : Sp := fun vs H Q _ => ∃ (x a b c dx : Addr) (d t u : Blk) (xa xb xc : List V), vs = [.ref x, .ref a, .ref b, .ref c] ∧ H x = some (.ins C dx []) ∧ Sq K H a xa ∧ BlkV (Sq K) H d xa ∧ Sq K H b xb ∧ BlkV (Sq K) H t xb ∧ Sq K H c xc ∧ BlkV (Sq K) H u xc ∧ Fit d t u ∧
  ∀ H', Kp x H H' → RoutAt K C H' x d t u → Q .non H'
section
variable {P : Program} {w : World} {K : PySem.W.Frag} {mg : Str → Option Value} {base : Heap}
theorem ok_Routine_init (T : Tx P w K mg) (B : Bx T base) : FnOk P w K mg base CX0 21 T.a_Routine_init T.fd_Routine_init ["self", "down", "turn", "up"] (spRoutine K T.c_Routine) := by
  refine okT T.F_Routine_init sc_Routine_init (fun vs H Q E h => ?_) (fun cdv A outer s H vs Q E hcd hr h => ?_)
  · obtain ⟨x, a, b, c, dx, d, t, u, xa, xb, xc, rfl, _⟩ := h
    rfl
  obtain ⟨x, a, b, c, dx, d, t, u, xa, xb, xc, rfl, hx, ha, hda, hb, htb, hc, huc, ⟨f1, f2, f3, f4, f5, f6, f7⟩, q⟩ := h
  refine ⟨_, (pss_cons (ps_set (i := 4) sc_Routine_init.nd rfl (by first | exact Or.inl rfl | exact Or.inr rfl) (pe_callB (cr_sum rfl) (by rfl) T.b_sum (by decide +kernel) (pa_cons (pe_lc (own := [("name", 5), ("block", 6)]) (g := gTup K 2 (gCons (gName 5) (gCons (gName 6) gNil))) rfl sc_Routine_init.nd (RZ.pi_zipA (by rfl) T.b_zip (pa_cons (pe_glob (v := .ref T.g_BLOCKS) (by rfl) T.m_BLOCKS rfl) (pa_cons (pe_tup (pa_cons (pv 1) (pa_cons (pv 2) (pa_cons (pv 3) pa_nil)))) pa_nil))) (blkOk_by (own := [("name", 5), ("block", 6)]) (N := N_Routine_init) (sc := defScope s_Routine_init) (by decide +kernel)) (fun _ _ _ _ _ => (pg_tup rfl (pgs_cons (pg_name (i := 5) sc_Routine_init.nd rfl (by first | exact Or.inl rfl | exact Or.inr rfl)) (pgs_cons (pg_name (i := 6) sc_Routine_init.nd rfl (by first | exact Or.inl rfl | exact Or.inr rfl)) pgs_nil)))) (fun _ _ _ _ _ => pts_nil) (fun _ _ _ _ _ => (pe_call (ok_looked_over (w := w) T B) (hr.mono (by decide)) (by rfl) T.m_looked_over T.F_looked_over.kp T.bi_looked_over .nil pass0 (pa_cons (pv 5) (pa_cons (pv 6) pa_nil))))) pa_nil)))
 (pss_cons (ps_if (pt_cmpR op_gt (pv 4) (pe_glob (v := .int 40) (by rfl) T.m_MOST_STATEMENTS.choose_spec ⟨_, rfl⟩) (nomark _))
 (pss_one ps_never)
 pss_nil)
 (pss_cons (ps_fld (pv 0) (pe_call (ok_kept_block (w := w) T B) (hr.mono (by decide)) (by rfl) T.m_kept_block T.F_kept_block.kp T.bi_kept_block .nil pass0 (pa_cons (pv 1) pa_nil)) rfl)
 (pss_cons (ps_fld (pv 0) (pe_call (ok_kept_block (w := w) T B) (hr.mono (by decide)) (by rfl) T.m_kept_block T.F_kept_block.kp T.bi_kept_block .nil pass0 (pa_cons (pv 2) pa_nil)) rfl)
 (pss_one (ps_fld (pv 0) (pe_call (ok_kept_block (w := w) T B) (hr.mono (by decide)) (by rfl) T.m_kept_block T.F_kept_block.kp T.bi_kept_block .nil pass0 (pa_cons (pv 3) pa_nil)) rfl)))))), ?_⟩
  refine asgI ?_
  refine cbI (consI ?_)
  refine ⟨_, rfl, _, rfl, _, rfl, by show 3 ≤ sizeLine; decide, fun tp htp => ?_⟩
  have s1 := same_upd (o := .tup [V.ref a, V.ref b, V.ref c]) htp
  have e1 : upd H tp (.tup [V.ref a, V.ref b, V.ref c]) tp = some (.tup [V.ref a, V.ref b, V.ref c]) := upd_same
  generalize upd H tp (.tup [V.ref a, V.ref b, V.ref c]) = H1 at s1 e1 ⊢
  refine ⟨T.g_BLOCKS, tp, _, _, rfl, .inr ⟨T.q_BLOCKS _, SqT.of e1, fun D hD => ?_⟩⟩
  refine lc_it (walk_zipT (xs := [V.str "down", V.str "turn", V.str "up"]) (ys := [V.ref a, V.ref b, V.ref c]) rfl) (fun i H' => Same H1 H' ∧ H' D = some (.lst (([(d.size : Int), (t.size : Int), (u.size : Int)].take i).map V.int))) ⟨same_upd hD, upd_same⟩ (fun i H' _ ⟨s, _⟩ => ⟨T.q_BLOCKS _, seqT s (SqT.of e1)⟩) (fun i y H' H'' hi ⟨s, hacc⟩ yy => ?_) (fun H' ⟨s, hacc⟩ => ?_)
  · obtain ⟨Tp, x0, y0, rfl, hTp, rfl, h1, h2⟩ := yy
    have s2 := same_upd (o := .tup [x0, y0]) hTp
    have sA := (s1.trans s).trans s2
    have key : ∃ (n : Bn) (p : Addr) (bk : Blk) (zs : List V), x0 = .str n.s ∧ y0 = .ref p ∧ Sq K H p zs ∧ BlkV (Sq K) H bk zs ∧ bk.ok n ∧ bk.size ≤ 10000 ∧ [(d.size : Int), (t.size : Int), (u.size : Int)][i]? = some (bk.size : Int) := by
      match i, h1, h2 with
      | 0, h1, h2 => cases h1; cases h2; exact ⟨.down, a, d, xa, rfl, rfl, ha, hda, f1, by omega, rfl⟩
      | 1, h1, h2 => cases h1; cases h2; exact ⟨.turn, b, t, xb, rfl, rfl, hb, htb, f2, by omega, rfl⟩
      | 2, h1, h2 => cases h1; cases h2; exact ⟨.up, c, u, xc, rfl, rfl, hc, huc, f3, by omega, rfl⟩
      | i + 3, h1, h2 => simp at h1
    obtain ⟨n, p, bk, zs, rfl, rfl, k1, k2, k3, k4, k5⟩ := key
    refine ⟨Tp, _, rfl, SqT.of upd_same, rfl, _, _, rfl, _, _, rfl, rfl, rfl, yes_ite ?_⟩
    refine ⟨_, rfl, _, rfl, p, n, bk, zs, rfl, k1.same sA, k2.mono fun _ _ h => h.same sA, k3, k4, fun H3 s3 => ?_⟩
    refine ⟨_, s3 _ _ (s2 _ _ hacc), ?_, fun c o hc => ?_, ?_⟩
    · rw [List.length_map, List.length_take]
      exact Nat.lt_of_le_of_lt (Nat.min_le_right _ _) (by show 3 < sizeLine; decide)
    · rw [upd_ne (ne_of_none hc hD)]
      exact s3 _ _ (s2 _ _ (s _ _ hc))
    · rw [upd_same, List.take_add_one, k5, List.map_append]
      rfl
  · refine ⟨D, [(d.size : Int), (t.size : Int), (u.size : Int)], rfl, SqL.of hacc, ?_⟩
    dsimp only [gName]
    have s2 := s1.trans s
    refine ⟨_, rfl, _, _, rfl, rfl, _, rfl, ?_⟩
    rw [decide_eq_false (show ¬ ((40 : Int) < [(d.size : Int), (t.size : Int), (u.size : Int)].sum) by simp; omega)]
    refine iteF ?_
    refine nextS ?_
    dsimp only
    refine ⟨_, rfl, a, d, xa, rfl, ha.same s2, hda.mono fun _ _ h => h.same s2, f1.okT, f5, by omega, fun H3 l1 y1 s3 k1 k1' => ?_⟩
    have hx3 := s3 _ _ (s2 _ _ hx)
    have s23 := s2.trans s3
    refine ⟨_, rfl, x, T.c_Routine, dx, [], rfl, hx3, T.cl_Routine, T.na_Routine_down, (by show 0 < 1000; decide), ?_⟩
    have kp4 : Kp x H3 (upd H3 x (.ins T.c_Routine dx (putF "down" (.ref l1) []))) := kp_put
    have hx4 : upd H3 x (.ins T.c_Routine dx (putF "down" (.ref l1) [])) x = some (.ins T.c_Routine dx (putF "down" (.ref l1) [])) := upd_same
    generalize upd H3 x (.ins T.c_Routine dx (putF "down" (.ref l1) [])) = H4 at kp4 hx4 ⊢
    have up4 : ∀ {p xs}, Sq K H p xs → Sq K H4 p xs := fun h => (h.same s23).kpi hx3 kp4
    refine ⟨_, rfl, b, t, xb, rfl, up4 hb, htb.mono fun _ _ h => up4 h, f2.okT, f6, by omega, fun H5 l2 y2 s5 k2 k2' => ?_⟩
    have hx5 := s5 _ _ hx4
    refine ⟨_, rfl, x, T.c_Routine, dx, _, rfl, hx5, T.cl_Routine, T.na_Routine_turn, (by show 1 < 1000; decide), ?_⟩
    have kp6 : Kp x H5 (upd H5 x (.ins T.c_Routine dx (putF "turn" (.ref l2) (putF "down" (.ref l1) [])))) := kp_put
    have hx6 : upd H5 x (.ins T.c_Routine dx (putF "turn" (.ref l2) (putF "down" (.ref l1) []))) x = some (.ins T.c_Routine dx (putF "turn" (.ref l2) (putF "down" (.ref l1) []))) := upd_same
    generalize upd H5 x (.ins T.c_Routine dx (putF "turn" (.ref l2) (putF "down" (.ref l1) []))) = H6 at kp6 hx6 ⊢
    have up6 : ∀ {p xs}, Sq K H p xs → Sq K H6 p xs := fun h => ((up4 h).same s5).kpi hx5 kp6
    refine ⟨_, rfl, c, u, xc, rfl, up6 hc, huc.mono fun _ _ h => up6 h, f3.okT, f7, by omega, fun H7 l3 y3 s7 k3 k3' => ?_⟩
    have hx7 := s7 _ _ hx6
    refine ⟨_, rfl, x, T.c_Routine, dx, _, rfl, hx7, T.cl_Routine, T.na_Routine_up, (by show 2 < 1000; decide), ?_⟩
    have kp8 : Kp x H7 (upd H7 x (.ins T.c_Routine dx (rflds l1 l2 l3))) := kp_put
    have u1 : ∀ {p xs}, SqU K H3 p xs → SqU K (upd H7 x (.ins T.c_Routine dx (rflds l1 l2 l3))) p xs := fun h => ((((h.kpi hx3 kp4).same s5).kpi hx5 kp6).same s7).kpi hx7 kp8
    have u2 : ∀ {p xs}, SqU K H5 p xs → SqU K (upd H7 x (.ins T.c_Routine dx (rflds l1 l2 l3))) p xs := fun h => ((h.kpi hx5 kp6).same s7).kpi hx7 kp8
    have u3 : ∀ {p xs}, SqU K H7 p xs → SqU K (upd H7 x (.ins T.c_Routine dx (rflds l1 l2 l3))) p xs := fun h => h.kpi hx7 kp8
    refine q _ ((((((Same.kp s23).trans kp4).trans (Same.kp s5)).trans kp6).trans (Same.kp s7)).trans kp8) ⟨dx, l1, l2, l3, y1, y2, y3, upd_same, u1 k1, k1'.mono fun _ _ h => u1 h, u2 k2, k2'.mono fun _ _ h => u2 h, u3 k3, k3'.mono fun _ _ h => u3 h⟩
end
end Toy


set_option Elab.async false
set_option linter.all false
set_option maxRecDepth 100000
set_option maxHeartbeats 4000000
namespace Toy
open PySem L2 Sh ShL LamX NdefX
/-! ### questions: calls -/
structure Qc where
  r : Addr
  w : Nat
  v : Int
def Qc.vs (c : Qc) : List V := [.ref c.r, .int (c.w : Int), .int c.v]
def Qc.ok (c : Qc) : Prop := c.w ≤ 1 ∧ 1 ≤ c.v ∧ c.v ≤ 9
/-- v is the call c; C: the class Routine -/
def CallV (S : SQ) (C : Addr) (H : Hp) (v : V) (c : Qc) : Prop := ∃ p, v = .ref p ∧ S H p c.vs ∧ (∃ dx fs, H c.r = some (.ins C dx fs)) ∧ c.ok
theorem CallV.mono {S S' : SQ} {C : Addr} {H H' : Hp} (s : ∀ p xs, S H p xs → S' H' p xs) (k : ∀ a dx fs, H a = some (.ins C dx fs) → ∃ dx fs, H' a = some (.ins C dx fs)) {v : V} {c : Qc} (h : CallV S C H v c) : CallV S' C H' v c := by
  obtain ⟨p, e, h1, ⟨dx, fs, h2⟩, h3⟩ := h
  exact ⟨p, e, s _ _ h1, k _ _ _ h2, h3⟩
theorem CallV.sameQ {K : PySem.W.Frag} {C : Addr} {H H' : Hp} (s : Same H H') {v : V} {c : Qc} (h : CallV (Sq K) C H v c) : CallV (Sq K) C H' v c := h.mono (fun _ _ h => h.same s) fun _ _ _ h => ⟨_, _, s _ _ h⟩
theorem CallV.sameU {K : PySem.W.Frag} {C : Addr} {H H' : Hp} (s : Same H H') {v : V} {c : Qc} (h : CallV (SqU K) C H v c) : CallV (SqU K) C H' v c := h.mono (fun _ _ h => h.same s) fun _ _ _ h => ⟨_, _, s _ _ h⟩
theorem walk_enumT {K : PySem.W.Frag} {a : Addr} {xs : List V} : Walk (ItET K a) xs.length (fun H => SqT K H a xs) (YPair (fun i => some (.int (i : Nat))) (fun i => xs[i]?)) := by
  refine ⟨fun i _ hi q => ⟨xs, xs[i], q, by simp [hi]⟩, fun _ q => ⟨xs, q, Nat.le_refl _⟩, fun i H v H' _ q y => ?_⟩
  obtain ⟨T, x, h1, h2, h3, h4⟩ := y
  exact ⟨T, .int (i : Nat), x, h1, h2, h3, rfl, h4 xs q⟩
/-- for i, x in enumerate(x), x a list or a tuple -/
theorem forEn {K : PySem.W.Frag} {te0 : TE} {g : TG} {tb : TS} {D : Ends} {σ : L2.St} {H H0 : Hp} {p : Addr} {xs : List V} (hv : ∀ (R : VK), R (.ref p) H → te0 σ H R) (hs : Sq K H0 p xs) (s0 : Same H0 H)
    (h : ∀ (J : It) (G : Hp → Prop), Walk J xs.length G (YPair (fun i => some (.int (i : Nat))) (fun i => xs[i]?)) → (∀ H', Same H0 H' → G H') →
      ∃ W : Nat → Nat → L2.St → Hp → Prop, (∃ m, W 0 m σ H) ∧ ∀ i m σ H, W i m σ H →
      (J.stop i H ∧ D.nx σ H) ∨ (J.go i H ∧ ∃ N : L2.St → Hp → Prop, (∀ σ' H', N σ' H' → ∃ m', m' < m ∧ W (i + 1) m' σ' H') ∧ ∀ x H', J.yld i H x H' → g x σ H' fun σ2 H2 => tb { D with nx := N, ct := N, bk := D.nx } σ2 H2)) :
    tFor (fun σ H_1 R => iEnum K (tCons te0 tNil) σ H_1 R ∨ iEnumT K (tCons te0 tNil) σ H_1 R) g tb D σ H := by
  rcases hs with hs | hs
  · exact .inl (hv _ ⟨p, _, rfl, s0.seq hs, h (Ite K p) _ walk_enum fun H' s => s.seq hs⟩)
  · exact .inr (hv _ ⟨p, _, rfl, seqT s0 hs.t, h (ItET K p) _ walk_enumT fun H' s => seqT s hs.t⟩)
def spWhole : Sp := fun vs H Q _ => ∃ n : Int, vs = [.int n] ∧ Q (.bl true) H
def spAsked (K : PySem.W.Frag) (C : Addr) : Sp := fun vs H Q _ => ∃ (v : V) (c : Qc), vs = [v] ∧ CallV (Sq K) C H v c ∧ ∀ H', Same H H' → Q (.bl true) H'
def spCalls (K : PySem.W.Frag) (C : Addr) : Sp := fun vs H Q _ => ∃ (p : Addr) (xs : List V) (cs : List Qc), vs = [.ref p] ∧ Sq K H p xs ∧ Paired (CallV (Sq K) C H) xs cs ∧ 1 ≤ cs.length ∧ cs.length ≤ 4 ∧ ∀ H' l ys, Same H H' → SqU K H' l ys → Paired (CallV (SqU K) C H') ys cs → Q (.ref l) H'
section
variable {P : Program} {w : World} {K : PySem.W.Frag} {mg : Str → Option Value} {base : Heap}
theorem ok_is_whole (T : Tx P w K mg) (B : Bx T base) : FnOk P w K mg base CX0 1 T.a_is_whole T.fd_is_whole ["value"] spWhole := by
  refine okT T.F_is_whole sc_is_whole (fun vs H Q E h => ?_) (fun cdv A outer s H vs Q E hcd hr h => ?_)
  · obtain ⟨n, rfl, _⟩ := h
    rfl
  obtain ⟨n, rfl, q⟩ := h
  refine ⟨_, (pss_one (ps_ret (pe_and (pe_callB call_isi (by rfl) T.b_isinstance (by decide +kernel) (pa_cons (pv 0) (pa_cons (pe_bltn (v := .ty "int") (by rfl) T.b_int (by decide +kernel) rfl) pa_nil))) (pe_one (pe_not (pe_callB call_isi (by rfl) T.b_isinstance (by decide +kernel) (pa_cons (pv 0) (pa_cons (pe_bltn (v := .ty "bool") (by rfl) T.b_bool (by decide +kernel) rfl) pa_nil)))))))), ?_⟩
  refine ⟨_, rfl, _, _, _, _, true, rfl, .ty _, .base (.int _), kit_ty (by decide +kernel), true, rfl, iteT ?_⟩
  exact ⟨_, rfl, _, _, _, _, false, rfl, .ty _, .base (.int _), kit_ty (by decide +kernel), _, rfl, q⟩
theorem ok_is_asked_call (T : Tx P w K mg) (B : Bx T base) : FnOk P w K mg base CX0 2 T.a_is_asked_call T.fd_is_asked_call ["value"] (spAsked K T.c_Routine) := by
  refine okT T.F_is_asked_call sc_is_asked_call (fun vs H Q E h => ?_) (fun cdv A outer s H vs Q E hcd hr h => ?_)
  · obtain ⟨v, c, rfl, _⟩ := h
    rfl
  obtain ⟨v, c, rfl, ⟨p, rfl, hp, ⟨dx, fs, hr0⟩, h1, h2, h3⟩, q⟩ := h
  refine ⟨_, (pss_cons (ps_if (PW.pt (pw_or (pt_not (pt_val (pe_callB call_isiT (by rfl) T.b_isinstance (by decide +kernel) (pa_cons (pv 0) (pa_cons (pe_tup (pa_cons (pe_bltn (v := .ty "tuple") (by rfl) T.b_tuple (by decide +kernel) rfl) (pa_cons (pe_bltn (v := .ty "list") (by rfl) T.b_list (by decide +kernel) rfl) pa_nil))) pa_nil))))) (pw_or (pt_cmpR op_ne (pe_callB call_len_seq (by rfl) T.b_len (by decide +kernel) (pa_cons (pv 0) pa_nil)) pe_int (nomark _)) (pw_or1 (pt_not (pt_val (pe_callB call_isi (by rfl) T.b_isinstance (by decide +kernel) (pa_cons (pe_alt (pe_ix ix_list (pv 0) pe_int (fun _ _ => rfl)) (pe_ix ix_tup (pv 0) pe_int (fun _ _ => rfl))) (pa_cons (pe_glob (v := .ref T.c_Routine) (by rfl) T.m_Routine rfl) pa_nil)))))))))
 (pss_one (ps_ret pe_bl))
 pss_nil)
 (pss_one (ps_ret (pe_and (pe_call (ok_is_whole (w := w) T B) (hr.mono (by decide)) (by rfl) T.m_is_whole T.F_is_whole.kp T.bi_is_whole .nil pass0 (pa_cons (pe_alt (pe_ix ix_list (pv 0) pe_int (fun _ _ => rfl)) (pe_ix ix_tup (pv 0) pe_int (fun _ _ => rfl))) pa_nil)) (pe_and (pe_chain op_le op_le pe_int (pe_alt (pe_ix ix_list (pv 0) pe_int (fun _ _ => rfl)) (pe_ix ix_tup (pv 0) pe_int (fun _ _ => rfl))) pe_int) (pe_and (pe_call (ok_is_whole (w := w) T B) (hr.mono (by decide)) (by rfl) T.m_is_whole T.F_is_whole.kp T.bi_is_whole .nil pass0 (pa_cons (pe_alt (pe_ix ix_list (pv 0) pe_int (fun _ _ => rfl)) (pe_ix ix_tup (pv 0) pe_int (fun _ _ => rfl))) pa_nil)) (pe_one (pe_chain op_le op_le pe_int (pe_alt (pe_ix ix_list (pv 0) pe_int (fun _ _ => rfl)) (pe_ix ix_tup (pv 0) pe_int (fun _ _ => rfl))) pe_int)))))))), ?_⟩
  refine isiA (vI rfl) hp fun H1 s1 => ⟨true, rfl, iteF ?_⟩
  have hp1 := hp.same s1
  refine ⟨_, rfl, p, _, rfl, hp1.lt, rfl, _, rfl, iteF ?_⟩
  refine ixA (vI rfl) hp1 at0 ?_
  refine ⟨_, _, _, _, true, rfl, .own _, .base (.ins (s1 _ _ hr0) T.cl_Routine T.ca_Routine T.o_get T.o_tk T.ob_Routine), (by unfold PySem.W.kitOne; rw [if_pos (by simp)]), _, rfl, iteF ?_⟩
  refine nextS ?_
  dsimp only
  refine retE ?_
  refine ixA (vI rfl) hp1 at1 ⟨(c.w : Int), rfl, true, rfl, iteT ?_⟩
  refine ixA (vI rfl) hp1 at1 ⟨_, _, rfl, rfl, true, congrArg V.bl (decide_eq_true (by omega)), iteT ⟨_, _, rfl, rfl, true, congrArg V.bl (decide_eq_true (by omega)), iteT ?_⟩⟩
  refine ixA (vI rfl) hp1 at2 ⟨c.v, rfl, true, rfl, iteT ?_⟩
  refine ixA (vI rfl) hp1 at2 ⟨_, _, rfl, rfl, true, congrArg V.bl (decide_eq_true h2), iteT ⟨_, _, rfl, rfl, ?_⟩⟩
  show Q (.bl (decide (c.v ≤ 9))) H1
  rw [decide_eq_true h3]
  exact q _ s1
theorem ok_checked_calls (T : Tx P w K mg) (B : Bx T base) : FnOk P w K mg base CX0 3 T.a_checked_calls T.fd_checked_calls ["calls"] (spCalls K T.c_Routine) := by
  refine okT T.F_checked_calls sc_checked_calls (fun vs H Q E h => ?_) (fun cdv A outer s H vs Q E hcd hr h => ?_)
  · obtain ⟨p, xs, cs, rfl, _⟩ := h
    rfl
  obtain ⟨p, xs, cs, rfl, hp, pr, l1, l4, q⟩ := h
  refine ⟨_, (pss_cons (ps_if (pt_not (pt_chain op_le op_le pe_int (pe_callB call_len_seq (by rfl) T.b_len (by decide +kernel) (pa_cons (pv 0) pa_nil)) pe_int))
 (pss_one ps_never)
 pss_nil)
 (pss_cons (ps_for PassesOwn.never rfl (pi_alt (pi_enum (by rfl) T.b_enumerate (pa_cons (pv 0) pa_nil)) (pi_enumT (by rfl) T.b_enumerate (pa_cons (pv 0) pa_nil))) (pg_tup rfl (pgs_cons (pg_name (i := 1) sc_checked_calls.nd rfl (by first | exact Or.inl rfl | exact Or.inr rfl)) (pgs_cons (pg_name (i := 2) sc_checked_calls.nd rfl (by first | exact Or.inl rfl | exact Or.inr rfl)) pgs_nil)))
 (pss_one (ps_if (pt_not (pt_val (pe_call (ok_is_asked_call (w := w) T B) (hr.mono (by decide)) (by rfl) T.m_is_asked_call T.F_is_asked_call.kp T.bi_is_asked_call .nil pass0 (pa_cons (pv 2) pa_nil))))
 (pss_one ps_never)
 pss_nil)))
 (pss_one (ps_ret (pe_callTy call_tuple_of (by rfl) T.b_tuple (by decide +kernel) (pa_cons (pe_lc (own := [("call", 2)]) (g := gName 2) rfl sc_checked_calls.nd (pi_alt (pi_list (pv 0)) (pi_tup (pv 0))) (blkOk_by (own := [("call", 2)]) (N := N_checked_calls) (sc := defScope s_checked_calls) (by decide +kernel)) (fun _ _ _ _ _ => (pg_name (i := 2) sc_checked_calls.nd rfl (by first | exact Or.inl rfl | exact Or.inr rfl))) (fun _ _ _ _ _ => pts_nil) (fun _ _ _ _ _ => (pe_callTy (by exact call_tuple_of : CallR _ (.type "tuple") (fun xs H Q => ∃ p ys, xs = [.ref p] ∧ ((SqL K H p ys ∧ ∀ l, H l = none → Q (.ref l) (upd H l (.tup ys))) ∨ (SqT K H p ys ∧ Q (.ref p) H)))) (by rfl) T.b_tuple (by decide +kernel) (pa_cons (pv 2) pa_nil)))) pa_nil)))))), ?_⟩
  have hlen := pr.length
  refine ⟨_, rfl, p, _, rfl, hp.lt, _, _, rfl, rfl, true, congrArg V.bl (decide_eq_true (by omega)), iteT ⟨_, _, rfl, rfl, _, congrArg V.bl (decide_eq_true (by omega)), iteF ?_⟩⟩
  refine nextS ?_
  dsimp only
  refine forI2 (forEn (vI rfl) hp (Same.refl _) fun J G wk hG => ?_)
  refine for_it wk (fun i σ H' => ∃ v1 v2, σ = [some (.ref p), v1, v2] ∧ Same H H') ⟨_, _, rfl, Same.refl _⟩ (fun i σ H' _ ⟨_, _, _, s⟩ => hG H' s) (fun i x σ H' H'' hi ⟨v1, v2, hσ, s⟩ y => ?_) (fun σ H' ⟨v1, v2, hσ, s⟩ => ?_)
  · subst hσ
    obtain ⟨Tp, x0, y0, rfl, hTp, rfl, e1, e2⟩ := y
    cases e1
    obtain ⟨c, hc, hcv⟩ := paired_ix pr e2
    have s2 := same_upd (o := .tup [.int (i : Nat), y0]) hTp
    refine ⟨Tp, _, rfl, SqT.of upd_same, rfl, _, _, rfl, _, _, rfl, rfl, ?_⟩
    refine ⟨_, rfl, y0, c, rfl, hcv.sameQ (s.trans s2), fun H3 s3 => ⟨_, rfl, iteF ?_⟩⟩
    exact ⟨_, _, rfl, (s.trans s2).trans s3⟩
  · subst hσ
    dsimp only
    refine retE (cbI (consI (lcSq (te0 := tVar 0) (vI rfl) (hp.same s) fun J G wk hG D hD => ?_)))
    have pr1 : Paired (CallV (Sq K) T.c_Routine H') xs cs := paired_mono (fun _ _ h => h.sameQ s) pr
    refine lcM wk yat pr1 hD hG (by omega) (fun H y c => CallV (SqU K) T.c_Routine H y c) (fun _ _ _ _ s h => h.sameU s) (fun H acc acc' v c e h => h.mono (fun _ _ h => h.putL e) fun a dx fs h => ⟨dx, fs, by rw [upd_ne (ne_of h e (by intro z; cases z))]; exact h⟩) (fun i x c H4 Rk N hu0 r s4 kk => ?_) (fun H4 acc s4 hacc pr => ?_)
    · refine ⟨rfl, yes_ite ?_⟩
      obtain ⟨p1, rfl, k1, ⟨dx, fs, k2⟩, k3⟩ := r
      refine tupleA (vI rfl) (k1.same s4) fun l H5 s5 hl => kk _ _ s5 ⟨l, rfl, hl, ⟨dx, fs, s5 _ _ (s4 _ _ k2)⟩, k3⟩
    · refine ⟨D, acc, rfl, .inl ⟨SqL.of hacc, fun l hl => ?_⟩⟩
      have s5 := same_upd (o := .tup acc) hl
      exact q _ l acc ((s.trans s4).trans s5) (SqU.of upd_same) (paired_mono (fun _ _ h => h.sameU s5) pr)
end
end Toy


set_option Elab.async false
set_option linter.all false
set_option maxRecDepth 100000
set_option maxHeartbeats 4000000
namespace Toy
open PySem L2 Sh ShL LamX NdefX
/-! ### scripts, aspects, where -/
def nums (ns : List Nat) : List V := ns.map fun (n : Nat) => V.int (n : Int)
theorem nums_len (ns : List Nat) : (nums ns).length = ns.length := List.length_map _
theorem nums_flat : ∀ ns : List Nat, (nums ns).all flatV = true
  | [] => rfl
  | n :: ns => by show (flatV (.int n) && (nums ns).all flatV) = true; rw [nums_flat ns]; rfl
theorem inV_nums (n : Nat) : ∀ ns : List Nat, inV (.int (n : Int)) (nums ns) = decide (n ∈ ns)
  | [] => rfl
  | m :: ns => by
    show (((m : Int) == (n : Int)) || inV (.int (n : Int)) (nums ns)) = _
    rw [inV_nums n ns]
    by_cases h : m = n
    · subst h; simp
    · have h1 : ((m : Int) == (n : Int)) = false := by
        rw [beq_eq_false_iff_ne]
        omega
      rw [h1, Bool.false_or]
      exact decide_eq_decide.mpr ⟨fun h => List.mem_cons_of_mem _ h, fun h' => (List.mem_cons.mp h').resolve_left fun e => h e.symm⟩
theorem nums_take (ns : List Nat) (k : Nat) : (nums ns).take k = nums (ns.take k) := by unfold nums; rw [List.map_take]
/-- x[:i], x a list or a tuple of more than i -/
theorem headA {K : PySem.W.Frag} {σ : L2.St} {H : Hp} {Q : VK} {te ti : TE} {p : Addr} {xs : List V} {i : Nat} (hv : ∀ R : VK, R (.ref p) H → te σ H R) (hi : ∀ R : VK, R (.int (i : Nat)) H → ti σ H R) (hs : Sq K H p xs) (hl : i < xs.length) (q : ∀ l H', Same H H' → Sq K H' l (xs.take i) → Q (.ref l) H') :
    tAlt (tSl (rSlL K) te tNoPart (tPart ti)) (tSl (rSlA K) te tNoPart (tPart ti)) σ H Q := by
  have ec : cutV xs none (some (i : Int)) = xs.take i := cut_take' xs i
  rcases hs with hs | hs
  · refine .inl (hv _ (hi _ ⟨_, rfl, p, xs, rfl, hs, fun l hl' => ?_⟩))
    rw [ec]
    exact q l _ (same_upd hl') (.inl (SqL.of upd_same))
  · refine .inr (hv _ (hi _ ⟨_, rfl, p, xs, rfl, hs.t, fun hz => ?_, fun _ l hl' => ?_⟩))
    · have := hz.2
      rw [HT.sIx_nat] at this
      omega
    · rw [ec]
      exact q l _ (same_upd hl') (.inr (SqU.of upd_same))
def spScript (K : PySem.W.Frag) : Sp := fun vs H Q _ => ∃ (z : Str) (p : Addr) (m : Nat) (ns : List Nat), vs = [.str z, .ref p, .int (m : Nat)] ∧ Sq K H p (nums ns) ∧ ns.Nodup ∧ (∀ n ∈ ns, n < m) ∧ ∀ H' l, Same H H' → SqU K H' l (nums ns) → Q (.ref l) H'
abbrev aspV : List V := [.str "answers", .str "trees", .str "places", .str "shared", .str "cursor", .str "rule"]
abbrev kindV : List V := [.str "yes", .str "no", .str "none", .str "is", .str "at", .str "misuse"]
def strsV (as : List Str) : List V := as.map V.str
theorem strsV_flat : ∀ as : List Str, (strsV as).all flatV = true
  | [] => rfl
  | n :: ns => by show (flatV (.str n) && (strsV ns).all flatV) = true; rw [strsV_flat ns]; rfl
theorem inV_strs (a : Str) : ∀ as : List Str, inV (.str a) (strsV as) = decide (a ∈ as)
  | [] => rfl
  | m :: ns => by
    show ((m == a) || inV (.str a) (strsV ns)) = _
    rw [inV_strs a ns]
    by_cases h : m = a
    · subst h; simp
    · have h1 : (m == a) = false := beq_eq_false_iff_ne.mpr h
      rw [h1, Bool.false_or]
      exact decide_eq_decide.mpr ⟨fun h => List.mem_cons_of_mem _ h, fun h' => (List.mem_cons.mp h').resolve_left fun e => h e.symm⟩
def spAspects (K : PySem.W.Frag) : Sp := fun vs H Q _ => ∃ (p : Addr) (as : List Str), vs = [.ref p] ∧ Sq K H p (strsV as) ∧ as.Nodup ∧ (∀ a ∈ as, inV (.str a) aspV = true) ∧ ∀ H' l, Same H H' → SqU K H' l (strsV as) → Q (.ref l) H'
def spKind : Sp := fun vs H Q _ => ∃ z : Str, vs = [.str z] ∧ inV (.str z) kindV = true ∧ Q (.bl true) H
theorem nd_ixP {α : Type} {l : List α} (hN : l.Nodup) {i j : Nat} {x : α} (a : l[i]? = some x) (b : l[j]? = some x) : i = j := by
  obtain ⟨hi, ei⟩ := List.getElem?_eq_some_iff.mp a
  obtain ⟨hj, ej⟩ := List.getElem?_eq_some_iff.mp b
  exact (List.getElem_inj hN).mp (ei.trans ej.symm)
theorem nd_take {α : Type} [DecidableEq α] {l : List α} {i : Nat} {x : α} (nd : l.Nodup) (h : l[i]? = some x) : x ∉ l.take i := fun hm => by
  obtain ⟨j, hj⟩ := List.mem_iff_getElem?.mp hm
  have hji : j < i := by
    have := (List.getElem?_eq_some_iff.mp hj).1
    rw [List.length_take] at this
    omega
  rw [List.getElem?_take_of_lt hji] at hj
  have := nd_ixP nd hj h
  omega
section
variable {P : Program} {w : World} {K : PySem.W.Frag} {mg : Str → Option Value} {base : Heap}
theorem ok_is_kind (T : Tx P w K mg) (B : Bx T base) : FnOk P w K mg base CX0 1 T.a_is_kind T.fd_is_kind ["value"] spKind := by
  refine okT T.F_is_kind sc_is_kind (fun vs H Q E h => ?_) (fun cdv A outer s H vs Q E hcd hr h => ?_)
  · obtain ⟨n, rfl, _⟩ := h
    rfl
  obtain ⟨z, rfl, hz, q⟩ := h
  refine ⟨_, (pss_one (ps_ret (pe_and (pe_callB call_isi (by rfl) T.b_isinstance (by decide +kernel) (pa_cons (pv 0) (pa_cons (pe_bltn (v := .ty "str") (by rfl) T.b_str (by decide +kernel) rfl) pa_nil))) (pe_one (pe_cmpR op_in_seq (pv 0) (pe_glob (v := .ref T.g_KINDS) (by rfl) T.m_KINDS rfl) (by rfl)))))), ?_⟩
  refine ⟨_, rfl, _, _, _, _, true, rfl, .ty _, .base (.str _), kit_ty (by decide +kernel), true, rfl, iteT ?_⟩
  refine ⟨_, rfl, T.g_KINDS, _, rfl, .inr (T.q_KINDS _), rfl, rfl, ?_⟩
  rw [hz]
  exact q
theorem ok_checked_script (T : Tx P w K mg) (B : Bx T base) : FnOk P w K mg base CX0 2 T.a_checked_script T.fd_checked_script ["name", "script", "many"] (spScript K) := by
  refine okT T.F_checked_script sc_checked_script (fun vs H Q E h => ?_) (fun cdv A outer s H vs Q E hcd hr h => ?_)
  · obtain ⟨z, p, m, ns, rfl, _⟩ := h
    rfl
  obtain ⟨z, p, m, ns, rfl, hp, nd, hm, q⟩ := h
  refine ⟨_, (pss_cons (ps_for PassesOwn.never rfl (pi_alt (pi_enum (by rfl) T.b_enumerate (pa_cons (pv 1) pa_nil)) (pi_enumT (by rfl) T.b_enumerate (pa_cons (pv 1) pa_nil))) (pg_tup rfl (pgs_cons (pg_name (i := 3) sc_checked_script.nd rfl (by first | exact Or.inl rfl | exact Or.inr rfl)) (pgs_cons (pg_name (i := 4) sc_checked_script.nd rfl (by first | exact Or.inl rfl | exact Or.inr rfl)) pgs_nil)))
 (pss_one (ps_if (PW.pt (pw_or (pt_not (pt_val (pe_call (ok_is_whole (w := w) T B) (hr.mono (by decide)) (by rfl) T.m_is_whole T.F_is_whole.kp T.bi_is_whole .nil pass0 (pa_cons (pv 4) pa_nil)))) (pw_or (pt_not (pt_chain op_le op_lt pe_int (pv 4) (pv 2))) (pw_or1 (pt_cmpR op_in_seq (pv 4) (pe_alt (pe_slice sl_list (pv 1) po_none (po_some (pv 3))) (pe_slice sl_tupA (pv 1) po_none (po_some (pv 3)))) (by rfl))))))
 (pss_one ps_never)
 pss_nil)))
 (pss_one (ps_ret (pe_callTy call_tuple_of (by rfl) T.b_tuple (by decide +kernel) (pa_cons (pv 1) pa_nil))))), ?_⟩
  refine forI2 (forEn (te0 := tVar 1) (vI rfl) hp (Same.refl _) fun J G wk hG => ?_)
  refine for_it wk (fun i σ H' => ∃ v3 v4, σ = [some (.str z), some (.ref p), some (.int (m : Nat)), v3, v4] ∧ Same H H') ⟨_, _, rfl, Same.refl _⟩ (fun i σ H' _ ⟨_, _, _, s⟩ => hG H' s) (fun i x σ H' H'' hi ⟨v1, v2, hσ, s⟩ y => ?_) (fun σ H' ⟨v1, v2, hσ, s⟩ => ?_)
  · subst hσ
    obtain ⟨Tp, x0, y0, rfl, hTp, rfl, e1, e2⟩ := y
    cases e1
    replace e2 : (ns.map fun (n : Nat) => V.int (n : Int))[i]? = some y0 := e2
    rw [List.getElem?_map] at e2
    obtain ⟨n, hn, rfl⟩ := Option.map_eq_some_iff.mp e2
    have s2 := s.trans (same_upd (o := .tup [.int (i : Nat), .int (n : Nat)]) hTp)
    have hnm := hm n (List.mem_of_getElem? hn)
    refine ⟨Tp, _, rfl, SqT.of upd_same, rfl, _, _, rfl, _, _, rfl, rfl, ?_⟩
    refine ⟨_, rfl, (n : Nat), rfl, true, rfl, iteF ?_⟩
    refine ⟨_, rfl, _, _, rfl, rfl, true, congrArg V.bl (decide_eq_true (by omega)), iteT ⟨_, rfl, _, _, rfl, rfl, true, congrArg V.bl (decide_eq_true (by omega)), iteF ?_⟩⟩
    rw [nums_len] at hi
    refine ⟨_, rfl, headA (vI rfl) (vI rfl) (hp.same s2) (by rw [nums_len]; exact hi) fun l H3 s3 hl => ⟨l, _, rfl, hl.lt, rfl, by rw [nums_take]; exact nums_flat _, _, rfl, ?_⟩⟩
    rw [nums_take, inV_nums, decide_eq_false (nd_take nd hn)]
    refine iteF ?_
    exact ⟨_, _, rfl, s2.trans s3⟩
  · subst hσ
    dsimp only
    exact retE (tupleA (vI rfl) (hp.same s) fun l H3 s3 hl => q _ l (s.trans s3) hl)
theorem ok_checked_aspects (T : Tx P w K mg) (B : Bx T base) : FnOk P w K mg base CX0 1 T.a_checked_aspects T.fd_checked_aspects ["aspects"] (spAspects K) := by
  refine okT T.F_checked_aspects sc_checked_aspects (fun vs H Q E h => ?_) (fun cdv A outer s H vs Q E hcd hr h => ?_)
  · obtain ⟨p, as, rfl, _⟩ := h
    rfl
  obtain ⟨p, as, rfl, hp, nd, hm, q⟩ := h
  refine ⟨_, (pss_cons (ps_for PassesOwn.never rfl (pi_alt (pi_enum (by rfl) T.b_enumerate (pa_cons (pv 0) pa_nil)) (pi_enumT (by rfl) T.b_enumerate (pa_cons (pv 0) pa_nil))) (pg_tup rfl (pgs_cons (pg_name (i := 1) sc_checked_aspects.nd rfl (by first | exact Or.inl rfl | exact Or.inr rfl)) (pgs_cons (pg_name (i := 2) sc_checked_aspects.nd rfl (by first | exact Or.inl rfl | exact Or.inr rfl)) pgs_nil)))
 (pss_one (ps_if (PW.pt (pw_or (pt_not (pt_val (pe_callB call_isi (by rfl) T.b_isinstance (by decide +kernel) (pa_cons (pv 2) (pa_cons (pe_bltn (v := .ty "str") (by rfl) T.b_str (by decide +kernel) rfl) pa_nil))))) (pw_or (pt_cmpR op_notIn_seq (pv 2) (pe_glob (v := .ref T.g_ASPECTS) (by rfl) T.m_ASPECTS rfl) (by rfl)) (pw_or1 (pt_cmpR op_in_seq (pv 2) (pe_alt (pe_slice sl_list (pv 0) po_none (po_some (pv 1))) (pe_slice sl_tupA (pv 0) po_none (po_some (pv 1)))) (by rfl))))))
 (pss_one ps_never)
 pss_nil)))
 (pss_one (ps_ret (pe_callTy call_tuple_of (by rfl) T.b_tuple (by decide +kernel) (pa_cons (pv 0) pa_nil))))), ?_⟩
  refine forI2 (forEn (te0 := tVar 0) (vI rfl) hp (Same.refl _) fun J G wk hG => ?_)
  refine for_it wk (fun i σ H' => ∃ v3 v4, σ = [some (.ref p), v3, v4] ∧ Same H H') ⟨_, _, rfl, Same.refl _⟩ (fun i σ H' _ ⟨_, _, _, s⟩ => hG H' s) (fun i x σ H' H'' hi ⟨v1, v2, hσ, s⟩ y => ?_) (fun σ H' ⟨v1, v2, hσ, s⟩ => ?_)
  · subst hσ
    obtain ⟨Tp, x0, y0, rfl, hTp, rfl, e1, e2⟩ := y
    cases e1
    replace e2 : (as.map V.str)[i]? = some y0 := e2
    rw [List.getElem?_map] at e2
    obtain ⟨a, ha, rfl⟩ := Option.map_eq_some_iff.mp e2
    have s2 := s.trans (same_upd (o := .tup [.int (i : Nat), .str a]) hTp)
    refine ⟨Tp, _, rfl, SqT.of upd_same, rfl, _, _, rfl, _, _, rfl, rfl, ?_⟩
    refine ⟨_, rfl, _, _, _, _, true, rfl, .ty _, .base (.str _), kit_ty (by decide +kernel), true, rfl, iteF ?_⟩
    refine ⟨_, rfl, T.g_ASPECTS, _, rfl, .inr (T.q_ASPECTS _), rfl, rfl, _, rfl, ?_⟩
    rw [hm a (List.mem_of_getElem? ha)]
    refine iteF ?_
    have hi2 : i < as.length := by unfold strsV at hi; rwa [List.length_map] at hi
    refine ⟨_, rfl, headA (vI rfl) (vI rfl) (hp.same s2) hi fun l H3 s3 hl => ⟨l, _, rfl, hl.lt, rfl, by unfold strsV; rw [← List.map_take]; exact strsV_flat _, _, rfl, ?_⟩⟩
    rw [show (strsV as).take i = strsV (as.take i) by unfold strsV; rw [List.map_take], inV_strs, decide_eq_false (nd_take nd ha)]
    refine iteF ?_
    exact ⟨_, _, rfl, s2.trans s3⟩
  · subst hσ
    dsimp only
    exact retE (tupleA (vI rfl) (hp.same s) fun l H3 s3 hl => q _ l (s.trans s3) hl)
end
end Toy


set_option Elab.async false
set_option linter.all false
set_option maxRecDepth 100000
set_option maxHeartbeats 4000000
namespace Toy
open PySem L2 Sh ShL LamX NdefX
/-! ### sorted of data: what comes of it, by the data -/
theorem paired_zip {α β : Type} {R : α → β → Prop} : ∀ {xs : List α} {us : List β}, Paired R xs us → (∀ z ∈ xs.zip us, R z.1 z.2) ∧ (xs.zip us).map Prod.fst = xs ∧ (xs.zip us).map Prod.snd = us
  | _, _, .nil => ⟨fun z h => (by cases h), rfl, rfl⟩
  | _, _, .cons h t => by
    obtain ⟨h1, h2, h3⟩ := paired_zip t
    refine ⟨fun z hz => ?_, by rw [List.zip_cons_cons, List.map_cons, h2], by rw [List.zip_cons_cons, List.map_cons, h3]⟩
    rcases List.mem_cons.mp hz with rfl | hz
    · exact h
    · exact h1 z hz
theorem paired_of {α β : Type} {R : α → β → Prop} : ∀ {zs : List (α × β)}, (∀ z ∈ zs, R z.1 z.2) → Paired R (zs.map Prod.fst) (zs.map Prod.snd)
  | [], _ => .nil
  | z :: zs, h => .cons (h z List.mem_cons_self) (paired_of fun y hy => h y (List.mem_cons_of_mem _ hy))
theorem dataLe_map {α β : Type} (enc : β → PyData) (f : α → β) (a b : α) : PySem.W.dataLe false enc (f a) (f b) = PySem.W.dataLe false (fun z => enc (f z)) a b := rfl
theorem paired_sort {α β : Type} {R : α → β → Prop} (enc : β → PyData) {xs : List α} {us : List β} (pr : Paired R xs us) : Paired R (((xs.zip us).mergeSort (PySem.W.dataLe false fun z => enc z.2)).map Prod.fst) (us.mergeSort (PySem.W.dataLe false enc)) := by
  obtain ⟨h1, h2, h3⟩ := paired_zip pr
  have e : us.mergeSort (PySem.W.dataLe false enc) = ((xs.zip us).mergeSort (PySem.W.dataLe false fun z => enc z.2)).map Prod.snd := by
    conv => lhs; rw [← h3]
    exact (List.map_mergeSort (f := Prod.snd) (l := xs.zip us) fun a _ b _ => rfl).symm
  rw [e]
  exact paired_of fun z hz => h1 z ((List.mergeSort_perm _ _).mem_iff.mp hz)
theorem sortPairs_paired {β : Type} {R : V → β → Prop} (enc : β → PyData) {xs : List V} {us : List β} (pr : Paired R xs us) : Paired R ((sortPairs xs (us.map enc)).map Prod.fst) (us.mergeSort (PySem.W.dataLe false enc)) := by
  have e : sortPairs xs (us.map enc) = ((xs.zip us).mergeSort (PySem.W.dataLe false fun z => enc z.2)).map fun z => (z.1, enc z.2) := by
    unfold sortPairs
    rw [show xs.zip (us.map enc) = (xs.zip us).map fun z => (z.1, enc z.2) by rw [List.zip_map_right]; rfl]
    exact (List.map_mergeSort (f := fun z : V × β => (z.1, enc z.2)) (l := xs.zip us) fun a _ b _ => rfl).symm
  rw [e, List.map_map]
  exact paired_sort enc pr
/-! ### where -/
def kwK (kw : List (Nat × Str)) : List (Key × V) := kw.map fun p => (.inl (p.1 : Int), .str p.2)
theorem kwK_get : ∀ {kw : List (Nat × Str)} {p : Nat × Str}, (kw.map (·.1)).Nodup → p ∈ kw → valV (kwK kw) (.inl (p.1 : Int)) = some (.str p.2)
  | q :: kw, p, nd, h => by
    rw [List.map_cons, List.nodup_cons] at nd
    rcases List.mem_cons.mp h with rfl | h
    · exact valV_pos rfl
    · have ne : ¬ q.1 = p.1 := fun e => nd.1 (e ▸ List.mem_map.mpr ⟨p, h, rfl⟩)
      refine (valV_neg (p := ((.inl (q.1 : Int) : Key), V.str q.2)) fun e => ne ?_).trans (kwK_get nd.2 h)
      have := Sum.inl.inj e
      omega
abbrev kwD (p : Nat × Str) : PyData := .tuple [.int (p.1 : Int), .str p.2]
def sortKw (kw : List (Nat × Str)) : List (Nat × Str) := kw.mergeSort (PySem.W.dataLe false kwD)
/-- v is None or the dict of the pairs kw -/
def WhV (H : Hp) (v : V) (kw : List (Nat × Str)) : Prop := (v = .non ∧ kw = []) ∨ ∃ d, v = .ref d ∧ H d = some (.dK (kwK kw))
def WhP (K : PySem.W.Frag) (H : Hp) (v : V) (p : Nat × Str) : Prop := ∃ q, v = .ref q ∧ SqU K H q [.int (p.1 : Int), .str p.2]
theorem dp_kw {K : PySem.W.Frag} {H : Hp} : ∀ {acc : List V} {kw : List (Nat × Str)}, Paired (WhP K H) acc kw → DpAll K H acc (kw.map kwD)
  | _, _, .nil => .nil
  | _, _, .cons ⟨q, e, hq⟩ t => by rw [e]; exact .cons (.tup hq.t (.cons (.int _) (.cons (.str _) .nil))) (dp_kw t)
def spWhere (K : PySem.W.Frag) : Sp := fun vs H Q _ => ∃ (v : V) (po : Addr) (one : List Nat) (kw : List (Nat × Str)), vs = [v, .ref po] ∧ SqU K H po (nums one) ∧ WhV H v kw ∧ (kw.map (·.1)).Nodup ∧ (∀ p ∈ kw, p.1 ∈ one ∧ inV (.str p.2) kindV = true) ∧ kw.length ≤ 1000 ∧
  ∀ H' l ys, Same H H' → SqU K H' l ys → Paired (WhP K H') ys (sortKw kw) → Q (.ref l) H'
section
variable {P : Program} {w : World} {K : PySem.W.Frag} {mg : Str → Option Value} {base : Heap}
theorem ok_checked_where (T : Tx P w K mg) (B : Bx T base) : FnOk P w K mg base CX0 2 T.a_checked_where T.fd_checked_where ["where", "one"] (spWhere K) := by
  refine okT T.F_checked_where sc_checked_where (fun vs H Q E h => ?_) (fun cdv A outer s H vs Q E hcd hr h => ?_)
  · obtain ⟨v, po, one, kw, rfl, _⟩ := h
    rfl
  have hu := hu_of hr
  have hu65 := hu65_of hr
  obtain ⟨v, po, one, kw, rfl, ho, hv, nd, hk, hl, q⟩ := h
  refine ⟨_, (pss_cons (ps_if (pt_cmpR op_isN (pv 0) pe_non (nomark _))
 (pss_one (ps_ret (pe_tup pa_nil)))
 pss_nil)
 (pss_cons (ps_for PassesOwn.never rfl (pi_list (pe_callTy (call_list_dK rfl) (by rfl) T.b_list (by decide +kernel) (pa_cons (pv 0) pa_nil))) (pg_name (i := 2) sc_checked_where.nd rfl (by first | exact Or.inl rfl | exact Or.inr rfl))
 (pss_one (ps_if (PW.pt (pw_or (pt_not (pt_val (pe_call (ok_is_whole (w := w) T B) (hr.mono (by decide)) (by rfl) T.m_is_whole T.F_is_whole.kp T.bi_is_whole .nil pass0 (pa_cons (pv 2) pa_nil)))) (pw_or (pt_cmpR op_notIn_seq (pv 2) (pv 1) (by rfl)) (pw_or1 (pt_not (pt_val (pe_call (ok_is_kind (w := w) T B) (hr.mono (by decide)) (by rfl) T.m_is_kind T.F_is_kind.kp T.bi_is_kind .nil pass0 (pa_cons (pe_dget hu (pv 0) (pv 2) (fun _ _ => rfl)) pa_nil))))))))
 (pss_one ps_never)
 pss_nil)))
 (pss_one (ps_ret (pe_callTy call_tuple_of (by rfl) T.b_tuple (by decide +kernel) (pa_cons (pe_callB (cr_sortedDD hu65) (by rfl) T.b_sorted (by decide +kernel) (pa_cons (pe_lc (own := [("number", 2)]) (g := gName 2) rfl sc_checked_where.nd (pi_list (pe_callTy (call_list_dK rfl) (by rfl) T.b_list (by decide +kernel) (pa_cons (pv 0) pa_nil))) (blkOk_by (own := [("number", 2)]) (N := N_checked_where) (sc := defScope s_checked_where) (by decide +kernel)) (fun _ _ _ _ _ => (pg_name (i := 2) sc_checked_where.nd rfl (by first | exact Or.inl rfl | exact Or.inr rfl))) (fun _ _ _ _ _ => pts_nil) (fun _ _ _ _ _ => (pe_tup (pa_cons (pv 2) (pa_cons (pe_dget hu (pv 0) (pv 2) (fun _ _ => rfl)) pa_nil))))) pa_nil)) pa_nil)))))), ?_⟩
  refine ⟨_, rfl, rfl, _, rfl, ?_⟩
  rcases hv with ⟨rfl, rfl⟩ | ⟨d, rfl, hd⟩
  · rw [decide_eq_true rfl]
    refine iteT ?_
    exact ⟨by decide, fun l hl => q _ l [] (same_upd hl) (SqU.of upd_same) (by unfold sortKw; rw [List.mergeSort_nil]; exact .nil)⟩
  rw [decide_eq_false (fun e => nomatch e)]
  refine iteF ?_
  refine nextS ?_
  dsimp only
  have ek : ∀ (i : Nat) (x : V), ((kwK kw).map fun kv => kV kv.1)[i]? = some x → ∃ p, kw[i]? = some p ∧ x = .int (p.1 : Int) := fun i x h => by
    unfold kwK at h
    rw [List.map_map, List.getElem?_map] at h
    obtain ⟨p, hp, rfl⟩ := Option.map_eq_some_iff.mp h
    exact ⟨p, hp, rfl⟩
  refine forI2 ?_
  refine ⟨_, rfl, d, _, rfl, hd, fun L hL => ?_⟩
  have s1 := same_upd (o := .lst ((kwK kw).map fun kv => kV kv.1)) hL
  refine ⟨L, rfl, ⟨_, SqL.of upd_same⟩, ?_⟩
  refine for_it (walk_list (K := K) (a := L) (xs := (kwK kw).map fun kv => kV kv.1)) (fun i σ H' => ∃ v2, σ = [some (.ref d), some (.ref po), v2] ∧ Same (upd H L (.lst ((kwK kw).map fun kv => kV kv.1))) H') ⟨_, rfl, Same.refl _⟩ (fun i σ H' _ ⟨_, _, s⟩ => s.seq (SqL.of upd_same)) (fun i x σ H' H'' hi ⟨v1, hσ, s⟩ y => ?_) (fun σ H' ⟨v1, hσ, s⟩ => ?_)
  · subst hσ
    obtain ⟨rfl, hx⟩ := y
    obtain ⟨p, hp, rfl⟩ := ek i x hx
    have hm := List.mem_of_getElem? hp
    obtain ⟨k1, k2⟩ := hk p hm
    dsimp only [gName]
    refine ⟨_, rfl, (p.1 : Nat), rfl, true, rfl, iteF ?_⟩
    refine ⟨_, rfl, _, rfl, po, _, rfl, .inr (ho.t.elim (fun h => ?_) fun h => .inr h), rfl, nums_flat one, _, rfl, ?_⟩
    · exact (seqT (s1.trans s) (.inl h))
    rw [inV_nums, decide_eq_true k1]
    refine iteF ?_
    have gd := DGet.k (k := .inl (p.1 : Int)) (s _ _ (s1 _ _ hd))
    rw [kwK_get nd hm] at gd
    refine ⟨_, rfl, _, rfl, d, _, rfl, gd, p.2, rfl, k2, true, rfl, iteF ?_⟩
    exact ⟨_, rfl, s⟩
  · subst hσ
    dsimp only
    have s01 := s1.trans s
    refine ⟨_, rfl, d, _, rfl, s01 _ _ hd, fun L2 hL2 => ?_⟩
    have s2 := same_upd (o := .lst ((kwK kw).map fun kv => kV kv.1)) hL2
    have s02 := s01.trans s2
    refine ⟨L2, rfl, ⟨_, SqL.of upd_same⟩, fun D hD => ?_⟩
    have pk : Paired (fun x p => x = V.int ((p : Nat × Str).1 : Int)) ((kwK kw).map fun kv => kV kv.1) kw := by
      unfold kwK
      rw [List.map_map]
      exact paired_self kw
    refine lcM (walk_list (K := K) (a := L2) (xs := (kwK kw).map fun kv => kV kv.1)) yat pk hD (fun H' s => s.seq (SqL.of upd_same)) (by omega) (fun H y p => WhP K H y p) (fun _ _ _ _ s h => let ⟨q, e, h⟩ := h; ⟨q, e, h.same s⟩) (fun H acc acc' v c e h => let ⟨q, e1, h⟩ := h; ⟨q, e1, h.putL e⟩) (fun i x p H4 Rk N hu0 r s4 kk => ?_) (fun H4 acc s4 hacc pr => ?_)
    · subst r
      have hm := List.mem_of_getElem? hu0
      have gd := DGet.k (k := .inl (p.1 : Int)) (s4 _ _ (s02 _ _ hd))
      rw [kwK_get nd hm] at gd
      refine ⟨rfl, yes_ite ?_⟩
      refine ⟨_, rfl, _, rfl, _, rfl, d, _, rfl, gd, by show 2 ≤ sizeLine; decide, fun l hl => kk _ _ (same_upd hl) ⟨l, rfl, SqU.of upd_same⟩⟩
    · have dpk := dp_kw pr
      refine ⟨D, acc, kw.map kwD, rfl, SqL.of hacc, dpk, PySem.W.AllAlike.of fun a b => by simp [PySem.W.alike, PySem.W.alikeAll], PySem.W.Sortable.tuples fun a => ⟨_, _, rfl⟩, fun dd hdd => ?_, fun l hl => ?_⟩
      · obtain ⟨p, _, rfl⟩ := List.mem_map.mp hdd
        simp [PyData.depth, PyData.depthAll]
      have s5 := same_upd (o := .lst ((sortPairs acc (kw.map kwD)).map Prod.fst)) hl
      refine ⟨l, _, rfl, .inl ⟨SqL.of upd_same, fun l2 hl2 => ?_⟩⟩
      have s6 := same_upd (o := .tup ((sortPairs acc (kw.map kwD)).map Prod.fst)) hl2
      refine q _ l2 _ (((s02.trans s4).trans s5).trans s6) (SqU.of upd_same) ?_
      exact paired_mono (fun _ _ h => let ⟨q, e, h⟩ := h; ⟨q, e, (h.same s5).same s6⟩) (sortPairs_paired kwD pr)
end
end Toy


set_option Elab.async false
set_option linter.all false
set_option maxRecDepth 100000
set_option maxHeartbeats 4000000
namespace Toy
open PySem L2 Sh ShL LamX NdefX
/-! ### rows -/
theorem SqU.ex {K : PySem.W.Frag} {H H' : Hp} {p : Addr} {xs : List V} (s : ExtN H H') (h : SqU K H p xs) : SqU K H' p xs := h.imp (fun h => s _ _ h fun ps z => by cases z) id
theorem TupF.ex {H H' : Hp} {p : Addr} {xs : List V} (s : ExtN H H') (h : TupF H p xs) : TupF H' p xs := let ⟨o, e, d⟩ := h; ⟨o, s _ _ e fun ps z => (by cases z), d⟩
theorem SqL.ex {K : PySem.W.Frag} {H H' : Hp} {p : Addr} {xs : List V} (s : ExtN H H') (h : SqL K H p xs) : SqL K H' p xs := ShL.sqL_extN h s
theorem Sq.ex {K : PySem.W.Frag} {H H' : Hp} {p : Addr} {xs : List V} (s : ExtN H H') (h : Sq K H p xs) : Sq K H' p xs := h.imp (SqL.ex s) (SqU.ex s)
def RowV (K : PySem.W.Frag) (H : Hp) (v : V) (r : List Nat) : Prop := ∃ p, v = .ref p ∧ SqU K H p (nums r)
theorem RowV.ex {K : PySem.W.Frag} {H H' : Hp} {v : V} {r : List Nat} (s : ExtN H H') (h : RowV K H v r) : RowV K H' v r := let ⟨p, e, h⟩ := h; ⟨p, e, h.ex s⟩
theorem RowV.same {K : PySem.W.Frag} {H H' : Hp} {v : V} {r : List Nat} (s : Same H H') (h : RowV K H v r) : RowV K H' v r := let ⟨p, e, h⟩ := h; ⟨p, e, h.same s⟩
theorem RowV.putL {K : PySem.W.Frag} {H : Hp} {D : Addr} {acc acc' : List V} {v : V} {r : List Nat} (e : H D = some (.lst acc)) (h : RowV K H v r) : RowV K (upd H D (.lst acc')) v r := let ⟨p, e1, h⟩ := h; ⟨p, e1, h.putL e⟩
/-- all rows that are got by leaving out numbers -/
def thin (ns : List Nat) : List (List Nat) := ns.foldl (fun rows n => rows ++ rows.map (· ++ [n])) [[]]
theorem thin_snoc (ns : List Nat) (n : Nat) : thin (ns ++ [n]) = thin ns ++ (thin ns).map (· ++ [n]) := by unfold thin; rw [List.foldl_append]; rfl
theorem snoc_ind {α : Type} {P : List α → Prop} (h0 : P []) (h1 : ∀ l a, P l → P (l ++ [a])) (l : List α) : P l := by
  have : ∀ l : List α, P l.reverse := fun l => by
    induction l with
    | nil => exact h0
    | cons a l ih => rw [List.reverse_cons]; exact h1 _ _ ih
  have h := this l.reverse
  rwa [List.reverse_reverse] at h
theorem thin_len (ns : List Nat) : (thin ns).length = 2 ^ ns.length := by
  induction ns using snoc_ind with
  | h0 => rfl
  | h1 ns n ih => rw [thin_snoc, List.length_append, List.length_map, ih, List.length_append, Nat.pow_add]; show _ = 2 ^ ns.length * 2; omega
theorem thin_small {ns : List Nat} (h : ns.length ≤ 4) : (thin ns).length ≤ 16 := by
  rw [thin_len]
  exact Nat.pow_le_pow_right (by decide) h
theorem thin_row {ns : List Nat} : ∀ r ∈ thin ns, r.length ≤ ns.length := by
  induction ns using snoc_ind with
  | h0 => intro r hr; rw [show thin [] = [[]] from rfl, List.mem_singleton] at hr; rw [hr]; exact Nat.le_refl _
  | h1 ns n ih =>
    intro r hr
    rw [thin_snoc] at hr
    rw [List.length_append]
    rcases List.mem_append.mp hr with h | h
    · exact Nat.le_trans (ih r h) (Nat.le_add_right _ _)
    · obtain ⟨t, ht, rfl⟩ := List.mem_map.mp h
      rw [List.length_append]
      exact Nat.add_le_add_right (ih t ht) _
def spThin (K : PySem.W.Frag) : Sp := fun vs H Q _ => ∃ (p : Addr) (ns : List Nat), vs = [.ref p] ∧ SqL K H p (nums ns) ∧ ns.length ≤ 4 ∧ ∀ H' l ys, Same H H' → H l = none → H' l = some (.lst ys) → Paired (RowV K H') ys (thin ns) → Q (.ref l) H'
section
variable {P : Program} {w : World} {K : PySem.W.Frag} {mg : Str → Option Value} {base : Heap}
theorem ok_thinned (T : Tx P w K mg) (B : Bx T base) : FnOk P w K mg base CX0 1 T.a_thinned T.fd_thinned ["numbers"] (spThin K) := by
  refine okT T.F_thinned sc_thinned (fun vs H Q E h => ?_) (fun cdv A outer s H vs Q E hcd hr h => ?_)
  · obtain ⟨p, ns, rfl, _⟩ := h
    rfl
  obtain ⟨p, ns, rfl, hp, hl, q⟩ := h
  refine ⟨_, (pss_cons (ps_set (i := 1) sc_thinned.nd rfl (by first | exact Or.inl rfl | exact Or.inr rfl) (pe_lst (pa_cons (pe_tup pa_nil) pa_nil)))
 (pss_cons (ps_for PassesOwn.never rfl (pi_list (pv 0)) (pg_name (i := 2) sc_thinned.nd rfl (by first | exact Or.inl rfl | exact Or.inr rfl))
 (pss_one (ps_set (i := 1) sc_thinned.nd rfl (by first | exact Or.inl rfl | exact Or.inr rfl) (pe_op op_cat (pv 1) (pe_lc (own := [("row", 3)]) (g := gName 3) rfl sc_thinned.nd (pi_list (pv 1)) (blkOk_by (own := [("row", 3)]) (N := N_thinned) (sc := defScope s_thinned) (by decide +kernel)) (fun _ _ _ _ _ => (pg_name (i := 3) sc_thinned.nd rfl (by first | exact Or.inl rfl | exact Or.inr rfl))) (fun _ _ _ _ _ => pts_nil) (fun _ _ _ _ _ => (pe_op (by exact op_catA : OpR _ (binaryOp .Add) (rCatA K)) (pv 3) (pe_tup (pa_cons (pv 2) pa_nil)))))))))
 (pss_one (ps_ret (pv 1))))), ?_⟩
  refine asgI ⟨by decide, fun t0 ht0 => ?_⟩
  have s1 := same_upd (o := .tup []) ht0
  refine ⟨by show 1 ≤ sizeLine; decide, fun R hR => ?_⟩
  dsimp only [gName]
  have s2 := s1.trans (same_upd (o := .lst [.ref t0]) hR)
  have hRH : H R = none := by
    cases e : H R with
    | none => rfl
    | some o => rw [s1 _ _ e] at hR; cases hR
  have et : ∀ i n, ns[i]? = some n → ns.take (i + 1) = ns.take i ++ [n] := fun i n h => by rw [List.take_add_one, h]; rfl
  refine forI2 ⟨_, rfl, p, rfl, ⟨_, s2.seq hp⟩, ?_⟩
  refine for_it (walk_list (K := K) (a := p) (xs := nums ns)) (fun i σ H' => ∃ R v2 v3 ys, σ = [some (.ref p), some (.ref R), v2, v3] ∧ Same H H' ∧ H R = none ∧ H' R = some (.lst ys) ∧ Paired (RowV K H') ys (thin (ns.take i)))
    ⟨R, _, _, [.ref t0], rfl, s2, hRH, upd_same, .cons ⟨t0, rfl, SqU.of (by rw [upd_ne (ne_of_none upd_same hR), upd_same]; rfl)⟩ .nil⟩ (fun i σ H' _ ⟨_, _, _, _, _, s, _⟩ => s.seq hp) (fun i x σ H' H'' hi ⟨R, v2, v3, ys, hσ, s, hRn, hR, pr⟩ y => ?_) (fun σ H' ⟨R, v2, v3, ys, hσ, s, hRn, hR, pr⟩ => ?_)
  · subst hσ
    obtain ⟨rfl, hx⟩ := y
    replace hx : (ns.map fun (n : Nat) => V.int (n : Int))[i]? = some x := hx
    rw [List.getElem?_map] at hx
    obtain ⟨n, hn, rfl⟩ := Option.map_eq_some_iff.mp hx
    have l4 : (ns.take i).length ≤ 4 := by rw [List.length_take]; omega
    have tl := thin_small l4
    dsimp only [gName]
    refine asgE (opI ⟨_, rfl, _, rfl, R, rfl, ⟨_, SqL.of hR⟩, fun D hD => ?_⟩)
    refine lcM (walk_list (K := K) (a := R) (xs := ys)) yat pr hD (fun H' s => s.seq (SqL.of hR)) (by omega) (fun H y r => RowV K H y (r ++ [n])) (fun _ _ _ _ s h => h.same s) (fun H acc acc' v c e h => h.putL e) (fun j y r H4 Rk N hu0 rv s4 kk => ?_) (fun H4 acc s4 hacc pr2 => ?_)
    · obtain ⟨pr1, rfl, hq⟩ := rv
      have hm := thin_row r (List.mem_of_getElem? hu0)
      refine ⟨rfl, yes_ite ?_⟩
      refine ⟨_, rfl, _, rfl, by show 1 ≤ sizeLine; decide, fun t1 ht1 => ?_⟩
      have s5 := same_upd (o := .tup [V.int (n : Int)]) ht1
      have e1 : nums (r ++ [n]) = nums r ++ [V.int (n : Int)] := by unfold nums; rw [List.map_append]; rfl
      refine ⟨pr1, t1, nums r, [.int (n : Int)], rfl, rfl, ((hq.same s4).same s5).t, SqT.of upd_same, ?_, fun hz => ?_, fun _ hz => absurd hz (by simp), fun _ _ l hl => ?_⟩
      · rw [nums_len, sizeLine_eq]
        simp
        omega
      · refine kk _ _ s5 ⟨t1, rfl, ?_⟩
        rw [e1, hz]
        exact SqU.of upd_same
      · refine kk _ _ (s5.trans (same_upd hl)) ⟨l, rfl, ?_⟩
        rw [e1]
        exact SqU.of upd_same
    · have hR4 := s4 _ _ hR
      refine ⟨R, D, ys, acc, rfl, rfl, hR4, hacc, ?_, fun l hl => ?_⟩
      · rw [pr.length, pr2.length, sizeLine_eq]
        omega
      have s5 := same_upd (o := .lst (ys ++ acc)) hl
      have s45 := s4.trans s5
      refine ⟨l, _, _, ys ++ acc, rfl, s.trans s45, ?_, upd_same, ?_⟩
      · cases e : H l with
        | none => rfl
        | some o => rw [s4 _ _ (s _ _ e)] at hl; cases hl
      · rw [et i n hn, thin_snoc]
        exact paired_app (paired_mono (fun _ _ h => h.same s45) pr) (paired_map (fun _ _ h => h.same s5) pr2)
  · subst hσ
    dsimp only
    rw [nums_len, List.take_of_length_le (Nat.le_refl _)] at pr
    exact ⟨_, rfl, q _ R ys s hRn hR pr⟩
end
end Toy


set_option Elab.async false
set_option linter.all false
set_option maxRecDepth 100000
set_option maxHeartbeats 4000000
namespace Toy
open PySem L2 Sh ShL LamX NdefX
/-! ### all_rows -/
def rowD (r : List Nat) : PyData := .tuple (r.map fun (n : Nat) => .int (n : Int))
theorem eqvAll_nums : ∀ a b : List Nat, PyData.eqvAll (a.map fun (n : Nat) => .int (n : Int)) (b.map fun (n : Nat) => .int (n : Int)) = decide (a = b)
  | [], [] => by simp [PyData.eqvAll]
  | [], b :: bs => by simp [PyData.eqvAll]
  | a :: as, [] => by simp [PyData.eqvAll]
  | a :: as, b :: bs => by
    rw [List.map_cons, List.map_cons, PyData.eqvAll, eqvAll_nums as bs]
    by_cases h : a = b
    · subst h; simp [PyData.eqv]
    · have : ¬ (a : Int) = (b : Int) := by omega
      simp [PyData.eqv, h, this]
theorem eqv_rows (a b : List Nat) : PyData.eqv (rowD a) (rowD b) = decide (a = b) := by
  unfold rowD
  rw [PyData.eqv, eqvAll_nums]
theorem any_rows (rs : List (List Nat)) (r : List Nat) : ((rs.map rowD).any fun z => PyData.eqv z (rowD r)) = decide (r ∈ rs) := by
  induction rs with
  | nil => rfl
  | cons a rs ih =>
    rw [List.map_cons, List.any_cons, ih, eqv_rows]
    by_cases h : a = r
    · subst h; simp
    · rw [decide_eq_false h, Bool.false_or]
      exact decide_eq_decide.mpr ⟨fun h => List.mem_cons_of_mem _ h, fun h' => (List.mem_cons.mp h').resolve_left fun e => h e.symm⟩
theorem rows_lay : ∀ r : List Nat, PyData.canLayAll0 (r.map fun (n : Nat) => PyData.int (n : Int)) = true ∧ PyData.depthAll (r.map fun (n : Nat) => PyData.int (n : Int)) = 0
  | [] => ⟨rfl, by simp [PyData.depthAll]⟩
  | n :: r => by
    obtain ⟨h1, h2⟩ := rows_lay r
    refine ⟨by simp only [List.map_cons, PyData.canLayAll0, PyData.canLay0, h1]; rfl, ?_⟩
    simp only [List.map_cons, PyData.depthAll, PyData.depth, h2]
    rfl
theorem rowD_lay (r : List Nat) : PyData.canLay0 (rowD r) = true ∧ PyData.depth (rowD r) ≤ 1 := by
  obtain ⟨h1, h2⟩ := rows_lay r
  unfold rowD
  exact ⟨by simp only [PyData.canLay0]; exact h1, by simp only [PyData.depth, h2]; omega⟩
theorem rowsD_lay : ∀ rs : List (List Nat), PyData.canLayAll0 (rs.map rowD) = true ∧ PyData.depthAll (rs.map rowD) ≤ 1
  | [] => ⟨rfl, by simp [PyData.depthAll]⟩
  | r :: rs => by
    obtain ⟨h1, h2⟩ := rowsD_lay rs
    obtain ⟨k1, k2⟩ := rowD_lay r
    refine ⟨by simp only [List.map_cons, PyData.canLayAll0, k1, h1]; rfl, ?_⟩
    simp only [List.map_cons, PyData.depthAll]
    omega
theorem rowD_shaped (r : List Nat) : SeqAt.shaped (rowD r) = true := by
  obtain ⟨k1, k2⟩ := rowD_lay r
  show (PyData.canLay0 (rowD r) && decide (PyData.depth (rowD r) ≤ 64)) = true
  rw [k1, Bool.true_and]
  exact decide_eq_true (by omega)
theorem rowsD_shaped (rs : List (List Nat)) : SeqAt.shaped (.list (rs.map rowD)) = true ∧ SeqAt.shaped (.tuple (rs.map rowD)) = true := by
  obtain ⟨k1, k2⟩ := rowsD_lay rs
  constructor
  · show (PyData.canLay0 (.list (rs.map rowD)) && decide (PyData.depth (.list (rs.map rowD)) ≤ 64)) = true
    simp only [PyData.canLay0, k1, Bool.true_and, PyData.depth]
    exact decide_eq_true (by omega)
  · show (PyData.canLay0 (.tuple (rs.map rowD)) && decide (PyData.depth (.tuple (rs.map rowD)) ≤ 64)) = true
    simp only [PyData.canLay0, k1, Bool.true_and, PyData.depth]
    exact decide_eq_true (by omega)
theorem dp_nums {K : PySem.W.Frag} {H : Hp} : ∀ r : List Nat, DpAll K H (nums r) (r.map fun (n : Nat) => PyData.int (n : Int))
  | [] => .nil
  | n :: r => .cons (.int _) (dp_nums r)
theorem RowV.dp {K : PySem.W.Frag} {H : Hp} {v : V} {r : List Nat} (h : RowV K H v r) : Dp K H v (rowD r) := by
  obtain ⟨p, rfl, h⟩ := h
  exact .tup h.t (dp_nums r)
theorem rows_dp {K : PySem.W.Frag} {H : Hp} : ∀ {ys : List V} {rs : List (List Nat)}, Paired (RowV K H) ys rs → DpAll K H ys (rs.map rowD)
  | _, _, .nil => .nil
  | _, _, .cons h t => .cons h.dp (rows_dp t)
def wAt (cs : List Qc) (n : Nat) : Nat := match cs[n]? with
  | some c => c.w
  | none => 2
def flt (cs : List Qc) (ws ns : List Nat) : List Nat := ns.filter fun n => decide (wAt cs n ∈ ws)
def addR (rs : List (List Nat)) (r : List Nat) : List (List Nat) := if r ∈ rs then rs else rs ++ [r]
def rowsU (cs : List Qc) (ws : List Nat) (nss : List (List Nat)) : List (List Nat) := nss.foldl (fun rs ns => (thin (flt cs ws ns)).foldl addR rs) []
abbrev keyR (r : List Nat) : PyData := .tuple [.int (r.length : Nat), rowD r]
def rowsS (cs : List Qc) (one other ws : List Nat) : List (List Nat) := (rowsU cs ws [one, other]).mergeSort (PySem.W.dataLe false keyR)
theorem addR_no {rs : List (List Nat)} {r : List Nat} (h : ¬ r ∈ rs) : addR rs r = rs ++ [r] := if_neg h
theorem addR_yes {rs : List (List Nat)} {r : List Nat} (h : r ∈ rs) : addR rs r = rs := if_pos h
theorem addR_len (rs : List (List Nat)) (r : List Nat) : (addR rs r).length ≤ rs.length + 1 := by unfold addR; split <;> simp
theorem addAll_len : ∀ (l rs : List (List Nat)), (l.foldl addR rs).length ≤ rs.length + l.length
  | [], rs => Nat.le_refl _
  | r :: l, rs => by
    rw [List.foldl_cons, List.length_cons]
    have := addAll_len l (addR rs r)
    have := addR_len rs r
    omega
def spRows (T : List (Addr × Str)) (K : PySem.W.Frag) (C : Addr) : Sp := fun vs H Q _ => ∃ (pc ps pw a b : Addr) (ys : List V) (cs : List Qc) (one other ws : List Nat), vs = [.ref pc, .ref ps, .ref pw] ∧ SqU K H pc ys ∧ Paired (CallV (SqU K) C H) ys cs ∧
  SqU K H ps [.ref a, .ref b] ∧ SqU K H a (nums one) ∧ SqU K H b (nums other) ∧ (∀ n ∈ one, n < cs.length) ∧ (∀ n ∈ other, n < cs.length) ∧ one.length ≤ 4 ∧ other.length ≤ 4 ∧ SqU K H pw (nums ws) ∧ Tabs T H ∧
  ∀ H' l zs, Sm T H H' → TupF H' l zs → Paired (RowV K H') zs (rowsS cs one other ws) → Q (.ref l) H'
section
variable {P : Program} {w : World} {K : PySem.W.Frag} {mg : Str → Option Value} {base : Heap}
theorem ok_all_rows (T : Tx P w K mg) (B : Bx T base) : FnOk P w K mg base CX0 4 T.a_all_rows T.fd_all_rows ["calls", "scripts", "words"] (spRows (tabs T) K T.c_Routine) := by
  refine okT T.F_all_rows sc_all_rows (fun vs H Q E h => ?_) (fun cdv A outer s H vs Q E hcd hr h => ?_)
  · obtain ⟨pc, ps, pw, a, b, ys, cs, one, other, ws, rfl, _⟩ := h
    rfl
  have hcd : cdv = .ref T.kc_all_rows := hcd.symm.trans T.ec_all_rows
  have hu := hu_of hr
  have hu65 := hu65_of hr
  obtain ⟨pc, ps, pw, a, b, ys, cs, one, other, ws, rfl, hc, prc, hs, ha, hb, k1, k2, l1, l2, hw, tb, q⟩ := h
  refine ⟨_, (pss_cons (ps_set (i := 3) sc_all_rows.nd rfl (by first | exact Or.inl rfl | exact Or.inr rfl) (pe_lst pa_nil))
 (pss_cons (ps_for PassesOwn.never rfl (pi_tup (pv 1)) (pg_name (i := 4) sc_all_rows.nd rfl (by first | exact Or.inl rfl | exact Or.inr rfl))
 (pss_one (ps_for PassesOwn.never rfl (pi_list (pe_call (ok_thinned (w := w) T B) (hr.mono (by decide)) (by rfl) T.m_thinned T.F_thinned.kp T.bi_thinned .nil pass0 (pa_cons (pe_lc (own := [("number", 6)]) (g := gName 6) rfl sc_all_rows.nd (pi_tup (pv 4)) (blkOk_by (own := [("number", 6)]) (N := N_all_rows) (sc := defScope s_all_rows) (by decide +kernel)) (fun _ _ _ _ _ => (pg_name (i := 6) sc_all_rows.nd rfl (by first | exact Or.inl rfl | exact Or.inr rfl))) (fun _ _ _ _ _ => (pts_one (pt_cmpR (by exact op_in_seq : OpR _ (compareOp .In) (rIn K false)) (pe_ix (by exact ix_tup : IxR _ (rIxT K)) (pe_ix (by exact ix_tup : IxR _ (rIxT K)) (pv 0) (pv 6) (fun _ _ => rfl)) pe_int (fun _ _ => rfl)) (pv 2) (by rfl)))) (fun _ _ _ _ _ => (pv 6))) pa_nil))) (pg_name (i := 5) sc_all_rows.nd rfl (by first | exact Or.inl rfl | exact Or.inr rfl))
 (pss_one (ps_if (pt_cmpR (op_notInD hu65) (pv 5) (pv 3) (by rfl))
 (pss_one (ps_expr (pe_bm PySem.F.plainAttrs_list PySem.F.slot_list_append PySem.F.type_list_append mt_append (pv 3) (pa_cons (pv 5) pa_nil))))
 pss_nil)))))
 (pss_one (ps_ret (pe_callTy call_tuple_frz (by rfl) T.b_tuple (by decide +kernel) (pa_cons (pe_sortLamP (k := 0) (N := ["row"]) (fr := []) (js := []) (by rfl) T.b_sorted (by decide +kernel) (pa_cons (pv 3) pa_nil) B.tb_all_rows hcd (mem_all_rows T) (uniq_all_rows T) (hr.mono (by decide)) rfl (NdefX.nscope_by (by decide +kernel)) (by kernel_rfl) rfl (fun _ _ _ _ _ _ => rfl) (fun _ _ _ _ _ _ _ hr => (pe_tup (pa_cons (pe_callB (by exact call_len_seq : CallR _ (.builtin "len") (fun xs H Q => ∃ p ys, xs = [.ref p] ∧ (SqL K H p ys ∨ SqT K H p ys) ∧ Q (.int ys.length) H)) (by rfl) T.b_len (by decide +kernel) (pa_cons (pv 0) pa_nil)) (pa_cons (pv 0) pa_nil))))) pa_nil)))))), ?_⟩
  refine asgI ⟨by decide, fun R hR => ?_⟩
  dsimp only [gName]
  have s1 := same_upd (o := .lst []) hR
  have key : ∀ (i : Nat) (x : V), [V.ref a, V.ref b][i]? = some x → ∃ (c : Addr) (ns : List Nat), x = V.ref c ∧ [one, other][i]? = some ns ∧ SqU K H c (nums ns) ∧ (∀ n ∈ ns, n < cs.length) ∧ ns.length ≤ 4 := fun i x h => by
    match i, h with
    | 0, h => cases h; exact ⟨a, one, rfl, rfl, ha, k1, l1⟩
    | 1, h => cases h; exact ⟨b, other, rfl, rfl, hb, k2, l2⟩
    | i + 2, h => simp at h
  have rowsLe : ∀ i, i ≤ 2 → (rowsU cs ws ([one, other].take i)).length ≤ 32 := fun i hi => by
    have t1 : (thin (flt cs ws one)).length ≤ 16 := thin_small (Nat.le_trans (List.length_filter_le _ _) l1)
    have t2 : (thin (flt cs ws other)).length ≤ 16 := thin_small (Nat.le_trans (List.length_filter_le _ _) l2)
    have a1 := addAll_len (thin (flt cs ws one)) []
    have a2 := addAll_len (thin (flt cs ws other)) ((thin (flt cs ws one)).foldl addR [])
    rw [List.length_nil] at a1
    match i, hi with
    | 0, _ => show (0 : Nat) ≤ 32; omega
    | 1, _ => show ((thin (flt cs ws one)).foldl addR []).length ≤ 32; omega
    | 2, _ => show ((thin (flt cs ws other)).foldl addR ((thin (flt cs ws one)).foldl addR [])).length ≤ 32; omega
  refine forI2 ⟨_, rfl, ps, rfl, ⟨_, (hs.same s1).t⟩, ?_⟩
  refine for_it (walk_tup (K := K) (a := ps) (xs := [V.ref a, V.ref b])) (fun i σ H' => ∃ v4 v5 v6 zs, σ = [some (.ref pc), some (.ref ps), some (.ref pw), some (.ref R), v4, v5, v6] ∧ Same H H' ∧ H' R = some (.lst zs) ∧ Paired (RowV K H') zs (rowsU cs ws ([one, other].take i)))
    ⟨_, _, _, [], rfl, s1, upd_same, .nil⟩ (fun i σ H' _ ⟨_, _, _, _, _, s, _⟩ => (hs.same s).t) (fun i x σ H' H'' hi ⟨v4, v5, v6, zs, hσ, s, hRz, pr⟩ y => ?_) (fun σ H' ⟨v4, v5, v6, zs, hσ, s, hRz, pr⟩ => ?_)
  · subst hσ
    obtain ⟨rfl, hx⟩ := y
    obtain ⟨c, ns, rfl, hns, hcn, hlt, hl4⟩ := key i x hx
    dsimp only [gName]
    have hcs := hcn.same s
    have prc1 := fun n (h : n < cs.length) => paired_ix' prc (List.getElem?_eq_getElem h)
    refine ⟨_, rfl, c, rfl, ⟨_, hcs.t⟩, fun D hD => ?_⟩
    refine lcF (us := ns) (R0 := fun x n => x = V.int (n : Int)) (walk_tup (K := K) (a := c) (xs := nums ns)) yat (paired_self ns) hD (fun H' s => (hcs.same s).t) (by omega) (fun n => decide (wAt cs n ∈ ws)) (fun n => V.int (n : Int)) (fun x n H3 Rk N hm hx s3 ky kn => ?_) (fun H3 s3 hD3 => ?_)
    · subst hx
      obtain ⟨v, hv, q1, rfl, hq, _, ok⟩ := prc1 n (hlt n hm)
      have s03 := s.trans s3
      have ew : wAt cs n = (cs[n]'(hlt n hm)).w := by unfold wAt; rw [List.getElem?_eq_getElem (hlt n hm)]
      refine ⟨rfl, ?_⟩
      refine ⟨_, rfl, _, rfl, pc, ys, (n : Int), .ref q1, rfl, rfl, (hc.same s03).t, at_of (j := n) (by omega) hv, ?_⟩
      refine ⟨q1, _, 1, .int ((cs[n]'(hlt n hm)).w : Int), rfl, rfl, (hq.same s03).t, at1, ?_⟩
      refine ⟨_, rfl, pw, nums ws, rfl, .inr (hw.same s03).t, rfl, nums_flat ws, _, rfl, ?_⟩
      rw [inV_nums, ← ew]
      refine iteD (fun h => ?_) (fun h => ?_)
      · exact ⟨_, rfl, ky (decide_eq_true h)⟩
      · exact kn (decide_eq_false h)
    · have s03 := s.trans s3
      refine ⟨D, flt cs ws ns, rfl, SqL.of hD3, Nat.le_trans (List.length_filter_le _ _) hl4, fun H4 l ys2 s4 hln hl pr2 => ?_⟩
      have s04 := s03.trans s4
      have hR4 := s4 _ _ (s3 _ _ hRz)
      have hRl : R ≠ l := fun e => by rw [← e, s3 _ _ hRz] at hln; cases hln
      have l16 : (thin (flt cs ws ns)).length ≤ 16 := thin_small (Nat.le_trans (List.length_filter_le _ _) hl4)
      refine ⟨l, rfl, ⟨_, SqL.of hl⟩, ?_⟩
      refine for_it (walk_list (K := K) (a := l) (xs := ys2)) (fun j σ H' => ∃ v5 v6 zs', σ = [some (.ref pc), some (.ref ps), some (.ref pw), some (.ref R), some (.ref c), v5, v6] ∧ Same H H' ∧ H' l = some (.lst ys2) ∧ H' R = some (.lst zs') ∧ Paired (RowV K H') zs' (((thin (flt cs ws ns)).take j).foldl addR (rowsU cs ws ([one, other].take i))) ∧ Paired (RowV K H') ys2 (thin (flt cs ws ns)))
        ⟨_, _, zs, rfl, s04, hl, hR4, paired_mono (fun _ _ h => (h.same s3).same s4) pr, pr2⟩ (fun j σ H' _ ⟨_, _, _, _, _, h, _⟩ => SqL.of h) (fun j x σ H' H'' hj ⟨v5, v6, zs', hσ, s5, hl5, hR5, pr5, pry⟩ y => ?_) (fun σ H' ⟨v5, v6, zs', hσ, s5, hl5, hR5, pr5, pry⟩ => ?_)
      · subst hσ
        obtain ⟨rfl, hx⟩ := y
        obtain ⟨r, hr0, rv⟩ := paired_ix pry hx
        have et : (thin (flt cs ws ns)).take (j + 1) = (thin (flt cs ws ns)).take j ++ [r] := by rw [List.take_add_one, hr0]; rfl
        dsimp only [gName]
        refine ⟨_, rfl, _, rfl, rowD r, _, rv.dp, .lst (SqL.of hR5) (rows_dp pr5), rowD_shaped r, (rowsD_shaped _).1, _, rfl, ?_⟩
        rw [any_rows]
        have eadd : ((thin (flt cs ws ns)).take (j + 1)).foldl addR (rowsU cs ws ([one, other].take i)) = addR (((thin (flt cs ws ns)).take j).foldl addR (rowsU cs ws ([one, other].take i))) r := by rw [et, List.foldl_append]; rfl
        rw [eadd]
        have ll : zs'.length < sizeLine := by
          rw [pr5.length]
          have := addAll_len ((thin (flt cs ws ns)).take j) (rowsU cs ws ([one, other].take i))
          have := rowsLe i (by simpa using Nat.le_of_lt hi)
          have : ((thin (flt cs ws ns)).take j).length ≤ 16 := by rw [List.length_take]; omega
          rw [sizeLine_eq]
          omega
        refine iteN (fun hni => ?_) (fun hin => ?_)
        · refine ⟨_, rfl, .inl ⟨rfl, _, SqL.of hR5⟩, _, rfl, R, zs', x, rfl, rfl, hR5, ll, _, _, zs' ++ [x], rfl, fun d o h => ?_, by rw [upd_ne hRl.symm]; exact hl5, upd_same, ?_, paired_mono (fun _ _ h => h.putL hR5) pry⟩
          · rw [upd_ne (ne_of_none h hR)]
            exact s5 _ _ h
          · rw [addR_no hni]
            exact paired_app (paired_mono (fun _ _ h => h.putL hR5) pr5) (.cons (rv.putL hR5) .nil)
        · refine nextS ?_
          refine ⟨_, _, zs', rfl, s5, hl5, hR5, ?_, pry⟩
          rw [addR_yes hin]
          exact pr5
      · subst hσ
        refine ⟨_, _, _, zs', rfl, s5, hR5, ?_⟩
        have : [one, other].take (i + 1) = [one, other].take i ++ [ns] := by rw [List.take_add_one, hns]; rfl
        rw [this]
        unfold rowsU at pr5 ⊢
        rw [List.foldl_append]
        rw [pr2.length, List.take_of_length_le (Nat.le_refl _)] at pr5
        exact pr5
  · subst hσ
    dsimp only
    replace pr : Paired (RowV K H') zs (rowsU cs ws [one, other]) := pr
    generalize hrs : rowsU cs ws [one, other] = rs at pr
    obtain ⟨z1, z2, z3⟩ := paired_zip pr
    let f : V × List Nat → V × List Int := fun z => (z.1, z.2.map fun (n : Nat) => (n : Int))
    have ef : ∀ z, ShL.keyP (f z) = keyR z.2 := fun z => by
      show PyData.tuple [.int ((z.2.map fun (n : Nat) => (n : Int)).length : Nat), .tuple ((z.2.map fun (n : Nat) => (n : Int)).map .int)] = _
      rw [List.length_map, List.map_map]
      rfl
    have e1 : ((zs.zip rs).map f).map Prod.fst = zs := by rw [List.map_map]; exact z2
    refine ⟨_, rfl, R, (zs.zip rs).map f, rfl, by rw [e1]; exact SqL.of hRz, (Sm.of tb s).2, fun x hx => ?_, fun x hx H0 b0 e hq => ?_, fun H2 p2 ex tb2 n2 => ?_⟩
    · obtain ⟨z, hz, rfl⟩ := List.mem_map.mp hx
      obtain ⟨p, ep, hp⟩ := z1 z hz
      refine ⟨p, ep, ?_⟩
      have := hp.t
      unfold nums at this
      show SqT K H' p ((z.2.map fun (n : Nat) => (n : Int)).map V.int)
      rw [List.map_map]
      exact this
    · refine ⟨_, rfl, b0, _, congrArg (fun v => [v]) e, .inr hq, _, rfl, by show 2 ≤ sizeLine; decide, fun l hl => ⟨l, rfl, hl, ?_⟩⟩
      rw [upd_same, List.length_map]
    · have em : ((zs.zip rs).map f).mergeSort (PySem.W.dataLe false ShL.keyP) = ((zs.zip rs).mergeSort (PySem.W.dataLe false fun z => keyR z.2)).map f := (List.map_mergeSort (f := f) (l := zs.zip rs) fun a _ b _ => by
        show PySem.W.dataLe false (fun z => keyR z.2) a b = PySem.W.dataLe false (fun z => ShL.keyP (f z)) a b
        rw [show (fun z => ShL.keyP (f z)) = fun z : V × List Nat => keyR z.2 from funext ef]).symm
      have e2 : (((zs.zip rs).map f).mergeSort (PySem.W.dataLe false ShL.keyP)).map Prod.fst = ((zs.zip rs).mergeSort (PySem.W.dataLe false fun z => keyR z.2)).map Prod.fst := by
        rw [em, List.map_map]
        rfl
      rw [e2]
      refine ⟨p2, _, rfl, SqL.of upd_same, fun l H4 hl hx tf ho => ?_⟩
      have sm : Sm (tabs T) H H4 := (((Sm.of tb s).trans ⟨ex, tb2⟩).new n2).ext hx
      refine q H4 l _ sm tf ?_
      have pr2 : Paired (RowV K H4) zs rs := paired_mono (fun _ _ h => ((h.ex ex).same (same_upd n2)).same hx) pr
      have pz := (paired_zip pr2)
      unfold rowsS
      rw [hrs]
      exact paired_sort keyR pr2
end
end Toy


set_option Elab.async false
set_option linter.all false
set_option maxRecDepth 100000
set_option maxHeartbeats 4000000
namespace Toy
open PySem L2 Sh ShL LamX NdefX
/-! ### starts and steps -/
def rowK (r : List Nat) : NestedKey := .tup (r.map fun (n : Nat) => .num (n : Int))
theorem rowK_inj {a b : List Nat} (h : rowK a = rowK b) : a = b := by
  unfold rowK at h
  injection h with h
  refine List.map_inj_right (f := fun (n : Nat) => NestedKey.num (n : Int)) (fun x y e => ?_) |>.mp h
  have := NestedKey.num.inj e
  omega
theorem nkn_nums {K : PySem.W.Frag} {H : Hp} : ∀ r : List Nat, Paired (NKn K H 6) (nums r) (r.map fun (n : Nat) => NestedKey.num (n : Int))
  | [] => .nil
  | n :: r => .cons (nkn_leaf rfl) (nkn_nums r)
theorem key_row {K : PySem.W.Frag} {H : Hp} {p : Addr} {r : List Nat} (h : SqU K H p (nums r)) : KeyAt K H (rowK r) p := ⟨_, _, h.t, nkn_nums r, rfl⟩
theorem rows_kv {K : PySem.W.Frag} {H : Hp} : ∀ {zs : List V} {rs : List (List Nat)}, Paired (RowV K H) zs rs → Paired (KV1 K H) zs (rs.map rowK)
  | _, _, .nil => .nil
  | _, _, .cons ⟨p, e, h⟩ t => .cons ⟨p, e, key_row h⟩ (rows_kv t)
theorem idx_rows (r : List Nat) : ∀ rs : List (List Nat), (rs.map rowK).idxOf (rowK r) = rs.idxOf r
  | [] => rfl
  | a :: rs => by
    rw [List.map_cons, List.idxOf_cons, List.idxOf_cons, idx_rows r rs]
    by_cases h : a = r
    · subst h; simp
    · have h2 : ¬ rowK a = rowK r := fun e => h (rowK_inj e)
      rw [show (a == r) = false from beq_eq_false_iff_ne.mpr h, show (rowK a == rowK r) = false from beq_eq_false_iff_ne.mpr h2]
theorem walk_rangeN {n : Nat} : Walk (Itr 0 n) (nums (List.range n)).length (fun _ => True) (YAt (nums (List.range n))) := by
  have w := walk_range (lo := 0) (n := n)
  rw [nums_len, List.length_range]
  refine ⟨w.goes, w.stops, fun i H x H' hi g y => ?_⟩
  obtain ⟨e, ex⟩ := w.yields i H x H' hi g y
  refine ⟨e, ?_⟩
  rw [ex]
  unfold nums
  rw [List.getElem?_map, List.getElem?_range hi]
  show some (V.int (i : Int)) = some (V.int (0 + (i : Int)))
  rw [Int.zero_add]
theorem sliceT {K : PySem.W.Frag} {σ : L2.St} {H : Hp} {Q : VK} {te ti : TE} {p : Addr} {xs : List V} {i : Nat} (hv : ∀ R : VK, R (.ref p) H → te σ H R) (hi : ∀ R : VK, R (.int (i : Nat)) H → ti σ H R) (hs : SqU K H p xs) (hl : i ≤ xs.length) (q : ∀ l H', Same H H' → SqU K H' l (xs.take i) → Q (.ref l) H') :
    tSl (rSlA K) te tNoPart (tPart ti) σ H Q := by
  have ec : cutV xs none (some (i : Int)) = xs.take i := cut_take' xs i
  refine hv _ (hi _ ⟨_, rfl, p, xs, rfl, hs.t, fun hz => ?_, fun _ l hl' => ?_⟩)
  · have h2 := hz.2
    rw [HT.sIx_nat] at h2
    have : i = xs.length := by omega
    refine q p H (Same.refl _) ?_
    rw [this, List.take_length]
    exact hs
  · rw [ec]
    exact q l _ (same_upd hl') (SqU.of upd_same)
def startsR (rs : List (List Nat)) (r : List Nat) : List Nat := (List.range (r.length + 1)).map fun k => rs.idxOf (r.take k)
def stepsR (rs : List (List Nat)) (m : Nat) (r : List Nat) : List (List Nat) := ((List.range m).filter fun n => decide (r ++ [n] ∈ rs)).map fun n => [n, rs.idxOf (r ++ [n])]
def Small (rs : List (List Nat)) : Prop := rs.length ≤ 1000 ∧ ∀ r ∈ rs, r.length ≤ 1000
def spStarts (K : PySem.W.Frag) : Sp := fun vs H Q _ => ∃ (l : Addr) (zs : List V) (rs : List (List Nat)), vs = [.ref l] ∧ TupF H l zs ∧ Paired (RowV K H) zs rs ∧ Small rs ∧ (∀ r ∈ rs, ∀ k, r.take k ∈ rs) ∧ ∀ H' l' ys, Same H H' → SqU K H' l' ys → Paired (RowV K H') ys (rs.map (startsR rs)) → Q (.ref l') H'
theorem ints_rows {H : Hp} {f : Nat → Nat} : ∀ {acc : List V} {ks : List Nat}, Paired (fun y k => y = V.int ((f k : Nat) : Int)) acc ks → acc = nums (ks.map f)
  | _, _, .nil => rfl
  | _, _, .cons h t => by rw [h, ints_rows (H := H) t]; rfl
section
variable {P : Program} {w : World} {K : PySem.W.Frag} {mg : Str → Option Value} {base : Heap}
theorem ok_all_starts (T : Tx P w K mg) (B : Bx T base) : FnOk P w K mg base CX0 1 T.a_all_starts T.fd_all_starts ["rows"] (spStarts K) := by
  refine okT T.F_all_starts sc_all_starts (fun vs H Q E h => ?_) (fun cdv A outer s H vs Q E hcd hr h => ?_)
  · obtain ⟨l, zs, rs, rfl, _⟩ := h
    rfl
  have hu65 := hu65_of hr
  obtain ⟨l, zs, rs, rfl, hz, pr, ⟨sm1, sm2⟩, hclo, q⟩ := h
  refine ⟨_, (pss_one (ps_ret (pe_callTy call_tuple_of (by rfl) T.b_tuple (by decide +kernel) (pa_cons (pe_lc (own := [("row", 1)]) (g := gName 1) rfl sc_all_starts.nd (pi_tup (pv 0)) (blkOk_by (own := [("row", 1)]) (N := N_all_starts) (sc := defScope s_all_starts) (by decide +kernel)) (fun _ _ _ _ _ => (pg_name (i := 1) sc_all_starts.nd rfl (by first | exact Or.inl rfl | exact Or.inr rfl))) (fun _ _ _ _ _ => pts_nil) (fun _ _ _ _ _ => (pe_callTy (by exact call_tuple_of : CallR _ (.type "tuple") (fun xs H Q => ∃ p ys, xs = [.ref p] ∧ ((SqL K H p ys ∧ ∀ l, H l = none → Q (.ref l) (upd H l (.tup ys))) ∨ (SqT K H p ys ∧ Q (.ref p) H)))) (by rfl) T.b_tuple (by decide +kernel) (pa_cons (pe_lc (own := [("length", 2)]) (g := gName 2) rfl sc_all_starts.nd (pi_range1 (by rfl) T.b_range (pa_cons (pe_op op_add (pe_callB (by exact call_len_seq : CallR _ (.builtin "len") (fun xs H Q => ∃ p ys, xs = [.ref p] ∧ (SqL K H p ys ∨ SqT K H p ys) ∧ Q (.int ys.length) H)) (by rfl) T.b_len (by decide +kernel) (pa_cons (pv 1) pa_nil)) pe_int) pa_nil)) (blkOk_by (own := [("length", 2)]) (N := N_all_starts) (by kernel_rfl)) (fun _ _ _ _ _ => (pg_name (i := 2) sc_all_starts.nd rfl (by first | exact Or.inl rfl | exact Or.inr rfl))) (fun _ _ _ _ _ => pts_nil) (fun _ _ _ _ _ => (pe_bmF PySem.F.slot_tuple_index PySem.F.type_tuple_index (by exact (mt_tindexN hu65) : MtR _ "tuple.index" (rTIndexN K)) (pv 0) (pa_cons (pe_slice (by exact sl_tupA : SlR _ (rSlA K)) (pv 1) po_none (po_some (pv 2))) pa_nil)))) pa_nil)))) pa_nil)))), ?_⟩
  have up : ∀ {H'}, Same H H' → TupF H' l zs := fun s => TupF.ex (ExtN.of s) hz
  refine retE (cbI (consI ⟨_, rfl, l, rfl, ⟨_, hz.t⟩, fun D hD => ?_⟩))
  refine lcM (walk_tup (K := K) (a := l) (xs := zs)) yat pr hD (fun H' s => (up s).t) (by omega) (fun H y r => RowV K H y (startsR rs r)) (fun _ _ _ _ s h => h.same s) (fun H acc acc' v c e h => h.putL e) (fun i y r H4 Rk N hu0 rv s4 kk => ?_) (fun H4 acc s4 hacc pr2 => ?_)
  · have hm := List.mem_of_getElem? hu0
    have hrl := sm2 r hm
    obtain ⟨pr1, rfl, hq⟩ := rv.same s4
    have hz4 := up s4
    refine ⟨rfl, yes_ite ?_⟩
    have ej : (((nums r).length : Int) + 1).toNat = r.length + 1 := by rw [nums_len]; omega
    refine cbI (consI ⟨_, rfl, pr1, _, rfl, .inr hq.t, _, _, rfl, rfl, _, rfl, by rw [nums_len]; omega, by rw [nums_len]; omega, fun D2 hD2 => ?_⟩)
    rw [ej]
    have pk : Paired (fun x k => x = V.int ((k : Nat) : Int)) (nums (List.range (r.length + 1))) (List.range (r.length + 1)) := paired_self _
    refine lcM walk_rangeN yat pk hD2 (fun _ _ => True.intro) (by rw [List.length_range]; omega) (fun _ y k => y = V.int ((rs.idxOf (r.take k) : Nat) : Int)) (fun _ _ _ _ _ h => h) (fun _ _ _ _ _ _ h => h) (fun i2 x k H5 Rk2 N2 hk0 hx s5 kk2 => ?_) (fun H5 acc5 s5 hacc5 pr5 => ?_)
    · subst hx
      have hk : k ≤ r.length := by
        have := List.mem_of_getElem? hk0
        rw [List.mem_range] at this
        omega
      refine ⟨rfl, yes_ite ?_⟩
      have hz5 : TupF H5 l zs := TupF.ex (ExtN.of s5) hz4
      refine ⟨_, rfl, ⟨l, zs, rfl, hz5⟩, ?_⟩
      refine sliceT (vI rfl) (vI rfl) (hq.same s5) (by rw [nums_len]; exact hk) fun l6 H6 s6 h6 => ?_
      rw [nums_take] at h6
      have s46 := s5.trans s6
      have pr6 : Paired (RowV K H6) zs rs := paired_mono (fun _ _ h => h.same (s4.trans s46)) pr
      refine ⟨l, l6, zs, rs.map rowK, rowK (r.take k), rfl, rfl, (TupF.ex (ExtN.of s46) hz4).t, rows_kv pr6, key_row h6, List.mem_map.mpr ⟨_, hclo r hm k, rfl⟩, ?_⟩
      rw [idx_rows]
      exact kk2 _ _ s6 rfl
    · rw [ints_rows (H := H5) pr5] at hacc5
      refine ⟨D2, _, rfl, .inl ⟨SqL.of hacc5, fun l6 hl6 => ?_⟩⟩
      exact kk _ _ (s5.trans (same_upd hl6)) ⟨l6, rfl, SqU.of upd_same⟩
  · refine ⟨D, acc, rfl, .inl ⟨SqL.of hacc, fun l2 hl2 => ?_⟩⟩
    have s5 := same_upd (o := .tup acc) hl2
    exact q _ l2 acc (s4.trans s5) (SqU.of upd_same) (paired_map (fun _ _ h => h.same s5) pr2)
end
end Toy


set_option Elab.async false
set_option linter.all false
set_option maxRecDepth 100000
set_option maxHeartbeats 4000000
namespace Toy
open PySem L2 Sh ShL LamX NdefX
theorem lcMK {α : Type} {J : It} {us : List α} {xs : List V} {R0 : V → α → Prop} {G : Hp → Prop} {Y : Nat → Hp → V → Hp → Prop} (w : Walk J xs.length G Y) (hY : ∀ i H x H', Y i H x H' → H' = H ∧ xs[i]? = some x) (pr : Paired R0 xs us)
    {g : TG} {tt : TT} {te : TE} {vs : List Nat} {σ : L2.St} {H1 : Hp} {D : Addr} {Qd : Hp → Prop} (hD : H1 D = none) (hG : ∀ H, Same H1 H → G H) (hl : us.length ≤ 40000) (keep : α → Bool)
    (R : Hp → V → α → Prop) (mono : ∀ H H' v u, Same H H' → R H v u → R H' v u) (hS : ∀ H acc acc' v u, H D = some (.lst acc) → R H v u → R (upd H D (.lst acc')) v u)
    (hs : ∀ (i : Nat) (x : V) (u : α) (H : Hp) (Rk : VK) (N : Hp → Prop), us[i]? = some u → R0 x u → Same H1 H → (keep u = true → ∀ y H', Same H H' → R H' y u → Rk y H') → (keep u = false → ∀ H', Same H H' → N H') → g x (wipe σ vs) H fun σ2 H2 => wipe σ2 vs = wipe σ vs ∧ tt σ2 H2 fun b H3 => if b = true then te σ2 H3 Rk else N H3)
    (hd : ∀ H acc, Same H1 H → H D = some (.lst acc) → Paired (R H) acc (us.filter keep) → Qd H) :
    ∃ W : Nat → Nat → Hp → Prop, (∃ m, W 0 m (upd H1 D (.lst []))) ∧ ∀ i m H, W i m H →
      (J.stop i H ∧ Qd H) ∨ (J.go i H ∧ ∃ Nx : Hp → Prop, (∀ H', Nx H' → ∃ m', m' < m ∧ W (i + 1) m' H') ∧ ∀ x H', J.yld i H x H' → g x (wipe σ vs) H' fun σ2 H2 => wipe σ2 vs = wipe σ vs ∧ tt σ2 H2 fun b H3 =>
        if b = true then te σ2 H3 fun y H4 => ∃ acc, H4 D = some (.lst acc) ∧ acc.length < sizeLine ∧ Nx (upd H4 D (.lst (acc ++ [y]))) else Nx H3) := by
  refine lcG w hY pr (fun _ H => Same H1 H) (same_upd hD) (fun _ H acc s b o h => by rw [upd_ne (ne_of_none h hD)]; exact s _ _ h) (fun i H _ s => hG H s) hl keep R hS (fun i x u H acc Rk N hu r s hDH k1 k2 => ?_) hd
  exact hs i x u H Rk N hu r s (fun hk y H' s' h' => k1 hk y H' (s.trans s') (s' _ _ hDH) (fun v u h => mono _ _ _ _ s' h) h') fun hk H' s' => k2 hk H' (s.trans s') (s' _ _ hDH) fun v u h => mono _ _ _ _ s' h
def PairV (K : PySem.W.Frag) (r : List Nat) (H : Hp) (v : V) (n : Nat) : Prop := ∃ a b, v = .ref a ∧ SqU K H a [.int (n : Int), .ref b] ∧ SqU K H b (nums (r ++ [n]))
def StepV (K : PySem.W.Frag) (H : Hp) (v : V) (t : List (List Nat)) : Prop := ∃ q zs, v = .ref q ∧ SqU K H q zs ∧ Paired (RowV K H) zs t
theorem StepV.mono {K : PySem.W.Frag} {H H' : Hp} (s : ∀ p xs, SqU K H p xs → SqU K H' p xs) {v : V} {t : List (List Nat)} (h : StepV K H v t) : StepV K H' v t := by
  obtain ⟨q, zs, e, h1, h2⟩ := h
  exact ⟨q, zs, e, s _ _ h1, paired_mono (fun _ _ h => let ⟨p, e, h⟩ := h; ⟨p, e, s _ _ h⟩) h2⟩
def spSteps (K : PySem.W.Frag) : Sp := fun vs H Q _ => ∃ (l : Addr) (zs : List V) (rs : List (List Nat)) (m : Nat), vs = [.ref l, .int (m : Nat)] ∧ TupF H l zs ∧ Paired (RowV K H) zs rs ∧ Small rs ∧ m ≤ 1000 ∧ ∀ H' l' ys, Same H H' → SqU K H' l' ys → Paired (StepV K H') ys (rs.map (stepsR rs m)) → Q (.ref l') H'
section
variable {P : Program} {w : World} {K : PySem.W.Frag} {mg : Str → Option Value} {base : Heap}
theorem ok_all_steps (T : Tx P w K mg) (B : Bx T base) : FnOk P w K mg base CX0 1 T.a_all_steps T.fd_all_steps ["rows", "many"] (spSteps K) := by
  refine okT T.F_all_steps sc_all_steps (fun vs H Q E h => ?_) (fun cdv A outer s H vs Q E hcd hr h => ?_)
  · obtain ⟨l, zs, rs, m, rfl, _⟩ := h
    rfl
  have hu65 := hu65_of hr
  obtain ⟨l, zs, rs, m, rfl, hz, pr, ⟨sm1, sm2⟩, hm, q⟩ := h
  refine ⟨_, (pss_cons (ps_set (i := 2) sc_all_steps.nd rfl (by first | exact Or.inl rfl | exact Or.inr rfl) (pe_lst pa_nil))
 (pss_cons (ps_for PassesOwn.never rfl (pi_tup (pv 0)) (pg_name (i := 3) sc_all_steps.nd rfl (by first | exact Or.inl rfl | exact Or.inr rfl))
 (pss_cons (ps_setLc (i := 4) (own := [("number", 5)]) (g := gName 5) rfl sc_all_steps.nd rfl rfl (sw_true rfl rfl rfl (by decide +kernel)) (pi_range1 (by rfl) T.b_range (pa_cons (pv 1) pa_nil)) (blkOk_by (own := [("number", 5)]) (N := N_all_steps) (sc := defScope s_all_steps) (by decide +kernel)) (fun _ _ _ _ _ => (pg_name (i := 5) sc_all_steps.nd rfl (by first | exact Or.inl rfl | exact Or.inr rfl))) (fun _ _ _ _ _ => pts_nil) (fun _ _ _ _ _ => (pe_tup (pa_cons (pv 5) (pa_cons (pe_op (by exact op_catA : OpR _ (binaryOp .Add) (rCatA K)) (pv 3) (pe_tup (pa_cons (pv 5) pa_nil))) pa_nil)))))
 (pss_one (ps_expr (pe_bm PySem.F.plainAttrs_list PySem.F.slot_list_append PySem.F.type_list_append mt_append (pv 2) (pa_cons (pe_callTy call_tuple_of (by rfl) T.b_tuple (by decide +kernel) (pa_cons (pe_lc (own := [("number", 5), ("other", 6)]) (g := gTup K 2 (gCons (gName 5) (gCons (gName 6) gNil))) rfl sc_all_steps.nd (pi_list (pv 4)) (blkOk_by (own := [("number", 5), ("other", 6)]) (N := N_all_steps) (sc := defScope s_all_steps) (by decide +kernel)) (fun _ _ _ _ _ => (pg_tup rfl (pgs_cons (pg_name (i := 5) sc_all_steps.nd rfl (by first | exact Or.inl rfl | exact Or.inr rfl)) (pgs_cons (pg_name (i := 6) sc_all_steps.nd rfl (by first | exact Or.inl rfl | exact Or.inr rfl)) pgs_nil)))) (fun _ _ _ _ _ => (pts_one (pt_cmpR (by exact (op_inDT hu65) : OpR _ (compareOp .In) (rInDT K)) (pv 6) (pv 0) (by rfl)))) (fun _ _ _ _ _ => (pe_tup (pa_cons (pv 5) (pa_cons (pe_bmF PySem.F.slot_tuple_index PySem.F.type_tuple_index (by exact (mt_tindexN hu65) : MtR _ "tuple.index" (rTIndexN K)) (pv 0) (pa_cons (pv 6) pa_nil)) pa_nil))))) pa_nil)) pa_nil))))))
 (pss_one (ps_ret (pe_callTy call_tuple_of (by rfl) T.b_tuple (by decide +kernel) (pa_cons (pv 2) pa_nil)))))), ?_⟩
  have up : ∀ {H'}, Same H H' → TupF H' l zs := fun s => TupF.ex (ExtN.of s) hz
  have hlen := pr.length
  refine asgI ⟨by decide, fun S hS => ?_⟩
  dsimp only [gName]
  have s1 := same_upd (o := .lst []) hS
  refine forI2 ⟨_, rfl, l, rfl, ⟨_, (up s1).t⟩, ?_⟩
  refine for_it (walk_tup (K := K) (a := l) (xs := zs)) (fun i σ H' => ∃ v3 v4 v5 v6 ys, σ = [some (.ref l), some (.int (m : Nat)), some (.ref S), v3, v4, v5, v6] ∧ Same H H' ∧ H' S = some (.lst ys) ∧ Paired (StepV K H') ys ((rs.take i).map (stepsR rs m)))
    ⟨_, _, _, _, [], rfl, s1, upd_same, .nil⟩ (fun i σ H' _ ⟨_, _, _, _, _, _, s, _⟩ => (up s).t) (fun i x σ H' H'' hi ⟨v3, v4, v5, v6, ys, hσ, s, hSy, prs⟩ y => ?_) (fun σ H' ⟨v3, v4, v5, v6, ys, hσ, s, hSy, prs⟩ => ?_)
  · subst hσ
    obtain ⟨rfl, hx⟩ := y
    obtain ⟨r, hr0, rv⟩ := paired_ix pr hx
    have hrm := List.mem_of_getElem? hr0
    have hrl := sm2 r hrm
    obtain ⟨pr1, rfl, hq⟩ := rv.same s
    dsimp only [gName]
    refine asgI ⟨_, rfl, _, rfl, by omega, by omega, fun D hD => ?_⟩
    rw [show ((m : Int)).toNat = m from Int.toNat_natCast m]
    have pk : Paired (fun x k => x = V.int ((k : Nat) : Int)) (nums (List.range m)) (List.range m) := paired_self _
    refine lcM walk_rangeN yat pk hD (fun _ _ => True.intro) (by rw [List.length_range]; omega) (fun H y n => PairV K r H y n) (fun _ _ _ _ s h => let ⟨a, b, e, h1, h2⟩ := h; ⟨a, b, e, h1.same s, h2.same s⟩) (fun _ _ _ _ _ e h => let ⟨a, b, e1, h1, h2⟩ := h; ⟨a, b, e1, h1.putL e, h2.putL e⟩) (fun j x n H3 Rk N hn hx s3 kk => ?_) (fun H3 acc3 s3 hacc3 pr3 => ?_)
    · subst hx
      refine ⟨rfl, yes_ite ?_⟩
      refine ⟨_, rfl, _, rfl, _, rfl, by show 1 ≤ sizeLine; decide, fun t1 ht1 => ?_⟩
      have s4 := same_upd (o := .tup [V.int (n : Int)]) ht1
      have e1 : nums (r ++ [n]) = nums r ++ [V.int (n : Int)] := by unfold nums; rw [List.map_append]; rfl
      refine ⟨pr1, t1, nums r, [.int (n : Int)], rfl, rfl, ((hq.same s3).same s4).t, SqT.of upd_same, ?_, fun hz => ?_, fun _ hz => absurd hz (by simp), fun _ _ l5 hl5 => ?_⟩
      · rw [nums_len, sizeLine_eq]
        simp
        omega
      · refine ⟨by show 2 ≤ sizeLine; decide, fun l6 hl6 => kk _ _ (s4.trans (same_upd hl6)) ⟨l6, t1, rfl, SqU.of upd_same, ?_⟩⟩
        rw [e1, hz]
        exact (SqU.of (show upd H3 t1 (.tup [V.int (n : Int)]) t1 = _ from upd_same)).same (same_upd hl6)
      · refine ⟨by show 2 ≤ sizeLine; decide, fun l6 hl6 => kk _ _ ((s4.trans (same_upd hl5)).trans (same_upd hl6)) ⟨l6, l5, rfl, SqU.of upd_same, ?_⟩⟩
        rw [e1]
        exact (SqU.of (show upd (upd H3 t1 (.tup [V.int (n : Int)])) l5 (.tup (nums r ++ [V.int (n : Int)])) l5 = _ from upd_same)).same (same_upd hl6)
    · dsimp only [gName]
      have s03 := s.trans s3
      have hS3 := s3 _ _ hSy
      refine ⟨_, rfl, .inl ⟨rfl, _, SqL.of hS3⟩, ?_⟩
      refine cbI (consI ⟨_, rfl, D, rfl, ⟨_, SqL.of hacc3⟩, fun D2 hD2 => ?_⟩)
      refine lcMK (walk_list (K := K) (a := D) (xs := acc3)) yat pr3 hD2 (fun H' s => s.seq (SqL.of hacc3)) (by rw [List.length_range]; omega) (fun n => decide (r ++ [n] ∈ rs)) (fun H y n => RowV K H y [n, rs.idxOf (r ++ [n])]) (fun _ _ _ _ s h => h.same s) (fun _ _ _ _ _ e h => h.putL e) (fun j x n H4 Rk N hn hx s4 ky kn => ?_) (fun H4 acc4 s4 hacc4 pr4 => ?_)
      · obtain ⟨a, b, rfl, ha, hb⟩ := hx
        have ha4 := ha.same s4
        have hb4 := hb.same s4
        have s04 := s03.trans s4
        have pr04 : Paired (RowV K H4) zs rs := paired_mono (fun _ _ h => h.same s04) pr
        refine ⟨a, _, rfl, ha4.t, rfl, _, _, rfl, _, _, rfl, rfl, rfl, ?_⟩
        have dl := rows_dp pr04
        refine ⟨_, rfl, _, rfl, rowD (r ++ [n]), rs.map rowD, (RowV.dp ⟨b, rfl, hb4⟩), .tup (up s04).t dl, rowD_shaped _, (rowsD_shaped rs).2, _, rfl, ?_⟩
        rw [any_rows]
        refine iteD (fun hin => ?_) (fun hni => kn (decide_eq_false hni) _ (Same.refl _))
        refine ⟨_, rfl, _, rfl, ⟨l, zs, rfl, up s04⟩, _, rfl, l, b, zs, rs.map rowK, rowK (r ++ [n]), rfl, rfl, (up s04).t, rows_kv pr04, key_row hb4, List.mem_map.mpr ⟨_, hin, rfl⟩, ?_⟩
        refine ⟨by show 2 ≤ sizeLine; decide, fun l5 hl5 => ?_⟩
        refine ky (decide_eq_true hin) _ _ (same_upd hl5) ⟨l5, rfl, ?_⟩
        rw [idx_rows]
        exact SqU.of upd_same
      · refine ⟨D2, acc4, rfl, .inl ⟨SqL.of hacc4, fun l5 hl5 => ?_⟩⟩
        have s5 := same_upd (o := .tup acc4) hl5
        have s35 := (s3.trans s4).trans s5
        have hS5 := s35 _ _ hSy
        refine ⟨S, ys, .ref l5, rfl, rfl, hS5, ?_, _, _, _, _, ys ++ [.ref l5], rfl, fun d o h => ?_, upd_same, ?_⟩
        · rw [prs.length, List.length_map, List.length_take, sizeLine_eq]
          omega
        · rw [upd_ne (ne_of_none h hS)]
          exact s35 _ _ (s _ _ h)
        · have et : (rs.take (i + 1)).map (stepsR rs m) = (rs.take i).map (stepsR rs m) ++ [stepsR rs m r] := by rw [List.take_add_one, hr0, List.map_append]; rfl
          rw [et]
          refine paired_app (paired_mono (fun _ _ h => h.mono fun _ _ h => (h.same s35).putL hS5) prs) (.cons ⟨l5, acc4, rfl, (SqU.of upd_same).putL hS5, ?_⟩ .nil)
          unfold stepsR
          exact paired_map (fun _ _ h => (h.same s5).putL hS5) pr4
  · subst hσ
    dsimp only
    rw [hlen, List.take_of_length_le (Nat.le_refl _)] at prs
    refine ⟨_, rfl, S, ys, rfl, .inl ⟨SqL.of hSy, fun l2 hl2 => ?_⟩⟩
    have s5 := same_upd (o := .tup ys) hl2
    exact q _ l2 ys (s.trans s5) (SqU.of upd_same) (paired_mono (fun _ _ h => h.mono fun _ _ h => h.same s5) prs)
end
end Toy


set_option Elab.async false
set_option linter.all false
set_option maxRecDepth 100000
set_option maxHeartbeats 4000000
namespace Toy
open PySem L2 Sh ShL LamX NdefX
/-! ### dicts by sides -/
def SmK (T : List (Addr × Str)) (o : Addr) (H H' : Hp) : Prop := (∀ b u, H b = some u → (∀ ps, u ≠ .tbl ps) → b ≠ o → H' b = some u) ∧ Tabs T H'
/-- all but the tables and the object at x is kept -/
def Kx (x : Addr) (H H' : Hp) : Prop := ∀ b u, H b = some u → (∀ ps, u ≠ .tbl ps) → b ≠ x → H' b = some u
theorem Kx.trans {x : Addr} {H H1 H2 : Hp} (a : Kx x H H1) (b : Kx x H1 H2) : Kx x H H2 := fun c u h n ne => b c u (a c u h n ne) n ne
theorem Kx.refl {x : Addr} {H : Hp} : Kx x H H := fun _ _ h _ _ => h
theorem Kx.same {x : Addr} {H H1 : Hp} (s : Same H H1) : Kx x H H1 := fun b u h _ _ => s b u h
theorem Kx.ex {x : Addr} {H H1 : Hp} (s : ExtN H H1) : Kx x H H1 := fun b u h n _ => s b u h n
theorem Kx.put {x : Addr} {H : Hp} {o : HO} : Kx x H (upd H x o) := fun b u h _ ne => by rw [upd_ne ne]; exact h
/-- at x stands no list, no tuple, no table, no locked thing -/
def Odd (o : HO) : Prop := (∀ xs, o ≠ .lst xs) ∧ (∀ xs, o ≠ .tup xs) ∧ (∀ a b, o ≠ .frz a b)
theorem odd_ins {C dx : Addr} {fs : List (Str × V)} : Odd (.ins C dx fs) := ⟨fun _ z => (nomatch z), fun _ z => (nomatch z), fun _ _ z => (nomatch z)⟩
theorem odd_dn {P : Program} {w : World} {a : Addr} {xs : List (NestedKey × Addr × V)} : Odd (DNo P w a xs) := ⟨fun _ z => (by unfold DNo at z; cases z), fun _ z => (by unfold DNo at z; cases z), fun _ _ z => (by unfold DNo at z; cases z)⟩
section
variable {K : PySem.W.Frag} {H H' : Hp} {x p : Addr} {o : HO}
theorem SqU.kx {xs : List V} (hx : H x = some o) (ho : Odd o) (k : Kx x H H') (h : SqU K H p xs) : SqU K H' p xs := h.imp (fun h => k _ _ h (fun ps z => (nomatch z)) (ne_of h hx fun e => ho.2.1 _ e.symm)) id
theorem TupF.kx {xs : List V} (hx : H x = some o) (ho : Odd o) (k : Kx x H H') (h : TupF H p xs) : TupF H' p xs := let ⟨q, e, d⟩ := h; ⟨q, k _ _ e (fun ps z => by cases z) (ne_of e hx fun e => ho.2.2 _ _ e.symm), d⟩
theorem Sq.kx {xs : List V} (hx : H x = some o) (ho : Odd o) (k : Kx x H H') (h : Sq K H p xs) : Sq K H' p xs := by
  rcases h with ((h | ⟨q, h⟩) | h) | h
  · exact .inl (.inl (.inl (k _ _ h (fun ps z => (nomatch z)) (ne_of h hx fun e => ho.1 _ e.symm))))
  · exact .inl (.inl (.inr ⟨q, k _ _ h (fun ps z => (nomatch z)) (ne_of h hx fun e => ho.2.2 _ _ e.symm)⟩))
  · exact .inl (.inr h)
  · exact .inr (SqU.kx hx ho k h)
theorem RowV.kx {v : V} {r : List Nat} (hx : H x = some o) (ho : Odd o) (k : Kx x H H') (h : RowV K H v r) : RowV K H' v r := let ⟨p, e, h⟩ := h; ⟨p, e, SqU.kx hx ho k h⟩
theorem KeyAt.kx {b : Addr} {kk : NestedKey} (hx : H x = some o) (ho : Odd o) (k : Kx x H H') (h : KeyAt K H kk b) : KeyAt K H' kk b := KeyAt.mono (fun c u r => by
  rcases r with r | ⟨q, r⟩
  · exact .inl (k _ _ r (fun ps z => (nomatch z)) (ne_of r hx fun e => ho.2.1 _ e.symm))
  · exact .inr ⟨q, k _ _ r (fun ps z => (nomatch z)) (ne_of r hx fun e => ho.2.2 _ _ e.symm)⟩) h
theorem KeyAt.ex {b : Addr} {kk : NestedKey} (s : ExtN H H') (h : KeyAt K H kk b) : KeyAt K H' kk b := KeyAt.mono (fun c u r => by
  rcases r with r | ⟨q, r⟩
  · exact .inl (s _ _ r fun ps z => nomatch z)
  · exact .inr ⟨q, s _ _ r fun ps z => nomatch z⟩) h
theorem DN.ex {P : Program} {w : World} {a : Addr} {kvs : List (NestedKey × V)} (s : ExtN H H') (h : DN P w K H a kvs) : DN P w K H' a kvs := by
  obtain ⟨xs, h1, h2, h3⟩ := h
  exact ⟨xs, s _ _ h1 fun ps z => (by unfold DNo at z; cases z), h2, fun x hx => KeyAt.ex s (h3 x hx)⟩
theorem DN.kx {P : Program} {w : World} {C dx : Addr} {fs : List (Str × V)} {a : Addr} {kvs : List (NestedKey × V)} (hx : H x = some (.ins C dx fs)) (k : Kx x H H') (h : DN P w K H a kvs) : DN P w K H' a kvs := by
  obtain ⟨xs, h1, h2, h3⟩ := h
  exact ⟨xs, k _ _ h1 (fun ps z => by unfold DNo at z; cases z) (ne_of h1 hx fun z => by unfold DNo at z; cases z), h2, fun y hy => KeyAt.kx hx odd_ins k (h3 y hy)⟩
theorem StepV.kx {v : V} {t : List (List Nat)} (hx : H x = some o) (ho : Odd o) (k : Kx x H H') (h : StepV K H v t) : StepV K H' v t := h.mono fun _ _ h => SqU.kx hx ho k h
end
theorem dcN_tup {P : Program} {w : World} {K : PySem.W.Frag} {a : Addr} {xs : List V} {g : TG} {tt : TT} {tk tv : TE} {vs : List Nat} {σ : L2.St} {H0 : Hp} {D : Addr} {Qd : Hp → Prop} (Pv : Nat → Hp → Prop) (h0 : Pv 0 H0) (hl : ∀ i H, i ≤ xs.length → Pv i H → SqT K H a xs)
    (hs : ∀ i x H, xs[i]? = some x → Pv i H → dcTurn P w K g tt tk tv vs σ D (Pv (i + 1)) x H) (hd : ∀ H, Pv xs.length H → Qd H) :
    ∃ W : Nat → Nat → Hp → Prop, (∃ m, W 0 m H0) ∧ ∀ i m H, W i m H → ((Itt K a).stop i H ∧ Qd H) ∨ ((Itt K a).go i H ∧ ∃ T : Hp → Prop, (∀ H', T H' → ∃ m', m' < m ∧ W (i + 1) m' H') ∧ ∀ x H', (Itt K a).yld i H x H' → dcTurn P w K g tt tk tv vs σ D T x H') := by
  refine ⟨fun i m H => m = xs.length - i ∧ i ≤ xs.length ∧ Pv i H, ⟨xs.length, by simp, Nat.zero_le _, h0⟩, ?_⟩
  rintro i m H ⟨rfl, hi, p⟩
  have q := hl i H hi p
  by_cases hlt : i < xs.length
  · refine .inr ⟨⟨xs, xs[i], q, by simp [hlt]⟩, Pv (i + 1), fun H' p' => ⟨xs.length - (i + 1), by omega, rfl, hlt, p'⟩, fun x H' y => ?_⟩
    obtain ⟨e, y⟩ := y
    subst e
    exact hs i x _ (y xs q) p
  · have e : i = xs.length := by omega
    subst e
    exact .inl ⟨⟨xs, q, Nat.le_refl _⟩, hd H p⟩
abbrev kx0 := rowK [0]
abbrev kx1 := rowK [1]
abbrev kx2 := rowK [0, 1]
theorem kx01 : ¬ kx0 = kx1 := fun e => absurd (rowK_inj e) (by decide)
theorem kx02 : ¬ kx0 = kx2 := fun e => absurd (rowK_inj e) (by decide)
theorem kx12 : ¬ kx1 = kx2 := fun e => absurd (rowK_inj e) (by decide)
theorem heap_at (c : Addr) (o : Obj) (ho : ∀ a b d, o ≠ ⟨a, b, .freed, d⟩) : ({ objs := Array.replicate (c + 1) o } : Heap).get? c = some o := by
  unfold Heap.get?
  rw [show (Array.replicate (c + 1) o)[c]? = some o by simp]
  split
  · rename_i e
    exact absurd (Option.some.inj e) (ho _ _ _)
  · rfl
theorem dno_code {P : Program} {w : World} {D : Addr} {xs : List (NestedKey × Addr × V)} {q : Str} : DNo P w D xs ≠ CodeO D q := fun e => by
  unfold DNo CodeO at e
  injection e with e
  have hg := heap_at D { cls := .none, data := .fields #[.none, .str q 0] } (fun a b d z => by cases z)
  have h1 := congrFun e { objs := Array.replicate (D + 1) { cls := .none, data := .fields #[.none, .str q 0] } }
  have t : (∃ (oc : Obj) (vs : Array Value) (t : Tok), ({ objs := Array.replicate (D + 1) { cls := .none, data := .fields #[.none, .str q 0] } } : Heap).get? D = some oc ∧ oc.data = .fields vs ∧ vs[1]? = some (.str q t)) := ⟨_, _, 0, hg, rfl, rfl⟩
  rw [← h1] at t
  obtain ⟨_, _, ys, _, o, es, ep, g, _, hd, _⟩ := t
  rw [hg] at g
  cases g
  cases hd
/-- {words: .. for words in sides} -/
theorem dcSides {P : Program} {w : World} {K : PySem.W.Frag} {T : List (Addr × Str)} {a b0 b1 b2 : Addr} {n m : Nat} {tv : TE} {σ : L2.St} {H1 : Hp} {Q : VK} (R : Hp → V → List Nat → Prop)
    (hst : ∀ D o H H', H D = some o → Odd o → Kx D H H' → ∀ v r, R H v r → R H' v r) (hv : ∀ R : VK, R (.ref a) H1 → tVar n σ H1 R) (hw : wipe ((wipe σ [m]).set m (some (.ref b0))) [m] = wipe σ [m] ∧ wipe ((wipe σ [m]).set m (some (.ref b1))) [m] = wipe σ [m] ∧ wipe ((wipe σ [m]).set m (some (.ref b2))) [m] = wipe σ [m])
    (hm : ∀ x, ((wipe σ [m]).set m (some x))[m]? = some (some x)) (ha : SqU K H1 a [.ref b0, .ref b1, .ref b2]) (h0 : SqU K H1 b0 (nums [0])) (h1 : SqU K H1 b1 (nums [1])) (h2 : SqU K H1 b2 (nums [0, 1])) (tb : Tabs T H1)
    (hs : ∀ (b : Addr) (r : List Nat) (H : Hp) (k : VK), (r = [0] ∨ r = [1] ∨ r = [0, 1]) → SqU K H b (nums r) → ExtN H1 H → Tabs T H → (∀ y H', ExtN H H' → Tabs T H' → R H' y r → k y H') → tv ((wipe σ [m]).set m (some (.ref b))) H k)
    (q : ∀ H' d v0 v1 v2, ExtN H1 H' → Tabs T H' → H1 d = none → DN P w K H' d [(kx0, v0), (kx1, v1), (kx2, v2)] → R H' v0 [0] → R H' v1 [1] → R H' v2 [0, 1] → Q (.ref d) H') :
    tDcN P w K (iTup K (tVar n)) (gName m) tYes (tVar m) tv [m] σ H1 Q := by
  unfold tDcN iTup
  refine hv _ ?_
  refine ⟨a, rfl, ⟨_, ha.t⟩, fun D o hD hN => ?_⟩
  have fr : ∀ {H'}, ExtN H1 H' → ∀ o', ExtN H1 (upd H' D o') := fun s o' c u h n => by rw [upd_ne (ne_of_none h hD)]; exact s c u h n
  have tput : ∀ {H' : Hp} {kvs}, DN P w K H' D kvs → Tabs T H' → ∀ o', Tabs T (upd H' D o') := fun {H' kvs} hd t o' p hp => by
    obtain ⟨xs, e, _⟩ := hd
    obtain ⟨ps, h1, h2, h3⟩ := t p hp
    have ne : ∀ {b : Addr} {u : HO}, H' b = some u → u ≠ DNo P w D xs → (upd H' D o') b = some u := fun {b u} q n => by
      rw [upd_ne fun z => n (by rw [z, e] at q; exact (Option.some.inj q).symm)]
      exact q
    refine ⟨ps, ne h1 (by intro z; unfold DNo at z; cases z), h2, fun pos cv hc => ?_⟩
    obtain ⟨c, e1, e2⟩ := h3 pos cv hc
    refine ⟨c, e1, ?_⟩
    by_cases hc : c = D
    · subst hc
      rw [e] at e2
      exact absurd (Option.some.inj e2) dno_code
    · rw [upd_ne hc]
      exact e2
  refine dcN_tup (K := K) (a := a) (xs := [.ref b0, .ref b1, .ref b2]) (fun i H' => ExtN H1 H' ∧ Tabs T H' ∧ ∃ v0 v1 v2, DN P w K H' D ([(kx0, v0), (kx1, v1), (kx2, v2)].take i) ∧ (0 < i → R H' v0 [0]) ∧ (1 < i → R H' v1 [1]) ∧ (2 < i → R H' v2 [0, 1]))
    ⟨ExtN.of (same_upd hD), tb.ext (same_upd hD), .non, .non, .non, hN, fun h => absurd h (by omega), fun h => absurd h (by omega), fun h => absurd h (by omega)⟩ (fun i H' _ ⟨e, _⟩ => (ha.ex e).t) (fun i x H' hi ⟨e, t, v0, v1, v2, hd, r0, r1, r2⟩ => ?_) (fun H' ⟨e, t, v0, v1, v2, hd, r0, r1, r2⟩ => ?_)
  · obtain ⟨xs, hxs, _⟩ := id hd
    match i, hi with
    | 0, hi =>
      cases hi
      refine ⟨hw.1, yes_ite ⟨_, hm _, ?_⟩⟩
      refine hs b0 [0] H' _ (.inl rfl) (h0.ex e) e t fun y H2 e2 t2 hr => ?_
      have hd2 := DN.ex e2 hd
      obtain ⟨ys, hys, _⟩ := id hd2
      refine ⟨_, kx0, b0, rfl, hd2, key_row (((h0.ex e)).ex e2), by show 0 < sizeLine; decide, fun o2 hN2 => ⟨fr (e.trans e2) o2, tput hd2 t2 o2, y, v1, v2, hN2, fun _ => hst D _ _ _ hys odd_dn Kx.put _ _ hr, fun h => absurd h (by omega), fun h => absurd h (by omega)⟩⟩
    | 1, hi =>
      cases hi
      refine ⟨hw.2.1, yes_ite ⟨_, hm _, ?_⟩⟩
      refine hs b1 [1] H' _ (.inr (.inl rfl)) (h1.ex e) e t fun y H2 e2 t2 hr => ?_
      have hd2 := DN.ex e2 hd
      obtain ⟨ys, hys, _⟩ := id hd2
      have r0' := hst D _ _ _ hxs odd_dn (Kx.ex e2) _ _ (r0 (by omega))
      refine ⟨_, kx1, b1, rfl, hd2, key_row (((h1.ex e)).ex e2), by show 1 < sizeLine; decide, fun o2 hN2 => ⟨fr (e.trans e2) o2, tput hd2 t2 o2, v0, y, v2, ?_, fun _ => hst D _ _ _ hys odd_dn Kx.put _ _ r0', fun _ => hst D _ _ _ hys odd_dn Kx.put _ _ hr, fun h => absurd h (by omega)⟩⟩
      rw [show putK ([(kx0, v0), (kx1, v1), (kx2, v2)].take 1) kx1 y = [(kx0, v0), (kx1, y)] from putK_new _ ((valV_neg kx01).trans valV_nil)] at hN2
      exact hN2
    | 2, hi =>
      cases hi
      refine ⟨hw.2.2, yes_ite ⟨_, hm _, ?_⟩⟩
      refine hs b2 [0, 1] H' _ (.inr (.inr rfl)) (h2.ex e) e t fun y H2 e2 t2 hr => ?_
      have hd2 := DN.ex e2 hd
      obtain ⟨ys, hys, _⟩ := id hd2
      have r0' := hst D _ _ _ hxs odd_dn (Kx.ex e2) _ _ (r0 (by omega))
      have r1' := hst D _ _ _ hxs odd_dn (Kx.ex e2) _ _ (r1 (by omega))
      refine ⟨_, kx2, b2, rfl, hd2, key_row (((h2.ex e)).ex e2), by show 2 < sizeLine; decide, fun o2 hN2 => ⟨fr (e.trans e2) o2, tput hd2 t2 o2, v0, v1, y, ?_, fun _ => hst D _ _ _ hys odd_dn Kx.put _ _ r0', fun _ => hst D _ _ _ hys odd_dn Kx.put _ _ r1', fun _ => hst D _ _ _ hys odd_dn Kx.put _ _ hr⟩⟩
      rw [show putK ([(kx0, v0), (kx1, v1), (kx2, v2)].take 2) kx2 y = [(kx0, v0), (kx1, v1), (kx2, y)] from putK_new _ ((valV_neg kx02).trans ((valV_neg kx12).trans valV_nil))] at hN2
      exact hN2
    | i + 3, hi => simp at hi
  · exact q H' D v0 v1 v2 e t hD hd (r0 (by show 0 < 3; decide)) (r1 (by show 1 < 3; decide)) (r2 (by show 2 < 3; decide))
/-! ### the rows, plain -/
theorem sub_one {n : Nat} {b : List Nat} (h : b.Sublist [n]) : b = [] ∨ b = [n] := by
  cases h with
  | cons _ h => exact .inl (List.sublist_nil.mp h)
  | cons_cons _ h => exact .inr (by rw [List.sublist_nil.mp h])

theorem mem_thin {r : List Nat} : ∀ {ns : List Nat}, r ∈ thin ns ↔ r.Sublist ns := fun {ns} => by
  induction ns using snoc_ind generalizing r with
  | h0 => rw [show thin [] = [[]] from rfl, List.mem_singleton, List.sublist_nil]
  | h1 ns n ih =>
    rw [thin_snoc, List.mem_append, List.mem_map, List.sublist_append_iff]
    constructor
    · rintro (h | ⟨t, ht, rfl⟩)
      · exact ⟨r, [], by simp, ih.mp h, List.nil_sublist _⟩
      · exact ⟨t, [n], rfl, ih.mp ht, List.Sublist.refl _⟩
    · rintro ⟨a, b, rfl, h1, h2⟩
      rcases sub_one h2 with rfl | rfl
      · rw [List.append_nil]; exact .inl (ih.mpr h1)
      · exact .inr ⟨a, ih.mpr h1, rfl⟩
theorem mem_addR {rs : List (List Nat)} {r x : List Nat} : x ∈ addR rs r ↔ x ∈ rs ∨ x = r := by
  by_cases h : r ∈ rs
  · rw [addR_yes h]
    exact ⟨.inl, fun k => k.elim id fun e => e ▸ h⟩
  · rw [addR_no h, List.mem_append, List.mem_singleton]
theorem mem_addAll {x : List Nat} : ∀ {l rs : List (List Nat)}, x ∈ l.foldl addR rs ↔ x ∈ rs ∨ x ∈ l
  | [], rs => by simp
  | r :: l, rs => by
    rw [List.foldl_cons, mem_addAll, mem_addR, List.mem_cons]
    exact ⟨fun h => h.elim (fun h => h.elim .inl fun h => .inr (.inl h)) fun h => .inr (.inr h), fun h => h.elim (fun h => .inl (.inl h)) fun h => h.elim (fun h => .inl (.inr h)) .inr⟩
theorem nd_addAll : ∀ {l rs : List (List Nat)}, rs.Nodup → (l.foldl addR rs).Nodup
  | [], rs, h => h
  | r :: l, rs, h => by
    rw [List.foldl_cons]
    refine nd_addAll ?_
    by_cases k : r ∈ rs
    · rw [addR_yes k]; exact h
    · rw [addR_no k]
      exact List.nodup_append.mpr ⟨h, List.pairwise_singleton _ _, fun a ha b hb e => k (by rw [← List.mem_singleton.mp hb, ← e]; exact ha)⟩
theorem mem_rowsS {cs : List Qc} {one other ws r : List Nat} : r ∈ rowsS cs one other ws ↔ r.Sublist (flt cs ws one) ∨ r.Sublist (flt cs ws other) := by
  unfold rowsS
  rw [(List.mergeSort_perm _ _).mem_iff]
  show r ∈ (thin (flt cs ws other)).foldl addR ((thin (flt cs ws one)).foldl addR []) ↔ _
  rw [mem_addAll, mem_addAll, mem_thin, mem_thin]
  simp
theorem nd_rowsS {cs : List Qc} {one other ws : List Nat} : (rowsS cs one other ws).Nodup := by
  unfold rowsS
  rw [(List.mergeSort_perm _ _).nodup_iff]
  exact nd_addAll (nd_addAll List.nodup_nil)
theorem rowsS_take {cs : List Qc} {one other ws : List Nat} : ∀ r ∈ rowsS cs one other ws, ∀ k, r.take k ∈ rowsS cs one other ws := fun r hr k => by
  rw [mem_rowsS] at hr ⊢
  exact hr.imp (fun h => (List.take_sublist _ _).trans h) fun h => (List.take_sublist _ _).trans h
theorem rowsS_small {cs : List Qc} {one other ws : List Nat} (l1 : one.length ≤ 4) (l2 : other.length ≤ 4) : (rowsS cs one other ws).length ≤ 32 ∧ ∀ r ∈ rowsS cs one other ws, r.length ≤ 4 := by
  have t1 : (thin (flt cs ws one)).length ≤ 16 := thin_small (Nat.le_trans (List.length_filter_le _ _) l1)
  have t2 : (thin (flt cs ws other)).length ≤ 16 := thin_small (Nat.le_trans (List.length_filter_le _ _) l2)
  have a1 := addAll_len (thin (flt cs ws one)) []
  have a2 := addAll_len (thin (flt cs ws other)) ((thin (flt cs ws one)).foldl addR [])
  rw [List.length_nil] at a1
  refine ⟨?_, fun r hr => ?_⟩
  · unfold rowsS
    rw [(List.mergeSort_perm _ _).length_eq]
    show ((thin (flt cs ws other)).foldl addR ((thin (flt cs ws one)).foldl addR [])).length ≤ 32
    omega
  · rcases mem_rowsS.mp hr with h | h
    · exact Nat.le_trans h.length_le (Nat.le_trans (List.length_filter_le _ _) l1)
    · exact Nat.le_trans h.length_le (Nat.le_trans (List.length_filter_le _ _) l2)
theorem rowsS_ok {cs : List Qc} {one other ws : List Nat} (l1 : one.length ≤ 4) (l2 : other.length ≤ 4) : Small (rowsS cs one other ws) := by
  obtain ⟨h1, h2⟩ := rowsS_small (cs := cs) (ws := ws) l1 l2
  exact ⟨by omega, fun r hr => Nat.le_trans (h2 r hr) (by decide)⟩
end Toy


set_option Elab.async false
set_option linter.all false
set_option maxRecDepth 100000
set_option maxHeartbeats 4000000
namespace Toy
open PySem L2 Sh ShL LamX NdefX
/-! ### Question -/
theorem dcN_it {J : It} {n : Nat} {G : Hp → Prop} {Y : Nat → Hp → V → Hp → Prop} (wk : Walk J n G Y) {P : Program} {w : World} {K : PySem.W.Frag} {g : TG} {tt : TT} {tk tv : TE} {vs : List Nat} {σ : L2.St} {H0 : Hp} {D : Addr} {Qd : Hp → Prop} (Pv : Nat → Hp → Prop) (h0 : Pv 0 H0) (hG : ∀ i H, i ≤ n → Pv i H → G H)
    (hs : ∀ i x H H', i < n → Pv i H → Y i H x H' → dcTurn P w K g tt tk tv vs σ D (Pv (i + 1)) x H') (hd : ∀ H, Pv n H → Qd H) :
    ∃ W : Nat → Nat → Hp → Prop, (∃ m, W 0 m H0) ∧ ∀ i m H, W i m H → (J.stop i H ∧ Qd H) ∨ (J.go i H ∧ ∃ T : Hp → Prop, (∀ H', T H' → ∃ m', m' < m ∧ W (i + 1) m' H') ∧ ∀ x H', J.yld i H x H' → dcTurn P w K g tt tk tv vs σ D T x H') := by
  refine ⟨fun i m H => m = n - i ∧ i ≤ n ∧ Pv i H, ⟨n, by simp, Nat.zero_le _, h0⟩, ?_⟩
  rintro i m H ⟨rfl, hi, p⟩
  have q := hG i H hi p
  by_cases hlt : i < n
  · exact .inr ⟨wk.goes i H hlt q, Pv (i + 1), fun H' p' => ⟨n - (i + 1), by omega, rfl, hlt, p'⟩, fun x H' y => hs i x H H' hlt p (wk.yields i H x H' hlt q y)⟩
  · have e : i = n := by omega
    subst e
    exact .inl ⟨wk.stops H q, hd H p⟩
theorem fldE {K : PySem.W.Frag} {ta tv : TE} {f : Str} {D : Ends} {σ : L2.St} {H : Hp} (h : tv σ H fun y H1 => ta σ H1 fun x H2 => ∃ a C dx fs, x = .ref a ∧ H2 a = some (.ins C dx fs) ∧ Cls K C ∧ NoAttr K C f ∧ fs.length < 1000 ∧ D.nx σ (upd H2 a (.ins C dx (putF f y fs)))) : sFld K ta tv f D σ H := h
theorem fldI {K : PySem.W.Frag} {ta tv : TE} {f : Str} {u : TS} {D : Ends} {σ : L2.St} {H : Hp} (h : tv σ H fun y H1 => ta σ H1 fun x H2 => ∃ a C dx fs, x = .ref a ∧ H2 a = some (.ins C dx fs) ∧ Cls K C ∧ NoAttr K C f ∧ fs.length < 1000 ∧ u D σ (upd H2 a (.ins C dx (putF f y fs)))) : tSeq (sFld K ta tv f) u D σ H := h
theorem tabs_put {P : Program} {w : World} {K : PySem.W.Frag} {T : List (Addr × Str)} {H' : Hp} {D : Addr} {kvs : List (NestedKey × V)} (hd : DN P w K H' D kvs) (t : Tabs T H') (o' : HO) : Tabs T (upd H' D o') := fun p hp => by
  obtain ⟨xs, e, _⟩ := hd
  obtain ⟨ps, h1, h2, h3⟩ := t p hp
  have ne : ∀ {b : Addr} {u : HO}, H' b = some u → u ≠ DNo P w D xs → (upd H' D o') b = some u := fun {b u} q n => by
    rw [upd_ne fun z => n (by rw [z, e] at q; exact (Option.some.inj q).symm)]
    exact q
  refine ⟨ps, ne h1 (by intro z; unfold DNo at z; cases z), h2, fun pos cv hc => ?_⟩
  obtain ⟨c, e1, e2⟩ := h3 pos cv hc
  refine ⟨c, e1, ?_⟩
  by_cases hc : c = D
  · subst hc
    rw [e] at e2
    exact absurd (Option.some.inj e2) dno_code
  · rw [upd_ne hc]
    exact e2
theorem putK_le (kvs : List (NestedKey × V)) (k : NestedKey) (v : V) : (putK kvs k v).length ≤ kvs.length + 1 := by
  unfold putK
  split <;> simp
theorem dcE_it {K : PySem.W.Frag} {l : Addr} {xs : List V} {P : Program} {w : World} {g : TG} {tt : TT} {tk tv : TE} {vs : List Nat} {σ : L2.St} {H0 : Hp} {D : Addr} {Qd : Hp → Prop} (Pv : Nat → Hp → Prop) (h0 : Pv 0 H0) (hl : ∀ i H, i ≤ xs.length → Pv i H → SqT K H l xs)
    (hs : ∀ i x H T, xs[i]? = some x → H T = none → Pv i H → dcTurn P w K g tt tk tv vs σ D (Pv (i + 1)) (.ref T) (upd H T (.tup [.int (i : Nat), x]))) (hd : ∀ H, Pv xs.length H → Qd H) :
    ∃ W : Nat → Nat → Hp → Prop, (∃ m, W 0 m H0) ∧ ∀ i m H, W i m H → ((ItET K l).stop i H ∧ Qd H) ∨ ((ItET K l).go i H ∧ ∃ T : Hp → Prop, (∀ H', T H' → ∃ m', m' < m ∧ W (i + 1) m' H') ∧ ∀ x H', (ItET K l).yld i H x H' → dcTurn P w K g tt tk tv vs σ D T x H') := by
  refine ⟨fun i m H => m = xs.length - i ∧ i ≤ xs.length ∧ Pv i H, ⟨xs.length, by simp, Nat.zero_le _, h0⟩, ?_⟩
  rintro i m H ⟨rfl, hi, p⟩
  have q := hl i H hi p
  by_cases hlt : i < xs.length
  · refine .inr ⟨⟨xs, xs[i], q, by simp [hlt]⟩, Pv (i + 1), fun H' p' => ⟨xs.length - (i + 1), by omega, rfl, hlt, p'⟩, fun x H' y => ?_⟩
    obtain ⟨T, x, rfl, nT, rfl, y⟩ := y
    exact hs i x _ T (y xs q) nT p
  · have e : i = xs.length := by omega
    subst e
    exact .inl ⟨⟨xs, q, Nat.le_refl _⟩, hd H p⟩
structure Qu where
  cs : List Qc
  one : List Nat
  other : List Nat
  as : List Str
  kw : List (Nat × Str)
def Qu.rs (q : Qu) (ws : List Nat) : List (List Nat) := rowsS q.cs q.one q.other ws
def Qu.ok (q : Qu) : Prop := 1 ≤ q.cs.length ∧ q.cs.length ≤ 4 ∧ q.one.Nodup ∧ (∀ n ∈ q.one, n < q.cs.length) ∧ q.other.Nodup ∧ (∀ n ∈ q.other, n < q.cs.length) ∧ q.one.length + q.other.length ≤ 4 ∧ q.as.Nodup ∧ (∀ a ∈ q.as, inV (.str a) aspV = true) ∧
  (q.kw.map (·.1)).Nodup ∧ (∀ p ∈ q.kw, p.1 ∈ q.one ∧ inV (.str p.2) kindV = true) ∧ q.kw.length ≤ 1000
def SetV (K : PySem.W.Frag) (q : Qu) (H : Hp) (v : V) (ws : List Nat) : Prop := ∃ l zs, v = .ref l ∧ TupF H l zs ∧ Paired (RowV K H) zs (q.rs ws)
def StpV (K : PySem.W.Frag) (q : Qu) (H : Hp) (v : V) (ws : List Nat) : Prop := ∃ l zs, v = .ref l ∧ SqU K H l zs ∧ Paired (StepV K H) zs ((q.rs ws).map (stepsR (q.rs ws) q.cs.length))
def SttV (K : PySem.W.Frag) (q : Qu) (H : Hp) (v : V) (ws : List Nat) : Prop := ∃ l zs, v = .ref l ∧ SqU K H l zs ∧ Paired (RowV K H) zs ((q.rs ws).map (startsR (q.rs ws)))
def D3 (P : Program) (w : World) (K : PySem.W.Frag) (R : Hp → V → List Nat → Prop) (H : Hp) (v : V) : Prop := ∃ d v0 v1 v2, v = .ref d ∧ DN P w K H d [(kx0, v0), (kx1, v1), (kx2, v2)] ∧ R H v0 [0] ∧ R H v1 [1] ∧ R H v2 [0, 1]
def q1F (a : V) : List (Str × V) := putF "calls" a []
def q2F (a b : V) := putF "one" b (q1F a)
def q3F (a b c : V) := putF "other" c (q2F a b)
def q4F (a b c d : V) := putF "aspects" d (q3F a b c)
def q5F (a b c d e : V) := putF "where" e (q4F a b c d)
def q6F (a b c d e f : V) := putF "row_sets" f (q5F a b c d e)
def q7F (a b c d e f g : V) := putF "row_steps" g (q6F a b c d e f)
def q8F (a b c d e f g h : V) := putF "row_starts" h (q7F a b c d e f g)
def q9F (a b c d e f g h i : V) := putF "row_places" i (q8F a b c d e f g h)
theorem lkF {f g : Str} {v u : V} {fs : List (Str × V)} (h : fs.lookup f = some u) (n : ¬ f = g) : (putF g v fs).lookup f = some u := by rw [lookup_putF, if_neg n]; exact h
theorem lkH {f : Str} {v : V} {fs : List (Str × V)} : (putF f v fs).lookup f = some v := by rw [lookup_putF, if_pos rfl]
def QAt (P : Program) (w : World) (K : PySem.W.Frag) (C CR : Addr) (H : Hp) (x : Addr) (q : Qu) : Prop := ∃ dx pc p1 p2 pa pw xc xw s6 s7 s8 s9, H x = some (.ins C dx (q9F (.ref pc) (.ref p1) (.ref p2) (.ref pa) (.ref pw) s6 s7 s8 s9)) ∧ SqU K H pc xc ∧ Paired (CallV (SqU K) CR H) xc q.cs ∧
  SqU K H p1 (nums q.one) ∧ SqU K H p2 (nums q.other) ∧ SqU K H pa (strsV q.as) ∧ SqU K H pw xw ∧ Paired (WhP K H) xw (sortKw q.kw) ∧ D3 P w K (SetV K q) H s6 ∧ D3 P w K (StpV K q) H s7 ∧ D3 P w K (SttV K q) H s8
section
variable {K : PySem.W.Frag} {H H' : Hp} {x : Addr} {o : HO}
theorem SetV.kx {q : Qu} {v : V} {ws : List Nat} (hx : H x = some o) (ho : Odd o) (k : Kx x H H') (h : SetV K q H v ws) : SetV K q H' v ws := let ⟨l, zs, e, h1, h2⟩ := h; ⟨l, zs, e, TupF.kx hx ho k h1, paired_mono (fun _ _ h => RowV.kx hx ho k h) h2⟩
theorem StpV.kx {q : Qu} {v : V} {ws : List Nat} (hx : H x = some o) (ho : Odd o) (k : Kx x H H') (h : StpV K q H v ws) : StpV K q H' v ws := let ⟨l, zs, e, h1, h2⟩ := h; ⟨l, zs, e, SqU.kx hx ho k h1, paired_mono (fun _ _ h => StepV.kx hx ho k h) h2⟩
theorem SttV.kx {q : Qu} {v : V} {ws : List Nat} (hx : H x = some o) (ho : Odd o) (k : Kx x H H') (h : SttV K q H v ws) : SttV K q H' v ws := let ⟨l, zs, e, h1, h2⟩ := h; ⟨l, zs, e, SqU.kx hx ho k h1, paired_mono (fun _ _ h => RowV.kx hx ho k h) h2⟩
theorem D3.kx {P : Program} {w : World} {C dx : Addr} {fs : List (Str × V)} {R : Hp → V → List Nat → Prop} (hst : ∀ D o H H', H D = some o → Odd o → Kx D H H' → ∀ v r, R H v r → R H' v r) {v : V} (hx : H x = some (.ins C dx fs)) (k : Kx x H H') (h : D3 P w K R H v) : D3 P w K R H' v := by
  obtain ⟨d, v0, v1, v2, e, hd, r0, r1, r2⟩ := h
  exact ⟨d, v0, v1, v2, e, DN.kx hx k hd, hst _ _ _ _ hx odd_ins k _ _ r0, hst _ _ _ _ hx odd_ins k _ _ r1, hst _ _ _ _ hx odd_ins k _ _ r2⟩
theorem CallV.kx {C D dx : Addr} {fs : List (Str × V)} {v : V} {c : Qc} (hx : H x = some (.ins D dx fs)) (ne : c.r ≠ x) (k : Kx x H H') (h : CallV (SqU K) C H v c) : CallV (SqU K) C H' v c := by
  obtain ⟨p, e, h1, ⟨dx', fs', h2⟩, h3⟩ := h
  exact ⟨p, e, SqU.kx hx odd_ins k h1, ⟨dx', fs', k _ _ h2 (fun ps z => (nomatch z)) ne⟩, h3⟩
theorem WhV.kx {v : V} {kw : List (Nat × Str)} {D dx : Addr} {fs : List (Str × V)} (hx : H x = some (.ins D dx fs)) (k : Kx x H H') (h : WhV H v kw) : WhV H' v kw := h.imp id fun ⟨d, e, h⟩ => ⟨d, e, k _ _ h (fun ps z => (nomatch z)) (ne_of h hx fun z => nomatch z)⟩
theorem WhP.kx {v : V} {p : Nat × Str} (hx : H x = some o) (ho : Odd o) (k : Kx x H H') (h : WhP K H v p) : WhP K H' v p := let ⟨q, e, h⟩ := h; ⟨q, e, SqU.kx hx ho k h⟩
theorem D3.get {P : Program} {w : World} {R : Hp → V → List Nat → Prop} {d : Addr} {r : List Nat} (h : D3 P w K R H (.ref d)) (hr : r = [0] ∨ r = [1] ∨ r = [0, 1]) : ∃ kvs v, DN P w K H d kvs ∧ valV kvs (rowK r) = some v ∧ R H v r := by
  obtain ⟨d', v0, v1, v2, e, hd, r0, r1, r2⟩ := h
  cases e
  rcases hr with rfl | rfl | rfl
  · exact ⟨_, v0, hd, valV_pos rfl, r0⟩
  · exact ⟨_, v1, hd, (valV_neg kx01).trans (valV_pos rfl), r1⟩
  · exact ⟨_, v2, hd, (valV_neg kx02).trans ((valV_neg kx12).trans (valV_pos rfl)), r2⟩
theorem Tabs.kx {T : List (Addr × Str)} {C dx : Addr} {fs : List (Str × V)} {o' : HO} (t : Tabs T H) (hx : H x = some (.ins C dx fs)) : Tabs T (upd H x o') := fun p hp => by
  obtain ⟨ps, h1, h2, h3⟩ := t p hp
  have ne : ∀ {b : Addr} {o : HO}, H b = some o → o ≠ .ins C dx fs → upd H x o' b = some o := fun {b o} q n => by
    rw [upd_ne fun z => n (by rw [z, hx] at q; exact (Option.some.inj q).symm)]
    exact q
  refine ⟨ps, ne h1 (by intro z; cases z), h2, fun pos cv hc => ?_⟩
  obtain ⟨c, e1, e2⟩ := h3 pos cv hc
  exact ⟨c, e1, ne e2 (by intro z; unfold CodeO at z; cases z)⟩
end
def spQuestion (P : Program) (w : World) (K : PySem.W.Frag) (T : List (Addr × Str)) (C CR : Addr) : Sp := fun vs H Q _ => ∃ (x dx a b c d : Addr) (wv : V) (xc : List V) (q : Qu), vs = [.ref x, .ref a, .ref b, .ref c, .ref d, wv] ∧ H x = some (.ins C dx []) ∧ Sq K H a xc ∧ Paired (CallV (Sq K) CR H) xc q.cs ∧ (∀ cc ∈ q.cs, cc.r ≠ x) ∧
  Sq K H b (nums q.one) ∧ Sq K H c (nums q.other) ∧ Sq K H d (strsV q.as) ∧ WhV H wv q.kw ∧ q.ok ∧ Tabs T H ∧ ∀ H', SmK T x H H' → QAt P w K C CR H' x q → Q .non H'
section
variable {P : Program} {w : World} {K : PySem.W.Frag} {mg : Str → Option Value} {base : Heap}
theorem ok_Question_init (T : Tx P w K mg) (B : Bx T base) : FnOk P w K mg base CX0 5 T.a_Question_init T.fd_Question_init ["self", "calls", "one", "other", "aspects", "where"] (spQuestion P w K (tabs T) T.c_Question T.c_Routine) := by
  refine T.F_Question_init.ok (CX := CX0) sc_Question_init (fun vs H Q E h => ?_) (fun cdv A outer s H vs Q E hr h => ?_)
  · obtain ⟨x, dx, a, b, c, d, wv, xc, q, rfl, _⟩ := h
    rfl
  have hu := hu_of hr
  have hu65 := hu65_of hr
  obtain ⟨x, dx, a, b, c, d, wv, xc, q, rfl, hx, hc, prc, hne, h1, h2, ha, hw, ⟨o1, o2, o3, o4, o5, o6, o7, o8, o9, o10, o11, o12⟩, tb, fin⟩ := h
  refine ⟨_, PSs.nox (pss_cons (ps_fld (pv 0) (pe_call (ok_checked_calls (w := w) T B) (hr.mono (by decide)) (by rfl) T.m_checked_calls T.F_checked_calls.kp T.bi_checked_calls .nil pass0 (pa_cons (pv 1) pa_nil)) rfl)
 (pss_cons (ps_fld (pv 0) (pe_call (ok_checked_script (w := w) T B) (hr.mono (by decide)) (by rfl) T.m_checked_script T.F_checked_script.kp T.bi_checked_script .nil pass0 (pa_cons pe_str (pa_cons (pv 2) (pa_cons (pe_callB call_len_seq (by rfl) T.b_len (by decide +kernel) (pa_cons (pv 1) pa_nil)) pa_nil)))) rfl)
 (pss_cons (ps_fld (pv 0) (pe_call (ok_checked_script (w := w) T B) (hr.mono (by decide)) (by rfl) T.m_checked_script T.F_checked_script.kp T.bi_checked_script .nil pass0 (pa_cons pe_str (pa_cons (pv 3) (pa_cons (pe_callB call_len_seq (by rfl) T.b_len (by decide +kernel) (pa_cons (pv 1) pa_nil)) pa_nil)))) rfl)
 (pss_cons (ps_if (pt_cmpR op_gt (pe_op op_add (pe_callB call_len_seq (by rfl) T.b_len (by decide +kernel) (pa_cons (pv 2) pa_nil)) (pe_callB call_len_seq (by rfl) T.b_len (by decide +kernel) (pa_cons (pv 3) pa_nil))) pe_int (nomark _))
 (pss_one ps_never)
 pss_nil)
 (pss_cons (ps_fld (pv 0) (pe_call (ok_checked_aspects (w := w) T B) (hr.mono (by decide)) (by rfl) T.m_checked_aspects T.F_checked_aspects.kp T.bi_checked_aspects .nil pass0 (pa_cons (pv 4) pa_nil)) rfl)
 (pss_cons (ps_fld (pv 0) (pe_call (ok_checked_where (w := w) T B) (hr.mono (by decide)) (by rfl) T.m_checked_where T.F_checked_where.kp T.bi_checked_where .nil pass0 (pa_cons (pv 5) (pa_cons (pe_fld (pv 0) rfl) pa_nil))) rfl)
 (pss_cons (ps_set (i := 6) sc_Question_init.nd rfl (by first | exact Or.inl rfl | exact Or.inr rfl) (pe_tup (pa_cons (pe_tup (pa_cons pe_int pa_nil)) (pa_cons (pe_tup (pa_cons pe_int pa_nil)) (pa_cons (pe_tup (pa_cons pe_int (pa_cons pe_int pa_nil))) pa_nil)))))
 (pss_cons (ps_fld (pv 0) (pe_dcN (own := [("words", 7)]) (g := gName 7) hu65 rfl sc_Question_init.nd (pi_tup (pv 6)) (blkOk_by (own := [("words", 7)]) (N := N_Question_init) (sc := defScope s_Question_init) (by decide +kernel)) (fun _ _ _ _ _ => (pg_name (i := 7) sc_Question_init.nd rfl (by first | exact Or.inl rfl | exact Or.inr rfl))) (fun _ _ _ _ _ => pts_nil) (fun _ _ _ _ _ => (pv 7)) (fun _ _ _ _ _ => (pe_call (ok_all_rows (w := w) T B) (hr.mono (by decide)) (by rfl) T.m_all_rows T.F_all_rows.kp T.bi_all_rows .nil pass0 (pa_cons (by exact pe_fld (pv 0) rfl : PE _ _ (tFld K (tVar 0) "calls")) (pa_cons (pe_tup (pa_cons (by exact pe_fld (pv 0) rfl : PE _ _ (tFld K (tVar 0) "one")) (pa_cons (by exact pe_fld (pv 0) rfl : PE _ _ (tFld K (tVar 0) "other")) pa_nil))) (pa_cons (pv 7) pa_nil)))))) rfl)
 (pss_cons (ps_fld (pv 0) (pe_dcN (own := [("words", 7)]) (g := gName 7) hu65 rfl sc_Question_init.nd (pi_tup (pv 6)) (blkOk_by (own := [("words", 7)]) (N := N_Question_init) (sc := defScope s_Question_init) (by decide +kernel)) (fun _ _ _ _ _ => (pg_name (i := 7) sc_Question_init.nd rfl (by first | exact Or.inl rfl | exact Or.inr rfl))) (fun _ _ _ _ _ => pts_nil) (fun _ _ _ _ _ => (pv 7)) (fun _ _ _ _ _ => (pe_call (ok_all_steps (w := w) T B) (hr.mono (by decide)) (by rfl) T.m_all_steps T.F_all_steps.kp T.bi_all_steps .nil pass0 (pa_cons (by exact (pe_dgetN hu65 (by exact pe_fld (pv 0) rfl : PE _ _ (tFld K (tVar 0) "row_sets")) (pv 7) (fun _ _ => rfl)) : PE _ _ (tDGetN P w K (tFld K (tVar 0) "row_sets") (tVar 7))) (pa_cons (pe_callB (by exact call_len_seq : CallR _ (.builtin "len") (fun xs H Q => ∃ p ys, xs = [.ref p] ∧ (SqL K H p ys ∨ SqT K H p ys) ∧ Q (.int ys.length) H)) (by rfl) T.b_len (by decide +kernel) (pa_cons (by exact pe_fld (pv 0) rfl : PE _ _ (tFld K (tVar 0) "calls")) pa_nil)) pa_nil))))) rfl)
 (pss_cons (ps_fld (pv 0) (pe_dcN (own := [("words", 7)]) (g := gName 7) hu65 rfl sc_Question_init.nd (pi_tup (pv 6)) (blkOk_by (own := [("words", 7)]) (N := N_Question_init) (sc := defScope s_Question_init) (by decide +kernel)) (fun _ _ _ _ _ => (pg_name (i := 7) sc_Question_init.nd rfl (by first | exact Or.inl rfl | exact Or.inr rfl))) (fun _ _ _ _ _ => pts_nil) (fun _ _ _ _ _ => (pv 7)) (fun _ _ _ _ _ => (pe_call (ok_all_starts (w := w) T B) (hr.mono (by decide)) (by rfl) T.m_all_starts T.F_all_starts.kp T.bi_all_starts .nil pass0 (pa_cons (by exact (pe_dgetN hu65 (by exact pe_fld (pv 0) rfl : PE _ _ (tFld K (tVar 0) "row_sets")) (pv 7) (fun _ _ => rfl)) : PE _ _ (tDGetN P w K (tFld K (tVar 0) "row_sets") (tVar 7))) pa_nil)))) rfl)
 (pss_one (ps_fld (pv 0) (pe_dcN (own := [("words", 7)]) (g := gName 7) hu65 rfl sc_Question_init.nd (pi_tup (pv 6)) (blkOk_by (own := [("words", 7)]) (N := N_Question_init) (sc := defScope s_Question_init) (by decide +kernel)) (fun _ _ _ _ _ => (pg_name (i := 7) sc_Question_init.nd rfl (by first | exact Or.inl rfl | exact Or.inr rfl))) (fun _ _ _ _ _ => pts_nil) (fun _ _ _ _ _ => (pv 7)) (fun _ _ _ _ _ => (by exact pe_dcN (own := [("at", 8), ("row", 9)]) (g := gTup K 2 (gCons (gName 8) (gCons (gName 9) gNil))) hu65 rfl sc_Question_init.nd (by exact pi_enumT (by rfl) T.b_enumerate (pa_cons (by exact (pe_dgetN hu65 (by exact pe_fld (pv 0) rfl : PE _ _ (tFld K (tVar 0) "row_sets")) (pv 7) (fun _ _ => rfl)) : PE _ _ (tDGetN P w K (tFld K (tVar 0) "row_sets") (tVar 7))) pa_nil) : PI _ _ _ (iEnumT K (tCons (tDGetN P w K (tFld K (tVar 0) "row_sets") (tVar 7)) tNil))) (blkOk_by (own := [("at", 8), ("row", 9)]) (N := N_Question_init) (by kernel_rfl)) (fun _ _ _ _ _ => (pg_tup rfl (pgs_cons (pg_name (i := 8) sc_Question_init.nd rfl (by first | exact Or.inl rfl | exact Or.inr rfl)) (pgs_cons (pg_name (i := 9) sc_Question_init.nd rfl (by first | exact Or.inl rfl | exact Or.inr rfl)) pgs_nil)))) (fun _ _ _ _ _ => pts_nil) (fun _ _ _ _ _ => (pv 9)) (fun _ _ _ _ _ => (pv 8)) : PE _ _ (tDcN P w K (iEnumT K (tCons (tDGetN P w K (tFld K (tVar 0) "row_sets") (tVar 7)) tNil)) (gTup K 2 (gCons (gName 8) (gCons (gName 9) gNil))) tYes (tVar 9) (tVar 8) ([("at", 8), ("row", 9)].map (·.2)))))) rfl)))))))))))), ?_⟩
  have hcl := prc.length
  -- calls
  refine ⟨_, rfl, a, xc, q.cs, rfl, hc, prc, o1, o2, fun G1 pc yc s1 kc prc1 => ?_⟩
  have hx1 := s1 _ _ hx
  refine ⟨_, rfl, x, T.c_Question, dx, _, rfl, hx1, T.cl_Question, T.na_Question_calls, (by show 0 < 1000; decide), ?_⟩
  generalize hJ : upd G1 x _ = J1
  have e1 : J1 x = some (.ins T.c_Question dx (q1F (.ref pc))) := by rw [← hJ]; exact upd_same
  have kp1 : Kx x G1 J1 := by rw [← hJ]; exact Kx.put
  have tb1 : Tabs (tabs T) J1 := by rw [← hJ]; exact Tabs.kx (tb.ext s1) hx1
  clear hJ
  have k1 : Kx x H J1 := (Kx.same s1).trans kp1
  have fc := SqU.kx hx1 odd_ins kp1 kc
  have fcs : Paired (CallV (SqU K) T.c_Routine J1) yc q.cs := by
    have : ∀ {ys : List V} {cs : List Qc}, Paired (CallV (SqU K) T.c_Routine G1) ys cs → (∀ cc ∈ cs, cc.r ≠ x) → Paired (CallV (SqU K) T.c_Routine J1) ys cs := fun p => by
      induction p with
      | nil => exact fun _ => .nil
      | cons r t ih => exact fun h => .cons (CallV.kx hx1 (h _ List.mem_cons_self) kp1 r) (ih fun cc hc => h cc (List.mem_cons_of_mem _ hc))
    exact this prc1 hne
  -- one
  refine ⟨_, rfl, _, rfl, a, _, rfl, (Sq.kx hx odd_ins k1 hc).lt, "one", b, xc.length, q.one, rfl, Sq.kx hx odd_ins k1 h1, o3, by rw [hcl]; exact o4, fun G2 p1 s2 f1 => ?_⟩
  have hx2 := s2 _ _ e1
  refine ⟨_, rfl, x, T.c_Question, dx, _, rfl, hx2, T.cl_Question, T.na_Question_one, (by show 1 < 1000; decide), ?_⟩
  generalize hJ : upd G2 x _ = J2
  have e2 : J2 x = some (.ins T.c_Question dx (q2F (.ref pc) (.ref p1))) := by rw [← hJ]; exact upd_same
  have kp2 : Kx x G2 J2 := by rw [← hJ]; exact Kx.put
  have tb2 : Tabs (tabs T) J2 := by rw [← hJ]; exact Tabs.kx (tb1.ext s2) hx2
  clear hJ
  have k12 : Kx x J1 J2 := (Kx.same s2).trans kp2
  have k2 := k1.trans k12
  have f1' := SqU.kx hx2 odd_ins kp2 f1
  -- other
  refine ⟨_, rfl, _, rfl, a, _, rfl, (Sq.kx hx odd_ins k2 hc).lt, "other", c, xc.length, q.other, rfl, Sq.kx hx odd_ins k2 h2, o5, by rw [hcl]; exact o6, fun G3 p2 s3 f2 => ?_⟩
  have hx3 := s3 _ _ e2
  refine ⟨_, rfl, x, T.c_Question, dx, _, rfl, hx3, T.cl_Question, T.na_Question_other, (by show 2 < 1000; decide), ?_⟩
  generalize hJ : upd G3 x _ = J3
  have e3 : J3 x = some (.ins T.c_Question dx (q3F (.ref pc) (.ref p1) (.ref p2))) := by rw [← hJ]; exact upd_same
  have kp3 : Kx x G3 J3 := by rw [← hJ]; exact Kx.put
  have tb3 : Tabs (tabs T) J3 := by rw [← hJ]; exact Tabs.kx (tb2.ext s3) hx3
  clear hJ
  have k23 : Kx x J2 J3 := (Kx.same s3).trans kp3
  have k3 := k2.trans k23
  have f2' := SqU.kx hx3 odd_ins kp3 f2
  -- not too many
  refine ⟨_, rfl, b, _, rfl, (Sq.kx hx odd_ins k3 h1).lt, _, rfl, c, _, rfl, (Sq.kx hx odd_ins k3 h2).lt, _, _, rfl, rfl, _, _, rfl, rfl, _, rfl, ?_⟩
  rw [decide_eq_false (show ¬ ((4 : Int) < ((nums q.one).length : Int) + ((nums q.other).length : Int)) by rw [nums_len, nums_len]; omega)]
  refine iteF ?_
  refine nextS ?_
  dsimp only
  -- aspects
  refine ⟨_, rfl, d, q.as, rfl, Sq.kx hx odd_ins k3 ha, o8, o9, fun G4 pa s4 fa => ?_⟩
  have hx4 := s4 _ _ e3
  refine ⟨_, rfl, x, T.c_Question, dx, _, rfl, hx4, T.cl_Question, T.na_Question_aspects, (by show 3 < 1000; decide), ?_⟩
  generalize hJ : upd G4 x _ = J4
  have e4 : J4 x = some (.ins T.c_Question dx (q4F (.ref pc) (.ref p1) (.ref p2) (.ref pa))) := by rw [← hJ]; exact upd_same
  have kp4 : Kx x G4 J4 := by rw [← hJ]; exact Kx.put
  have tb4 : Tabs (tabs T) J4 := by rw [← hJ]; exact Tabs.kx (tb3.ext s4) hx4
  clear hJ
  have k34 : Kx x J3 J4 := (Kx.same s4).trans kp4
  have k4 := k3.trans k34
  have fa' := SqU.kx hx4 odd_ins kp4 fa
  have lk1 : (q4F (.ref pc) (.ref p1) (.ref p2) (.ref pa)).lookup ("one" : Str) = some (.ref p1) := lkF (lkF lkH (by decide +kernel)) (by decide +kernel)
  -- where
  refine ⟨_, rfl, _, rfl, x, T.c_Question, dx, _, _, rfl, e4, T.cl_Question, T.na_Question_one, lk1, wv, p1, q.one, q.kw, rfl, SqU.kx e2 odd_ins (k23.trans k34) f1', WhV.kx hx k4 hw, o10, o11, o12, fun G5 pw xw s5 fw prw => ?_⟩
  have hx5 := s5 _ _ e4
  refine ⟨_, rfl, x, T.c_Question, dx, _, rfl, hx5, T.cl_Question, T.na_Question_where, (by show 4 < 1000; decide), ?_⟩
  generalize hJ : upd G5 x _ = J5
  have e5 : J5 x = some (.ins T.c_Question dx (q5F (.ref pc) (.ref p1) (.ref p2) (.ref pa) (.ref pw))) := by rw [← hJ]; exact upd_same
  have kp5 : Kx x G5 J5 := by rw [← hJ]; exact Kx.put
  have tb5 : Tabs (tabs T) J5 := by rw [← hJ]; exact Tabs.kx (tb4.ext s5) hx5
  clear hJ
  have k45 : Kx x J4 J5 := (Kx.same s5).trans kp5
  have fw' := SqU.kx hx5 odd_ins kp5 fw
  have prw' : Paired (WhP K J5) xw (sortKw q.kw) := paired_mono (fun _ _ h => WhP.kx hx5 odd_ins kp5 h) prw
  -- sides
  dsimp only
  refine asgI ⟨by show 1 ≤ sizeLine; decide, fun t0 ht0 => ⟨by show 1 ≤ sizeLine; decide, fun t1 ht1 => ⟨by show 2 ≤ sizeLine; decide, fun t2 ht2 => ⟨by show 3 ≤ sizeLine; decide, fun ts hts => ?_⟩⟩⟩⟩
  dsimp only [gName]
  have z0 : SqU K (upd J5 t0 (.tup [V.int 0])) t0 (nums [0]) := SqU.of upd_same
  have sA := same_upd (o := .tup [V.int 0]) ht0
  generalize upd J5 t0 (.tup [V.int 0]) = I0 at ht1 ht2 hts sA z0 ⊢
  have z1 : SqU K (upd I0 t1 (.tup [V.int 1])) t1 (nums [1]) := SqU.of upd_same
  have sB := same_upd (o := .tup [V.int 1]) ht1
  generalize upd I0 t1 (.tup [V.int 1]) = I1 at ht2 hts sB z1 ⊢
  have z2 : SqU K (upd I1 t2 (.tup [V.int 0, V.int 1])) t2 (nums [0, 1]) := SqU.of upd_same
  have sC := same_upd (o := .tup [V.int 0, V.int 1]) ht2
  generalize upd I1 t2 (.tup [V.int 0, V.int 1]) = I2 at hts sC z2 ⊢
  have zs : SqU K (upd I2 ts (.tup [V.ref t0, V.ref t1, V.ref t2])) ts [V.ref t0, V.ref t1, V.ref t2] := SqU.of upd_same
  have sD := same_upd (o := .tup [V.ref t0, V.ref t1, V.ref t2]) hts
  generalize upd I2 ts (.tup [V.ref t0, V.ref t1, V.ref t2]) = I3 at sD zs ⊢
  have sAD := ((sA.trans sB).trans sC).trans sD
  have z0' := z0.same ((sB.trans sC).trans sD)
  have z1' := z1.same (sC.trans sD)
  have z2' := z2.same sD
  have e5' := sAD _ _ e5
  have tb5' : Tabs (tabs T) I3 := tb5.ext sAD
  have k5I : Kx x J4 I3 := k45.trans (Kx.same sAD)
  have k1I : Kx x J1 I3 := ((k12.trans k23).trans k34).trans k5I
  have k2I : Kx x J2 I3 := (k23.trans k34).trans k5I
  have k3I : Kx x J3 I3 := k34.trans k5I
  have lkc5 : (q5F (.ref pc) (.ref p1) (.ref p2) (.ref pa) (.ref pw)).lookup ("calls" : Str) = some (.ref pc) := lkF (lkF (lkF (lkF lkH (by decide +kernel)) (by decide +kernel)) (by decide +kernel)) (by decide +kernel)
  have lk15 : (q5F (.ref pc) (.ref p1) (.ref p2) (.ref pa) (.ref pw)).lookup ("one" : Str) = some (.ref p1) := lkF lk1 (by decide +kernel)
  have lk25 : (q5F (.ref pc) (.ref p1) (.ref p2) (.ref pa) (.ref pw)).lookup ("other" : Str) = some (.ref p2) := lkF (lkF lkH (by decide +kernel)) (by decide +kernel)
  have fcI := SqU.kx e1 odd_ins k1I fc
  have f1I := SqU.kx e2 odd_ins k2I f1'
  have f2I := SqU.kx e3 odd_ins k3I f2'
  have fcsI : Paired (CallV (SqU K) T.c_Routine I3) yc q.cs := by
    have : ∀ {ys : List V} {cs : List Qc}, Paired (CallV (SqU K) T.c_Routine J1) ys cs → (∀ cc ∈ cs, cc.r ≠ x) → Paired (CallV (SqU K) T.c_Routine I3) ys cs := fun p => by
      induction p with
      | nil => exact fun _ => .nil
      | cons r t ih => exact fun h => .cons (CallV.kx e1 (h _ List.mem_cons_self) k1I r) (ih fun cc hc => h cc (List.mem_cons_of_mem _ hc))
    exact this fcs hne
  have l4a : q.one.length ≤ 4 := by omega
  have l4b : q.other.length ≤ 4 := by omega
  -- row_sets
  refine fldI ?_
  refine dcSides (n := 6) (m := 7) (σ := [some (.ref x), some (.ref a), some (.ref b), some (.ref c), some (.ref d), some wv, some (.ref ts), none, none, none]) (SetV K q) (fun D o H H' hD ho k v r h => h.kx hD ho k) (vI rfl) ⟨rfl, rfl, rfl⟩ (fun x => rfl) zs z0' z1' z2' tb5' (fun b' r H6 k hr hb ex t kk => ?_) (fun G6 d6 v0 v1 v2 ex6 t6 n6 hd6 r0 r1 r2 => ?_)
  · have ec := ex _ _ e5' (fun ps z => nomatch z)
    refine ⟨_, rfl, x, T.c_Question, dx, _, _, rfl, ec, T.cl_Question, T.na_Question_calls, lkc5, ?_⟩
    refine ⟨_, rfl, x, T.c_Question, dx, _, _, rfl, ec, T.cl_Question, T.na_Question_one, lk15, ?_⟩
    refine ⟨_, rfl, x, T.c_Question, dx, _, _, rfl, ec, T.cl_Question, T.na_Question_other, lk25, by show 2 ≤ sizeLine; decide, fun tt htt => ?_⟩
    have sT := same_upd (o := .tup [V.ref p1, V.ref p2]) htt
    refine ⟨_, rfl, pc, tt, b', p1, p2, yc, q.cs, q.one, q.other, r, rfl, (fcI.ex ex).same sT, ?_, SqU.of upd_same, (f1I.ex ex).same sT, (f2I.ex ex).same sT, o4, o6, l4a, l4b, hb.same sT, t.ext sT, fun H7 l zz sm tf pz => ?_⟩
    · refine paired_mono (fun _ _ h => ?_) fcsI
      obtain ⟨p, e, g1, ⟨dx', fs', g2⟩, g3⟩ := h
      exact ⟨p, e, (g1.ex ex).same sT, ⟨dx', fs', sT _ _ (ex _ _ g2 fun ps z => nomatch z)⟩, g3⟩
    · exact kk _ _ ((ExtN.of sT).trans sm.1) sm.2 ⟨l, zz, rfl, tf, pz⟩
  have hx6 := ex6 _ _ e5' (fun ps z => nomatch z)
  refine ⟨_, rfl, x, T.c_Question, dx, _, rfl, hx6, T.cl_Question, T.na_Question_row_sets, (by show 5 < 1000; decide), ?_⟩
  generalize hJ : upd G6 x _ = J6
  have e6 : J6 x = some (.ins T.c_Question dx (q6F (.ref pc) (.ref p1) (.ref p2) (.ref pa) (.ref pw) (.ref d6))) := by rw [← hJ]; exact upd_same
  have kp6 : Kx x G6 J6 := by rw [← hJ]; exact Kx.put
  have tb6 : Tabs (tabs T) J6 := by rw [← hJ]; exact Tabs.kx t6 hx6
  clear hJ
  have k56 : Kx x I3 J6 := (Kx.ex ex6).trans kp6
  have d6J : D3 P w K (SetV K q) J6 (.ref d6) := D3.kx (fun D o H H' hD ho k v r h => h.kx hD ho k) hx6 kp6 ⟨d6, v0, v1, v2, rfl, hd6, r0, r1, r2⟩
  have y0 := SqU.kx e5' odd_ins k56 z0'
  have y1 := SqU.kx e5' odd_ins k56 z1'
  have y2 := SqU.kx e5' odd_ins k56 z2'
  have ys := SqU.kx e5' odd_ins k56 zs
  have fc6 := SqU.kx e5' odd_ins k56 fcI
  have ycl : yc.length = q.cs.length := fcs.length
  have lks6 : (q6F (.ref pc) (.ref p1) (.ref p2) (.ref pa) (.ref pw) (.ref d6)).lookup ("row_sets" : Str) = some (.ref d6) := lkH
  have lkc6 : (q6F (.ref pc) (.ref p1) (.ref p2) (.ref pa) (.ref pw) (.ref d6)).lookup ("calls" : Str) = some (.ref pc) := lkF lkc5 (by decide +kernel)
  -- row_steps
  refine fldI ?_
  refine dcSides (n := 6) (m := 7) (σ := [some (.ref x), some (.ref a), some (.ref b), some (.ref c), some (.ref d), some wv, some (.ref ts), none, none, none]) (StpV K q) (fun D o H H' hD ho k v r h => h.kx hD ho k) (vI rfl) ⟨rfl, rfl, rfl⟩ (fun x => rfl) ys y0 y1 y2 tb6 (fun b' r H6 k hr hb ex t kk => ?_) (fun G7 d7 u0 u1 u2 ex7 t7 n7 hd7 q0 q1 q2 => ?_)
  · have ec := ex _ _ e6 (fun ps z => nomatch z)
    obtain ⟨kvs, v, dn, ev, l, zz, rfl, tf, pz⟩ := d6J.get hr
    refine ⟨_, rfl, x, T.c_Question, dx, _, _, rfl, ec, T.cl_Question, T.na_Question_row_sets, lks6, ?_⟩
    refine ⟨_, rfl, d6, b', kvs, rowK r, _, rfl, rfl, DN.ex ex dn, key_row hb, ev, ?_⟩
    refine ⟨_, rfl, x, T.c_Question, dx, _, _, rfl, ec, T.cl_Question, T.na_Question_calls, lkc6, pc, _, rfl, .inr (fc6.ex ex).t, ?_⟩
    refine ⟨l, zz, _, q.cs.length, by rw [← ycl]; rfl, TupF.ex ex tf, paired_mono (fun _ _ h => h.ex ex) pz, rowsS_ok l4a l4b, by omega, fun H7 l' zs' s7 g7 p7 => ?_⟩
    exact kk _ _ (ExtN.of s7) (t.ext s7) ⟨l', zs', rfl, g7, p7⟩
  have hx7 := ex7 _ _ e6 (fun ps z => nomatch z)
  refine ⟨_, rfl, x, T.c_Question, dx, _, rfl, hx7, T.cl_Question, T.na_Question_row_steps, (by show 6 < 1000; decide), ?_⟩
  generalize hJ : upd G7 x _ = J7
  have e7 : J7 x = some (.ins T.c_Question dx (q7F (.ref pc) (.ref p1) (.ref p2) (.ref pa) (.ref pw) (.ref d6) (.ref d7))) := by rw [← hJ]; exact upd_same
  have kp7 : Kx x G7 J7 := by rw [← hJ]; exact Kx.put
  have tb7 : Tabs (tabs T) J7 := by rw [← hJ]; exact Tabs.kx t7 hx7
  clear hJ
  have k67 : Kx x J6 J7 := (Kx.ex ex7).trans kp7
  have d6K : D3 P w K (SetV K q) J7 (.ref d6) := D3.kx (fun D o H H' hD ho k v r h => h.kx hD ho k) e6 k67 d6J
  have d7J : D3 P w K (StpV K q) J7 (.ref d7) := D3.kx (fun D o H H' hD ho k v r h => h.kx hD ho k) hx7 kp7 ⟨d7, u0, u1, u2, rfl, hd7, q0, q1, q2⟩
  have y0' := SqU.kx e6 odd_ins k67 y0
  have y1' := SqU.kx e6 odd_ins k67 y1
  have y2' := SqU.kx e6 odd_ins k67 y2
  have ys' := SqU.kx e6 odd_ins k67 ys
  have lks7 : (q7F (.ref pc) (.ref p1) (.ref p2) (.ref pa) (.ref pw) (.ref d6) (.ref d7)).lookup ("row_sets" : Str) = some (.ref d6) := lkF lks6 (by decide +kernel)
  -- row_starts
  refine fldI ?_
  refine dcSides (n := 6) (m := 7) (σ := [some (.ref x), some (.ref a), some (.ref b), some (.ref c), some (.ref d), some wv, some (.ref ts), none, none, none]) (SttV K q) (fun D o H H' hD ho k v r h => h.kx hD ho k) (vI rfl) ⟨rfl, rfl, rfl⟩ (fun x => rfl) ys' y0' y1' y2' tb7 (fun b' r H6 k hr hb ex t kk => ?_) (fun G8 d8 w0 w1 w2 ex8 t8 n8 hd8 g0 g1 g2 => ?_)
  · have ec := ex _ _ e7 (fun ps z => nomatch z)
    obtain ⟨kvs, v, dn, ev, l, zz, rfl, tf, pz⟩ := d6K.get hr
    refine ⟨_, rfl, x, T.c_Question, dx, _, _, rfl, ec, T.cl_Question, T.na_Question_row_sets, lks7, ?_⟩
    refine ⟨_, rfl, d6, b', kvs, rowK r, _, rfl, rfl, DN.ex ex dn, key_row hb, ev, ?_⟩
    refine ⟨l, zz, _, rfl, TupF.ex ex tf, paired_mono (fun _ _ h => h.ex ex) pz, rowsS_ok l4a l4b, rowsS_take, fun H7 l' zs' s7 g7 p7 => ?_⟩
    exact kk _ _ (ExtN.of s7) (t.ext s7) ⟨l', zs', rfl, g7, p7⟩
  have hx8 := ex8 _ _ e7 (fun ps z => nomatch z)
  refine ⟨_, rfl, x, T.c_Question, dx, _, rfl, hx8, T.cl_Question, T.na_Question_row_starts, (by show 7 < 1000; decide), ?_⟩
  generalize hJ : upd G8 x _ = J8
  have e8 : J8 x = some (.ins T.c_Question dx (q8F (.ref pc) (.ref p1) (.ref p2) (.ref pa) (.ref pw) (.ref d6) (.ref d7) (.ref d8))) := by rw [← hJ]; exact upd_same
  have kp8 : Kx x G8 J8 := by rw [← hJ]; exact Kx.put
  have tb8 : Tabs (tabs T) J8 := by rw [← hJ]; exact Tabs.kx t8 hx8
  clear hJ
  have k78 : Kx x J7 J8 := (Kx.ex ex8).trans kp8
  have d6L : D3 P w K (SetV K q) J8 (.ref d6) := D3.kx (fun D o H H' hD ho k v r h => h.kx hD ho k) e7 k78 d6K
  have d7K : D3 P w K (StpV K q) J8 (.ref d7) := D3.kx (fun D o H H' hD ho k v r h => h.kx hD ho k) e7 k78 d7J
  have d8J : D3 P w K (SttV K q) J8 (.ref d8) := D3.kx (fun D o H H' hD ho k v r h => h.kx hD ho k) hx8 kp8 ⟨d8, w0, w1, w2, rfl, hd8, g0, g1, g2⟩
  have lks8 : (q8F (.ref pc) (.ref p1) (.ref p2) (.ref pa) (.ref pw) (.ref d6) (.ref d7) (.ref d8)).lookup ("row_sets" : Str) = some (.ref d6) := lkF lks7 (by decide +kernel)
  -- row_places
  refine fldE ?_
  refine dcSides (n := 6) (m := 7) (σ := [some (.ref x), some (.ref a), some (.ref b), some (.ref c), some (.ref d), some wv, some (.ref ts), none, none, none]) (fun _ _ _ => True) (fun D o H H' hD ho k v r h => h) (vI rfl) ⟨rfl, rfl, rfl⟩ (fun x => rfl) (SqU.kx e7 odd_ins k78 ys') (SqU.kx e7 odd_ins k78 y0') (SqU.kx e7 odd_ins k78 y1') (SqU.kx e7 odd_ins k78 y2') tb8 (fun b' r H6 k hr hb ex t kk => ?_) (fun G9 d9 m0 m1 m2 ex9 t9 n9 hd9 _ _ _ => ?_)
  · have ec := ex _ _ e8 (fun ps z => nomatch z)
    obtain ⟨kvs, v, dn, ev, l, zz, rfl, tf, pz⟩ := d6L.get hr
    refine ⟨_, rfl, x, T.c_Question, dx, _, _, rfl, ec, T.cl_Question, T.na_Question_row_sets, lks8, ?_⟩
    refine ⟨_, rfl, d6, b', kvs, rowK r, _, rfl, rfl, DN.ex ex dn, key_row hb, ev, ?_⟩
    refine ⟨l, zz, rfl, TupF.t (TupF.ex ex tf), fun D o hD hN => ?_⟩
    have zl : zz.length ≤ 32 := by rw [pz.length]; exact (rowsS_small l4a l4b).1
    refine dcE_it (xs := zz) (fun i H' => ExtN H6 H' ∧ Tabs (tabs T) H' ∧ ∃ kvs, DN P w K H' D kvs ∧ kvs.length ≤ i) ⟨ExtN.of (same_upd hD), t.ext (same_upd hD), [], hN, Nat.le_refl _⟩ (fun i H' _ ⟨e, _⟩ => TupF.t (TupF.ex e (TupF.ex ex tf))) (fun i y H' W hy nW ⟨e, tt, kv, dn, kl⟩ => ?_) (fun H' ⟨e, tt, _⟩ => kk _ _ e tt trivial)
    have il : i < zz.length := (List.getElem?_eq_some_iff.mp hy).1
    refine ⟨W, [.int (i : Nat), y], rfl, .inl (.inl upd_same), rfl, ?_⟩
    have sW := same_upd (o := .tup [.int (i : Nat), y]) nW
    obtain ⟨rr, hrr, p, rfl, hp⟩ := paired_get pz hy
    refine ⟨_, _, rfl, _, _, rfl, rfl, ?_⟩
    refine ⟨rfl, yes_ite ⟨_, rfl, _, rfl, ?_⟩⟩
    have dn2 := DN.ex (ExtN.of sW) dn
    refine ⟨kv, rowK rr, p, rfl, dn2, key_row (((hp.ex ex).ex e).same sW), Nat.lt_of_le_of_lt (Nat.le_trans kl (Nat.le_of_lt il)) (Nat.lt_of_le_of_lt zl (by decide)), fun o2 hN2 => ⟨fun c u h n => ?_, tabs_put dn2 (tt.ext sW) o2, _, hN2, Nat.le_trans (putK_le _ _ _) (Nat.succ_le_succ kl)⟩⟩
    rw [upd_ne (ne_of_none h hD)]
    exact sW _ _ (e _ _ h n)
  have hx9 := ex9 _ _ e8 (fun ps z => nomatch z)
  refine ⟨_, rfl, x, T.c_Question, dx, _, rfl, hx9, T.cl_Question, T.na_Question_row_places, (by show 8 < 1000; decide), ?_⟩
  generalize hJ : upd G9 x _ = J9
  have e9 : J9 x = some (.ins T.c_Question dx (q9F (.ref pc) (.ref p1) (.ref p2) (.ref pa) (.ref pw) (.ref d6) (.ref d7) (.ref d8) (.ref d9))) := by rw [← hJ]; exact upd_same
  have kp9 : Kx x G9 J9 := by rw [← hJ]; exact Kx.put
  have tb9 : Tabs (tabs T) J9 := by rw [← hJ]; exact Tabs.kx t9 hx9
  clear hJ
  have k89 : Kx x J8 J9 := (Kx.ex ex9).trans kp9
  have k59 : Kx x I3 J9 := ((k56.trans k67).trans k78).trans k89
  have k4J : Kx x J4 J9 := k5I.trans k59
  have k5J : Kx x J5 J9 := (Kx.same sAD).trans k59
  refine fin J9 ⟨k4.trans k4J, tb9⟩ ⟨dx, pc, p1, p2, pa, pw, yc, xw, _, _, _, _, e9, SqU.kx e5' odd_ins k59 fcI, ?_, SqU.kx e5' odd_ins k59 f1I, SqU.kx e5' odd_ins k59 f2I, SqU.kx e4 odd_ins k4J fa', SqU.kx e5 odd_ins k5J fw', paired_mono (fun _ _ h => WhP.kx e5 odd_ins k5J h) prw', D3.kx (fun D o H H' hD ho k v r h => h.kx hD ho k) e8 k89 d6L, D3.kx (fun D o H H' hD ho k v r h => h.kx hD ho k) e8 k89 d7K, D3.kx (fun D o H H' hD ho k v r h => h.kx hD ho k) e8 k89 d8J⟩
  have : ∀ {ys : List V} {cs : List Qc}, Paired (CallV (SqU K) T.c_Routine I3) ys cs → (∀ cc ∈ cs, cc.r ≠ x) → Paired (CallV (SqU K) T.c_Routine J9) ys cs := fun p => by
    induction p with
    | nil => exact fun _ => .nil
    | cons r t ih => exact fun h => .cons (CallV.kx e5' (h _ List.mem_cons_self) k59 r) (ih fun cc hc => h cc (List.mem_cons_of_mem _ hc))
  exact this fcsI hne
end
end Toy


set_option Elab.async false
set_option linter.all false
set_option maxRecDepth 100000
set_option maxHeartbeats 4000000
namespace Toy
open PySem L2 Sh ShL LamX NdefX
/-! ### what a question keeps -/
def spRowsOf (P : Program) (w : World) (K : PySem.W.Frag) (C CR : Addr) : Sp := fun vs H Q _ => ∃ (x b : Addr) (q : Qu) (ws : List Nat), vs = [.ref x, .ref b] ∧ QAt P w K C CR H x q ∧ Cls K C ∧ NoAttr K C "row_sets" ∧ SqU K H b (nums ws) ∧ (ws = [0] ∨ ws = [1] ∨ ws = [0, 1]) ∧ ∀ l zs, TupF H l zs → Paired (RowV K H) zs (q.rs ws) → Q (.ref l) H
def StoV (K : PySem.W.Frag) (H : Hp) (v : V) (s : Str × List Nat) : Prop := ∃ p b, v = .ref p ∧ SqU K H p [.str s.1, .ref b] ∧ SqU K H b (nums s.2)
theorem StoV.same {K : PySem.W.Frag} {H H' : Hp} {v : V} {u : Str × List Nat} (s : Same H H') (h : StoV K H v u) : StoV K H' v u := let ⟨p, b, e, h1, h2⟩ := h; ⟨p, b, e, h1.same s, h2.same s⟩
theorem StoV.putL {K : PySem.W.Frag} {H : Hp} {D : Addr} {acc acc' : List V} {v : V} {u : Str × List Nat} (e : H D = some (.lst acc)) (h : StoV K H v u) : StoV K (upd H D (.lst acc')) v u := let ⟨p, b, e1, h1, h2⟩ := h; ⟨p, b, e1, h1.putL e, h2.putL e⟩
def storiesS (rs : List (List Nat)) (there : Bool) : List (Str × List Nat) := (if there then rs.map fun r => (("old" : Str), r) else []) ++ rs.map fun r => (("new" : Str), r)
theorem stoLc {K : PySem.W.Frag} {σ : L2.St} {H : Hp} {Q : VK} {l : Addr} {zs : List V} {rs : List (List Nat)} {tag : Str} {te0 : TE} {m : Nat} (hv : ∀ R : VK, R (.ref l) H → te0 σ H R) (hl : SqT K H l zs) (pr : Paired (RowV K H) zs rs) (sm : rs.length ≤ 40000)
    (hw : ∀ x, wipe ((wipe σ [m]).set m (some x)) [m] = wipe σ [m]) (hm : ∀ x, ((wipe σ [m]).set m (some x))[m]? = some (some x)) (q : ∀ H' D acc, Same H H' → H' D = some (.lst acc) → Paired (StoV K H') acc (rs.map fun r => (tag, r)) → Q (.ref D) H') :
    tLc (iTup K te0) (gName m) tYes (tTup (tCons (tC (.str tag)) (tCons (tVar m) tNil))) [m] σ H Q := by
  refine hv _ ⟨l, rfl, ⟨_, hl⟩, fun D hD => ?_⟩
  refine lcM walk_tup yat pr hD (fun H' s => seqT s hl) sm (fun H y r => StoV K H y (tag, r)) (fun _ _ _ _ s h => h.same s) (fun _ _ _ _ _ e h => h.putL e) (fun j x r H3 Rk N hn hx s3 kk => ?_) (fun H3 acc s3 hacc p => q _ D acc s3 hacc (paired_map (S := StoV K H3) (f := fun r => (tag, r)) (fun _ _ h => h) p))
  obtain ⟨b, rfl, hb⟩ := hx
  refine ⟨hw _, yes_ite ?_⟩
  refine ⟨_, hm _, by show 2 ≤ sizeLine; decide, fun l6 hl6 => kk _ _ (same_upd hl6) ⟨l6, b, rfl, SqU.of upd_same, (hb.same s3).same (same_upd hl6)⟩⟩
def spStoriesOf (P : Program) (w : World) (K : PySem.W.Frag) (C CR : Addr) : Sp := fun vs H Q _ => ∃ (x b : Addr) (q : Qu) (ws : List Nat) (there : Bool), vs = [.ref x, .ref b, .bl there] ∧ QAt P w K C CR H x q ∧ Cls K C ∧ NoAttr K C "row_sets" ∧ q.ok ∧ SqU K H b (nums ws) ∧ (ws = [0] ∨ ws = [1] ∨ ws = [0, 1]) ∧
  ∀ H' l zs, Same H H' → SqU K H' l zs → Paired (StoV K H') zs (storiesS (q.rs ws) there) → Q (.ref l) H'
section
variable {P : Program} {w : World} {K : PySem.W.Frag} {mg : Str → Option Value} {base : Heap}
theorem ok_rows_of (T : Tx P w K mg) (B : Bx T base) : FnOk P w K mg base CX0 1 T.a_rows_of T.fd_rows_of ["question", "words"] (spRowsOf P w K T.c_Question T.c_Routine) := by
  refine okT T.F_rows_of sc_rows_of (fun vs H Q E h => ?_) (fun cdv A outer s H vs Q E hcd hr h => ?_)
  · obtain ⟨x, b, q, ws, rfl, _⟩ := h
    rfl
  have hu := hu_of hr
  have hu65 := hu65_of hr
  obtain ⟨x, b, q, ws, rfl, hq, hcl, hna, hb, hw, fin⟩ := h
  obtain ⟨dx, pc, p1, p2, pa, pw, xc, xw, s6, s7, s8, s9, hx, _, _, _, _, _, _, _, d6, _⟩ := hq
  refine ⟨_, (pss_one (ps_ret (pe_dgetN hu65 (pe_fld (pv 0) rfl) (pv 1) (fun _ _ => rfl)))), ?_⟩
  have hs6 : ∃ d, s6 = .ref d := let ⟨d, _, _, _, e, _⟩ := d6; ⟨d, e⟩
  obtain ⟨d, rfl⟩ := hs6
  obtain ⟨kvs, v, dn, ev, l, zz, rfl, tf, pz⟩ := d6.get hw
  refine retE ⟨_, rfl, x, _, dx, _, _, rfl, hx, hcl, hna, lkF (lkF (lkF lkH (by decide +kernel)) (by decide +kernel)) (by decide +kernel), ?_⟩
  exact ⟨_, rfl, d, b, kvs, rowK ws, _, rfl, rfl, dn, key_row hb, ev, fin l zz tf pz⟩
theorem ok_stories_of (T : Tx P w K mg) (B : Bx T base) : FnOk P w K mg base CX0 2 T.a_stories_of T.fd_stories_of ["question", "words", "there"] (spStoriesOf P w K T.c_Question T.c_Routine) := by
  refine okT T.F_stories_of sc_stories_of (fun vs H Q E h => ?_) (fun cdv A outer s H vs Q E hcd hr h => ?_)
  · obtain ⟨x, b, q, ws, there, rfl, _⟩ := h
    rfl
  have hu := hu_of hr
  have hu65 := hu65_of hr
  obtain ⟨x, b, q, ws, there, rfl, hq, hcl, hna, hok, hb, hw, fin⟩ := h
  obtain ⟨o1, o2, o3, o4, o5, o6, o7, _⟩ := hok
  have l4a : q.one.length ≤ 4 := by omega
  have l4b : q.other.length ≤ 4 := by omega
  have g1 : (q.rs ws).length ≤ 32 := (rowsS_small l4a l4b).1
  refine ⟨_, (pss_cons (ps_set (i := 3) sc_stories_of.nd rfl (by first | exact Or.inl rfl | exact Or.inr rfl) (pe_call (ok_rows_of (w := w) T B) (hr.mono (by decide)) (by rfl) T.m_rows_of T.F_rows_of.kp T.bi_rows_of .nil pass0 (pa_cons (pv 0) (pa_cons (pv 1) pa_nil))))
 (pss_cons (ps_set (i := 4) sc_stories_of.nd rfl (by first | exact Or.inl rfl | exact Or.inr rfl) (pe_ifExp (pt_val (pv 2)) (pe_lc (own := [("row", 5)]) (g := gName 5) rfl sc_stories_of.nd (pi_tup (pv 3)) (blkOk_by (own := [("row", 5)]) (N := N_stories_of) (sc := defScope s_stories_of) (by decide +kernel)) (fun _ _ _ _ _ => (pg_name (i := 5) sc_stories_of.nd rfl (by first | exact Or.inl rfl | exact Or.inr rfl))) (fun _ _ _ _ _ => pts_nil) (fun _ _ _ _ _ => (pe_tup (pa_cons pe_str (pa_cons (pv 5) pa_nil))))) (pe_lst pa_nil)))
 (pss_one (ps_ret (pe_callTy call_tuple_of (by rfl) T.b_tuple (by decide +kernel) (pa_cons (pe_op op_cat (pv 4) (pe_lc (own := [("row", 5)]) (g := gName 5) rfl sc_stories_of.nd (pi_tup (pv 3)) (blkOk_by (own := [("row", 5)]) (N := N_stories_of) (sc := defScope s_stories_of) (by decide +kernel)) (fun _ _ _ _ _ => (pg_name (i := 5) sc_stories_of.nd rfl (by first | exact Or.inl rfl | exact Or.inr rfl))) (fun _ _ _ _ _ => pts_nil) (fun _ _ _ _ _ => (pe_tup (pa_cons pe_str (pa_cons (pv 5) pa_nil)))))) pa_nil)))))), ?_⟩
  refine asgI (callI ⟨_, rfl, _, rfl, x, b, q, ws, rfl, hq, hcl, hna, hb, hw, fun l zz tf pz => ?_⟩)
  dsimp only [gName]
  have fin2 : ∀ (H2 : Hp) (f g : Addr) (fv gv : List V), Same H H2 → H2 f = some (.lst fv) → H2 g = some (.lst gv) → Paired (StoV K H2) fv (if there then (q.rs ws).map fun r => (("old" : Str), r) else []) → Paired (StoV K H2) gv ((q.rs ws).map fun r => (("new" : Str), r)) →
      rCat (.ref f) (.ref g) H2 fun v H_2 => ∃ p ys, [v] = [V.ref p] ∧ ((SqL K H_2 p ys ∧ ∀ (l : Addr), H_2 l = none → Q (V.ref l) (upd H_2 l (HO.tup ys))) ∨ SqT K H_2 p ys ∧ Q (V.ref p) H_2) := fun H2 f g fv gv s hf hg pf pg => by
    have n1 : fv.length ≤ 32 := by
      rw [pf.length]
      cases there
      · exact Nat.zero_le _
      · rw [if_pos rfl, List.length_map]; exact g1
    have n2 : gv.length ≤ 32 := by rw [pg.length, List.length_map]; exact g1
    refine ⟨f, g, fv, gv, rfl, rfl, hf, hg, by rw [sizeLine_eq]; omega, fun D4 hD4 => ⟨D4, _, rfl, .inl ⟨SqL.of upd_same, fun l5 hl5 => ?_⟩⟩⟩
    have s5 := (same_upd (o := .lst (fv ++ gv)) hD4).trans (same_upd (o := .tup (fv ++ gv)) hl5)
    exact fin _ _ _ (s.trans s5) (SqU.of upd_same) (paired_mono (fun _ _ h => h.same s5) (paired_app pf pg))
  refine asgI (ifEI ⟨_, rfl, there, rfl, ?_⟩)
  cases there
  · refine iteF ⟨by show 0 ≤ sizeLine; decide, fun D hD => ?_⟩
    dsimp only [gName]
    have s1 := same_upd (o := .lst []) hD
    have tf1 : SqT K _ l zz := seqT s1 tf.t
    refine retE (cbI (consI (opI ⟨_, rfl, stoLc (vI rfl) tf1 (paired_mono (fun _ _ h => h.same s1) pz) (by have := g1; unfold Qu.rs at this ⊢; omega) (fun _ => rfl) (fun _ => rfl) fun H3 D3 acc3 s3 hD3 p3 => ?_⟩)))
    exact fin2 H3 D D3 [] acc3 (s1.trans s3) (s3 _ _ upd_same) hD3 .nil p3
  · refine iteT (stoLc (vI rfl) tf.t pz (by have := g1; unfold Qu.rs at this ⊢; omega) (fun _ => rfl) (fun _ => rfl) fun H1 D acc s1 hD p1 => ?_)
    dsimp only [gName]
    have tf1 : SqT K _ l zz := seqT s1 tf.t
    refine retE (cbI (consI (opI ⟨_, rfl, stoLc (vI rfl) tf1 (paired_mono (fun _ _ h => h.same s1) pz) (by have := g1; unfold Qu.rs at this ⊢; omega) (fun _ => rfl) (fun _ => rfl) fun H3 D3 acc3 s3 hD3 p3 => ?_⟩)))
    exact fin2 H3 D D3 acc acc3 (s1.trans s3) (s3 _ _ hD) hD3 (paired_mono (fun _ _ h => h.same s3) p1) p3
end
end Toy


set_option Elab.async false
set_option linter.all false
set_option maxRecDepth 100000
set_option maxHeartbeats 4000000
namespace Toy
open PySem L2 Sh ShL LamX NdefX
theorem ints_dp {K : PySem.W.Frag} {H : Hp} : ∀ ns : List Int, DpAll K H (ns.map V.int) (ns.map PyData.int)
  | [] => .nil
  | n :: ns => .cons (.int n) (ints_dp ns)
theorem ints_lay : ∀ ns : List Int, PyData.canLayAll0 (ns.map PyData.int) = true ∧ PyData.depthAll (ns.map PyData.int) ≤ 1
  | [] => ⟨rfl, by simp [PyData.depthAll]⟩
  | n :: ns => by
    obtain ⟨h1, h2⟩ := ints_lay ns
    refine ⟨by simp only [List.map_cons, PyData.canLayAll0, PyData.canLay0, h1]; rfl, ?_⟩
    simp only [List.map_cons, PyData.depthAll, PyData.depth]
    omega
theorem ints_shaped (ns : List Int) : SeqAt.shaped (.list (ns.map PyData.int)) = true := by
  obtain ⟨h1, h2⟩ := ints_lay ns
  show (PyData.canLay0 (.list (ns.map PyData.int)) && decide (PyData.depth (.list (ns.map PyData.int)) ≤ 64)) = true
  rw [Bool.and_eq_true]
  exact ⟨by simp only [PyData.canLay0]; exact h1, decide_eq_true (by simp only [PyData.depth]; omega)⟩
theorem ints_eqv (ns : List Int) : PyData.eqv (.list (ns.map PyData.int)) (.list []) = decide (ns.length = 0) := by
  cases ns <;> simp [PyData.eqv, PyData.eqvAll]
theorem posI {n : Nat} [NeZero n] : (0 : Int) < (OfNat.ofNat n : Int) := by
  have := Nat.pos_of_ne_zero (NeZero.ne n)
  exact Int.ofNat_lt.mpr this
/-! ### the pen -/
def penL (c : Addr) (b l : Int) : List (Key × V) := [(.inr "cells", .ref c), (.inr "begun", .int b), (.inr "left", .int l)]
theorem k12 : ¬ (("cells" : Str) = "begun") := by decide +kernel
theorem k13 : ¬ (("cells" : Str) = "left") := by decide +kernel
theorem k23 : ¬ (("begun" : Str) = "left") := by decide +kernel
theorem ki {a b : Str} (h : ¬ a = b) : ¬ (Sum.inr a : Key) = Sum.inr b := fun e => h (Sum.inr.inj e)
theorem pen_cells (c : Addr) (b l : Int) : valV (penL c b l) (.inr "cells") = some (.ref c) := valV_pos rfl
theorem pen_next (c : Addr) (b l : Int) : valV (penL c b l) (.inr "begun") = some (.int b) := (valV_neg (ki k12)).trans (valV_pos rfl)
theorem pen_left (c : Addr) (b l : Int) : valV (penL c b l) (.inr "left") = some (.int l) := (valV_neg (ki k13)).trans ((valV_neg (ki k23)).trans (valV_pos rfl))
theorem put2 {a b c : Str} {x y z v : V} (h12 : ¬ a = b) (h23 : ¬ b = c) : putK ([(.inr a, x), (.inr b, y), (.inr c, z)] : List (Key × V)) (.inr b) v = [(.inr a, x), (.inr b, v), (.inr c, z)] := by
  have h32 : ¬ c = b := fun e => h23 e.symm
  unfold putK
  simp [h12, h32]
theorem put3 {a b c : Str} {x y z v : V} (h13 : ¬ a = c) (h23 : ¬ b = c) : putK ([(.inr a, x), (.inr b, y), (.inr c, z)] : List (Key × V)) (.inr c) v = [(.inr a, x), (.inr b, y), (.inr c, v)] := by
  unfold putK
  simp [h13, h23]
theorem pen_put_next (c : Addr) (b l : Int) (v : Int) : putK (penL c b l) (.inr "begun") (.int v) = penL c v l := by
  unfold penL
  rw [put2 k12 k23]
theorem pen_put_left (c : Addr) (b l : Int) (v : Int) : putK (penL c b l) (.inr "left") (.int v) = penL c b v := by
  unfold penL
  rw [put3 k13 k23]
theorem at_mod {ns : List Int} {b : Int} (h : 0 < (ns.length : Int)) : ∃ v, atI (ns.map V.int) (b % (ns.length : Int)) = some (.int v) := by
  have h1 := Int.emod_nonneg b (show (ns.length : Int) ≠ 0 by omega)
  have h2 := Int.emod_lt_of_pos b h
  have h3 : (b % (ns.length : Int)).toNat < ns.length := by omega
  refine ⟨ns[(b % (ns.length : Int)).toNat], at_of (j := (b % (ns.length : Int)).toNat) (by omega) ?_⟩
  rw [List.getElem?_map, List.getElem?_eq_getElem h3]
  rfl
/-- a pen stands at d, n numbers were drawn from it at most -/
def Pen (H : Hp) (d c : Addr) (n : Nat) : Prop := ∃ (ns : List Int) (b l : Int), H d = some (.dK (penL c b l)) ∧ H c = some (.lst (ns.map V.int)) ∧ 0 ≤ b ∧ b ≤ (n : Int) ∧ 0 ≤ l
theorem Pen.mono {H : Hp} {d c : Addr} {n m : Nat} (p : Pen H d c n) (h : n ≤ m) : Pen H d c m := by
  obtain ⟨ns, b, l, h1, h2, h3, h4, h5⟩ := p
  exact ⟨ns, b, l, h1, h2, h3, by omega, h5⟩
theorem Pen.at {H : Hp} {d c : Addr} {n : Nat} (p : Pen H d c n) : ∃ kvs, H d = some (.dK kvs) := by
  obtain ⟨ns, b, l, h1, _⟩ := p
  exact ⟨_, h1⟩
theorem Pen.same {H H' : Hp} {d c : Addr} {n : Nat} (p : Pen H d c n) (s : Same H H') : Pen H' d c n := by
  obtain ⟨ns, b, l, h1, h2, h3⟩ := p
  exact ⟨ns, b, l, s _ _ h1, s _ _ h2, h3⟩
def spDraw : Sp := fun vs H Q _ => ∃ (d c : Addr) (n : Nat) (m : Int), vs = [.ref d, .int m] ∧ Pen H d c n ∧ n ≤ 100000 ∧ 0 < m ∧ m < 1000000000 ∧
  ∀ (H' : Hp) (r : Int), 0 ≤ r → r < m → Kp d H H' → Pen H' d c (n + 1) → Q (.int r) H'
section
variable {P : Program} {w : World} {K : PySem.W.Frag} {mg : Str → Option Value} {base : Heap}
theorem ok_l_draw (T : Tx P w K mg) (B : Bx T base) : FnOk P w K mg base CX0 1 T.a_l_draw T.fd_l_draw ["_law_pen", "_law_many"] spDraw := by
  refine T.F_l_draw.ok sc_l_draw (fun vs H Q E h => ?_) (fun cdv A outer s H vs Q E hr h => ?_)
  · obtain ⟨d, c, n, m, rfl, _⟩ := h
    rfl
  have hu := hu_of hr
  obtain ⟨d, c, n, m, rfl, ⟨ns, b, l, hd, hc, hb0, hbn, hl⟩, hn, hm, hm2, q⟩ := h
  have ncd : c ≠ d := ne_of hc hd (by intro z; cases z)
  have gl : ∀ {H' : Hp} {c b l}, H' d = some (.dK (penL c b l)) → DGet H' d (.str "left") (some (.int l)) := fun h => by
    have := DGet.k (k := Sum.inr "left") h
    rw [pen_left] at this
    exact this
  have gb : ∀ {H' : Hp} {c b l}, H' d = some (.dK (penL c b l)) → DGet H' d (.str "begun") (some (.int b)) := fun h => by
    have := DGet.k (k := Sum.inr "begun") h
    rw [pen_next] at this
    exact this
  have gc : ∀ {H' : Hp} {c b l}, H' d = some (.dK (penL c b l)) → DGet H' d (.str "cells") (some (.ref c)) := fun h => by
    have := DGet.k (k := Sum.inr "cells") h
    rw [pen_cells] at this
    exact this
  have pb : ∀ {H' : Hp} {c b l} (v : Int), H' d = some (.dK (penL c b l)) → DPut H' d (.str "begun") (.int v) (upd H' d (.dK (penL c v l))) := fun v h => by
    have := DPut.k (k := Sum.inr "begun") (v := .int v) h (by show 3 < sizeLine; decide)
    rw [pen_put_next] at this
    exact this
  have pl : ∀ {H' : Hp} {c b l} (v : Int), H' d = some (.dK (penL c b l)) → DPut H' d (.str "left") (.int v) (upd H' d (.dK (penL c b v))) := fun v h => by
    have := DPut.k (k := Sum.inr "left") (v := .int v) h (by show 3 < sizeLine; decide)
    rw [pen_put_left] at this
    exact this
  refine ⟨_, (pss_cons (ps_if (pt_cmpR op_gt (pe_dget hu (pv 0) pe_str (fun _ _ => rfl)) pe_int (nomark _))
 (pss_cons (ps_set (i := 2) sc_l_draw.nd rfl (by first | exact Or.inl rfl | exact Or.inr rfl) (pe_op op_mod (pe_callTy call_int1 (by rfl) T.b_int (by decide +kernel) (pa_cons (pe_dget hu (pv 0) pe_str (fun _ _ => rfl)) pa_nil)) (pv 1)))
 (pss_cons (ps_dput hu (pv 0) pe_str (pe_op op_fdivN (pe_dget hu (pv 0) pe_str (fun _ _ => rfl)) (pv 1)) rfl)
 (pss_one (ps_ret (pv 2)))))
 pss_nil)
 (pss_cons (ps_par (i := 3) (j := 4) (by rfl) sc_l_draw.nd rfl rfl (by decide) rfl rfl (pa_cons (pe_dget hu (pv 0) pe_str (fun _ _ => rfl)) (pa_cons (pe_callB call_len_seq (by rfl) T.b_len (by decide +kernel) (pa_cons (pe_dget hu (pv 0) pe_str (fun _ _ => rfl)) pa_nil)) pa_nil)) (by rfl))
 (pss_cons (ps_dput hu (pv 0) pe_str (pe_op op_add (pv 3) pe_int) rfl)
 (pss_cons (ps_set (i := 5) sc_l_draw.nd rfl (by first | exact Or.inl rfl | exact Or.inr rfl) (pe_ifExp (pt_cmpR op_gt (pv 4) pe_int (nomark _)) (pe_ix ix_list (pe_dget hu (pv 0) pe_str (fun _ _ => rfl)) (pe_op op_mod (pe_callTy call_int1 (by rfl) T.b_int (by decide +kernel) (pa_cons (pv 3) pa_nil)) (pv 4)) (fun _ _ => rfl)) (pe_op op_add (pe_op op_mul pe_int (pv 3)) pe_int)))
 (pss_cons (ps_if (PW.pt (pw_and (pt_cmpR op_lt (pv 3) (pv 4) (nomark _)) (pw_and1 (pt_cmpR op_ge (pe_callB call_abs (by rfl) T.b_abs (by decide +kernel) (pa_cons (pv 5) pa_nil)) (pe_op op_pow pe_int pe_int) (nomark _)))))
 (pss_cons (ps_dput hu (pv 0) pe_str (pe_op op_fdivN (pe_op op_sub (pe_callB call_abs (by rfl) T.b_abs (by decide +kernel) (pa_cons (pv 5) pa_nil)) (pe_op op_pow pe_int pe_int)) (pv 1)) rfl)
 (pss_one (ps_ret (pe_op op_mod (pe_callTy call_int1 (by rfl) T.b_int (by decide +kernel) (pa_cons (pe_op op_sub (pe_callB call_abs (by rfl) T.b_abs (by decide +kernel) (pa_cons (pv 5) pa_nil)) (pe_op op_pow pe_int pe_int)) pa_nil)) (pv 1)))))
 pss_nil)
 (pss_cons (ps_set (i := 6) sc_l_draw.nd rfl (by first | exact Or.inl rfl | exact Or.inr rfl) (pe_op op_mod (pe_callTy call_int1 (by rfl) T.b_int (by decide +kernel) (pa_cons (pe_op op_add (pe_op op_add (pe_op op_mul (pe_op op_mod (pe_callTy call_int1 (by rfl) T.b_int (by decide +kernel) (pa_cons (pv 5) pa_nil)) pe_int) pe_int) (pe_op op_mul (pe_op op_mul pe_int (pv 3)) (pv 3))) pe_int) pa_nil)) pe_int))
 (pss_cons (ps_set (i := 6) sc_l_draw.nd rfl (by first | exact Or.inl rfl | exact Or.inr rfl) (pe_op op_mod (pe_callTy call_int1 (by rfl) T.b_int (by decide +kernel) (pa_cons (pe_op op_add (pe_op op_add (pe_op op_add (pe_op op_mul (pv 6) (pv 6)) (pe_op op_mul pe_int (pv 6))) (pe_op op_mul pe_int (pv 3))) pe_int) pa_nil)) pe_int))
 (pss_one (ps_ret (pe_op op_mod (pe_callTy call_int1 (by rfl) T.b_int (by decide +kernel) (pa_cons (pe_op op_fdivN (pe_op op_mod (pe_callTy call_int1 (by rfl) T.b_int (by decide +kernel) (pa_cons (pe_op op_mul (pv 6) (pe_op op_add (pv 6) pe_int)) pa_nil)) pe_int) pe_int) pa_nil)) (pv 1))))))))))), ?_⟩
  -- if pen['left'] > 0
  refine ⟨_, rfl, d, _, rfl, gl hd, _, _, rfl, rfl, _, rfl, ?_⟩
  refine ite2 (fun h1 => ?_) (fun h1 => ?_)
  · refine ⟨_, rfl, d, _, rfl, gl hd, .inl ⟨_, rfl, _, rfl, _, _, rfl, rfl, hm, ?_⟩⟩
    refine ⟨_, rfl, d, _, rfl, gl hd, _, rfl, _, _, rfl, rfl, ⟨by omega, by omega⟩, _, rfl, d, _, rfl, pl _ hd, ?_⟩
    refine ⟨_, rfl, q _ _ (Int.emod_nonneg _ (by omega)) (Int.emod_lt_of_pos _ hm) kp_put ?_⟩
    refine ⟨ns, b, _, upd_same, by rw [upd_ne ncd]; exact hc, hb0, by omega, Int.fdiv_nonneg (by omega) (by omega)⟩
  -- place, size = (pen['next'], len(pen['cells'])); pen['next'] = place + 1
  refine ⟨_, rfl, d, _, rfl, gb hd, _, rfl, d, _, rfl, gc hd, c, _, rfl, .inl (.inl (.inl hc)), _, _, rfl, ?_⟩
  refine ⟨_, rfl, _, _, rfl, rfl, _, rfl, d, _, rfl, pb _ hd, ?_⟩
  have hd2 : (upd H d (.dK (penL c (b + 1) l))) d = some (.dK (penL c (b + 1) l)) := upd_same
  have hc2 : (upd H d (.dK (penL c (b + 1) l))) c = some (.lst (ns.map V.int)) := by rw [upd_ne ncd]; exact hc
  have kp2 : Kp d H (upd H d (.dK (penL c (b + 1) l))) := kp_put
  generalize upd H d (.dK (penL c (b + 1) l)) = H2 at hd2 hc2 kp2 ⊢
  have hlen : ((ns.map V.int).length : Int) = (ns.length : Int) := by rw [List.length_map]
  rw [hlen]
  dsimp only
  refine asgI (ifEI ?_)
  refine ⟨_, rfl, _, _, rfl, rfl, _, rfl, ?_⟩
  refine ite2 (fun h2 => ?_) (fun h2 => ?_)
  · have h3 := of_decide_eq_true h2
    obtain ⟨z, hz⟩ := at_mod (b := b) h3
    refine ⟨_, rfl, d, _, rfl, gc hd2, _, rfl, .inl ⟨_, rfl, _, rfl, _, _, rfl, rfl, h3, c, ns.map V.int, _, V.int z, rfl, rfl, .inl (.inl hc2), hz, ?_⟩⟩
    dsimp only [gName]
    have m1 := Int.emod_nonneg z (show (4294967279 : Int) ≠ 0 by decide)
    have m2 := Int.emod_lt_of_pos z (show (0 : Int) < 4294967279 by decide)
    refine ⟨_, rfl, _, rfl, _, _, rfl, rfl, _, rfl, ?_⟩
    refine ite2 (fun h4 => ?_) (fun h4 => ?_)
    · refine ⟨_, rfl, _, rfl, _, _, rfl, rfl, ⟨by decide, by decide, by decide⟩, _, _, rfl, rfl, _, rfl, ?_⟩
      refine ite2 (fun h5 => ?_) (fun h5 => ?_)
      · have h6 := of_decide_eq_true h5
        refine ⟨_, rfl, _, rfl, _, _, rfl, rfl, ⟨by decide, by decide, by decide⟩, _, _, rfl, rfl, _, rfl, _, _, rfl, rfl, ⟨by omega, by omega⟩, _, rfl, d, _, rfl, pl _ hd2, ?_⟩
        refine ⟨_, rfl, _, rfl, _, _, rfl, rfl, ⟨by decide, by decide, by decide⟩, _, _, rfl, rfl, .inl ⟨_, rfl, _, rfl, _, _, rfl, rfl, hm, ?_⟩⟩
        exact q _ _ (Int.emod_nonneg _ (by omega)) (Int.emod_lt_of_pos _ hm) (kp2.trans kp_put) ⟨ns, b + 1, _, upd_same, by rw [upd_ne ncd]; exact hc2, by omega, by omega, Int.fdiv_nonneg (by omega) (by omega)⟩
      · show tSeq _ _ _ _ _
        refine ⟨_, rfl, .inl ⟨_, rfl, _, _, rfl, rfl, posI, _, _, rfl, rfl, .inl ⟨by omega, by omega⟩, _, rfl, _, _, rfl, rfl, .inl ⟨by decide, by decide⟩, _, rfl, _, _, rfl, rfl, .inr ⟨by omega, by omega⟩, _, _, rfl, rfl, _, _, rfl, rfl, .inl ⟨_, rfl, _, _, rfl, rfl, posI, ?_⟩⟩⟩
        have y0 := Int.emod_nonneg (z % 4294967279 * 50923 + 31249 * b * b + 977) (show (4294967291 : Int) ≠ 0 by decide)
        have y1 := Int.emod_lt_of_pos (z % 4294967279 * 50923 + 31249 * b * b + 977) (show (0 : Int) < 4294967291 by decide)
        generalize (z % 4294967279 * 50923 + 31249 * b * b + 977) % 4294967291 = y at y0 y1 ⊢
        refine ⟨_, rfl, _, rfl, _, _, rfl, rfl, .inl ⟨by omega, by omega⟩, _, rfl, _, _, rfl, rfl, .inl ⟨by decide, by decide⟩, _, _, rfl, rfl, _, rfl, _, _, rfl, rfl, .inl ⟨by decide, by decide⟩, _, _, rfl, rfl, _, _, rfl, rfl, .inl ⟨_, rfl, _, _, rfl, rfl, posI, ?_⟩⟩
        have x0 := Int.emod_nonneg (y * y + 70001 * y + 41 * b + 13) (show (4294967231 : Int) ≠ 0 by decide)
        have x1 := Int.emod_lt_of_pos (y * y + 70001 * y + 41 * b + 13) (show (0 : Int) < 4294967231 by decide)
        generalize (y * y + 70001 * y + 41 * b + 13) % 4294967231 = x at x0 x1 ⊢
        refine ⟨_, rfl, _, rfl, _, _, rfl, rfl, _, _, rfl, rfl, .inl ⟨by omega, by omega⟩, .inl ⟨_, rfl, _, _, rfl, rfl, posI, _, _, rfl, rfl, ⟨by decide, by decide⟩, .inl ⟨_, rfl, _, rfl, _, _, rfl, rfl, hm, ?_⟩⟩⟩
        exact q _ _ (Int.emod_nonneg _ (by omega)) (Int.emod_lt_of_pos _ hm) kp2 ⟨ns, b + 1, l, hd2, hc2, by omega, by omega, hl⟩
    · refine iteF ?_
      show tSeq _ _ _ _ _
      refine ⟨_, rfl, .inl ⟨_, rfl, _, _, rfl, rfl, posI, _, _, rfl, rfl, .inl ⟨by omega, by omega⟩, _, rfl, _, _, rfl, rfl, .inl ⟨by decide, by decide⟩, _, rfl, _, _, rfl, rfl, .inr ⟨by omega, by omega⟩, _, _, rfl, rfl, _, _, rfl, rfl, .inl ⟨_, rfl, _, _, rfl, rfl, posI, ?_⟩⟩⟩
      have y0 := Int.emod_nonneg (z % 4294967279 * 50923 + 31249 * b * b + 977) (show (4294967291 : Int) ≠ 0 by decide)
      have y1 := Int.emod_lt_of_pos (z % 4294967279 * 50923 + 31249 * b * b + 977) (show (0 : Int) < 4294967291 by decide)
      generalize (z % 4294967279 * 50923 + 31249 * b * b + 977) % 4294967291 = y at y0 y1 ⊢
      refine ⟨_, rfl, _, rfl, _, _, rfl, rfl, .inl ⟨by omega, by omega⟩, _, rfl, _, _, rfl, rfl, .inl ⟨by decide, by decide⟩, _, _, rfl, rfl, _, rfl, _, _, rfl, rfl, .inl ⟨by decide, by decide⟩, _, _, rfl, rfl, _, _, rfl, rfl, .inl ⟨_, rfl, _, _, rfl, rfl, posI, ?_⟩⟩
      have x0 := Int.emod_nonneg (y * y + 70001 * y + 41 * b + 13) (show (4294967231 : Int) ≠ 0 by decide)
      have x1 := Int.emod_lt_of_pos (y * y + 70001 * y + 41 * b + 13) (show (0 : Int) < 4294967231 by decide)
      generalize (y * y + 70001 * y + 41 * b + 13) % 4294967231 = x at x0 x1 ⊢
      refine ⟨_, rfl, _, rfl, _, _, rfl, rfl, _, _, rfl, rfl, .inl ⟨by omega, by omega⟩, .inl ⟨_, rfl, _, _, rfl, rfl, posI, _, _, rfl, rfl, ⟨by decide, by decide⟩, .inl ⟨_, rfl, _, rfl, _, _, rfl, rfl, hm, ?_⟩⟩⟩
      exact q _ _ (Int.emod_nonneg _ (by omega)) (Int.emod_lt_of_pos _ hm) kp2 ⟨ns, b + 1, l, hd2, hc2, by omega, by omega, hl⟩
  · refine ⟨_, rfl, _, _, rfl, rfl, .inl ⟨by decide, by decide⟩, _, _, rfl, rfl, ?_⟩
    dsimp only [gName]
    generalize (7 * b + 3 : Int) = z
    have m1 := Int.emod_nonneg z (show (4294967279 : Int) ≠ 0 by decide)
    have m2 := Int.emod_lt_of_pos z (show (0 : Int) < 4294967279 by decide)
    refine ⟨_, rfl, _, rfl, _, _, rfl, rfl, _, rfl, ?_⟩
    refine ite2 (fun h4 => ?_) (fun h4 => ?_)
    · refine ⟨_, rfl, _, rfl, _, _, rfl, rfl, ⟨by decide, by decide, by decide⟩, _, _, rfl, rfl, _, rfl, ?_⟩
      refine ite2 (fun h5 => ?_) (fun h5 => ?_)
      · have h6 := of_decide_eq_true h5
        refine ⟨_, rfl, _, rfl, _, _, rfl, rfl, ⟨by decide, by decide, by decide⟩, _, _, rfl, rfl, _, rfl, _, _, rfl, rfl, ⟨by omega, by omega⟩, _, rfl, d, _, rfl, pl _ hd2, ?_⟩
        refine ⟨_, rfl, _, rfl, _, _, rfl, rfl, ⟨by decide, by decide, by decide⟩, _, _, rfl, rfl, .inl ⟨_, rfl, _, rfl, _, _, rfl, rfl, hm, ?_⟩⟩
        exact q _ _ (Int.emod_nonneg _ (by omega)) (Int.emod_lt_of_pos _ hm) (kp2.trans kp_put) ⟨ns, b + 1, _, upd_same, by rw [upd_ne ncd]; exact hc2, by omega, by omega, Int.fdiv_nonneg (by omega) (by omega)⟩
      · show tSeq _ _ _ _ _
        refine ⟨_, rfl, .inl ⟨_, rfl, _, _, rfl, rfl, posI, _, _, rfl, rfl, .inl ⟨by omega, by omega⟩, _, rfl, _, _, rfl, rfl, .inl ⟨by decide, by decide⟩, _, rfl, _, _, rfl, rfl, .inr ⟨by omega, by omega⟩, _, _, rfl, rfl, _, _, rfl, rfl, .inl ⟨_, rfl, _, _, rfl, rfl, posI, ?_⟩⟩⟩
        have y0 := Int.emod_nonneg (z % 4294967279 * 50923 + 31249 * b * b + 977) (show (4294967291 : Int) ≠ 0 by decide)
        have y1 := Int.emod_lt_of_pos (z % 4294967279 * 50923 + 31249 * b * b + 977) (show (0 : Int) < 4294967291 by decide)
        generalize (z % 4294967279 * 50923 + 31249 * b * b + 977) % 4294967291 = y at y0 y1 ⊢
        refine ⟨_, rfl, _, rfl, _, _, rfl, rfl, .inl ⟨by omega, by omega⟩, _, rfl, _, _, rfl, rfl, .inl ⟨by decide, by decide⟩, _, _, rfl, rfl, _, rfl, _, _, rfl, rfl, .inl ⟨by decide, by decide⟩, _, _, rfl, rfl, _, _, rfl, rfl, .inl ⟨_, rfl, _, _, rfl, rfl, posI, ?_⟩⟩
        have x0 := Int.emod_nonneg (y * y + 70001 * y + 41 * b + 13) (show (4294967231 : Int) ≠ 0 by decide)
        have x1 := Int.emod_lt_of_pos (y * y + 70001 * y + 41 * b + 13) (show (0 : Int) < 4294967231 by decide)
        generalize (y * y + 70001 * y + 41 * b + 13) % 4294967231 = x at x0 x1 ⊢
        refine ⟨_, rfl, _, rfl, _, _, rfl, rfl, _, _, rfl, rfl, .inl ⟨by omega, by omega⟩, .inl ⟨_, rfl, _, _, rfl, rfl, posI, _, _, rfl, rfl, ⟨by decide, by decide⟩, .inl ⟨_, rfl, _, rfl, _, _, rfl, rfl, hm, ?_⟩⟩⟩
        exact q _ _ (Int.emod_nonneg _ (by omega)) (Int.emod_lt_of_pos _ hm) kp2 ⟨ns, b + 1, l, hd2, hc2, by omega, by omega, hl⟩
    · refine iteF ?_
      show tSeq _ _ _ _ _
      refine ⟨_, rfl, .inl ⟨_, rfl, _, _, rfl, rfl, posI, _, _, rfl, rfl, .inl ⟨by omega, by omega⟩, _, rfl, _, _, rfl, rfl, .inl ⟨by decide, by decide⟩, _, rfl, _, _, rfl, rfl, .inr ⟨by omega, by omega⟩, _, _, rfl, rfl, _, _, rfl, rfl, .inl ⟨_, rfl, _, _, rfl, rfl, posI, ?_⟩⟩⟩
      have y0 := Int.emod_nonneg (z % 4294967279 * 50923 + 31249 * b * b + 977) (show (4294967291 : Int) ≠ 0 by decide)
      have y1 := Int.emod_lt_of_pos (z % 4294967279 * 50923 + 31249 * b * b + 977) (show (0 : Int) < 4294967291 by decide)
      generalize (z % 4294967279 * 50923 + 31249 * b * b + 977) % 4294967291 = y at y0 y1 ⊢
      refine ⟨_, rfl, _, rfl, _, _, rfl, rfl, .inl ⟨by omega, by omega⟩, _, rfl, _, _, rfl, rfl, .inl ⟨by decide, by decide⟩, _, _, rfl, rfl, _, rfl, _, _, rfl, rfl, .inl ⟨by decide, by decide⟩, _, _, rfl, rfl, _, _, rfl, rfl, .inl ⟨_, rfl, _, _, rfl, rfl, posI, ?_⟩⟩
      have x0 := Int.emod_nonneg (y * y + 70001 * y + 41 * b + 13) (show (4294967231 : Int) ≠ 0 by decide)
      have x1 := Int.emod_lt_of_pos (y * y + 70001 * y + 41 * b + 13) (show (0 : Int) < 4294967231 by decide)
      generalize (y * y + 70001 * y + 41 * b + 13) % 4294967231 = x at x0 x1 ⊢
      refine ⟨_, rfl, _, rfl, _, _, rfl, rfl, _, _, rfl, rfl, .inl ⟨by omega, by omega⟩, .inl ⟨_, rfl, _, _, rfl, rfl, posI, _, _, rfl, rfl, ⟨by decide, by decide⟩, .inl ⟨_, rfl, _, rfl, _, _, rfl, rfl, hm, ?_⟩⟩⟩
      exact q _ _ (Int.emod_nonneg _ (by omega)) (Int.emod_lt_of_pos _ hm) kp2 ⟨ns, b + 1, l, hd2, hc2, by omega, by omega, hl⟩
end
theorem cut_drop (xs : List V) (c : Nat) : cutV xs (some (c : Int)) none = xs.drop c := by
  unfold cutV
  rw [HT.sIx_nat, HT.sIx_none]
  by_cases h : c ≤ xs.length
  · rw [Nat.min_eq_left h]
    apply List.take_of_length_le
    rw [List.length_drop]
    exact Nat.le_refl _
  · rw [Nat.min_eq_right (by omega), List.drop_of_length_le (Nat.le_refl _), List.drop_of_length_le (by omega)]
    simp
theorem cut_take (xs : List V) (c : Nat) : cutV xs none (some (c : Int)) = xs.take c := by
  unfold cutV
  rw [HT.sIx_nat, HT.sIx_none]
  show (xs.drop 0).take (min c xs.length - 0) = xs.take c
  rw [List.drop_zero, Nat.sub_zero]
  by_cases h : c ≤ xs.length
  · rw [Nat.min_eq_left h]
  · rw [Nat.min_eq_right (by omega), List.take_of_length_le (Nat.le_refl _), List.take_of_length_le (by omega)]
theorem kp_upd {d p : Addr} {H H' : Hp} {o : HO} (h : Kp d H H') (n : H p = none) : Kp d H (upd H' p o) := fun b u e nb => by
  rw [upd_ne (ne_of_none e n)]
  exact h b u e nb
def spPenOf (K : PySem.W.Frag) : Sp := fun vs H Q _ => ∃ (a : Addr) (ns : List Int), vs = [.ref a] ∧ SqL K H a (ns.map V.int) ∧ ∀ (H' : Hp) (d c : Addr), Same H H' → Pen H' d c 0 → Q (.ref d) H'
section
variable {P : Program} {w : World} {K : PySem.W.Frag} {mg : Str → Option Value} {base : Heap}
theorem ok_l_pen_of (T : Tx P w K mg) (B : Bx T base) : FnOk P w K mg base CX0 1 T.a_l_pen_of T.fd_l_pen_of ["_law_script"] (spPenOf K) := by
  refine T.F_l_pen_of.ok sc_l_pen_of (fun vs H Q E h => ?_) (fun cdv A outer s H vs Q E hr h => ?_)
  · obtain ⟨a, ns, rfl, _⟩ := h
    rfl
  obtain ⟨a, ns, rfl, hS, q⟩ := h
  refine ⟨_, (pss_one (ps_ret (pe_disp (pps_cons pe_str (pe_callTy call_list_of (by rfl) T.b_list (by decide +kernel) (pa_cons (pe_slice sl_list (pv 0) po_none (po_some pe_int)) pa_nil)) (pps_cons pe_str pe_int (pps_cons pe_str pe_int pps_nil))) (by rfl) (by rfl) (fun z => by cases z) (by decide)))), ?_⟩
  intro p hp
  have s1 : Same H (upd H p (.dK [])) := same_upd hp
  refine ⟨_, rfl, _, rfl, a, _, rfl, s1.seq hS, fun c hc => ?_⟩
  have s2 : Same (upd H p (.dK [])) _ := same_upd (o := .lst (cutV (ns.map V.int) none (some 63))) hc
  refine ⟨c, _, rfl, .inl (SqL.of upd_same), fun l hl => ?_⟩
  have s3 : Same (upd (upd H p (.dK [])) c (.lst (cutV (ns.map V.int) none (some 63)))) _ := same_upd (o := .lst (cutV (ns.map V.int) none (some 63))) hl
  have sA := (s1.trans s2).trans s3
  refine ⟨s3 _ _ (s2 _ _ upd_same), penL l 0 0, rfl, by show 3 ≤ 15; decide, ?_⟩
  have e : mergeK [] (penL l 0 0) = penL l 0 0 := by
    show putK (putK (putK ([] : List (Key × V)) (.inr "cells") (.ref l)) (.inr "begun") (.int 0)) (.inr "left") (.int 0) = _
    rw [show putK ([] : List (Key × V)) (.inr "cells") (.ref l) = [(.inr "cells", .ref l)] from rfl, putK_new _ ((valV_neg (ki k12)).trans valV_nil)]
    exact putK_new _ (show valV ([(.inr "cells", .ref l), (.inr "begun", .int 0)] : List (Key × V)) (.inr "left") = none from (valV_neg (ki k13)).trans ((valV_neg (ki k23)).trans valV_nil))
  rw [e]
  have npl : p ≠ l := fun z => by
    subst z
    rw [s2 _ _ upd_same] at hl
    cases hl
  refine q _ p l (fun b o hb => ?_) ⟨ns.take 63, 0, 0, upd_same, ?_, Int.le_refl _, Int.le_refl _, Int.le_refl _⟩
  · rw [upd_ne (ne_of_none hb hp)]
    exact sA _ _ hb
  · rw [upd_ne npl.symm, upd_same, show cutV (ns.map V.int) none (some 63) = (ns.map V.int).take 63 from cut_take _ 63, List.map_take]
def spPick (K : PySem.W.Frag) : Sp := fun vs H Q _ => ∃ (d c a : Addr) (n : Nat) (xs : List V), vs = [.ref d, .ref a] ∧ Pen H d c n ∧ n ≤ 100000 ∧ SqL K H a xs ∧ 0 < xs.length ∧ xs.length ≤ 1000 ∧ a ≠ d ∧
  ∀ (H' : Hp) (x : V), x ∈ xs → Kp d H H' → Pen H' d c (n + 1) → Q x H'
theorem at_mem {α : Type} {xs : List α} {r : Int} (h0 : 0 ≤ r) (h1 : r < (xs.length : Int)) : ∃ x, atI xs r = some x ∧ x ∈ xs := by
  have h3 : r.toNat < xs.length := by omega
  refine ⟨xs[r.toNat], ?_, List.getElem_mem h3⟩
  have e : ixN xs.length r = some r.toNat := by
    unfold ixN
    rw [if_pos h0]
    rw [if_pos h1]
  unfold atI
  rw [e]
  exact List.getElem?_eq_getElem h3
theorem ok_l_pick (T : Tx P w K mg) (B : Bx T base) : FnOk P w K mg base CX0 2 T.a_l_pick T.fd_l_pick ["_law_pen", "_law_menu"] (spPick K) := by
  refine T.F_l_pick.ok sc_l_pick (fun vs H Q E h => ?_) (fun cdv A outer s H vs Q E hr h => ?_)
  · obtain ⟨d, c, a, n, xs, rfl, _⟩ := h
    rfl
  obtain ⟨d, c, a, n, xs, rfl, hp, hn, ha, hx, hx2, had, q⟩ := h
  refine ⟨_, (pss_one (ps_ret (pe_ix ix_list (pv 1) (pe_call (ok_l_draw (w := w) T B) (hr.mono (by decide)) (by rfl) T.m_l_draw T.F_l_draw.kp T.bi_l_draw .nil pass0 (pa_cons (pv 0) (pa_cons (pe_callB call_len_seq (by rfl) T.b_len (by decide +kernel) (pa_cons (pv 1) pa_nil)) pa_nil))) (fun _ _ => rfl)))), ?_⟩
  refine ⟨_, rfl, _, rfl, _, rfl, a, xs, rfl, .inl ha, d, c, n, (xs.length : Int), rfl, hp, hn, by omega, by omega, fun H1 r r0 r1 kp p1 => ?_⟩
  obtain ⟨x, e, hm⟩ := at_mem r0 r1
  refine ⟨a, xs, r, x, rfl, rfl, ?_, e, q _ x hm kp p1⟩
  rcases ha with (ha | ⟨o, ha⟩) | ha
  · exact .inl (.inl (kp _ _ ha had))
  · exact .inl (.inr ⟨o, kp _ _ ha had⟩)
  · exact .inr ha
end
end Toy


set_option Elab.async false
set_option linter.all false
set_option maxRecDepth 100000
set_option maxHeartbeats 4000000
namespace Toy
open PySem L2 Sh ShL LamX NdefX
/-! ### nested literals -/
mutual
inductive Ltr
  | s (z : Str)
  | i (n : Int)
  | b (x : Bool)
  | v (k : Nat) (x : V)
  | t (xs : Ltrs)
  | l (xs : Ltrs)
inductive Ltrs
  | nl
  | cn (x : Ltr) (xs : Ltrs)
end
def Ltrs.len : Ltrs → Nat
  | .nl => 0
  | .cn _ xs => xs.len + 1
mutual
def Ltr.te : Ltr → TE
  | .s z => tC (.str z)
  | .i n => tC (.int n)
  | .b x => tC (.bl x)
  | .v k _ => tVar k
  | .t xs => tTup xs.ta
  | .l xs => tLst xs.ta
def Ltrs.ta : Ltrs → TA
  | .nl => tNil
  | .cn x xs => tCons x.te xs.ta
end
mutual
def LtAt (H : Hp) : Ltr → V → Prop
  | .s z, u => u = .str z
  | .i n, u => u = .int n
  | .b x, u => u = .bl x
  | .v _ x, u => u = x
  | .t xs, u => ∃ p ys, u = .ref p ∧ H p = some (.tup ys) ∧ LtAll H xs ys
  | .l xs, u => ∃ p ys, u = .ref p ∧ H p = some (.lst ys) ∧ LtAll H xs ys
def LtAll (H : Hp) : Ltrs → List V → Prop
  | .nl, ys => ys = []
  | .cn x xs, ys => ∃ y zs, ys = y :: zs ∧ LtAt H x y ∧ LtAll H xs zs
end
mutual
def Ltr.fit (σ : L2.St) : Ltr → Prop
  | .s _ => True
  | .i _ => True
  | .b _ => True
  | .v k x => σ[k]? = some (some x)
  | .t xs => xs.len ≤ 15 ∧ xs.fit σ
  | .l xs => xs.len ≤ 15 ∧ xs.fit σ
def Ltrs.fit (σ : L2.St) : Ltrs → Prop
  | .nl => True
  | .cn x xs => x.fit σ ∧ xs.fit σ
end
/-- what is no dict is kept -/
def Kt (H H' : Hp) : Prop := ∀ b o, H b = some o → (∀ kvs, o ≠ .dK kvs) → H' b = some o
theorem Kt.of {H H' : Hp} (s : Same H H') : Kt H H' := fun b o h _ => s b o h
mutual
theorem LtAt.kt {H H' : Hp} (k : Kt H H') : ∀ {l : Ltr} {u : V}, LtAt H l u → LtAt H' l u
  | .s _, _, h => h
  | .i _, _, h => h
  | .b _, _, h => h
  | .v _ _, _, h => h
  | .t _, _, ⟨p, ys, e, h1, h2⟩ => ⟨p, ys, e, k _ _ h1 (fun _ z => by cases z), LtAll.kt k h2⟩
  | .l _, _, ⟨p, ys, e, h1, h2⟩ => ⟨p, ys, e, k _ _ h1 (fun _ z => by cases z), LtAll.kt k h2⟩
theorem LtAll.kt {H H' : Hp} (k : Kt H H') : ∀ {l : Ltrs} {ys : List V}, LtAll H l ys → LtAll H' l ys
  | .nl, _, h => h
  | .cn _ _, _, ⟨y, zs, e, h1, h2⟩ => ⟨y, zs, e, LtAt.kt k h1, LtAll.kt k h2⟩
end
mutual
theorem Ltr.run : ∀ {l : Ltr} {σ : L2.St} {H : Hp} {Q : VK}, l.fit σ → (∀ v H', Same H H' → LtAt H' l v → Q v H') → l.te σ H Q
  | .s _, _, H, _, _, q => q _ H (Same.refl _) rfl
  | .i _, _, H, _, _, q => q _ H (Same.refl _) rfl
  | .b _, _, H, _, _, q => q _ H (Same.refl _) rfl
  | .v _ x, _, H, _, h, q => ⟨x, h, q _ H (Same.refl _) rfl⟩
  | .t _, _, _, _, ⟨h1, h2⟩, q => Ltrs.run h2 fun vs H1 s1 hl a => ⟨Nat.le_trans (hl ▸ h1) (by decide), fun p hp => q _ _ (s1.trans (same_upd hp)) ⟨p, vs, rfl, upd_same, a.kt (Kt.of (same_upd hp))⟩⟩
  | .l _, _, _, _, ⟨h1, h2⟩, q => Ltrs.run h2 fun vs H1 s1 hl a => ⟨Nat.le_trans (hl ▸ h1) (by decide), fun p hp => q _ _ (s1.trans (same_upd hp)) ⟨p, vs, rfl, upd_same, a.kt (Kt.of (same_upd hp))⟩⟩
theorem Ltrs.run : ∀ {l : Ltrs} {σ : L2.St} {H : Hp} {Q : List V → Hp → Prop}, l.fit σ → (∀ vs H', Same H H' → vs.length = l.len → LtAll H' l vs → Q vs H') → l.ta σ H Q
  | .nl, _, H, _, _, q => q [] H (Same.refl _) rfl rfl
  | .cn _ _, _, _, _, ⟨h1, h2⟩, q => Ltr.run h1 fun y H1 s1 a => Ltrs.run h2 fun zs H2 s2 hl b => q (y :: zs) H2 (s1.trans s2) (congrArg (· + 1) hl) ⟨y, zs, rfl, a.kt (Kt.of s2), b⟩
end
theorem Ltr.go {l : Ltr} {te : TE} {σ : L2.St} {H : Hp} {Q : VK} (e : l.te = te) (f : l.fit σ) (q : ∀ v H', Same H H' → LtAt H' l v → Q v H') : te σ H Q := e ▸ Ltr.run f q
theorem Ltrs.go {l : Ltrs} {ta : TA} {σ : L2.St} {H : Hp} {Q : List V → Hp → Prop} (e : l.ta = ta) (f : l.fit σ) (q : ∀ vs H', Same H H' → vs.length = l.len → LtAll H' l vs → Q vs H') : ta σ H Q := e ▸ Ltrs.run f q
theorem none_of {H H' : Hp} {D : Addr} (s : Same H H') (h : H' D = none) : H D = none := by
  cases e : H D with
  | none => rfl
  | some o => rw [s _ _ e] at h; cases h
theorem dputI {td ty tv : TE} {u : TS} {D : Ends} {σ : L2.St} {H : Hp} (h : tv σ H fun v H1 => td σ H1 fun x H2 => ty σ H2 fun y H3 => ∃ a H4, x = .ref a ∧ DPut H3 a y v H4 ∧ u D σ H4) : tSeq (sDPut td ty tv) u D σ H := h
theorem parI {i j : Nat} {ta : TA} {u : TS} {D : Ends} {σ : L2.St} {H : Hp} (h : ta σ H fun vs H1 => ∃ v w, vs = [v, w] ∧ u D ((σ.set i (some v)).set j (some w)) H1) : tSeq (tPar i j ta) u D σ H := h
theorem dispH {trs : List (TE × TE)} {σ : L2.St} {H : Hp} {Q : VK} (h : ∀ p, H p = none → tPairs trs σ (upd H p (.dK [])) fun ps H2 => H2 p = some (.dK []) ∧ ∃ kvs : List (Key × V), ps = kvs.map (fun kv => (kV kv.1, kv.2)) ∧ kvs.length ≤ 15 ∧ Q (.ref p) (upd H2 p (.dK (mergeK [] kvs)))) : tDisp trs σ H Q := h
theorem dispI {trs : List (TE × TE)} {σ : L2.St} {H : Hp} {D : Addr} {R : List (V × V) → Hp → Prop} (hD : H D = none) (h : ∀ H1, Same H H1 → H1 D = some (.dK []) → tPairs trs σ H1 R) : tPairs trs σ (upd H D (.dK [])) R := h _ (same_upd hD) upd_same
theorem pairC {k : V} {tv : TE} {r : List (TE × TE)} {σ : L2.St} {H : Hp} {R : List (V × V) → Hp → Prop} (h : tv σ H fun y H2 => tPairs r σ H2 fun ps H3 => R ((k, y) :: ps) H3) : tPairs ((tC k, tv) :: r) σ H R := h
def DD (H : Hp) (D : Addr) (n : Nat) (l : List (Str × V)) : Prop := ∃ kvs : List (Key × V), H D = some (.dK kvs) ∧ kvs.length ≤ n ∧ ∀ p ∈ l, valV kvs (.inr p.1) = some p.2
theorem DD.same {H H' : Hp} {D : Addr} {n : Nat} {l : List (Str × V)} (s : Same H H') (h : DD H D n l) : DD H' D n l := let ⟨kvs, h1, h2⟩ := h; ⟨kvs, s _ _ h1, h2⟩
theorem DD.tl {H : Hp} {D : Addr} {n : Nat} {p : Str × V} {l : List (Str × V)} (h : DD H D n (p :: l)) : DD H D n l := let ⟨kvs, h1, h2, h3⟩ := h; ⟨kvs, h1, h2, fun q hq => h3 q (List.mem_cons_of_mem _ hq)⟩
theorem DD.sub {H : Hp} {D : Addr} {n : Nat} {l l' : List (Str × V)} (h : DD H D n l') (hs : ∀ p ∈ l, p ∈ l') : DD H D n l := let ⟨kvs, h1, h2, h3⟩ := h; ⟨kvs, h1, h2, fun q hq => h3 q (hs q hq)⟩
theorem kt_put {H : Hp} {D : Addr} {kvs : List (Key × V)} {o : HO} (h : H D = some (.dK kvs)) : Kt H (upd H D o) := fun b u hb n => by
  rw [upd_ne fun z => n kvs (by rw [z, h] at hb; exact (Option.some.inj hb).symm)]
  exact hb
theorem same_put {H0 H : Hp} {D : Addr} {o : HO} (h0 : H0 D = none) (s : Same H0 H) : Same H0 (upd H D o) := fun b u hb => by
  rw [upd_ne (ne_of_none hb h0)]
  exact s _ _ hb
theorem DD.put {H0 H : Hp} {D : Addr} {n : Nat} {l : List (Str × V)} (h : DD H D n l) {k : Str} (v : V) (h0 : H0 D = none) (s : Same H0 H) (hn : n < 100) (ne : ∀ p ∈ l, ¬ p.1 = k) : ∃ H', DPut H D (.str k) v H' ∧ DD H' D (n + 1) ((k, v) :: l) ∧ Kt H H' ∧ Same H0 H' := by
  obtain ⟨kvs, h1, h2, h3⟩ := h
  refine ⟨_, DPut.k (k := .inr k) h1 (Nat.lt_of_le_of_lt h2 (Nat.lt_trans hn (by decide))), ⟨_, upd_same, Nat.le_trans (show (putK kvs (Sum.inr k) v).length ≤ kvs.length + 1 from ?_) (Nat.succ_le_succ h2), fun p hp => ?_⟩, kt_put h1, same_put h0 s⟩
  · unfold putK
    split <;> simp
  · rw [valV_put]
    rcases List.mem_cons.mp hp with rfl | hp
    · rw [if_pos rfl]
    · rw [if_neg fun z => ne p hp (Sum.inr.inj z)]
      exact h3 p hp
theorem DD.two {H0 H1 : Hp} {D : Addr} {k1 k2 : Str} {v1 v2 : V} (e : H1 D = some (.dK [])) (h0 : H0 D = none) (s : Same H0 H1) (ne : ¬ k1 = k2) : DD (upd H1 D (.dK (mergeK [] [(.inr k1, v1), (.inr k2, v2)]))) D 2 [(k1, v1), (k2, v2)] ∧ Kt H1 (upd H1 D (.dK (mergeK [] [(.inr k1, v1), (.inr k2, v2)]))) ∧ Same H0 (upd H1 D (.dK (mergeK [] [(.inr k1, v1), (.inr k2, v2)]))) := by
  have em : mergeK [] [((.inr k1 : Key), v1), (.inr k2, v2)] = [(.inr k1, v1), (.inr k2, v2)] := by
    show putK (putK ([] : List (Key × V)) (.inr k1) v1) (.inr k2) v2 = _
    rw [show putK ([] : List (Key × V)) (.inr k1) v1 = [(.inr k1, v1)] from rfl]
    exact putK_new _ ((valV_neg (ki ne)).trans valV_nil)
  rw [em]
  refine ⟨⟨_, upd_same, Nat.le_refl _, fun p hp => ?_⟩, kt_put e, same_put h0 s⟩
  rcases List.mem_cons.mp hp with rfl | hp
  · exact valV_pos rfl
  · rw [List.mem_singleton.mp hp]
    exact (valV_neg (ki ne)).trans (valV_pos rfl)
/-! ### the usual routines -/
def UsV (K : PySem.W.Frag) (H : Hp) (v : V) : Prop := ∃ (d t u : Blk) (p a b c : Addr) (xa xb xc : List V), v = .ref p ∧ H p = some (.tup [.ref a, .ref b, .ref c]) ∧ H a = some (.lst xa) ∧ BlkV (Sq K) H d xa ∧ H b = some (.lst xb) ∧ BlkV (Sq K) H t xb ∧ H c = some (.lst xc) ∧ BlkV (Sq K) H u xc ∧ Fit d t u
theorem lt_sq {K : PySem.W.Frag} {H : Hp} {p : Addr} {xs : List V} (h : H p = some (.tup xs)) : Sq K H p xs := .inr (SqU.of h)
theorem lt_sl {K : PySem.W.Frag} {H : Hp} {p : Addr} {xs : List V} (h : H p = some (.lst xs)) : Sq K H p xs := .inl (SqL.of h)
section
variable {K : PySem.W.Frag} {H : Hp} {v : V}
theorem lt1 {z : Str} (h : LtAt H (.t (.cn (.s z) .nl)) v) : ∃ q, v = .ref q ∧ Sq K H q [.str z] := by
  obtain ⟨p, _, rfl, e, x, _, rfl, rfl, rfl⟩ := h
  exact ⟨p, rfl, lt_sq e⟩
theorem lt2 {z y : Str} (h : LtAt H (.t (.cn (.s z) (.cn (.s y) .nl))) v) : ∃ q, v = .ref q ∧ Sq K H q [.str z, .str y] := by
  obtain ⟨p, _, rfl, e, x, _, rfl, rfl, x2, _, rfl, rfl, rfl⟩ := h
  exact ⟨p, rfl, lt_sq e⟩
theorem ltNo {T : Ltr} {t : Tst} (h : LtAt H (.t (.cn (.s "not") (.cn T .nl))) v) (k : ∀ u, LtAt H T u → TstAt (Sq K) H t u) : TstAt (Sq K) H (.no t) v := by
  obtain ⟨p, _, rfl, e, x, _, rfl, rfl, y, _, rfl, ht, rfl⟩ := h
  exact ⟨p, y, rfl, lt_sq e, k _ ht⟩
theorem ltOr {T U : Ltr} {t u : Tst} (h : LtAt H (.t (.cn (.s "or") (.cn T (.cn U .nl)))) v) (k : ∀ u, LtAt H T u → TstAt (Sq K) H t u) (k2 : ∀ y, LtAt H U y → TstAt (Sq K) H u y) : TstAt (Sq K) H (.bin false t u) v := by
  obtain ⟨p, _, rfl, e, x, _, rfl, rfl, y, _, rfl, ht, y2, _, rfl, hu, rfl⟩ := h
  exact ⟨p, y, y2, rfl, lt_sq e, k _ ht, k2 _ hu⟩
def IfV (K : PySem.W.Frag) (H : Hp) (t : Tst) (a b : Blk) (v : V) : Prop := ∃ q tv pa pb xa xb, v = .ref q ∧ Sq K H q [.str "if", tv, .ref pa, .ref pb] ∧ TstAt (Sq K) H t tv ∧ Sq K H pa xa ∧ BlkV (Sq K) H a xa ∧ Sq K H pb xb ∧ BlkV (Sq K) H b xb
theorem ltIf {T : Ltr} {A B : Ltrs} {t : Tst} {a b : Blk} (h : LtAt H (.t (.cn (.s "if") (.cn T (.cn (.l A) (.cn (.l B) .nl))))) v) (k : ∀ u, LtAt H T u → TstAt (Sq K) H t u) (k2 : ∀ ys, LtAll H A ys → BlkV (Sq K) H a ys) (k3 : ∀ ys, LtAll H B ys → BlkV (Sq K) H b ys) : IfV K H t a b v := by
  obtain ⟨p, _, rfl, e, x, _, rfl, rfl, y, _, rfl, ht, y2, _, rfl, ⟨pa, xa, rfl, ea, ha⟩, y3, _, rfl, ⟨pb, xb, rfl, eb, hb⟩, rfl⟩ := h
  exact ⟨p, y, pa, pb, xa, xb, rfl, lt_sq e, k _ ht, lt_sl ea, k2 _ ha, lt_sl eb, k3 _ hb⟩
theorem blkI {t : Tst} {a b r : Blk} {ws : List V} (h : IfV K H t a b v) (hr : BlkV (Sq K) H r ws) : BlkV (Sq K) H (.ife t a b r) (v :: ws) := by
  obtain ⟨q, tv, pa, pb, xa, xb, rfl, h1, h2, h3, h4, h5, h6⟩ := h
  exact ⟨q, tv, pa, pb, xa, xb, ws, rfl, h1, h2, h3, h4, h5, h6, hr⟩
theorem blkP {p : Pl} {r : Blk} {ws : List V} (h : ∃ q, v = .ref q ∧ Sq K H q p.vs) (hr : BlkV (Sq K) H r ws) : BlkV (Sq K) H (.st p r) (v :: ws) := by
  obtain ⟨q, rfl, h1⟩ := h
  exact ⟨q, ws, rfl, h1, hr⟩
theorem ltUs {A B C : Ltrs} {d t u : Blk} (h : LtAt H (.t (.cn (.l A) (.cn (.l B) (.cn (.l C) .nl)))) v) (k1 : ∀ ys, LtAll H A ys → BlkV (Sq K) H d ys) (k2 : ∀ ys, LtAll H B ys → BlkV (Sq K) H t ys) (k3 : ∀ ys, LtAll H C ys → BlkV (Sq K) H u ys) (f : Fit d t u) : UsV K H v := by
  obtain ⟨p, _, rfl, e, x, _, rfl, ⟨pa, xa, rfl, ea, ha⟩, x2, _, rfl, ⟨pb, xb, rfl, eb, hb⟩, x3, _, rfl, ⟨pc, xc, rfl, ec, hc⟩, rfl⟩ := h
  exact ⟨d, t, u, p, pa, pb, pc, xa, xb, xc, rfl, e, ea, k1 _ ha, eb, k2 _ hb, ec, k3 _ hc, f⟩
theorem nilB : ∀ ys, LtAll H .nl ys → BlkV (Sq K) H .nil ys := fun ys h => h
end
def usualNames : List Str := ["has", "put", "longest"]
def spUsual (K : PySem.W.Frag) : Sp := fun vs H Q _ => ∃ z : Str, vs = [.str z] ∧ z ∈ usualNames ∧ ∀ H' v, Same H H' → UsV K H' v → Q v H'
section
variable {P : Program} {w : World} {K : PySem.W.Frag} {mg : Str → Option Value} {base : Heap}
theorem ok_l_usual (T : Tx P w K mg) (B : Bx T base) : FnOk P w K mg base CX0 1 T.a_l_usual T.fd_l_usual ["_law_name"] (spUsual K) := by
  refine okT T.F_l_usual sc_l_usual (fun vs H Q E h => ?_) (fun cdv A outer s H vs Q E hcd hr h => ?_)
  · obtain ⟨z, rfl, _⟩ := h
    rfl
  have hu := hu_of hr
  have hu65 := hu65_of hr
  obtain ⟨z, rfl, hz, fin⟩ := h
  refine ⟨_, (pss_cons (ps_set (i := 1) sc_l_usual.nd rfl (by first | exact Or.inl rfl | exact Or.inr rfl) (pe_tup (pa_cons pe_str (pa_cons (pe_tup (pa_cons pe_str (pa_cons (pe_tup (pa_cons pe_str (pa_cons (pe_tup (pa_cons pe_str pa_nil)) pa_nil))) (pa_cons (pe_tup (pa_cons pe_str (pa_cons (pe_tup (pa_cons pe_str pa_nil)) pa_nil))) pa_nil)))) (pa_cons (pe_lst (pa_cons (pe_tup (pa_cons pe_str (pa_cons pe_str pa_nil))) pa_nil)) (pa_cons (pe_lst pa_nil) pa_nil))))))
 (pss_cons (ps_set (i := 2) sc_l_usual.nd rfl (by first | exact Or.inl rfl | exact Or.inr rfl) (pe_tup (pa_cons pe_str (pa_cons (pe_tup (pa_cons pe_str (pa_cons (pe_tup (pa_cons pe_str pa_nil)) (pa_cons (pe_tup (pa_cons pe_str pa_nil)) pa_nil)))) (pa_cons (pe_tup (pa_cons pe_str (pa_cons (pe_tup (pa_cons pe_str (pa_cons pe_int pa_nil))) pa_nil))) pa_nil)))))
 (pss_cons (ps_set (i := 3) sc_l_usual.nd rfl (by first | exact Or.inl rfl | exact Or.inr rfl) (pe_tup (pa_cons pe_str (pa_cons (pe_tup (pa_cons pe_str (pa_cons (pe_tup (pa_cons pe_str pa_nil)) (pa_cons (pe_tup (pa_cons pe_str (pa_cons (pe_tup (pa_cons pe_str (pa_cons pe_int pa_nil))) pa_nil))) pa_nil)))) (pa_cons (pe_lst (pa_cons (pe_tup (pa_cons pe_str (pa_cons pe_str pa_nil))) pa_nil)) (pa_cons (pe_lst pa_nil) pa_nil))))))
 (pss_cons (ps_par (i := 4) (j := 5) (by rfl) sc_l_usual.nd rfl rfl (by decide) rfl rfl (pa_cons (pe_tup (pa_cons pe_str (pa_cons (pe_tup (pa_cons pe_str (pa_cons (pe_tup (pa_cons pe_str pa_nil)) pa_nil))) (pa_cons (pe_lst (pa_cons (pe_tup (pa_cons pe_str pa_nil)) pa_nil)) (pa_cons (pe_lst pa_nil) pa_nil))))) (pa_cons (pe_tup (pa_cons pe_str (pa_cons (pe_tup (pa_cons pe_str pa_nil)) (pa_cons (pe_lst (pa_cons (pe_tup (pa_cons pe_str pa_nil)) pa_nil)) (pa_cons (pe_lst pa_nil) pa_nil))))) pa_nil)) (by rfl))
 (pss_cons (ps_asg (pe_tup (pa_cons (pe_tup (pa_cons pe_str (pa_cons pe_str pa_nil))) (pa_cons (pe_tup (pa_cons pe_str (pa_cons pe_str pa_nil))) (pa_cons (pe_tup (pa_cons pe_str (pa_cons (pe_tup (pa_cons pe_str (pa_cons (pe_tup (pa_cons pe_str pa_nil)) pa_nil))) (pa_cons (pe_tup (pa_cons pe_str (pa_cons pe_int pa_nil))) pa_nil)))) pa_nil)))) (pg_tup rfl (pgs_cons (pg_name (i := 6) sc_l_usual.nd rfl (by first | exact Or.inl rfl | exact Or.inr rfl)) (pgs_cons (pg_name (i := 7) sc_l_usual.nd rfl (by first | exact Or.inl rfl | exact Or.inr rfl)) (pgs_cons (pg_name (i := 8) sc_l_usual.nd rfl (by first | exact Or.inl rfl | exact Or.inr rfl)) pgs_nil)))))
 (pss_cons (ps_set (i := 9) sc_l_usual.nd rfl (by first | exact Or.inl rfl | exact Or.inr rfl) (pe_tup (pa_cons pe_str (pa_cons (pe_tup (pa_cons pe_str (pa_cons (pe_tup (pa_cons pe_str pa_nil)) pa_nil))) (pa_cons (pe_tup (pa_cons pe_str (pa_cons (pe_tup (pa_cons pe_str pa_nil)) (pa_cons (pv 8) pa_nil)))) pa_nil)))))
 (pss_cons (ps_set (i := 10) sc_l_usual.nd rfl (by first | exact Or.inl rfl | exact Or.inr rfl) (pe_disp (pps_cons pe_str (pe_tup (pa_cons (pe_lst pa_nil) (pa_cons (pe_lst (pa_cons (pv 1) (pa_cons (pv 6) pa_nil))) (pa_cons (pe_lst pa_nil) pa_nil)))) (pps_cons pe_str (pe_tup (pa_cons (pe_lst pa_nil) (pa_cons (pe_lst (pa_cons (pv 1) (pa_cons (pe_tup (pa_cons pe_str (pa_cons pe_str pa_nil))) pa_nil))) (pa_cons (pe_lst pa_nil) pa_nil)))) pps_nil)) (by rfl) (by rfl) (fun z => by cases z) (by decide)))
 (pss_cons (ps_dput hu (pv 10) pe_str (pe_tup (pa_cons (pe_lst (pa_cons (pv 4) pa_nil)) (pa_cons (pe_lst (pa_cons (pe_tup (pa_cons pe_str (pa_cons (pe_tup (pa_cons pe_str pa_nil)) (pa_cons (pe_lst (pa_cons (pv 7) pa_nil)) (pa_cons (pe_lst pa_nil) pa_nil))))) (pa_cons (pe_tup (pa_cons pe_str pa_nil)) (pa_cons (pv 6) pa_nil)))) (pa_cons (pe_lst pa_nil) pa_nil)))) rfl)
 (pss_cons (ps_dput hu (pv 10) pe_str (pe_tup (pa_cons (pe_lst (pa_cons (pv 4) pa_nil)) (pa_cons (pe_lst (pa_cons (pe_tup (pa_cons pe_str (pa_cons (pe_tup (pa_cons pe_str pa_nil)) (pa_cons (pe_lst (pa_cons (pv 7) pa_nil)) (pa_cons (pe_lst pa_nil) pa_nil))))) (pa_cons (pe_tup (pa_cons pe_str pa_nil)) (pa_cons (pv 6) pa_nil)))) (pa_cons (pe_lst pa_nil) pa_nil)))) rfl)
 (pss_cons (ps_dput hu (pv 10) pe_str (pe_tup (pa_cons (pe_lst pa_nil) (pa_cons (pe_lst (pa_cons (pv 1) (pa_cons (pe_tup (pa_cons pe_str pa_nil)) (pa_cons (pv 3) pa_nil)))) (pa_cons (pe_lst (pa_cons (pe_tup (pa_cons pe_str pa_nil)) (pa_cons (pe_tup (pa_cons pe_str (pa_cons (pv 2) (pa_cons (pe_lst (pa_cons (pv 6) pa_nil)) (pa_cons (pe_lst pa_nil) pa_nil))))) pa_nil))) pa_nil)))) rfl)
 (pss_cons (ps_dput hu (pv 10) pe_str (pe_tup (pa_cons (pe_lst pa_nil) (pa_cons (pe_lst (pa_cons (pv 1) (pa_cons (pe_tup (pa_cons pe_str pa_nil)) (pa_cons (pv 6) pa_nil)))) (pa_cons (pe_lst pa_nil) pa_nil)))) rfl)
 (pss_cons (ps_dput hu (pv 10) pe_str (pe_tup (pa_cons (pe_lst pa_nil) (pa_cons (pe_lst (pa_cons (pe_tup (pa_cons pe_str (pa_cons (pv 9) (pa_cons (pe_lst (pa_cons (pv 7) pa_nil)) (pa_cons (pe_lst pa_nil) pa_nil))))) (pa_cons (pv 6) pa_nil))) (pa_cons (pe_lst pa_nil) pa_nil)))) rfl)
 (pss_cons (ps_dput hu (pv 10) pe_str (pe_tup (pa_cons (pe_lst (pa_cons (pv 5) pa_nil)) (pa_cons (pe_lst (pa_cons (pv 5) (pa_cons (pe_tup (pa_cons pe_str (pa_cons pe_str pa_nil))) pa_nil))) (pa_cons (pe_lst pa_nil) pa_nil)))) rfl)
 (pss_cons (ps_dput hu (pv 10) pe_str (pe_tup (pa_cons (pe_lst pa_nil) (pa_cons (pe_lst (pa_cons (pe_tup (pa_cons pe_str (pa_cons (pe_tup (pa_cons pe_str pa_nil)) (pa_cons (pe_lst (pa_cons (pe_tup (pa_cons pe_str pa_nil)) pa_nil)) (pa_cons (pe_lst pa_nil) pa_nil))))) pa_nil)) (pa_cons (pe_lst (pa_cons (pe_tup (pa_cons pe_str pa_nil)) pa_nil)) pa_nil)))) rfl)
 (pss_cons (ps_dput hu (pv 10) pe_str (pe_tup (pa_cons (pe_lst (pa_cons (pe_tup (pa_cons pe_str (pa_cons (pe_tup (pa_cons pe_str pa_nil)) (pa_cons (pe_lst (pa_cons (pe_tup (pa_cons pe_str (pa_cons pe_bl pa_nil))) pa_nil)) (pa_cons (pe_lst pa_nil) pa_nil))))) pa_nil)) (pa_cons (pe_lst (pa_cons (pe_tup (pa_cons pe_str (pa_cons pe_str pa_nil))) pa_nil)) (pa_cons (pe_lst pa_nil) pa_nil)))) rfl)
 (pss_cons (ps_set (i := 11) sc_l_usual.nd rfl (by first | exact Or.inl rfl | exact Or.inr rfl) (pe_tup (pa_cons pe_str (pa_cons (pe_tup (pa_cons pe_str pa_nil)) (pa_cons (pe_lst (pa_cons (pe_tup (pa_cons pe_str pa_nil)) pa_nil)) (pa_cons (pe_lst pa_nil) pa_nil))))))
 (pss_cons (ps_asg (pe_tup (pa_cons (pe_tup (pa_cons (pe_lst (pa_cons (pv 11) pa_nil)) (pa_cons (pe_lst (pa_cons (pe_tup (pa_cons pe_str (pa_cons pe_str pa_nil))) pa_nil)) (pa_cons (pe_lst pa_nil) pa_nil)))) (pa_cons (pe_tup (pa_cons (pe_lst pa_nil) (pa_cons (pe_lst pa_nil) (pa_cons (pe_lst (pa_cons (pv 11) (pa_cons (pe_tup (pa_cons pe_str (pa_cons pe_bl pa_nil))) pa_nil))) pa_nil)))) pa_nil))) (pg_tup rfl (pgs_cons (pg_sub (pv 10) pe_str (set_dict hu)) (pgs_cons (pg_sub (pv 10) pe_str (set_dict hu)) pgs_nil))))
 (pss_cons (ps_dput hu (pv 10) pe_str (pe_tup (pa_cons (pe_lst (pa_cons (pe_tup (pa_cons pe_str pa_nil)) pa_nil)) (pa_cons (pe_lst (pa_cons (pe_tup (pa_cons pe_str pa_nil)) (pa_cons (pv 6) pa_nil))) (pa_cons (pe_lst pa_nil) pa_nil)))) rfl)
 (pss_one (ps_ret (pe_dget hu (pv 10) (pv 0) (fun _ _ => rfl)))))))))))))))))))))), ?_⟩
  have sN : Same H H := Same.refl _
  refine asgI (Ltr.go (l := .t (.cn (.s "if") (.cn (.t (.cn (.s "or") (.cn (.t (.cn (.s "not") (.cn (.t (.cn (.s "ends") (.nl))) (.nl)))) (.cn (.t (.cn (.s "not") (.cn (.t (.cn (.s "mark") (.nl))) (.nl)))) (.nl))))) (.cn (.l (.cn (.t (.cn (.s "return") (.cn (.s "no") (.nl)))) (.nl))) (.cn (.l (.nl)) (.nl)))))) rfl ⟨Nat.le_of_ble_eq_true rfl, ⟨trivial, ⟨⟨Nat.le_of_ble_eq_true rfl, ⟨trivial, ⟨⟨Nat.le_of_ble_eq_true rfl, ⟨trivial, ⟨⟨Nat.le_of_ble_eq_true rfl, ⟨trivial, trivial⟩⟩, trivial⟩⟩⟩, ⟨⟨Nat.le_of_ble_eq_true rfl, ⟨trivial, ⟨⟨Nat.le_of_ble_eq_true rfl, ⟨trivial, trivial⟩⟩, trivial⟩⟩⟩, trivial⟩⟩⟩⟩, ⟨⟨Nat.le_of_ble_eq_true rfl, ⟨⟨Nat.le_of_ble_eq_true rfl, ⟨trivial, ⟨trivial, trivial⟩⟩⟩, trivial⟩⟩, ⟨⟨Nat.le_of_ble_eq_true rfl, trivial⟩, trivial⟩⟩⟩⟩⟩ fun v1 H1 s1 a1 => ?_)
  dsimp only [gName]
  have sN := sN.trans s1
  refine asgI (Ltr.go (l := .t (.cn (.s "or") (.cn (.t (.cn (.s "or") (.cn (.t (.cn (.s "root") (.nl))) (.cn (.t (.cn (.s "mark") (.nl))) (.nl))))) (.cn (.t (.cn (.s "not") (.cn (.t (.cn (.s "others") (.cn (.i 0) (.nl)))) (.nl)))) (.nl))))) rfl ⟨Nat.le_of_ble_eq_true rfl, ⟨trivial, ⟨⟨Nat.le_of_ble_eq_true rfl, ⟨trivial, ⟨⟨Nat.le_of_ble_eq_true rfl, ⟨trivial, trivial⟩⟩, ⟨⟨Nat.le_of_ble_eq_true rfl, ⟨trivial, trivial⟩⟩, trivial⟩⟩⟩⟩, ⟨⟨Nat.le_of_ble_eq_true rfl, ⟨trivial, ⟨⟨Nat.le_of_ble_eq_true rfl, ⟨trivial, ⟨trivial, trivial⟩⟩⟩, trivial⟩⟩⟩, trivial⟩⟩⟩⟩ fun v2 H1 s1 a2 => ?_)
  dsimp only [gName]
  have sN := sN.trans s1
  have a1 := a1.kt (Kt.of s1)
  refine asgI (Ltr.go (l := .t (.cn (.s "if") (.cn (.t (.cn (.s "or") (.cn (.t (.cn (.s "root") (.nl))) (.cn (.t (.cn (.s "not") (.cn (.t (.cn (.s "others") (.cn (.i 0) (.nl)))) (.nl)))) (.nl))))) (.cn (.l (.cn (.t (.cn (.s "return") (.cn (.s "yes") (.nl)))) (.nl))) (.cn (.l (.nl)) (.nl)))))) rfl ⟨Nat.le_of_ble_eq_true rfl, ⟨trivial, ⟨⟨Nat.le_of_ble_eq_true rfl, ⟨trivial, ⟨⟨Nat.le_of_ble_eq_true rfl, ⟨trivial, trivial⟩⟩, ⟨⟨Nat.le_of_ble_eq_true rfl, ⟨trivial, ⟨⟨Nat.le_of_ble_eq_true rfl, ⟨trivial, ⟨trivial, trivial⟩⟩⟩, trivial⟩⟩⟩, trivial⟩⟩⟩⟩, ⟨⟨Nat.le_of_ble_eq_true rfl, ⟨⟨Nat.le_of_ble_eq_true rfl, ⟨trivial, ⟨trivial, trivial⟩⟩⟩, trivial⟩⟩, ⟨⟨Nat.le_of_ble_eq_true rfl, trivial⟩, trivial⟩⟩⟩⟩⟩ fun v3 H1 s1 a3 => ?_)
  dsimp only [gName]
  have sN := sN.trans s1
  have a1 := a1.kt (Kt.of s1)
  have a2 := a2.kt (Kt.of s1)
  refine parI (Ltrs.go (l := .cn (.t (.cn (.s "if") (.cn (.t (.cn (.s "not") (.cn (.t (.cn (.s "next") (.nl))) (.nl)))) (.cn (.l (.cn (.t (.cn (.s "make") (.nl))) (.nl))) (.cn (.l (.nl)) (.nl)))))) (.cn (.t (.cn (.s "if") (.cn (.t (.cn (.s "mark") (.nl))) (.cn (.l (.cn (.t (.cn (.s "keep") (.nl))) (.nl))) (.cn (.l (.nl)) (.nl)))))) (.nl))) rfl ⟨⟨Nat.le_of_ble_eq_true rfl, ⟨trivial, ⟨⟨Nat.le_of_ble_eq_true rfl, ⟨trivial, ⟨⟨Nat.le_of_ble_eq_true rfl, ⟨trivial, trivial⟩⟩, trivial⟩⟩⟩, ⟨⟨Nat.le_of_ble_eq_true rfl, ⟨⟨Nat.le_of_ble_eq_true rfl, ⟨trivial, trivial⟩⟩, trivial⟩⟩, ⟨⟨Nat.le_of_ble_eq_true rfl, trivial⟩, trivial⟩⟩⟩⟩⟩, ⟨⟨Nat.le_of_ble_eq_true rfl, ⟨trivial, ⟨⟨Nat.le_of_ble_eq_true rfl, ⟨trivial, trivial⟩⟩, ⟨⟨Nat.le_of_ble_eq_true rfl, ⟨⟨Nat.le_of_ble_eq_true rfl, ⟨trivial, trivial⟩⟩, trivial⟩⟩, ⟨⟨Nat.le_of_ble_eq_true rfl, trivial⟩, trivial⟩⟩⟩⟩⟩, trivial⟩⟩ fun vs2 H1 s1 _ aa => ?_)
  obtain ⟨v4, _, rfl, a4, v5, _, rfl, a5, rfl⟩ := aa
  refine ⟨_, _, rfl, ?_⟩
  have sN := sN.trans s1
  have a1 := a1.kt (Kt.of s1)
  have a2 := a2.kt (Kt.of s1)
  have a3 := a3.kt (Kt.of s1)
  refine asgI (Ltr.go (l := .t (.cn (.t (.cn (.s "return") (.cn (.s "yes") (.nl)))) (.cn (.t (.cn (.s "return") (.cn (.s "no") (.nl)))) (.cn (.t (.cn (.s "and") (.cn (.t (.cn (.s "not") (.cn (.t (.cn (.s "mark") (.nl))) (.nl)))) (.cn (.t (.cn (.s "others") (.cn (.i 0) (.nl)))) (.nl))))) (.nl))))) rfl ⟨Nat.le_of_ble_eq_true rfl, ⟨⟨Nat.le_of_ble_eq_true rfl, ⟨trivial, ⟨trivial, trivial⟩⟩⟩, ⟨⟨Nat.le_of_ble_eq_true rfl, ⟨trivial, ⟨trivial, trivial⟩⟩⟩, ⟨⟨Nat.le_of_ble_eq_true rfl, ⟨trivial, ⟨⟨Nat.le_of_ble_eq_true rfl, ⟨trivial, ⟨⟨Nat.le_of_ble_eq_true rfl, ⟨trivial, trivial⟩⟩, trivial⟩⟩⟩, ⟨⟨Nat.le_of_ble_eq_true rfl, ⟨trivial, ⟨trivial, trivial⟩⟩⟩, trivial⟩⟩⟩⟩, trivial⟩⟩⟩⟩ fun v0 H1 s1 a0 => ?_)
  obtain ⟨p0, _, rfl, e0, a0⟩ := a0
  obtain ⟨v6, _, rfl, a6, v7, _, rfl, a7, v8, _, rfl, a8, rfl⟩ := a0
  refine ⟨p0, _, rfl, .inl (.inl e0), rfl, _, _, rfl, _, _, rfl, _, _, rfl, rfl, ?_⟩
  have sN := sN.trans s1
  have a1 := a1.kt (Kt.of s1)
  have a2 := a2.kt (Kt.of s1)
  have a3 := a3.kt (Kt.of s1)
  have a4 := a4.kt (Kt.of s1)
  have a5 := a5.kt (Kt.of s1)
  refine asgI (Ltr.go (l := .t (.cn (.s "or") (.cn (.t (.cn (.s "not") (.cn (.t (.cn (.s "ends") (.nl))) (.nl)))) (.cn (.t (.cn (.s "and") (.cn (.t (.cn (.s "root") (.nl))) (.cn (.v 8 v8) (.nl))))) (.nl))))) rfl ⟨Nat.le_of_ble_eq_true rfl, ⟨trivial, ⟨⟨Nat.le_of_ble_eq_true rfl, ⟨trivial, ⟨⟨Nat.le_of_ble_eq_true rfl, ⟨trivial, trivial⟩⟩, trivial⟩⟩⟩, ⟨⟨Nat.le_of_ble_eq_true rfl, ⟨trivial, ⟨⟨Nat.le_of_ble_eq_true rfl, ⟨trivial, trivial⟩⟩, ⟨rfl, trivial⟩⟩⟩⟩, trivial⟩⟩⟩⟩ fun v9 H1 s1 a9 => ?_)
  dsimp only [gName]
  have sN := sN.trans s1
  have a1 := a1.kt (Kt.of s1)
  have a2 := a2.kt (Kt.of s1)
  have a3 := a3.kt (Kt.of s1)
  have a4 := a4.kt (Kt.of s1)
  have a5 := a5.kt (Kt.of s1)
  have a6 := a6.kt (Kt.of s1)
  have a7 := a7.kt (Kt.of s1)
  have a8 := a8.kt (Kt.of s1)
  refine asgI ?_
  refine dispH fun D hD => ?_
  have hD0 : H D = none := none_of sN hD
  refine dispI hD fun H1 s1 eD => ?_
  have sN := sN.trans s1
  have a1 := a1.kt (Kt.of s1)
  have a2 := a2.kt (Kt.of s1)
  have a3 := a3.kt (Kt.of s1)
  have a4 := a4.kt (Kt.of s1)
  have a5 := a5.kt (Kt.of s1)
  have a6 := a6.kt (Kt.of s1)
  have a7 := a7.kt (Kt.of s1)
  have a8 := a8.kt (Kt.of s1)
  have a9 := a9.kt (Kt.of s1)
  refine pairC (Ltr.go (l := .t (.cn (.l (.nl)) (.cn (.l (.cn (.v 1 v1) (.cn (.v 6 v6) (.nl)))) (.cn (.l (.nl)) (.nl))))) rfl ⟨Nat.le_of_ble_eq_true rfl, ⟨⟨Nat.le_of_ble_eq_true rfl, trivial⟩, ⟨⟨Nat.le_of_ble_eq_true rfl, ⟨rfl, ⟨rfl, trivial⟩⟩⟩, ⟨⟨Nat.le_of_ble_eq_true rfl, trivial⟩, trivial⟩⟩⟩⟩ fun w0 H1 s1 b0 => ?_)
  have sN := sN.trans s1
  have a1 := a1.kt (Kt.of s1)
  have a2 := a2.kt (Kt.of s1)
  have a3 := a3.kt (Kt.of s1)
  have a4 := a4.kt (Kt.of s1)
  have a5 := a5.kt (Kt.of s1)
  have a6 := a6.kt (Kt.of s1)
  have a7 := a7.kt (Kt.of s1)
  have a8 := a8.kt (Kt.of s1)
  have a9 := a9.kt (Kt.of s1)
  have eD := s1 _ _ eD
  refine pairC (Ltr.go (l := .t (.cn (.l (.nl)) (.cn (.l (.cn (.v 1 v1) (.cn (.t (.cn (.s "return") (.cn (.s "value") (.nl)))) (.nl)))) (.cn (.l (.nl)) (.nl))))) rfl ⟨Nat.le_of_ble_eq_true rfl, ⟨⟨Nat.le_of_ble_eq_true rfl, trivial⟩, ⟨⟨Nat.le_of_ble_eq_true rfl, ⟨rfl, ⟨⟨Nat.le_of_ble_eq_true rfl, ⟨trivial, ⟨trivial, trivial⟩⟩⟩, trivial⟩⟩⟩, ⟨⟨Nat.le_of_ble_eq_true rfl, trivial⟩, trivial⟩⟩⟩⟩ fun w1 H1 s1 b1 => ?_)
  have sN := sN.trans s1
  have a1 := a1.kt (Kt.of s1)
  have a2 := a2.kt (Kt.of s1)
  have a3 := a3.kt (Kt.of s1)
  have a4 := a4.kt (Kt.of s1)
  have a5 := a5.kt (Kt.of s1)
  have a6 := a6.kt (Kt.of s1)
  have a7 := a7.kt (Kt.of s1)
  have a8 := a8.kt (Kt.of s1)
  have a9 := a9.kt (Kt.of s1)
  have eD := s1 _ _ eD
  have b0 := b0.kt (Kt.of s1)
  refine ⟨eD, [(.inr "has", w0), (.inr "get", w1)], rfl, by show 2 ≤ 15; decide, ?_⟩
  obtain ⟨dd, kt1, s1⟩ := DD.two (k1 := "has") (k2 := "get") (v1 := w0) (v2 := w1) eD hD0 sN (by decide +kernel)
  dsimp only [gName]
  generalize upd _ D (.dK (mergeK [] [(.inr "has", w0), (.inr "get", w1)])) = H1 at dd kt1 s1 ⊢
  have sN := s1
  have a1 := a1.kt kt1
  have a2 := a2.kt kt1
  have a3 := a3.kt kt1
  have a4 := a4.kt kt1
  have a5 := a5.kt kt1
  have a6 := a6.kt kt1
  have a7 := a7.kt kt1
  have a8 := a8.kt kt1
  have a9 := a9.kt kt1
  have c_has := b0.kt kt1
  have dd := dd.sub (l := [("has", w0)]) (by intro p hp; simp at hp ⊢; simp [hp])
  refine dputI (Ltr.go (l := .t (.cn (.l (.cn (.v 4 v4) (.nl))) (.cn (.l (.cn (.t (.cn (.s "if") (.cn (.t (.cn (.s "mark") (.nl))) (.cn (.l (.cn (.v 7 v7) (.nl))) (.cn (.l (.nl)) (.nl)))))) (.cn (.t (.cn (.s "mark") (.nl))) (.cn (.v 6 v6) (.nl))))) (.cn (.l (.nl)) (.nl))))) rfl ⟨Nat.le_of_ble_eq_true rfl, ⟨⟨Nat.le_of_ble_eq_true rfl, ⟨rfl, trivial⟩⟩, ⟨⟨Nat.le_of_ble_eq_true rfl, ⟨⟨Nat.le_of_ble_eq_true rfl, ⟨trivial, ⟨⟨Nat.le_of_ble_eq_true rfl, ⟨trivial, trivial⟩⟩, ⟨⟨Nat.le_of_ble_eq_true rfl, ⟨rfl, trivial⟩⟩, ⟨⟨Nat.le_of_ble_eq_true rfl, trivial⟩, trivial⟩⟩⟩⟩⟩, ⟨⟨Nat.le_of_ble_eq_true rfl, ⟨trivial, trivial⟩⟩, ⟨rfl, trivial⟩⟩⟩⟩, ⟨⟨Nat.le_of_ble_eq_true rfl, trivial⟩, trivial⟩⟩⟩⟩ fun u0 H1 s1 b => ?_)
  have sN := sN.trans s1
  have a1 := a1.kt (Kt.of s1)
  have a2 := a2.kt (Kt.of s1)
  have a3 := a3.kt (Kt.of s1)
  have a4 := a4.kt (Kt.of s1)
  have a5 := a5.kt (Kt.of s1)
  have a6 := a6.kt (Kt.of s1)
  have a7 := a7.kt (Kt.of s1)
  have a8 := a8.kt (Kt.of s1)
  have a9 := a9.kt (Kt.of s1)
  have c_has := c_has.kt (Kt.of s1)
  have dd := dd.same s1
  obtain ⟨H1, pu, dd, kt1, s1⟩ := dd.put (k := "put") u0 hD0 sN (by decide) (List.forall_mem_cons.mpr ⟨show ¬ (("has" : Str) = "put") by decide +kernel, List.forall_mem_nil _⟩)
  refine ⟨_, rfl, _, H1, rfl, pu, ?_⟩
  have sN := s1
  have a1 := a1.kt kt1
  have a2 := a2.kt kt1
  have a3 := a3.kt kt1
  have a4 := a4.kt kt1
  have a5 := a5.kt kt1
  have a6 := a6.kt kt1
  have a7 := a7.kt kt1
  have a8 := a8.kt kt1
  have a9 := a9.kt kt1
  have c_has := c_has.kt kt1
  have c_put := b.kt kt1
  refine dputI (Ltr.go (l := .t (.cn (.l (.cn (.v 4 v4) (.nl))) (.cn (.l (.cn (.t (.cn (.s "if") (.cn (.t (.cn (.s "own") (.nl))) (.cn (.l (.cn (.v 7 v7) (.nl))) (.cn (.l (.nl)) (.nl)))))) (.cn (.t (.cn (.s "mark") (.nl))) (.cn (.v 6 v6) (.nl))))) (.cn (.l (.nl)) (.nl))))) rfl ⟨Nat.le_of_ble_eq_true rfl, ⟨⟨Nat.le_of_ble_eq_true rfl, ⟨rfl, trivial⟩⟩, ⟨⟨Nat.le_of_ble_eq_true rfl, ⟨⟨Nat.le_of_ble_eq_true rfl, ⟨trivial, ⟨⟨Nat.le_of_ble_eq_true rfl, ⟨trivial, trivial⟩⟩, ⟨⟨Nat.le_of_ble_eq_true rfl, ⟨rfl, trivial⟩⟩, ⟨⟨Nat.le_of_ble_eq_true rfl, trivial⟩, trivial⟩⟩⟩⟩⟩, ⟨⟨Nat.le_of_ble_eq_true rfl, ⟨trivial, trivial⟩⟩, ⟨rfl, trivial⟩⟩⟩⟩, ⟨⟨Nat.le_of_ble_eq_true rfl, trivial⟩, trivial⟩⟩⟩⟩ fun u1 H1 s1 b => ?_)
  have sN := sN.trans s1
  have a1 := a1.kt (Kt.of s1)
  have a2 := a2.kt (Kt.of s1)
  have a3 := a3.kt (Kt.of s1)
  have a4 := a4.kt (Kt.of s1)
  have a5 := a5.kt (Kt.of s1)
  have a6 := a6.kt (Kt.of s1)
  have a7 := a7.kt (Kt.of s1)
  have a8 := a8.kt (Kt.of s1)
  have a9 := a9.kt (Kt.of s1)
  have c_has := c_has.kt (Kt.of s1)
  have c_put := c_put.kt (Kt.of s1)
  have dd := dd.same s1
  obtain ⟨H1, pu, dd, kt1, s1⟩ := dd.put (k := "set") u1 hD0 sN (by decide) (List.forall_mem_cons.mpr ⟨show ¬ (("put" : Str) = "set") by decide +kernel, List.forall_mem_cons.mpr ⟨show ¬ (("has" : Str) = "set") by decide +kernel, List.forall_mem_nil _⟩⟩)
  refine ⟨_, rfl, _, H1, rfl, pu, ?_⟩
  have sN := s1
  have a1 := a1.kt kt1
  have a2 := a2.kt kt1
  have a3 := a3.kt kt1
  have a4 := a4.kt kt1
  have a5 := a5.kt kt1
  have a6 := a6.kt kt1
  have a7 := a7.kt kt1
  have a8 := a8.kt kt1
  have a9 := a9.kt kt1
  have c_has := c_has.kt kt1
  have c_put := c_put.kt kt1
  have dd := dd.tl
  refine dputI (Ltr.go (l := .t (.cn (.l (.nl)) (.cn (.l (.cn (.v 1 v1) (.cn (.t (.cn (.s "unmark") (.nl))) (.cn (.v 3 v3) (.nl))))) (.cn (.l (.cn (.t (.cn (.s "cut") (.nl))) (.cn (.t (.cn (.s "if") (.cn (.v 2 v2) (.cn (.l (.cn (.v 6 v6) (.nl))) (.cn (.l (.nl)) (.nl)))))) (.nl)))) (.nl))))) rfl ⟨Nat.le_of_ble_eq_true rfl, ⟨⟨Nat.le_of_ble_eq_true rfl, trivial⟩, ⟨⟨Nat.le_of_ble_eq_true rfl, ⟨rfl, ⟨⟨Nat.le_of_ble_eq_true rfl, ⟨trivial, trivial⟩⟩, ⟨rfl, trivial⟩⟩⟩⟩, ⟨⟨Nat.le_of_ble_eq_true rfl, ⟨⟨Nat.le_of_ble_eq_true rfl, ⟨trivial, trivial⟩⟩, ⟨⟨Nat.le_of_ble_eq_true rfl, ⟨trivial, ⟨rfl, ⟨⟨Nat.le_of_ble_eq_true rfl, ⟨rfl, trivial⟩⟩, ⟨⟨Nat.le_of_ble_eq_true rfl, trivial⟩, trivial⟩⟩⟩⟩⟩, trivial⟩⟩⟩, trivial⟩⟩⟩⟩ fun u2 H1 s1 b => ?_)
  have sN := sN.trans s1
  have a1 := a1.kt (Kt.of s1)
  have a2 := a2.kt (Kt.of s1)
  have a3 := a3.kt (Kt.of s1)
  have a4 := a4.kt (Kt.of s1)
  have a5 := a5.kt (Kt.of s1)
  have a6 := a6.kt (Kt.of s1)
  have a7 := a7.kt (Kt.of s1)
  have a8 := a8.kt (Kt.of s1)
  have a9 := a9.kt (Kt.of s1)
  have c_has := c_has.kt (Kt.of s1)
  have c_put := c_put.kt (Kt.of s1)
  have dd := dd.same s1
  obtain ⟨H1, pu, dd, kt1, s1⟩ := dd.put (k := "strike") u2 hD0 sN (by decide) (List.forall_mem_cons.mpr ⟨show ¬ (("put" : Str) = "strike") by decide +kernel, List.forall_mem_cons.mpr ⟨show ¬ (("has" : Str) = "strike") by decide +kernel, List.forall_mem_nil _⟩⟩)
  refine ⟨_, rfl, _, H1, rfl, pu, ?_⟩
  have sN := s1
  have a1 := a1.kt kt1
  have a2 := a2.kt kt1
  have a3 := a3.kt kt1
  have a4 := a4.kt kt1
  have a5 := a5.kt kt1
  have a6 := a6.kt kt1
  have a7 := a7.kt kt1
  have a8 := a8.kt kt1
  have a9 := a9.kt kt1
  have c_has := c_has.kt kt1
  have c_put := c_put.kt kt1
  have dd := dd.tl
  refine dputI (Ltr.go (l := .t (.cn (.l (.nl)) (.cn (.l (.cn (.v 1 v1) (.cn (.t (.cn (.s "unmark") (.nl))) (.cn (.v 6 v6) (.nl))))) (.cn (.l (.nl)) (.nl))))) rfl ⟨Nat.le_of_ble_eq_true rfl, ⟨⟨Nat.le_of_ble_eq_true rfl, trivial⟩, ⟨⟨Nat.le_of_ble_eq_true rfl, ⟨rfl, ⟨⟨Nat.le_of_ble_eq_true rfl, ⟨trivial, trivial⟩⟩, ⟨rfl, trivial⟩⟩⟩⟩, ⟨⟨Nat.le_of_ble_eq_true rfl, trivial⟩, trivial⟩⟩⟩⟩ fun u3 H1 s1 b => ?_)
  have sN := sN.trans s1
  have a1 := a1.kt (Kt.of s1)
  have a2 := a2.kt (Kt.of s1)
  have a3 := a3.kt (Kt.of s1)
  have a4 := a4.kt (Kt.of s1)
  have a5 := a5.kt (Kt.of s1)
  have a6 := a6.kt (Kt.of s1)
  have a7 := a7.kt (Kt.of s1)
  have a8 := a8.kt (Kt.of s1)
  have a9 := a9.kt (Kt.of s1)
  have c_has := c_has.kt (Kt.of s1)
  have c_put := c_put.kt (Kt.of s1)
  have dd := dd.same s1
  obtain ⟨H1, pu, dd, kt1, s1⟩ := dd.put (k := "lazy") u3 hD0 sN (by decide) (List.forall_mem_cons.mpr ⟨show ¬ (("put" : Str) = "lazy") by decide +kernel, List.forall_mem_cons.mpr ⟨show ¬ (("has" : Str) = "lazy") by decide +kernel, List.forall_mem_nil _⟩⟩)
  refine ⟨_, rfl, _, H1, rfl, pu, ?_⟩
  have sN := s1
  have a1 := a1.kt kt1
  have a2 := a2.kt kt1
  have a3 := a3.kt kt1
  have a4 := a4.kt kt1
  have a5 := a5.kt kt1
  have a6 := a6.kt kt1
  have a7 := a7.kt kt1
  have a8 := a8.kt kt1
  have a9 := a9.kt kt1
  have c_has := c_has.kt kt1
  have c_put := c_put.kt kt1
  have dd := dd.tl
  refine dputI (Ltr.go (l := .t (.cn (.l (.nl)) (.cn (.l (.cn (.t (.cn (.s "if") (.cn (.v 9 v9) (.cn (.l (.cn (.v 7 v7) (.nl))) (.cn (.l (.nl)) (.nl)))))) (.cn (.v 6 v6) (.nl)))) (.cn (.l (.nl)) (.nl))))) rfl ⟨Nat.le_of_ble_eq_true rfl, ⟨⟨Nat.le_of_ble_eq_true rfl, trivial⟩, ⟨⟨Nat.le_of_ble_eq_true rfl, ⟨⟨Nat.le_of_ble_eq_true rfl, ⟨trivial, ⟨rfl, ⟨⟨Nat.le_of_ble_eq_true rfl, ⟨rfl, trivial⟩⟩, ⟨⟨Nat.le_of_ble_eq_true rfl, trivial⟩, trivial⟩⟩⟩⟩⟩, ⟨rfl, trivial⟩⟩⟩, ⟨⟨Nat.le_of_ble_eq_true rfl, trivial⟩, trivial⟩⟩⟩⟩ fun u4 H1 s1 b => ?_)
  have sN := sN.trans s1
  have a1 := a1.kt (Kt.of s1)
  have a2 := a2.kt (Kt.of s1)
  have a3 := a3.kt (Kt.of s1)
  have a4 := a4.kt (Kt.of s1)
  have a5 := a5.kt (Kt.of s1)
  have a6 := a6.kt (Kt.of s1)
  have a7 := a7.kt (Kt.of s1)
  have a8 := a8.kt (Kt.of s1)
  have a9 := a9.kt (Kt.of s1)
  have c_has := c_has.kt (Kt.of s1)
  have c_put := c_put.kt (Kt.of s1)
  have dd := dd.same s1
  obtain ⟨H1, pu, dd, kt1, s1⟩ := dd.put (k := "begins") u4 hD0 sN (by decide) (List.forall_mem_cons.mpr ⟨show ¬ (("put" : Str) = "begins") by decide +kernel, List.forall_mem_cons.mpr ⟨show ¬ (("has" : Str) = "begins") by decide +kernel, List.forall_mem_nil _⟩⟩)
  refine ⟨_, rfl, _, H1, rfl, pu, ?_⟩
  have sN := s1
  have a1 := a1.kt kt1
  have a2 := a2.kt kt1
  have a3 := a3.kt kt1
  have a4 := a4.kt kt1
  have a5 := a5.kt kt1
  have a6 := a6.kt kt1
  have a7 := a7.kt kt1
  have a8 := a8.kt kt1
  have a9 := a9.kt kt1
  have c_has := c_has.kt kt1
  have c_put := c_put.kt kt1
  have dd := dd.tl
  refine dputI (Ltr.go (l := .t (.cn (.l (.cn (.v 5 v5) (.nl))) (.cn (.l (.cn (.v 5 v5) (.cn (.t (.cn (.s "return") (.cn (.s "p") (.nl)))) (.nl)))) (.cn (.l (.nl)) (.nl))))) rfl ⟨Nat.le_of_ble_eq_true rfl, ⟨⟨Nat.le_of_ble_eq_true rfl, ⟨rfl, trivial⟩⟩, ⟨⟨Nat.le_of_ble_eq_true rfl, ⟨rfl, ⟨⟨Nat.le_of_ble_eq_true rfl, ⟨trivial, ⟨trivial, trivial⟩⟩⟩, trivial⟩⟩⟩, ⟨⟨Nat.le_of_ble_eq_true rfl, trivial⟩, trivial⟩⟩⟩⟩ fun u5 H1 s1 b => ?_)
  have sN := sN.trans s1
  have a1 := a1.kt (Kt.of s1)
  have a2 := a2.kt (Kt.of s1)
  have a3 := a3.kt (Kt.of s1)
  have a4 := a4.kt (Kt.of s1)
  have a5 := a5.kt (Kt.of s1)
  have a6 := a6.kt (Kt.of s1)
  have a7 := a7.kt (Kt.of s1)
  have a8 := a8.kt (Kt.of s1)
  have a9 := a9.kt (Kt.of s1)
  have c_has := c_has.kt (Kt.of s1)
  have c_put := c_put.kt (Kt.of s1)
  have dd := dd.same s1
  obtain ⟨H1, pu, dd, kt1, s1⟩ := dd.put (k := "longest") u5 hD0 sN (by decide) (List.forall_mem_cons.mpr ⟨show ¬ (("put" : Str) = "longest") by decide +kernel, List.forall_mem_cons.mpr ⟨show ¬ (("has" : Str) = "longest") by decide +kernel, List.forall_mem_nil _⟩⟩)
  refine ⟨_, rfl, _, H1, rfl, pu, ?_⟩
  have sN := s1
  have a1 := a1.kt kt1
  have a2 := a2.kt kt1
  have a3 := a3.kt kt1
  have a4 := a4.kt kt1
  have a5 := a5.kt kt1
  have a6 := a6.kt kt1
  have a7 := a7.kt kt1
  have a8 := a8.kt kt1
  have a9 := a9.kt kt1
  have c_has := c_has.kt kt1
  have c_put := c_put.kt kt1
  have c_longest := b.kt kt1
  refine dputI (Ltr.go (l := .t (.cn (.l (.nl)) (.cn (.l (.cn (.t (.cn (.s "if") (.cn (.t (.cn (.s "next") (.nl))) (.cn (.l (.cn (.t (.cn (.s "cut") (.nl))) (.nl))) (.cn (.l (.nl)) (.nl)))))) (.nl))) (.cn (.l (.cn (.t (.cn (.s "cut") (.nl))) (.nl))) (.nl))))) rfl ⟨Nat.le_of_ble_eq_true rfl, ⟨⟨Nat.le_of_ble_eq_true rfl, trivial⟩, ⟨⟨Nat.le_of_ble_eq_true rfl, ⟨⟨Nat.le_of_ble_eq_true rfl, ⟨trivial, ⟨⟨Nat.le_of_ble_eq_true rfl, ⟨trivial, trivial⟩⟩, ⟨⟨Nat.le_of_ble_eq_true rfl, ⟨⟨Nat.le_of_ble_eq_true rfl, ⟨trivial, trivial⟩⟩, trivial⟩⟩, ⟨⟨Nat.le_of_ble_eq_true rfl, trivial⟩, trivial⟩⟩⟩⟩⟩, trivial⟩⟩, ⟨⟨Nat.le_of_ble_eq_true rfl, ⟨⟨Nat.le_of_ble_eq_true rfl, ⟨trivial, trivial⟩⟩, trivial⟩⟩, trivial⟩⟩⟩⟩ fun u6 H1 s1 b => ?_)
  have sN := sN.trans s1
  have a1 := a1.kt (Kt.of s1)
  have a2 := a2.kt (Kt.of s1)
  have a3 := a3.kt (Kt.of s1)
  have a4 := a4.kt (Kt.of s1)
  have a5 := a5.kt (Kt.of s1)
  have a6 := a6.kt (Kt.of s1)
  have a7 := a7.kt (Kt.of s1)
  have a8 := a8.kt (Kt.of s1)
  have a9 := a9.kt (Kt.of s1)
  have c_has := c_has.kt (Kt.of s1)
  have c_put := c_put.kt (Kt.of s1)
  have c_longest := c_longest.kt (Kt.of s1)
  have dd := dd.same s1
  obtain ⟨H1, pu, dd, kt1, s1⟩ := dd.put (k := "clear") u6 hD0 sN (by decide) (List.forall_mem_cons.mpr ⟨show ¬ (("longest" : Str) = "clear") by decide +kernel, List.forall_mem_cons.mpr ⟨show ¬ (("put" : Str) = "clear") by decide +kernel, List.forall_mem_cons.mpr ⟨show ¬ (("has" : Str) = "clear") by decide +kernel, List.forall_mem_nil _⟩⟩⟩)
  refine ⟨_, rfl, _, H1, rfl, pu, ?_⟩
  have sN := s1
  have a1 := a1.kt kt1
  have a2 := a2.kt kt1
  have a3 := a3.kt kt1
  have a4 := a4.kt kt1
  have a5 := a5.kt kt1
  have a6 := a6.kt kt1
  have a7 := a7.kt kt1
  have a8 := a8.kt kt1
  have a9 := a9.kt kt1
  have c_has := c_has.kt kt1
  have c_put := c_put.kt kt1
  have c_longest := c_longest.kt kt1
  have dd := dd.tl
  refine dputI (Ltr.go (l := .t (.cn (.l (.cn (.t (.cn (.s "if") (.cn (.t (.cn (.s "mark") (.nl))) (.cn (.l (.cn (.t (.cn (.s "flag") (.cn (.b true) (.nl)))) (.nl))) (.cn (.l (.nl)) (.nl)))))) (.nl))) (.cn (.l (.cn (.t (.cn (.s "return") (.cn (.s "node") (.nl)))) (.nl))) (.cn (.l (.nl)) (.nl))))) rfl ⟨Nat.le_of_ble_eq_true rfl, ⟨⟨Nat.le_of_ble_eq_true rfl, ⟨⟨Nat.le_of_ble_eq_true rfl, ⟨trivial, ⟨⟨Nat.le_of_ble_eq_true rfl, ⟨trivial, trivial⟩⟩, ⟨⟨Nat.le_of_ble_eq_true rfl, ⟨⟨Nat.le_of_ble_eq_true rfl, ⟨trivial, ⟨trivial, trivial⟩⟩⟩, trivial⟩⟩, ⟨⟨Nat.le_of_ble_eq_true rfl, trivial⟩, trivial⟩⟩⟩⟩⟩, trivial⟩⟩, ⟨⟨Nat.le_of_ble_eq_true rfl, ⟨⟨Nat.le_of_ble_eq_true rfl, ⟨trivial, ⟨trivial, trivial⟩⟩⟩, trivial⟩⟩, ⟨⟨Nat.le_of_ble_eq_true rfl, trivial⟩, trivial⟩⟩⟩⟩ fun u7 H1 s1 b => ?_)
  have sN := sN.trans s1
  have a1 := a1.kt (Kt.of s1)
  have a2 := a2.kt (Kt.of s1)
  have a3 := a3.kt (Kt.of s1)
  have a4 := a4.kt (Kt.of s1)
  have a5 := a5.kt (Kt.of s1)
  have a6 := a6.kt (Kt.of s1)
  have a7 := a7.kt (Kt.of s1)
  have a8 := a8.kt (Kt.of s1)
  have a9 := a9.kt (Kt.of s1)
  have c_has := c_has.kt (Kt.of s1)
  have c_put := c_put.kt (Kt.of s1)
  have c_longest := c_longest.kt (Kt.of s1)
  have dd := dd.same s1
  obtain ⟨H1, pu, dd, kt1, s1⟩ := dd.put (k := "flags") u7 hD0 sN (by decide) (List.forall_mem_cons.mpr ⟨show ¬ (("longest" : Str) = "flags") by decide +kernel, List.forall_mem_cons.mpr ⟨show ¬ (("put" : Str) = "flags") by decide +kernel, List.forall_mem_cons.mpr ⟨show ¬ (("has" : Str) = "flags") by decide +kernel, List.forall_mem_nil _⟩⟩⟩)
  refine ⟨_, rfl, _, H1, rfl, pu, ?_⟩
  have sN := s1
  have a1 := a1.kt kt1
  have a2 := a2.kt kt1
  have a3 := a3.kt kt1
  have a4 := a4.kt kt1
  have a5 := a5.kt kt1
  have a6 := a6.kt kt1
  have a7 := a7.kt kt1
  have a8 := a8.kt kt1
  have a9 := a9.kt kt1
  have c_has := c_has.kt kt1
  have c_put := c_put.kt kt1
  have c_longest := c_longest.kt kt1
  have dd := dd.tl
  refine asgI (Ltr.go (l := .t (.cn (.s "if") (.cn (.t (.cn (.s "mark") (.nl))) (.cn (.l (.cn (.t (.cn (.s "stop") (.nl))) (.nl))) (.cn (.l (.nl)) (.nl)))))) rfl ⟨Nat.le_of_ble_eq_true rfl, ⟨trivial, ⟨⟨Nat.le_of_ble_eq_true rfl, ⟨trivial, trivial⟩⟩, ⟨⟨Nat.le_of_ble_eq_true rfl, ⟨⟨Nat.le_of_ble_eq_true rfl, ⟨trivial, trivial⟩⟩, trivial⟩⟩, ⟨⟨Nat.le_of_ble_eq_true rfl, trivial⟩, trivial⟩⟩⟩⟩⟩ fun v11 H1 s1 a11 => ?_)
  dsimp only [gName]
  have sN := sN.trans s1
  have a1 := a1.kt (Kt.of s1)
  have a2 := a2.kt (Kt.of s1)
  have a3 := a3.kt (Kt.of s1)
  have a4 := a4.kt (Kt.of s1)
  have a5 := a5.kt (Kt.of s1)
  have a6 := a6.kt (Kt.of s1)
  have a7 := a7.kt (Kt.of s1)
  have a8 := a8.kt (Kt.of s1)
  have a9 := a9.kt (Kt.of s1)
  have c_has := c_has.kt (Kt.of s1)
  have c_put := c_put.kt (Kt.of s1)
  have c_longest := c_longest.kt (Kt.of s1)
  have dd := dd.same s1
  refine asgI (Ltr.go (l := .t (.cn (.t (.cn (.l (.cn (.v 11 v11) (.nl))) (.cn (.l (.cn (.t (.cn (.s "return") (.cn (.s "node") (.nl)))) (.nl))) (.cn (.l (.nl)) (.nl))))) (.cn (.t (.cn (.l (.nl)) (.cn (.l (.nl)) (.cn (.l (.cn (.v 11 v11) (.cn (.t (.cn (.s "flag") (.cn (.b true) (.nl)))) (.nl)))) (.nl))))) (.nl)))) rfl ⟨Nat.le_of_ble_eq_true rfl, ⟨⟨Nat.le_of_ble_eq_true rfl, ⟨⟨Nat.le_of_ble_eq_true rfl, ⟨rfl, trivial⟩⟩, ⟨⟨Nat.le_of_ble_eq_true rfl, ⟨⟨Nat.le_of_ble_eq_true rfl, ⟨trivial, ⟨trivial, trivial⟩⟩⟩, trivial⟩⟩, ⟨⟨Nat.le_of_ble_eq_true rfl, trivial⟩, trivial⟩⟩⟩⟩, ⟨⟨Nat.le_of_ble_eq_true rfl, ⟨⟨Nat.le_of_ble_eq_true rfl, trivial⟩, ⟨⟨Nat.le_of_ble_eq_true rfl, trivial⟩, ⟨⟨Nat.le_of_ble_eq_true rfl, ⟨rfl, ⟨⟨Nat.le_of_ble_eq_true rfl, ⟨trivial, ⟨trivial, trivial⟩⟩⟩, trivial⟩⟩⟩, trivial⟩⟩⟩⟩, trivial⟩⟩⟩ fun v0 H1 s1 a0 => ?_)
  obtain ⟨p0, _, rfl, e0, a0⟩ := a0
  obtain ⟨x0, _, rfl, b0, x1, _, rfl, b1, rfl⟩ := a0
  have sN := sN.trans s1
  have a1 := a1.kt (Kt.of s1)
  have a2 := a2.kt (Kt.of s1)
  have a3 := a3.kt (Kt.of s1)
  have a4 := a4.kt (Kt.of s1)
  have a5 := a5.kt (Kt.of s1)
  have a6 := a6.kt (Kt.of s1)
  have a7 := a7.kt (Kt.of s1)
  have a8 := a8.kt (Kt.of s1)
  have a9 := a9.kt (Kt.of s1)
  have c_has := c_has.kt (Kt.of s1)
  have c_put := c_put.kt (Kt.of s1)
  have c_longest := c_longest.kt (Kt.of s1)
  have a11 := a11.kt (Kt.of s1)
  have dd := dd.same s1
  refine ⟨p0, _, rfl, .inl (.inl e0), rfl, ?_⟩
  obtain ⟨H1, pu, dd, kt1, s1⟩ := dd.put (k := "halts") x0 hD0 sN (by decide) (List.forall_mem_cons.mpr ⟨show ¬ (("longest" : Str) = "halts") by decide +kernel, List.forall_mem_cons.mpr ⟨show ¬ (("put" : Str) = "halts") by decide +kernel, List.forall_mem_cons.mpr ⟨show ¬ (("has" : Str) = "halts") by decide +kernel, List.forall_mem_nil _⟩⟩⟩)
  refine ⟨_, _, rfl, ?_⟩
  refine ⟨_, rfl, _, H1, rfl, pu, ?_⟩
  have sN := s1
  have a1 := a1.kt kt1
  have a2 := a2.kt kt1
  have a3 := a3.kt kt1
  have a4 := a4.kt kt1
  have a5 := a5.kt kt1
  have a6 := a6.kt kt1
  have a7 := a7.kt kt1
  have a8 := a8.kt kt1
  have a9 := a9.kt kt1
  have c_has := c_has.kt kt1
  have c_put := c_put.kt kt1
  have c_longest := c_longest.kt kt1
  have a11 := a11.kt kt1
  have b1 := b1.kt kt1
  have dd := dd.tl
  obtain ⟨H1, pu, dd, kt1, s1⟩ := dd.put (k := "rests") x1 hD0 sN (by decide) (List.forall_mem_cons.mpr ⟨show ¬ (("longest" : Str) = "rests") by decide +kernel, List.forall_mem_cons.mpr ⟨show ¬ (("put" : Str) = "rests") by decide +kernel, List.forall_mem_cons.mpr ⟨show ¬ (("has" : Str) = "rests") by decide +kernel, List.forall_mem_nil _⟩⟩⟩)
  refine ⟨_, _, rfl, ?_⟩
  refine ⟨_, rfl, _, H1, rfl, pu, ?_⟩
  have sN := s1
  have a1 := a1.kt kt1
  have a2 := a2.kt kt1
  have a3 := a3.kt kt1
  have a4 := a4.kt kt1
  have a5 := a5.kt kt1
  have a6 := a6.kt kt1
  have a7 := a7.kt kt1
  have a8 := a8.kt kt1
  have a9 := a9.kt kt1
  have c_has := c_has.kt kt1
  have c_put := c_put.kt kt1
  have c_longest := c_longest.kt kt1
  have a11 := a11.kt kt1
  have dd := dd.tl
  refine ⟨rfl, ?_⟩
  refine dputI (Ltr.go (l := .t (.cn (.l (.cn (.t (.cn (.s "make") (.nl))) (.nl))) (.cn (.l (.cn (.t (.cn (.s "mark") (.nl))) (.cn (.v 6 v6) (.nl)))) (.cn (.l (.nl)) (.nl))))) rfl ⟨Nat.le_of_ble_eq_true rfl, ⟨⟨Nat.le_of_ble_eq_true rfl, ⟨⟨Nat.le_of_ble_eq_true rfl, ⟨trivial, trivial⟩⟩, trivial⟩⟩, ⟨⟨Nat.le_of_ble_eq_true rfl, ⟨⟨Nat.le_of_ble_eq_true rfl, ⟨trivial, trivial⟩⟩, ⟨rfl, trivial⟩⟩⟩, ⟨⟨Nat.le_of_ble_eq_true rfl, trivial⟩, trivial⟩⟩⟩⟩ fun u8 H1 s1 b => ?_)
  have sN := sN.trans s1
  have a1 := a1.kt (Kt.of s1)
  have a2 := a2.kt (Kt.of s1)
  have a3 := a3.kt (Kt.of s1)
  have a4 := a4.kt (Kt.of s1)
  have a5 := a5.kt (Kt.of s1)
  have a6 := a6.kt (Kt.of s1)
  have a7 := a7.kt (Kt.of s1)
  have a8 := a8.kt (Kt.of s1)
  have a9 := a9.kt (Kt.of s1)
  have c_has := c_has.kt (Kt.of s1)
  have c_put := c_put.kt (Kt.of s1)
  have c_longest := c_longest.kt (Kt.of s1)
  have a11 := a11.kt (Kt.of s1)
  have dd := dd.same s1
  obtain ⟨H1, pu, dd, kt1, s1⟩ := dd.put (k := "blunt") u8 hD0 sN (by decide) (List.forall_mem_cons.mpr ⟨show ¬ (("longest" : Str) = "blunt") by decide +kernel, List.forall_mem_cons.mpr ⟨show ¬ (("put" : Str) = "blunt") by decide +kernel, List.forall_mem_cons.mpr ⟨show ¬ (("has" : Str) = "blunt") by decide +kernel, List.forall_mem_nil _⟩⟩⟩)
  refine ⟨_, rfl, _, H1, rfl, pu, ?_⟩
  have sN := s1
  have a1 := a1.kt kt1
  have a2 := a2.kt kt1
  have a3 := a3.kt kt1
  have a4 := a4.kt kt1
  have a5 := a5.kt kt1
  have a6 := a6.kt kt1
  have a7 := a7.kt kt1
  have a8 := a8.kt kt1
  have a9 := a9.kt kt1
  have c_has := c_has.kt kt1
  have c_put := c_put.kt kt1
  have c_longest := c_longest.kt kt1
  have a11 := a11.kt kt1
  have dd := dd.tl
  obtain ⟨kvs, e1, _, e3⟩ := dd
  have hno : ∀ ys, LtAll H1 (.cn (.t (.cn (.s "return") (.cn (.s "no") .nl))) .nl) ys → BlkV (Sq K) H1 (.st (.ret .no) .nil) ys := fun ys h => by
    obtain ⟨y, _, rfl, h1, rfl⟩ := h
    exact blkP (lt2 h1) rfl
  have i1 : IfV K H1 (.bin false (.no (.atom .ends)) (.no (.atom .mark))) (.st (.ret .no) .nil) .nil v1 := ltIf a1 (fun _ h => ltOr h (fun _ h => ltNo h fun _ h => lt1 h) (fun _ h => ltNo h fun _ h => lt1 h)) hno nilB
  have i4 : IfV K H1 (.no (.atom .next)) (.st .make .nil) .nil v4 := ltIf a4 (fun _ h => ltNo h fun _ h => lt1 h) (fun ys h => by obtain ⟨y, _, rfl, h1, rfl⟩ := h; exact blkP (lt1 h1) rfl) nilB
  have i5 : IfV K H1 (.atom .mark) (.st .keep .nil) .nil v5 := ltIf a5 (fun _ h => lt1 h) (fun ys h => by obtain ⟨y, _, rfl, h1, rfl⟩ := h; exact blkP (lt1 h1) rfl) nilB
  have y6 := lt2 (K := K) a6
  have y7 := lt2 (K := K) a7
  have uh : UsV K H1 w0 := ltUs (d := .nil) (t := .ife (.bin false (.no (.atom .ends)) (.no (.atom .mark))) (.st (.ret .no) .nil) .nil (.st (.ret .yes) .nil)) (u := .nil) c_has nilB (fun ys h => by
    obtain ⟨y, _, rfl, rfl, y2, _, rfl, rfl, rfl⟩ := h
    exact blkI i1 (blkP y6 rfl)) nilB ⟨trivial, ⟨by decide, by decide, ⟨rfl, trivial⟩, trivial, rfl, trivial⟩, trivial, by decide, by decide, by decide, by decide⟩
  have ul : UsV K H1 u5 := ltUs (d := .ife (.atom .mark) (.st .keep .nil) .nil .nil) (t := .ife (.atom .mark) (.st .keep .nil) .nil (.st (.ret .p) .nil)) (u := .nil) c_longest (fun ys h => by
    obtain ⟨y, _, rfl, rfl, rfl⟩ := h
    exact blkI i5 rfl) (fun ys h => by
    obtain ⟨y, _, rfl, rfl, y2, _, rfl, h2, rfl⟩ := h
    exact blkI i5 (blkP (lt2 h2) rfl)) nilB ⟨⟨by decide, by decide, ⟨rfl, trivial⟩, trivial, trivial⟩, ⟨by decide, by decide, ⟨rfl, trivial⟩, trivial, rfl, trivial⟩, trivial, by decide, by decide, by decide, by decide⟩
  have up : UsV K H1 u0 := ltUs (d := .ife (.no (.atom .next)) (.st .make .nil) .nil .nil) (t := .ife (.atom .mark) (.st (.ret .no) .nil) .nil (.st .mark (.st (.ret .yes) .nil))) (u := .nil) c_put (fun ys h => by
    obtain ⟨y, _, rfl, rfl, rfl⟩ := h
    exact blkI i4 rfl) (fun ys h => by
    obtain ⟨y, _, rfl, h1, y2, _, rfl, h2, y3, _, rfl, rfl, rfl⟩ := h
    refine blkI (ltIf h1 (fun _ h => lt1 h) (fun ys h => by obtain ⟨y, _, rfl, rfl, rfl⟩ := h; exact blkP y7 rfl) nilB) (blkP (lt1 h2) (blkP y6 rfl))) nilB ⟨⟨by decide, by decide, ⟨rfl, trivial⟩, trivial, trivial⟩, ⟨by decide, by decide, ⟨rfl, trivial⟩, trivial, rfl, rfl, trivial⟩, trivial, by decide, by decide, by decide, by decide⟩
  have key : ∃ x, valV kvs (.inr z) = some x ∧ UsV K H1 x := by
    rcases List.mem_cons.mp hz with rfl | hz
    · exact ⟨_, e3 ("has", w0) (.tail _ (.tail _ (.head _))), uh⟩
    rcases List.mem_cons.mp hz with rfl | hz
    · exact ⟨_, e3 ("put", u0) (.tail _ (.head _)), up⟩
    rcases List.mem_singleton.mp hz with rfl
    exact ⟨_, e3 ("longest", u5) (.head _), ul⟩
  obtain ⟨x, ex, hx⟩ := key
  have dg := DGet.k (k := Sum.inr z) e1
  rw [ex] at dg
  exact retE ⟨_, rfl, _, rfl, D, _, rfl, dg, fin _ _ sN hx⟩
end
end Toy


set_option Elab.async false
set_option linter.all false
set_option maxRecDepth 100000
set_option maxHeartbeats 4000000
namespace Toy
open PySem L2 Sh ShL LamX NdefX
/-! ### the order of rows, plain -/
def rowI (r : List Nat) : List Int := r.map fun (n : Nat) => (n : Int)
theorem rowI_inj : ∀ {a b : List Nat}, rowI a = rowI b → a = b
  | [], [], _ => rfl
  | [], b :: bs, h => by simp [rowI] at h
  | a :: as, [], h => by simp [rowI] at h
  | a :: as, b :: bs, h => by
    simp only [rowI, List.map_cons, List.cons.injEq] at h
    rw [Int.ofNat_inj.mp h.1, rowI_inj h.2]
theorem rowD_I (r : List Nat) : rowD r = .tuple ((rowI r).map .int) := by
  unfold rowD rowI
  rw [List.map_map]
  rfl
def leD (a b : List Nat) : Bool := decide (rowI a ≤ rowI b)
def leK (a b : List Nat) : Bool := decide (a.length < b.length ∨ (a.length = b.length ∧ rowI a ≤ rowI b))
theorem not_lt_I (x y : List Int) : (!decide (y < x)) = decide (x ≤ y) := by
  by_cases h : y < x
  · have h' : ¬ x ≤ y := fun q => List.not_lt.mpr q h
    simp [h, h']
  · have h' : x ≤ y := List.not_lt.mp h
    simp [h, h']
theorem lt_rowD (a b : List Nat) : PySem.W.dataLt (rowD a) (rowD b) = decide (rowI a < rowI b) := by
  rw [rowD_I, rowD_I, PySem.W.dataLt_tuple]
  show PySem.W.rowLt ((rowI a).map .int) ((rowI b).map .int) = _
  exact PySem.W.dataLt_ints _ _
theorem le_rowD : PySem.W.dataLe false rowD = leD := by
  funext a b
  show (!PySem.W.dataLt (rowD b) (rowD a)) = _
  rw [lt_rowD, not_lt_I]
  rfl
theorem alike_rowD (a b : List Nat) : PySem.W.alike (rowD a) (rowD b) = true := by
  rw [rowD_I, rowD_I, PySem.W.alike]
  exact PySem.W.alike_ints _ _
theorem le_keyR : PySem.W.dataLe false keyR = leK := by
  funext a b
  show (!PySem.W.dataLt (.tuple [.int (b.length : Nat), rowD b]) (.tuple [.int (a.length : Nat), rowD a])) = _
  rw [PySem.W.dataLt_pair (by simp [PySem.W.alike]) (alike_rowD _ _), PySem.W.dataLt_int, lt_rowD]
  have e1 : PyData.eqv (rowD b) (rowD a) = decide (b = a) := by
    unfold rowD
    simp only [PyData.eqv, eqvAll_nums]
  have e2 : PyData.eqv (.int (b.length : Nat)) (.int (a.length : Nat)) = decide (b.length = a.length) := by
    simp only [PyData.eqv]
    by_cases h : b.length = a.length
    · simp [h]
    · simp [h, Int.ofNat_inj]
  rw [e1, e2]
  unfold leK
  by_cases h : b.length = a.length
  · rw [if_pos (decide_eq_true h)]
    have hd : decide (a.length < b.length ∨ (a.length = b.length ∧ rowI a ≤ rowI b)) = decide (rowI a ≤ rowI b) := by
      have : ¬ a.length < b.length := by omega
      simp [this, h]
    rw [hd]
    by_cases e : b = a
    · subst e
      simp
    · rw [if_neg (by simp [e]), not_lt_I]
  · rw [if_neg (by simp [h])]
    by_cases h2 : b.length < a.length
    · have : ¬ (a.length < b.length ∨ (a.length = b.length ∧ rowI a ≤ rowI b)) := by omega
      rw [decide_eq_false this, decide_eq_true (show ((b.length : Nat) : Int) < (a.length : Nat) by omega)]
      rfl
    · have : a.length < b.length := by omega
      rw [decide_eq_true (Or.inl this), decide_eq_false (show ¬ ((b.length : Nat) : Int) < (a.length : Nat) by omega)]
      rfl
theorem leD_trans (a b c : List Nat) (h1 : leD a b = true) (h2 : leD b c = true) : leD a c = true := decide_eq_true (List.le_trans (of_decide_eq_true h1) (of_decide_eq_true h2))
theorem leD_total (a b : List Nat) : (leD a b || leD b a) = true := by
  rw [Bool.or_eq_true]
  exact (List.le_total (rowI a) (rowI b)).imp decide_eq_true decide_eq_true
theorem leK_trans (a b c : List Nat) (h1 : leK a b = true) (h2 : leK b c = true) : leK a c = true := by
  have h1 := of_decide_eq_true h1
  have h2 := of_decide_eq_true h2
  refine decide_eq_true ?_
  rcases h1 with h1 | ⟨h1, l1⟩ <;> rcases h2 with h2 | ⟨h2, l2⟩
  · exact .inl (by omega)
  · exact .inl (by omega)
  · exact .inl (by omega)
  · exact .inr ⟨by omega, List.le_trans l1 l2⟩
theorem leK_total (a b : List Nat) : (leK a b || leK b a) = true := by
  rw [Bool.or_eq_true]
  by_cases h : a.length = b.length
  · exact (List.le_total (rowI a) (rowI b)).imp (fun l => decide_eq_true (.inr ⟨h, l⟩)) fun l => decide_eq_true (.inr ⟨h.symm, l⟩)
  · rcases Nat.lt_or_gt_of_ne h with h | h
    · exact .inl (decide_eq_true (.inl h))
    · exact .inr (decide_eq_true (.inl h))
theorem leK_anti {a b : List Nat} (h1 : leK a b = true) (h2 : leK b a = true) : a = b := by
  have h1 := of_decide_eq_true h1
  have h2 := of_decide_eq_true h2
  rcases h1 with h1 | ⟨h1, l1⟩ <;> rcases h2 with h2 | ⟨h2, l2⟩
  · omega
  · omega
  · omega
  · exact rowI_inj (List.le_antisymm l1 l2)
theorem leK_refl (a : List Nat) : leK a a = true := by
  have := leK_total a a
  simpa using this
theorem pw_all {α : Type} {R : α → α → Prop} : ∀ {l : List α}, (∀ x ∈ l, ∀ y ∈ l, R x y) → l.Pairwise R
  | [], _ => .nil
  | x :: l, h => .cons (fun y hy => h x List.mem_cons_self y (List.mem_cons_of_mem _ hy)) (pw_all fun a ha b hb => h a (List.mem_cons_of_mem _ ha) b (List.mem_cons_of_mem _ hb))
def ofLen (left : List (List Nat)) (n : Nat) : List (List Nat) := left.filter fun r => decide (r.length = n)
def blockS (left : List (List Nat)) (n : Nat) : List (List Nat) := if n = 0 then ofLen left n else (ofLen left n).mergeSort leD
def blocksS (left : List (List Nat)) (i : Nat) : List (List Nat) := (List.range i).flatMap (blockS left)
theorem mem_blockS {left : List (List Nat)} {n : Nat} {r : List Nat} : r ∈ blockS left n ↔ r ∈ left ∧ r.length = n := by
  unfold blockS
  split
  · unfold ofLen; simp
  · rw [(List.mergeSort_perm _ _).mem_iff]
    unfold ofLen
    simp
theorem mem_blocksS {left : List (List Nat)} {i : Nat} {r : List Nat} : r ∈ blocksS left i ↔ r ∈ left ∧ r.length < i := by
  unfold blocksS
  rw [List.mem_flatMap]
  constructor
  · rintro ⟨n, hn, hr⟩
    obtain ⟨h1, h2⟩ := mem_blockS.mp hr
    exact ⟨h1, h2 ▸ List.mem_range.mp hn⟩
  · rintro ⟨h1, h2⟩
    exact ⟨r.length, List.mem_range.mpr h2, mem_blockS.mpr ⟨h1, rfl⟩⟩
theorem blocksS_succ (left : List (List Nat)) (i : Nat) : blocksS left (i + 1) = blocksS left i ++ blockS left i := by
  unfold blocksS
  rw [List.range_succ, List.flatMap_append]
  simp
theorem pw_blockS (left : List (List Nat)) (n : Nat) : (blockS left n).Pairwise fun a b => leK a b = true := by
  have hm : ∀ r, r ∈ blockS left n → r.length = n := fun r h => (mem_blockS.mp h).2
  unfold blockS at hm ⊢
  split
  · rename_i h0
    rw [if_pos h0] at hm
    refine pw_all fun a ha b hb => ?_
    have ea : a = [] := List.length_eq_zero_iff.mp ((hm a ha).trans h0)
    have eb : b = [] := List.length_eq_zero_iff.mp ((hm b hb).trans h0)
    rw [ea, eb]
    exact leK_refl _
  · rename_i h0
    rw [if_neg h0] at hm
    refine (List.pairwise_mergeSort leD_trans leD_total (ofLen left n)).imp_of_mem fun {a b} ha hb h => ?_
    exact decide_eq_true (.inr ⟨(hm a ha).trans (hm b hb).symm, of_decide_eq_true h⟩)
theorem pw_blocksS (left : List (List Nat)) : ∀ i, (blocksS left i).Pairwise fun a b => leK a b = true
  | 0 => .nil
  | i + 1 => by
    rw [blocksS_succ, List.pairwise_append]
    refine ⟨pw_blocksS left i, pw_blockS left i, fun a ha b hb => ?_⟩
    have h1 := (mem_blocksS.mp ha).2
    have h2 := (mem_blockS.mp hb).2
    exact decide_eq_true (.inl (by omega))
def keepB (B : List (List Nat)) (k : Nat) : Bool := decide (k = 0) || !decide (B.getD k [] = B.getD (k - 1) [])
def onceS (B : List (List Nat)) : List (List Nat) := ((List.range B.length).filter (keepB B)).map fun k => B.getD k []
theorem getD_at {B : List (List Nat)} {k : Nat} (h : k < B.length) : B.getD k [] = B[k] := by
  rw [List.getD_eq_getElem?_getD, List.getElem?_eq_getElem h]
  rfl
theorem pw_get {B : List (List Nat)} (h : B.Pairwise fun a b => leK a b = true) {i j : Nat} (hij : i ≤ j) (hj : j < B.length) : leK (B.getD i []) (B.getD j []) = true := by
  rw [getD_at (by omega), getD_at hj]
  rcases Nat.lt_or_eq_of_le hij with h1 | rfl
  · exact List.pairwise_iff_getElem.mp h i j (by omega) hj h1
  · exact leK_refl _
theorem mem_onceS {B : List (List Nat)} {r : List Nat} : r ∈ onceS B ↔ r ∈ B := by
  unfold onceS
  rw [List.mem_map]
  constructor
  · rintro ⟨k, hk, rfl⟩
    have := List.mem_range.mp (List.mem_filter.mp hk).1
    rw [getD_at this]
    exact List.getElem_mem this
  · intro h
    obtain ⟨k, hk, e⟩ := List.mem_iff_getElem.mp h
    have key : ∀ k, k < B.length → B.getD k [] = r → ∃ j, j ∈ (List.range B.length).filter (keepB B) ∧ B.getD j [] = r := by
      intro k
      induction k with
      | zero => exact fun hk e => ⟨0, List.mem_filter.mpr ⟨List.mem_range.mpr hk, rfl⟩, e⟩
      | succ k ih =>
        intro hk e
        by_cases q : B.getD k [] = r
        · exact ih (by omega) q
        · refine ⟨k + 1, List.mem_filter.mpr ⟨List.mem_range.mpr hk, ?_⟩, e⟩
          unfold keepB
          rw [Bool.or_eq_true]
          refine .inr ?_
          rw [show k + 1 - 1 = k from rfl, e, decide_eq_false fun z => q z.symm]
          rfl
    exact key k hk ((getD_at hk).trans e)
theorem pw_onceS {B : List (List Nat)} (h : B.Pairwise fun a b => leK a b = true) : (onceS B).Pairwise fun a b => leK a b = true ∧ a ≠ b := by
  unfold onceS
  rw [List.pairwise_map, List.pairwise_filter]
  refine List.pairwise_lt_range.imp_of_mem fun {i j} hi hj hij _ kj => ?_
  have hj := List.mem_range.mp hj
  refine ⟨pw_get h (Nat.le_of_lt hij) hj, fun e => ?_⟩
  unfold keepB at kj
  rw [Bool.or_eq_true] at kj
  rcases kj with kj | kj
  · have := of_decide_eq_true kj
    omega
  · have kj : ¬ B.getD j [] = B.getD (j - 1) [] := by simpa using kj
    refine kj (leK_anti ?_ (pw_get h (by omega) hj))
    rw [← e]
    exact pw_get h (by omega) (by omega)
theorem onceS_eq {B A : List (List Nat)} (hB : B.Pairwise fun a b => leK a b = true) (hA : A.Pairwise fun a b => leK a b = true) (nA : A.Nodup) (hm : ∀ r, r ∈ B ↔ r ∈ A) : onceS B = A := by
  have p1 := pw_onceS hB
  have n1 : (onceS B).Nodup := p1.imp fun h => h.2
  exact List.Perm.eq_of_pairwise (fun a b _ _ h1 h2 => leK_anti h1 h2) (p1.imp fun h => h.1) hA ((List.perm_ext_iff_of_nodup n1 nA).mpr fun r => mem_onceS.trans (hm r))
/-! ### what is left of a script -/
def bitB (b k : Nat) : Bool := decide (b / 2 ^ k % 2 = 1)
def pickS (own : List Nat) (b : Nat) : List Nat := ((List.range own.length).filter (bitB b)).map fun k => own.getD k 0
def leftI (own : List Nat) (i : Nat) : List (List Nat) := ((List.range i).filter fun b => decide (b < 2 ^ own.length)).map (pickS own)
def leftS (own : List Nat) : List (List Nat) := leftI own 16
theorem pickS_cons (x : Nat) (xs : List Nat) (b : Nat) (e : Bool) : pickS (x :: xs) (2 * b + e.toNat) = (if e = true then [x] else []) ++ pickS xs b := by
  unfold pickS
  rw [List.length_cons, List.range_succ_eq_map, List.filter_cons, List.filter_map]
  have h0 : bitB (2 * b + e.toNat) 0 = e := by
    unfold bitB
    cases e
    · refine decide_eq_false ?_
      simp
    · refine decide_eq_true ?_
      simp
  have hs : (bitB (2 * b + e.toNat)) ∘ Nat.succ = bitB b := by
    funext k
    show bitB (2 * b + e.toNat) (k + 1) = _
    unfold bitB
    have : (2 * b + e.toNat) / 2 ^ (k + 1) = b / 2 ^ k := by
      rw [Nat.pow_succ', ← Nat.div_div_eq_div_mul]
      congr 1
      have : e.toNat ≤ 1 := Bool.toNat_le e
      omega
    rw [this]
  rw [h0, hs]
  cases e
  · simp
  · simp
theorem sub_pickS : ∀ {own r : List Nat}, r.Sublist own → ∃ b, b < 2 ^ own.length ∧ r = pickS own b
  | [], r, h => ⟨0, by simp, by rw [List.sublist_nil.mp h]; rfl⟩
  | x :: xs, r, h => by
    cases h with
    | cons _ h =>
      obtain ⟨b, hb, rfl⟩ := sub_pickS h
      refine ⟨2 * b + false.toNat, ?_, ?_⟩
      · rw [List.length_cons, Nat.pow_succ]
        show 2 * b + 0 < _
        omega
      · rw [pickS_cons]
        rfl
    | cons_cons _ h =>
      obtain ⟨b, hb, rfl⟩ := sub_pickS h
      refine ⟨2 * b + true.toNat, ?_, ?_⟩
      · rw [List.length_cons, Nat.pow_succ]
        show 2 * b + 1 < _
        omega
      · rw [pickS_cons]
        rfl
theorem pick_id : ∀ own : List Nat, (List.range own.length).map (fun k => own.getD k 0) = own
  | [] => rfl
  | x :: xs => by
    rw [List.length_cons, List.range_succ_eq_map, List.map_cons, List.map_map]
    have := pick_id xs
    show x :: (List.range xs.length).map (fun k => (x :: xs).getD (k + 1) 0) = _
    rw [show (fun k => (x :: xs).getD (k + 1) 0) = fun k => xs.getD k 0 from rfl, this]
theorem pickS_sub (own : List Nat) (b : Nat) : (pickS own b).Sublist own := by
  have h : (pickS own b).Sublist ((List.range own.length).map fun k => own.getD k 0) := List.filter_sublist.map _
  rw [pick_id] at h
  exact h
theorem mem_leftS {own r : List Nat} (h : own.length ≤ 4) : r ∈ leftS own ↔ r.Sublist own := by
  unfold leftS leftI
  rw [List.mem_map]
  constructor
  · rintro ⟨b, _, rfl⟩
    exact pickS_sub own b
  · intro hr
    obtain ⟨b, hb, rfl⟩ := sub_pickS hr
    have : 2 ^ own.length ≤ 2 ^ 4 := Nat.pow_le_pow_right (by decide) h
    exact ⟨b, List.mem_filter.mpr ⟨List.mem_range.mpr (by omega), decide_eq_true hb⟩, rfl⟩
theorem leftS_len (own : List Nat) : (leftS own).length ≤ 16 := by
  unfold leftS leftI
  rw [List.length_map]
  exact Nat.le_trans (List.length_filter_le _ _) (by simp)
theorem rowsS_law {cs : List Qc} {one other ws : List Nat} (l1 : one.length ≤ 4) (l2 : other.length ≤ 4) : onceS (blocksS (leftS (flt cs ws one) ++ leftS (flt cs ws other)) 5) = rowsS cs one other ws := by
  have f1 : (flt cs ws one).length ≤ 4 := Nat.le_trans (List.length_filter_le _ _) l1
  have f2 : (flt cs ws other).length ≤ 4 := Nat.le_trans (List.length_filter_le _ _) l2
  refine onceS_eq (pw_blocksS _ 5) ?_ nd_rowsS fun r => ?_
  · unfold rowsS
    rw [le_keyR]
    exact List.pairwise_mergeSort leK_trans leK_total _
  · rw [mem_blocksS, List.mem_append, mem_leftS f1, mem_leftS f2, mem_rowsS]
    constructor
    · exact fun h => h.1
    · intro h
      refine ⟨h, ?_⟩
      rcases h with h | h
      · have := h.length_le
        omega
      · have := h.length_le
        omega
end Toy


set_option Elab.async false
set_option linter.all false
set_option maxRecDepth 100000
set_option maxHeartbeats 4000000
namespace Toy
open PySem L2 Sh ShL LamX NdefX
/-! ### the law's own routine, and what is left of a script -/
def spMkR (K : PySem.W.Frag) (C : Addr) : Sp := fun vs H Q _ => ∃ v : V, vs = [v] ∧ UsV K H v ∧ ∀ H' x, Same H H' → H x = none → (∃ dx fs, H' x = some (.ins C dx fs)) → Q (.ref x) H'
def CvV (K : PySem.W.Frag) (H : Hp) (v : V) (wn : Nat) : Prop := ∃ (p : Addr) (b : V) (val : Int), v = .ref p ∧ SqU K H p [b, .int (wn : Int), .int val]
theorem CvV.same {K : PySem.W.Frag} {H H' : Hp} {v : V} {n : Nat} (s : Same H H') (h : CvV K H v n) : CvV K H' v n := let ⟨p, b, val, e, h⟩ := h; ⟨p, b, val, e, h.same s⟩
def ownS (wn ws sc : List Nat) : List Nat := sc.filter fun n => decide (wn.getD n 2 ∈ ws)
def spLeft (K : PySem.W.Frag) : Sp := fun vs H Q _ => ∃ (a pc pw : Addr) (sc : List Nat) (ys : List V) (wn ws : List Nat), vs = [.ref a, .ref pc, .ref pw] ∧ SqL K H a (nums sc) ∧ SqL K H pc ys ∧ Paired (CvV K H) ys wn ∧ (∀ n ∈ sc, n < wn.length) ∧ sc.length ≤ 4 ∧ SqU K H pw (nums ws) ∧
  ∀ H' D zs, Same H H' → H D = none → H' D = some (.lst zs) → Paired (RowV K H') zs (leftS (ownS wn ws sc)) → Q (.ref D) H'
theorem leftI_succ (own : List Nat) (i : Nat) : leftI own (i + 1) = leftI own i ++ if i < 2 ^ own.length then [pickS own i] else [] := by
  unfold leftI
  rw [List.range_succ, List.filter_append, List.map_append]
  congr 1
  by_cases h : i < 2 ^ own.length
  · rw [if_pos h]
    simp [h]
  · rw [if_neg h]
    simp [h]
theorem leftI_len (own : List Nat) (i : Nat) : (leftI own i).length ≤ i := by
  unfold leftI
  rw [List.length_map]
  exact Nat.le_trans (List.length_filter_le _ _) (by simp)
theorem pows {n : Nat} (h : n ≤ 4) : [V.int 1, V.int 2, V.int 4, V.int 8, V.int 16][n]? = some (.int ((2 ^ n : Nat) : Int)) := by
  match n, h with
  | 0, _ => rfl
  | 1, _ => rfl
  | 2, _ => rfl
  | 3, _ => rfl
  | 4, _ => rfl
  | n + 5, h => omega
theorem pows4 {n : Nat} (h : n < 4) : [V.int 1, V.int 2, V.int 4, V.int 8][n]? = some (.int ((2 ^ n : Nat) : Int)) := by
  match n, h with
  | 0, _ => rfl
  | 1, _ => rfl
  | 2, _ => rfl
  | 3, _ => rfl
  | n + 4, h => omega
theorem bit_int (b k : Nat) : (((b : Nat) : Int).fdiv ((2 ^ k : Nat) : Int)) % 2 = ((b / 2 ^ k % 2 : Nat) : Int) := by
  rw [Int.fdiv_eq_ediv_of_nonneg _ (Int.natCast_nonneg _)]
  push_cast
  rfl
section
variable {P : Program} {w : World} {K : PySem.W.Frag} {mg : Str → Option Value} {base : Heap}
theorem ok_l_routine (T : Tx P w K mg) (B : Bx T base) : FnOk P w K mg base CX0 23 T.a_l_routine T.fd_l_routine ["_law_blocks"] (spMkR K T.c_Routine) := by
  refine okT T.F_l_routine sc_l_routine (fun vs H Q E h => ?_) (fun cdv A outer s H vs Q E hcd hr h => ?_)
  · obtain ⟨v, rfl, _⟩ := h
    rfl
  obtain ⟨v, rfl, ⟨d, t, u, p, a, b, c, xa, xb, xc, rfl, hp, ha, da, hb, tb, hc, uc, fit⟩, fin⟩ := h
  refine ⟨_, (pss_one (ps_ret (pe_make T.mk_Routine (ok_Routine_init (w := w) T B) (hr.mono (by decide)) (by rfl) T.m_Routine T.bi_Routine_init .nil pass0 (pa_cons (pe_callTy call_list_of (by rfl) T.b_list (by decide +kernel) (pa_cons (pe_ix ix_tup (pv 0) pe_int (fun _ _ => rfl)) pa_nil)) (pa_cons (pe_callTy call_list_of (by rfl) T.b_list (by decide +kernel) (pa_cons (pe_ix ix_tup (pv 0) pe_int (fun _ _ => rfl)) pa_nil)) (pa_cons (pe_callTy call_list_of (by rfl) T.b_list (by decide +kernel) (pa_cons (pe_ix ix_tup (pv 0) pe_int (fun _ _ => rfl)) pa_nil)) pa_nil)))))), ?_⟩
  refine retE (makeI ?_)
  refine ⟨_, rfl, p, _, 0, _, rfl, rfl, SqT.of hp, at0, a, _, rfl, .inl (SqL.of ha), fun l1 h1 => ?_⟩
  have s1 := same_upd (o := .lst xa) h1
  have e1 : upd H l1 (.lst xa) l1 = some (.lst xa) := upd_same
  generalize upd H l1 (.lst xa) = H1 at s1 e1 ⊢
  refine ⟨_, rfl, p, _, 1, _, rfl, rfl, SqT.of (s1 _ _ hp), at1, b, _, rfl, .inl (SqL.of (s1 _ _ hb)), fun l2 h2 => ?_⟩
  have s2 := same_upd (o := .lst xb) h2
  have e2 : upd H1 l2 (.lst xb) l2 = some (.lst xb) := upd_same
  generalize upd H1 l2 (.lst xb) = H2 at s2 e2 ⊢
  refine ⟨_, rfl, p, _, 2, _, rfl, rfl, SqT.of (s2 _ _ (s1 _ _ hp)), at2, c, _, rfl, .inl (SqL.of (s2 _ _ (s1 _ _ hc))), fun l3 h3 => ?_⟩
  have s3 := same_upd (o := .lst xc) h3
  have e3 : upd H2 l3 (.lst xc) l3 = some (.lst xc) := upd_same
  generalize upd H2 l3 (.lst xc) = H3 at s3 e3 ⊢
  intro x dx hx hdx hne
  have s4 : Same H3 (upd (upd H3 dx (.own x)) x (.ins T.c_Routine dx [])) := (same_upd hdx).trans (same_upd (by rw [upd_ne hne.symm]; exact hx))
  have s14 := ((s1.trans s2).trans s3).trans s4
  refine ⟨x, l1, l2, l3, dx, d, t, u, xa, xb, xc, rfl, upd_same, .inl (SqL.of (s4 _ _ (s3 _ _ (s2 _ _ e1)))), da.mono fun _ _ h => h.same s14, .inl (SqL.of (s4 _ _ (s3 _ _ e2))), tb.mono fun _ _ h => h.same s14, .inl (SqL.of (s4 _ _ e3)), uc.mono fun _ _ h => h.same s14, fit, fun H' kp ra => ⟨rfl, ?_⟩⟩
  obtain ⟨dx', pd, pt, pu, xd, xt, xu, hx', _⟩ := ra
  have hxH : H x = none := none_of ((s1.trans s2).trans s3) hx
  exact fin H' x (fun b o hb => kp _ _ (s14 _ _ hb) fun z => by rw [z, hxH] at hb; cases hb) hxH ⟨_, _, hx'⟩
theorem ok_l_left (T : Tx P w K mg) (B : Bx T base) : FnOk P w K mg base CX0 1 T.a_l_left T.fd_l_left ["_law_script", "_law_calls", "_law_words"] (spLeft K) := by
  refine okT T.F_l_left sc_l_left (fun vs H Q E h => ?_) (fun cdv A outer s H vs Q E hcd hr h => ?_)
  · obtain ⟨a, pc, pw, sc, ys, wn, ws, rfl, _⟩ := h
    rfl
  have hu65 := hu65_of hr
  obtain ⟨a, pc, pw, sc, ys, wn, ws, rfl, ha, hc, prc, hlt, hl4, hw, q⟩ := h
  refine ⟨_, (pss_cons (ps_asg (pe_tup (pa_cons (pe_lc (own := [("_law_number", 7)]) (g := gName 7) rfl sc_l_left.nd (pi_list (pv 0)) (blkOk_by (own := [("_law_number", 7)]) (N := N_l_left) (sc := defScope s_l_left) (by decide +kernel)) (fun _ _ _ _ _ => (pg_name (i := 7) sc_l_left.nd rfl (by first | exact Or.inl rfl | exact Or.inr rfl))) (fun _ _ _ _ _ => (pts_one (pt_cmpR (by exact op_in_seq : OpR _ (compareOp .In) (rIn K false)) (pe_ix (by exact ix_tup : IxR _ (rIxT K)) (pe_ix (by exact ix_list : IxR _ (rIxL K)) (pv 1) (pv 7) (fun _ _ => rfl)) pe_int (fun _ _ => rfl)) (pv 2) (by rfl)))) (fun _ _ _ _ _ => (pv 7))) (pa_cons (pe_lst pa_nil) pa_nil))) (pg_tup rfl (pgs_cons (pg_name (i := 3) sc_l_left.nd rfl (by first | exact Or.inl rfl | exact Or.inr rfl)) (pgs_cons (pg_name (i := 4) sc_l_left.nd rfl (by first | exact Or.inl rfl | exact Or.inr rfl)) pgs_nil))))
 (pss_cons (ps_for PassesOwn.never rfl (pi_range1 (by rfl) T.b_range (pa_cons (pe_op op_pow pe_int pe_int) pa_nil)) (pg_name (i := 5) sc_l_left.nd rfl (by first | exact Or.inl rfl | exact Or.inr rfl))
 (pss_one (ps_if (pt_cmpR op_lt (pv 5) (pe_ix ix_list (pe_lst (pa_cons pe_int (pa_cons pe_int (pa_cons pe_int (pa_cons pe_int (pa_cons pe_int pa_nil)))))) (pe_callB call_len_seq (by rfl) T.b_len (by decide +kernel) (pa_cons (pv 3) pa_nil)) (fun _ _ => rfl)) (nomark _))
 (pss_cons (ps_set (i := 6) sc_l_left.nd rfl (by first | exact Or.inl rfl | exact Or.inr rfl) (pe_lc (own := [("_law_k", 8)]) (g := gName 8) rfl sc_l_left.nd (pi_range1 (by rfl) T.b_range (pa_cons (pe_callB call_len_seq (by rfl) T.b_len (by decide +kernel) (pa_cons (pv 3) pa_nil)) pa_nil)) (blkOk_by (own := [("_law_k", 8)]) (N := N_l_left) (sc := defScope s_l_left) (by decide +kernel)) (fun _ _ _ _ _ => (pg_name (i := 8) sc_l_left.nd rfl (by first | exact Or.inl rfl | exact Or.inr rfl))) (fun _ _ _ _ _ => pts_nil) (fun _ _ _ _ _ => (pe_op op_mod (pe_op op_fdivN (pe_callTy call_int1 (by rfl) T.b_int (by decide +kernel) (pa_cons (pv 5) pa_nil)) (pe_ix (by exact ix_list : IxR _ (rIxL K)) (pe_lst (pa_cons pe_int (pa_cons pe_int (pa_cons pe_int (pa_cons pe_int pa_nil))))) (pv 8) (fun _ _ => rfl))) pe_int))))
 (pss_one (ps_expr (pe_bm PySem.F.plainAttrs_list PySem.F.slot_list_append PySem.F.type_list_append mt_append (pv 4) (pa_cons (pe_callTy call_tuple_of (by rfl) T.b_tuple (by decide +kernel) (pa_cons (pe_lc (own := [("_law_k", 8)]) (g := gName 8) rfl sc_l_left.nd (pi_range1 (by rfl) T.b_range (pa_cons (pe_callB call_len_seq (by rfl) T.b_len (by decide +kernel) (pa_cons (pv 3) pa_nil)) pa_nil)) (blkOk_by (own := [("_law_k", 8)]) (N := N_l_left) (sc := defScope s_l_left) (by decide +kernel)) (fun _ _ _ _ _ => (pg_name (i := 8) sc_l_left.nd rfl (by first | exact Or.inl rfl | exact Or.inr rfl))) (fun _ _ _ _ _ => (pts_one (pt_cmpR op_eq (pe_ix (by exact ix_list : IxR _ (rIxL K)) (pv 6) (pv 8) (fun _ _ => rfl)) pe_int (nomark _)))) (fun _ _ _ _ _ => (pe_ix (by exact ix_list : IxR _ (rIxL K)) (pv 3) (pv 8) (fun _ _ => rfl)))) pa_nil)) pa_nil)))))
 pss_nil)))
 (pss_one (ps_ret (pv 4))))), ?_⟩
  refine asgI ⟨_, rfl, a, rfl, ⟨_, ha⟩, fun O hO => ?_⟩
  refine lcF (us := sc) (R0 := fun x n => x = V.int (n : Int)) (walk_list (K := K) (a := a) (xs := nums sc)) yat (paired_self sc) hO (fun H' s => s.seq ha) (by omega) (fun n => decide (wn.getD n 2 ∈ ws)) (fun n => V.int (n : Int)) (fun x n H3 Rk N hm hx s3 ky kn => ?_) (fun H3 s3 hO3 => ?_)
  · subst hx
    obtain ⟨v, hv, q1, b, val, rfl, hq⟩ := paired_ix' prc (List.getElem?_eq_getElem (hlt n hm))
    have ew : wn.getD n 2 = wn[n]'(hlt n hm) := by rw [List.getD_eq_getElem?_getD, List.getElem?_eq_getElem (hlt n hm)]; rfl
    refine ⟨rfl, ?_⟩
    refine ⟨_, rfl, _, rfl, pc, ys, (n : Int), .ref q1, rfl, rfl, s3.seq hc, at_of (j := n) (by omega) hv, ?_⟩
    refine ⟨q1, _, 1, .int ((wn[n]'(hlt n hm) : Nat) : Int), rfl, rfl, (hq.same s3).t, at1, ?_⟩
    refine ⟨_, rfl, pw, nums ws, rfl, .inr (hw.same s3).t, rfl, nums_flat ws, _, rfl, ?_⟩
    rw [inV_nums, ← ew]
    refine iteD (fun h => ?_) (fun h => ?_)
    · exact ⟨_, rfl, ky (decide_eq_true h)⟩
    · exact kn (decide_eq_false h)
  have eo : (sc.filter fun n => decide (wn.getD n 2 ∈ ws)) = ownS wn ws sc := rfl
  rw [eo] at hO3
  have ol : (ownS wn ws sc).length ≤ 4 := Nat.le_trans (List.length_filter_le _ _) hl4
  generalize ownS wn ws sc = own at hO3 ol q ⊢
  have hO3 : H3 O = some (.lst (nums own)) := hO3
  refine ⟨by show 0 ≤ sizeLine; decide, fun F hF => ?_⟩
  have hOF : O ≠ F := fun e => by rw [e] at hO3; rw [hO3] at hF; cases hF
  have s4 := same_upd (o := .lst []) hF
  have hF4 : upd H3 F (.lst []) F = some (.lst []) := upd_same
  generalize upd H3 F (.lst []) = H4 at s4 hF4 ⊢
  refine ⟨by show 2 ≤ sizeLine; decide, fun tp htp => ?_⟩
  refine ⟨tp, [.ref O, .ref F], rfl, .inl (.inl upd_same), rfl, _, _, rfl, _, _, rfl, rfl, ?_⟩
  have s5 := same_upd (o := .tup [V.ref O, V.ref F]) htp
  have hF5 := s5 _ _ hF4
  have hO5 := s5 _ _ (s4 _ _ hO3)
  have s05 : Same H _ := (s3.trans s4).trans s5
  have hFn : H F = none := none_of s3 hF
  generalize upd H4 tp (.tup [V.ref O, V.ref F]) = H5 at hF5 hO5 s05 ⊢
  refine forI2 ⟨_, _, rfl, rfl, ⟨by decide, by decide, by decide⟩, _, rfl, by decide, by decide, ?_⟩
  rw [show ((2 : Int) ^ ((4 : Int)).toNat).toNat = 16 from rfl]
  refine for_it (walk_rangeN (n := 16)) (fun i σ H' => ∃ v5 v6 zs, σ = [some (.ref a), some (.ref pc), some (.ref pw), some (.ref O), some (.ref F), v5, v6, none, none] ∧ Same H H' ∧ H' O = some (.lst (nums own)) ∧ H' F = some (.lst zs) ∧ Paired (RowV K H') zs (leftI own i))
    ⟨_, _, [], rfl, s05, hO5, hF5, .nil⟩ (fun _ _ _ _ _ => True.intro) (fun i x σ H' H'' hi ⟨v5, v6, zs, hσ, s, hOs, hFs, pr⟩ y => ?_) (fun σ H' ⟨v5, v6, zs, hσ, s, hOs, hFs, pr⟩ => ?_)
  · subst hσ
    obtain ⟨rfl, hx⟩ := y
    have hx2 : x = V.int (i : Int) := by
      unfold nums at hx
      rw [List.getElem?_map] at hx
      cases e : (List.range 16)[i]? with
      | none => rw [e] at hx; cases hx
      | some j =>
        rw [e] at hx
        have := List.getElem?_range (n := 16) (i := i)
        rw [List.getElem?_range (by have := (List.getElem?_eq_some_iff.mp e).1; simpa using this)] at e
        cases e
        exact (Option.some.inj hx).symm
    subst hx2
    have hi16 : i < 16 := by unfold nums at hi; rw [List.length_map, List.length_range] at hi; exact hi
    dsimp only [gName]
    refine ⟨_, rfl, by show 5 ≤ sizeLine; decide, fun L hL => ?_⟩
    have sL := same_upd (o := .lst [V.int 1, V.int 2, V.int 4, V.int 8, V.int 16]) hL
    have eL : upd H'' L (.lst [V.int 1, V.int 2, V.int 4, V.int 8, V.int 16]) L = some (.lst [V.int 1, V.int 2, V.int 4, V.int 8, V.int 16]) := upd_same
    generalize upd H'' L (.lst [V.int 1, V.int 2, V.int 4, V.int 8, V.int 16]) = G1 at sL eL ⊢
    have nl : (nums own).length = own.length := nums_len own
    refine ⟨_, rfl, O, _, rfl, .inl (SqL.of (sL _ _ hOs)), L, _, ((nums own).length : Int), _, rfl, rfl, SqL.of eL, at_of (j := own.length) (by rw [nl]) (pows ol), _, _, rfl, rfl, _, rfl, ?_⟩
    have sH := s.trans sL
    refine iteD (fun h => ?_) (fun h => ?_)
    · have hb : i < 2 ^ own.length := by omega
      refine asgI ⟨_, rfl, O, _, rfl, .inl (SqL.of (sL _ _ hOs)), _, rfl, by omega, by omega, fun D hD => ?_⟩
      rw [show (((nums own).length : Nat) : Int).toNat = own.length by rw [nl]; rfl]
      have pk : Paired (fun x k => x = V.int ((k : Nat) : Int)) (nums (List.range own.length)) (List.range own.length) := paired_self _
      refine lcM walk_rangeN yat pk hD (fun _ _ => True.intro) (by rw [List.length_range]; omega) (fun _ y k => y = V.int ((i / 2 ^ k % 2 : Nat) : Int)) (fun _ _ _ _ _ h => h) (fun _ _ _ _ _ _ h => h) (fun j x k G2 Rk N hk hx s2 kk => ?_) (fun G2 acc s2 hacc pa => ?_)
      · subst hx
        refine ⟨rfl, yes_ite ?_⟩
        refine ⟨_, rfl, .inl ⟨_, rfl, by show 4 ≤ sizeLine; decide, fun L2 hL2 => ?_⟩⟩
        have hk4 : k < 4 := by
          have := List.mem_range.mp (List.mem_of_getElem? hk)
          omega
        refine ⟨_, rfl, L2, _, (k : Int), _, rfl, rfl, SqL.of upd_same, at_of (j := k) rfl (pows4 hk4), _, _, rfl, rfl, ⟨?_, ?_⟩, _, _, rfl, rfl, posI, ?_⟩
        · exact fun z => Nat.ne_of_gt (Nat.two_pow_pos k) (Int.ofNat_inj.mp z)
        · have : 2 ^ k ≤ 2 ^ 4 := Nat.pow_le_pow_right (by decide) (by omega)
          rw [Int.natAbs_natCast]
          omega
        · exact kk _ _ (same_upd hL2) (congrArg V.int (bit_int i k))
      · dsimp only [gName]
        have ea : acc = (List.range own.length).map fun k => V.int ((i / 2 ^ k % 2 : Nat) : Int) := by
          have : ∀ {xs : List V} {us : List Nat}, Paired (fun y k => y = V.int ((i / 2 ^ k % 2 : Nat) : Int)) xs us → xs = us.map fun k => V.int ((i / 2 ^ k % 2 : Nat) : Int) := fun p => by
            induction p with
            | nil => rfl
            | cons h _ ih => rw [h, ih]; rfl
          exact this pa
        subst ea
        have hF2 := s2 _ _ (sL _ _ hFs)
        have hO2 := s2 _ _ (sL _ _ hOs)
        refine ⟨_, rfl, .inl ⟨rfl, _, SqL.of hF2⟩, ?_⟩
        refine cbI (consI ⟨_, rfl, O, _, rfl, .inl (SqL.of hO2), _, rfl, by omega, by omega, fun D2 hD2 => ?_⟩)
        rw [show (((nums own).length : Nat) : Int).toNat = own.length by rw [nl]; rfl]
        refine lcF (us := List.range own.length) (R0 := fun x k => x = V.int ((k : Nat) : Int)) (walk_rangeN (n := own.length)) yat (paired_self _) hD2 (fun _ _ => True.intro) (by rw [List.length_range]; omega) (bitB i) (fun k => V.int ((own.getD k 0 : Nat) : Int)) (fun x k G3 Rk N hk hx s3 ky kn => ?_) (fun G3 s3 hD3 => ?_)
        · subst hx
          have hk := List.mem_range.mp hk
          refine ⟨rfl, ?_⟩
          refine ⟨_, rfl, _, rfl, D, _, (k : Int), .int ((i / 2 ^ k % 2 : Nat) : Int), rfl, rfl, SqL.of (s3 _ _ hacc), at_of (j := k) rfl (by rw [List.getElem?_map, List.getElem?_range hk]; rfl), rfl, _, rfl, ?_⟩
          have eb : decide (V.int ((i / 2 ^ k % 2 : Nat) : Int) = V.int 1) = bitB i k := by
            unfold bitB
            by_cases h : i / 2 ^ k % 2 = 1
            · rw [decide_eq_true h, decide_eq_true (by rw [h]; rfl)]
            · rw [decide_eq_false h, decide_eq_false fun z => h (by have := V.int.inj z; omega)]
          rw [eb]
          refine ite2 (fun hb => ?_) (fun hb => ?_)
          · refine ⟨_, rfl, _, rfl, O, _, (k : Int), .int ((own.getD k 0 : Nat) : Int), rfl, rfl, SqL.of (s3 _ _ hO2), at_of (j := k) rfl ?_, ky hb⟩
            unfold nums
            rw [List.getElem?_map, List.getD_eq_getElem?_getD, List.getElem?_eq_getElem hk]
            rfl
          · exact kn (by simpa using hb)
        · have hpk : (((List.range own.length).filter (bitB i)).map fun k => V.int ((own.getD k 0 : Nat) : Int)) = nums (pickS own i) := by
            unfold pickS nums
            rw [List.map_map]
            rfl
          rw [hpk] at hD3
          refine ⟨D2, _, rfl, .inl ⟨SqL.of hD3, fun l5 hl5 => ?_⟩⟩
          have s5 := same_upd (o := .tup (nums (pickS own i))) hl5
          have s25 := s3.trans s5
          have hF5 := s25 _ _ hF2
          have sA : Same H _ := (sH.trans s2).trans s25
          refine ⟨F, zs, .ref l5, rfl, rfl, hF5, ?_, _, _, zs ++ [.ref l5], rfl, fun d o h => ?_, ?_, upd_same, ?_⟩
          · rw [pr.length, sizeLine_eq]
            have := leftI_len own i
            omega
          · rw [upd_ne (ne_of_none h hFn)]
            exact sA _ _ h
          · rw [upd_ne hOF]
            exact s25 _ _ hO2
          · rw [leftI_succ, if_pos hb]
            exact paired_app (paired_mono (fun _ _ h => (h.same ((sL.trans s2).trans s25)).putL hF5) pr) (.cons ⟨l5, rfl, (SqU.of upd_same).putL hF5⟩ .nil)
    · refine ⟨_, _, zs, rfl, sH, sL _ _ hOs, sL _ _ hFs, ?_⟩
      have hb : ¬ i < 2 ^ own.length := by omega
      rw [leftI_succ, if_neg hb, List.append_nil]
      exact paired_mono (fun _ _ h => h.same sL) pr
  · subst hσ
    exact ⟨_, rfl, q H' F zs s hFn hFs pr⟩
end
end Toy


set_option Elab.async false
set_option linter.all false
set_option maxRecDepth 100000
set_option maxHeartbeats 4000000
namespace Toy
open PySem L2 Sh ShL LamX NdefX
/-! ### the law's rows -/
def spLRows (K : PySem.W.Frag) : Sp := fun vs H Q _ => ∃ (a b pc pw : Addr) (one other : List Nat) (ys : List V) (wn ws : List Nat), vs = [.ref a, .ref b, .ref pc, .ref pw] ∧ SqL K H a (nums one) ∧ SqL K H b (nums other) ∧ SqL K H pc ys ∧ Paired (CvV K H) ys wn ∧ (∀ n ∈ one, n < wn.length) ∧ (∀ n ∈ other, n < wn.length) ∧ one.length ≤ 4 ∧ other.length ≤ 4 ∧ SqU K H pw (nums ws) ∧
  ∀ H' D zs, Same H H' → H' D = some (.lst zs) → Paired (RowV K H') zs (onceS (blocksS (leftS (ownS wn ws one) ++ leftS (ownS wn ws other)) 5)) → Q (.ref D) H'
theorem blocksS_len (left : List (List Nat)) : ∀ i, (blocksS left i).length ≤ i * left.length
  | 0 => Nat.zero_le _
  | i + 1 => by
    rw [blocksS_succ, List.length_append]
    have h1 := blocksS_len left i
    have h2 : (blockS left i).length ≤ left.length := by
      unfold blockS
      split
      · exact List.length_filter_le _ _
      · rw [(List.mergeSort_perm _ _).length_eq]
        exact List.length_filter_le _ _
    rw [Nat.succ_mul]
    omega
section
variable {P : Program} {w : World} {K : PySem.W.Frag} {mg : Str → Option Value} {base : Heap}
theorem ok_l_rows (T : Tx P w K mg) (B : Bx T base) : FnOk P w K mg base CX0 2 T.a_l_rows T.fd_l_rows ["_law_one", "_law_other", "_law_calls", "_law_words"] (spLRows K) := by
  refine okT T.F_l_rows sc_l_rows (fun vs H Q E h => ?_) (fun cdv A outer s H vs Q E hcd hr h => ?_)
  · obtain ⟨a, b, pc, pw, one, other, ys, wn, ws, rfl, _⟩ := h
    rfl
  have hu := hu_of hr
  have hu65 := hu65_of hr
  obtain ⟨a, b, pc, pw, one, other, ys, wn, ws, rfl, ha, hb, hc, prc, k1, k2, l1, l2, hw, q⟩ := h
  refine ⟨_, (pss_cons (ps_asg (pe_tup (pa_cons (pe_op op_cat (pe_call (ok_l_left (w := w) T B) (hr.mono (by decide)) (by rfl) T.m_l_left T.F_l_left.kp T.bi_l_left .nil pass0 (pa_cons (pv 0) (pa_cons (pv 2) (pa_cons (pv 3) pa_nil)))) (pe_call (ok_l_left (w := w) T B) (hr.mono (by decide)) (by rfl) T.m_l_left T.F_l_left.kp T.bi_l_left .nil pass0 (pa_cons (pv 1) (pa_cons (pv 2) (pa_cons (pv 3) pa_nil))))) (pa_cons (pe_lst pa_nil) pa_nil))) (pg_tup rfl (pgs_cons (pg_name (i := 4) sc_l_rows.nd rfl (by first | exact Or.inl rfl | exact Or.inr rfl)) (pgs_cons (pg_name (i := 5) sc_l_rows.nd rfl (by first | exact Or.inl rfl | exact Or.inr rfl)) pgs_nil))))
 (pss_cons (ps_for PassesOwn.never rfl (pi_range1 (by rfl) T.b_range (pa_cons pe_int pa_nil)) (pg_name (i := 6) sc_l_rows.nd rfl (by first | exact Or.inl rfl | exact Or.inr rfl))
 (pss_one (ps_expr (pe_bm PySem.F.plainAttrs_list PySem.F.slot_list_extend PySem.F.type_list_extend mt_extend (pv 5) (pa_cons (pe_alt (pe_callB (cr_sortedDD hu65) (by rfl) T.b_sorted (by decide +kernel) (pa_cons (pe_lc (own := [("_law_row", 7)]) (g := gName 7) rfl sc_l_rows.nd (pi_list (pv 4)) (blkOk_by (own := [("_law_row", 7)]) (N := N_l_rows) (sc := defScope s_l_rows) (by decide +kernel)) (fun _ _ _ _ _ => (pg_name (i := 7) sc_l_rows.nd rfl (by first | exact Or.inl rfl | exact Or.inr rfl))) (fun _ _ _ _ _ => (pts_one (pt_cmpR op_eq (pe_callB (by exact call_len_seq : CallR _ (.builtin "len") (fun xs H Q => ∃ p ys, xs = [.ref p] ∧ (SqL K H p ys ∨ SqT K H p ys) ∧ Q (.int ys.length) H)) (by rfl) T.b_len (by decide +kernel) (pa_cons (pv 7) pa_nil)) (pv 6) (nomark _)))) (fun _ _ _ _ _ => (pv 7))) pa_nil)) (pe_callB (cr_sortedE hu65) (by rfl) T.b_sorted (by decide +kernel) (pa_cons (pe_lc (own := [("_law_row", 7)]) (g := gName 7) rfl sc_l_rows.nd (pi_list (pv 4)) (blkOk_by (own := [("_law_row", 7)]) (N := N_l_rows) (sc := defScope s_l_rows) (by decide +kernel)) (fun _ _ _ _ _ => (pg_name (i := 7) sc_l_rows.nd rfl (by first | exact Or.inl rfl | exact Or.inr rfl))) (fun _ _ _ _ _ => (pts_one (pt_cmpR op_eq (pe_callB (by exact call_len_seq : CallR _ (.builtin "len") (fun xs H Q => ∃ p ys, xs = [.ref p] ∧ (SqL K H p ys ∨ SqT K H p ys) ∧ Q (.int ys.length) H)) (by rfl) T.b_len (by decide +kernel) (pa_cons (pv 7) pa_nil)) (pv 6) (nomark _)))) (fun _ _ _ _ _ => (pv 7))) pa_nil))) pa_nil)))))
 (pss_one (ps_ret (pe_lc (own := [("_law_k", 8)]) (g := gName 8) rfl sc_l_rows.nd (pi_range1 (by rfl) T.b_range (pa_cons (pe_callB call_len_seq (by rfl) T.b_len (by decide +kernel) (pa_cons (pv 5) pa_nil)) pa_nil)) (blkOk_by (own := [("_law_k", 8)]) (N := N_l_rows) (sc := defScope s_l_rows) (by decide +kernel)) (fun _ _ _ _ _ => (pg_name (i := 8) sc_l_rows.nd rfl (by first | exact Or.inl rfl | exact Or.inr rfl))) (fun _ _ _ _ _ => (pts_one (PW.pt (pw_or (pt_cmpR op_eq (pv 8) pe_int (nomark _)) (pw_or1 (pt_cmpR (by exact (op_neD hr.units) : OpR _ (compareOp .NotEq) (rNeD K)) (pe_ix (by exact ix_list : IxR _ (rIxL K)) (pv 5) (pv 8) (fun _ _ => rfl)) (pe_ix (by exact ix_list : IxR _ (rIxL K)) (pv 5) (pe_op op_sub (pv 8) pe_int) (fun _ _ => rfl)) (nomark _))))))) (fun _ _ _ _ _ => (pe_ix (by exact ix_list : IxR _ (rIxL K)) (pv 5) (pv 8) (fun _ _ => rfl)))))))), ?_⟩
  refine asgI ?_
  refine opI (callI ⟨_, rfl, _, rfl, _, rfl, a, pc, pw, one, ys, wn, ws, rfl, ha, hc, prc, k1, l1, hw, fun H1 La z1 s1 _ e1 p1 => ?_⟩)
  refine callI ⟨_, rfl, _, rfl, _, rfl, b, pc, pw, other, ys, wn, ws, rfl, s1.seq hb, s1.seq hc, paired_mono (fun _ _ h => h.same s1) prc, k2, l2, hw.same s1, fun H2 Lb z2 s2 _ e2 p2 => ?_⟩
  have n1 : z1.length ≤ 16 := by rw [p1.length]; exact leftS_len _
  have n2 : z2.length ≤ 16 := by rw [p2.length]; exact leftS_len _
  have p12 := paired_app (paired_mono (fun _ _ h => h.same s2) p1) p2
  generalize leftS (ownS wn ws one) ++ leftS (ownS wn ws other) = left at p12 q ⊢
  refine ⟨La, Lb, z1, z2, rfl, rfl, s2 _ _ e1, e2, by rw [sizeLine_eq]; omega, fun LL hLL => ?_⟩
  have s3 := same_upd (o := .lst (z1 ++ z2)) hLL
  have eLL : upd H2 LL (.lst (z1 ++ z2)) LL = some (.lst (z1 ++ z2)) := upd_same
  generalize upd H2 LL (.lst (z1 ++ z2)) = H3 at s3 eLL ⊢
  have p3 : Paired (RowV K H3) (z1 ++ z2) left := paired_mono (fun _ _ h => h.same s3) p12
  have n3 : (z1 ++ z2).length ≤ 32 := by rw [List.length_append]; omega
  generalize z1 ++ z2 = zl at eLL p3 n3 ⊢
  have nleft : left.length ≤ 32 := by rw [← p3.length]; exact n3
  refine ⟨by show 0 ≤ sizeLine; decide, fun F hF => ?_⟩
  have hLF : LL ≠ F := fun e => by rw [e] at eLL; rw [eLL] at hF; cases hF
  have s4 := same_upd (o := .lst []) hF
  have hF4 : upd H3 F (.lst []) F = some (.lst []) := upd_same
  generalize upd H3 F (.lst []) = H4 at s4 hF4 ⊢
  refine ⟨by show 2 ≤ sizeLine; decide, fun tp htp => ?_⟩
  refine ⟨tp, [.ref LL, .ref F], rfl, .inl (.inl upd_same), rfl, _, _, rfl, _, _, rfl, rfl, ?_⟩
  have s5 := same_upd (o := .tup [V.ref LL, V.ref F]) htp
  have hF5 := s5 _ _ hF4
  have hL5 := s5 _ _ (s4 _ _ eLL)
  have s03 : Same H H3 := (s1.trans s2).trans s3
  have s05 : Same H _ := (s03.trans s4).trans s5
  have p5 := paired_mono (fun _ _ h => RowV.same (s4.trans s5) h) p3
  have hFn : H F = none := none_of s03 hF
  generalize upd H4 tp (.tup [V.ref LL, V.ref F]) = H5 at hF5 hL5 s05 p5 ⊢
  refine forI2 ⟨_, rfl, by decide, by decide, ?_⟩
  rw [show ((5 : Int)).toNat = 5 from rfl]
  refine for_it (walk_rangeN (n := 5)) (fun i σ H' => ∃ v6 zs, σ = [some (.ref a), some (.ref b), some (.ref pc), some (.ref pw), some (.ref LL), some (.ref F), v6, none, none] ∧ Same H H' ∧ H' LL = some (.lst zl) ∧ Paired (RowV K H') zl left ∧ H' F = some (.lst zs) ∧ Paired (RowV K H') zs (blocksS left i))
    ⟨_, [], rfl, s05, hL5, p5, hF5, .nil⟩ (fun _ _ _ _ _ => True.intro) (fun i x σ H' H'' hi ⟨v6, zs, hσ, s, hLs, pl, hFs, pr⟩ y => ?_) (fun σ H' ⟨v6, zs, hσ, s, hLs, pl, hFs, pr⟩ => ?_)
  · subst hσ
    obtain ⟨rfl, hx⟩ := y
    have hi5 : i < 5 := by unfold nums at hi; rw [List.length_map, List.length_range] at hi; exact hi
    have hx2 : x = V.int (i : Int) := by
      unfold nums at hx
      rw [List.getElem?_map, List.getElem?_range hi5] at hx
      exact (Option.some.inj hx).symm
    subst hx2
    dsimp only [gName]
    refine ⟨_, rfl, .inl ⟨rfl, _, SqL.of hFs⟩, ?_⟩
    have nb := blocksS_len left i
    have nz : zs.length ≤ 200 := by
      rw [pr.length]
      have : i * left.length ≤ 5 * 32 := Nat.mul_le_mul (Nat.le_of_lt hi5) nleft
      omega
    have after : ∀ (G : Hp) (p : Addr) (out : List V), Same H'' G → G p = some (.lst out) → Paired (RowV K G) out (blockS left i) → zs.length + out.length ≤ sizeLine ∧ G F = some (.lst zs) ∧ Same H (upd G F (.lst (zs ++ out))) ∧ (upd G F (.lst (zs ++ out))) LL = some (.lst zl) ∧
        Paired (RowV K (upd G F (.lst (zs ++ out)))) zl left ∧ Paired (RowV K (upd G F (.lst (zs ++ out)))) (zs ++ out) (blocksS left (i + 1)) := fun G p out sG hp po => by
      have hFG := sG _ _ hFs
      have no : out.length ≤ 32 := by
        rw [po.length]
        unfold blockS
        split
        · exact Nat.le_trans (List.length_filter_le _ _) nleft
        · rw [(List.mergeSort_perm _ _).length_eq]
          exact Nat.le_trans (List.length_filter_le _ _) nleft
      refine ⟨by rw [sizeLine_eq]; omega, hFG, fun c o h => ?_, ?_, paired_mono (fun _ _ h => (h.same sG).putL hFG) pl, ?_⟩
      · rw [upd_ne (ne_of_none h hFn)]
        exact sG _ _ (s _ _ h)
      · rw [upd_ne hLF]
        exact sG _ _ hLs
      · rw [blocksS_succ]
        exact paired_app (paired_mono (fun _ _ h => (h.same sG).putL hFG) pr) (paired_mono (fun _ _ h => h.putL hFG) po)
    have test : ∀ (r : List Nat), decide (V.int ((nums r).length : Nat) = V.int ((i : Nat) : Int)) = decide (r.length = i) := fun r => by
      rw [nums_len]
      by_cases h : r.length = i
      · rw [decide_eq_true h, decide_eq_true (by rw [h])]
      · rw [decide_eq_false h, decide_eq_false fun z => h (Int.ofNat_inj.mp (V.int.inj z))]
    refine consI ?_
    by_cases h0 : i = 0
    · refine .inr (cbI (consI ⟨_, rfl, LL, rfl, ⟨_, SqL.of hLs⟩, fun D hD => ?_⟩))
      refine lcMK (walk_list (K := K) (a := LL) (xs := zl)) yat pl hD (fun H' s => s.seq (SqL.of hLs)) (by omega) (fun r => decide (r.length = i)) (fun H y r => RowV K H y r) (fun _ _ _ _ s h => h.same s) (fun _ _ _ _ _ e h => h.putL e) (fun j x r G2 Rk N hr hx s2 ky kn => ?_) (fun G2 acc s2 hacc pa => ?_)
      · obtain ⟨p, rfl, hp⟩ := hx.same s2
        refine ⟨rfl, ?_⟩
        refine ⟨_, rfl, p, _, rfl, .inr hp.t, _, rfl, rfl, _, rfl, ?_⟩
        rw [test]
        exact ite2 (fun h => ⟨_, rfl, ky h _ _ (Same.refl _) ⟨p, rfl, hp⟩⟩) fun h => kn (by simpa using h) _ (Same.refl _)
      · refine ⟨D, acc, rfl, SqL.of hacc, fun x hx => ?_, fun p hp => ?_⟩
        · obtain ⟨k, hk⟩ := List.mem_iff_getElem?.mp hx
          obtain ⟨r, hr, p, rfl, hp⟩ := paired_ix pa hk
          have := (List.mem_filter.mp (List.mem_of_getElem? hr)).2
          have hr0 : r = [] := List.length_eq_zero_iff.mp ((of_decide_eq_true this).trans h0)
          subst hr0
          exact ⟨p, rfl, hp.t⟩
        · have s3 := same_upd (o := .lst acc) hp
          obtain ⟨b1, b2, b3, b4, b5, b6⟩ := after _ p acc (s2.trans s3) upd_same (by
            unfold blockS
            rw [if_pos h0]
            exact paired_mono (fun _ _ h => h.same s3) pa)
          exact ⟨F, p, zs, acc, rfl, rfl, b2, upd_same, b1, _, zs ++ acc, rfl, b3, b4, b5, upd_same, b6⟩
    · refine .inl (cbI (consI ⟨_, rfl, LL, rfl, ⟨_, SqL.of hLs⟩, fun D hD => ?_⟩))
      refine lcMK (walk_list (K := K) (a := LL) (xs := zl)) yat pl hD (fun H' s => s.seq (SqL.of hLs)) (by omega) (fun r => decide (r.length = i)) (fun H y r => RowV K H y r) (fun _ _ _ _ s h => h.same s) (fun _ _ _ _ _ e h => h.putL e) (fun j x r G2 Rk N hr hx s2 ky kn => ?_) (fun G2 acc s2 hacc pa => ?_)
      · obtain ⟨p, rfl, hp⟩ := hx.same s2
        refine ⟨rfl, ?_⟩
        refine ⟨_, rfl, p, _, rfl, .inr hp.t, _, rfl, rfl, _, rfl, ?_⟩
        rw [test]
        exact ite2 (fun h => ⟨_, rfl, ky h _ _ (Same.refl _) ⟨p, rfl, hp⟩⟩) fun h => kn (by simpa using h) _ (Same.refl _)
      · have ef : (left.filter fun r => decide (r.length = i)) = ofLen left i := rfl
        rw [ef] at pa
        refine ⟨D, acc, (ofLen left i).map rowD, rfl, SqL.of hacc, rows_dp pa, PySem.W.AllAlike.of fun a b => alike_rowD a b, .inl fun d hd => ?_, fun d hd => ?_, fun p hp => ?_⟩
        · obtain ⟨r, hr, rfl⟩ := List.mem_map.mp hd
          have hr := of_decide_eq_true (List.mem_filter.mp hr).2
          cases r with
          | nil => exact absurd hr.symm h0
          | cons x r => exact ⟨_, _, rfl⟩
        · obtain ⟨r, hr, rfl⟩ := List.mem_map.mp hd
          have := (rowD_lay r).2
          omega
        · have s3 := same_upd (o := .lst ((sortPairs acc ((ofLen left i).map rowD)).map Prod.fst)) hp
          obtain ⟨b1, b2, b3, b4, b5, b6⟩ := after _ p _ (s2.trans s3) upd_same (by
            unfold blockS
            rw [if_neg h0, ← le_rowD]
            exact paired_mono (fun _ _ h => h.same s3) (sortPairs_paired rowD pa))
          exact ⟨F, p, zs, _, rfl, rfl, b2, upd_same, b1, _, _, rfl, b3, b4, b5, upd_same, b6⟩
  · subst hσ
    dsimp only
    have nb := blocksS_len left 5
    have nz : zs.length ≤ 160 := by
      rw [pr.length]
      have : 5 * left.length ≤ 5 * 32 := Nat.mul_le_mul (Nat.le_refl _) nleft
      simp only [nums_len, List.length_range] at nb ⊢
      omega
    have lz : zs.length = (blocksS left 5).length := by
      have := pr.length
      simp only [nums_len, List.length_range] at this
      exact this
    have pr : Paired (RowV K H') zs (blocksS left 5) := by
      simp only [nums_len, List.length_range] at pr
      exact pr
    generalize blocksS left 5 = Bk at lz pr q
    refine retE ⟨_, rfl, F, _, rfl, .inl (SqL.of hFs), _, rfl, by omega, by omega, fun D hD => ?_⟩
    rw [show ((zs.length : Nat) : Int).toNat = zs.length from rfl]
    have pk : Paired (fun x k => x = V.int ((k : Nat) : Int)) (nums (List.range zs.length)) (List.range zs.length) := paired_self _
    refine lcMK walk_rangeN yat pk hD (fun _ _ => True.intro) (by rw [List.length_range]; omega) (keepB Bk) (fun H y k => RowV K H y (Bk.getD k [])) (fun _ _ _ _ s h => h.same s) (fun _ _ _ _ _ e h => h.putL e) (fun j x k G2 Rk N hk hx s2 ky kn => ?_) (fun G2 acc s2 hacc pa => ?_)
    · subst hx
      have hk := List.mem_range.mp (List.mem_of_getElem? hk)
      have pr2 : Paired (RowV K G2) zs Bk := paired_mono (fun _ _ h => h.same s2) pr
      have hF2 := s2 _ _ hFs
      have get : ∀ n, n < zs.length → ∃ v, zs[n]? = some v ∧ RowV K G2 v (Bk.getD n []) := fun n hn => by
        obtain ⟨v, hv, hr⟩ := paired_ix' pr2 (List.getElem?_eq_getElem (lz ▸ hn))
        exact ⟨v, hv, by rw [getD_at (lz ▸ hn)]; exact hr⟩
      obtain ⟨v1, hv1, hr1⟩ := get k hk
      refine ⟨rfl, ?_⟩
      refine ⟨_, rfl, rfl, _, rfl, ?_⟩
      by_cases h0 : k = 0
      · rw [decide_eq_true (show V.int ((k : Nat) : Int) = V.int 0 by rw [h0]; rfl)]
        refine iteT ?_
        refine iteT ⟨_, rfl, _, rfl, F, zs, (k : Int), v1, rfl, rfl, SqL.of hF2, at_of (j := k) rfl hv1, ky ?_ _ _ (Same.refl _) hr1⟩
        unfold keepB
        rw [decide_eq_true h0]
        rfl
      · rw [decide_eq_false (show ¬ V.int ((k : Nat) : Int) = V.int 0 from fun z => h0 (by have := V.int.inj z; omega))]
        refine iteF ?_
        obtain ⟨v0, hv0, hr0⟩ := get (k - 1) (by omega)
        refine ⟨_, rfl, _, rfl, F, zs, (k : Int), v1, rfl, rfl, SqL.of hF2, at_of (j := k) rfl hv1, _, rfl, _, rfl, _, _, rfl, rfl, F, zs, (k : Int) - 1, v0, rfl, rfl, SqL.of hF2, at_of (j := k - 1) (by omega) hv0, rowD (Bk.getD k []), rowD (Bk.getD (k - 1) []), hr1.dp, hr0.dp, rowD_shaped _, rowD_shaped _, _, rfl, ?_⟩
        have e1 : PyData.eqv (rowD (Bk.getD k [])) (rowD (Bk.getD (k - 1) [])) = decide (Bk.getD k [] = Bk.getD (k - 1) []) := by
          unfold rowD
          simp only [PyData.eqv, eqvAll_nums]
        have ek : keepB Bk k = !decide (Bk.getD k [] = Bk.getD (k - 1) []) := by
          unfold keepB
          rw [decide_eq_false h0, Bool.false_or]
        rw [e1, ← ek]
        exact ite2 (fun h => ⟨_, rfl, _, rfl, F, zs, (k : Int), v1, rfl, rfl, SqL.of hF2, at_of (j := k) rfl hv1, ky h _ _ (Same.refl _) hr1⟩) fun h => kn (by simpa using h) _ (Same.refl _)
    · refine q _ D acc (s.trans s2) hacc ?_
      unfold onceS
      rw [← lz]
      exact paired_map (S := RowV K G2) (f := fun k => Bk.getD k []) (fun _ _ h => h) pa
end
end Toy


set_option Elab.async false
set_option linter.all false
set_option maxRecDepth 100000
set_option maxHeartbeats 4000000
namespace Toy
open PySem L2 Sh ShL LamX NdefX
/-! ### the two scripts -/
theorem min2_int (a b : Int) : nuMin2 (.int a) (.int b) = some (.int (if b < a then b else a)) := by
  show (some (decide (b < a))).map (fun c => if c = true then V.int b else V.int a) = _
  by_cases h : b < a <;> simp [h]
theorem min3_int (a b c : Int) : ∃ t, nuMin3 (.int a) (.int b) (.int c) = some (.int t) ∧ t ≤ a ∧ t ≤ b ∧ t ≤ c ∧ (0 ≤ a → 0 ≤ b → 0 ≤ c → 0 ≤ t) := by
  refine ⟨if c < (if b < a then b else a) then c else (if b < a then b else a), ?_, ?_⟩
  · unfold nuMin3
    rw [min2_int]
    exact min2_int _ _
  · split <;> split <;> omega
theorem menu_ne {m : Nat} {o : List Nat} (h : o.length < m) : (List.range m).filter (fun x => !decide (x ∈ o)) ≠ [] := fun e => by
  have hs : List.range m ⊆ o := fun x hx => by
    refine Classical.byContradiction fun n => ?_
    have : x ∈ (List.range m).filter (fun x => !decide (x ∈ o)) := List.mem_filter.mpr ⟨hx, by simp [n]⟩
    rw [e] at this
    cases this
  have := List.Nodup.length_le_of_subset List.nodup_range hs
  rw [List.length_range] at this
  omega
def OrdV (H : Hp) (v : V) (o : List Nat) : Prop := ∃ p, v = .ref p ∧ H p = some (.lst (nums o))
def sumL (os : List (List Nat)) : Nat := (os.map List.length).sum
theorem sumL_snoc (os : List (List Nat)) (o : List Nat) : sumL (os ++ [o]) = sumL os + o.length := by
  unfold sumL
  rw [List.map_append, List.sum_append]
  simp
theorem OrdV.kp {d : Addr} {H H' : Hp} {kvs : List (Key × V)} (hd : H d = some (.dK kvs)) (k : Kp d H H') {v : V} {o : List Nat} (h : OrdV H v o) : OrdV H' v o := let ⟨p, e, h1⟩ := h; ⟨p, e, k _ _ h1 (ne_of h1 hd fun z => nomatch z)⟩
theorem ordU {G : Hp} {O : Addr} {x : HO} : ∀ {rs : List V} {os : List (List Nat)}, (∀ v ∈ rs, v ≠ V.ref O) → Paired (OrdV G) rs os → Paired (OrdV (upd G O x)) rs os
  | _, _, _, .nil => .nil
  | _, _, h, .cons ⟨p, e, h1⟩ t => .cons ⟨p, e, by rw [upd_ne fun z => h _ List.mem_cons_self (by rw [e, z])]; exact h1⟩ (ordU (fun v hv => h v (List.mem_cons_of_mem _ hv)) t)
def spScripts : Sp := fun vs H Q _ => ∃ (d c : Addr) (n m : Nat), vs = [.ref d, .int (m : Nat)] ∧ Pen H d c n ∧ n ≤ 50000 ∧ 1 ≤ m ∧ m ≤ 4 ∧
  ∀ H' p a b (one other : List Nat), Kp d H H' → Pen H' d c (n + 20) → H' p = some (.tup [.ref a, .ref b]) → H' a = some (.lst (nums one)) → H' b = some (.lst (nums other)) → one.Nodup → other.Nodup → (∀ x ∈ one, x < m) → (∀ x ∈ other, x < m) → one.length + other.length ≤ 4 → Q (.ref p) H'
section
variable {P : Program} {w : World} {K : PySem.W.Frag} {mg : Str → Option Value} {base : Heap}
theorem ok_l_scripts (T : Tx P w K mg) (B : Bx T base) : FnOk P w K mg base CX0 3 T.a_l_scripts T.fd_l_scripts ["_law_pen", "_law_many"] spScripts := by
  refine okT T.F_l_scripts sc_l_scripts (fun vs H Q E h => ?_) (fun cdv A outer s H vs Q E hcd hr h => ?_)
  · obtain ⟨d, c, n, m, rfl, _⟩ := h
    rfl
  have hu := hu_of hr
  have hu65 := hu65_of hr
  obtain ⟨d, c, n, m, rfl, hp, hn, m1, m4, q⟩ := h
  refine ⟨_, (pss_cons (ps_par (i := 2) (j := 3) (by rfl) sc_l_scripts.nd rfl rfl (by decide) rfl rfl (pa_cons (pe_lst pa_nil) (pa_cons pe_int pa_nil)) (by rfl))
 (pss_cons (ps_for PassesOwn.never rfl (pi_range1 (by rfl) T.b_range (pa_cons pe_int pa_nil)) (pg_name (i := 4) sc_l_scripts.nd rfl (by first | exact Or.inl rfl | exact Or.inr rfl))
 (pss_cons (ps_set (i := 5) sc_l_scripts.nd rfl (by first | exact Or.inl rfl | exact Or.inr rfl) (pe_lst pa_nil))
 (pss_cons (ps_for PassesOwn.never rfl (pi_range1 (by rfl) T.b_range (pa_cons (pe_callB (call_min3Nu rfl) (by rfl) T.b_min (by decide +kernel) (pa_cons (pv 3) (pa_cons (pe_ifExp (pt_cmpR op_eq (pv 4) pe_int (nomark _)) (pe_op op_add pe_int (pe_call (ok_l_draw (w := w) T B) (hr.mono (by decide)) (by rfl) T.m_l_draw T.F_l_draw.kp T.bi_l_draw .nil pass0 (pa_cons (pv 0) (pa_cons pe_int pa_nil)))) (pe_call (ok_l_draw (w := w) T B) (hr.mono (by decide)) (by rfl) T.m_l_draw T.F_l_draw.kp T.bi_l_draw .nil pass0 (pa_cons (pv 0) (pa_cons pe_int pa_nil)))) (pa_cons (pv 1) pa_nil)))) pa_nil)) (pg_name (i := 6) sc_l_scripts.nd rfl (by first | exact Or.inl rfl | exact Or.inr rfl))
 (pss_one (ps_expr (pe_bm PySem.F.plainAttrs_list PySem.F.slot_list_append PySem.F.type_list_append mt_append (pv 5) (pa_cons (pe_call (ok_l_pick (w := w) T B) (hr.mono (by decide)) (by rfl) T.m_l_pick T.F_l_pick.kp T.bi_l_pick .nil pass0 (pa_cons (pv 0) (pa_cons (pe_lc (own := [("_law_number", 8)]) (g := gName 8) rfl sc_l_scripts.nd (pi_range1 (by rfl) T.b_range (pa_cons (pv 1) pa_nil)) (blkOk_by (own := [("_law_number", 8)]) (N := N_l_scripts) (sc := defScope s_l_scripts) (by decide +kernel)) (fun _ _ _ _ _ => (pg_name (i := 8) sc_l_scripts.nd rfl (by first | exact Or.inl rfl | exact Or.inr rfl))) (fun _ _ _ _ _ => (pts_one (pt_cmpR (by exact op_notIn_seq : OpR _ (compareOp .NotIn) (rIn K true)) (pv 8) (pv 5) (by rfl)))) (fun _ _ _ _ _ => (pv 8))) pa_nil))) pa_nil)))))
 (pss_cons (ps_set (i := 3) sc_l_scripts.nd rfl (by first | exact Or.inl rfl | exact Or.inr rfl) (pe_op op_sub (pv 3) (pe_callB call_len_seq (by rfl) T.b_len (by decide +kernel) (pa_cons (pv 5) pa_nil))))
 (pss_one (ps_expr (pe_bm PySem.F.plainAttrs_list PySem.F.slot_list_append PySem.F.type_list_append mt_append (pv 2) (pa_cons (pv 5) pa_nil))))))))
 (pss_cons (ps_set (i := 7) sc_l_scripts.nd rfl (by first | exact Or.inl rfl | exact Or.inr rfl) (pe_and (pe_cmpR op_eq (pe_call (ok_l_draw (w := w) T B) (hr.mono (by decide)) (by rfl) T.m_l_draw T.F_l_draw.kp T.bi_l_draw .nil pass0 (pa_cons (pv 0) (pa_cons pe_int pa_nil))) pe_int (nomark _)) (pe_one (pe_cmpR op_le (pe_callB call_len_seq (by rfl) T.b_len (by decide +kernel) (pa_cons (pe_ix ix_list (pv 2) pe_int (fun _ _ => rfl)) pa_nil)) pe_int (nomark _)))))
 (pss_one (ps_ret (pe_tup (pa_cons (pe_ix ix_list (pv 2) pe_int (fun _ _ => rfl)) (pa_cons (pe_ifExp (pt_val (pv 7)) (pe_revL (pe_ix ix_list (pv 2) pe_int (fun _ _ => rfl))) (pe_ix ix_list (pv 2) pe_int (fun _ _ => rfl))) pa_nil)))))))), ?_⟩
  refine parI ⟨by show 0 ≤ sizeLine; decide, fun R hR => ⟨_, _, rfl, ?_⟩⟩
  obtain ⟨dk0, hd0⟩ := hp.at
  have hRd : R ≠ d := fun e => by rw [e, hd0] at hR; cases hR
  have s1 := same_upd (o := .lst []) hR
  have hR1 : upd H R (.lst []) R = some (.lst []) := upd_same
  have hp1 := hp.same s1
  have k1 : Kp d H (upd H R (.lst [])) := Same.kp s1
  generalize upd H R (.lst []) = H1 at s1 hR1 hp1 k1 ⊢
  refine forI2 ⟨_, rfl, by decide, by decide, ?_⟩
  rw [show ((2 : Int)).toNat = 2 from rfl]
  refine for_it (walk_rangeN (n := 2)) (fun i σ H' => ∃ (v4 v5 v6 : Option V) (rs : List V) (os : List (List Nat)) (lf : Int), σ = [some (.ref d), some (.int (m : Nat)), some (.ref R), some (.int lf), v4, v5, v6, none, none] ∧ Kp d H H' ∧ Pen H' d c (n + 5 * i) ∧ H' R = some (.lst rs) ∧ Paired (OrdV H') rs os ∧ os.length = i ∧ (∀ o ∈ os, o.Nodup ∧ ∀ x ∈ o, x < m) ∧ lf = 4 - (sumL os : Nat) ∧ sumL os ≤ 4)
    ⟨_, _, _, [], [], 4, rfl, k1, hp1, hR1, .nil, rfl, fun o h => (nomatch h), rfl, by decide⟩ (fun _ _ _ _ _ => True.intro) (fun i x σ H' H'' hi ⟨v4, v5, v6, rs, os, lf, hσ, k, pn, hRs, po, ol, oo, el, sl⟩ y => ?_) (fun σ H' ⟨v4, v5, v6, rs, os, lf, hσ, k, pn, hRs, po, ol, oo, el, sl⟩ => ?_)
  · subst hσ
    obtain ⟨rfl, hx⟩ := y
    have hi2 : i < 2 := by unfold nums at hi; rw [List.length_map, List.length_range] at hi; exact hi
    have hx2 : x = V.int (i : Int) := by
      unfold nums at hx
      rw [List.getElem?_map, List.getElem?_range hi2] at hx
      exact (Option.some.inj hx).symm
    subst hx2
    dsimp only [gName]
    refine asgI ⟨by show 0 ≤ sizeLine; decide, fun O hO => ?_⟩
    dsimp only [gName]
    obtain ⟨dk1, hd1⟩ := pn.at
    have s2 := same_upd (o := .lst []) hO
    have hOR : O ≠ R := fun e => by rw [e, hRs] at hO; cases hO
    have hOd : O ≠ d := fun e => by rw [e, hd1] at hO; cases hO
    have hO2 : upd H'' O (.lst []) O = some (.lst []) := upd_same
    have pn2 := pn.same s2
    have k2 : Kp d H (upd H'' O (.lst [])) := k.trans (Same.kp s2)
    have hR2 := s2 _ _ hRs
    have po2 : Paired (OrdV (upd H'' O (.lst []))) rs os := paired_mono (fun _ _ h => h.kp hd1 (Same.kp s2)) po
    have hOn : H O = none := by
      cases e : H O with
      | none => rfl
      | some o => rw [k _ _ e hOd] at hO; cases hO
    have hOo : ∀ v ∈ rs, v ≠ V.ref O := fun v hv e => by
      obtain ⟨j, hj⟩ := List.mem_iff_getElem?.mp hv
      obtain ⟨o, _, p, e2, hp⟩ := paired_ix po hj
      rw [e] at e2
      cases e2
      rw [hp] at hO
      cases hO
    generalize upd H'' O (.lst []) = H2 at s2 hO2 pn2 k2 hR2 po2 ⊢
    have hRo : ∀ v ∈ rs, v ≠ V.ref R := fun v hv e => by
      obtain ⟨j, hj⟩ := List.mem_iff_getElem?.mp hv
      obtain ⟨o, _, p, e2, hp⟩ := paired_ix po hj
      rw [e] at e2
      cases e2
      rw [hp] at hRs
      have e3 := HO.lst.inj (Option.some.inj hRs)
      rw [← e3] at hv
      obtain ⟨k, _, hk⟩ := List.mem_map.mp hv
      rw [e] at hk
      cases hk
    refine forI2 ⟨_, rfl, ?_⟩
    refine consI (ifEI ⟨_, rfl, rfl, _, rfl, ?_⟩)
    refine ite2 (fun h0 => ?_) (fun h0 => ?_)
    · refine opI (callI ⟨_, rfl, d, c, n + 5 * i, 3, rfl, pn2, by omega, by decide, by decide, fun H3 r r0 r3 k3 p3 => ⟨_, _, rfl, rfl, ?_⟩⟩)
      obtain ⟨t, e, t1, t2, t3, t4⟩ := min3_int lf (1 + r) (m : Nat)
      have t0 := t4 (by omega) (by omega) (by omega)
      refine ⟨_, rfl, _, _, _, _, rfl, e, _, rfl, by omega, by omega, ?_⟩
      obtain ⟨u, rfl⟩ : ∃ u : Nat, t = (u : Int) := ⟨t.toNat, by omega⟩
      rw [Int.toNat_natCast]
      have hR3 := k3 _ _ hR2 hRd
      have hO3 := k3 _ _ hO2 hOd
      obtain ⟨dk2, hd2⟩ := pn2.at
      have po3 : Paired (OrdV H3) rs os := paired_mono (fun _ _ h => h.kp hd2 k3) po2
      have k03 := k2.trans k3
      refine for_it (walk_rangeN (n := u)) (fun j σ H' => ∃ v6 o, σ = [some (.ref d), some (.int (m : Nat)), some (.ref R), some (.int lf), some (.int (i : Nat)), some (.ref O), v6, none, none] ∧ Kp d H H' ∧ Pen H' d c (n + 5 * i + 1 + j) ∧ H' R = some (.lst rs) ∧ Paired (OrdV H') rs os ∧ H' O = some (.lst (nums o)) ∧ o.length = j ∧ o.Nodup ∧ ∀ x ∈ o, x < m)
        ⟨_, [], rfl, k03, p3, hR3, po3, hO3, rfl, .nil, fun _ h => (nomatch h)⟩ (fun _ _ _ _ _ => True.intro) (fun j x σ H4 H5 hj ⟨v6, o, hσ, k4, p4, hR4, po4, hO4, oj, on, om⟩ y => ?_) (fun σ H4 ⟨v6, o, hσ, k4, p4, hR4, po4, hO4, oj, on, om⟩ => ?_)
      · subst hσ
        obtain ⟨rfl, _⟩ := y
        have hj2 : j < u := by unfold nums at hj; rw [List.length_map, List.length_range] at hj; exact hj
        dsimp only [gName]
        refine ⟨_, rfl, .inl ⟨rfl, _, SqL.of hO4⟩, ?_⟩
        refine consI (callI ⟨_, rfl, ?_⟩)
        refine consI ⟨_, rfl, _, rfl, by omega, by omega, fun D hD => ?_⟩
        rw [Int.toNat_natCast]
        refine lcF (us := List.range m) (R0 := fun x k => x = V.int ((k : Nat) : Int)) (walk_rangeN (n := m)) yat (paired_self _) hD (fun _ _ => True.intro) (by rw [List.length_range]; omega) (fun x => !decide (x ∈ o)) (fun k => V.int (k : Int)) (fun x k G3 Rk N hk hx s3 ky kn => ?_) (fun G3 s3 hD3 => ?_)
        · subst hx
          refine ⟨rfl, ?_⟩
          refine ⟨_, rfl, _, rfl, O, nums o, rfl, .inl (SqL.of (s3 _ _ hO4)), rfl, nums_flat o, _, rfl, ?_⟩
          rw [inV_nums]
          refine ite2 (fun h => ⟨_, rfl, ky (by simpa using h)⟩) (fun h => kn (by simpa using h))
        · have hne := menu_ne (m := m) (o := o) (by omega)
          have hDd : D ≠ d := by
            obtain ⟨dk4, hd4⟩ := p4.at
            exact fun e => by rw [e, hd4] at hD; cases hD
          have hDn : D ≠ O := fun e => by rw [e, hO4] at hD; cases hD
          refine ⟨d, c, D, n + 5 * i + 1 + j, _, rfl, p4.same s3, by omega, SqL.of hD3, ?_, ?_, hDd, fun H6 x hx k6 p6 => ?_⟩
          · rw [List.length_map]
            exact List.length_pos_iff.mpr hne
          · rw [List.length_map]
            exact Nat.le_trans (List.length_filter_le _ _) (by rw [List.length_range]; omega)
          · obtain ⟨x', hx', rfl⟩ := List.mem_map.mp hx
            obtain ⟨hx1, hx2⟩ := List.mem_filter.mp hx'
            have hx1 := List.mem_range.mp hx1
            have hx2 : x' ∉ o := by simpa using hx2
            have hO6 := k6 _ _ (s3 _ _ hO4) hOd
            obtain ⟨dk4, hd4⟩ := p4.at
            have k46 : Kp d H5 H6 := (Same.kp s3).trans k6
            refine ⟨O, nums o, _, rfl, rfl, hO6, by rw [nums_len, sizeLine_eq]; omega, ?_⟩
            refine ⟨_, o ++ [x'], rfl, fun b w hb nb => ?_, ?_, ?_, ordU hOo (paired_mono (fun _ _ h => h.kp hd4 k46) po4), ?_, by rw [List.length_append, oj]; rfl, ?_, ?_⟩
            · rw [upd_ne (ne_of_none hb hOn)]
              exact (k4.trans k46) _ _ hb nb
            · obtain ⟨ns, b, l, q1, q2, q3⟩ := p6
              have hcO : c ≠ O := fun e => by
                obtain ⟨ns0, b0, l0, _, qc, _⟩ := hp
                rw [e, hOn] at qc
                cases qc
              exact ⟨ns, b, l, by rw [upd_ne hOd.symm]; exact q1, by rw [upd_ne hcO]; exact q2, q3⟩
            · rw [upd_ne hOR.symm]
              exact k46 _ _ hR4 hRd
            · rw [upd_same]
              unfold nums
              rw [List.map_append]
              rfl
            · exact List.nodup_append.mpr ⟨on, List.pairwise_singleton _ _, fun a ha b hb e => hx2 (by rw [← List.mem_singleton.mp hb, ← e]; exact ha)⟩
            · intro a ha
              rcases List.mem_append.mp ha with ha | ha
              · exact om a ha
              · rw [List.mem_singleton.mp ha]
                exact hx1
      · subst hσ
        have oj : o.length = u := by simpa [nums_len, List.length_range] using oj
        have p4 : Pen H4 d c (n + 5 * i + 1 + u) := by simpa [nums_len, List.length_range] using p4
        dsimp only
        refine asgI ⟨_, rfl, _, rfl, O, _, rfl, .inl (SqL.of hO4), _, _, rfl, rfl, ?_⟩
        dsimp only [gName]
        have rl : rs.length = os.length := po.length
        refine ⟨_, rfl, .inl ⟨rfl, _, SqL.of hR4⟩, _, rfl, R, rs, .ref O, rfl, rfl, hR4, by rw [sizeLine_eq]; omega, ?_⟩
        obtain ⟨ns, b, l, q1, q2, q3⟩ := p4.mono (show n + 5 * i + 1 + u ≤ n + 5 * (i + 1) by omega)
        have hcR : c ≠ R := fun e => by
          obtain ⟨ns0, b0, l0, _, qc, _⟩ := hp
          rw [e, hR] at qc
          cases qc
        refine ⟨_, _, _, rs ++ [.ref O], os ++ [o], _, rfl, fun b w hb nb => ?_, ⟨ns, b, l, by rw [upd_ne hRd.symm]; exact q1, by rw [upd_ne hcR]; exact q2, q3⟩, upd_same, paired_app (ordU hRo po4) (.cons ⟨O, rfl, by rw [upd_ne hOR]; exact hO4⟩ .nil), by rw [List.length_append, ol]; rfl, fun o' ho => ?_, ?_, ?_⟩
        · rw [upd_ne (ne_of_none hb hR)]
          exact k4 _ _ hb nb
        · rcases List.mem_append.mp ho with ho | ho
          · exact oo o' ho
          · rw [List.mem_singleton.mp ho]
            exact ⟨on, om⟩
        · rw [sumL_snoc, nums_len]
          omega
        · rw [sumL_snoc]
          omega
    · refine callI ⟨_, rfl, d, c, n + 5 * i, 4, rfl, pn2, by omega, by decide, by decide, fun H3 r r0 r3 k3 p3 => ?_⟩
      obtain ⟨t, e, t1, t2, t3, t4⟩ := min3_int lf (r) (m : Nat)
      have t0 := t4 (by omega) (by omega) (by omega)
      refine ⟨_, rfl, _, _, _, _, rfl, e, _, rfl, by omega, by omega, ?_⟩
      obtain ⟨u, rfl⟩ : ∃ u : Nat, t = (u : Int) := ⟨t.toNat, by omega⟩
      rw [Int.toNat_natCast]
      have hR3 := k3 _ _ hR2 hRd
      have hO3 := k3 _ _ hO2 hOd
      obtain ⟨dk2, hd2⟩ := pn2.at
      have po3 : Paired (OrdV H3) rs os := paired_mono (fun _ _ h => h.kp hd2 k3) po2
      have k03 := k2.trans k3
      refine for_it (walk_rangeN (n := u)) (fun j σ H' => ∃ v6 o, σ = [some (.ref d), some (.int (m : Nat)), some (.ref R), some (.int lf), some (.int (i : Nat)), some (.ref O), v6, none, none] ∧ Kp d H H' ∧ Pen H' d c (n + 5 * i + 1 + j) ∧ H' R = some (.lst rs) ∧ Paired (OrdV H') rs os ∧ H' O = some (.lst (nums o)) ∧ o.length = j ∧ o.Nodup ∧ ∀ x ∈ o, x < m)
        ⟨_, [], rfl, k03, p3, hR3, po3, hO3, rfl, .nil, fun _ h => (nomatch h)⟩ (fun _ _ _ _ _ => True.intro) (fun j x σ H4 H5 hj ⟨v6, o, hσ, k4, p4, hR4, po4, hO4, oj, on, om⟩ y => ?_) (fun σ H4 ⟨v6, o, hσ, k4, p4, hR4, po4, hO4, oj, on, om⟩ => ?_)
      · subst hσ
        obtain ⟨rfl, _⟩ := y
        have hj2 : j < u := by unfold nums at hj; rw [List.length_map, List.length_range] at hj; exact hj
        dsimp only [gName]
        refine ⟨_, rfl, .inl ⟨rfl, _, SqL.of hO4⟩, ?_⟩
        refine consI (callI ⟨_, rfl, ?_⟩)
        refine consI ⟨_, rfl, _, rfl, by omega, by omega, fun D hD => ?_⟩
        rw [Int.toNat_natCast]
        refine lcF (us := List.range m) (R0 := fun x k => x = V.int ((k : Nat) : Int)) (walk_rangeN (n := m)) yat (paired_self _) hD (fun _ _ => True.intro) (by rw [List.length_range]; omega) (fun x => !decide (x ∈ o)) (fun k => V.int (k : Int)) (fun x k G3 Rk N hk hx s3 ky kn => ?_) (fun G3 s3 hD3 => ?_)
        · subst hx
          refine ⟨rfl, ?_⟩
          refine ⟨_, rfl, _, rfl, O, nums o, rfl, .inl (SqL.of (s3 _ _ hO4)), rfl, nums_flat o, _, rfl, ?_⟩
          rw [inV_nums]
          refine ite2 (fun h => ⟨_, rfl, ky (by simpa using h)⟩) (fun h => kn (by simpa using h))
        · have hne := menu_ne (m := m) (o := o) (by omega)
          have hDd : D ≠ d := by
            obtain ⟨dk4, hd4⟩ := p4.at
            exact fun e => by rw [e, hd4] at hD; cases hD
          have hDn : D ≠ O := fun e => by rw [e, hO4] at hD; cases hD
          refine ⟨d, c, D, n + 5 * i + 1 + j, _, rfl, p4.same s3, by omega, SqL.of hD3, ?_, ?_, hDd, fun H6 x hx k6 p6 => ?_⟩
          · rw [List.length_map]
            exact List.length_pos_iff.mpr hne
          · rw [List.length_map]
            exact Nat.le_trans (List.length_filter_le _ _) (by rw [List.length_range]; omega)
          · obtain ⟨x', hx', rfl⟩ := List.mem_map.mp hx
            obtain ⟨hx1, hx2⟩ := List.mem_filter.mp hx'
            have hx1 := List.mem_range.mp hx1
            have hx2 : x' ∉ o := by simpa using hx2
            have hO6 := k6 _ _ (s3 _ _ hO4) hOd
            obtain ⟨dk4, hd4⟩ := p4.at
            have k46 : Kp d H5 H6 := (Same.kp s3).trans k6
            refine ⟨O, nums o, _, rfl, rfl, hO6, by rw [nums_len, sizeLine_eq]; omega, ?_⟩
            refine ⟨_, o ++ [x'], rfl, fun b w hb nb => ?_, ?_, ?_, ordU hOo (paired_mono (fun _ _ h => h.kp hd4 k46) po4), ?_, by rw [List.length_append, oj]; rfl, ?_, ?_⟩
            · rw [upd_ne (ne_of_none hb hOn)]
              exact (k4.trans k46) _ _ hb nb
            · obtain ⟨ns, b, l, q1, q2, q3⟩ := p6
              have hcO : c ≠ O := fun e => by
                obtain ⟨ns0, b0, l0, _, qc, _⟩ := hp
                rw [e, hOn] at qc
                cases qc
              exact ⟨ns, b, l, by rw [upd_ne hOd.symm]; exact q1, by rw [upd_ne hcO]; exact q2, q3⟩
            · rw [upd_ne hOR.symm]
              exact k46 _ _ hR4 hRd
            · rw [upd_same]
              unfold nums
              rw [List.map_append]
              rfl
            · exact List.nodup_append.mpr ⟨on, List.pairwise_singleton _ _, fun a ha b hb e => hx2 (by rw [← List.mem_singleton.mp hb, ← e]; exact ha)⟩
            · intro a ha
              rcases List.mem_append.mp ha with ha | ha
              · exact om a ha
              · rw [List.mem_singleton.mp ha]
                exact hx1
      · subst hσ
        have oj : o.length = u := by simpa [nums_len, List.length_range] using oj
        have p4 : Pen H4 d c (n + 5 * i + 1 + u) := by simpa [nums_len, List.length_range] using p4
        dsimp only
        refine asgI ⟨_, rfl, _, rfl, O, _, rfl, .inl (SqL.of hO4), _, _, rfl, rfl, ?_⟩
        dsimp only [gName]
        have rl : rs.length = os.length := po.length
        refine ⟨_, rfl, .inl ⟨rfl, _, SqL.of hR4⟩, _, rfl, R, rs, .ref O, rfl, rfl, hR4, by rw [sizeLine_eq]; omega, ?_⟩
        obtain ⟨ns, b, l, q1, q2, q3⟩ := p4.mono (show n + 5 * i + 1 + u ≤ n + 5 * (i + 1) by omega)
        have hcR : c ≠ R := fun e => by
          obtain ⟨ns0, b0, l0, _, qc, _⟩ := hp
          rw [e, hR] at qc
          cases qc
        refine ⟨_, _, _, rs ++ [.ref O], os ++ [o], _, rfl, fun b w hb nb => ?_, ⟨ns, b, l, by rw [upd_ne hRd.symm]; exact q1, by rw [upd_ne hcR]; exact q2, q3⟩, upd_same, paired_app (ordU hRo po4) (.cons ⟨O, rfl, by rw [upd_ne hOR]; exact hO4⟩ .nil), by rw [List.length_append, ol]; rfl, fun o' ho => ?_, ?_, ?_⟩
        · rw [upd_ne (ne_of_none hb hR)]
          exact k4 _ _ hb nb
        · rcases List.mem_append.mp ho with ho | ho
          · exact oo o' ho
          · rw [List.mem_singleton.mp ho]
            exact ⟨on, om⟩
        · rw [sumL_snoc, nums_len]
          omega
        · rw [sumL_snoc]
          omega
  · subst hσ
    dsimp only
    have ol2 : os.length = 2 := by simpa [nums_len, List.length_range] using ol
    have pn : Pen H' d c (n + 10) := by simpa [nums_len, List.length_range] using pn
    obtain ⟨one, other, rfl⟩ : ∃ one other, os = [one, other] := by
      match os, ol2 with
      | [x, y], _ => exact ⟨x, y, rfl⟩
    obtain ⟨a, b, rfl, ha, hb⟩ : ∃ a b, rs = [V.ref a, V.ref b] ∧ H' a = some (.lst (nums one)) ∧ H' b = some (.lst (nums other)) := by
      match rs, po with
      | [x, y], .cons ⟨a, e1, h1⟩ (.cons ⟨b, e2, h2⟩ .nil) => exact ⟨a, b, by rw [e1, e2], h1, h2⟩
    obtain ⟨o1, o2⟩ := oo one List.mem_cons_self
    obtain ⟨o3, o4⟩ := oo other (List.mem_cons_of_mem _ List.mem_cons_self)
    have sl2 : one.length + other.length ≤ 4 := by simpa [sumL] using sl
    have fin : ∀ (G : Hp) (tb : Bool) (v4 v5 v6 : Option V), Kp d H' G → Pen G d c (n + 11) → (tb = true → one.length ≤ 2) → tTup (tCons (tOp (rIxL K) (tVar 2) (tC (.int 0))) (tCons (tIf (tB (tVar 7)) (tRevL K (tOp (rIxL K) (tVar 2) (tC (.int 0)))) (tOp (rIxL K) (tVar 2) (tC (.int 1)))) tNil)) [some (.ref d), some (.int (m : Nat)), some (.ref R), some (.int lf), v4, v5, v6, some (.bl tb), none] G Q := fun G tb v4 v5 v6 kG pG ht => by
      obtain ⟨dk9, hd9⟩ := pn.at
      have hRG := kG _ _ hRs hRd
      have haG := kG _ _ ha (ne_of ha hd9 fun z => nomatch z)
      have hbG := kG _ _ hb (ne_of hb hd9 fun z => nomatch z)
      have pG := pG.mono (show n + 11 ≤ n + 20 by omega)
      refine ⟨_, rfl, R, _, 0, .ref a, rfl, rfl, SqL.of hRG, at0, ?_⟩
      refine consI (ifEI ⟨_, rfl, tb, rfl, ?_⟩)
      cases tb
      · refine iteF ⟨_, rfl, R, _, 1, .ref b, rfl, rfl, SqL.of hRG, at1, ?_⟩
        refine ⟨by show 2 ≤ sizeLine; decide, fun p hp => ?_⟩
        have s9 := same_upd (o := .tup [V.ref a, V.ref b]) hp
        exact q _ p a b one other ((k.trans kG).trans (Same.kp s9)) (pG.same s9) upd_same (s9 _ _ haG) (s9 _ _ hbG) o1 o3 o2 o4 sl2
      · refine iteT ⟨_, rfl, R, _, 0, .ref a, rfl, rfl, SqL.of hRG, at0, a, _, rfl, SqL.of haG, fun l hl => ?_⟩
        have s8 := same_upd (o := .lst (nums one).reverse) hl
        refine ⟨by show 2 ≤ sizeLine; decide, fun p hp => ?_⟩
        have s9 := same_upd (o := .tup [V.ref a, V.ref l]) hp
        have := ht rfl
        refine q _ p a l one one.reverse (((k.trans kG).trans (Same.kp s8)).trans (Same.kp s9)) ((pG.same s8).same s9) upd_same (s9 _ _ (s8 _ _ haG)) ?_ o1 (List.pairwise_reverse.mpr (o1.imp fun h => h.symm)) o2 (fun x hx => o2 x (List.mem_reverse.mp hx)) (by rw [List.length_reverse]; omega)
        refine s9 _ _ ?_
        rw [upd_same]
        unfold nums
        rw [List.map_reverse]
    refine asgI (opI (callI ⟨_, rfl, d, c, n + 10, 2, rfl, pn, by omega, by decide, by decide, fun G r r0 r2 kG pG => ?_⟩))
    refine ⟨rfl, _, rfl, ?_⟩
    refine ite2 (fun h => ?_) (fun h => ?_)
    · obtain ⟨dk9, hd9⟩ := pn.at
      refine ⟨_, rfl, R, _, 0, .ref a, rfl, rfl, SqL.of (kG _ _ hRs hRd), at0, a, _, rfl, .inl (SqL.of (kG _ _ ha (ne_of ha hd9 fun z => nomatch z))), _, _, rfl, rfl, ?_⟩
      dsimp only [gName]
      refine retE (fin G _ _ _ _ kG pG fun h => ?_)
      have := of_decide_eq_true h
      rw [nums_len] at this
      omega
    · dsimp only [gName]
      exact retE (fin G false _ _ _ kG pG fun h => (nomatch h))
end
end Toy


set_option Elab.async false
set_option linter.all false
set_option maxRecDepth 100000
set_option maxHeartbeats 4000000
namespace Toy
open PySem L2 Sh ShL LamX NdefX
/-! ### the law: what a draw keeps -/
theorem odd_dk {kvs : List (Key × V)} : Odd (.dK kvs) := ⟨fun _ z => (nomatch z), fun _ z => (nomatch z), fun _ _ z => (nomatch z)⟩
theorem kx_kp {d : Addr} {H H' : Hp} (k : Kp d H H') : Kx d H H' := fun b u h _ ne => k b u h ne
section
variable {P : Program} {w : World} {K : PySem.W.Frag} {H H' : Hp} {d : Addr} {kvs : List (Key × V)}
theorem DN.kp {a : Addr} {ks : List (NestedKey × V)} (hd : H d = some (.dK kvs)) (k : Kp d H H') (h : DN P w K H a ks) : DN P w K H' a ks := by
  obtain ⟨xs, h1, h2, h3⟩ := h
  exact ⟨xs, k _ _ h1 (ne_of h1 hd fun z => by unfold DNo at z; cases z), h2, fun y hy => KeyAt.kx hd odd_dk (kx_kp k) (h3 y hy)⟩
theorem D3.kp {R : Hp → V → List Nat → Prop} (hst : ∀ D o H H', H D = some o → Odd o → Kx D H H' → ∀ v r, R H v r → R H' v r) {v : V} (hd : H d = some (.dK kvs)) (k : Kp d H H') (h : D3 P w K R H v) : D3 P w K R H' v := by
  obtain ⟨d', v0, v1, v2, e, hd', r0, r1, r2⟩ := h
  exact ⟨d', v0, v1, v2, e, DN.kp hd k hd', hst _ _ _ _ hd odd_dk (kx_kp k) _ _ r0, hst _ _ _ _ hd odd_dk (kx_kp k) _ _ r1, hst _ _ _ _ hd odd_dk (kx_kp k) _ _ r2⟩
theorem CallV.kp {C : Addr} {v : V} {c : Qc} (hd : H d = some (.dK kvs)) (k : Kp d H H') (h : CallV (SqU K) C H v c) : CallV (SqU K) C H' v c := by
  obtain ⟨p, e, h1, ⟨dx', fs', h2⟩, h3⟩ := h
  exact ⟨p, e, SqU.kx hd odd_dk (kx_kp k) h1, ⟨dx', fs', k _ _ h2 (ne_of h2 hd fun z => nomatch z)⟩, h3⟩
theorem QAt.kp {C CR x : Addr} {q : Qu} (hd : H d = some (.dK kvs)) (k : Kp d H H') (h : QAt P w K C CR H x q) : QAt P w K C CR H' x q := by
  obtain ⟨dx, pc, p1, p2, pa, pw, xc, xw, s6, s7, s8, s9, h1, h2, h3, h4, h5, h6, h7, h8, h9, h10, h11⟩ := h
  exact ⟨dx, pc, p1, p2, pa, pw, xc, xw, s6, s7, s8, s9, k _ _ h1 (ne_of h1 hd fun z => nomatch z), SqU.kx hd odd_dk (kx_kp k) h2, paired_mono (fun _ _ h => h.kp hd k) h3, SqU.kx hd odd_dk (kx_kp k) h4, SqU.kx hd odd_dk (kx_kp k) h5, SqU.kx hd odd_dk (kx_kp k) h6, SqU.kx hd odd_dk (kx_kp k) h7, paired_mono (fun _ _ h => WhP.kx hd odd_dk (kx_kp k) h) h8,
    D3.kp (fun D o H H' hD ho k v r h => h.kx hD ho k) hd k h9, D3.kp (fun D o H H' hD ho k v r h => h.kx hD ho k) hd k h10, D3.kp (fun D o H H' hD ho k v r h => h.kx hD ho k) hd k h11⟩
end
theorem swapI {t : TT} {i j : Nat} {u : TS} {D : Ends} {σ : L2.St} {H : Hp} {x y : V} (hi : σ[i]? = some (some x)) (hj : σ[j]? = some (some y)) (h : t σ H fun b H1 => u D (if b = true then (σ.set i (some y)).set j (some x) else σ) H1) : tSeq (tIfS t (tPar i j (tCons (tVar j) (tCons (tVar i) tNil))) tNext) u D σ H := by
  have conv : (fun (b : Bool) H1 => u D (if b = true then (σ.set i (some y)).set j (some x) else σ) H1) = fun (b : Bool) H1 => if b = true then (tPar i j (tCons (tVar j) (tCons (tVar i) tNil))) { D with nx := u D } σ H1 else tNext { D with nx := u D } σ H1 := by
    funext b H1
    cases b
    · rfl
    · refine propext ⟨fun q => ⟨y, hj, x, hi, y, x, rfl, q⟩, ?_⟩
      rintro ⟨y', hj', x', hi', y'', x'', e, q⟩
      rw [hj] at hj'
      rw [hi] at hi'
      cases hj'
      cases hi'
      cases e
      exact q
  rw [conv] at h
  exact h
/-- a call of the law: the routine's blocks, which, value -/
def CdV (b : V) (H : Hp) (v : V) (c : Nat × Nat) : Prop := ∃ p, v = .ref p ∧ H p = some (.tup [b, .int (c.1 : Int), .int (c.2 : Int)]) ∧ c.1 ≤ 1 ∧ 1 ≤ c.2 ∧ c.2 ≤ 9
theorem CdV.same {b v : V} {H H' : Hp} {c : Nat × Nat} (s : Same H H') (h : CdV b H v c) : CdV b H' v c := let ⟨p, e, h1, h2⟩ := h; ⟨p, e, s _ _ h1, h2⟩
theorem CdV.kp {b v : V} {H H' : Hp} {d : Addr} {kvs : List (Key × V)} {c : Nat × Nat} (hd : H d = some (.dK kvs)) (k : Kp d H H') (h : CdV b H v c) : CdV b H' v c := let ⟨p, e, h1, h2⟩ := h; ⟨p, e, k _ _ h1 (ne_of h1 hd fun z => nomatch z), h2⟩
theorem CdV.cv {K : PySem.W.Frag} {b v : V} {H : Hp} {c : Nat × Nat} (h : CdV b H v c) : CvV K H v c.1 := let ⟨p, e, h1, _⟩ := h; ⟨p, b, _, e, SqU.of h1⟩
theorem UsV.same {K : PySem.W.Frag} {H H' : Hp} {v : V} (s : Same H H') (h : UsV K H v) : UsV K H' v := by
  obtain ⟨d, t, u, p, a, b, c, xa, xb, xc, e, h1, h2, h3, h4, h5, h6, h7, f⟩ := h
  exact ⟨d, t, u, p, a, b, c, xa, xb, xc, e, s _ _ h1, s _ _ h2, h3.mono fun _ _ h => h.same s, s _ _ h4, h5.mono fun _ _ h => h.same s, s _ _ h6, h7.mono fun _ _ h => h.same s, f⟩
theorem UsV.kp {K : PySem.W.Frag} {H H' : Hp} {d : Addr} {kvs : List (Key × V)} {v : V} (hd : H d = some (.dK kvs)) (k : Kp d H H') (h : UsV K H v) : UsV K H' v := by
  obtain ⟨d', t, u, p, a, b, c, xa, xb, xc, e, h1, h2, h3, h4, h5, h6, h7, f⟩ := h
  exact ⟨d', t, u, p, a, b, c, xa, xb, xc, e, k _ _ h1 (ne_of h1 hd fun z => nomatch z), k _ _ h2 (ne_of h2 hd fun z => nomatch z), h3.mono fun _ _ h => Sq.kx hd odd_dk (kx_kp k) h, k _ _ h4 (ne_of h4 hd fun z => nomatch z), h5.mono fun _ _ h => Sq.kx hd odd_dk (kx_kp k) h, k _ _ h6 (ne_of h6 hd fun z => nomatch z), h7.mono fun _ _ h => Sq.kx hd odd_dk (kx_kp k) h, f⟩
theorem paired_ex {α β γ : Type} {R : α → β → Prop} {S : α → γ → Prop} (h : ∀ a b, R a b → ∃ c, S a c) : ∀ {xs : List α} {ys : List β}, Paired R xs ys → ∃ zs, Paired S xs zs ∧ zs.length = ys.length
  | _, _, .nil => ⟨[], .nil, rfl⟩
  | _, _, .cons r t => by
    obtain ⟨c, hc⟩ := h _ _ r
    obtain ⟨zs, hz, hl⟩ := paired_ex h t
    exact ⟨c :: zs, .cons hc hz, congrArg (· + 1) hl⟩
/-- a call of the question -/
def MdV (CR : Addr) (H : Hp) (v : V) (c : Nat × Nat) : Prop := ∃ p r, v = .ref p ∧ H p = some (.tup [.ref r, .int (c.1 : Int), .int (c.2 : Int)]) ∧ (∃ dx fs, H r = some (.ins CR dx fs)) ∧ c.1 ≤ 1 ∧ 1 ≤ c.2 ∧ c.2 ≤ 9
theorem MdV.same {CR : Addr} {v : V} {H H' : Hp} {c : Nat × Nat} (s : Same H H') (h : MdV CR H v c) : MdV CR H' v c := let ⟨p, r, e, h1, ⟨dx, fs, h2⟩, h3⟩ := h; ⟨p, r, e, s _ _ h1, ⟨dx, fs, s _ _ h2⟩, h3⟩
theorem MdV.putL {CR D : Addr} {v : V} {H : Hp} {acc acc' : List V} {c : Nat × Nat} (e : H D = some (.lst acc)) (h : MdV CR H v c) : MdV CR (upd H D (.lst acc')) v c := by
  obtain ⟨p, r, e1, h1, ⟨dx, fs, h2⟩, h3⟩ := h
  refine ⟨p, r, e1, ?_, ⟨dx, fs, ?_⟩, h3⟩
  · rw [upd_ne fun z => by rw [z, e] at h1; cases h1]; exact h1
  · rw [upd_ne fun z => by rw [z, e] at h2; cases h2]; exact h2
theorem mds_calls {K : PySem.W.Frag} {CR : Addr} {H : Hp} : ∀ {ys : List V} {cd : List (Nat × Nat)}, Paired (MdV CR H) ys cd → ∃ cs : List Qc, Paired (CallV (Sq K) CR H) ys cs ∧ cs.map (·.w) = cd.map (·.1) ∧ ∀ cc ∈ cs, ∃ dx fs, H cc.r = some (.ins CR dx fs)
  | _, _, .nil => ⟨[], .nil, rfl, fun _ h => nomatch h⟩
  | _, c :: _, .cons ⟨p, r, e, h1, h2, h3⟩ t => by
    obtain ⟨cs, q1, q2, q3⟩ := mds_calls (K := K) t
    refine ⟨⟨r, c.1, (c.2 : Int)⟩ :: cs, .cons ⟨p, e, .inr (SqU.of h1), h2, h3.1, (show (1 : Int) ≤ (c.2 : Int) by have := h3.2.1; omega), (show (c.2 : Int) ≤ 9 by have := h3.2.2; omega)⟩ q1, by rw [List.map_cons, List.map_cons, q2], fun cc hc => ?_⟩
    rcases List.mem_cons.mp hc with rfl | hc
    · exact h2
    · exact q3 cc hc
theorem own_flt (cs : List Qc) (wn ws sc : List Nat) (e : cs.map (·.w) = wn) : ownS wn ws sc = flt cs ws sc := by
  subst e
  unfold ownS flt
  congr 1
  funext n
  congr 2
  unfold wAt
  rw [List.getD_eq_getElem?_getD, List.getElem?_map]
  cases cs[n]? <;> rfl
theorem rows_eqv (rs : List (List Nat)) : PyData.eqv (.tuple (rs.map rowD)) (.tuple (rs.map rowD)) = true := by
  have h : ∀ rs : List (List Nat), PyData.eqvAll (rs.map rowD) (rs.map rowD) = true := fun rs => by
    induction rs with
    | nil => rfl
    | cons r rs ih =>
      have e1 : PyData.eqv (rowD r) (rowD r) = true := by
        unfold rowD
        simp only [PyData.eqv, eqvAll_nums]
        simp
      simp only [List.map_cons, PyData.eqvAll, e1, ih]
      rfl
  simp only [PyData.eqv]
  exact h rs
def stoD (s : Str × List Nat) : PyData := .tuple [.str s.1, rowD s.2]
theorem StoV.dp {K : PySem.W.Frag} {H : Hp} {v : V} {s : Str × List Nat} (h : StoV K H v s) : Dp K H v (stoD s) := by
  obtain ⟨p, b, rfl, h1, h2⟩ := h
  exact .tup h1.t (.cons (.str _) (.cons (RowV.dp ⟨b, rfl, h2⟩) .nil))
theorem stos_dp {K : PySem.W.Frag} {H : Hp} : ∀ {ys : List V} {ss : List (Str × List Nat)}, Paired (StoV K H) ys ss → DpAll K H ys (ss.map stoD)
  | _, _, .nil => .nil
  | _, _, .cons h t => .cons h.dp (stos_dp t)
theorem stoD_lay (s : Str × List Nat) (h : s.1 = "old" ∨ s.1 = "new") : PyData.canLay0 (stoD s) = true ∧ PyData.depth (stoD s) ≤ 3 := by
  obtain ⟨k1, k2⟩ := rowD_lay s.2
  have hs : PyData.strOk s.1 = true := by
    rcases h with h | h
    · rw [h]; decide +kernel
    · rw [h]; decide +kernel
  unfold stoD
  refine ⟨by simp only [PyData.canLay0, PyData.canLayAll0, k1, hs]; rfl, ?_⟩
  simp only [PyData.depth, PyData.depthAll]
  omega
theorem stosD_lay : ∀ ss : List (Str × List Nat), (∀ s ∈ ss, s.1 = "old" ∨ s.1 = "new") → PyData.canLayAll0 (ss.map stoD) = true ∧ PyData.depthAll (ss.map stoD) ≤ 4
  | [], _ => ⟨rfl, by simp [PyData.depthAll]⟩
  | s :: ss, h => by
    obtain ⟨h1, h2⟩ := stosD_lay ss fun x hx => h x (List.mem_cons_of_mem _ hx)
    obtain ⟨k1, k2⟩ := stoD_lay s (h s List.mem_cons_self)
    refine ⟨by simp only [List.map_cons, PyData.canLayAll0, k1, h1]; rfl, ?_⟩
    simp only [List.map_cons, PyData.depthAll]
    omega
theorem stories_tags (rs : List (List Nat)) (there : Bool) : ∀ s ∈ storiesS rs there, s.1 = "old" ∨ s.1 = "new" := fun s hs => by
  unfold storiesS at hs
  rcases List.mem_append.mp hs with hs | hs
  · cases there
    · cases hs
    · obtain ⟨r, _, rfl⟩ := List.mem_map.mp hs
      exact .inl rfl
  · obtain ⟨r, _, rfl⟩ := List.mem_map.mp hs
    exact .inr rfl
theorem stosD_shaped (rs : List (List Nat)) (there : Bool) : SeqAt.shaped (.tuple ((storiesS rs there).map stoD)) = true := by
  obtain ⟨k1, k2⟩ := stosD_lay _ (stories_tags rs there)
  show (PyData.canLay0 (.tuple ((storiesS rs there).map stoD)) && decide (PyData.depth (.tuple ((storiesS rs there).map stoD)) ≤ 64)) = true
  simp only [PyData.canLay0, k1, Bool.true_and, PyData.depth]
  exact decide_eq_true (by omega)
theorem stos_eqv (ss : List (Str × List Nat)) : PyData.eqv (.tuple (ss.map stoD)) (.tuple (ss.map stoD)) = true := by
  have h : ∀ ss : List (Str × List Nat), PyData.eqvAll (ss.map stoD) (ss.map stoD) = true := fun ss => by
    induction ss with
    | nil => rfl
    | cons r rs ih =>
      have e1 : PyData.eqv (rowD r.2) (rowD r.2) = true := by
        unfold rowD
        simp only [PyData.eqv, eqvAll_nums]
        simp
      have e2 : PyData.eqv (stoD r) (stoD r) = true := by
        unfold stoD
        simp only [PyData.eqv, PyData.eqvAll, e1]
        simp
      simp only [List.map_cons, PyData.eqvAll, e2, ih]
      rfl
  simp only [PyData.eqv]
  exact h ss
end Toy


set_option Elab.async false
set_option linter.all false
set_option maxRecDepth 100000
set_option maxHeartbeats 4000000
namespace Toy
open PySem L2 Sh ShL LamX NdefX
/-! ### the law -/
def spLaw (K : PySem.W.Frag) (T : List (Addr × Str)) : Sp := fun vs H Q _ => ∃ (a : Addr) (ns : List Int), vs = [.ref a] ∧ SqL K H a (ns.map V.int) ∧ Tabs T H ∧ ∀ H', Q (.bl true) H'
section
variable {P : Program} {w : World} {K : PySem.W.Frag} {mg : Str → Option Value} {base : Heap}
theorem ok_law (T : Tx P w K mg) (B : Bx T base) : FnOk P w K mg base CX0 24 T.a_law T.fd_law ["_law_script"] (spLaw K (tabs T)) := by
  refine T.F_law.ok sc_law (fun vs H Q E h => ?_) (fun cdv A outer s H vs Q E hr h => ?_)
  · obtain ⟨a, ns, rfl, _⟩ := h
    rfl
  obtain ⟨ds1_Question_init, vd1_Question_init, bd1_Question_init⟩ := T.bd1_Question_init
  have hu := hu_of hr
  have hu65 := hu65_of hr
  obtain ⟨a0, ns, rfl, hS, htb, q⟩ := h
  refine ⟨_, (pss_cons (ps_set (i := 1) sc_law.nd rfl (by first | exact Or.inl rfl | exact Or.inr rfl) (pe_call (ok_l_pen_of (w := w) T B) (hr.mono (by decide)) (by rfl) T.m_l_pen_of T.F_l_pen_of.kp T.bi_l_pen_of .nil pass0 (pa_cons (pv 0) pa_nil)))
 (pss_cons (ps_for PassesOwn.never rfl (pi_range1 (by rfl) T.b_range (pa_cons pe_int pa_nil)) (pg_name (i := 2) sc_law.nd rfl (by first | exact Or.inl rfl | exact Or.inr rfl))
 (pss_cons (ps_set (i := 3) sc_law.nd rfl (by first | exact Or.inl rfl | exact Or.inr rfl) (pe_op op_add pe_int (pe_call (ok_l_draw (w := w) T B) (hr.mono (by decide)) (by rfl) T.m_l_draw T.F_l_draw.kp T.bi_l_draw .nil pass0 (pa_cons (pv 1) (pa_cons pe_int pa_nil)))))
 (pss_cons (ps_set (i := 4) sc_law.nd rfl (by first | exact Or.inl rfl | exact Or.inr rfl) (pe_call (ok_l_usual (w := w) T B) (hr.mono (by decide)) (by rfl) T.m_l_usual T.F_l_usual.kp T.bi_l_usual .nil pass0 (pa_cons (pe_call (ok_l_pick (w := w) T B) (hr.mono (by decide)) (by rfl) T.m_l_pick T.F_l_pick.kp T.bi_l_pick .nil pass0 (pa_cons (pv 1) (pa_cons (pe_lst (pa_cons pe_str (pa_cons pe_str (pa_cons pe_str pa_nil)))) pa_nil))) pa_nil)))
 (pss_cons (ps_setLc (i := 5) (own := [("_law_k", 15)]) (g := gName 15) rfl sc_law.nd rfl rfl (sw_true rfl rfl rfl (by decide +kernel)) (pi_range1 (by rfl) T.b_range (pa_cons (pv 3) pa_nil)) (blkOk_by (own := [("_law_k", 15)]) (N := N_law) (sc := defScope s_law) (by decide +kernel)) (fun _ _ _ _ _ => (pg_name (i := 15) sc_law.nd rfl (by first | exact Or.inl rfl | exact Or.inr rfl))) (fun _ _ _ _ _ => pts_nil) (fun _ _ _ _ _ => (pe_tup (pa_cons (pv 4) (pa_cons (pe_call (ok_l_draw (w := w) T B) (hr.mono (by decide)) (by rfl) T.m_l_draw T.F_l_draw.kp T.bi_l_draw .nil pass0 (pa_cons (pv 1) (pa_cons pe_int pa_nil))) (pa_cons (pe_op op_add pe_int (pe_call (ok_l_draw (w := w) T B) (hr.mono (by decide)) (by rfl) T.m_l_draw T.F_l_draw.kp T.bi_l_draw .nil pass0 (pa_cons (pv 1) (pa_cons pe_int pa_nil)))) pa_nil))))))
 (pss_cons (ps_asg (pe_call (ok_l_scripts (w := w) T B) (hr.mono (by decide)) (by rfl) T.m_l_scripts T.F_l_scripts.kp T.bi_l_scripts .nil pass0 (pa_cons (pv 1) (pa_cons (pv 3) pa_nil))) (pg_tup rfl (pgs_cons (pg_name (i := 6) sc_law.nd rfl (by first | exact Or.inl rfl | exact Or.inr rfl)) (pgs_cons (pg_name (i := 7) sc_law.nd rfl (by first | exact Or.inl rfl | exact Or.inr rfl)) pgs_nil))))
 (pss_cons (ps_if (pt_cmpR op_eq (pe_call (ok_l_draw (w := w) T B) (hr.mono (by decide)) (by rfl) T.m_l_draw T.F_l_draw.kp T.bi_l_draw .nil pass0 (pa_cons (pv 1) (pa_cons pe_int pa_nil))) pe_int (nomark _))
 (pss_one (ps_par (i := 6) (j := 7) (by rfl) sc_law.nd rfl rfl (by decide) rfl rfl (pa_cons (pv 7) (pa_cons (pv 6) pa_nil)) (by rfl)))
 pss_nil)
 (pss_cons (ps_setLc (i := 8) (own := [("_law_part", 16), ("_law_which", 17), ("_law_value", 18)]) (g := gTup K 3 (gCons (gName 16) (gCons (gName 17) (gCons (gName 18) gNil)))) rfl sc_law.nd rfl rfl (sw_true rfl rfl rfl (by decide +kernel)) (pi_list (pv 5)) (blkOk_by (own := [("_law_part", 16), ("_law_which", 17), ("_law_value", 18)]) (N := N_law) (sc := defScope s_law) (by decide +kernel)) (fun _ _ _ _ _ => (pg_tup rfl (pgs_cons (pg_name (i := 16) sc_law.nd rfl (by first | exact Or.inl rfl | exact Or.inr rfl)) (pgs_cons (pg_name (i := 17) sc_law.nd rfl (by first | exact Or.inl rfl | exact Or.inr rfl)) (pgs_cons (pg_name (i := 18) sc_law.nd rfl (by first | exact Or.inl rfl | exact Or.inr rfl)) pgs_nil))))) (fun _ _ _ _ _ => pts_nil) (fun _ _ _ _ _ => (pe_tup (pa_cons (pe_call (ok_l_routine (w := w) T B) (hr.mono (by decide)) (by rfl) T.m_l_routine T.F_l_routine.kp T.bi_l_routine .nil pass0 (pa_cons (pv 16) pa_nil)) (pa_cons (pv 17) (pa_cons (pv 18) pa_nil))))))
 (pss_cons (ps_set (i := 9) sc_law.nd rfl (by first | exact Or.inl rfl | exact Or.inr rfl) (pe_make T.mk_Question (ok_Question_init (w := w) T B) (hr.mono (by decide)) (by rfl) T.m_Question bd1_Question_init vd1_Question_init pass0 (pa_cons (pv 8) (pa_cons (pe_callTy call_list_of (by rfl) T.b_list (by decide +kernel) (pa_cons (pv 6) pa_nil)) (pa_cons (pe_callTy call_list_of (by rfl) T.b_list (by decide +kernel) (pa_cons (pv 7) pa_nil)) (pa_cons (pe_lst pa_nil) pa_nil))))))
 (pss_one (ps_for PassesOwn.never rfl (pi_list (pe_lst (pa_cons (pe_tup (pa_cons pe_int pa_nil)) (pa_cons (pe_tup (pa_cons pe_int pa_nil)) (pa_cons (pe_tup (pa_cons pe_int (pa_cons pe_int pa_nil))) pa_nil))))) (pg_name (i := 10) sc_law.nd rfl (by first | exact Or.inl rfl | exact Or.inr rfl))
 (pss_cons (ps_set (i := 11) sc_law.nd rfl (by first | exact Or.inl rfl | exact Or.inr rfl) (pe_callTy call_tuple_of (by rfl) T.b_tuple (by decide +kernel) (pa_cons (pe_call (ok_l_rows (w := w) T B) (hr.mono (by decide)) (by rfl) T.m_l_rows T.F_l_rows.kp T.bi_l_rows .nil pass0 (pa_cons (pv 6) (pa_cons (pv 7) (pa_cons (pv 5) (pa_cons (pv 10) pa_nil))))) pa_nil)))
 (pss_cons (ps_set (i := 12) sc_law.nd rfl (by first | exact Or.inl rfl | exact Or.inr rfl) (pe_call (ok_rows_of (w := w) T B) (hr.mono (by decide)) (by rfl) T.m_rows_of T.F_rows_of.kp T.bi_rows_of .nil pass0 (pa_cons (pv 9) (pa_cons (pv 10) pa_nil))))
 (pss_cons (ps_if (PW.pt (pw_or (pt_cmpR (op_neD hr.units) (pv 12) (pv 11) (nomark _)) (pw_or1 (pt_not (pt_val (pe_callB (cr_all rfl) (by rfl) T.b_all (by decide +kernel) (pa_cons (pe_lc (own := [("_law_row", 19)]) (g := gName 19) rfl sc_law.nd (pi_tup (pv 12)) (blkOk_by (own := [("_law_row", 19)]) (N := N_law) (sc := defScope s_law) (by decide +kernel)) (fun _ _ _ _ _ => (pg_name (i := 19) sc_law.nd rfl (by first | exact Or.inl rfl | exact Or.inr rfl))) (fun _ _ _ _ _ => pts_nil) (fun _ _ _ _ _ => (pe_callB (by exact call_isi : CallR _ (.builtin "isinstance") (rIsi K)) (by rfl) T.b_isinstance (by decide +kernel) (pa_cons (pv 19) (pa_cons (pe_bltn (v := .ty "tuple") (by rfl) T.b_tuple (by decide +kernel) rfl) pa_nil))))) pa_nil)))))))
 (pss_one (ps_ret pe_bl))
 pss_nil)
 (pss_cons (ps_set (i := 13) sc_law.nd rfl (by first | exact Or.inl rfl | exact Or.inr rfl) (pe_cmpR op_eq (pe_call (ok_l_draw (w := w) T B) (hr.mono (by decide)) (by rfl) T.m_l_draw T.F_l_draw.kp T.bi_l_draw .nil pass0 (pa_cons (pv 1) (pa_cons pe_int pa_nil))) pe_int (nomark _)))
 (pss_cons (ps_set (i := 14) sc_law.nd rfl (by first | exact Or.inl rfl | exact Or.inr rfl) (pe_ifExp (pt_val (pv 13)) (pe_lc (own := [("_law_row", 19)]) (g := gName 19) rfl sc_law.nd (pi_tup (pv 11)) (blkOk_by (own := [("_law_row", 19)]) (N := N_law) (sc := defScope s_law) (by decide +kernel)) (fun _ _ _ _ _ => (pg_name (i := 19) sc_law.nd rfl (by first | exact Or.inl rfl | exact Or.inr rfl))) (fun _ _ _ _ _ => pts_nil) (fun _ _ _ _ _ => (pe_tup (pa_cons pe_str (pa_cons (pv 19) pa_nil))))) (pe_lst pa_nil)))
 (pss_one (ps_if (pt_cmpR (op_neD hr.units) (pe_call (ok_stories_of (w := w) T B) (hr.mono (by decide)) (by rfl) T.m_stories_of T.F_stories_of.kp T.bi_stories_of .nil pass0 (pa_cons (pv 9) (pa_cons (pv 10) (pa_cons (pv 13) pa_nil)))) (pe_callTy call_tuple_of (by rfl) T.b_tuple (by decide +kernel) (pa_cons (pe_op op_cat (pv 14) (pe_lc (own := [("_law_row", 19)]) (g := gName 19) rfl sc_law.nd (pi_tup (pv 11)) (blkOk_by (own := [("_law_row", 19)]) (N := N_law) (sc := defScope s_law) (by decide +kernel)) (fun _ _ _ _ _ => (pg_name (i := 19) sc_law.nd rfl (by first | exact Or.inl rfl | exact Or.inr rfl))) (fun _ _ _ _ _ => pts_nil) (fun _ _ _ _ _ => (pe_tup (pa_cons pe_str (pa_cons (pv 19) pa_nil)))))) pa_nil)) (nomark _))
 (pss_one (ps_ret pe_bl))
 pss_nil)))))))))))))))))
 (pss_one (ps_ret pe_bl)))), ?_⟩
  refine asgI (callI ⟨_, rfl, a0, ns, rfl, hS, fun H1 d c s1 pn => ?_⟩)
  dsimp only [gName]
  have tb1 := htb.ext s1
  refine forI2 ⟨_, rfl, by decide, by decide, ?_⟩
  rw [show ((3 : Int)).toNat = 3 from rfl]
  refine for_it (walk_rangeN (n := 3)) (fun i σ H' => ∃ v2 v3 v4 v5 v6 v7 v8 v9 v10 v11 v12 v13 v14, σ = [some (.ref a0), some (.ref d), v2, v3, v4, v5, v6, v7, v8, v9, v10, v11, v12, v13, v14, none, none, none, none, none] ∧ Tabs (tabs T) H' ∧ Pen H' d c (1000 * i))
    ⟨_, _, _, _, _, _, _, _, _, _, _, _, _, rfl, tb1, pn⟩ (fun _ _ _ _ _ => True.intro) (fun i x σ H2 H3 hi ⟨v2, v3, v4, v5, v6, v7, v8, v9, v10, v11, v12, v13, v14, hσ, tb, pn⟩ y => ?_) (fun σ H' ⟨v2, v3, v4, v5, v6, v7, v8, v9, v10, v11, v12, v13, v14, hσ, _, _⟩ => ?_)
  · subst hσ
    obtain ⟨rfl, _⟩ := y
    have hi3 : i < 3 := by unfold nums at hi; rw [List.length_map, List.length_range] at hi; exact hi
    dsimp only [gName]
    obtain ⟨dk, hd⟩ := pn.at
    -- how many
    refine asgI (opI (callI ⟨_, rfl, d, c, 1000 * i, 4, rfl, pn, by omega, by decide, by decide, fun H4 r r0 r4 k4 p4 => ⟨_, _, rfl, rfl, ?_⟩⟩))
    have tb4 : Tabs (tabs T) H4 := Tabs.kp tb hd k4
    obtain ⟨m, hm⟩ : ∃ m : Nat, 1 + r = (m : Int) := ⟨(1 + r).toNat, by omega⟩
    dsimp only [gName]
    rw [hm]
    have m1 : 1 ≤ m := by omega
    have m4 : m ≤ 4 := by omega
    -- the routine's blocks
    obtain ⟨dk4, hd4⟩ := p4.at
    refine asgI (callI (consI (callI ⟨_, rfl, by show 3 ≤ sizeLine; decide, fun L hL => ?_⟩)))
    have hLd : L ≠ d := fun e => by rw [e, hd4] at hL; cases hL
    have s5 := same_upd (o := .lst [V.str "has", V.str "put", V.str "longest"]) hL
    refine ⟨d, c, L, 1000 * i + 1, _, rfl, p4.same s5, by omega, SqL.of upd_same, by show 0 < 3; decide, by show 3 ≤ 1000; decide, hLd, fun H5 x hx k5 p5 => ?_⟩
    obtain ⟨z, rfl, hz⟩ : ∃ z, x = V.str z ∧ z ∈ usualNames := by
      rcases List.mem_cons.mp hx with rfl | hx
      · exact ⟨_, rfl, List.mem_cons_self⟩
      rcases List.mem_cons.mp hx with rfl | hx
      · exact ⟨_, rfl, List.mem_cons_of_mem _ List.mem_cons_self⟩
      rw [List.mem_singleton.mp hx]
      exact ⟨_, rfl, List.mem_cons_of_mem _ (List.mem_cons_of_mem _ List.mem_cons_self)⟩
    have tb5 : Tabs (tabs T) H5 := Tabs.kp (Tabs.ext tb4 s5) (s5 _ _ hd4) k5
    refine ⟨z, rfl, hz, fun H6 blk s6 us => ?_⟩
    dsimp only [gName]
    have tb6 : Tabs (tabs T) H6 := Tabs.ext tb5 s6
    have p6 := p5.same s6
    -- the calls
    obtain ⟨dk6, hd6⟩ := p6.at
    refine asgI ⟨_, rfl, _, rfl, by omega, by omega, fun C hC => ?_⟩
    rw [Int.toNat_natCast]
    have hCd : C ≠ d := fun e => by rw [e, hd6] at hC; cases hC
    have hCc : C ≠ c := by
      obtain ⟨ns0, b0, l0, _, qc, _⟩ := p6
      exact fun e => by rw [e, qc] at hC; cases hC
    have pC : ∀ {G : Hp} {n : Nat} {acc : List V}, Pen G d c n → Pen (upd G C (.lst acc)) d c n := fun h => by
      obtain ⟨ns, b, l, q1, q2, q3⟩ := h
      exact ⟨ns, b, l, by rw [upd_ne hCd.symm]; exact q1, by rw [upd_ne hCc.symm]; exact q2, q3⟩
    have kC : ∀ {G : Hp} {acc : List V}, Kp d H6 G → Kp d H6 (upd G C (.lst acc)) := fun k b o hb nb => by
      rw [upd_ne (ne_of_none hb hC)]
      exact k _ _ hb nb
    refine lcG (walk_rangeN (n := m)) yat (paired_self (f := fun k => V.int ((k : Nat) : Int)) (List.range m)) (fun j G => Kp d H6 G ∧ Pen G d c (1000 * i + 2 + 2 * j)) ⟨kC (Kp.refl d H6), pC p6⟩ (fun j G acc h => ⟨kC h.1, pC h.2⟩) (fun _ _ _ _ => True.intro) (by rw [List.length_range]; omega) (fun _ => true)
      (fun G v _ => ∃ cc, CdV blk G v cc) (fun G acc acc' v u e ⟨cc, p, e1, h1, h2⟩ => ⟨cc, p, e1, by rw [upd_ne fun z => by rw [z, e] at h1; cases h1]; exact h1, h2⟩) (fun j x k G acc Rk N hk hx ⟨kG, pG⟩ hacc ky _ => ?_) (fun G acc ⟨kG, pG⟩ hacc pa => ?_)
    · subst hx
      refine ⟨rfl, yes_ite ?_⟩
      have hj : j < m := by
        have := (List.getElem?_eq_some_iff.mp hk).1
        rw [List.length_range] at this
        exact this
      obtain ⟨dg, hdg⟩ := pG.at
      refine ⟨_, rfl, ?_⟩
      refine consI (callI ⟨_, rfl, d, c, _, 2, rfl, pG, by omega, by decide, by decide, fun G1 r1 r10 r12 kG1 pG1 => ?_⟩)
      refine consI (opI (callI ⟨_, rfl, d, c, _, 9, rfl, pG1, by omega, by decide, by decide, fun G2 r2 r20 r29 kG2 pG2 => ⟨_, _, rfl, rfl, ?_⟩⟩))
      obtain ⟨n1, e1⟩ : ∃ n : Nat, r1 = (n : Int) := ⟨r1.toNat, by omega⟩
      obtain ⟨n2, e2⟩ : ∃ n : Nat, 1 + r2 = (n : Int) := ⟨(1 + r2).toNat, by omega⟩
      dsimp only
      rw [e1, e2]
      refine ⟨by show 3 ≤ sizeLine; decide, fun p hp => ?_⟩
      have s9 := same_upd (o := .tup [blk, V.int (n1 : Int), V.int (n2 : Int)]) hp
      obtain ⟨dg1, hdg1⟩ := pG1.at
      refine ky rfl _ _ ⟨((kG.trans kG1).trans kG2).trans (Same.kp s9), (pG2.same s9).mono (by omega)⟩ (s9 _ _ (kG2 _ _ (kG1 _ _ hacc hCd) hCd)) (fun v u ⟨cc, h⟩ => ⟨cc, ((h.kp hdg kG1).kp hdg1 kG2).same s9⟩) ⟨(n1, n2), p, rfl, upd_same, by omega, by omega, by omega⟩
    rw [List.filter_eq_self.mpr fun _ _ => rfl] at pa
    obtain ⟨cd, pcd, lcd⟩ := paired_ex (S := CdV blk G) (fun _ _ h => h) pa
    rw [List.length_range] at lcd
    have pG : Pen G d c (1000 * i + 10) := by
      rw [nums_len, List.length_range] at pG
      exact pG.mono (by omega)
    have tbG : Tabs (tabs T) G := Tabs.kp tb6 hd6 kG
    have usG := us.kp hd6 kG
    dsimp only [gName]
    -- the scripts
    refine asgI (callI ⟨_, rfl, _, rfl, d, c, 1000 * i + 10, m, rfl, pG, by omega, m1, m4, fun G1 p a b one other kp1 p1 ep ea eb no nn ol nl le => ?_⟩)
    obtain ⟨dg, hdg⟩ := pG.at
    refine ⟨p, _, rfl, .inl (.inl ep), rfl, _, _, rfl, _, _, rfl, rfl, ?_⟩
    -- swapped or not
    have us1 := us.kp hd6 kG |>.kp hdg kp1
    have pcd1 : Paired (CdV blk G1) acc cd := paired_mono (fun _ _ h => h.kp hdg kp1) pcd
    have hC1 := kp1 _ _ hacc hCd
    have tb1 : Tabs (tabs T) G1 := Tabs.kp tbG hdg kp1
    obtain ⟨dg1, hdg1⟩ := p1.at
    refine swapI (x := .ref a) (y := .ref b) rfl rfl (callI ⟨_, rfl, d, c, _, 2, rfl, p1, by omega, by decide, by decide, fun G2 r1 r10 r12 k2 p2 => ⟨rfl, _, rfl, ?_⟩⟩)
    have us2 := us1.kp hdg1 k2
    have pcd2 : Paired (CdV blk G2) acc cd := paired_mono (fun _ _ h => h.kp hdg1 k2) pcd1
    have hC2 := k2 _ _ hC1 hCd
    have tb2 : Tabs (tabs T) G2 := Tabs.kp tb1 hdg1 k2
    have ea2 := k2 _ _ ea (ne_of ea hdg1 fun z => nomatch z)
    have eb2 := k2 _ _ eb (ne_of eb hdg1 fun z => nomatch z)
    generalize decide (V.int r1 = V.int 0) = bb
    obtain ⟨a', b', one', other', eσ, ea', eb', no', nn', ol', nl', le'⟩ : ∃ (a' b' : Addr) (one' other' : List Nat), (if bb = true then (([some (.ref a0), some (.ref d), some x, some (.int (m : Nat)), some blk, some (.ref C), some (.ref a), some (.ref b), v8, v9, v10, v11, v12, v13, v14, none, none, none, none, none] : L2.St).set 6 (some (.ref b))).set 7 (some (.ref a)) else [some (.ref a0), some (.ref d), some x, some (.int (m : Nat)), some blk, some (.ref C), some (.ref a), some (.ref b), v8, v9, v10, v11, v12, v13, v14, none, none, none, none, none]) = [some (.ref a0), some (.ref d), some x, some (.int (m : Nat)), some blk, some (.ref C), some (.ref a'), some (.ref b'), v8, v9, v10, v11, v12, v13, v14, none, none, none, none, none] ∧
        G2 a' = some (.lst (nums one')) ∧ G2 b' = some (.lst (nums other')) ∧ one'.Nodup ∧ other'.Nodup ∧ (∀ y ∈ one', y < m) ∧ (∀ y ∈ other', y < m) ∧ one'.length + other'.length ≤ 4 := by
      cases bb
      · exact ⟨a, b, one, other, rfl, ea2, eb2, no, nn, ol, nl, le⟩
      · exact ⟨b, a, other, one, rfl, eb2, ea2, nn, no, nl, ol, by omega⟩
    dsimp only
    refine sigI eσ ?_
    -- the calls with their routines
    refine asgI ⟨_, rfl, C, rfl, ⟨_, SqL.of hC2⟩, fun M hM => ?_⟩
    refine lcM (walk_list (K := K) (a := C) (xs := acc)) yat pcd2 hM (fun H' s => s.seq (SqL.of hC2)) (by omega) (fun G y cc => MdV T.c_Routine G y cc) (fun _ _ _ _ s h => h.same s) (fun _ _ _ _ _ e h => h.putL e) (fun j y cc G3 Rk N hcc hy s3 kk => ?_) (fun G3 acc3 s3 hacc3 pm => ?_)
    · obtain ⟨p9, rfl, hp9, b1, b2, b3⟩ := hy.same s3
      refine ⟨p9, _, rfl, SqT.of hp9, rfl, _, _, rfl, _, _, rfl, _, _, rfl, rfl, rfl, yes_ite ?_⟩
      refine consI (callI ⟨_, rfl, blk, rfl, us2.same s3, fun G4 x9 s4 _ ⟨dx9, fs9, hx9⟩ => ⟨_, rfl, _, rfl, by show 3 ≤ sizeLine; decide, fun q9 hq9 => ?_⟩⟩)
      have s5 := same_upd (o := .tup [V.ref x9, V.int (cc.1 : Int), V.int (cc.2 : Int)]) hq9
      exact kk _ _ (s4.trans s5) ⟨q9, x9, rfl, upd_same, ⟨dx9, fs9, s5 _ _ hx9⟩, b1, b2, b3⟩
    dsimp only [gName]
    obtain ⟨cs, pcs, ecs, ics⟩ := mds_calls (K := K) pm
    have lcs : cs.length = m := by
      have := congrArg List.length ecs
      rw [List.length_map, List.length_map] at this
      omega
    have hok : Qu.ok ⟨cs, one', other', [], []⟩ := ⟨by show 1 ≤ cs.length; omega, by show cs.length ≤ 4; omega, no', fun y hy => by show y < cs.length; rw [lcs]; exact ol' y hy, nn', fun y hy => by show y < cs.length; rw [lcs]; exact nl' y hy, le', .nil, fun _ h => (nomatch h), .nil, fun _ h => (nomatch h), Nat.zero_le _⟩
    -- the question
    have ea3 := s3 _ _ ea'
    have eb3 := s3 _ _ eb'
    refine asgI (makeI ⟨_, rfl, _, rfl, a', _, rfl, .inl (SqL.of ea3), fun l1 hl1 => ?_⟩)
    have w1 := same_upd (o := .lst (nums one')) hl1
    have x1 : upd G3 l1 (.lst (nums one')) l1 = some (.lst (nums one')) := upd_same
    generalize upd G3 l1 (.lst (nums one')) = G4 at w1 x1 ⊢
    refine ⟨_, rfl, b', _, rfl, .inl (SqL.of (w1 _ _ eb3)), fun l2 hl2 => ?_⟩
    have w2 := same_upd (o := .lst (nums other')) hl2
    have x2 : upd G4 l2 (.lst (nums other')) l2 = some (.lst (nums other')) := upd_same
    generalize upd G4 l2 (.lst (nums other')) = G5 at w2 x2 ⊢
    refine ⟨by show 0 ≤ sizeLine; decide, fun l3 hl3 => ?_⟩
    have w3 := same_upd (o := .lst []) hl3
    have x3 : upd G5 l3 (.lst []) l3 = some (.lst []) := upd_same
    generalize upd G5 l3 (.lst []) = G6 at w3 x3 ⊢
    intro xq dx hx0 hdx hne
    have w4 : Same G6 (upd (upd G6 dx (.own xq)) xq (.ins T.c_Question dx [])) := (same_upd hdx).trans (same_upd (by rw [upd_ne hne.symm]; exact hx0))
    have w36 := (w1.trans w2).trans w3
    have w37 := w36.trans w4
    have tb7 : Tabs (tabs T) (upd (upd G6 dx (.own xq)) xq (.ins T.c_Question dx [])) := Tabs.ext tb2 (s3.trans w37)
    have hx3 : G3 xq = none := none_of w36 hx0
    refine ⟨xq, dx, M, l1, l2, l3, .non, acc3, ⟨cs, one', other', [], []⟩, rfl, upd_same, .inl (SqL.of (w37 _ _ hacc3)), paired_mono (fun _ _ h => h.sameQ w37) pcs, fun cc hcc e => ?_, .inl (SqL.of (w4 _ _ (w3 _ _ (w2 _ _ x1)))), .inl (SqL.of (w4 _ _ (w3 _ _ x2))), .inl (SqL.of (w4 _ _ x3)), .inl ⟨rfl, rfl⟩,
      hok, tb7, fun H7 sm qa => ⟨rfl, ?_⟩⟩
    · obtain ⟨_, _, hcr⟩ := ics cc hcc
      rw [e, hx3] at hcr
      cases hcr
    dsimp only [gName]
    have ex : ExtN G3 H7 := fun b u hb nb => sm.1 _ _ (w37 _ _ hb) nb fun z => by rw [z, hx3] at hb; cases hb
    have tbH : Tabs (tabs T) H7 := sm.2
    clear sm
    have pH : Pen H7 d c (1000 * i + 31) := by
      obtain ⟨ns, b, l, q1, q2, q3⟩ := p2.mono (show 1000 * i + 10 + 20 + 1 ≤ 1000 * i + 31 by omega)
      exact ⟨ns, b, l, ex _ _ (s3 _ _ q1) (fun ps z => nomatch z), ex _ _ (s3 _ _ q2) (fun ps z => nomatch z), q3⟩
    have eaH := ex _ _ ea3 (fun ps z => nomatch z)
    have ebH := ex _ _ eb3 (fun ps z => nomatch z)
    have hCH := ex _ _ (s3 _ _ hC2) (fun ps z => nomatch z)
    have pcH : Paired (CvV K H7) acc (cd.map (·.1)) := paired_map (S := CvV K H7) (f := fun z : Nat × Nat => z.1) (fun _ _ h => by
      obtain ⟨p, e, h1, _⟩ := h
      exact ⟨p, _, _, e, SqU.of (ex _ _ (s3 _ _ h1) (fun ps z => nomatch z))⟩) pcd2
    generalize hwn : cd.map (·.1) = wn at pcH ecs
    have lwn : wn.length = m := by rw [← hwn, List.length_map, lcd]
    -- the words
    obtain ⟨dk7, hd7⟩ := pH.at
    refine ⟨by show 1 ≤ sizeLine; decide, fun t0 ht0 => ⟨by show 1 ≤ sizeLine; decide, fun t1 ht1 => ⟨by show 2 ≤ sizeLine; decide, fun t2 ht2 => ⟨by show 3 ≤ sizeLine; decide, fun W hW => ?_⟩⟩⟩⟩
    have sA := same_upd (o := .tup [V.int 0]) ht0
    have z0 : SqU K (upd H7 t0 (.tup [V.int 0])) t0 (nums [0]) := SqU.of upd_same
    generalize upd H7 t0 (.tup [V.int 0]) = I0 at ht1 ht2 hW sA z0 ⊢
    have sB := same_upd (o := .tup [V.int 1]) ht1
    have z1 : SqU K (upd I0 t1 (.tup [V.int 1])) t1 (nums [1]) := SqU.of upd_same
    generalize upd I0 t1 (.tup [V.int 1]) = I1 at ht2 hW sB z1 ⊢
    have sC := same_upd (o := .tup [V.int 0, V.int 1]) ht2
    have z2 : SqU K (upd I1 t2 (.tup [V.int 0, V.int 1])) t2 (nums [0, 1]) := SqU.of upd_same
    generalize upd I1 t2 (.tup [V.int 0, V.int 1]) = I2 at hW sC z2 ⊢
    have sD := same_upd (o := .lst [V.ref t0, V.ref t1, V.ref t2]) hW
    have eW : upd I2 W (.lst [V.ref t0, V.ref t1, V.ref t2]) W = some (.lst [V.ref t0, V.ref t1, V.ref t2]) := upd_same
    generalize upd I2 W (.lst [V.ref t0, V.ref t1, V.ref t2]) = I3 at sD eW ⊢
    have sAD := ((sA.trans sB).trans sC).trans sD
    have hdw := sAD _ _ hd7
    have key : ∀ (j : Nat) (y : V), [V.ref t0, V.ref t1, V.ref t2][j]? = some y → ∃ (tw : Addr) (ws : List Nat), y = V.ref tw ∧ SqU K I3 tw (nums ws) ∧ (ws = [0] ∨ ws = [1] ∨ ws = [0, 1]) := fun j y h => by
      match j, h with
      | 0, h => cases h; exact ⟨t0, [0], rfl, z0.same ((sB.trans sC).trans sD), .inl rfl⟩
      | 1, h => cases h; exact ⟨t1, [1], rfl, z1.same (sC.trans sD), .inr (.inl rfl)⟩
      | 2, h => cases h; exact ⟨t2, [0, 1], rfl, z2.same sD, .inr (.inr rfl)⟩
      | j + 3, h => simp at h
    refine ⟨W, rfl, ⟨_, SqL.of eW⟩, ?_⟩
    refine for_it (walk_list (K := K) (a := W) (xs := [V.ref t0, V.ref t1, V.ref t2])) (fun j σ G => ∃ v10 v11 v12 v13 v14, σ = [some (.ref a0), some (.ref d), some x, some (.int (m : Nat)), some blk, some (.ref C), some (.ref a'), some (.ref b'), some (.ref M), some (.ref xq), v10, v11, v12, v13, v14, none, none, none, none, none] ∧ Kp d I3 G ∧ Pen G d c (1000 * i + 31 + j))
      ⟨_, _, _, _, _, rfl, Kp.refl _ _, pH.same sAD⟩ (fun j σ G _ ⟨_, _, _, _, _, _, k, _⟩ => SqL.of (k _ _ eW (ne_of eW hdw fun z => nomatch z))) (fun j y σ G G' hj ⟨u10, u11, u12, u13, u14, hσ, k, pn⟩ yy => ?_) (fun σ G ⟨u10, u11, u12, u13, u14, hσ, k, pn⟩ => ?_)
    · subst hσ
      obtain ⟨rfl, hy⟩ := yy
      obtain ⟨tw, ws, rfl, htw, hws⟩ := key j y hy
      dsimp only [gName]
      have hj3 : j < 3 := hj
      have ha := k _ _ (sAD _ _ eaH) (ne_of (sAD _ _ eaH) hdw fun z => nomatch z)
      have hb := k _ _ (sAD _ _ ebH) (ne_of (sAD _ _ ebH) hdw fun z => nomatch z)
      have hCG := k _ _ (sAD _ _ hCH) (ne_of (sAD _ _ hCH) hdw fun z => nomatch z)
      have pcG : Paired (CvV K G') acc wn := paired_mono (fun _ _ h => by
        obtain ⟨p, b, val, e, h⟩ := h
        exact ⟨p, b, val, e, SqU.kx hdw odd_dk (kx_kp k) (h.same sAD)⟩) pcH
      have twG : SqU K G' tw (nums ws) := SqU.kx hdw odd_dk (kx_kp k) htw
      have qaG := (QAt.kp hd7 (Same.kp sAD) qa).kp hdw k
      have l4a : one'.length ≤ 4 := by omega
      have l4b : other'.length ≤ 4 := by omega
      have er : onceS (blocksS (leftS (ownS wn ws one') ++ leftS (ownS wn ws other')) 5) = rowsS cs one' other' ws := by
        rw [own_flt cs wn ws one' ecs, own_flt cs wn ws other' ecs]
        exact rowsS_law l4a l4b
      have nZ : (rowsS cs one' other' ws).length ≤ 32 := (rowsS_small l4a l4b).1
      refine asgI (cbI (consI (callI ⟨_, rfl, _, rfl, _, rfl, _, rfl, a', b', C, tw, one', other', acc, wn, ws, rfl, SqL.of ha, SqL.of hb, SqL.of hCG, pcG, fun y hy => by rw [lwn]; exact ol' y hy, fun y hy => by rw [lwn]; exact nl' y hy, l4a, l4b, twG, fun J1 D1 zs1 s1 e1 p1 => ?_⟩)))
      refine ⟨D1, zs1, rfl, .inl ⟨SqL.of e1, fun l hl => ?_⟩⟩
      rw [er] at p1
      dsimp only [gName]
      have s2 := s1.trans (same_upd (o := .tup zs1) hl)
      have el : upd J1 l (.tup zs1) l = some (.tup zs1) := upd_same
      have pZ : Paired (RowV K (upd J1 l (.tup zs1))) zs1 (rowsS cs one' other' ws) := paired_mono (fun _ _ h => h.same (same_upd hl)) p1
      generalize upd J1 l (.tup zs1) = J2 at s2 el pZ ⊢
      obtain ⟨dkG, hdG⟩ := pn.at
      have qa2 := qaG.kp hdG (Same.kp s2)
      have tw2 := twG.same s2
      refine asgI (callI ⟨_, rfl, _, rfl, xq, tw, ⟨cs, one', other', [], []⟩, ws, rfl, qa2, T.cl_Question, T.na_Question_row_sets, tw2, hws, fun fz zz tf pz => ?_⟩)
      dsimp only [gName]
      have pz : Paired (RowV K J2) zz (rowsS cs one' other' ws) := pz
      generalize hZ : rowsS cs one' other' ws = Z at pz pZ nZ
      refine ⟨_, rfl, _, rfl, .tuple (Z.map rowD), .tuple (Z.map rowD), .tup tf.t (rows_dp pz), .tup (SqT.of el) (rows_dp pZ), (rowsD_shaped Z).2, (rowsD_shaped Z).2, _, rfl, ?_⟩
      rw [rows_eqv]
      refine iteF ?_
      refine cbI (consI ⟨_, rfl, fz, rfl, ⟨_, tf.t⟩, fun D2 hD2 => ?_⟩)
      refine lcF (us := Z) (R0 := RowV K J2) (walk_tup (K := K) (a := fz) (xs := zz)) yat pz hD2 (fun H' s => seqT s tf.t) (by omega) (fun _ => true) (fun _ => V.bl true) (fun y r J3 Rk N hr hy s3 ky _ => ?_) (fun J3 s3 hD3 => ?_)
      · obtain ⟨p, rfl, hp⟩ := hy.same s3
        have ty : TyX K J3 (.ref p) (.type "tuple") := by
          rcases hp with h | ⟨o, its, n, h, c, _⟩
          · exact .base (.tup h)
          · exact .kTuple h c
        exact ⟨rfl, yes_ite ⟨_, rfl, _, _, _, _, true, rfl, .ty _, ty, kit_ty (by decide +kernel), ky rfl⟩⟩
      refine ⟨D2, Z.map fun _ => true, rfl, SqL.of (by rw [hD3, List.filter_eq_self.mpr fun _ _ => rfl, List.map_map]; rfl), _, rfl, ?_⟩
      rw [show (Z.map fun _ => true).all id = true by simp]
      refine iteF ?_
      refine nextS ?_
      dsimp only
      have pn3 := (pn.same s2).same s3
      have hd3 := s3 _ _ (s2 _ _ hdG)
      have qa3 := qa2.kp (s2 _ _ hdG) (Same.kp s3)
      refine asgI (opI (callI ⟨_, rfl, d, c, _, 2, rfl, pn3, by omega, by decide, by decide, fun J4 r' r'0 r'2 k4 p4 => ⟨rfl, ?_⟩⟩))
      dsimp only [gName]
      generalize decide (V.int r' = V.int 0) = th
      have qa4 := qa3.kp hd3 k4
      have tw4 : SqU K J4 tw (nums ws) := SqU.kx hd3 odd_dk (kx_kp k4) (tw2.same s3)
      have el4 := k4 _ _ (s3 _ _ el) (ne_of (s3 _ _ el) hd3 fun z => nomatch z)
      have pZ4 : Paired (RowV K J4) zs1 Z := paired_mono (fun _ _ h => RowV.kx hd3 odd_dk (kx_kp k4) (h.same s3)) pZ
      obtain ⟨dk4, hd4⟩ := p4.at
      have k04 : Kp d I3 J4 := ((k.trans (Same.kp s2)).trans (Same.kp s3)).trans k4
      refine asgI (ifEI ⟨_, rfl, th, rfl, ?_⟩)
      cases th
      · refine iteF ⟨by show 0 ≤ sizeLine; decide, fun D5 hD5 => ?_⟩
        dsimp only [gName]
        have s5 := same_upd (o := .lst []) hD5
        have e5 : upd J4 D5 (.lst []) D5 = some (.lst []) := upd_same
        have p5 : Paired (StoV K (upd J4 D5 (.lst []))) [] [] := .nil
        generalize upd J4 D5 (.lst []) = J5 at s5 e5 p5 ⊢
        have qa5 := qa4.kp hd4 (Same.kp s5)
        have tw5 := tw4.same s5
        have tfl5 : SqT K J5 l zs1 := seqT s5 (SqT.of el4)
        have pZ5 : Paired (RowV K J5) zs1 Z := paired_mono (fun _ _ h => h.same s5) pZ4
        refine opI (callI ⟨_, rfl, _, rfl, _, rfl, xq, tw, ⟨cs, one', other', [], []⟩, ws, false, rfl, qa5, T.cl_Question, T.na_Question_row_sets, hok, tw5, hws, fun J6 sl zz6 s6 g6 p6 => ?_⟩)
        refine cbI (consI (opI ⟨_, rfl, stoLc (vI rfl) (seqT s6 tfl5) (paired_mono (fun _ _ h => h.same s6) pZ5) (by omega) (fun _ => rfl) (fun _ => rfl) fun J7 D7 acc7 s7 e7 p7 => ?_⟩))
        have e57 := s7 _ _ (s6 _ _ e5)
        have n5 : (([] : List V)).length ≤ 32 := Nat.zero_le _
        have p6 : Paired (StoV K J6) zz6 (storiesS Z false) := by rw [← hZ]; exact p6
        have n7 : acc7.length ≤ 32 := by rw [p7.length, List.length_map]; exact nZ
        refine ⟨D5, D7, ([] : List V), acc7, rfl, rfl, e57, e7, by rw [sizeLine_eq]; omega, fun D8 h8 => ⟨D8, _, rfl, .inl ⟨SqL.of upd_same, fun l9 h9 => ?_⟩⟩⟩
        have s9 := (same_upd (o := .lst (([] : List V) ++ acc7)) h8).trans (same_upd (o := .tup (([] : List V) ++ acc7)) h9)
        have s69 := s7.trans s9
        have pS : Paired (StoV K (upd (upd J7 D8 (.lst (([] : List V) ++ acc7))) l9 (.tup (([] : List V) ++ acc7)))) (([] : List V) ++ acc7) (storiesS Z false) := paired_app (paired_mono (fun _ _ h => h.same ((s6.trans s7).trans s9)) p5) (paired_mono (fun _ _ h => h.same s9) p7)
        refine ⟨.tuple ((storiesS Z false).map stoD), .tuple ((storiesS Z false).map stoD), .tup (seqT s69 g6.t) (stos_dp (paired_mono (fun _ _ h => h.same s69) p6)), .tup (SqT.of upd_same) (stos_dp pS), stosD_shaped Z false, stosD_shaped Z false, _, rfl, ?_⟩
        rw [stos_eqv]
        refine iteF ?_
        have sAll := (s5.trans s6).trans s69
        exact ⟨_, _, _, _, _, rfl, k04.trans (Same.kp sAll), (p4.same sAll).mono (by omega)⟩
      · refine iteT (stoLc (vI rfl) (SqT.of el4) pZ4 (by omega) (fun _ => rfl) (fun _ => rfl) fun J5 D5 acc5 s5 e5 p5 => ?_)
        dsimp only [gName]
        have qa5 := qa4.kp hd4 (Same.kp s5)
        have tw5 := tw4.same s5
        have tfl5 : SqT K J5 l zs1 := seqT s5 (SqT.of el4)
        have pZ5 : Paired (RowV K J5) zs1 Z := paired_mono (fun _ _ h => h.same s5) pZ4
        refine opI (callI ⟨_, rfl, _, rfl, _, rfl, xq, tw, ⟨cs, one', other', [], []⟩, ws, true, rfl, qa5, T.cl_Question, T.na_Question_row_sets, hok, tw5, hws, fun J6 sl zz6 s6 g6 p6 => ?_⟩)
        refine cbI (consI (opI ⟨_, rfl, stoLc (vI rfl) (seqT s6 tfl5) (paired_mono (fun _ _ h => h.same s6) pZ5) (by omega) (fun _ => rfl) (fun _ => rfl) fun J7 D7 acc7 s7 e7 p7 => ?_⟩))
        have e57 := s7 _ _ (s6 _ _ e5)
        have n5 : (acc5).length ≤ 32 := by rw [p5.length, List.length_map]; exact nZ
        have p6 : Paired (StoV K J6) zz6 (storiesS Z true) := by rw [← hZ]; exact p6
        have n7 : acc7.length ≤ 32 := by rw [p7.length, List.length_map]; exact nZ
        refine ⟨D5, D7, acc5, acc7, rfl, rfl, e57, e7, by rw [sizeLine_eq]; omega, fun D8 h8 => ⟨D8, _, rfl, .inl ⟨SqL.of upd_same, fun l9 h9 => ?_⟩⟩⟩
        have s9 := (same_upd (o := .lst (acc5 ++ acc7)) h8).trans (same_upd (o := .tup (acc5 ++ acc7)) h9)
        have s69 := s7.trans s9
        have pS : Paired (StoV K (upd (upd J7 D8 (.lst (acc5 ++ acc7))) l9 (.tup (acc5 ++ acc7)))) (acc5 ++ acc7) (storiesS Z true) := paired_app (paired_mono (fun _ _ h => h.same ((s6.trans s7).trans s9)) p5) (paired_mono (fun _ _ h => h.same s9) p7)
        refine ⟨.tuple ((storiesS Z true).map stoD), .tuple ((storiesS Z true).map stoD), .tup (seqT s69 g6.t) (stos_dp (paired_mono (fun _ _ h => h.same s69) p6)), .tup (SqT.of upd_same) (stos_dp pS), stosD_shaped Z true, stosD_shaped Z true, _, rfl, ?_⟩
        rw [stos_eqv]
        refine iteF ?_
        have sAll := (s5.trans s6).trans s69
        exact ⟨_, _, _, _, _, rfl, k04.trans (Same.kp sAll), (p4.same sAll).mono (by omega)⟩
    · subst hσ
      exact ⟨_, _, _, _, _, _, _, _, _, _, _, _, _, rfl, Tabs.kp (Tabs.ext tbH sAD) hdw k, pn.mono (by show 1000 * i + 31 + 3 ≤ 1000 * (i + 1); omega)⟩
  · subst hσ
    exact q _
end
end Toy


set_option Elab.async false
set_option linter.all false
set_option maxRecDepth 100000
set_option maxHeartbeats 4000000
namespace Toy
open PySem L2 Sh ShL LamX NdefX
/-! ### the end -/
theorem facts {w : World} {K : PySem.W.Frag} {h : Heap} {mg : Str → Option Value} {fa : Addr} (X : K.In h) (G : h.Ns mainGlobals mg) (hfa : mg ("law" : Str) = some (.ref fa)) (c : SaysT w h K) :
    LamX.LawAtS PySem.Challenge.rw_treeshed_k17_rows_and_stories w K CX0 24 63 "_law_script" mg fa h := by
  have e := hfa.symm.trans (tx_of X G c).m_law
  cases e
  have m1 : ∀ q ∈ hTf, He.cT K q ∈ hTf.map (He.cT K) := fun q hq => List.mem_map.mpr ⟨q, hq, rfl⟩
  have q1 : (("all_rows", none) : He.Defn) ∈ hTf := .head _
  refine ⟨(tx_of X G c).fd_law, hTf.map (He.cT K), spLaw K (tabs (tx_of X G c)), fun p hp => ?_, fun p hp => ?_, fun p hp => ?_, fun s v => ?_, fun H a ns hl _ ht hS => ⟨a, ns, rfl, hS, fun p hp => ?_, fun _ => rfl⟩, fun base _ _ hB => ok_law (tx_of X G c) ⟨hB _ (m1 _ q1)⟩⟩
  · obtain ⟨q, hq, rfl⟩ := List.mem_map.mp hp
    exact c.t.empty q hq
  · obtain ⟨q, hq, rfl⟩ := List.mem_map.mp hp
    exact c.t.out q hq
  · obtain ⟨q, hq, rfl⟩ := List.mem_map.mp hp
    exact PySem.W.codeHd_of_K X (c.t.hd q hq)
  · obtain ⟨oc, od, kV, doc, pm, an, cdv, ct, osl, h, _⟩ := (tx_of X G c).F_law.ex
    rw [h]
    exact .of_eq rfl
  · unfold tabs at hp
    rcases List.mem_cons.mp hp with rfl | hp
    · exact LamX.TabS.nil (ht _ (m1 _ q1))
    cases hp
end Toy


set_option Elab.async false
set_option linter.all false
set_option maxRecDepth 100000
set_option maxHeartbeats 4000000
namespace Toy
open PySem L2 Sh ShL LamX NdefX
end Toy
open PySem PySem.W PySem.Calls PyProof.Rows
set_option maxRecDepth 100000 in
set_option maxHeartbeats 0 in
theorem PySem.Challenge.cw_treeshed_k17_rows_and_stories_holds : PySem.Challenge.rw_treeshed_k17_rows_and_stories.Holds := by
  w_on; o_law
  refine HandSHeadRun.head_any (r := OpenLaw.row PySem.Challenge.rw_treeshed_k17_rows_and_stories) (q := view (OpenLaw.row PySem.Challenge.rw_treeshed_k17_rows_and_stories).prog [68]) (H := Toy.hk) (ob := Toy.ob) (M := 20000) (loose := Toy.loose) (d := HandSHeadRun.topDef (OpenLaw.row PySem.Challenge.rw_treeshed_k17_rows_and_stories).prog 68) (kwd := []) Toy.ob_eq
    (by kernel_rfl) (fun s => by kernel_rfl) Toy.run (by kernel_rfl) (by kernel_rfl) (by kernel_rfl) (by rfl) (by first | assumption | decide +kernel) (by decide +kernel) ⟨rfl, rfl, rfl, rfl, rfl, by decide +kernel⟩ ?hw ?hc
  case hw => w_witness2
  case hc =>
    refine LamX.walk_ofTsE (l := PySem.Challenge.rw_treeshed_k17_rows_and_stories) (n := 63) (k := 24) (x := "_law_script") (CX := fun _ => L2.CX0) rfl (by decide) (by kernel_rfl) ⟨rfl, by decide, by decide⟩ ?F (fun _ _ _ _ _ h => h)
    intro w mg fa h Y G hmg0
    obtain ⟨K, KX, c⟩ := Y
    have hmg : mg ("law" : PySem.Str) = some (.ref fa) := by
      have e : (HandSHeadRun.topDef (OpenLaw.row PySem.Challenge.rw_treeshed_k17_rows_and_stories).prog 68).name = ("law" : PySem.Str) := by kernel_rfl
      rw [← e]
      exact hmg0
    exact ⟨K, KX, Toy.facts (w := w) KX G hmg c⟩
#print axioms PySem.Challenge.cw_treeshed_k17_rows_and_stories_holds
namespace Toy
end Toy
