import PyProof.Rows.All
import Wide.All
import OpenK.AllK
import Wide.FinOn
import HandS.ForMost
import HandS.Deep
import HandS.Style
import HandS.IsInst
import HandS.TupAny
import HandS.Codes
import KE.SortData
import HandS.Exc
import HandS.ExcInit
import HandS.Nested
import KE.KSuper
import KE.KExcSuper
import HandS.Defaults
import HandS.MakeKw
import HandS.ExcValue
import KE.KExcIs
import PyProof.ReprReads
import PyProof.StrHeap
import PyProof.ReprHeadsEmpty
import HandS.RaiseMore
import KE.KStateDown
import HandS.Head0
import HandS.Head1
import HandS.Head2
import HandS.HeadEnd
import HandS.HeadHook1
import HandS.HeadHook2
import HandS.TryMany
import KE.SortKeyHeap
import HandS.OwnEq
import HandS.More
import HandS.NamedTupSort
import PyProof.InstNe
import HandS.NoneIn
import PyProof.StrOps2
import PyProof.SliceStr2
import KE.KRevSl
import HandS.Conv
import KE.KDictList
import PyProof.StrWalks
import HandS.Lambda
import HandS.ClsMeth
import HandS.DictComp
import HandS.HeadWalk
import HandS.DeepEq
import HandS.Base
import HandS.Call
import HandS.HeadHook4
import HandS.EndTab
import PyProof.EqAt
import PyProof.EqKinds
import PyProof.TupleCall
import HandS.List
import HandS.Comp
import KE.GoesMore
import PyProof.EnumMake
import PyProof.TupleOfStr
import HandS.TupLen
import KE.KDictKeyed
import HandS.Iter
import HandS.Walk
import KE.KEqDict
import KE.KDictDisplayH
import HandS.Steps
import HandS.WordsExc
import HandS.SortInts
import HandS.Flow
import HandS.StrMore
import HandS.Replace
import HandS.WideBits
import PySem.Challenge.RW_treeshed_k03_whole_exact_rules
set_option Elab.async false
set_option linter.all false
set_option maxRecDepth 100000
set_option maxHeartbeats 4000000
namespace Sh
open PySem PySem.Spec PyProof.Rows L2
/-! ### rules of my own over the hand layer -/
section
variable {X : Cx}
def rInDT (K : PySem.W.Frag) : R2 := fun x y H Q => ∃ d ds, Dp K H x d ∧ Dp K H y (.tuple ds) ∧ SeqAt.shaped d = true ∧ SeqAt.shaped (.tuple ds) = true ∧ Q (.bl (ds.any fun z => PyData.eqv z d)) H
def rNotInDT (K : PySem.W.Frag) : R2 := fun x y H Q => ∃ d ds, Dp K H x d ∧ Dp K H y (.tuple ds) ∧ SeqAt.shaped d = true ∧ SeqAt.shaped (.tuple ds) = true ∧ Q (.bl (!ds.any fun z => PyData.eqv z d)) H
theorem op_inDT (hu : X.A.units + 65 < cLine) : OpR X (compareOp .In) (rInDT X.K) := by
  intro pins s σ H x y v u Q I rx ry h
  obtain ⟨d, ds, hd, he, sd, se, q⟩ := h
  obtain ⟨as, r1⟩ := Dp.reads I d x v hd rx
  obtain ⟨bs, r2⟩ := Dp.reads I (.tuple ds) y u he ry
  exact SeqAt.in_tuple_reads r2 r1 (SeqAt.canLay_of_shaped se) (SeqAt.canLay_of_shaped sd) (room_in_shaped sd hu) ⟨.bl _, H, I, rfl, q⟩
theorem op_notInDT (hu : X.A.units + 65 < cLine) : OpR X (compareOp .NotIn) (rNotInDT X.K) := by
  intro pins s σ H x y v u Q I rx ry h
  obtain ⟨d, ds, hd, he, sd, se, q⟩ := h
  obtain ⟨as, r1⟩ := Dp.reads I d x v hd rx
  obtain ⟨bs, r2⟩ := Dp.reads I (.tuple ds) y u he ry
  exact SeqAt.notIn_tuple_reads r2 r1 (SeqAt.canLay_of_shaped se) (SeqAt.canLay_of_shaped sd) (room_in_shaped sd hu) ⟨.bl _, H, I, rfl, q⟩
/-! sorted of a list that reads as data -/
def sortPairs (xs : List V) (ds : List PyData) : List (V × PyData) := (xs.zip ds).mergeSort (PySem.W.dataLe false Prod.snd)
def rSortedDD (K : PySem.W.Frag) : List V → Hp → VK → Prop := fun vs H Q => ∃ (a : Addr) (xs : List V) (ds : List PyData), vs = [V.ref a] ∧ SqL K H a xs ∧ DpAll K H xs ds ∧ PySem.W.AllAlike ds ∧ PySem.W.Sortable ds ∧ (∀ d ∈ ds, d.depth ≤ 60) ∧
  ∀ p, H p = none → Q (.ref p) (upd H p (.lst ((sortPairs xs ds).map Prod.fst)))
theorem DpAll.len {K : PySem.W.Frag} {H : Hp} : ∀ {xs : List V} {ds : List PyData}, DpAll K H xs ds → xs.length = ds.length
  | _, _, .nil => rfl
  | _, _, .cons _ t => by
    show _ + 1 = _ + 1
    rw [DpAll.len t]
theorem zip_snd {α β : Type} : ∀ {xs : List α} {ds : List β}, xs.length = ds.length → (xs.zip ds).map Prod.snd = ds
  | [], [], _ => rfl
  | x :: xs, d :: ds, h => by
    show d :: (xs.zip ds).map Prod.snd = d :: ds
    rw [zip_snd (Nat.succ.inj h)]
theorem each_rel {K : PySem.W.Frag} {H : Hp} : ∀ {xs : List V} {ds : List PyData} {its : List Value}, Vals xs its → xs.length = ds.length → PySem.W.EachIs (fun (v : Value) (b : V × PyData) => RelV b.1 v) its (xs.zip ds)
  | [], [], _, .nil, _ => .nil
  | _ :: _, _ :: _, _, .cons r t, h => .cons r (each_rel (K := K) (H := H) t (Nat.succ.inj h))
theorem each_reads {pins : List (Addr × Obj)} {σ : L2.St} {H : Hp} {s : Shared} (I : L2.Inv X pins σ H s) : ∀ {xs : List V} {ds : List PyData} {its : List Value}, Vals xs its → DpAll X.K H xs ds → PySem.W.EachIs (fun (v : Value) (b : V × PyData) => ∃ as, Reads s.heap v b.2 as) its (xs.zip ds)
  | [], [], _, .nil, _ => .nil
  | _ :: _, _ :: _, _, .cons r t, .cons h hs => .cons (Dp.reads I _ _ _ h r) (each_reads I t hs)
theorem vals_of_each : ∀ {out : List Value} {bs : List (V × PyData)}, PySem.W.EachIs (fun (v : Value) (b : V × PyData) => RelV b.1 v) out bs → Vals (bs.map Prod.fst) out
  | _, _, .nil => .nil
  | _, _, .cons r t => .cons r (vals_of_each t)
theorem cr_sortedDD (hu : X.A.units + 65 < cLine) : CallR X (.builtin "sorted") (rSortedDD X.K) := by
  intro pins s σ H vs us Q I r h
  obtain ⟨a, xs, ds, rfl, hs, hd, hal, hk, hdp, q⟩ := h
  obtain ⟨its, rv, hl, hz⟩ := I.list hs
  rw [Vals.ref1 r]
  have el := DpAll.len hd
  have ez : (xs.zip ds).map Prod.snd = ds := zip_snd el
  have elz : (xs.zip ds).length = xs.length := by rw [List.length_zip, el, Nat.min_self]
  refine PySem.W.sorted_data (enc := Prod.snd) (bs := xs.zip ds) hl.isList (each_rel (K := X.K) (H := H) rv el) (each_reads I rv hd) (by rw [ez]; exact hal) (by rw [ez]; exact hk) (by rw [elz]; exact hz) (fun b hb => ?_) fun out ho eo => ?_
  · have hm : b.2 ∈ ds := by
      rw [← ez]
      exact List.mem_map.mpr ⟨b, hb, rfl⟩
    have := hdp _ hm
    omega
  · obtain ⟨ep, he'⟩ := PyProof.Rows.sortedAll_at s.heap its out.toArray
    have hlen : ((sortPairs xs ds).map Prod.fst).length ≤ sizeLine := by
      rw [List.length_map, sortPairs, List.length_mergeSort, elz]
      exact hz
    refine ⟨.ref _, upd H (s.heap.objs.size + 1) (.lst ((sortPairs xs ds).map Prod.fst)), I.laid (t' := s.toks) (fun _ _ => PyProof.Rows.sortedAll_old) (Nat.le_succ _) ⟨hlen, out, ep, vals_of_each eo, he'⟩, rfl, q _ (I.hok.fresh (Nat.le_succ _))⟩
end
/-! ### heaps -/
/-- all that was tracked is as it was, but for d -/
def Kp (d : Addr) (H H' : Hp) : Prop := ∀ b o, H b = some o → b ≠ d → H' b = some o
theorem Kp.refl (d : Addr) (H : Hp) : Kp d H H := fun _ _ h _ => h
theorem Kp.trans {d : Addr} {H H1 H2 : Hp} (a : Kp d H H1) (b : Kp d H1 H2) : Kp d H H2 := fun c o h n => b c o (a c o h n) n
theorem same_upd {H : Hp} {p : Addr} {o : HO} (h : H p = none) : Same H (upd H p o) := fun b x e => by
  rw [upd_ne (ne_of_none e h)]
  exact e
theorem Same.kp {d : Addr} {H H' : Hp} (s : Same H H') : Kp d H H' := fun b o h _ => s b o h
theorem kp_new {d : Addr} {H : Hp} {p : Addr} {o : HO} (h : H p = none) : Kp d H (upd H p o) := Same.kp (same_upd h)
theorem kp_put {d : Addr} {H : Hp} {o : HO} : Kp d H (upd H d o) := fun b x e n => by
  rw [upd_ne n]
  exact e
/-- a place that was free stays apart -/
theorem Kp.free {d : Addr} {H H' : Hp} (e : Kp d H H') {o : HO} (hd : H' d = some o) {l : Addr} (h : H' l = none) : H l = none := by
  cases q : H l with
  | none => rfl
  | some u =>
    by_cases hl : l = d
    · subst hl
      rw [hd] at h
      cases h
    · rw [e l u q hl] at h
      cases h
mutual
theorem dp_keep {K : PySem.W.Frag} {H H' : Hp} (k : ∀ a u, Rd H a u → (∃ xs, u = .lst xs ∨ u = .tup xs) → Rd H' a u) : ∀ (d : PyData) (v : V), Dp K H v d → Dp K H' v d
  | .none, _, h => by cases h; exact .non
  | .bool b, _, h => by cases h; exact .bl b
  | .int i, _, h => by cases h; exact .int i
  | .str x, _, h => by cases h; exact .str x
  | .list ds, _, h => by
    cases h with
    | lst h1 h2 =>
      refine .lst ?_ (dpAll_keep k ds _ h2)
      rcases h1 with h1 | h1
      · exact .inl (k _ _ h1 ⟨_, .inl rfl⟩)
      · exact .inr h1
  | .tuple ds, _, h => by
    cases h with
    | tup h1 h2 =>
      refine .tup ?_ (dpAll_keep k ds _ h2)
      rcases h1 with h1 | h1
      · exact .inl (k _ _ h1 ⟨_, .inr rfl⟩)
      · exact .inr h1
theorem dpAll_keep {K : PySem.W.Frag} {H H' : Hp} (k : ∀ a u, Rd H a u → (∃ xs, u = .lst xs ∨ u = .tup xs) → Rd H' a u) : ∀ (ds : List PyData) (vs : List V), DpAll K H vs ds → DpAll K H' vs ds
  | [], _, h => by cases h; exact .nil
  | d :: ds, _, h => by
    cases h with
    | cons h1 h2 => exact .cons (dp_keep k d _ h1) (dpAll_keep k ds _ h2)
end
/-! ### loops -/
theorem for_enum {K : PySem.W.Frag} {a : Addr} {xs : List V} {g : TG} {tb : TS} {D : Ends} {σ : L2.St} {H : Hp} (Pv : Nat → L2.St → Hp → Prop) (h0 : Pv 0 σ H) (hl : ∀ i σ H, i ≤ xs.length → Pv i σ H → SqL K H a xs)
    (hs : ∀ (i : Nat) (x : V) (σ : L2.St) (H : Hp) (T : Addr), xs[i]? = some x → H T = none → Pv i σ H → g (.ref T) σ (upd H T (.tup [.int (i : Nat), x])) fun σ2 H2 => tb { D with nx := Pv (i + 1), ct := Pv (i + 1), bk := D.nx } σ2 H2) (hd : ∀ σ H, Pv xs.length σ H → D.nx σ H) :
    ∃ W : Nat → Nat → L2.St → Hp → Prop, (∃ m, W 0 m σ H) ∧ ∀ i m σ H, W i m σ H →
      ((Ite K a).stop i H ∧ D.nx σ H) ∨ ((Ite K a).go i H ∧ ∃ N : L2.St → Hp → Prop, (∀ σ' H', N σ' H' → ∃ m', m' < m ∧ W (i + 1) m' σ' H') ∧ ∀ x H', (Ite K a).yld i H x H' → g x σ H' fun σ2 H2 => tb { D with nx := N, ct := N, bk := D.nx } σ2 H2) := by
  refine ⟨fun i m σ H => m = xs.length - i ∧ i ≤ xs.length ∧ Pv i σ H, ⟨xs.length, by simp, Nat.zero_le _, h0⟩, ?_⟩
  rintro i m σ H ⟨rfl, hi, p⟩
  have q := hl i σ H hi p
  by_cases hlt : i < xs.length
  · refine .inr ⟨⟨xs, xs[i], q, by simp [hlt]⟩, Pv (i + 1), fun σ' H' p' => ⟨xs.length - (i + 1), by omega, rfl, hlt, p'⟩, fun x H' y => ?_⟩
    obtain ⟨T, x, rfl, nT, rfl, y⟩ := y
    exact hs i x σ _ T (y xs q) nT p
  · have e : i = xs.length := by omega
    subst e
    exact .inl ⟨⟨xs, q, Nat.le_refl _⟩, hd σ H p⟩
/-- a cut: what is known of the value that is stored -/
theorem asgW {te : TE} {g : TG} {D : Ends} {σ : L2.St} {H : Hp} (W : VK) (h1 : ∀ R : VK, (∀ v H2, W v H2 → R v H2) → te σ H R) (h2 : ∀ v H2, W v H2 → g v σ H2 D.nx) : tAsg te g D σ H := h1 _ h2
theorem asgS {te : TE} {g : TG} {u : TS} {D : Ends} {σ : L2.St} {H : Hp} (W : VK) (h1 : ∀ R : VK, (∀ v H2, W v H2 → R v H2) → te σ H R) (h2 : ∀ v H2, W v H2 → g v σ H2 (u D)) : tSeq (tAsg te g) u D σ H := h1 _ h2
/-- a cut behind a statement -/
theorem seqW {t u : TS} {D : Ends} {σ : L2.St} {H : Hp} (W : L2.St → Hp → Prop) (h1 : ∀ N : L2.St → Hp → Prop, (∀ σ' H', W σ' H' → N σ' H') → t { D with nx := N } σ H) (h2 : ∀ σ' H', W σ' H' → u D σ' H') : tSeq t u D σ H := h1 _ h2
theorem nextS {D : Ends} {σ : L2.St} {H : Hp} (h : D.nx σ H) : tNext D σ H := h
theorem yes_ite {σ : L2.St} {H : Hp} {A B : Hp → Prop} (h : A H) : tYes σ H fun b H3 => if b = true then A H3 else B H3 := (iteT h : if true = true then A H else B H)
/-- a new object: the heap behind it by what is known of it -/
theorem newW {G : VK} {H : Hp} {o : HO} (h : ∀ p H1, H p = none → Same H H1 → H1 p = some o → G (.ref p) H1) : ∀ p, H p = none → G (.ref p) (upd H p o) := fun p hp => h p _ hp (same_upd hp) upd_same
theorem seqT {K : PySem.W.Frag} {H H' : Hp} {a : Addr} {xs : List V} (e : Same H H') (h : SqT K H a xs) : SqT K H' a xs := by
  rcases h with (h | ⟨o, h⟩) | h
  · exact .inl (.inl (e _ _ h))
  · exact .inl (.inr ⟨o, e _ _ h⟩)
  · exact .inr h
end Sh
set_option Elab.async false
set_option linter.all false
set_option maxRecDepth 100000
set_option maxHeartbeats 4000000
namespace Sh
open PySem PySem.Spec PySem.W PyProof.Rows L2 NdefX
/-! ### own exceptions whose __init__ says super().__init__(..) -/
/-- what the written part says of such an __init__ -/
structure SupF (P : Program) (K : Frag) (mg : Str → Option Value) (cc cda D : Addr) (params : Arguments) (scope : Scope) (sn : Str) : Prop where
  head : ∃ ar : Arg, (params.posonlyargs ++ params.args).head? = some ar ∧ ar.arg = sn
  code : ∃ ccl cdd vs ccs file tf, K.lookup cda = some ⟨ccl, cdd, .fields vs, ccs⟩ ∧ vs[2]? = some (.str file tf) ∧ ((P.main.file : Str) == file) = true
  cell : ∃ cl cld csl, K.lookup cc = some ⟨cl, cld, .cell (some (.ref D)), csl⟩
  clsD : ∃ cdD, clsIn K D = some cdD
  ks : scope.names.lookup ("super" : Str) = some .globalImplicit
  kc : scope.names.lookup ("__class__" : Str) = some .free
  ka : scope.names.lookup sn = some .local
  top : (P.main.scope.names.lookup ("super" : Str)).isSome = false
  mgs : mg "super" = none
  opq : nsIn K cStatics "thirdparty.any" = some none
theorem boot_super : bootBuiltins "super" = some (.type "super") := by decide +kernel
theorem call_mw {prog : Program} {w : World} {A : Around} {E : Value → Shared → Prop} {h : Heap} {g : Array GenState} {d : Drawn} {t : Nat} {os : OsState} {nm q : Str} {C N : Addr} {bs bm : List Value} {hdct : Bool} {sn : List Str} {sub : List Value} {ab : Bool} {col : Option Bool} {dd : Option Addr} {k0 k1 k2 k3 k5 : Option Value}
    {u e t0 : Addr} {rest : List Value} {Q : Value → Shared → Prop}
    (hC : h.get? C = some (excClassObj nm q C N bs bm hdct sn sub ab col dd k0 k1 k2 k3 k5 "ValueError.__new__")) (he : h.get? e = some (excObj C t0 none .none)) (hu : h.get? u = some (kxs_mw "ValueError.__init__" e)) (hz : rest.length ≤ sizeLine)
    (hq : ∀ h', (∀ b o, b ≠ e → h.get? b = some o → h'.get? b = some o) → h'.get? e = some (excObj C h.objs.size none .none) → Q .none ⟨h', g, d, t, os⟩) :
    wpAny (model prog w) A (call (.ref u) rest) Q E ⟨h, g, d, t, os⟩ := by
  have FB := F.excBase_ValueError
  refine wpAny_call (codeAny_of_tree ?_)
  show wpAny _ A.in1 (callAny (.ref u) ⟨rest, []⟩) _ _ _
  simp only [callAny]
  refine wpAny_bind (wpAny_load hu ?_)
  simp only [kxs_mw, show (Value.type "method-wrapper" == Value.type "method" || Value.type "method-wrapper" == Value.type "builtin_function_or_method" || Value.type "method-wrapper" == Value.type "method-wrapper") = true by decide, if_true]
  refine KFB.if_so (by decide) ?_
  refine wpAny_bind (check_bound_init FB.toExcCallFacts hC he rfl ?_)
  refine wpAny_bind (wpAny_pure (wpAny_pure ?_))
  refine ⟨plainId_quiet FB.init.plain _, codeAny_builtin FB.initEntry ?_⟩
  exact exc_init_tree (cls := .ref C) (t0 := t0) (dv := none) (c2 := .none) (c3 := .none) (b4 := .bool false) he hz fun h' k e' _ => hq h' k e'
/-- what is asked of the class of the exception that is made -/
structure SupC (K : Frag) (C D : Addr) : Prop where
  ox : OexC K C
  mro : mroIn K C (.ref D) = some true
  sup : ks_superIn K C D "__init__" = some (some (.builtin "ValueError.__init__"))
  sub : subIn K (.ref C) (.type "ValueError") = some true
section
variable {CX : CXT} {P : Program} {w : World} {K : Frag} {mg : Str → Option Value} {base : Heap} {k : Nat} {f cc cda D : Addr} {name qual : Str} {params : Arguments} {body rest : List Stmt} {scope : Scope} {dV kV doc pm oc ct : Value} {an od : Option Addr} {osl : Array (Option Value)} {N ps : List Str} {sp : Sp} {sn : Str}
  {p0 p1 p2 p3 p4 : Pos} {e : Expr} {es : List Expr}
theorem fn_super (lk : K.lookup f = some ⟨oc, od, .func (fnX name qual params body scope [("__class__", cc)] dV kV doc pm an (.ref cda) ct), osl⟩) (hcd : codeIn K (.ref cda) qual = true)
    (S : NScope N ps ["__class__"] scope) (hN0 : N[0]? = some sn) (SF : SupF P K mg cc cda D params scope sn)
    (hb : body = .Expr (.Call (.Attribute (.Call (.Name "super" p0) [] [] p1) "__init__" p2) (e :: es) [] p3) p4 :: rest)
    (len : ∀ vs H Q E, sp vs H Q E → vs.length = ps.length)
    (hbody : ∀ (A : Around) (outer : List Env) (s : Shared) (H : Hp) (vs : List V) (Q : VK) (E : XK), Room k (A.deeper (envF ⟨name, qual, params, body, scope, [("__class__", cc)], cda⟩ f s.heap.objs.size)) → sp vs H Q E →
      ∃ (a C : Addr) (ta : TA) (t : TS), (startF N vs [some (.ref D)])[0]? = some (some (.ref a)) ∧ H a = some (exo a C none) ∧ SupC K C D ∧
        PA (ncx CX P w K mg base N ⟨name, qual, params, body, scope, [("__class__", cc)], cda⟩ f A outer s H E) (e :: es) ta ∧ PSs (ncx CX P w K mg base N ⟨name, qual, params, body, scope, [("__class__", cc)], cda⟩ f A outer s H E) rest t ∧
        ta (startF N vs [some (.ref D)]) H (fun ws H1 => ws.length ≤ 1000 ∧ H1 a = some (exo a C none) ∧ t { nx := fun _ H' => Q .non H', rt := Q } (startF N vs [some (.ref D)]) H1))
    (hc : ∀ env : Env, ∃ pl : Sem Bool, eval (.Call (.Attribute (.Call (.Name "super" p0) [] [] p1) "__init__" p2) (e :: es) [] p3) env = (do
      let ov ← attributeBase (.Call (.Name "super" p0) [] [] p1) "__init__" env (eval (.Call (.Name "super" p0) [] [] p1) env)
      standAt p2.atName
      let (f, first) ← holding [ov] (getMethod ov "__init__" pl)
      callWith p3 f first (backTo p3 (starEach (e :: es) env)) []) := by exact fun env => ⟨_, rfl⟩)
    (hsw : ∀ env : Env, swapsWith (.Call (.Attribute (.Call (.Name "super" p0) [] [] p1) "__init__" p2) (e :: es) [] p3) none p4.line env = pure false := by intro _; rfl)
    (he : ∀ env, starEach (e :: es) env = (false, eval e env) :: starEach es env := by intro _; rfl) (hpl : ∀ env, (backTo p3 (starEach es env)).any (·.1) = false := by intro _; rfl) :
    FnOk P w K mg base CX (k + 1) f (fnX name qual params body scope [("__class__", cc)] dV kV doc pm an (.ref cda) ct) ps sp := by
  refine ⟨len, fun A outer s H args us vs Q E hr e0 hbi r hsp => ?_⟩
  have hl := len _ _ _ _ hsp
  have KX : K.In s.heap := e0.mod.kin.keeps fun b o z => (e0.bs b o z).1
  have lim : s.heap.NoLimit := e0.mod.nolimit.keeps fun b o z => (e0.bs b o z).1
  obtain ⟨a, C, ta, t, h0, ea, SC, hPA, hPS, hq⟩ := hbody A outer s H vs Q E (hr.deeper _) hsp
  obtain ⟨ar, hhead, har⟩ := SF.head
  obtain ⟨ccl, cdd, vsC, ccs, file, tf, hcode, hvs, hfile⟩ := SF.code
  obtain ⟨ccl', cld, csl, hcell⟩ := SF.cell
  obtain ⟨cdD, hD⟩ := SF.clsD
  have hCA : CellsAt [("__class__", cc)] ["__class__"] [some (V.ref D)] s.heap H := by
    have hn : H cc = none := (e0.bs cc _ (e0.mod.kin _ _ hcell)).2
    have hc : s.heap.IsCell cc (some (.ref D)) := ⟨_, KX _ _ hcell, rfl⟩
    refine ⟨rfl, fun y c z => ?_, fun x y c z1 z2 => ?_, fun i y z => ?_⟩
    · have : c = cc := by
        simp only [List.lookup] at z
        split at z
        · cases z; rfl
        · cases z
      subst this
      exact ⟨hn, _, hc⟩
    · simp only [List.lookup] at z1 z2
      split at z1
      · rename_i q1
        split at z2
        · rename_i q2
          rw [beq_iff_eq] at q1 q2
          rw [q1, q2]
        · cases z2
      · cases z1
    · match i, z with
      | 0, z =>
        cases z
        refine ⟨cc, rfl, fun v z => ?_⟩
        cases z
        exact ⟨_, rfl, hc⟩
      | i + 1, z => simp at z
  refine ks_codeAny_call_defAt hr.depth (KX _ _ lk) rfl lim (codeRec_of KX hcd) rfl hbi S.nocell (fun ⟨n, _⟩ hy => S.par n (List.of_mem_zip hy).1) (fun h₁ hns hk => ?_) S.co S.gen S.kind
  have I : Inv (ncx CX P w K mg base N ⟨name, qual, params, body, scope, [("__class__", cc)], cda⟩ f A outer s H E) [] (startF N vs [some (.ref D)]) H { s with heap := h₁, toks := s.toks + (ps.zip us).length } :=
    inv_startN (F := ⟨name, qual, params, body, scope, [("__class__", cc)], cda⟩) S hr.hd e0 hl r hCA hns hk
  have Ih : K.In h₁ := KX.keeps hk
  subst hb
  have hC' : ∃ cd, clsIn K C = some cd := by
    have := SC.sup
    unfold ks_superIn at this
    cases hc : clsIn K C with
    | none => rw [hc] at this; cases this
    | some cd => exact ⟨cd, rfl⟩
  obtain ⟨cd, hcC⟩ := hC'
  obtain ⟨t1, hoe⟩ := exo_at I.hok ea
  have IA : InstAt h₁ a { cls := .ref C, dict := none, data := .fields #[.ref t1, .none, .none, .none, .bool false, .none] } C none := ⟨hoe, rfl, rfl, trivial⟩
  obtain ⟨oD, hD1, hD2⟩ : ∃ oD, h₁.get? D = some oD ∧ oD.data = .cls cdD := by
    unfold clsIn at hD
    split at hD
    · rename_i c d cd' sl ho
      cases hD
      exact ⟨_, Ih _ _ ho, rfl⟩
    · cases hD
  obtain ⟨pl, hpe⟩ := hc (callEnv (fnX name qual params (.Expr (.Call (.Attribute (.Call (.Name "super" p0) [] [] p1) "__init__" p2) (e :: es) [] p3) p4 :: rest) scope [("__class__", cc)] dV kV doc pm an (.ref cda) ct) s.heap.objs.size f)
  refine ks_wpAt_execs_cons (ks_wpAt_Expr_any (ks_wpAt_MethodCall (pl := pl) ?_ hpe) I.quiet (hsw _))
  refine ks_wpAt_super_base (fd := fnX name qual params _ scope [("__class__", cc)] dV kV doc pm an (.ref cda) ct) (ar := ar) SF.ks SF.kc (by decide) rfl (Ih _ _ lk) rfl hhead rfl (Ih _ _ hcode) rfl hvs hfile SF.top ?_
  obtain ⟨mb, hb1, hb2⟩ := I.mod.blt
  refine ks_loadName_global S.kind SF.ks (Calls.loadGlobal_builtin (mg := mg) (mb := mb) (I.mod.glob.keeps I.bk) SF.mgs (hb1.keeps I.bk) ((hb2 "super" (by decide)).trans boot_super) ⟨rfl, ?_⟩)
  refine wpAny_loadName_free S.kind SF.kc rfl ⟨_, Ih _ _ hcell, rfl⟩ ?_
  obtain ⟨m, hm, hloc⟩ := I.loc
  obtain ⟨u, ru, hlk⟩ := hloc 0 sn (.ref a) hN0 h0 (.inl SF.ka)
  obtain rfl : u = Value.ref a := ru
  have hmv : m ar.arg = some (.ref a) := by
    rw [har]
    rcases hlk with ⟨_, z⟩ | ⟨z, _⟩
    · exact z
    · rcases z with z | z <;> (exfalso; have y := SF.ka; rw [show (ncx CX P w K mg base N _ f A outer s H E).env.kindOf sn = scope.names.lookup sn from rfl, y] at z; cases z)
  refine wpAny_loadName_local S.kind (har ▸ SF.ka) hm hmv ?_
  refine ks_wpAny_isType_cls hD1 hD2 ⟨rfl, ?_⟩
  refine ks_wpAny_call_super hD1 hD2 IA.at_ IA.cls (fun c e => by cases e) (looks_mroIn Ih SC.mro) (fun h2 hso k2 => ?_)
  have Ih2 : K.In h2 := Ih.keeps k2
  have IA2 : InstAt h2 a { cls := .ref C, dict := none, data := .fields #[.ref t1, .none, .none, .none, .bool false, .none] } C none := ⟨k2 _ _ hoe, rfl, rfl, trivial⟩
  have hsup := SC.sup
  unfold ks_superIn at hsup
  rw [hcC] at hsup
  refine kxs_getMethod kxs_ValueError hso (looks_opaque Ih2 SF.opq) (l₀ := cd.mro) (fun A Q E s k q => wpAny_bind ((looks_clsIn Ih2 hcC) A _ E s k (wpAny_pure q))) rfl Ih2 hsup (IA2.type.andThen (looks_subIn Ih2 SC.sub)) (ks_ne Ih2 IA2 hcC) (by decide) ?_
  have hlt : h₁.objs.size < h2.objs.size := Heap.lt_size hso
  have I2 : Inv (ncx CX P w K mg base N ⟨name, qual, params, _, scope, [("__class__", cc)], cda⟩ f A outer s H E) [] (startF N vs [some (.ref D)]) H ⟨h2.push (kxs_mw "ValueError.__init__" a), s.gens, s.drawn, s.toks + (ps.zip us).length + 1, s.os⟩ :=
    I.kept (h' := h2.push (kxs_mw "ValueError.__init__" a)) (t' := s.toks + (ps.zip us).length + 1) fun b o z => Heap.get?_push_of_some _ (k2 b o z)
  have I3 := I2.pins_of (pins' := [(h2.objs.size, kxs_mw "ValueError.__init__" a)]) (fun p hp => by
    rw [List.mem_singleton.mp hp]
    exact ⟨Heap.get?_push_at rfl rfl, I.hok.fresh (Nat.le_of_lt hlt), Nat.ne_of_gt (Nat.lt_trans I.lt hlt), I.nofs (Nat.le_of_lt hlt), fun v z => by cases z⟩)
  have hstar := he (envF ⟨name, qual, params, .Expr (.Call (.Attribute (.Call (.Name "super" p0) [] [] p1) "__init__" p2) (e :: es) [] p3) p4 :: rest, scope, [("__class__", cc)], cda⟩ f s.heap.objs.size)
  have hplain := hpl (envF ⟨name, qual, params, .Expr (.Call (.Attribute (.Call (.Name "super" p0) [] [] p1) "__init__" p2) (e :: es) [] p3) p4 :: rest, scope, [("__class__", cc)], cda⟩ f s.heap.objs.size)
  have key := hPA.run p3 [(h2.objs.size, kxs_mw "ValueError.__init__" a)] _ _ H _ I3 hq
  show wpAny _ _ (callWith p3 (.ref h2.objs.size) [] (backTo p3 (starEach (e :: es) (envF ⟨name, qual, params, .Expr (.Call (.Attribute (.Call (.Name "super" p0) [] [] p1) "__init__" p2) (e :: es) [] p3) p4 :: rest, scope, [("__class__", cc)], cda⟩ f s.heap.objs.size))) []) _ _ _
  change wpAny _ _ (spliced (backTo p3 (starEach (e :: es) (envF ⟨name, qual, params, .Expr (.Call (.Attribute (.Call (.Name "super" p0) [] [] p1) "__init__" p2) (e :: es) [] p3) p4 :: rest, scope, [("__class__", cc)], cda⟩ f s.heap.objs.size)))) _ _ _ at key
  rw [hstar] at key ⊢
  refine kxs_callWith (i := "ValueError.__init__") (x := a) (by show (false || (backTo p3 (starEach es _)).any (·.1)) = false; rw [hplain]; rfl) (Calls.evalArgs_plain ?_)
  refine wpAny_mono key (fun us' s1 hv => ?_) fun _ _ z => z
  obtain ⟨ws, H1, I1, r1, hz, ea1, q1⟩ := hv
  refine ⟨(I1.pin _ (List.mem_append_right _ (List.mem_singleton.mpr rfl))).1, ?_⟩
  have hpin := (I1.pin _ (List.mem_append_right _ (List.mem_singleton.mpr rfl))).1
  obtain ⟨nm, qn, NN, bs, bm, sn', sub, ab, col, dd, k0, k1, k2', k3, k5, hCl, hbm⟩ := SC.ox.cls
  obtain ⟨t2, hoe2⟩ := exo_at I1.hok ea1
  obtain ⟨hp, g1, d1, tk1, os1⟩ := s1
  refine call_mw (I1.kIn _ _ hCl) hoe2 hpin (by show us'.length ≤ sizeLine; rw [← Paired.length r1, sizeLine_eq]; omega) fun h' k' e' => ?_
  have J := I1.write (t' := tk1) (x := a) (e := a) (o := exo a C none) (by rw [ea1]; exact True.intro) (.inl rfl) k' ⟨_, e'⟩ (exo_ok e')
  have eu : upd H1 a (exo a C none) = H1 := by
    funext b
    by_cases hb : b = a
    · rw [hb, upd_same, ea1]
    · rw [upd_ne hb]
  rw [eu] at J
  have J0 := J.pins_of (pins' := []) (fun p hp => by cases hp)
  refine wpAt_of_wpAny (wpAny_mono (hPS.run [] _ _ H1 _ J0 q1) (fun fl s' hs => ?_) fun e s' hs => hs)
  have fin : ∀ {σ' : L2.St} {H' : Hp} {v : V} {u : Value}, Inv (ncx CX P w K mg base N ⟨name, qual, params, .Expr (.Call (.Attribute (.Call (.Name "super" p0) [] [] p1) "__init__" p2) (e :: es) [] p3) p4 :: rest, scope, [("__class__", cc)], cda⟩ f A outer s H E) [] σ' H' s' → L2.RelV v u → Q v H' → CE outer P w H s Q u s' :=
    fun {σ' H' v u} J rv q => ⟨v, H', J.os, J.bare, J.base, J.hok, rv, q⟩
  cases fl with
  | ret u =>
    obtain ⟨v, σ', H', J, rv, q⟩ := hs
    exact fin J rv q
  | next =>
    obtain ⟨σ', H', J, q⟩ := hs
    exact fin (v := V.non) (u := Value.none) J rfl q
  | brk =>
    obtain ⟨_, _, _, q⟩ := hs
    exact False.elim q
  | cont =>
    obtain ⟨_, _, _, q⟩ := hs
    exact False.elim q
end
end Sh
set_option Elab.async false
set_option linter.all false
set_option maxRecDepth 100000
set_option maxHeartbeats 4000000
namespace Sh
open PySem PySem.Spec PySem.W PyProof.Rows L2
/-! ### own exceptions as values -/
/-- the class's facts that a reader of its instances asks -/
structure ExR (K : Frag) (C : Addr) : Prop where
  ox : OexC K C
  ga : findIn K (.ref C) "__getattribute__" = some (some (.builtin "BaseException.__getattribute__"))
  gg : findIn K (.ref C) "__getattr__" = some none
  hd : hasDictIn K C = true
  cl : findIn K (.ref C) "__class__" = some (some (.builtin "object.__class__"))
  ob : mroIn K C (.type "object") = some true
theorem ExR.isCls {K : Frag} {C : Addr} (R : ExR K C) : (clsIn K C).isSome = true := by
  have h := R.hd
  unfold hasDictIn at h
  cases q : clsIn K C with
  | none => rw [q] at h; cases h
  | some cd => rfl
/-- an exception's object is an instance of its class -/
theorem exo_inst {P : Program} {w : World} {H : Hp} {h : Heap} {a C : Addr} {d : Option Addr} {fs : List (Str × V)} (hok : HOk P w H h) (ea : H a = some (exo a C d)) (ed : ∀ dx, d = some dx → ∃ fs, H dx = some (exd dx fs)) : ∃ ox od, InstAt h a ox C od ∧ (d = none → od = none) := by
  obtain ⟨t1, ho⟩ := exo_at hok ea
  cases d with
  | none => exact ⟨_, none, ⟨ho, rfl, rfl, trivial⟩, fun _ => rfl⟩
  | some dx =>
    obtain ⟨fs, e⟩ := ed dx rfl
    obtain ⟨mA, hns, _⟩ := exd_at hok e
    obtain ⟨od, h1, _⟩ := lookIn_ns hns
    exact ⟨_, some od, ⟨ho, rfl, rfl, h1⟩, fun z => by cases z⟩
section
variable {X : Cx}
/-- e.f of an exception that is held -/
def tXGet (K : Frag) (f : Str) (te : TE) : TE := fun σ H Q => te σ H fun x H1 => ∃ (a C dx : Addr) (fs : List (Str × V)) (v : V), x = .ref a ∧ ExR K C ∧ findIn K (.ref C) f = some none ∧ H1 a = some (exo a C (some dx)) ∧ H1 dx = some (exd dx fs) ∧ fs.lookup f = some v ∧ Q v H1
theorem pe_xget {e : Expr} {te : TE} {f : Str} {pos : Pos} (he : PE X e te) (hb : attributeBase e f X.env (eval e X.env) = eval e X.env := by rfl) : PE X (.Attribute e f pos) (tXGet X.K f te) := by
  refine ⟨fun pins s σ H Q I h => attr_of hb (thn (he.run pins s σ H _ I h) fun u s1 hh => ?_)⟩
  obtain ⟨x, H1, I1, rx, a, C, dx, fs, v, rfl, R, hno, ea, ed, hl, q⟩ := hh
  obtain rfl : u = Value.ref a := rx
  obtain ⟨t1, ho⟩ := exo_at I1.hok ea
  obtain ⟨mA, hns, hr⟩ := exd_at I1.hok ed
  obtain ⟨od, hod, hlk⟩ := lookIn_ns hns
  obtain ⟨u, hu, ru⟩ := RelO.some_of (v := v) (o := mA f) (by rw [← hl]; exact hr f)
  have J : InstAt s1.heap a _ C (some od) := ⟨ho, rfl, rfl, hod⟩
  exact HandSPX.exc_get I1.kIn J R.ga R.gg R.ox.exC (findObj_own R.hd hno rfl (by rw [hlk, hu])) (handed_of ru) ⟨v, H1, I1.tok _, ru, q⟩
/-- isinstance(e, C) -/
def rIsX (K : Frag) : List V → Hp → VK → Prop := fun xs H Q => ∃ (a C : Addr) (d : Option Addr) (c : V) (u : Value) (b : Bool), xs = [.ref a, c] ∧ ClsV c u ∧ ExR K C ∧ H a = some (exo a C d) ∧ (∀ dx, d = some dx → ∃ fs, H dx = some (exd dx fs)) ∧ kitOne K (.ref C) u = some b ∧ Q (.bl b) H
theorem call_isX (hn : specialIn X.K (.builtin "object.__class__") "__get__" = some (some (.builtin "getset_descriptor.__get__"))) (htk : takesIn X.K (.builtin "object.__class__") = some true) : CallR X (.builtin "isinstance") (rIsX X.K) := by
  intro pins s σ H xs us Q I r h
  obtain ⟨a, C, d, c, u, b, rfl, k, R, ea, ed, e, q⟩ := h
  obtain ⟨u1, u2, rfl, r1, r2⟩ := vals2 r
  obtain rfl := k.eq r2
  obtain rfl : u1 = Value.ref a := r1
  obtain ⟨ox, od, J, _⟩ := exo_inst (fs := []) I.hok ea ed
  exact kia_one (kitx_exc R.isCls R.ga R.gg R.ox.exC R.cl hn htk R.ob) I.kIn J e (fun z => nomatch z) fun tk => ⟨.bl b, H, I.tok tk, rfl, q⟩
end
/-! ### C(e, .., k = v, ..): a new exception, as a value -/
section
variable {prog : Program} {w : World} {M : Model} {A : Around} {E : Value → Shared → Prop} {R : Result → Shared → Prop} {hh : Heap} {gs : Array GenState} {dr : Drawn} {tk : Nat} {os : OsState}
variable {nm q : Str} {C N : Addr} {bs bm : List Value} {hdct : Bool} {sn : List Str} {sub : List Value} {ab : Bool} {col : Option Bool} {dd : Option Addr} {k0 k1 k2 k3 k5 : Option Value} {kw : List (Str × Value)} {rest : List Value}
theorem check_newK (hT : HandSPX.refsVE bm = true) {Q : Unit → Shared → Prop} (hC : hh.get? C = some (excClassObj nm q C N bs bm hdct sn sub ab col dd k0 k1 k2 k3 k5 "ValueError.__new__")) (hq : Q () ⟨hh, gs, dr, tk, os⟩) : wpAny M A (checkBuiltinCall "ValueError.__new__" ⟨.ref C :: rest, kw⟩) Q E ⟨hh, gs, dr, tk, os⟩ := by
  have FB := F.excBase_ValueError
  have hcont : (Value.ref C :: bm).contains (.type "ValueError") = true := by rw [List.contains_cons, HandSPX.refsVE_contains "ValueError" bm hT, FB.hasB, Bool.or_true]
  have hstar := FB.noStar
  simp only [checkBuiltinCall, FB.newKind, FB.newSplit, FB.newRow]
  repeat (first | refine wpAny_loadPart_at hC ?_ | (refine wpAny_isSubtype_exc hC ?_; rw [hcont]) | refine wpAny_staticBase_exc hC ?_ | refine wpAny_madeBy_exc hC ?_ | simp only [bne_self_eq_false, Bool.false_eq_true, if_false] | wp_step)
  exact hq
theorem new_K (hT : HandSPX.refsVE bm = true) (hC : hh.get? C = some (excClassObj nm q C N bs bm hdct sn sub ab col dd k0 k1 k2 k3 k5 "ValueError.__new__")) (hz : rest.length ≤ sizeLine)
    (hq : R (.ok (.ret (.ref (hh.objs.size + 1)))) ⟨(hh.push (kdv_tup rest)).push (HandSPX.excO C hh.objs.size), gs, dr, tk, os⟩) : codeAny (model prog w) A (.builtin "ValueError.__new__" ⟨.ref C :: rest, kw⟩) R ⟨hh, gs, dr, tk, os⟩ := by
  have FB := F.excBase_ValueError
  have hends := FB.ends
  have hcB : (Value.ref C :: bm).contains (.type "ValueError") = true := by rw [List.contains_cons, HandSPX.refsVE_contains "ValueError" bm hT, FB.hasB, Bool.or_true]
  have hcA : (Value.ref C :: bm).contains (.type "AttributeError") = false := by rw [List.contains_cons, HandSPX.refsVE_contains "AttributeError" bm hT, FB.noAttr]; rfl
  have hcN : (Value.ref C :: bm).contains (.type "NameError") = false := by rw [List.contains_cons, HandSPX.refsVE_contains "NameError" bm hT, FB.noName]; rfl
  refine codeAny_builtinAt FB.entry ?_
  unfold Builtin.«BaseException.__new__»
  refine PySem.wpAt_bind ?_
  show PySem.wpAt _ _ _ (stack >>= _) _ _ _
  refine PySem.wpAt_bind (PySem.wpAt_stack fun p below => PySem.wpAt_of_wpAny ?_)
  wp_walk
  refine PySem.wpAt_of_wpAny ?_
  rw [FB.owner]
  repeat (first | with_reducible refine wpAny_madeHere_exc FB.canon hC ?_ | with_reducible refine wpAny_loadPart_at hC ?_ | (with_reducible refine wpAny_isSubtype_exc hC ?_; first | rw [hcB] | rw [hcA] | rw [hcN]) | wp_step)
  show R _ _
  rw [Heap.size_push]
  exact hq
theorem type_callK (hT : HandSPX.refsVE bm = true) {fI : Addr} {Q : Fin → Shared → Prop} (hC : hh.get? C = some (excClassObj nm q C N bs bm hdct sn sub ab col dd k0 k1 k2 k3 k5 "ValueError.__new__"))
    (hi : Looks (model prog w) hh (typeLookup (.ref C) "__init__") (some (.ref fI))) (hb : ∀ self, Looks (model prog w) hh (bindSpecial (.ref fI) self) (.ref fI, [self])) (hz : rest.length ≤ sizeLine)
    (hq : codeAny (model prog w) A (.call (.ref fI) ⟨.ref (hh.objs.size + 1) :: rest, kw⟩)
      (fun r s' => match r with | .ok (.ret v) => v = .none ∧ Q (.done (.ret (.ref (hh.objs.size + 1)))) s' | .ok _ => False | .error e => E e s') ⟨(hh.push (kdv_tup rest)).push (HandSPX.excO C hh.objs.size), gs, dr, tk, os⟩) :
    wpAny (model prog w) A (Builtin.«type.__call__» ⟨.ref C :: rest, kw⟩) Q E ⟨hh, gs, dr, tk, os⟩ := by
  have FB := F.excBase_ValueError
  repeat (first | with_reducible refine wpAny_loadPart_at hC ?_ | with_reducible refine wpAny_madeBy_exc hC ?_ | wp_step)
  refine codeAny_call_builtin_code (Code.quiet_builtin _ FB.quiet) (check_newK hT hC ?_)
  refine new_K hT hC hz ?_
  show wpAny _ _ _ _ _ _
  have k : ∀ b o, hh.get? b = some o → ((hh.push (kdv_tup rest)).push (HandSPX.excO C hh.objs.size)).get? b = some o := fun b o e => Heap.get?_push_of_some _ (Heap.get?_push_of_some _ e)
  have hC₁ := k _ _ hC
  have hget : ((hh.push (kdv_tup rest)).push (HandSPX.excO C hh.objs.size)).get? (hh.objs.size + 1) = some (HandSPX.excO C hh.objs.size) := by heap_get
  have hcC : (Value.ref C :: bm).contains (.ref C) = true := by simp
  have i1 := hi.keeps k
  have b1 := (hb (.ref (hh.objs.size + 1))).keeps k
  unfold isInstance
  repeat (first | with_reducible refine wpAny_loadPart_at hget ?_ | (with_reducible refine wpAny_isSubtype_exc hC₁ ?_; rw [hcC]) | wp_step)
  show wpAny _ _ (typeLookup (.ref C) _) _ _ _
  refine i1.at (wpAny_holding (wpAny_bind (b1.at (wpAny_bind (wpAny_call (codeAny_mono hq fun r s' z => ?_))))))
  rcases r with e | (v | _ | _ | _) <;> first | exact z | exact z.elim | skip
  obtain ⟨rfl, z⟩ := z
  first | exact wpAny_pure (wpAny_pure z) | (wp_walk; exact z)
theorem check_tcK {Q : Unit → Shared → Prop} (hC : hh.get? C = some (excClassObj nm q C N bs bm hdct sn sub ab col dd k0 k1 k2 k3 k5 "ValueError.__new__")) (hq : Q () ⟨hh, gs, dr, tk, os⟩) : wpAny M A (checkBuiltinCall "type.__call__" ⟨.ref C :: rest, kw⟩) Q E ⟨hh, gs, dr, tk, os⟩ := by
  have f3 := tc_sub
  have hT : (⟨hh, gs, dr, tk, os⟩ : Shared).TypeIs (.ref C) "type" := ⟨_, hC, rfl⟩
  simp only [checkBuiltinCall, tc_kind, tc_split]
  repeat (any_goals (first | assumption | with_reducible refine wpAny_loadPart_at hC ?_ | with_reducible refine wpAny_onRaise ?_ | with_reducible refine wpAny_map ?_ | wp_step))
theorem call_K (hT : HandSPX.refsVE bm = true) {fI : Addr} (hC : hh.get? C = some (excClassObj nm q C N bs bm hdct sn sub ab col dd k0 k1 k2 k3 k5 "ValueError.__new__"))
    (hi : Looks (model prog w) hh (typeLookup (.ref C) "__init__") (some (.ref fI))) (hb : ∀ self, Looks (model prog w) hh (bindSpecial (.ref fI) self) (.ref fI, [self])) (hz : rest.length ≤ sizeLine)
    (hq : codeAny (model prog w) (A.under (.builtin "type.__call__" ⟨.ref C :: rest, kw⟩)) (.call (.ref fI) ⟨.ref (hh.objs.size + 1) :: rest, kw⟩) (InitBack (hh.objs.size + 1) R) ⟨(hh.push (kdv_tup rest)).push (HandSPX.excO C hh.objs.size), gs, dr, tk, os⟩) :
    codeAny (model prog w) A (.call (.ref C) ⟨rest, kw⟩) R ⟨hh, gs, dr, tk, os⟩ := by
  have f1 := tc_lookup
  have f2 := tc_bind (.ref C)
  have hTy : (⟨hh, gs, dr, tk, os⟩ : Shared).TypeIs (.ref C) "type" := ⟨_, hC, rfl⟩
  refine codeAny_of_tree ?_
  show wpAny _ _ (callAny (.ref C) _) _ _ _
  repeat (any_goals (first | assumption | with_reducible refine wpAny_loadPart_at hC ?_ | wp_step))
  refine ⟨rfl, ?_⟩
  refine codeAny_call_builtin_at (Code.quiet_builtin _ (by decide +kernel)) entry_typeCall (check_tcK hC (type_callK hT hC hi hb hz ?_))
  refine codeAny_mono hq fun r s' z => ?_
  rcases r with e | (v | _ | _ | _) <;> exact z
end
/-- what a maker of its instances asks -/
structure ExM (K : Frag) (C fI : Addr) : Prop where
  ox : OexC K C
  iC : findIn K (.ref C) "__init__" = some (some (.ref fI))
  tI : typeIn K (.ref fI) = some (.type "function")
section
variable {X : Cx} {CX : CXT} {k n : Nat} {fI C : Addr} {fd : FuncData} {ps ks : List Str} {sp : Sp} {x : Str} {p pos : Pos} {e : Expr} {es : List Expr} {kws : List Keyword} {t tk : TA} {g : List Value → List Value → List Value} {gV : List V → List V → List V}
theorem run_oex {pins : List (Addr × Obj)} {σ : L2.St} {H : Hp} {s : Shared} {Q : VK} {us ws : List Value} {vs zs : List V} (T : ExM X.K C fI) (F1 : FnOk X.prog X.w X.K X.mg X.base CX k fI fd ps sp) (hr : Room (k + 1) X.A) (hb : KBn X.K fd ps (n + 1) ks g gV)
    (hx : Passes CX X (fun _ _ _ => False)) (I : Inv X pins σ H s) (r : Vals vs us) (rz : Vals zs ws) (l1 : vs.length = n) (l2 : zs.length = ks.length) (hn : n ≤ 1000)
    (h : ∀ a, H a = none → sp (gV (.ref a :: vs) zs) (upd H a (exo a C none)) (fun v H2 => v = .non ∧ Q (.ref a) H2) (fun _ _ _ => False)) :
    wpAny (model X.prog X.w) X.A (call (.ref C) us (ks.zip ws)) (EP X pins σ Q) X.xe s := by
  obtain ⟨nm, q, N, bs, bm, sn, sub, ab, col, dd, k0, k1, k2, k3, k5, hC, hbm⟩ := T.ox.cls
  obtain ⟨hp, gs, dr, tk, os⟩ := s
  have hsz : hp.objs.size ≤ hp.objs.size + 1 := Nat.le_succ _
  have hq := h (hp.objs.size + 1) (I.hok.fresh hsz)
  have kk : ∀ b o, hp.get? b = some o → ((hp.push (kdv_tup us)).push (HandSPX.excO C hp.objs.size)).get? b = some o := fun b o e => Heap.get?_push_of_some _ (Heap.get?_push_of_some _ e)
  have hget : ((hp.push (kdv_tup us)).push (HandSPX.excO C hp.objs.size)).get? (hp.objs.size + 1) = some (HandSPX.excO C hp.objs.size) := by heap_get
  have I2 : Inv X pins σ (upd H (hp.objs.size + 1) (exo (hp.objs.size + 1) C none)) ⟨(hp.push (kdv_tup us)).push (HandSPX.excO C hp.objs.size), gs, dr, tk, os⟩ :=
    I.laid (t' := tk) (a := hp.objs.size + 1) (o := exo (hp.objs.size + 1) C none) (h' := (hp.push (kdv_tup us)).push (HandSPX.excO C hp.objs.size)) kk hsz (exo_ok hget)
  have r1 : Vals (V.ref (hp.objs.size + 1) :: vs) (Value.ref (hp.objs.size + 1) :: us) := .cons rfl r
  have r2 := hb.rel r1 rz
  have e1 : (Value.ref (hp.objs.size + 1) :: us).length = n + 1 := r1.length.symm.trans (congrArg Nat.succ l1)
  have e2 : ws.length = ks.length := rz.length.symm.trans l2
  have hus : us.length ≤ sizeLine := by
    rw [← Paired.length r, l1, sizeLine_eq]
    omega
  refine wpAny_call (call_K hbm (I.kIn _ _ hC) (looks_findIn I.kIn T.iC) (fun self => bind_fn I.kIn self T.tI) hus
    (codeAny_mono (F1.run _ X.stack _ _ ⟨Value.ref (hp.objs.size + 1) :: us, ks.zip ws⟩ (g (Value.ref (hp.objs.size + 1) :: us) ws) _ _ (fun _ _ _ => False) (hr.make C us (ks.zip ws)) (I2.env0.make C us (ks.zip ws)) (hb.to _ (Value.ref (hp.objs.size + 1) :: us) ws I2.kIn e1 e2) r2 hq) fun r s' hq' => ?_))
  cases r with
  | error er => exact hx pins σ _ _ er s' I2 hq'
  | ok fl =>
    cases fl with
    | ret u =>
      obtain ⟨v, H', I3, rv, ev, q3⟩ := I2.after hq'
      subst ev
      exact ⟨rv, ⟨V.ref (hp.objs.size + 1), H', I3, rfl, q3⟩⟩
    | next => exact False.elim hq'
    | brk => exact False.elim hq'
    | cont => exact False.elim hq'
/-- C(e, .., k = v, ..) -/
def tOex (C : Addr) (n m : Nat) (sp : Sp) (gV : List V → List V → List V) (t tk : TA) : TE := fun σ H Q => t σ H fun vs H1 => tk σ H1 fun zs H2 => vs.length = n ∧ zs.length = m ∧
  ∀ a, H2 a = none → sp (gV (.ref a :: vs) zs) (upd H2 a (exo a C none)) (fun v H3 => v = .non ∧ Q (.ref a) H3) (fun _ _ _ => False)
theorem pe_oexN (T : ExM X.K C fI) (F1 : FnOk X.prog X.w X.K X.mg X.base CX k fI fd ps sp) (hr : Room (k + 1) X.A) (hg : Gl X x) (hm : X.mg x = some (.ref C)) (hb : KBn X.K fd ps (n + 1) ks g gV) (hx : Passes CX X (fun _ _ _ => False))
    (ha : PA X (e :: es) t) (hkw : PK X kws tk) (hn : n ≤ 1000 := by decide) (hall : (backToKw pos (keywordEach kws X.env)).all (·.1.isSome) = true := by rfl) (hks : (backToKw pos (keywordEach kws X.env)).filterMap (·.1) = ks := by rfl)
    (hdb : (x == ("__debug__" : Str)) = false := by decide) (he : starEach (e :: es) X.env = (false, eval e X.env) :: starEach es X.env := by rfl)
    (hpl : ((backTo pos (starEach (e :: es) X.env)).any (·.1) || (backToKw pos (keywordEach kws X.env)).any (·.1.isNone)) = false := by rfl) :
    PE X (.Call (.Name x p) (e :: es) kws pos) (tOex C n ks.length sp gV t tk) := by
  refine ⟨fun pins s σ H Q I h => wpAny_Call_Name_kw (ld_glob I hg hm ?_ hdb)⟩
  refine callWith_KW (h₀ := X.base) I.ok.mod.kin T.ox.kC hall (thn (ha.run pos pins s σ H _ I h) fun us s1 ⟨vs, H1, I1, r, q⟩ => ?_) hpl he
  refine thn (hkw.run pos pins s1 σ H1 _ I1 q) fun ws s2 ⟨zs, H2, I2, rz, l1, l2, q2⟩ => ⟨I2.kIn, ?_⟩
  rw [hks]
  exact run_oex T F1 hr hb hx I2 r rz l1 l2 hn q2
theorem pe_oex0 (T : ExM X.K C fI) (F1 : FnOk X.prog X.w X.K X.mg X.base CX k fI fd ps sp) (hr : Room (k + 1) X.A) (hg : Gl X x) (hm : X.mg x = some (.ref C)) (hb : KBn X.K fd ps 1 ks g gV) (hx : Passes CX X (fun _ _ _ => False))
    (hkw : PK X kws tk) (hall : (backToKw pos (keywordEach kws X.env)).all (·.1.isSome) = true := by rfl) (hks : (backToKw pos (keywordEach kws X.env)).filterMap (·.1) = ks := by rfl)
    (hdb : (x == ("__debug__" : Str)) = false := by decide) (hpl : ((backTo pos (starEach [] X.env)).any (·.1) || (backToKw pos (keywordEach kws X.env)).any (·.1.isNone)) = false := by rfl) :
    PE X (.Call (.Name x p) [] kws pos) (tOex C 0 ks.length sp gV tNil tk) := by
  refine ⟨fun pins s σ H Q I h => wpAny_Call_Name_kw (ld_glob I hg hm ?_ hdb)⟩
  refine callWith_KW0 (h₀ := X.base) I.ok.mod.kin T.ox.kC hall ?_ hpl
  refine thn (hkw.run pos pins s σ H _ I h) fun ws s2 ⟨zs, H2, I2, rz, l1, l2, q2⟩ => ⟨I2.kIn, ?_⟩
  rw [hks]
  exact run_oex T F1 hr hb hx I2 .nil rz l1 l2 (by decide) q2
end
/-- C(), an own exception class without own __init__ -/
theorem pe_exn0 {X : Cx} {C : Addr} {x : Str} {p pos : Pos} (q : excIn X.K C [.type "ValueError", .type "Exception", .type "BaseException", .type "object"] "ValueError.__new__" = true) (gC : X.mg x = some (.ref C)) (kC : keepIn X.K (.ref C) = true) (hg : Gl X x) (hdb : (x == ("__debug__" : Str)) = false := by decide) :
    PE X (.Call (.Name x p) [] [] pos) (fun _ H Q => ∀ a, H a = none → Q (.ref a) (upd H a (exo a C none))) := by
  refine ⟨fun pins s σ H Q I h => wpAny_Call_Name_kw (ld_glob I hg gC ?_ hdb)⟩
  refine callWith_KW0 (h₀ := X.base) I.ok.mod.kin kC (by rfl) (wpAny_evalAll_nil ⟨I.kIn, ?_⟩) (by rfl)
  show wpAny _ _ (call (.ref C) []) _ _ _
  obtain ⟨bm, N, nm, qn, bs, hdct, sn, sub, ab, col, dd, k0, k1, k2, k3, k5, mN, hC, hN, hni, T⟩ := exc_obj I.kIn q
  refine wpAny_call_exc_subT F.excBase_ValueError T hC hN hni (fun h' a hm => ?_) (Nat.zero_le _)
  obtain ⟨t, ht, _, _⟩ := hm.there
  have hn : H a = none := I.hok.gone hm.new
  exact ⟨.ref a, upd H a (exo a C none), I.laidN hm.keeps hm.new hn (exo_ok ht), rfl, h a hn⟩
end Sh
set_option Elab.async false
set_option linter.all false
set_option maxRecDepth 100000
set_option maxHeartbeats 4000000
namespace Sh
open PySem PySem.Spec PySem.W PyProof.Rows L2 NdefX
/-! ### the facts of an own exception class, bundled -/
abbrev veTail : List Value := [.type "ValueError", .type "Exception", .type "BaseException", .type "object"]
/-- the class at C, right below the class at S, which is right below ValueError -/
structure XCls (K : Frag) (S C : Addr) : Prop where
  r : ExR K C
  sub : ∀ b : Value, mroIn K C b = some ((Value.ref C :: .ref S :: veTail).contains b)
  ty : typeIn K (.ref C) = some (.type "type")
  isC : (clsIn K C).isSome = true
theorem xcls_mk {K : Frag} {S C N : Addr} {nm q : Str} {bs : List Value} {sn : List Str} {sub : List Value} {ab : Bool} {col : Option Bool} {dd : Option Addr} {k0 k1 k2 k3 k5 : Option Value}
    (xL : K.lookup C = some (excClassObj nm q C N bs [.ref S, .type "ValueError", .type "Exception", .type "BaseException", .type "object"] true sn sub ab col dd k0 k1 k2 k3 k5 "ValueError.__new__"))
    (sa : findIn K (.ref C) "__setattr__" = some (some (.builtin "object.__setattr__"))) (ga : findIn K (.ref C) "__getattribute__" = some (some (.builtin "BaseException.__getattribute__"))) (gg : findIn K (.ref C) "__getattr__" = some none)
    (cl : findIn K (.ref C) "__class__" = some (some (.builtin "object.__class__"))) (kC : keepIn K (.ref C) = true) : XCls K S C := by
  have hcl : clsIn K C = some { name := nm, bases := bs, mro := .ref C :: [.ref S, .type "ValueError", .type "Exception", .type "BaseException", .type "object"], ns := N, qualname := q, hasDict := true, slotNames := sn, subclasses := sub, abstract := ab, collection := col, hasDel := false } := by
    unfold clsIn
    rw [xL]
  have hm : ∀ b : Value, mroIn K C b = some ((Value.ref C :: .ref S :: veTail).contains b) := fun b => by
    unfold mroIn
    rw [hcl]
    rfl
  have hty : typeIn K (.ref C) = some (.type "type") := by
    show (K.lookup C).map (·.cls) = _
    rw [xL]
    rfl
  have hin : ∀ T : String, veTail.contains (.type T) = true → (Value.ref C :: .ref S :: veTail).contains (.type T) = true := fun T z => by
    rw [List.contains_cons, List.contains_cons, z]
    simp
  refine ⟨⟨⟨⟨nm, q, N, bs, _, sn, sub, ab, col, dd, k0, k1, k2, k3, k5, xL, rfl⟩, sa, ?_, hty, kC⟩, ga, gg, ?_, cl, ?_⟩, hm, hty, by rw [hcl]; rfl⟩
  · show mroIn K C _ = _
    rw [hm, hin "BaseException" (by decide +kernel)]
  · unfold hasDictIn
    rw [hcl]
    rfl
  · rw [hm, hin "object" (by decide +kernel)]
/-- isinstance of an instance of C, asked of another such class -/
theorem XCls.own {K : Frag} {S C D : Addr} (x : XCls K S C) (y : XCls K S D) (h : D ≠ S) : kitOne K (.ref C) (.ref D) = some (decide (C = D)) := by
  unfold kitOne
  by_cases e : C = D
  · subst e
    rw [if_pos (by simp), decide_eq_true rfl]
  · rw [if_neg (by simp [e]), decide_eq_false e]
    unfold kitCls
    simp only [y.isC, y.ty, beq_self_eq_true, Bool.and_self, if_true]
    show mroIn K C (.ref D) = some false
    rw [x.sub]
    have e1 : (Value.ref D == Value.ref C) = false := by simp [Ne.symm e]
    have e2 : (Value.ref D == Value.ref S) = false := by simp [h]
    simp only [List.contains_cons, e1, e2, Bool.false_or]
    have e3 : ∀ T : String, (Value.ref D == Value.type T) = false := fun T => by simp
    simp [e3]
theorem XCls.base {K : Frag} {S C : Addr} (x : XCls K S C) (y : XCls K S C) (hS : (clsIn K S).isSome = true) (tS : typeIn K (.ref S) = some (.type "type")) : kitOne K (.ref C) (.ref S) = some true := by
  unfold kitOne
  split
  · rfl
  · unfold kitCls
    simp only [hS, tS, beq_self_eq_true, Bool.and_self, if_true]
    show mroIn K C (.ref S) = some true
    rw [x.sub]
    simp
theorem XCls.blt {K : Frag} {S C : Addr} (x : XCls K S C) (T : String) (hm : kitMeta T = true) : kitOne K (.ref C) (.type T) = some (veTail.contains (.type T)) := by
  unfold kitOne
  rw [if_neg (by simp)]
  unfold kitCls
  simp only [hm, if_true]
  show mroIn K C (.type T) = _
  rw [x.sub]
  simp [List.contains_cons]
/-- its __init__ -/
structure XInit (P : Program) (K : Frag) (mg : Str → Option Value) (C f : Addr) (qual : Str) (st : Stmt) (fd : FuncData) : Prop where
  m : ExM K C f
  sc : SupC K C C
  fn : ∃ oc od kV doc pm an ct osl cc cda, fd = fnX "__init__" qual (defArgs st) (defBody st) (defScope st) [("__class__", cc)] .none kV doc pm an (.ref cda) ct ∧ K.lookup f = some ⟨oc, od, .func fd, osl⟩ ∧ codeIn K (.ref cda) qual = true ∧ SupF P K mg cc cda C (defArgs st) (defScope st) "self"
theorem xinit_mk {P : Program} {K : Frag} {mg : Str → Option Value} {S C f cc cda : Addr} {qual file : Str} {st : Stmt} {oc kV doc pm ct ccl cl : Value} {od an cdd cld : Option Addr} {osl ccs csl : Array (Option Value)} {vs : Array Value} {tf : Tok} (x : XCls K S C)
    (iC : findIn K (.ref C) "__init__" = some (some (.ref f))) (tI : typeIn K (.ref f) = some (.type "function")) (lf : K.lookup f = some ⟨oc, od, .func (fnX "__init__" qual (defArgs st) (defBody st) (defScope st) [("__class__", cc)] .none kV doc pm an (.ref cda) ct), osl⟩)
    (c : codeIn K (.ref cda) qual = true) (lc : K.lookup cda = some ⟨ccl, cdd, .fields vs, ccs⟩) (hv : vs[2]? = some (.str file tf)) (hf : ((P.main.file : Str) == file) = true) (lx : K.lookup cc = some ⟨cl, cld, .cell (some (.ref C)), csl⟩)
    (sup : ks_superIn K C C "__init__" = some (some (.builtin "ValueError.__init__"))) (mgs : mg "super" = none) (opq : nsIn K cStatics "thirdparty.any" = some none) (top : (P.main.scope.names.lookup ("super" : Str)).isSome = false)
    (hh : ∃ ar : Arg, ((defArgs st).posonlyargs ++ (defArgs st).args).head? = some ar ∧ ar.arg = "self") (ks : (defScope st).names.lookup ("super" : Str) = some .globalImplicit) (kc : (defScope st).names.lookup ("__class__" : Str) = some .free) (ka : (defScope st).names.lookup ("self" : Str) = some .local) :
    XInit P K mg C f qual st (fnX "__init__" qual (defArgs st) (defBody st) (defScope st) [("__class__", cc)] .none kV doc pm an (.ref cda) ct) := by
  obtain ⟨cd, hcd⟩ := Option.isSome_iff_exists.mp x.isC
  refine ⟨⟨x.r.ox, iC, tI⟩, ⟨x.r.ox, ?_, sup, ?_⟩, oc, od, kV, doc, pm, an, ct, osl, cc, cda, rfl, lf, c, ⟨hh, ⟨ccl, cdd, vs, ccs, file, tf, lc, hv, hf⟩, ⟨cl, cld, csl, lx⟩, ⟨cd, hcd⟩, ks, kc, ka, top, mgs, opq⟩⟩
  · rw [x.sub]
    simp
  · show mroIn K C _ = _
    rw [x.sub]
    simp
/-- the arguments as they are bound: behind the positional ones the keywords', the first one last -/
def rotV (vs zs : List V) : List V := vs ++ (zs.drop 1 ++ zs.take 1)
def rotU (us ws : List Value) : List Value := us ++ (ws.drop 1 ++ ws.take 1)
theorem vals_take : ∀ {vs : List V} {us : List Value} (n : Nat), Vals vs us → Vals (vs.take n) (us.take n)
  | _, _, 0, _ => .nil
  | _, _, _ + 1, .nil => .nil
  | _, _, n + 1, .cons r t => .cons r (vals_take n t)
theorem vals_drop : ∀ {vs : List V} {us : List Value} (n : Nat), Vals vs us → Vals (vs.drop n) (us.drop n)
  | _, _, 0, h => h
  | _, _, _ + 1, .nil => .nil
  | _, _, n + 1, .cons _ t => vals_drop n t
theorem kbn_rot {K : Frag} {fd : FuncData} {ps ks : List Str} {n : Nat} (h : ∀ us ws : List Value, us.length = n → ws.length = ks.length → bindArgs fd ⟨us, ks.zip ws⟩ = pure (ps.zip (rotU us ws))) : KBn K fd ps n ks rotU rotV :=
  ⟨fun s us ws _ l1 l2 => .of_eq (h us ws l1 l2), fun r1 r2 => r1.append ((vals_drop 1 r2).append (vals_take 1 r2))⟩
theorem kbn_x {P : Program} {K : Frag} {mg : Str → Option Value} {C f : Addr} {qual : Str} {st : Stmt} {fd : FuncData} {ps ks : List Str} {n : Nat} (i : XInit P K mg C f qual st fd)
    (h : ∀ (cc : Addr) (kV doc pm : Value) (an : Option Addr) (cda : Addr) (ct : Value) (us ws : List Value), us.length = n → ws.length = ks.length → bindArgs (fnX "__init__" qual (defArgs st) (defBody st) (defScope st) [("__class__", cc)] .none kV doc pm an (.ref cda) ct) ⟨us, ks.zip ws⟩ = pure (ps.zip (rotU us ws))) : KBn K fd ps n ks rotU rotV := by
  obtain ⟨oc, od, kV, doc, pm, an, ct, osl, cc, cda, rfl, _⟩ := i.fn
  exact kbn_rot (h cc kV doc pm an cda ct)
/-- what is left of a new exception: its dict holds the fields -/
def spXI (C : Addr) (fs : List Str) : Sp := fun vs H Q _ => ∃ (a : Addr) (ws : List V), vs = .ref a :: ws ∧ ws.length = fs.length ∧ H a = some (exo a C none) ∧
  ∀ (H' : Hp) (d : Addr), Kp a H H' → H d = none → d ≠ a → H' a = some (exo a C (some d)) → H' d = some (exd d (fs.zip ws).reverse) → Q .non H'
/-- an exception that is held: of the class at C, with these fields -/
def ErrAt (H : Hp) (a C : Addr) (fs : List (Str × V)) : Prop := ∃ d, H a = some (exo a C (some d)) ∧ H d = some (exd d fs)
theorem ErrAt.same {H H' : Hp} {a C : Addr} {fs : List (Str × V)} (e : Same H H') (h : ErrAt H a C fs) : ErrAt H' a C fs := let ⟨d, h1, h2⟩ := h; ⟨d, e _ _ h1, e _ _ h2⟩
theorem mk_err {C : Addr} {n m : Nat} {fs : List Str} {t tk : TA} {σ : L2.St} {H : Hp} {Q : VK} {vs zs : List V}
    (h1 : ∀ R : List V → Hp → Prop, R vs H → t σ H R) (h2 : ∀ R : List V → Hp → Prop, R zs H → tk σ H R) (l1 : vs.length = n) (l2 : zs.length = m) (l3 : n + m = fs.length)
    (q : ∀ H' a, Same H H' → ErrAt H' a C (fs.zip (rotV vs zs)).reverse → Q (.ref a) H') : tOex C n m (spXI C fs) rotV t tk σ H Q := by
  refine h1 _ (h2 _ ⟨l1, l2, fun a ha => ⟨a, rotV vs zs, rfl, ?_, upd_same, fun H' d kp hd hne ea ed => ⟨rfl, q H' a (fun b o e => ?_) ⟨d, ea, ed⟩⟩⟩⟩)
  · unfold rotV
    rw [List.length_append, List.length_append, List.length_drop, List.length_take, l1, l2]
    omega
  · exact kp b o (by rw [upd_ne (ne_of_none e ha)]; exact e) (ne_of_none e ha)
end Sh
set_option Elab.async false
set_option linter.all false
set_option maxRecDepth 100000
set_option maxHeartbeats 4000000
namespace Sh
open PySem PySem.Spec PyProof.Rows
/-! ### repr of data, where no repr is under way -/
section
variable {prog : Program} {w : World} {A : Around} {E : Value → Shared → Prop} {s : Shared}
theorem repr_reads {v : Value} {d : PyData} {as : List Addr} {Q : Value → Shared → Prop} (r : Reads s.heap v d as) (hs : d.showable = true) (hsm : d.hasDict = true → sysModules ∉ as) (hz : d.shown.length ≤ sizeLine) (hg : A.guards = some []) (hu : A.units + 3 + d.depth < cLine)
    (hQ : ∀ h' u tk, (∀ b o, s.heap.get? b = some o → h'.get? b = some o) → Q (.str d.shown u) { s with heap := h', toks := tk }) : wpAny (model prog w) A (call (.builtin "repr") [v]) Q E s := by
  have here : ∀ {u : Nat} {x : Str}, x = d.shown → Q (.str x u) { s with toks := s.toks + 1 } := fun {u x} e => by
    rw [e]
    exact hQ s.heap u (s.toks + 1) fun _ _ z => z
  have keep : ∀ b o, s.heap.get? b = some o → s.heap.get? b = some o := fun _ _ z => z
  cases r with
  | none => exact P.repr_of_none (here (by simp only [PyData.shown]))
  | bool b => exact P.repr_of_bool (here (by simp only [PyData.shown]))
  | int i t => exact P.repr_of_int (by simpa [PyData.showable] using hs) (here (by simp only [PyData.shown]))
  | str x t => exact P.repr_of_str (here (by simp only [PyData.shown])) (by simpa only [PyData.shown] using hz)
  | @list a o vs n xs as h1 h2 h3 h4 =>
    have hz' : (listText (PyData.shownAll xs)).length ≤ sizeLine := by simpa only [PyData.shown] using hz
    obtain ⟨bs, hb, hk⟩ := ReprAllK.of_readsAll (prog := prog) (w := w) h4 (by simpa [PyData.showable] using hs) (fun hx hm => hsm (by simpa [PyData.hasDict] using hx) (List.mem_cons_of_mem _ hm)) (fun t ht => Nat.le_trans (listText_mem_le ht) hz')
    have hna : a ∉ bs := not_mem_of_deeper (.list h1 h2 h3 h4) (by simp only [PyData.depth]; omega) hb
    simp only [PyData.depth] at hu
    simp only [PyData.shown] at hQ
    refine call_repr_slot (by omega) ⟨o, h1, h2⟩ F.slot_list_repr.toG ?_
    obtain ⟨l⟩ := vs
    cases l with
    | nil =>
      have h4' : ReadsAll s.heap [] xs _ := h4
      cases h4'
      simp only [PyData.shownAll, listText_nil] at hQ
      exact call_list_repr_empty ⟨o, h1, h2⟩ h1 h3 ⟨_, _, rfl, hQ s.heap _ _ keep⟩
    | cons x l => exact call_list_reprK h1 h2 h3 hna (by simpa using hk.length_eq) (fun i y e => hk.item i y (by simpa using e)) hg (fun b _ => Clear.nil b) (by show A.units + 1 + _ < cLine; omega) keep (fun h' u tk hk' => ⟨_, _, rfl, hQ h' u tk hk'⟩) hz'
  | @tuple a o vs n xs as h1 h2 h3 h4 =>
    have hz' : (tupleText (PyData.shownAll xs)).length ≤ sizeLine := by simpa only [PyData.shown] using hz
    obtain ⟨bs, hb, hk⟩ := ReprAllK.of_readsAll (prog := prog) (w := w) h4 (by simpa [PyData.showable] using hs) (fun hx => hsm (by simpa [PyData.hasDict] using hx)) (fun t ht => Nat.le_trans (tupleText_mem_le ht) hz')
    have hna : a ∉ bs := not_mem_of_deeper (.tuple h1 h2 h3 h4) (by simp only [PyData.depth]; omega) hb
    simp only [PyData.depth] at hu
    simp only [PyData.shown] at hQ
    exact call_repr_slot (by omega) ⟨o, h1, h2⟩ F.slot_tuple_repr (call_tuple_reprK h1 h2 h3 hna hk hg (fun b _ => Clear.nil b) (by show A.units + 1 + _ < cLine; omega) keep (fun h' u tk hk' => ⟨_, _, rfl, hQ h' u tk hk'⟩) hz')
  | @dict a o es n kvs as bs h1 h2 h3 h4 h5 =>
    have hz' : (dictText (PyData.shownKv kvs)).length ≤ sizeLine := by simpa only [PyData.shown] using hz
    have hno : sysModules ∉ a :: as ++ bs := hsm (by simp only [PyData.hasDict])
    obtain ⟨hs1, hs2⟩ := PyData.showableKv_split kvs (by simpa [PyData.showable] using hs)
    obtain ⟨b1, hb1, k1⟩ := ReprAllK.of_readsAll (prog := prog) (w := w) h4 hs1 (fun _ hm => hno (List.mem_cons_of_mem _ (List.mem_append_left _ hm))) (fun t ht => let ⟨p, hp, hl⟩ := PyData.shownKv_key_le kvs t ht; Nat.le_trans hl (Nat.le_trans (dictText_mem_le hp) hz'))
    obtain ⟨b2, hb2, k2⟩ := ReprAllK.of_readsAll (prog := prog) (w := w) h5 hs2 (fun _ hm => hno (List.mem_cons_of_mem _ (List.mem_append_right _ hm))) (fun t ht => let ⟨p, hp, hl⟩ := PyData.shownKv_val_le kvs t ht; Nat.le_trans hl (Nat.le_trans (dictText_mem_le hp) hz'))
    have hb : ReadAtMost s.heap (PyData.depthKv kvs) (b1 ++ b2) := (hb1.mono (PyData.depthAll_keys_le kvs)).append (hb2.mono (PyData.depthAll_vals_le kvs))
    have hna : a ∉ b1 ++ b2 := not_mem_of_deeper (.dict h1 h2 h3 h4 h5) (by simp only [PyData.depth]; omega) hb
    have hsys : (a == sysModules) = false := beq_eq_false_iff_ne.mpr fun e => hno (e ▸ List.mem_cons_self ..)
    simp only [PyData.depth] at hu
    simp only [PyData.shown, PyData.shownKv_eq] at hQ
    exact call_repr_slot (by omega) ⟨o, h1, h2⟩ F.slot_dict_repr (call_dict_reprK h1 h2 h3 hsys hna (ReprEntriesK.of_two es.toList _ _
      (k1.more_le (fun b hb => List.mem_append_left _ hb) (PyData.depthAll_keys_le kvs)) (k2.more_le (fun b hb => List.mem_append_right _ hb) (PyData.depthAll_vals_le kvs)))
      hg (fun b _ => Clear.nil b) (by show A.units + 1 + _ < cLine; omega) keep (fun h' u tk hk' => ⟨_, _, rfl, hQ h' u tk hk'⟩) (by rw [← PyData.shownKv_eq]; exact hz'))
end
/-! ### the values that are told -/
open L2 in
/-- a value of any kind -/
inductive Thing (H : Hp) : V → PyData → Prop
  | non : Thing H .non .none
  | bl (b : Bool) : Thing H (.bl b) (.bool b)
  | int (i : Int) (h : i.natAbs < 10 ^ 31) : Thing H (.int i) (.int i)
  | str (x : Str) (h : (reprText x).length ≤ 40) : Thing H (.str x) (.str x)
  | tupS {a : Addr} (x : Str) (h : (reprText x).length ≤ 40) : H a = some (.tup [.str x]) → Thing H (.ref a) (.tuple [.str x])
  | tupN {a b : Addr} (i : Int) (h : i.natAbs < 10 ^ 31) : H a = some (.tup [.int 1, .ref b]) → H b = some (.tup [.int i]) → Thing H (.ref a) (.tuple [.int 1, .tuple [.int i]])
  | lst0 {a : Addr} : H a = some (.lst []) → (a == sysModules) = false → Thing H (.ref a) (.list [])
  | lst1 {a : Addr} (i : Int) (h : i.natAbs < 10 ^ 31) : H a = some (.lst [.int i]) → (a == sysModules) = false → Thing H (.ref a) (.list [.int i])
  | dic0 {a : Addr} : H a = some (.dK []) → Thing H (.ref a) (.dict [])
  | dic1 {a : Addr} (i : Int) (h : i.natAbs < 10 ^ 31) : H a = some (.dK [(Sum.inr "a", .int i)]) → Thing H (.ref a) (.dict [(.str "a", .int i)])
open L2 in
theorem Thing.same {H H' : Hp} {v : V} {d : PyData} (s : Same H H') (h : Thing H v d) : Thing H' v d := by
  cases h with
  | non => exact .non
  | bl b => exact .bl b
  | int i h => exact .int i h
  | str x h => exact .str x h
  | tupS x h e => exact .tupS x h (s _ _ e)
  | tupN i h e1 e2 => exact .tupN i h (s _ _ e1) (s _ _ e2)
  | lst0 e z => exact .lst0 (s _ _ e) z
  | lst1 i h e z => exact .lst1 i h (s _ _ e) z
  | dic0 e => exact .dic0 (s _ _ e)
  | dic1 i h e => exact .dic1 i h (s _ _ e)
theorem int_show {i : Int} (h : i.natAbs < 10 ^ 31) : (Str.ofString (toString i)).length ≤ 32 ∧ i.natAbs.log2 < 1920 := by
  have e := int_text_length_le10 (k := 31) (by decide) h
  refine ⟨by rw [PySem.ofString_length]; omega, ?_⟩
  by_cases h0 : i.natAbs = 0
  · rw [h0]
    decide
  · refine (Nat.log2_lt h0).mpr (Nat.lt_of_lt_of_le h (Nat.le_trans (by decide : 10 ^ 31 ≤ 2 ^ 104) (Nat.pow_le_pow_right (by decide) (by decide))))
theorem tupText_le (ts : List Str) : (tupleText ts).length ≤ 4 + piled ts := by
  unfold tupleText
  rw [strLen_append, strLen_append]
  have e1 : (("(" : Str)).length = 1 := by decide +kernel
  have e2 : ∀ b : Bool, (((if b = true then ",)" else ")" : String) : Str)).length ≤ 2 := by decide +kernel
  have e3 := e2 (ts.length == 1)
  by_cases h : ts = []
  · subst h
    have e4 : (Str.join ", " []).length = 0 := by decide +kernel
    omega
  · have e4 := join_length_add ts h
    omega
theorem dicText_le (ts : List Str) : (dictText ts).length ≤ 4 + piled ts := by
  unfold dictText
  rw [strLen_append, strLen_append]
  have e1 : (("{" : Str)).length = 1 := by decide +kernel
  have e2 : (("}" : Str)).length = 1 := by decide +kernel
  by_cases h : ts = []
  · subst h
    have e4 : (Str.join ", " []).length = 0 := by decide +kernel
    omega
  · have e4 := join_length_add ts h
    omega
open L2 in
theorem Thing.show {H : Hp} {v : V} {d : PyData} (h : Thing H v d) : d.showable = true ∧ d.shown.length ≤ 200 ∧ d.depth ≤ 2 := by
  cases h with
  | non => exact ⟨by simp [PyData.showable], by simp only [PyData.shown]; decide +kernel, by simp [PyData.depth]⟩
  | bl b => exact ⟨by simp [PyData.showable], by simp only [PyData.shown]; cases b <;> decide +kernel, by simp [PyData.depth]⟩
  | int i h => 
    have := int_show h
    exact ⟨by simp [PyData.showable, this.2], by simp only [PyData.shown]; exact Nat.le_trans this.1 (by decide), by simp [PyData.depth]⟩
  | str x h => exact ⟨by simp [PyData.showable], by simp only [PyData.shown]; omega, by simp [PyData.depth]⟩
  | tupS x h e =>
    refine ⟨by simp [PyData.showable, PyData.showableAll], ?_, by simp [PyData.depth, PyData.depthAll]⟩
    simp only [PyData.shown, PyData.shownAll]
    have := tupText_le [reprText x]
    simp only [piled_cons, piled_nil] at this
    omega
  | tupN i h e1 e2 =>
    have q := int_show h
    refine ⟨by simp [PyData.showable, PyData.showableAll, q.2]; decide, ?_, by simp [PyData.depth, PyData.depthAll]⟩
    simp only [PyData.shown, PyData.shownAll]
    have t1 := tupText_le [Str.ofString (toString i)]
    have t2 := tupText_le [Str.ofString (toString (1 : Int)), tupleText [Str.ofString (toString i)]]
    have t3 : (Str.ofString (toString (1 : Int))).length ≤ 2 := by decide +kernel
    simp only [piled_cons, piled_nil] at t1 t2
    omega
  | lst0 e z => exact ⟨by simp [PyData.showable, PyData.showableAll], by simp only [PyData.shown, PyData.shownAll]; decide +kernel, by simp [PyData.depth, PyData.depthAll]⟩
  | lst1 i h e z =>
    have q := int_show h
    refine ⟨by simp [PyData.showable, PyData.showableAll, q.2], ?_, by simp [PyData.depth, PyData.depthAll]⟩
    simp only [PyData.shown, PyData.shownAll]
    have e1 : listText [Str.ofString (toString i)] = ("[" : Str) ++ ("" : String) ++ Str.ofString (toString i) ++ "]" := rfl
    rw [e1, strLen_append, strLen_append, strLen_append]
    have e2 : (("[" : Str)).length = 1 := by decide +kernel
    have e3 : (("]" : Str)).length = 1 := by decide +kernel
    have e4 : ((("" : String) : Str)).length = 0 := by decide +kernel
    omega
  | dic0 e => exact ⟨by simp [PyData.showable, PyData.showableKv], by simp only [PyData.shown, PyData.shownKv]; decide +kernel, by simp [PyData.depth, PyData.depthKv]⟩
  | dic1 i h e =>
    have q := int_show h
    refine ⟨by simp [PyData.showable, PyData.showableKv, q.2], ?_, by simp [PyData.depth, PyData.depthKv]⟩
    simp only [PyData.shown, PyData.shownKv]
    have t1 := dicText_le [reprText "a" ++ ": " ++ Str.ofString (toString i)]
    simp only [piled_cons, piled_nil] at t1
    rw [strLen_append, strLen_append] at t1
    have t2 : (reprText "a").length ≤ 10 := by decide +kernel
    have t3 : ((": " : Str)).length = 2 := by decide +kernel
    omega
open L2
section
variable {X : Cx} {pins : List (Addr × Obj)} {σ : L2.St} {H : Hp} {s : Shared}
theorem Thing.reads {v : V} {d : PyData} {u : Value} (I : Inv X pins σ H s) (h : Thing H v d) (r : RelV v u) : ∃ as, Reads s.heap u d as ∧ sysModules ∉ as := by
  have nosys : ∀ {a : Addr}, (a == sysModules) = false → sysModules ∉ [a] := fun z m => by
    rw [List.mem_singleton.mp m] at z
    simp at z
  cases h with
  | non => cases r; exact ⟨_, .none, List.not_mem_nil⟩
  | bl b => cases r; exact ⟨_, .bool b, List.not_mem_nil⟩
  | int i h => obtain ⟨t, rfl⟩ := r; exact ⟨_, .int i t, List.not_mem_nil⟩
  | str x h => obtain ⟨t, rfl⟩ := r; exact ⟨_, .str x t, List.not_mem_nil⟩
  | @tupS a x h e =>
    obtain rfl : u = Value.ref a := r
    obtain ⟨its, rv, ⟨o, h1, h2, n, h3⟩, _⟩ := I.tuple (SqT.of (K := X.K) e)
    cases rv with
    | cons r1 rn =>
      cases rn
      obtain ⟨t, rfl⟩ := r1
      exact ⟨_, .tuple h1 h2 h3 (.cons (.str x t) .nil), List.not_mem_nil⟩
  | @tupN a b i h e1 e2 =>
    obtain rfl : u = Value.ref a := r
    obtain ⟨its, rv, ⟨o, h1, h2, n, h3⟩, _⟩ := I.tuple (SqT.of (K := X.K) e1)
    obtain ⟨its2, rv2, ⟨o2, g1, g2, n2, g3⟩, _⟩ := I.tuple (SqT.of (K := X.K) e2)
    cases rv2 with
    | cons r2 rn2 =>
      cases rn2
      obtain ⟨t2, rfl⟩ := r2
      cases rv with
      | cons r1 rn =>
        obtain ⟨t1, rfl⟩ := r1
        cases rn with
        | @cons _ u3 _ _ r3 rn3 =>
          obtain rfl : u3 = Value.ref b := r3
          cases rn3
          exact ⟨_, .tuple h1 h2 h3 (.cons (.int 1 t1) (.cons (.tuple g1 g2 g3 (.cons (.int i t2) .nil)) .nil)), List.not_mem_nil⟩
  | @lst0 a e z =>
    obtain rfl : u = Value.ref a := r
    obtain ⟨its, rv, ⟨o, n, h1, h2, _, h3⟩, _⟩ := I.list (SqL.of (K := X.K) e)
    cases rv
    exact ⟨_, .list h1 h2 h3 .nil, nosys z⟩
  | @lst1 a i h e z =>
    obtain rfl : u = Value.ref a := r
    obtain ⟨its, rv, ⟨o, n, h1, h2, _, h3⟩, _⟩ := I.list (SqL.of (K := X.K) e)
    cases rv with
    | cons r1 rn =>
      cases rn
      obtain ⟨t, rfl⟩ := r1
      exact ⟨_, .list h1 h2 h3 (.cons (.int i t) .nil), nosys z⟩
  | @dic0 a e =>
    obtain rfl : u = Value.ref a := r
    obtain ⟨_, z, vs, kv, o, es, ep, h1, h2, h3, _, hp, _⟩ := (show ObjOk X.prog X.w H s.heap a (.dK []) from I.hok a _ e)
    cases kv
    cases hes : es.toList with
    | cons e1 r1 => rw [hes] at hp; cases hp
    | nil => exact ⟨_, .dict (kvs := []) h1 h2.1 h3 (by rw [hes]; exact .nil) (by rw [hes]; exact .nil), nosys z⟩
  | @dic1 a i h e =>
    obtain rfl : u = Value.ref a := r
    obtain ⟨_, z, vs, kv, o, es, ep, h1, h2, h3, _, hp, _⟩ := (show ObjOk X.prog X.w H s.heap a (.dK [(Sum.inr "a", .int i)]) from I.hok a _ e)
    cases kv with
    | @cons _ q _ _ r1 rn =>
      cases rn
      obtain ⟨qk, qv⟩ := q
      obtain ⟨rfl, t, rfl⟩ := r1
      cases hes : es.toList with
      | nil => rw [hes] at hp; cases hp
      | cons e1 rest =>
        rw [hes] at hp
        cases hp with
        | cons k1 v1 hr =>
          cases hr
          rcases keyIs_shape (show keyIs (Sum.inr ("a" : Str)) e1.key = true from k1) with ⟨j, t', e2, _⟩ | ⟨y, t', e2, e3⟩
          · cases e2
          · cases e2
            exact ⟨_, .dict (kvs := [(.str "a", .int i)]) h1 h2.1 h3 (by rw [hes]; show ReadsAll _ [e1.key] _ _; rw [e3]; exact .cons (.str _ t') .nil) (by rw [hes]; show ReadsAll _ [e1.val] _ _; rw [v1]; exact .cons (.int i t) .nil), nosys z⟩
/-- things, one by one -/
inductive Things (H : Hp) : List V → List PyData → Prop
  | nil : Things H [] []
  | cons {v : V} {vs : List V} {d : PyData} {ds : List PyData} : Thing H v d → Things H vs ds → Things H (v :: vs) (d :: ds)
theorem Things.same {H H' : Hp} (e : Same H H') : ∀ {vs : List V} {ds : List PyData}, Things H vs ds → Things H' vs ds
  | _, _, .nil => .nil
  | _, _, .cons h t => .cons (h.same e) (Things.same e t)
theorem Things.reads (I : Inv X pins σ H s) : ∀ {vs : List V} {ds : List PyData} {us : List Value}, Things H vs ds → Vals vs us → ∃ as, ReadsAll s.heap us ds as ∧ sysModules ∉ as
  | _, _, _, .nil, .nil => ⟨_, .nil, List.not_mem_nil⟩
  | _, _, _, .cons h t, .cons r rs => by
    obtain ⟨as, q1, n1⟩ := h.reads I r
    obtain ⟨bs, q2, n2⟩ := Things.reads I t rs
    exact ⟨_, .cons q1 q2, fun z => (List.mem_append.mp z).elim n1 n2⟩
theorem Things.show {H : Hp} : ∀ {vs : List V} {ds : List PyData}, Things H vs ds → PyData.showableAll ds = true ∧ piled (PyData.shownAll ds) ≤ 202 * ds.length ∧ PyData.depthAll ds ≤ 2
  | _, _, .nil => ⟨rfl, by simp only [PyData.shownAll]; exact Nat.zero_le _, by simp [PyData.depthAll]⟩
  | _, d :: ds, .cons h t => by
    obtain ⟨a1, a2, a3⟩ := h.show
    obtain ⟨b1, b2, b3⟩ := Things.show t
    refine ⟨by simp [PyData.showableAll, a1, b1], ?_, by simp only [PyData.depthAll]; omega⟩
    simp only [PyData.shownAll, piled_cons, List.length_cons]
    omega
end
section
variable {X : Cx}
/-- repr(x), x a thing or a tuple of a few of them -/
def rRepr (xs : List V) (H : Hp) (Q : VK) : Prop := ∃ v, xs = [v] ∧ ((∃ d, Thing H v d ∧ Q (.str d.shown) H) ∨ ∃ (a : Addr) (vs : List V) (ds : List PyData), v = .ref a ∧ H a = some (.tup vs) ∧ Things H vs ds ∧ ds.length ≤ 10 ∧ Q (.str (PyData.tuple ds).shown) H)
theorem call_repr (hg : X.A.guards = some []) (hu : X.A.units + 65 < cLine) : CallR X (.builtin "repr") rRepr := by
  intro pins s σ H xs us Q I r h
  obtain ⟨v, rfl, h⟩ := h
  cases r with
  | @cons _ u _ _ r1 rn =>
    cases rn
    rcases h with ⟨d, hd, q⟩ | ⟨a, vs, ds, rfl, ha, hd, hl, q⟩
    · obtain ⟨as, rd, ns⟩ := hd.reads I r1
      obtain ⟨s1, s2, s3⟩ := hd.show
      exact repr_reads rd s1 (fun _ => ns) (by rw [sizeLine_eq]; omega) hg (by omega) fun h' u tk k => ⟨.str _, H, I.kept (t' := tk) k, ⟨u, rfl⟩, q⟩
    · obtain rfl : u = Value.ref a := r1
      obtain ⟨its, rv, ⟨o, h1, h2, n, h3⟩, _⟩ := I.tuple (SqT.of (K := X.K) ha)
      obtain ⟨as, rd, ns⟩ := Things.reads I hd rv
      obtain ⟨s1, s2, s3⟩ := Things.show hd
      have hz : (PyData.tuple ds).shown.length ≤ sizeLine := by
        simp only [PyData.shown]
        have := tupText_le (PyData.shownAll ds)
        rw [sizeLine_eq]
        omega
      exact repr_reads (.tuple h1 h2 h3 rd) (by simp [PyData.showable, s1]) (fun _ => ns) hz hg (by simp only [PyData.depth]; omega) fun h' u tk k => ⟨.str _, H, I.kept (t' := tk) k, ⟨u, rfl⟩, q⟩
/-- [e, ..]: the new list is not the modules' own dict -/
def tLstB (t : TA) : TE := fun σ H Q => t σ H fun xs H1 => xs.length ≤ sizeLine ∧ ∀ p, H1 p = none → (p == sysModules) = false → Q (.ref p) (upd H1 p (.lst xs))
theorem pe_lstB {es : List Expr} {t : TA} {pos : Pos} (h : PA X es t) : PE X (.List es pos) (tLstB t) := by
  refine ⟨fun pins s σ H Q I hq => wpAny_List_spliced (thn (h.run pos pins s σ H _ I hq) fun us s1 ⟨xs, H1, I1, r, z, q⟩ => ⟨by rw [← r.length]; exact z, ?_⟩)⟩
  have hf : H1 s1.heap.objs.size = none := I1.hok.fresh (Nat.le_refl _)
  have hne : (s1.heap.objs.size == sysModules) = false := beq_eq_false_iff_ne.mpr (Nat.ne_of_gt I1.big)
  exact ⟨.ref s1.heap.objs.size, upd H1 s1.heap.objs.size (.lst xs), I1.laid (t' := s1.toks) (fun b u e => Heap.get?_push_of_some _ e) (Nat.le_refl _) ⟨z, us, 0, r, Heap.get?_push_size _ rfl⟩, rfl, q _ hf hne⟩
end
end Sh
set_option Elab.async false
set_option linter.all false
set_option maxRecDepth 100000
set_option maxHeartbeats 4000000
namespace Sh
open PySem PySem.Spec PyProof.Rows L2
/-! ### a law that asks for a repr: its promise where no repr is under way -/
structure FnG (P : Program) (w : World) (K : PySem.W.Frag) (mg : Str → Option Value) (base : Heap) (CX : CXT) (k : Nat) (f : Addr) (fd : FuncData) (ps : List Str) (sp : Sp) : Prop where
  run : ∀ (A : Around) (outer : List Env) (s : Shared) (H : Hp) (args : Args) (us : List Value) (vs : List V) (Q : VK) (E : XK), A.guards = some [] → Room k A → Env0 P w K mg base A outer s H → BindsTo s fd args (ps.zip us) → Vals vs us → sp vs H Q E →
    codeAny (model P w) A (.call (.ref f) args) (CR CX outer P w H s Q E) s
section
variable {P : Program} {w : World} {K : PySem.W.Frag} {mg : Str → Option Value} {base : Heap}
/-- a promise at one place in the stack, from the promise over all of them that the body keeps -/
theorem okG {x qual : Str} {st : Stmt} {f : Addr} {fd : FuncData} {N ps : List Str} {k : Nat} {sp : Sp} (F : Fun K x qual st f fd) (S : FnScope N ps (defScope st)) (len : ∀ vs H Q E, sp vs H Q E → vs.length = ps.length)
    (hbody : ∀ (cdv : Value) (A : Around) (outer : List Env) (s : Shared) (H : Hp) (vs : List V) (Q : VK) (E : XK), (A.deeper (envOfC qual (defScope st) s.heap.objs.size f cdv)).guards = some [] → Room k (A.deeper (envOfC qual (defScope st) s.heap.objs.size f cdv)) → sp vs H Q E →
      ∃ t, PSs (cxOf CX0 P w K mg base N qual (defScope st) f cdv A outer s H E).nox (defBody st) t ∧ t { nx := fun _ H' => Q .non H', rt := Q } (start N vs) H) : FnG P w K mg base CX0 (k + 1) f fd ps sp := by
  refine ⟨fun A outer s H args us vs Q E hgd hr e0 hb r hsp => ?_⟩
  obtain ⟨oc, od, kV, doc, pm, an, cdv, ct, osl, rfl, lk, hcd⟩ := F.ex
  have hl := len _ _ _ _ hsp
  have KX : K.In s.heap := e0.mod.kin.keeps fun b o z => (e0.bs b o z).1
  have hkind : ∀ y ∈ ps.zip us, (defScope st).names.lookup y.1 = some .local ∨ ((defScope st).names.lookup y.1 = some .cell ∧ ((cellsFrom (s.heap.objs.size + 1) (defScope st).names []).lookup y.1).isSome = true) := fun y hy =>
    (S.par y.1 (List.of_mem_zip (a := y.1) (b := y.2) hy).1).imp id fun z => ⟨z, PySem.W.cellsFrom_some _ _ _ (.inl z)⟩
  refine codeAny_call_function hr.depth (KX _ _ lk) rfl S.co S.gen rfl (PySem.W.codeRec_of KX hcd) (hb _ _ _ _ (wpAny_newFunctionEnv_cells S.kind hkind fun env he s1 y => ?_))
  subst he
  refine ⟨(e0.mod.nolimit.keeps fun b o z => (e0.bs b o z).1).keeps y.toInCall.keep, codeAny_func ?_⟩
  obtain ⟨t, ht, hq⟩ := hbody cdv A outer s H vs Q E hgd (hr.deeper _) hsp
  have I : Inv (cxOf CX0 P w K mg base N qual (defScope st) f cdv A outer s H E) [] (start N vs) H s1 := inv_start S hr.hd e0 hl r y
  refine wpAny_mono (ht.nox.run [] s1 (start N vs) H _ I hq) (fun fl s' hs => ?_) fun e s' hs => hs
  cases fl with
  | ret u =>
    obtain ⟨v, _, H', J, rv, q⟩ := hs
    exact ⟨v, H', J.os, J.bare, J.base, J.hok, rv, q⟩
  | next =>
    obtain ⟨_, H', J, q⟩ := hs
    exact ⟨V.non, H', J.os, J.bare, J.base, J.hok, rfl, q⟩
  | brk => exact False.elim hs.choose_spec.choose_spec.2
  | cont => exact False.elim hs.choose_spec.choose_spec.2
end
section
variable {P : Program} {w : World} {K : PySem.W.Frag} {mg mb : Str → Option Value} {k : Nat} {fa a : Addr} {fd : FuncData} {x : Str} {sp : Sp} {t : Shared} {vs : List Value} {ns : List Int}
abbrev Told (t : Shared) (r : Result) (t' : Shared) : Prop := r = .ok (.ret (.bool true)) ∧ OldK t.heap t'.heap ∧ t'.os = t.os ∧ AllBare t'.gens
/-- the call, over an abstract heap in which at most the script is tracked -/
theorem call_over {H : Hp} (KX : K.In t.heap) (hns : t.heap.Ns mainGlobals mg) (hb : t.heap.Ns builtinsNs mb) (hbb : ∀ x : Str, x ≠ "__name__" → mb x = bootBuiltins x) (hlim : t.heap.NoLimit) (hg : t.gens = #[])
    (ha : t.heap.get? a = some { cls := .type "list", data := .seq vs.toArray }) (hr : Room k callerA)
    (G : ∀ base : Heap, K.In base → base.Ns mainGlobals mg → FnG P w K mg base CX0 k fa fd [x] sp) (hbind : ∀ (s : Shared) (u : Value), BindsTo s fd ⟨[u], []⟩ [(x, u)])
    (hO : Only H) (hsp : sp [.ref a] H (fun v _ => v = .bl true) fun _ _ _ => False) (hok : HOk P w H t.heap) (hA : ∀ b, H b ≠ none → b = a) (hK : H a ≠ none → K.lookup a = none) :
    codeAny (model P w) callerA (.call (.ref fa) ⟨[.ref a], []⟩) (Told t) t := by
  have free : ∀ {b : Addr}, b ≠ a → H b = none := fun {b} hb' => Classical.byContradiction fun z => hb' (hA b z)
  have nsK : ∀ {b : Addr} {m : Str → Option Value}, t.heap.Ns b m → (hidT t.heap H).Ns b m := fun {b m} ⟨o, es, ep, e, d, r⟩ => by
    refine ⟨o, es, ep, hidT_get e (free fun z => ?_), d, r⟩
    subst z
    rw [ha] at e
    cases e
    cases d
  have hKb : K.In (hidT t.heap H) := fun b o e => hidT_get (KX b o e) (Classical.byContradiction fun z => by
    have hba := hA b z
    subst hba
    rw [hK z] at e
    cases e)
  obtain ⟨mc, l1, l2⟩ := hlim
  have e0 : Env0 P w K mg (hidT t.heap H) callerA [] t H := ⟨rfl, ⟨hKb, nsK hns, ⟨mb, nsK hb, hbb⟩, mc, nsK l1, l2⟩, fun b o e => of_hidT e, Nat.le_of_eq (hidT_size _ _), trivial, fun b z => (nomatch z), hok, .of_eq hg⟩
  refine codeAny_mono ((G _ hKb (nsK hns)).run callerA [] t H ⟨[.ref a], []⟩ [.ref a] [.ref a] _ _ rfl hr e0 (hbind t (.ref a)) (.cons rfl .nil) hsp) fun r t' hres => ?_
  match r, hres with
  | .ok (.ret u), hres =>
    obtain ⟨v, H', ho, hbare, un, hok', r', q⟩ := hres
    obtain rfl : v = .bl true := q
    obtain rfl : u = Value.bool true := r'
    refine ⟨rfl, OldK.of_keep fun b o e => ?_, ho, hbare⟩
    cases hb' : H b with
    | none => exact un.keep b o e hb' (fun z => nomatch (show b ∈ ([] : List Addr) from z)) (fun z => nomatch z)
    | some y =>
      rcases hO b with z | ⟨ob, xs, z⟩
      · rw [hb'] at z
        cases z
      · obtain ⟨e1, _⟩ := hok b _ z
        obtain ⟨e2, _⟩ := hok' b _ (un.frzs b ob _ z)
        rw [e] at e1
        cases e1
        exact e2
  | .ok .next, hres => exact False.elim hres
  | .ok .brk, hres => exact False.elim hres
  | .ok .cont, hres => exact False.elim hres
  | .error e, hres => exact False.elim hres
theorem law_callG (KX : K.In t.heap) (hns : t.heap.Ns mainGlobals mg) (hb : t.heap.Ns builtinsNs mb) (hbb : ∀ x : Str, x ≠ "__name__" → mb x = bootBuiltins x) (hlim : t.heap.NoLimit) (hg : t.gens = #[])
    (ha : t.heap.get? a = some { cls := .type "list", data := .seq vs.toArray }) (hi : IntsAre vs ns) (hl : ns.length ≤ sizeLine) (hr : Room k callerA)
    (G : ∀ base : Heap, K.In base → base.Ns mainGlobals mg → FnG P w K mg base CX0 k fa fd [x] sp) (hbind : ∀ (s : Shared) (u : Value), BindsTo s fd ⟨[u], []⟩ [(x, u)])
    (hsp : ∀ H : Hp, Only H → SqL K H a (ns.map V.int) → sp [.ref a] H (fun v _ => v = .bl true) fun _ _ _ => False) : codeAny (model P w) callerA (.call (.ref fa) ⟨[.ref a], []⟩) (Told t) t := by
  have rv := vals_ints hi
  have lenV := hi.length
  cases hk : K.lookup a with
  | some o =>
    have e := KX a o hk
    rw [ha] at e
    cases e
    have hO : Only (fun _ => none) := fun _ => .inl rfl
    refine call_over KX hns hb hbb hlim hg ha hr G hbind hO (hsp _ hO (.inr ⟨_, vs.toArray, _, hk, rfl, rfl, rfl, by rw [List.size_toArray, lenV]; exact hl, by simpa using rv⟩)) (fun b u z => nomatch z) (fun b z => absurd rfl z) fun z => absurd rfl z
  | none =>
    have hO : Only (upd (fun _ => none) a (.frz { cls := .type "list", data := .seq vs.toArray } (.lst (ns.map V.int)))) := fun b => by
      by_cases hb' : b = a
      · subst hb'
        exact .inr ⟨_, _, upd_same⟩
      · exact .inl (upd_ne hb')
    refine call_over KX hns hb hbb hlim hg ha hr G hbind hO (hsp _ hO (.inl (.inr ⟨_, upd_same⟩))) (fun b u z => ?_) (fun b z => ?_) fun _ => hk
    · by_cases hb' : b = a
      · subst hb'
        rw [upd_same] at z
        cases z
        exact ⟨ha, by rw [List.length_map]; exact hl, vs, _, rv, ha⟩
      · rw [upd_ne hb'] at z
        cases z
    · by_cases hb' : b = a
      · exact hb'
      · exact absurd (upd_ne hb') z
end
theorem walk_ofG {l : PySem.W.OpenLaw} {n k : Nat} {q : Program} {loose : List Str} {XP : (Str → Option Value) → Heap → Prop} {YP : World → Heap → Prop} {d : DefRec} {K : Params → PySem.W.Frag} {sp : PySem.W.Frag → Sp} {x : Str}
    (hn : l.most = some n) (hn2 : n ≤ sizeLine) (hdf : d.params.defaults = []) (hr : Room k callerA) (hY : ∀ (w : World) (h : Heap), YP w h → (K w.params).In h)
    (G : ∀ (w : World) (mg : Str → Option Value) (fa : Addr) (h : Heap), (K w.params).In h → h.Ns mainGlobals mg → mg d.name = some (.ref fa) →
      ∃ fd : FuncData, (∀ (s : Shared) (u : Value), BindsTo s fd ⟨[u], []⟩ [(x, u)]) ∧ ∀ base : Heap, (K w.params).In base → base.Ns mainGlobals mg → FnG l.prog w (K w.params) mg base CX0 k fa fd [x] (sp (K w.params)))
    (hsp : ∀ (K : PySem.W.Frag) (H : Hp) (a : Addr) (ns : List Int), ns.length ≤ n → SqL K H a (ns.map V.int) → sp K [.ref a] H (fun v _ => v = .bl true) fun _ _ _ => False) :
    PySem.W.WalkO q loose XP YP l.row.toRowW d [] (fun f vs => PySem.call f vs) := by
  refine Att.attach_call hn hdf fun w s₀ t mg mb fa o pm cd doc a vs ns Gr Y ho hd hcd hmg hobj hints hlen hg => ?_
  have KX := hY w _ Y
  obtain ⟨fd, hb, hF⟩ := G w mg fa _ KX Gr.T.g hmg
  exact law_callG KX Gr.T.g Gr.T.b Gr.T.builtins Gr.T.nolimit hg hobj hints (Nat.le_trans hlen hn2) hr hF hb fun H _ hS => hsp (K w.params) H a ns hlen hS
end Sh
set_option Elab.async false
set_option linter.all false
set_option maxRecDepth 100000
set_option maxHeartbeats 4000000
namespace Sh
open PySem PySem.Spec PySem.W PyProof.Rows L2 NdefX
/-! ### a head by facts, own exceptions among them -/
theorem andB {a b : Bool} (h : (a && b) = true) : a = true ∧ b = true := Bool.and_eq_true_iff.mp h
/-- the cells that functions hold -/
def cellsG (g : Addr → Option Obj) (as : List Addr) : List Addr := as.flatMap fun a => match g a with
  | some ⟨_, _, .func fd, _⟩ => fd.closure.map (·.2)
  | _ => []
def asX (g : Addr → Option Obj) (n : Nat) : List Addr := cStatics :: (He.asD g n ++ cellsG g (He.asD g n))
/-- an own exception class right below S -/
def xclsB (K : Frag) (S C : Addr) : Bool := (match K.lookup C with
  | some ⟨.type t, _, .cls cd, sl⟩ => decide (t = "type") && (decide (cd.mro = [.ref C, .ref S, .type "ValueError", .type "Exception", .type "BaseException", .type "object"]) && (cd.hasDict && (!cd.hasDel && (match sl.toList with
    | [_, _, _, _, some (.builtin n), _] => decide (n = "ValueError.__new__")
    | _ => false))))
  | _ => false) && (decide (findIn K (.ref C) "__setattr__" = some (some (.builtin "object.__setattr__"))) && (decide (findIn K (.ref C) "__getattribute__" = some (some (.builtin "BaseException.__getattribute__"))) && (decide (findIn K (.ref C) "__getattr__" = some none) &&
    (decide (findIn K (.ref C) "__class__" = some (some (.builtin "object.__class__"))) && keepIn K (.ref C)))))
theorem xclsB_ok {K : Frag} {S C : Addr} (h : xclsB K S C = true) : XCls K S C := by
  obtain ⟨h1, h⟩ := andB h
  obtain ⟨h2, h⟩ := andB h
  obtain ⟨h3, h⟩ := andB h
  obtain ⟨h4, h⟩ := andB h
  obtain ⟨h5, h6⟩ := andB h
  cases q : K.lookup C with
  | none => rw [q] at h1; cases h1
  | some o =>
    obtain ⟨oc, dd, dt, sl⟩ := o
    rw [q] at h1
    cases oc with
    | type t =>
      cases dt with
      | cls cd =>
        obtain ⟨nm, bs, mro, ns, qn, hd, sn, sb, ab, col, del⟩ := cd
        obtain ⟨a1, h1⟩ := andB h1
        obtain ⟨a2, h1⟩ := andB h1
        obtain ⟨a3, h1⟩ := andB h1
        obtain ⟨a4, a5⟩ := andB h1
        have e1 : t = "type" := of_decide_eq_true a1
        have e2 : mro = _ := of_decide_eq_true a2
        have e3 : hd = true := a3
        have e4 : del = false := by
          cases del
          · rfl
          · cases a4
        subst e1 e2 e3 e4
        have es : ∃ k0 k1 k2 k3 k5, sl = #[k0, k1, k2, k3, some (.builtin "ValueError.__new__"), k5] := by
          obtain ⟨l⟩ := sl
          match l, a5 with
          | [k0, k1, k2, k3, some (.builtin n), k5], a5 =>
            have e5 : n = "ValueError.__new__" := of_decide_eq_true a5
            subst e5
            exact ⟨k0, k1, k2, k3, k5, rfl⟩
        obtain ⟨k0, k1, k2, k3, k5, rfl⟩ := es
        exact xcls_mk q (of_decide_eq_true h2) (of_decide_eq_true h3) (of_decide_eq_true h4) (of_decide_eq_true h5) h6
      | _ => cases h1
    | _ => cases h1
def fileB (file : Str) (vs : Array Value) : Bool := match vs[2]? with
  | some (Value.str fl _) => file == fl
  | _ => false
theorem fileB_ok {file : Str} {vs : Array Value} (h : fileB file vs = true) : ∃ fl tf, vs[2]? = some (.str fl tf) ∧ (file == fl) = true := by
  unfold fileB at h
  cases q : vs[2]? with
  | none => rw [q] at h; cases h
  | some v =>
    rw [q] at h
    cases v with
    | str fl tf => exact ⟨fl, tf, rfl, h⟩
    | _ => cases h
/-- its __init__: what it holds beside its text -/
def xinitB (file : Str) (K : Frag) (C f : Addr) (qual : Str) : Bool := decide (findIn K (.ref C) "__init__" = some (some (.ref f))) && (decide (typeIn K (.ref f) = some (.type "function")) &&
  ((match K.lookup f with
    | some ⟨_, _, .func fd, _⟩ => (match fd.code, fd.closure with
      | .ref cd, [(_, cc)] => codeIn K (.ref cd) qual && ((match K.lookup cd with
          | some ⟨_, _, .fields vs, _⟩ => fileB file vs
          | _ => false) && (match K.lookup cc with
          | some ⟨_, _, .cell (some (.ref D)), _⟩ => decide (D = C)
          | _ => false))
      | _, _ => false)
    | _ => false) && decide (ks_superIn K C C "__init__" = some (some (.builtin "ValueError.__init__")))))
abbrev XV : Type := Option (Str × Str × Arguments × FuncBody × Scope × Addr × List Str × Value × Addr)
def xvOf (K : Frag) (f : Addr) : XV := match K.lookup f with
  | some ⟨_, _, .func fd, _⟩ => some (fd.name, fd.qualname, fd.params, fd.body, fd.scope, fd.globals, fd.closure.map (·.1), fd.defaults, fd.builtins)
  | _ => none
structure XD where
  cls : Str
  qual : Str
  st : Stmt
def XD.val (d : XD) : XV := some ("__init__", d.qual, defArgs d.st, .stmts (defBody d.st), defScope d.st, mainGlobals, ["__class__"], .none, builtinsNs)
def XD.fn (K : Frag) (d : XD) : Addr := He.ma K (He.ga K d.cls) "__init__"
theorem xinit_of {P : Program} {K : Frag} {mg : Str → Option Value} {S C f : Addr} {d : XD} (x : XCls K S C) (e : xvOf K f = d.val) (b : xinitB P.main.file K C f d.qual = true) (mgs : mg "super" = none) (opq : nsIn K cStatics "thirdparty.any" = some none)
    (top : (P.main.scope.names.lookup ("super" : Str)).isSome = false) (hh : ∃ ar : Arg, ((defArgs d.st).posonlyargs ++ (defArgs d.st).args).head? = some ar ∧ ar.arg = "self") (ks : (defScope d.st).names.lookup ("super" : Str) = some .globalImplicit)
    (kc : (defScope d.st).names.lookup ("__class__" : Str) = some .free) (ka : (defScope d.st).names.lookup ("self" : Str) = some .local) : ∃ fd, XInit P K mg C f d.qual d.st fd := by
  obtain ⟨b1, b⟩ := andB b
  obtain ⟨b2, b⟩ := andB b
  obtain ⟨b3, b4⟩ := andB b
  unfold xvOf at e
  cases q : K.lookup f with
  | none => rw [q] at b3; cases b3
  | some o =>
    obtain ⟨oc, od, dt, osl⟩ := o
    rw [q] at b3 e
    cases dt with
    | func fd =>
      obtain ⟨n1, n2, n3, n4, n5, n6, n7, n8, n9, n10, n11, n12, n13, n14, n15⟩ := fd
      have e2 : (some (n1, n2, n3, n4, n5, n6, n7.map (·.1), n8, n15) : XV) = (some (("__init__" : Str), d.qual, defArgs d.st, .stmts (defBody d.st), defScope d.st, mainGlobals, ["__class__"], .none, builtinsNs) : XV) := e
      simp only [Option.some.injEq, Prod.mk.injEq] at e2
      obtain ⟨h1, h2, h3, h4, h5, h6, h7, h8, h9⟩ := e2
      subst h1 h2 h3 h4 h5 h6 h8 h9
      cases n7 with
      | nil => cases h7
      | cons p r =>
        cases r with
        | cons p2 r2 => exact nomatch (List.cons.inj h7).2
        | nil =>
          obtain ⟨nn, cc⟩ := p
          have en : nn = "__class__" := (List.cons.inj h7).1
          subst en
          cases n13 with
          | ref cd =>
            obtain ⟨c1, c2⟩ := andB b3
            obtain ⟨c2, c3⟩ := andB c2
            cases q2 : K.lookup cd with
            | none => rw [q2] at c2; cases c2
            | some o2 =>
              obtain ⟨oc2, od2, dt2, osl2⟩ := o2
              rw [q2] at c2
              cases dt2 with
              | fields vs =>
                obtain ⟨fl, tf, hv1, hv2⟩ := fileB_ok c2
                cases q3 : K.lookup cc with
                | none => rw [q3] at c3; cases c3
                | some o3 =>
                  obtain ⟨oc3, od3, dt3, osl3⟩ := o3
                  rw [q3] at c3
                  cases dt3 with
                  | cell co =>
                    cases co with
                    | none => cases c3
                    | some v =>
                      cases v with
                      | ref D =>
                        have eD : D = C := of_decide_eq_true c3
                        subst eD
                        exact ⟨_, xinit_mk (st := d.st) x (of_decide_eq_true b1) (of_decide_eq_true b2) q c1 q2 hv1 hv2 q3 (of_decide_eq_true b4) mgs opq top hh ks kc ka⟩
                      | _ => cases c3
                  | _ => cases c3
              | _ => cases c2
          | _ => cases b3
    | _ => cases b3
/-! the Hook -/
abbrev AlX : Type := He.AlD × Bool × List XV
def obsX (fa : List He.Fa) (fn : List He.DefD) (ex : List (Frag → Bool)) (xs : List XD) (K : Frag) : AlX := (He.obsD fa fn K, ex.all (fun f => f K), xs.map fun d => xvOf K (d.fn K))
def valX (fn : List He.DefD) (xs : List XD) : AlX := (He.valD fn, true, xs.map XD.val)
structure SaysX (fa : List He.Fa) (fn : List He.DefD) (ex : List (Frag → Bool)) (xs : List XD) (K : Frag) : Prop where
  d : He.SaysD fa fn K
  e : ∀ (i : Nat) {f : Frag → Bool}, ex[i]? = some f → f K = true
  x : ∀ (i : Nat) {d : XD}, xs[i]? = some d → xvOf K (d.fn K) = d.val
theorem says_of {fa : List He.Fa} {fn : List He.DefD} {ex : List (Frag → Bool)} {xs : List XD} {K : Frag} (h : obsX fa fn ex xs K = valX fn xs) : SaysX fa fn ex xs K := by
  have h1 : He.obsD fa fn K = He.valD fn := congrArg (fun z : AlX => z.1) h
  have h2 : ex.all (fun f => f K) = true := congrArg (fun z : AlX => z.2.1) h
  have h3 : xs.map (fun d => xvOf K (d.fn K)) = xs.map XD.val := congrArg (fun z : AlX => z.2.2) h
  refine ⟨h1, fun i f e => List.all_eq_true.mp h2 f (List.mem_of_getElem? e), fun i d e => ?_⟩
  have e2 : (xs.map fun d => xvOf K (d.fn K))[i]? = (xs.map XD.val)[i]? := by rw [h3]
  rw [List.getElem?_map, List.getElem?_map, e] at e2
  exact Option.some.inj e2
def obsXG (n : Nat) (fa : List He.Fa) (fn : List He.DefD) (ex : List (Frag → Bool)) (xs : List XD) (g : Addr → Option Obj) : AlX := obsX fa fn ex xs (He.frG g (asX g n))
def hookX (n : Nat) (fa : List He.Fa) (fn : List He.DefD) (ex : List (Frag → Bool)) (xs : List XD) : PySem.W.Hook where
  α := AlX
  obs := fun s => obsXG n fa fn ex xs s.heap.get?
  val := fun _ => valX fn xs
  says := fun _ h => ∃ K : Frag, K.In h ∧ SaysX fa fn ex xs K
  of := fun _ _ e => ⟨_, He.frG_in, says_of e⟩
  keeps := fun _ _ _ ⟨K, hK, c⟩ k => ⟨K, Frag.In.keeps hK k, c⟩
theorem obsXG_eq {n : Nat} {fa : List He.Fa} {fn : List He.DefD} {ex : List (Frag → Bool)} {xs : List XD} {g : Addr → Option Obj} {s : Shared} (h : ∀ a, g a = s.heap.get? a) : obsXG n fa fn ex xs g = (hookX n fa fn ex xs).obs s := by
  have e : g = s.heap.get? := funext h
  rw [e] <;> rfl
/-- a def without defaults -/
theorem fun_of {K : Frag} {x qual : Str} {st : Stmt} {f : Addr} {fd : FuncData} (F : FunD K x qual (defArgs st) (defBody st) (defScope st) [] [] f fd) : Fun K x qual st f fd := by
  obtain ⟨oc, od, dV, kV, doc, pm, an, cdv, ct, osl, rfl, lk, hcd, hD, hK⟩ := F.ex
  rcases hD with ⟨_, rfl⟩ | ⟨z, _⟩
  · exact ⟨⟨oc, od, kV, doc, pm, an, cdv, ct, osl, rfl, lk, hcd⟩, F.kp⟩
  · exact absurd rfl z
theorem walk_ofEG {l : PySem.W.OpenLaw} {n k : Nat} {q : Program} {loose : List Str} {XP : (Str → Option Value) → Heap → Prop} {YP : World → Heap → Prop} {d : DefRec} {x : Str}
    (hn : l.most = some n) (hn2 : n ≤ sizeLine) (hdf : d.params.defaults = []) (hr : Room k callerA)
    (G : ∀ (w : World) (mg : Str → Option Value) (fa : Addr) (h : Heap), YP w h → h.Ns mainGlobals mg → mg d.name = some (.ref fa) →
      ∃ (K : Frag) (fd : FuncData) (sp : Sp), K.In h ∧ (∀ (s : Shared) (u : Value), BindsTo s fd ⟨[u], []⟩ [(x, u)]) ∧
        (∀ (H : Hp) (a : Addr) (ns : List Int), ns.length ≤ n → SqL K H a (ns.map V.int) → sp [.ref a] H (fun v _ => v = .bl true) fun _ _ _ => False) ∧
        ∀ base : Heap, K.In base → base.Ns mainGlobals mg → FnG l.prog w K mg base CX0 k fa fd [x] sp) :
    WalkO q loose XP YP l.row.toRowW d [] (fun f vs => PySem.call f vs) := by
  refine Att.attach_call hn hdf fun w s₀ t mg mb fa o pm cd doc a vs ns Gr Y ho hd hcd hmg hobj hints hlen hg => ?_
  obtain ⟨K, fd, sp, KX, hb, hsp, hF⟩ := G w mg fa _ Y Gr.T.g hmg
  exact law_callG KX Gr.T.g Gr.T.b Gr.T.builtins Gr.T.nolimit hg hobj hints (Nat.le_trans hlen hn2) hr hF hb fun H _ hS => hsp H a ns hlen hS
end Sh
set_option Elab.async false
set_option linter.all false
set_option maxRecDepth 100000
set_option maxHeartbeats 4000000
namespace Sh
open PySem PySem.Spec PySem.W PyProof.Rows L2
/-! ### raise X(..), X an own exception with super().__init__(..) -/
section
variable {X : Cx}
theorem pmk_x {e : Expr} {te : TE} (hx : X.ex = []) (he : PE X e te) :
    PMk X e (fun σ H Q => te σ H fun x H1 => ∃ (a C dx : Addr) (fs : List (Str × V)), x = .ref a ∧ H1 a = some (exo a C (some dx)) ∧ H1 dx = some (exd dx fs) ∧ Fr0 X.H_0 a ∧ Raises X (.ref C) ∧ Q (.ref C) (some dx) (delH H1 a)) := by
  intro pins s σ H Q I h
  refine thn (he.run pins s σ H _ I h) fun u s1 hu => ?_
  obtain ⟨v, H1, I1, r1, a, C, dx, fs, rfl, ha, hd, h0, hr, q⟩ := hu
  cases r1
  obtain ⟨t1, ho⟩ := exo_at I1.hok ha
  obtain ⟨G, gs, ga, J⟩ := I1.untrack ha h0 hx
  exact ⟨a, _, _, { s1 with heap := G }, delH H1 a, .ref C, some dx, rfl, J, gs, ga, ho, ⟨rfl, rfl⟩, rfl, rfl, delH_same, rfl, I1.bare, hr, q⟩
theorem pmk_x0 {e : Expr} {te : TE} (hx : X.ex = []) (he : PE X e te) :
    PMk X e (fun σ H Q => te σ H fun x H1 => ∃ (a C : Addr), x = .ref a ∧ H1 a = some (exo a C none) ∧ Fr0 X.H_0 a ∧ Raises X (.ref C) ∧ Q (.ref C) none (delH H1 a)) := by
  intro pins s σ H Q I h
  refine thn (he.run pins s σ H _ I h) fun u s1 hu => ?_
  obtain ⟨v, H1, I1, r1, a, C, rfl, ha, h0, hr, q⟩ := hu
  cases r1
  obtain ⟨t1, ho⟩ := exo_at I1.hok ha
  obtain ⟨G, gs, ga, J⟩ := I1.untrack ha h0 hx
  exact ⟨a, _, _, { s1 with heap := G }, delH H1 a, .ref C, none, rfl, J, gs, ga, ho, ⟨rfl, rfl⟩, rfl, rfl, delH_same, rfl, I1.bare, hr, q⟩
def tRaiseX (X : Cx) (W : WX) (te : TE) : TS := fun _ σ H => te σ H fun x H1 => ∃ (a C dx : Addr) (fs : List (Str × V)), x = .ref a ∧ H1 a = some (exo a C (some dx)) ∧ H1 dx = some (exd dx fs) ∧ Fr0 X.H_0 a ∧ Raises X (.ref C) ∧ W (.ref C) (some dx) σ (delH H1 a)
theorem ps_raiseX {W : WX} {e : Expr} {te : TE} {pos : Pos} (hc : X.calm = true) (hx : X.ex = []) (tk : Takes X W) (he : PE X e te) : PS X (.Raise (some e) none pos) (tRaiseX X W te) := ps_raise hc tk (pmk_x hx he)
def tRaiseX0 (X : Cx) (W : WX) (te : TE) : TS := fun _ σ H => te σ H fun x H1 => ∃ (a C : Addr), x = .ref a ∧ H1 a = some (exo a C none) ∧ Fr0 X.H_0 a ∧ Raises X (.ref C) ∧ W (.ref C) none σ (delH H1 a)
theorem ps_raiseX0 {W : WX} {e : Expr} {te : TE} {pos : Pos} (hc : X.calm = true) (hx : X.ex = []) (tk : Takes X W) (he : PE X e te) : PS X (.Raise (some e) none pos) (tRaiseX0 X W te) := ps_raise hc tk (pmk_x0 hx he)
/-- what a raise asks, when the exception is made of its arguments -/
theorem mk_raise {C : Addr} {n m : Nat} {fs : List Str} {t tk : TA} {σ : L2.St} {H : Hp} {W : WX} {D : Ends} {vs zs : List V} (h0 : ∀ a, H a = none → Fr0 X.H_0 a) (R : Raises X (.ref C))
    (h1 : ∀ R : List V → Hp → Prop, R vs H → t σ H R) (h2 : ∀ R : List V → Hp → Prop, R zs H → tk σ H R) (l1 : vs.length = n) (l2 : zs.length = m) (l3 : n + m = fs.length)
    (q : ∀ H' d, Same H H' → H d = none → H' d = some (exd d (fs.zip (rotV vs zs)).reverse) → W (.ref C) (some d) σ H') : tRaiseX X W (tOex C n m (spXI C fs) rotV t tk) D σ H := by
  refine h1 _ (h2 _ ⟨l1, l2, fun a ha => ⟨a, rotV vs zs, rfl, ?_, upd_same, fun H' d kp hd hne ea ed => ⟨rfl, a, C, d, _, rfl, ea, ed, h0 a ha, R, q _ d (fun b o e => ?_) ?_ ?_⟩⟩⟩)
  · unfold rotV
    rw [List.length_append, List.length_append, List.length_drop, List.length_take, l1, l2]
    omega
  · have ne := ne_of_none e ha
    rw [delH_ne ne]
    exact kp b o (by rw [upd_ne ne]; exact e) ne
  · rw [upd_ne hne] at hd
    exact hd
  · rw [delH_ne hne]
    exact ed
theorem XCls.raises {S C : Addr} (x : XCls X.K S C) : Raises X (.ref C) := raises_own (by show mroIn X.K C _ = some true; rw [x.sub]; simp [List.contains_cons]) x.ty
/-- e.f of the exception that a suite holds -/
def tXBy (K : Frag) (f : Str) (a : Addr) (cls : Value) (d : Option Addr) (te : TE) : TE := fun σ H Q => te σ H fun x H1 => x = .ref a ∧ ∃ (C dx : Addr) (fs : List (Str × V)) (v : V), cls = .ref C ∧ d = some dx ∧ ExR K C ∧ findIn K (.ref C) f = some none ∧ H1 dx = some (exd dx fs) ∧ fs.lookup f = some v ∧ Q v H1
theorem pe_xby {a : Addr} {oe : Obj} {cls : Value} {d : Option Addr} {pn : List (Addr × Obj)} {e : Expr} {te : TE} {f : Str} {pos : Pos} (hz : Zc cls d oe) (hf : ∃ vs, oe.data = .fields vs) (he : PE (X.suite a ((a, oe) :: pn)) e te)
    (hb : attributeBase e f X.env (eval e X.env) = eval e X.env := by rfl) : PE (X.suite a ((a, oe) :: pn)) (.Attribute e f pos) (tXBy X.K f a cls d te) := by
  refine ⟨fun pins s σ H Q I h => attr_of hb (thn (he.run pins s σ H _ I h) fun u s1 hh => ?_)⟩
  obtain ⟨x, H1, I1, rx, rfl, C, dx, fs, v, rfl, rfl, R, hno, ed, hl, q⟩ := hh
  obtain rfl : u = Value.ref a := rx
  have hp := (I1.pin (a, oe) (List.mem_append_left _ List.mem_cons_self)).1
  obtain ⟨vs, hd⟩ := hf
  obtain ⟨mA, hns, hr⟩ := exd_at I1.hok ed
  obtain ⟨od, hod, hlk⟩ := lookIn_ns hns
  obtain ⟨u, hu, ru⟩ := RelO.some_of (v := v) (o := mA f) (by rw [← hl]; exact hr f)
  have J : InstAt s1.heap a oe C (some od) := ⟨hp, hz.1, (by unfold notCls; rw [hd] <;> rfl), (by rw [hz.2]; exact hod)⟩
  exact HandSPX.exc_get I1.kIn J R.ga R.gg R.ox.exC (findObj_own R.hd hno rfl (by rw [hlk, hu])) (handed_of ru) ⟨v, H1, I1.tok _, ru, q⟩
/-- isinstance(e, C) of the exception that a suite holds -/
def rIsXBy (K : Frag) (a : Addr) (cls : Value) (d : Option Addr) : List V → Hp → VK → Prop := fun xs H Q => ∃ (C dx : Addr) (fs : List (Str × V)) (c : V) (u : Value) (b : Bool), xs = [.ref a, c] ∧ ClsV c u ∧ cls = .ref C ∧ d = some dx ∧ ExR K C ∧ H dx = some (exd dx fs) ∧ kitOne K (.ref C) u = some b ∧ Q (.bl b) H
theorem call_isXBy {a : Addr} {oe : Obj} {cls : Value} {d : Option Addr} {pn : List (Addr × Obj)} (hz : Zc cls d oe) (hf : ∃ vs, oe.data = .fields vs) (hn : specialIn X.K (.builtin "object.__class__") "__get__" = some (some (.builtin "getset_descriptor.__get__"))) (htk : takesIn X.K (.builtin "object.__class__") = some true) :
    CallR (X.suite a ((a, oe) :: pn)) (.builtin "isinstance") (rIsXBy X.K a cls d) := by
  intro pins s σ H xs us Q I r h
  obtain ⟨C, dx, fs, c, u, b, rfl, k, rfl, rfl, R, ed, e, q⟩ := h
  obtain ⟨u1, u2, rfl, r1, r2⟩ := vals2 r
  obtain rfl := k.eq r2
  obtain rfl : u1 = Value.ref a := r1
  have hp := (I.pin (a, oe) (List.mem_append_left _ List.mem_cons_self)).1
  obtain ⟨vs, hd⟩ := hf
  obtain ⟨mA, hns, hr⟩ := exd_at I.hok ed
  obtain ⟨od, hod, hlk⟩ := lookIn_ns hns
  have J : InstAt s.heap a oe C (some od) := ⟨hp, hz.1, (by unfold notCls; rw [hd] <;> rfl), (by rw [hz.2]; exact hod)⟩
  exact kia_one (kitx_exc R.isCls R.ga R.gg R.ox.exC R.cl hn htk R.ob) I.kIn J e (fun z => nomatch z) fun tk => ⟨.bl b, H, I.tok tk, rfl, q⟩
end
/-! ### which clause takes it -/
theorem XCls.subBE {K : Frag} {S C : Addr} (x : XCls K S C) : subIn K (.ref C) (.type "BaseException") = some true := by
  show mroIn K C _ = some true
  rw [x.sub]
  simp [List.contains_cons]
theorem exmOne_of {K : Frag} {cls c : Value} {b : Bool} (h : subIn K c (.type "BaseException") = some true) (k : kitCls K cls c = some b) : exmOne K cls c = some b := by
  unfold exmOne
  rw [h]
  simpa using k
theorem XCls.kit {K : Frag} {S C D : Addr} (x : XCls K S C) (y : XCls K S D) (h : D ≠ S) : kitCls K (.ref C) (.ref D) = some (decide (C = D)) := by
  unfold kitCls
  simp only [y.isC, y.ty, beq_self_eq_true, Bool.and_self, if_true]
  show mroIn K C (.ref D) = _
  rw [x.sub]
  by_cases e : C = D
  · subst e
    simp
  · have e1 : (Value.ref D == Value.ref C) = false := by simp [Ne.symm e]
    have e2 : (Value.ref D == Value.ref S) = false := by simp [h]
    have e3 : ∀ T : String, (Value.ref D == Value.type T) = false := fun T => by simp
    simp [List.contains_cons, e1, e2, e3, e]
    exact ⟨Ne.symm e, h⟩
theorem XCls.exm {K : Frag} {S C D : Addr} (x : XCls K S C) (y : XCls K S D) (h : D ≠ S) : exmOne K (.ref C) (.ref D) = some (decide (C = D)) := exmOne_of y.subBE (x.kit y h)
end Sh
set_option Elab.async false
set_option linter.all false
set_option maxRecDepth 100000
set_option maxHeartbeats 4000000
namespace ShL
open PySem PySem.W PySem.Calls PyProof.Rows
/-! ### sorted(xs, key=f), f's keys lists that are new -/
/-- h's objects stand in g; those of F may have other slots -/
def KB (F : List Addr) (h g : Heap) : Prop := ∀ b o, h.get? b = some o → (∃ sl, g.get? b = some { o with slots := sl }) ∧ (b ∉ F → g.get? b = some o)
/-- .. all but the one at l -/
def KBx (l : Addr) (F : List Addr) (h g : Heap) : Prop := ∀ b o, b ≠ l → h.get? b = some o → (∃ sl, g.get? b = some { o with slots := sl }) ∧ (b ∉ F → g.get? b = some o)
theorem KB.of {F : List Addr} {h g : Heap} (k : ∀ b o, h.get? b = some o → g.get? b = some o) : KB F h g := fun b o q => ⟨⟨o.slots, k b o q⟩, fun _ => k b o q⟩
theorem KB.trans {F : List Addr} {h g k : Heap} (x : KB F h g) (y : KB F g k) : KB F h k := fun b o q => by
  obtain ⟨⟨sl, q1⟩, q2⟩ := x b o q
  obtain ⟨⟨sl', r1⟩, r2⟩ := y b _ q1
  exact ⟨⟨sl', r1⟩, fun n => (y b o (q2 n)).2 n⟩
theorem KBx.trans {l : Addr} {F : List Addr} {h g k : Heap} (x : KBx l F h g) (y : KB F g k) : KBx l F h k := fun b o hb q => by
  obtain ⟨⟨sl, q1⟩, q2⟩ := x b o hb q
  obtain ⟨⟨sl', r1⟩, r2⟩ := y b _ q1
  exact ⟨⟨sl', r1⟩, fun n => (y b o (q2 n)).2 n⟩
theorem KBx.same {l c : Addr} {F : List Addr} {h g k : Heap} (x : KBx l F h g) (hc : h.get? c = none) (y : ∀ b, b ≠ c → k.get? b = g.get? b) : KBx l F h k := fun b o hb q => by
  have ne : b ≠ c := fun z => by rw [z, hc] at q; cases q
  obtain ⟨⟨sl, q1⟩, q2⟩ := x b o hb q
  exact ⟨⟨sl, (y b ne).trans q1⟩, fun n => (y b ne).trans (q2 n)⟩
section
variable {prog : Program} {w : World} {A : Around} {E : Value → Shared → Prop} {s : Shared} {l st : Addr} {its : List Value} {e1 : Nat} {Z : PySem.Fin → Shared → Prop} {ks : List PyData} {J : Shared → Prop} {F : List Addr}
/-- a call of f on x keeps what was there; its key is a new object -/
def KeyNew (J : Shared → Prop) (F : List Addr) (d : PyData) (s₁ : Shared) (v : Value) (s₂ : Shared) : Prop := J s₂ ∧ KB F s₁.heap s₂.heap ∧ ∃ a o, v = .ref a ∧ s₁.heap.get? a = none ∧ a ∉ F ∧ s₂.heap.get? a = some o ∧ ∀ g : Heap, g.get? a = some o → ∃ as, Reads g (.ref a) d as
theorem kn_rest {f : Value} {h0 : Heap} (hJ : ∀ s g tk, J s → J { s with heap := g, toks := tk }) (j0 : J s) (kb : KBx l F h0 s.heap) (hst : h0.get? st = none) (ns : s.heap.get? st = some (seqObj "list" #[] 0)) (nl : s.heap.get? l = some (seqObj "list" #[] e1)) (hne : st ≠ l) (hsF : st ∉ F) (hlF : l ∉ F)
    (hlen : ks.length = its.length) (hZ : its.length ≤ sizeLine) (hal : AllAlike ks) (hsk : Sortable ks) (hu : ∀ d ∈ ks, A.units + d.depth < cLine)
    (one : ∀ (i : Nat) (v : Value) (d : PyData), its[i]? = some v → ks[i]? = some d → ∀ (s₁ : Shared), J s₁ → KBx l F h0 s₁.heap → wpAny (model prog w) A (call f [v]) (KeyNew J F d s₁) (fun _ _ => False) s₁)
    (fin : ∀ s₁ out c, J s₁ → KBx l F h0 s₁.heap → s₁.heap.get? l = some (seqObj "list" (List.toArray out) c) → KeyedOut false ks its out → Z (.done (.ret .none)) s₁) :
    wpAny (model prog w) A (ksk_rest l f false its.toArray e1 (.ref st)) Z E s := by
  unfold ksk_rest; refine wpAny_bind (wpAny_rule ?_)
  first
    | rw [List.forIn_toArray]
    | (rw [← Array.forIn_toList]; simp only [List.toList_toArray])
    | rw [← Array.forIn_toList]
  let R : Heap → Value → PyData → Prop := fun g v d => ∃ a o, v = .ref a ∧ a ≠ st ∧ a ∉ F ∧ g.get? a = some o ∧ ∀ g' : Heap, g'.get? a = some o → ∃ as, Reads g' (.ref a) d as
  refine wpAny_bind (ksk_fold (fun i s₁ => ∃ kA e, J s₁ ∧ KBx l F h0 s₁.heap ∧ s₁.heap.get? st = some (seqObj "list" kA e) ∧ s₁.heap.get? l = some (seqObj "list" #[] e1) ∧ EachIs (R s₁.heap) kA.toList (ks.take i)) its 0 s
    ⟨#[], 0, j0, kb, ns, nl, by rw [List.take_zero]; exact EachIs.nil⟩ ?step ?done)
  case step =>
    rintro j x s₁ hx ⟨kA, e, j1, kg, ns', nl', hk⟩
    simp only [Nat.zero_add] at hk ⊢
    have hj : j < its.length := (List.getElem?_eq_some_iff.mp hx).1
    obtain ⟨d, hd⟩ : ∃ d, ks[j]? = some d := ⟨_, List.getElem?_eq_getElem (by omega)⟩
    have hz : kA.size ≤ its.length := by
      have q := hk.length
      rw [Array.length_toList, List.length_take] at q; omega
    refine wpAny_bind (wpAny_attempt (wpAny_mono (one j x d hx hd s₁ j1 kg) (fun v s₂ he => ?_) fun _ _ z => z.elim))
    obtain ⟨j2, up, a, o, rfl, hn, haF, hao, hr⟩ := he; try dsimp only
    have has : a ≠ st := fun z => by rw [z, ns'] at hn; cases hn
    have ns2 : s₂.heap.get? st = some (seqObj "list" kA e) := (up _ _ ns').2 hsF
    have nl2 : s₂.heap.get? l = some (seqObj "list" #[] e1) := (up _ _ nl').2 hlF
    have sb := Heap.SameBut.update s₂.heap st (Obj.mapSeq (·.push (.ref a)))
    obtain ⟨c2, hc2⟩ : ∃ c2, (s₂.heap.update st (Obj.mapSeq (·.push (.ref a)))).get? st = some (seqObj "list" (kA.push (.ref a)) c2) := ⟨_, get?_update_seq ns2 (·.push (.ref a))⟩
    refine wpAny_bind (listUpdate_at ns2 rfl ?_ (Nat.le_trans hz hZ) (by rw [Array.size_push]; omega))
    refine wpAny_pure ⟨rfl, kA.push (.ref a), c2, hJ s₂ _ s₂.toks j2, (kg.trans up).same hst sb.2, hc2, (sb.2 l hne.symm).trans nl2, ?_⟩
    rw [show (kA.push (Value.ref a)).toList = kA.toList ++ [.ref a] by simp, show ks.take (j + 1) = ks.take j ++ [d] by rw [List.take_add_one, hd]; rfl]
    refine each_snoc (R := R (s₂.heap.update st (Obj.mapSeq (·.push (.ref a))))) ⟨a, o, rfl, has, haF, (sb.2 a has).trans hao, hr⟩ (hk.mono ?_)
    rintro u d' ⟨b, ob, rfl, hb1, hb2, hb3, hb4⟩
    exact ⟨b, ob, rfl, hb1, hb2, (sb.2 b hb1).trans ((up _ _ hb3).2 hb2), hb4⟩
  case done =>
    rintro s₁ ⟨kA, e, j1, kg, ns', nl', hk⟩
    have hk' : EachIs (fun v d => ∃ as, Reads s₁.heap v d as) kA.toList ks := by
      rw [show ks.take (0 + its.length) = ks from List.take_of_length_le (by omega)] at hk
      refine hk.mono ?_
      rintro u d ⟨b, ob, rfl, _, _, hb3, hb4⟩
      exact hb4 _ hb3
    have hsz : kA.size = its.length := by
      have q := hk'.length
      rw [Array.length_toList] at q; omega
    try dsimp only
    refine wpAny_bind (listItems_at ns' rfl ?_)
    obtain ⟨G, g1, g2⟩ := L2.restrict s₁.heap fun b => decide (b ≠ st)
    have kG : KeepsBut l G s₁.heap := fun b o _ q => by
      by_cases z : b = st
      · rw [g2 b (decide_eq_false (by simpa using z))] at q; cases q
      · rw [g1 b (decide_eq_true z)] at q; exact q
    refine keyH_end (κ := dataKind s₁.heap ks) (h₁ := G) kG (g2 st (by simp)) ns' nl' hne (SortsAt.data (s := s₁) hk' hal hsk hu) hsz hZ fun g3 tk3 c k3 n3 => fin _ _ c (hJ s₁ g3 tk3 j1) ?_ n3 ⟨s₁.heap, kA.toList, hal, rfl, hk'⟩
    intro b o hb q
    have ne : b ≠ st := fun z => by rw [z, hst] at q; cases q
    obtain ⟨⟨sl, q1⟩, q2⟩ := kg b o hb q
    exact ⟨⟨sl, k3 b _ hb ((g1 b (decide_eq_true ne)).trans q1)⟩, fun n => k3 b _ hb ((g1 b (decide_eq_true ne)).trans (q2 n))⟩
theorem kn_tree {f : Value} {n : Nat} (hJ : ∀ s g tk, J s → J { s with heap := g, toks := tk }) (j0 : J s) (hF : ∀ b ∈ F, b < s.heap.objs.size ∧ b ≠ l) (ho : s.heap.get? l = some (seqObj "list" its.toArray n)) (hlen : ks.length = its.length) (hZ : its.length ≤ sizeLine) (hal : AllAlike ks) (hsk : Sortable ks) (hu : ∀ d ∈ ks, A.units + d.depth < cLine)
    (one : ∀ (i : Nat) (v : Value) (d : PyData), its[i]? = some v → ks[i]? = some d → ∀ (s₁ : Shared), J s₁ → KBx l F s.heap s₁.heap → wpAny (model prog w) A (call f [v]) (KeyNew J F d s₁) (fun _ _ => False) s₁)
    (fin : ∀ s₁ out c, J s₁ → KBx l F s.heap s₁.heap → s₁.heap.get? l = some (seqObj "list" (List.toArray out) c) → KeyedOut false ks its out → Z (.done (.ret .none)) s₁) :
    wpAny (model prog w) A (ksk_tree l f false) Z E s := by
  have hl : l < s.heap.objs.size := Heap.lt_size ho
  obtain ⟨e1, q1⟩ : ∃ e1, (s.heap.update l (Obj.mapSeq fun _ => (#[] : Array Value))).get? l = some (seqObj "list" #[] e1) := ⟨_, get?_update_seq ho fun _ => #[]⟩
  have zS : ((s.heap.update l (Obj.mapSeq fun _ => (#[] : Array Value))).push (seqObj "tuple" its.toArray 0)).objs.size = s.heap.objs.size + 1 := by rw [size_push', Heap.size_update]
  unfold ksk_tree; refine wpAny_bind (listItems_at ho rfl ?_)
  refine wpAny_bind (listUpdate_at ho rfl ?_ (by rw [List.size_toArray]; exact hZ) (Nat.zero_le _)); refine wpAny_bind (seqEpoch_at q1 rfl ?_)
  refine wpAny_bind (wpAny_newTuple ?_ (by show its.length ≤ _; exact hZ)); refine wpAny_bind (wpAny_newList ?_ (Nat.zero_le _))
  refine wpAny_holding ?_
  refine kn_rest (ks := ks) (F := F) (h0 := s.heap) (s := { s with heap := ((s.heap.update l (Obj.mapSeq fun _ => (#[] : Array Value))).push (seqObj "tuple" its.toArray 0)).push (seqObj "list" #[] 0) }) (st := ((s.heap.update l (Obj.mapSeq fun _ => (#[] : Array Value))).push (seqObj "tuple" its.toArray 0)).objs.size)
    hJ (hJ s _ s.toks j0) (fun b o hb q => ⟨⟨o.slots, sortingHeap_old hb q⟩, fun _ => sortingHeap_old hb q⟩) (Heap.get?_none_of_le (by rw [zS]; exact Nat.le_succ _)) (Heap.get?_push_size _ rfl) (Heap.get?_push_of_some _ (Heap.get?_push_of_some _ q1)) (by rw [zS]; exact Nat.ne_of_gt (Nat.lt_succ_of_lt hl)) ?_ (fun z => (hF l z).2 rfl) hlen hZ hal hsk hu one fin
  rw [zS]
  exact fun z => Nat.lt_irrefl _ (Nat.lt_trans (Nat.lt_succ_self _) (hF _ z).1)
end
section
variable {prog : Program} {w : World} {A : Around} {E : Value → Shared → Prop} {s : Shared} {β : Type} {its : List Value} {bs : List β} {R : Value → β → Prop} {J : Shared → Prop} {F : List Addr}
theorem kn_turns {l : Addr} {f : Value} {k : β → PyData} {h0 : Heap} (e : EachIs R its bs)
    (one : ∀ (v : Value) (x : β), R v x → x ∈ bs → ∀ (s₁ : Shared), J s₁ → KBx l F h0 s₁.heap → wpAny (model prog w) A (call f [v]) (KeyNew J F (k x) s₁) (fun _ _ => False) s₁) :
    ∀ (i : Nat) (v : Value) (d : PyData), its[i]? = some v → (bs.map k)[i]? = some d → ∀ (s₁ : Shared), J s₁ → KBx l F h0 s₁.heap → wpAny (model prog w) A (call f [v]) (KeyNew J F d s₁) (fun _ _ => False) s₁ := by
  intro i v d hv hd s₁ j1 kb
  rw [List.getElem?_map] at hd
  obtain ⟨x, q, rfl⟩ := Option.map_eq_some_iff.mp hd
  have m : (v, x) ∈ its.zip bs := List.mem_of_getElem? (i := i) (by rw [List.getElem?_zip_eq_some]; exact ⟨hv, q⟩)
  exact one v x (e.zip _ m) (List.mem_of_getElem? q) s₁ j1 kb
/-- sorted(xs, key=f) -/
theorem sorted_key_new {a q : Addr} {Q : Value → Shared → Prop} (k : β → PyData) (hJ : ∀ s g tk, J s → J { s with heap := g, toks := tk }) (j0 : J s) (hF : ∀ b ∈ F, b < s.heap.objs.size) (hl : s.heap.IsList a its.toArray) (e : EachIs R its bs) (hal : AllAlike (bs.map k)) (hk : Sortable (bs.map k)) (hL : bs.length ≤ sizeLine) (hu : ∀ x ∈ bs, A.units + 2 + (k x).depth < cLine)
    (one : ∀ (v : Value) (x : β), R v x → x ∈ bs → ∀ (s₁ : Shared), J s₁ → KB F s.heap s₁.heap → wpAny (model prog w) A.in1.in1 (call (.ref q) [v]) (KeyNew J F (k x) s₁) (fun _ _ => False) s₁)
    (fin : ∀ s₁ out c, J s₁ → KB F s.heap s₁.heap → s₁.heap.get? (s.heap.objs.size + 1) = some (seqObj "list" (List.toArray out) c) → out.length = bs.length → EachIs R out (bs.mergeSort (dataLe false k)) → Q (.ref (s.heap.objs.size + 1)) s₁) :
    wpAny (model prog w) A (call (.builtin "sorted") [.ref a] [(Str.ofString "key", .ref q)]) Q E s := by
  have lb : (bs.map k).length = its.length := by rw [List.length_map]; exact e.length.symm
  have up : ∀ {g : Heap}, KBx (s.heap.objs.size + 1) F (copyHeap s.heap its) g → KB F s.heap g := fun {g} kb b o z => kb b o (Nat.ne_of_lt (Nat.lt_succ_of_lt (Heap.lt_size z))) (copyHeap_old z)
  have zc : s.heap.objs.size ≤ (copyHeap s.heap its).objs.size := Nat.le_of_lt (Nat.lt_of_succ_lt (Heap.lt_size (copyHeap_at s.heap its)))
  refine sorted_of_sort hl (by rw [e.length]; exact hL) (ksk_s1 _ _) (fun _ => ksk_l1 _ _) fun E' => ?_
  rw [ksk_t1]
  refine kn_tree (ks := bs.map k) (F := F) (s := { s with heap := copyHeap s.heap its }) hJ (hJ s _ s.toks j0) (fun b z => ⟨Nat.lt_of_lt_of_le (hF b z) zc, Nat.ne_of_lt (Nat.lt_succ_of_lt (hF b z))⟩) (copyHeap_at s.heap its) lb (by rw [e.length]; exact hL) hal hk (bound_map (A := A.in1.in1) hu) (kn_turns e fun v x hR hx s₁ j1 kb => one v x hR hx s₁ j1 (up kb)) fun s₁ out c j1 kb hD ko => ⟨rfl, ?_⟩
  exact fin s₁ out c j1 (up kb) hD ((ko.length lb).trans e.length) (keyedOut_each k ko e)
end
/-! ### the lambda handed to sorted -/
open PySem.Spec L2 LamX NdefX
abbrev lamF (X : Cx) (params : Arguments) (scope : Scope) (c' : Addr) : NF := ⟨"<lambda>", X.env.qual ++ "<lambda>", params, [], scope, cloFrom X.env.cells scope.names [], c'⟩
abbrev keyD (key : Str → List Int) (z : Str) : PyData := .list ((key z).map .int)
/-- sorted(xs, key=lambda y: body): xs texts, the keys lists of ints -/
def tSL (K : PySem.W.Frag) (T : List (Addr × Str)) (N : List Str) (js : List Nat) (ta : TA) (tb : TE) : TE := fun σ H Q => ta σ H fun vs H1 => ∃ (a : Addr) (xs : List Str) (key : Str → List Int), vs = [.ref a] ∧ SqL K H1 a (xs.map V.str) ∧ Tabs T H1 ∧
  (∀ z ∈ xs, tb (startF N [.str z] (js.map (slotAt σ))) (fun _ => none) fun v H' => ∃ l, v = .ref l ∧ H' l = some (.lst ((key z).map V.int))) ∧
  ∀ H2 p, ExtN H1 H2 → Tabs T H2 → H2 p = none → Q (.ref p) (upd H2 p (.lst ((xs.mergeSort (dataLe false (keyD key))).map V.str)))
theorem sqL_extN {K : PySem.W.Frag} {H H' : Hp} {a : Addr} {xs : List V} (h : SqL K H a xs) (e : ExtN H H') : SqL K H' a xs := by
  rcases h with (h | ⟨o, h⟩) | h
  · exact .inl (.inl (e _ _ h fun ps z => by cases z))
  · exact .inl (.inr ⟨o, e _ _ h fun ps z => by cases z⟩)
  · exact .inr h
theorem vals_strs : ∀ {xs : List Str} {its : List Value}, Vals (xs.map V.str) its → EachIs (fun v z => ∃ t, v = Value.str z t) its xs
  | [], _, .nil => .nil
  | x :: xs, _, .cons r t => .cons r (vals_strs t)
theorem strs_vals : ∀ {xs : List Str} {its : List Value}, EachIs (fun v z => ∃ t, v = Value.str z t) its xs → Vals (xs.map V.str) its
  | [], _, .nil => .nil
  | x :: xs, _, .cons r t => .cons r (strs_vals t)
theorem reads_ints {h : Heap} : ∀ {ns : List Int} {its : List Value}, Vals (ns.map V.int) its → ReadsAll h its (ns.map PyData.int) []
  | [], _, .nil => .nil
  | n :: ns, _, .cons ⟨t, rfl⟩ r => by
    have q := ReadsAll.cons (Reads.int (h := h) n t) (reads_ints r)
    exact q
section
variable {X : Cx}
theorem pe_sortLam {T : List (Addr × Str)} {c P : Addr} {k : Nat} {x y : Str} {e : Expr} {ta : TA} {tb : TE} {params : Arguments} {body : Expr} {scope : Scope} {lpos kpos p pos : Pos} {N fr : List Str} {js : List Nat}
    (hg : Gl X x) (hm : X.mg x = none) (hv : bootBuiltins x = some (.builtin "sorted")) (hA : PA X [e] ta) (TB : TabB X.base X.mg c P) (hcode : X.env.code = .ref c) (hmT : (P, X.env.qual ++ "<lambda>") ∈ T) (huT : ∀ p ∈ T, p.1 = P → p.2 = X.env.qual ++ "<lambda>")
    (hr : Room (k + 3) X.A) (hdef : defaultsOf params X.env = ([], [])) (S : NScope N [y] fr scope) (hfree : ndefB X.env.scope scope fr = true) (hjs : js.map (fun j => X.N[j]?) = fr.map some)
    (hbind : ∀ (q : Str) (cl : List (Str × Addr)) (pm cv ctv u : Value), bindArgs (PySem.W.kla_fn "<lambda>" q params body scope cl pm cv ctv) ⟨[u], []⟩ = pure [(y, u)])
    (hbody : ∀ (A : Around) (outer : List Env) (s : Shared) (H : Hp) (E : XK) (f c' : Addr), Room k (A.deeper (envF (lamF X params scope c') f s.heap.objs.size)) → PE (ncx C8.CX0 X.prog X.w X.K X.mg X.base N (lamF X params scope c') f A outer s H E) body tb)
    (hn : x ≠ "__name__" := by decide) (hdb : (x == ("__debug__" : Str)) = false := by decide)
    (hpl : (backTo pos (starEach [e] X.env)).any (·.1) = false := by rfl) (hsa : backTo pos (starEach [e] X.env) = (false, eval e X.env) :: backTo pos (starEach [] X.env) := by rfl) :
    PE X (.Call (.Name x p) [e] [⟨some "key", .Lambda params body scope lpos, kpos⟩] pos) (tSL X.K T N js ta tb) := by
  refine ⟨fun pins s σ H Q I h => ?_⟩
  refine wpAny_Call_Name_kw (ld_blt I hg hm hv ?_ hn hdb)
  refine PyProof.Rows.callWith_kw (thn (hA.run pos pins s σ H _ I h) fun us s1 ⟨vs, H1, I1, r1, q1⟩ => ?_) hsa hpl rfl rfl
  obtain ⟨a, xs, key, rfl, hs, hT, hk, q⟩ := q1
  obtain rfl := Vals.ref1 r1
  show wpAny _ _ (evalAll ((do let v ← eval (.Lambda params body scope lpos) X.env; standAt pos; pure v) :: [])) _ _ s1
  refine wpAny_evalAll_cons (wpAny_bind (lam_make2 I1 TB hcode hmT huT hT hdef (fun y hy e => (ndef_free hfree y hy e).elim (fun z => I1.ok.has _ (.inl z)) fun z => I1.ok.has _ (.inr z)) fun f c' pm ctv H2 s2 I2 eN T2 hf hfn hfr hco => wpAny_bind (wpAny_standAt (wpAny_pure ?_))))
  refine wpAny_evalAll_nil ?_
  show wpAny _ _ (call (.builtin "sorted") [.ref a] [(Str.ofString "key", .ref f)]) _ _ s2
  have hs2 := sqL_extN hs eN
  obtain ⟨its, rv, hl, hz⟩ := I2.list hs2
  have ev := vals_strs rv
  have zl : xs.length ≤ sizeLine := by rw [List.length_map] at hz; exact hz
  have cp : Caps X (cloFrom X.env.cells scope.names []) fr js := Caps.made I2.ok (ndef_free hfree) (ndef_fr hfree) hjs
  have hr2 : Room (k + 1) X.A.in1.in1 := (Room.in1 (k := k + 2) hr).in1
  have un := hr.un
  have fl : ∀ b ∈ frs X.stack, ∃ o, s2.heap.get? b = some o ∧ ∀ vs, o.data ≠ .fields vs := fun b z => (I2.env0.funs.mem z).2
  refine sorted_key_new (R := fun v z => ∃ t, v = Value.str z t) (F := frs X.stack) (keyD key) (J := fun s' => s'.os = s2.os ∧ AllBare s'.gens) (fun s g tk j => j) ⟨rfl, I2.bare⟩ (fun b z => let ⟨o, q, _⟩ := fl b z; Heap.lt_size q) hl.isList ev (AllAlike.of fun z z' => by unfold keyD; rw [alike]; exact alike_ints _ _) (Sortable.others fun z => ⟨(fun q => (by cases q)), (fun xs q => (by cases q))⟩) zl (fun z _ => ?_) (fun v z hv hz s₁ j1 up => ?_) fun s₁ out ce j1 up hat hlen ho => ?_
  · have e : (keyD key z).depth = 1 := by unfold keyD; rw [PyData.depth, depth_ints]
    rw [e]
    omega
  · obtain ⟨t, rfl⟩ := hv
    have kg : ∀ b o, H2 b = some o → ∀ u, s2.heap.get? b = some u → s₁.heap.get? b = some u := fun b o q u r => (up b u r).2 fun z => by rw [I2.stkFree b z] at q; cases q
    have u3 : Un (frs X.stack) [] H2 H2 s2.heap s₁.heap := ⟨fun b ob q _ n _ => (up b ob q).2 n, fun b ob q _ _ _ => (up b ob q).1, fun _ _ _ n _ => n, fun b ob q _ => let ⟨sl, r⟩ := (up b ob q).1; ⟨_, r⟩, fun _ _ q => q, fun _ _ _ q => q, fun _ ps q => ⟨#[], by rw [q]; simp⟩⟩
    have k3 : HOk X.prog X.w H2 s₁.heap := fun b o q => (I2.hok b o q).stay (fun d u hd r => hd.elim (fun z => kg d o (by rw [z]; exact q) u r) fun z => kg d _ z u r) (fun _ q => q) fun _ _ q => q
    have I3 : L2.Inv X pins σ H2 s₁ := I2.call' j1.1 u3 k3 j1.2 (fun b z => absurd z (by simp))
    have e3 := I3.env0
    have e4 : Env0 X.prog X.w X.K X.mg X.base X.A.in1.in1 X.stack s₁ (fun _ => none) := ⟨e3.in1.in1.frames, e3.mod, fun b o q => ⟨(e3.bs b o q).1, rfl⟩, e3.bsz, e3.funs, fun _ _ => rfl, (fun b o q => (by cases q)), e3.bare⟩
    have of1 : s₁.heap.get? f = some (PySem.W.kla_obj "<lambda>" (X.env.qual ++ "<lambda>") params body scope (cloFrom X.env.cells scope.names []) pm c' ctv) := (up _ _ hf).2 hfr
    obtain ⟨⟨oc, us', tc, hoc, hdc, hvc⟩, _, _⟩ := I3.hok c' _ hco
    have C3 := cells_of I3 cp
    have rc : codeAny (model X.prog X.w) X.A.in1.in1 (.call (.ref f) ⟨[.str z t], []⟩) (CR C8.CX0 X.stack X.prog X.w (fun _ => none) s₁ (fun v H' => ∃ l, v = .ref l ∧ H' l = some (.lst ((key z).map V.int))) C8.E0) s₁ := by
      refine PySem.W.kla_callFunE hr2.depth of1 rfl S.co S.gen rfl ⟨c', oc, us', tc, rfl, hoc, hdc, hvc⟩ ?_
      rw [hbind]
      refine wpAny_pure (wpAny_newFunctionEnv S.nocell (fun yy hy => by
        rw [List.mem_singleton] at hy
        rw [hy]
        exact S.par y List.mem_cons_self) (fun h₁ hns hsb => ⟨I3.nolimit.fresh _ hsb, ?_⟩) S.kind)
      show codeAny _ _ (.expr body (envF (lamF X params scope c') f s₁.heap.objs.size)) _ _
      have kp : ∀ b o, s₁.heap.get? b = some o → h₁.get? b = some o := fun b o e => hsb.extBut b o (Nat.ne_of_lt (Heap.lt_size e)) (Heap.get?_push_of_some _ e)
      have J := inv_startN (CX := C8.CX0) (E := C8.E0) (F := lamF X params scope c') (f := f) (tk := s₁.toks + 1) S hr2.hd e4 (vs := [.str z]) (us := [.str z t]) rfl (.cons ⟨t, rfl⟩ .nil) ⟨C3.len, fun y c q => ⟨rfl, (C3.all y c q).2⟩, C3.inj, C3.has⟩ hns kp
      refine PySem.W.kla_codeExpr (wpAny_mono ((hbody _ X.stack s₁ _ C8.E0 f c' (hr2.deeper _)).run [] _ _ _ _ J (hk z hz)) (fun v s' hq => ?_) fun e s' hq => hq)
      obtain ⟨w', H', J', rv, q⟩ := hq
      exact ⟨w', H', J'.os, J'.bare, J'.base, J'.hok, rv, q⟩
    refine wpAny_call (codeAny_mono rc fun r s' hq => ?_)
    cases r with
    | error e => exact (show False from hq).elim
    | ok fl =>
      cases fl with
      | next => exact False.elim hq
      | brk => exact False.elim hq
      | cont => exact False.elim hq
      | ret u =>
        obtain ⟨v, H', os, bare, un', hok, rv', l, rfl, hl'⟩ := hq
        obtain rfl : u = Value.ref l := rv'
        obtain ⟨zl', its', n', rvl, hob⟩ := hok l _ hl'
        have hn : s₁.heap.get? l = none := by
          cases q : s₁.heap.get? l with
          | none => rfl
          | some o =>
            have := un'.free l o q rfl (by simp)
            rw [hl'] at this
            cases this
        refine ⟨⟨os.trans j1.1, bare⟩, fun b o q => ⟨un'.any q rfl (by simp), fun n => un'.keep b o q rfl n (by simp)⟩, l, _, rfl, hn, fun z => ?_, hob, fun g hg => ?_⟩
        · obtain ⟨o, q, _⟩ := (e3.funs.mem z).2
          rw [hn] at q
          cases q
        · exact ⟨_, Reads.list hg rfl rfl (by simpa using reads_ints rvl)⟩
  · have nP : H2 (s2.heap.objs.size + 1) = none := I2.hok.fresh (Nat.le_succ _)
    have kg : ∀ b o, H2 b = some o → ∀ u, s2.heap.get? b = some u → s₁.heap.get? b = some u := fun b o q u r => (up b u r).2 fun z => by rw [I2.stkFree b z] at q; cases q
    have at_ : ∀ b o, H2 b = some o → upd H2 (s2.heap.objs.size + 1) (.lst ((xs.mergeSort (dataLe false (keyD key))).map V.str)) b = some o := fun b o q => by rw [upd_ne (ne_of_none q nP)]; exact q
    have u3 : Un (frs X.stack) [] H2 (upd H2 (s2.heap.objs.size + 1) (.lst ((xs.mergeSort (dataLe false (keyD key))).map V.str))) s2.heap s₁.heap :=
      ⟨fun b ob q _ n _ => (up b ob q).2 n, fun b ob q _ _ _ => (up b ob q).1, fun b ob q n _ => by rw [upd_ne (Nat.ne_of_lt (Nat.lt_succ_of_lt (Heap.lt_size q)))]; exact n, fun b ob q _ => let ⟨sl, r⟩ := (up b ob q).1; ⟨_, r⟩, fun _ _ q => at_ _ _ q, fun _ _ _ q => at_ _ _ q, fun b ps q => ⟨#[], by rw [at_ _ _ q]; simp⟩⟩
    have k3 : HOk X.prog X.w (upd H2 (s2.heap.objs.size + 1) (.lst ((xs.mergeSort (dataLe false (keyD key))).map V.str))) s₁.heap := fun b o q => by
      by_cases hb : b = s2.heap.objs.size + 1
      · rw [hb, upd_same] at q
        cases q
        rw [hb]
        exact ⟨by rw [List.length_map, ← ho.length, hlen]; exact zl, out, ce, strs_vals ho, hat⟩
      · rw [upd_ne hb] at q
        exact (I2.hok b o q).stay (fun d u hd r => hd.elim (fun z => kg d o (by rw [z]; exact q) u r) fun z => kg d _ z u r) (fun _ q => at_ _ _ q) fun _ _ q => at_ _ _ q
    exact ⟨.ref _, _, I2.call' j1.1 u3 k3 j1.2 (fun b z => absurd z (by simp)), rfl, q _ _ eN T2 nP⟩
end
end ShL
set_option Elab.async false
set_option linter.all false
set_option maxRecDepth 100000
set_option maxHeartbeats 4000000
namespace Sh
open PySem PySem.Spec PyProof.Rows L2
/-! ### own == and != -/
/-- a class of the text's own with an __eq__ at f and no __ne__ -/
structure EqC (K : PySem.W.Frag) (C f : Addr) : Prop where
  eq : PySem.W.findIn K (.ref C) "__eq__" = some (some (.ref f))
  fn : PySem.W.isFn K (.ref f) = true
  ne : PySem.W.findIn K (.ref C) "__ne__" = some (some (.builtin "object.__ne__"))
  ob : PySem.W.mroIn K C (.type "object") = some true
  nl : PySem.W.mroIn K C (.type "list") = some false
  nt : PySem.W.mroIn K C (.type "tuple") = some false
section
variable {prog : Program} {w : World} {A : Around} {E : Value → Shared → Prop} {s : Shared} {K : PySem.W.Frag} {x C f : Addr} {ox : Obj} {od : Option Obj} {b : Value}
theorem ne_entry {Q : Fin → Shared → Prop} (e : EqC K C f) (X : K.In s.heap) (I : PySem.W.InstAt s.heap x ox C od) (hu : A.units < cLine)
    (h : wpAny (model prog w) A (call (.ref f) [.ref x, b]) (fun v s' => ∃ k, v = .bool k ∧ Q (.done (.ret (.bool (!k)))) s') E s) : wpAny (model prog w) A (Builtin.«object.__ne__» ⟨[.ref x, b], []⟩) Q E s := by
  unfold Builtin.«object.__ne__»
  repeat (first
    | with_reducible refine wpAny_cRoomFor hu ?_
    | (refine wpAny_bind (m := callSpecialIfBound? (.ref x) (Str.ofString "__eq__") [b]) (PySem.W.ifBound_K X I e.eq e.fn (wpAny_mono h (fun r s' hr => by
          obtain ⟨k, rfl, hq⟩ := hr
          repeat (first | exact hq | exact wpAny_pure hq | exact wpAny_truthy_bool hq | (refine wpAny_bind (m := truthy (.bool _)) (wpAny_truthy_bool ?_)) | wp_step)) fun _ _ e => e)))
    | wp_step)
theorem rc_ne {Q : Value → Shared → Prop} {tb : Value} (e : EqC K C f) (X : K.In s.heap) (I : PySem.W.InstAt s.heap x ox C od) (hu : A.units + 1 < cLine) (hb : PySem.W.Looks (model prog w) s.heap (typeOf b) tb) (hn : PySem.W.notFirst K C tb = true)
    (h : wpAny (model prog w) A.in1 (call (.ref f) [.ref x, b]) (fun v s' => ∃ k, v = .bool k ∧ Q (.bool (!k)) s') E s) : wpAny (model prog w) A (richCompare .NotEq (.ref x) b) Q E s := by
  have one : wpAny (model prog w) A (tryCompare (.ref x) "__ne__" b) (fun r s' => ∃ v, r = some v ∧ Q v s') E s := by
    unfold tryCompare
    refine wpAny_bind (NtL.csib (I.type.andThen (PySem.W.looks_findIn X e.ne)) (F.cmp_object.ne.bind _) (wpAny_call (codeAny_call_builtin F.cmp_object.ne.plain F.cmpEntry_ne
      (PySem.W.check_slot F.cmpKind_ne F.cmpSplit_ne (I.type.andThen (PySem.W.looks_mroIn X e.ob)) (F.cmpArgs_ne _ _) (ne_entry (A := A.in1) e X I hu (wpAny_mono h (fun v s' hv => ?_) fun _ _ e => e))))))
    obtain ⟨k, rfl, hq⟩ := hv
    exact ⟨k, rfl, wpAny_pure ⟨_, rfl, hq⟩⟩
  simp only [richCompare, cmpInfo_NotEq, oneThing_ref]
  refine wpAny_holding (wpAny_bind (wpAny_cRoomFor (Nat.lt_of_succ_lt hu) ?_))
  refine wpAny_bind (I.type.here (wpAny_bind (hb.here ?_)))
  have fin : wpAny (model prog w) A (tryCompare (.ref x) "__ne__" b) (fun r s' => ∃ v, r = some v ∧ Q v s') E s := one
  split
  · rename_i q
    have e2 : PySem.W.subIn K tb (.ref C) = some false := by
      rcases Bool.or_eq_true_iff.mp hn with e | e
      · rw [beq_iff_eq.mp e] at q; simp at q
      · exact beq_iff_eq.mp e
    refine wpAny_bind ((PySem.W.looks_subIn X e2).here ?_)
    simp only [Bool.false_eq_true, if_false]
    refine wpAny_bind (wpAny_mono one (fun r s' z => ?_) fun _ _ e => e)
    obtain ⟨v, rfl, hq⟩ := z
    exact wpAny_pure hq
  · refine wpAny_bind (wpAny_pure ?_)
    simp only [Bool.false_eq_true, if_false]
    refine wpAny_bind (wpAny_mono one (fun r s' z => ?_) fun _ _ e => e)
    obtain ⟨v, rfl, hq⟩ := z
    exact wpAny_pure hq
end
section
variable {X : Cx} {CX : CXT} {k : Nat} {C f : Addr} {fd : FuncData} {ps : List Str} {sp : Sp}
def rEqO (C : Addr) (sp : Sp) : R2 := fun x y H Q => ∃ a b dx dy fs gs, x = .ref a ∧ y = .ref b ∧ H a = some (.ins C dx fs) ∧ H b = some (.ins C dy gs) ∧ sp [.ref a, .ref b] H (fun v H' => ∃ k, v = .bl k ∧ Q (.bl k) H') (fun _ _ _ => False)
def rNeO (C : Addr) (sp : Sp) : R2 := fun x y H Q => ∃ a b dx dy fs gs, x = .ref a ∧ y = .ref b ∧ H a = some (.ins C dx fs) ∧ H b = some (.ins C dy gs) ∧ sp [.ref a, .ref b] H (fun v H' => ∃ k, v = .bl k ∧ Q (.bl (!k)) H') (fun _ _ _ => False)
theorem run_eqO {A : Around} {pins : List (Addr × Obj)} {σ : L2.St} {H : Hp} {s : Shared} {a b : Addr} {R : Bool → Hp → Prop} (F : FnOk X.prog X.w X.K X.mg X.base CX k f fd ps sp) (hb : Binds X.K fd ps []) (hx : Passes CX X (fun _ _ _ => False)) (hr : Room k A) (hf : A.frames = X.A.frames) (I : L2.Inv X pins σ H s)
    (h : sp [.ref a, .ref b] H (fun v H' => ∃ k, v = .bl k ∧ R k H') (fun _ _ _ => False)) : wpAny (model X.prog X.w) A (call (.ref f) [.ref a, .ref b]) (fun v s' => ∃ k, v = .bool k ∧ ∃ H', L2.Inv X pins σ H' s' ∧ R k H') X.xe s := by
  have e := I.env0
  have e0 : Env0 X.prog X.w X.K X.mg X.base A X.stack s H := ⟨by rw [hf]; exact e.frames, e.mod, e.bs, e.bsz, e.funs, e.frf, e.hok, e.bare⟩
  have hl := F.len _ _ _ _ h
  refine wpAny_call (codeAny_mono (F.run A X.stack s H ⟨[.ref a, .ref b], []⟩ [.ref a, .ref b] [.ref a, .ref b] _ _ hr e0 (by
    have := hb s [.ref a, .ref b] I.kIn (by simpa using hl)
    simpa using this) (.cons rfl (.cons rfl .nil)) h) fun r s' hq => ?_)
  cases r with
  | error e => exact hx pins σ H s e s' I hq
  | ok fl =>
    cases fl with
    | ret w =>
      obtain ⟨z, H', I', rz, k, ez, q⟩ := I.after hq
      subst ez
      cases rz
      exact ⟨k, rfl, H', I', q⟩
    | next => exact False.elim hq
    | brk => exact False.elim hq
    | cont => exact False.elim hq
theorem op_eqO (e : EqC X.K C f) (F : FnOk X.prog X.w X.K X.mg X.base CX k f fd ps sp) (hb : Binds X.K fd ps []) (hx : Passes CX X (fun _ _ _ => False)) (hr : Room k X.A) : OpR X (compareOp .Eq) (rEqO C sp) := by
  intro pins s σ H x y v u Q I rx ry h
  obtain ⟨a, b, dx, dy, fs, gs, rfl, rfl, ha, hb', hs⟩ := h
  cases rx
  cases ry
  obtain ⟨mA, J, _⟩ := ins_get I.hok ha
  obtain ⟨mB, J', _⟩ := ins_get I.hok hb'
  obtain ⟨od, J, _⟩ := J.look
  obtain ⟨od', J', _⟩ := J'.look
  obtain ⟨m, hF⟩ := I.fr
  show wpAny (model X.prog X.w) X.A (richCompare .Eq (.ref a) (.ref b)) (EP X pins σ Q) X.xe s
  refine PySem.W.cmp_K (op := .Eq) (tb := .ref C) hr.units0 hF I.ok.mod.kin J J'.type (by simp [PySem.W.notFirst]) e.eq e.fn (wpAny_mono (run_eqO F hb hx hr rfl I hs) (fun v s' q => ?_) fun _ _ z => z)
  obtain ⟨k, rfl, H', I', q⟩ := q
  exact ⟨.bl k, H', I', rfl, q⟩
theorem op_neO (e : EqC X.K C f) (F : FnOk X.prog X.w X.K X.mg X.base CX k f fd ps sp) (hb : Binds X.K fd ps []) (hx : Passes CX X (fun _ _ _ => False)) (hr : Room (k + 1) X.A) : OpR X (compareOp .NotEq) (rNeO C sp) := by
  intro pins s σ H x y v u Q I rx ry h
  obtain ⟨a, b, dx, dy, fs, gs, rfl, rfl, ha, hb', hs⟩ := h
  cases rx
  cases ry
  obtain ⟨mA, J, _⟩ := ins_get I.hok ha
  obtain ⟨mB, J', _⟩ := ins_get I.hok hb'
  obtain ⟨od, J, _⟩ := J.look
  obtain ⟨od', J', _⟩ := J'.look
  have un := hr.un
  show wpAny (model X.prog X.w) X.A (richCompare .NotEq (.ref a) (.ref b)) (EP X pins σ Q) X.xe s
  refine rc_ne (tb := .ref C) e I.kIn J (by omega) J'.type (by simp [PySem.W.notFirst]) (wpAny_mono (run_eqO F hb hx hr.in1 rfl I hs) (fun v s' q => ?_) fun _ _ z => z)
  obtain ⟨k, rfl, H', I', q⟩ := q
  exact ⟨k, rfl, .bl (!k), H', I', rfl, q⟩
end
/-! ### an own == that returns NotImplemented: of a list -/
section
variable {X : Cx} {C f : Addr} {fd : FuncData}
theorem run_ni {P : Program} {w : World} {K : PySem.W.Frag} {mg : Str → Option Value} {base : Heap} {qual : Str} {st : Stmt} {N : List Str} {c : Expr} {rest : List Stmt} {p p2 p3 : Pos} {tt : TT} {A : Around} {outer : List Env} {s : Shared} {H : Hp} {us : List Value} {vs : List V} {R : Hp → Prop}
    (F : Fun K "__eq__" qual st f fd) (S : FnScope N ["self", "other"] (defScope st)) (hbd : defBody st = .If c [.Return (some (.Name "NotImplemented" p)) p2] [] p3 :: rest) (hbi : Binds K fd ["self", "other"] [])
    (hg : (defScope st).names.lookup ("NotImplemented" : Str) = some .globalImplicit) (hm : mg "NotImplemented" = none)
    (ht : ∀ (cdv : Value) (A : Around) (outer : List Env) (s : Shared) (H : Hp) (E : XK), Room 0 A → PT (cxOf CX0 P w K mg base N qual (defScope st) f cdv A outer s H E) c tt)
    (hr : Room 1 A) (e0 : Env0 P w K mg base A outer s H) (r : Vals vs us) (hl : vs.length = 2) (q : tt (L2.start N vs) H (fun b H' => b = true ∧ R H')) :
    wpAny (model P w) A (call (.ref f) us) (fun v s' => v = .notImplemented ∧ ∃ H', s'.os = s.os ∧ AllBare s'.gens ∧ Un (frs outer) [] H H' s.heap s'.heap ∧ HOk P w H' s'.heap ∧ R H') (fun _ _ => False) s := by
  have KX : K.In s.heap := e0.mod.kin.keeps fun b o z => (e0.bs b o z).1
  have hb := hbi s us KX (by rw [List.append_nil, ← r.length, hl]; rfl)
  obtain ⟨oc, od, kV, doc, pm, an, cdv, ct, osl, rfl, lk, hcd⟩ := F.ex
  have hl2 : vs.length = (["self", "other"] : List Str).length := hl
  have hkind : ∀ y ∈ (["self", "other"] : List Str).zip us, (defScope st).names.lookup y.1 = some .local ∨ ((defScope st).names.lookup y.1 = some .cell ∧ ((cellsFrom (s.heap.objs.size + 1) (defScope st).names []).lookup y.1).isSome = true) := fun y hy =>
    (S.par y.1 (List.of_mem_zip (a := y.1) (b := y.2) hy).1).imp id fun z => ⟨z, PySem.W.cellsFrom_some _ _ _ (.inl z)⟩
  rw [List.append_nil] at hb
  refine wpAny_call (codeAny_call_function hr.depth (KX _ _ lk) rfl S.co S.gen rfl (PySem.W.codeRec_of KX hcd) (hb _ _ _ _ (wpAny_newFunctionEnv_cells S.kind hkind fun env he s1 y => ?_)))
  subst he
  refine ⟨(e0.mod.nolimit.keeps fun b o z => (e0.bs b o z).1).keeps y.toInCall.keep, codeAny_func ?_⟩
  have I := inv_start (CX := CX0) (E := fun _ _ _ => False) S hr.hd e0 hl2 r y
  rw [hbd]
  refine wpAny_mono (wpAny_execs_cons (wpAny_If (thn ((ht cdv A outer s H (fun _ _ _ => False) (hr.mono (by decide))).run [] s1 _ H _ I q) fun d s2 ⟨H1, I1, ed, qn⟩ => ?_))) (fun fl s' hs => hs) fun e s' hs => hs
  subst ed
  refine wpAny_execs_cons (wpAny_Return_some (ld_blt I1 hg hm rfl ?_))
  exact ⟨rfl, H1, I1.os, I1.bare, I1.base, I1.hok, qn⟩
theorem sub_list {K : PySem.W.Frag} {C : Addr} : PySem.W.subIn K (.type "list") (.ref C) = some false := by
  have e : fastBuiltinMro "list" = some [.type "list", .type "object"] := by decide +kernel
  show (fastBuiltinMro "list").map (·.contains (.ref C)) = some false
  rw [e]
  first
    | rfl
    | simp
theorem list_eq_ins {prog : Program} {w : World} {A : Around} {E : Value → Shared → Prop} {s : Shared} {K : PySem.W.Frag} {x b C : Addr} {ox ob : Obj} {od : Option Obj} {Q : Option Value → Shared → Prop} (X : K.In s.heap) (I : PySem.W.InstAt s.heap x ox C od) (nl : PySem.W.mroIn K C (.type "list") = some false)
    (hb : s.heap.get? b = some ob) (hc : ob.cls = .type "list") (h : Q none s) : wpAny (model prog w) A (tryCompare (.ref b) "__eq__" (.ref x)) Q E s := by
  refine wpAny_tryCompare_declines (show s.TypeIs (.ref b) "list" from ⟨ob, hb, hc⟩) F.slot_list_eq (GQ.call_here F.slot_list_eq ⟨ob, hb, hc⟩ F.entry_list_eq (F.args_list_eq_2 _ _) ?_)
  have L : PySem.W.Looks (model prog w) s.heap (isInstance (.ref x) (.type "list")) false := I.type.andThen (PySem.W.looks_mroIn X nl)
  unfold Builtin.«list.__eq__»
  repeat (first | with_reducible refine wpAny_bind (L.here ?_) | wp_step)
  exact ⟨rfl, h⟩
/-- o == xs, where o's own == gives NotImplemented: False -/
def rEqNL (N : List Str) (C : Addr) (tt : TT) : R2 := fun x y H Q => ∃ a b dx fs xs, x = .ref a ∧ y = .ref b ∧ H a = some (.ins C dx fs) ∧ H b = some (.lst xs) ∧
  tt (L2.start N [x, y]) H (fun k H' => k = true ∧ H' a = some (.ins C dx fs) ∧ H' b = some (.lst xs) ∧ Q (.bl false) H')
theorem op_eqNL {qual : Str} {st : Stmt} {N : List Str} {c : Expr} {rest : List Stmt} {p p2 p3 : Pos} {tt : TT} (e : EqC X.K C f)
    (F : Fun X.K "__eq__" qual st f fd) (S : FnScope N ["self", "other"] (defScope st)) (hbd : defBody st = .If c [.Return (some (.Name "NotImplemented" p)) p2] [] p3 :: rest) (hbi : Binds X.K fd ["self", "other"] [])
    (hg : (defScope st).names.lookup ("NotImplemented" : Str) = some .globalImplicit) (hm : X.mg "NotImplemented" = none)
    (ht : ∀ (cdv : Value) (A : Around) (outer : List Env) (s : Shared) (H : Hp) (E : XK), Room 0 A → PT (cxOf CX0 X.prog X.w X.K X.mg X.base N qual (defScope st) f cdv A outer s H E) c tt) (hr : Room 1 X.A) : OpR X (compareOp .Eq) (rEqNL N C tt) := by
  intro pins s σ H x y v u Q I rx ry h
  obtain ⟨a, b, dx, fs, xs, rfl, rfl, ha, hb, hq⟩ := h
  cases rx
  cases ry
  have hab : a ≠ b := ne_of ha hb (by intro z; cases z)
  obtain ⟨mA, J, _⟩ := ins_get I.hok ha
  obtain ⟨od, J, _⟩ := J.look
  obtain ⟨_, its, n, _, hob⟩ := I.hok b _ hb
  have un := hr.un
  have one : wpAny (model X.prog X.w) X.A (tryCompare (.ref a) "__eq__" (.ref b)) (fun r s' => r = none ∧ ∃ H', L2.Inv X pins σ H' s' ∧ H' a = some (.ins C dx fs) ∧ H' b = some (.lst xs) ∧ Q (.bl false) H') X.xe s := by
    unfold tryCompare
    refine wpAny_bind (PySem.W.ifBound_K I.kIn J e.eq e.fn (wpAny_mono (run_ni F S hbd hbi hg hm ht hr I.env0 (us := [.ref a, .ref b]) (vs := [.ref a, .ref b]) (.cons rfl (.cons rfl .nil)) rfl hq) (fun v s' z => ?_) fun _ _ z => z.elim))
    obtain ⟨rfl, H', os, bare, un, hok, q1, q2, q3⟩ := z
    exact wpAny_pure ⟨rfl, H', I.call' os un hok bare (fun b z => absurd z (by simp)), q1, q2, q3⟩
  show wpAny (model X.prog X.w) X.A (richCompare .Eq (.ref a) (.ref b)) (EP X pins σ Q) X.xe s
  simp only [richCompare, cmpInfo_Eq, oneThing_ref]
  refine wpAny_holding (wpAny_bind (wpAny_cRoomFor (by omega) ?_))
  refine wpAny_bind (J.type.here ?_)
  refine wpAny_bind (wpAny_typeOf (show s.TypeIs (.ref b) "list" from ⟨_, hob, rfl⟩) ?_)
  have tail : ∀ s1, (∃ H', L2.Inv X pins σ H' s1 ∧ H' a = some (.ins C dx fs) ∧ H' b = some (.lst xs) ∧ Q (.bl false) H') → wpAny (model X.prog X.w) X.A (tryCompare (.ref b) "__eq__" (.ref a)) (fun r s' => r = none ∧ s' = s1) X.xe s1 ∧ wpAny (model X.prog X.w) X.A (isSame (.ref a) (.ref b)) (fun r s' => r = false ∧ s' = s1) X.xe s1 := by
    rintro s1 ⟨H', I1, q1, q2, _⟩
    obtain ⟨mB, J1, _⟩ := ins_get I1.hok q1
    obtain ⟨od1, J1, _⟩ := J1.look
    obtain ⟨_, its1, n1, _, hob1⟩ := I1.hok b _ q2
    exact ⟨list_eq_ins I1.kIn J1 e.nl hob1 rfl ⟨rfl, rfl⟩, PySem.SeqAt.wpAny_isSame_ref_other' hab J1.at_ hob1 (by intro z; injection z with z; exact absurd z (by decide)) ⟨rfl, rfl⟩⟩
  split
  · refine wpAny_bind ((PySem.W.looks_subIn I.kIn sub_list).here ?_)
    simp only [Bool.false_eq_true, if_false, Bool.not_false, if_true]
    refine wpAny_bind (m := tryCompare (.ref a) _ (.ref b)) (wpAny_mono one (fun r s1 z => ?_) fun _ _ e => e)
    obtain ⟨rfl, z⟩ := z
    refine wpAny_bind (m := tryCompare (.ref b) _ (.ref a)) (wpAny_mono (tail s1 z).1 (fun r s2 y => ?_) fun _ _ e => e)
    obtain ⟨rfl, rfl⟩ := y
    refine wpAny_bind (wpAny_rule (wpAny_bind (wpAny_mono (tail s2 z).2 (fun r s3 y => ?_) fun _ _ e => e)))
    obtain ⟨rfl, rfl⟩ := y
    obtain ⟨H', I1, _, _, q⟩ := z
    exact wpAny_pure ⟨.bl false, H', I1, rfl, q⟩
  · refine wpAny_bind (wpAny_pure ?_)
    simp only [Bool.false_eq_true, if_false, Bool.not_false, if_true]
    refine wpAny_bind (m := tryCompare (.ref a) _ (.ref b)) (wpAny_mono one (fun r s1 z => ?_) fun _ _ e => e)
    obtain ⟨rfl, z⟩ := z
    refine wpAny_bind (m := tryCompare (.ref b) _ (.ref a)) (wpAny_mono (tail s1 z).1 (fun r s2 y => ?_) fun _ _ e => e)
    obtain ⟨rfl, rfl⟩ := y
    refine wpAny_bind (wpAny_rule (wpAny_bind (wpAny_mono (tail s2 z).2 (fun r s3 y => ?_) fun _ _ e => e)))
    obtain ⟨rfl, rfl⟩ := y
    obtain ⟨H', I1, _, _, q⟩ := z
    exact wpAny_pure ⟨.bl false, H', I1, rfl, q⟩
end
end Sh
set_option Elab.async false
set_option linter.all false
set_option maxRecDepth 100000
set_option maxHeartbeats 4000000
namespace Sh
open PySem PySem.Spec PyProof.Rows L2
/-! ### (a, b, ..) = a list or tuple -/
section
variable {X : Cx} {pos : Pos}
def gUnE (K : PySem.W.Frag) (n : Nat) (t : TGs) : TG := fun v σ H Q => ∃ a xs, v = .ref a ∧ (SqL K H a xs ∨ SqT K H a xs) ∧ xs.length = n ∧ t xs σ H Q
theorem pg_unE {es : List Expr} {k : Nat} {t : TGs} {n : Nat} (hc : X.calm = true) (h : PGs X es t)
    (hn : (assignEach es X.env).length = n := by rfl) (hst : (assignEach es X.env).findIdx? (·.1) = none := by rfl) : PG X (.Tuple es k pos) (gUnE X.K n t) := by
  refine ⟨fun pins s σ H v u Q I r hw => ?_⟩
  obtain ⟨a, xs, e1, hq | hq, hl, hw⟩ := hw
  · exact (pg_unl hc h hn hst).run pins s σ H v u Q I r ⟨a, xs, e1, hq, hl, hw⟩
  · exact (pg_tup hc h hn hst).run pins s σ H v u Q I r ⟨a, xs, e1, hq, hl, hw⟩
/-! ### s * n -/
def repS (z : Str) (n : Nat) : Str := ⟨(List.replicate n z.cps.toList).flatten.toArray⟩
theorem fold_app (xs : List Nat) : ∀ (n : Nat) (acc : Array Nat), ((List.replicate n xs.toArray).foldl (· ++ ·) acc) = acc ++ (List.replicate n xs).flatten.toArray
  | 0, acc => by simp
  | n + 1, acc => by
    rw [List.replicate_succ, List.foldl_cons, fold_app xs n, List.replicate_succ, List.flatten_cons]
    apply Array.ext'
    simp
theorem repS_fold (z : Str) (n : Nat) : (⟨(List.replicate n z.cps).foldl (· ++ ·) #[]⟩ : Str) = repS z n := by
  have e := fold_app z.cps.toList n #[]
  rw [Array.toArray_toList] at e
  unfold repS
  rw [e]
  simp
theorem repS_len (z : Str) (n : Nat) : (repS z n).length = n * z.length := by
  show (List.replicate n z.cps.toList).flatten.toArray.size = n * z.cps.size
  simp
theorem op_mulS : OpR X (binaryOp .Mult) (fun x y H Q => ∃ (z : Str) (n : Nat), x = .str z ∧ y = .int (n : Int) ∧ n ≤ 1000 ∧ z.length ≤ 1000 ∧ Q (.str (repS z n)) H) := by
  intro pins s σ H x y v u Q I rx ry h
  obtain ⟨z, n, rfl, rfl, hn, hz, q⟩ := h
  obtain ⟨t, rfl⟩ := rx
  obtain ⟨k, rfl⟩ := ry
  have hle : n * z.length ≤ 1000 * 1000 := Nat.mul_le_mul hn hz
  refine P.mul_str (by rw [Bool.or_eq_false_iff]; exact ⟨decide_eq_false (by omega), decide_eq_false (by omega)⟩) (fun h1 _ h2 => ?_) (fun _ _ => ?_) ?_
  · have h3 : ((z.length : Nat) : Int) ≤ 1000 := by omega
    have h4 : (2 ^ 63 - 1 : Int) / (n : Int) ≥ 1000 := by
      have : (1000 : Int) * (n : Int) ≤ 2 ^ 63 - 1 := by omega
      exact (Int.le_ediv_iff_mul_le (by omega)).mpr this
    omega
  · have : ¬ z.length * ((n : Int)).toNat > 16777216 := by
      rw [Int.toNat_natCast, Nat.mul_comm]
      omega
    unfold Builtin.Str.tooLong
    exact decide_eq_false this
  · have el : (repS z n).length ≤ sizeLine := by rw [repS_len, sizeLine_eq]; omega
    split
    · rename_i h1
      have e0 : n = 0 := by omega
      subst e0
      have e : repS z 0 = Str.empty := rfl
      rw [← e]
      exact ⟨by rw [e]; decide, .str (repS z 0), H, I.tok _, ⟨_, rfl⟩, q⟩
    · split
      · rename_i h1 h2
        have e : repS z n = z := by
          rcases Bool.or_eq_true_iff.mp h2 with h3 | h3
          · have e1 : n = 1 := by
              have := beq_iff_eq.mp h3
              omega
            subst e1
            unfold repS
            simp
          · have e1 : z.length = 0 := beq_iff_eq.mp h3
            have e2 : z.cps.toList = [] := by
              apply List.eq_nil_of_length_eq_zero
              rw [Array.length_toList]
              exact e1
            have e3 : z = ⟨#[]⟩ := by
              obtain ⟨c⟩ := z
              obtain ⟨c⟩ := c
              cases e2
              rfl
            rw [e3]
            unfold repS
            simp
        exact ⟨.str z, H, I, ⟨_, rfl⟩, e ▸ q⟩
      · rw [repS_fold, Int.toNat_natCast]
        exact ⟨el, .str (repS z n), H, I.tok _, ⟨_, rfl⟩, q⟩
/-! ### s[::-1] -/
def revS (z : Str) : Str := ⟨z.cps.toList.reverse.toArray⟩
def tRevS (te : TE) : TE := fun σ H Q => te σ H fun x H1 => ∃ z, x = .str z ∧ z.length ≤ sizeLine ∧ Q (.str (revS z)) H1
theorem rev_indices (n : Nat) : Builtin.Str.strSliceIndices none none (-1) n = (List.range n).reverse := by
  unfold Builtin.Str.strSliceIndices
  show sliceRange ((n : Int) - 1) (-1) (-1) = _
  rw [PySem.W.krv_sliceRange, PySem.W.krv_range]
theorem pe_revS {e : Expr} {te : TE} {k : Nat} {p1 p2 p3 pos : Pos} (he : PE X e te) : PE X (.Subscript e (.Slice none none (some (.UnaryOp .USub (.Constant (.int 1) k p1) p2)) p3) pos) (tRevS te) := by
  refine ⟨fun pins s σ H Q I h => ?_⟩
  refine Subscript_ (thn (he.run pins s σ H _ I h) fun v s1 ⟨x, H1, I1, r1, q1⟩ => ?_)
  obtain ⟨z, rfl, hz, q⟩ := q1
  obtain ⟨t, rfl⟩ := r1
  have hst : PO X (some (.UnaryOp .USub (.Constant (.int 1) k p1) p2)) (tPart (tUn (rU fun i => .int (-i)) (tC (.int 1)))) := po_some (pe_un un_neg pe_int)
  refine wpAny_Slice (thn (po_none.run pins s1 σ H1 (fun o H2 => o = none ∧ H2 = H1) I1 ⟨rfl, rfl⟩) fun vl s2 ⟨l, H2, I2, pl, el, e2⟩ => ?_)
  subst el e2
  refine thn (po_none.run pins s2 σ H2 (fun o H3 => o = none ∧ H3 = H2) I2 ⟨rfl, rfl⟩) fun vu s3 ⟨u, H3, I3, pu, eu, e3⟩ => ?_
  subst eu e3
  refine thn (hst.run pins s3 σ H3 (fun o H4 => o = some (-1) ∧ H4 = H3) I3 ⟨1, rfl, -1, rfl, rfl, rfl⟩) fun vs s4 ⟨o, H4, I4, ps, eo, e4⟩ => ?_
  subst eo e4
  obtain ⟨lo, rfl, e5⟩ := IsPart.raw pl
  obtain ⟨hi, rfl, e6⟩ := IsPart.raw pu
  obtain ⟨sp, rfl, e7⟩ := IsPart.raw ps
  have I5 : L2.Inv X pins σ H4 { s4 with heap := s4.heap.push { cls := .type "slice", data := .fields #[partValue lo, partValue hi, partValue sp] } } := I4.kept (t' := s4.toks) fun b ob q => Heap.get?_push_of_some _ q
  show wpAny (model X.prog X.w) X.A (subscriptTail e (.Slice none none (some (.UnaryOp .USub (.Constant (.int 1) k p1) p2)) p3) (.str z t) (.ref s4.heap.objs.size)) (EP X pins σ Q) X.xe { s4 with heap := s4.heap.push { cls := .type "slice", data := .fields #[partValue lo, partValue hi, partValue sp] } }
  refine tail_any (ops := [.ref s4.heap.objs.size]) (typeIs_str _ z t) (PySem.F.slot_str_getitem.lookup) ?_ (by with_unfolding_all rfl)
  refine wpAny_getItem_str_slice (l := lo) (u := hi) (st := sp) ⟨_, Heap.get?_push_size _ rfl, rfl, rfl⟩ (by rw [e7]; rfl) ?_
  have hp : ((slicePicked z lo hi sp).filterMap (z.cps[·]?)).toArray = z.cps.toList.reverse.toArray := by
    unfold slicePicked
    rw [e5, e6, e7]
    show ((Builtin.Str.strSliceIndices none none (-1) z.cps.size).filterMap (z.cps[·]?)).toArray = _
    rw [rev_indices, List.filterMap_reverse, PySem.W.krv_all]
  unfold sliceMade
  rw [hp, if_neg (by rw [e7]; simp)]
  have el : (revS z).length ≤ sizeLine := by
    have e : z.cps.toList.reverse.toArray.size = z.cps.size := by simp
    show z.cps.toList.reverse.toArray.size ≤ _
    rw [e]
    exact hz
  exact ⟨el, .str (revS z), H4, I5.tok _, ⟨_, rfl⟩, q⟩
/-! ### cls(..), cls a name of the def that holds a class -/
def tMakeL (i : Nat) (C : Addr) (sp : Sp) (E : XK) (t : TA) : TE := fun σ H Q => σ[i]? = some (some (.ref C)) ∧ tMake C sp [] E t σ H Q
theorem pe_makeL {CX : CXT} {k i : Nat} {C f : Addr} {fd : FuncData} {ps : List Str} {sp : Sp} {E : XK} {x : Str} {p : Pos} {e : Expr} {es : List Expr} {t : TA} (M : Mk X.K C f) (F : FnOk X.prog X.w X.K X.mg X.base CX k f fd ps sp) (hr : Room (k + 1) X.A) (hN : X.N[i]? = some x) (hv : Vis X.env.scope x)
    (hb : Binds X.K fd ps []) (hx : Passes CX X E) (ha : PA X (e :: es) t) (hdb : (x == ("__debug__" : Str)) = false := by decide) (hcd : (x == ("__classdict__" : Str)) = false := by decide)
    (he : starEach (e :: es) X.env = (false, eval e X.env) :: starEach es X.env := by rfl) (hpl : (backTo pos (starEach es X.env)).any (·.1) = false := by rfl) :
    PE X (.Call (.Name x p) (e :: es) [] pos) (tMakeL i C sp E t) := by
  refine ⟨fun pins s σ H Q I h => ?_⟩
  obtain ⟨hs, h⟩ := h
  refine wpAny_Call_Name_kw (thn ((pe_var (pos := p) (i := i) hN hv hdb hcd).run pins s σ H (fun v H1 => v = .ref C ∧ H1 = H) I ⟨.ref C, hs, rfl, rfl⟩) fun u s1 ⟨v, H1, I1, r1, q1⟩ => ?_)
  obtain ⟨rfl, rfl⟩ := q1
  cases r1
  refine PySem.W.callWith_K (h₀ := X.base) I1.ok.mod.kin M.kp (thn (ha.run pos pins s1 σ _ _ I1 h) fun us s2 ⟨vs, H2, I2, r, q⟩ => ⟨I2.kIn, ?_⟩) he hpl
  exact run_make M F hr hb .nil hx I2 r q
end
end Sh
set_option Elab.async false
set_option linter.all false
set_option maxRecDepth 100000
set_option maxHeartbeats 4000000
namespace Sh
open PySem PySem.Spec PyProof.Rows L2
/-! ### list(s), s a text -/
section
variable {prog : Program} {w : World} {A : Around} {E : Value → Shared → Prop} {s : Shared} {x : Str} {t : Tok}
theorem hint_str {Q : Bool → Shared → Prop} (h : Q false s) : wpAny (model prog w) A (Builtin.List.listLengthHint (.str x t)) Q E s := by
  have hT : s.TypeIs (.str x t) "str" := typeIs_str s x t
  unfold Builtin.List.listLengthHint; refine wpAny_bind (wpAny_specialOf hT PySem.F.slot_str_len.lookup ?_)
  generalize hid : ("str.__len__" : String) = i0
  wp_delta
  rw [show splitId i0 = some ("str", "__len__") from by subst hid; decide +kernel]
  subst hid
  refine wpAny_bind (wpAny_isInstance (T := "str") (b := true) hT (by rw [isSubtype_type]; kernel_rfl) ?_)
  refine wpAny_ite_split (fun z => absurd z (by decide)) (fun _ => wpAny_ite_split (fun _ => ?_) (fun z => absurd (by decide +kernel) z))
  exact wpAny_bind (wpAny_typeOf hT (wpAny_pure h))
/-- what is left of the signs, laid into the list at S -/
abbrev LaidS (x : Str) (S : Addr) (s : Shared) (R : Heap → Nat → Prop) : Prop := ∀ h' tk acc c, (∀ b o, b ≠ S → s.heap.get? b = some o → h'.get? b = some o) → h'.get? S = some { cls := .type "list", dict := none, data := .seq acc c, slots := #[] } → ItemsOf (SignAt x) acc x.cps.size → R h' tk
theorem extend_str {R : Result → Shared → Prop} (hh : A.handled = none) (S : Addr) (c0 : Nat) (hS : s.heap.get? S = some { cls := .type "list", data := .seq #[] c0 }) (hn : x.cps.size ≤ sizeLine)
    (hR : LaidS x S s fun h' tk => R (.ok (.ret .none)) { s with heap := h', toks := tk }) :
    wpAny (model prog w) A.in1 (Builtin.List.listExtendWith (.ref S) (.str x t) .none) (fun fin s' => match fin with | .done f => R (.ok f) s' | .again c' => c'.quiet = true ∧ codeAny (model prog w) A c' R s') (fun e s' => R (.error e) s') s := by
  have hSI : S ≠ s.heap.objs.size := Nat.ne_of_lt (Heap.lt_size hS)
  have hSf : S ∉ [s.heap.objs.size] := by simpa using hSI
  unfold Builtin.List.listExtendWith; refine wpAny_bind (wpAny_typeOf (T := "str") (typeIs_str s x t) ?_)
  have e1 : Builtin.List.listSameRef (.ref S) (.str x t) = false := rfl
  have e2 : (Value.type "str" == Value.type "list") = false := by decide
  have e3 : (Value.type "str" == Value.type "tuple") = false := by decide
  simp only [e1, e2, e3, Bool.or_false, Bool.false_eq_true, if_false]
  refine wpAny_bind (wpAny_pyIter_str fun oI St W st => ?_)
  have Wk := W A.in1 hh
  have key : ∀ (h : Heap) (c1 tk : Nat), St 0 h → (∀ b o, b ≠ S → s.heap.get? b = some o → h.get? b = some o) → h.get? S = some { cls := .type "list", data := .seq #[] c1 } →
      codeAny (model prog w) A (.builtin "list.extend.loop" ⟨[.ref S, .ref s.heap.objs.size, .none], []⟩) R { s with heap := h, toks := tk } := by
    intro h c1 tk hst hk hS1
    refine codeAny_extend_loopS Wk.toS hn S hSf .none x.cps.size 0 _ #[] c1 rfl (Nat.zero_le _) hst hS1 (ItemsOf.nil _) fun s2 acc c hm hS2 hacc => ?_
    rw [Moved.eq_with hm]
    refine hR s2.heap s2.toks acc c (fun b o hb q => hm.heap b o (fun z => ?_) (hk b o hb q)) hS2 hacc
    rcases List.mem_cons.mp z with z | z
    · exact hb z
    · exact absurd (Heap.lt_size q) (by rw [List.mem_singleton.mp z]; exact Nat.lt_irrefl _)
  have hS1 := Heap.get?_push_of_some oI hS
  refine wpAny_bind (wpAny_holding (hint_str ?_)); refine wpAny_ite_split (fun _ => ?_) (fun _ => wpAny_pure ⟨plainId_quiet PySem.F.plain_extend_loop _, key _ c0 _ st (fun b o _ q => Heap.get?_push_of_some _ q) hS1⟩)
  refine wpAny_bind (wpAny_rule (wpAny_bind ?_))
  show wpAny _ _ (updateSeq S (·.push .none) >>= fun _ => updateSeq S (·.pop)) _ _ _
  refine wpAny_bind (wpAny_updateSeq hS1 rfl ?_)
  have hS2 := Heap.get?_update_self (Obj.mapSeq (·.push Value.none)) hS1 rfl
  refine wpAny_updateSeq (hz := by seq_fits) hS2 rfl ?_
  have hS3 := Heap.get?_update_self (Obj.mapSeq (·.pop)) hS2 rfl
  have up : ∀ b o, b ≠ S → (s.heap.push oI).get? b = some o → (((s.heap.push oI).update S (Obj.mapSeq (·.push Value.none))).update S (Obj.mapSeq (·.pop))).get? b = some o := fun b o hb q =>
    (Heap.get?_update_other _ _ (Ne.symm hb)).trans ((Heap.get?_update_other _ _ (Ne.symm hb)).trans q)
  exact wpAny_pure ⟨plainId_quiet PySem.F.plain_extend_loop _, key _ _ _ (Wk.frame 0 _ _ st fun b hb o q => up b o (fun z => hSf (z ▸ hb)) q) (fun b o hb q => up b o hb (Heap.get?_push_of_some _ q)) hS3⟩
theorem init_str {R : Result → Shared → Prop} (hh : A.handled = none) (S : Addr) (hS : s.heap.get? S = some { cls := .type "list", data := .seq #[] }) (hn : x.cps.size ≤ sizeLine)
    (hR : LaidS x S s fun h' tk => R (.ok (.ret .none)) { s with heap := h', toks := tk }) :
    wpAny (model prog w) A.in1 (Builtin.«list.__init__» ⟨[.ref S, .str x t], []⟩) (fun fin s' => match fin with | .done f => R (.ok f) s' | .again c' => c'.quiet = true ∧ codeAny (model prog w) A c' R s') (fun e s' => R (.error e) s') s := by
  show wpAny _ _ (do let old ← Builtin.List.listItems (.ref S); Builtin.List.listUpdate (.ref S) (fun _ => #[]); letGo old.toList.reverse; Builtin.List.listExtendWith (.ref S) (.str x t) .none) _ _ s
  refine wpAny_bind ?_; unfold Builtin.List.listItems
  refine wpAny_bind (wpAny_seqItems hS rfl (wpAny_pure ?_))
  show wpAny _ _ (updateSeq S (fun _ => #[]) >>= fun _ => letGo (#[] : Array Value).toList.reverse >>= fun _ => Builtin.List.listExtendWith (.ref S) (.str x t) .none) _ _ s
  refine wpAny_bind (wpAny_updateSeq hS rfl (wpAny_bind (wpAny_letGo ?_)))
  refine extend_str hh S _ (Heap.get?_update_self (Obj.mapSeq (fun _ => (#[] : Array Value))) hS rfl) hn fun h' tk acc c hk hS' hacc => hR h' tk acc c (fun b o hb q => hk b o hb ?_) hS' hacc
  exact (Heap.get?_update_other _ _ (Ne.symm hb)).trans q
theorem call_list_text {Q : Value → Shared → Prop} (hh : A.handled = none) (hn : x.cps.size ≤ sizeLine)
    (hQ : ∀ h' tk acc c, (∀ b o, s.heap.get? b = some o → h'.get? b = some o) → h'.get? s.heap.objs.size = some { cls := .type "list", dict := none, data := .seq acc c, slots := #[] } → ItemsOf (SignAt x) acc x.cps.size → Q (.ref s.heap.objs.size) { s with heap := h', toks := tk }) :
    wpAny (model prog w) A (call (.type "list") [.str x t]) Q E s := by
  refine callType_codes (Q₁ := fun obj s₁ => obj = .ref s.heap.objs.size ∧ s₁ = { s with heap := s.heap.push { cls := .type "list", data := .seq #[] } }) PySem.F.called_list (PySem.F.typeCall_list_1 _) PySem.F.entry_list_init (code_list_new _ ⟨rfl, rfl⟩) fun obj s₁ z => ?_
  obtain ⟨rfl, rfl⟩ := z
  have hS : (s.heap.push { cls := .type "list", data := .seq #[] }).get? s.heap.objs.size = some { cls := .type "list", data := .seq #[] } := Heap.get?_push_size _ rfl
  exact ⟨⟨_, hS, rfl⟩, PySem.F.args_list_init_2 _ _, init_str (A := A.in1) hh _ hS hn fun h' tk acc c hk hS' hacc => ⟨rfl, hQ h' tk acc c (fun b o q => hk b o (Nat.ne_of_lt (Heap.lt_size q)) (Heap.get?_push_of_some _ q)) hS' hacc⟩⟩
end
def signs (z : Str) : List Str := z.cps.toList.map fun c => (⟨#[c]⟩ : Str)
theorem call_list_str {X : Cx} (hc : X.calm = true) : CallR X (.type "list") (fun xs H Q => ∃ z, xs = [.str z] ∧ z.length ≤ sizeLine ∧ ∀ p, H p = none → Q (.ref p) (upd H p (.lst ((signs z).map V.str)))) := by
  intro pins s σ H xs us Q I r h
  obtain ⟨z, rfl, hz, q⟩ := h
  obtain ⟨u, rfl, t, rfl⟩ := vals1 r
  have el : ((signs z).map V.str).length = z.cps.size := by unfold signs; simp
  refine call_list_text (I.ok.hd hc) hz fun h' tk acc c keep hS hacc => ?_
  refine ⟨.ref s.heap.objs.size, upd H s.heap.objs.size (.lst ((signs z).map V.str)), I.laid keep (Nat.le_refl _) (show ObjOk X.prog X.w _ _ _ (.lst ((signs z).map V.str)) from ⟨by rw [el]; exact hz, acc.toList, c, ?_, by rw [Array.toArray_toList]; exact hS⟩), rfl, q _ (I.hok.fresh (Nat.le_refl _))⟩
  refine vals_of_at (by rw [el, Array.length_toList]; exact hacc.1.symm) fun j x y h1 h2 => ?_
  obtain ⟨cc, uu, hcc, rfl⟩ := hacc.2 j y (by rw [← Array.getElem?_toList]; exact h2)
  have e2 : ((signs z).map V.str)[j]? = some (V.str ⟨#[cc]⟩) := by
    unfold signs
    rw [List.getElem?_map, List.getElem?_map, Array.getElem?_toList, hcc]
    rfl
  rw [e2] at h1
  cases h1
  exact ⟨uu, rfl⟩
end Sh
set_option Elab.async false
set_option linter.all false
set_option maxRecDepth 100000
set_option maxHeartbeats 4000000
namespace ShL
theorem tab_uniq {α β : Type} {T : List (α × β)} (h : (T.map (·.1)).Nodup) {P : α} {q : β} (m : (P, q) ∈ T) : ∀ p ∈ T, p.1 = P → p.2 = q := by
  induction T with
  | nil => exact fun p hp => nomatch hp
  | cons a T ih =>
    rw [List.map_cons, List.nodup_cons] at h
    intro p hp e
    rcases List.mem_cons.mp hp with rfl | hp
    · rcases List.mem_cons.mp m with z | z
      · rw [← z]
      · exact absurd (List.mem_map.mpr ⟨_, z, e.symm⟩) h.1
    · rcases List.mem_cons.mp m with z | z
      · rw [← z] at h
        exact absurd (List.mem_map.mpr ⟨_, hp, e⟩) h.1
      · exact ih h.2 z p hp e
end ShL
namespace Sh
open PySem PySem.Spec PyProof.Rows L2 LamX
section
variable {P : Program} {w : World} {K : PySem.W.Frag} {mg : Str → Option Value} {base : Heap}
/-- as Fun.ok, the def's code object told -/
theorem okT {x qual : Str} {st : Stmt} {f : Addr} {fd : FuncData} {N ps : List Str} {k : Nat} {sp : Sp} (F : Fun K x qual st f fd) (S : FnScope N ps (defScope st)) (len : ∀ vs H Q E, sp vs H Q E → vs.length = ps.length)
    (hbody : ∀ (cdv : Value) (A : Around) (outer : List Env) (s : Shared) (H : Hp) (vs : List V) (Q : VK) (E : XK), fd.code = cdv → Room k (A.deeper (envOfC qual (defScope st) s.heap.objs.size f cdv)) → sp vs H Q E →
      ∃ t, PSs (cxOf CX0 P w K mg base N qual (defScope st) f cdv A outer s H E).nox (defBody st) t ∧ t { nx := fun _ H' => Q .non H', rt := Q } (start N vs) H) : FnOk P w K mg base CX0 (k + 1) f fd ps sp := by
  obtain ⟨oc, od, kV, doc, pm, an, cdv, ct, osl, rfl, lk, hc⟩ := F.ex
  refine fn_of lk hc S len fun A outer s H vs Q E hr hsp => ?_
  obtain ⟨t, h, q⟩ := hbody cdv A outer s H vs Q E rfl hr hsp
  exact ⟨t, h.nox, q⟩
theorem fnR_of {CX : CXT} {k : Nat} {f : Addr} {fd : FuncData} {ps : List Str} {sp : Sp} (F : FnOk P w K mg base CX k f fd ps sp) (hb : Binds K fd ps []) : FnR P w K mg base CX k f sp := by
  have q := F.raw hb .nil
  exact q.imp fun vs H Q E h => by rw [List.append_nil]; exact h
end
/-- all but the tables is kept, and the tables still tell what they told -/
def Sm (T : List (Addr × Str)) (H H' : Hp) : Prop := ExtN H H' ∧ Tabs T H'
section
variable {T : List (Addr × Str)} {H H1 H2 : Hp}
theorem Sm.refl (t : Tabs T H) : Sm T H H := ⟨ExtN.refl H, t⟩
theorem Sm.trans (a : Sm T H H1) (b : Sm T H1 H2) : Sm T H H2 := ⟨a.1.trans b.1, b.2⟩
theorem Sm.of (t : Tabs T H) (s : Same H H1) : Sm T H H1 := ⟨ExtN.of s, t.ext s⟩
theorem Sm.ext (a : Sm T H H1) (s : Same H1 H2) : Sm T H H2 := a.trans (Sm.of a.2 s)
theorem Sm.new (a : Sm T H H1) {p : Addr} {o : HO} (h : H1 p = none) : Sm T H (upd H1 p o) := a.ext (same_upd h)
theorem Sm.get (a : Sm T H H1) {b : Addr} {o : HO} (h : H b = some o) (n : ∀ ps, o ≠ .tbl ps := by intro ps z; cases z) : H1 b = some o := a.1 b o h n
theorem extN_seqT {K : PySem.W.Frag} {a : Addr} {xs : List V} (e : ExtN H H1) (h : SqT K H a xs) : SqT K H1 a xs := by
  rcases h with (h | ⟨o, h⟩) | h
  · exact .inl (.inl (e _ _ h fun ps z => by cases z))
  · exact .inl (.inr ⟨o, e _ _ h fun ps z => by cases z⟩)
  · exact .inr h
/-- what a pen's draw leaves -/
theorem Tabs.kp {d : Addr} {kvs : List (Key × V)} (t : Tabs T H) (hd : H d = some (.dK kvs)) (s : Kp d H H1) : Tabs T H1 := fun p hp => by
  obtain ⟨ps, h1, h2, h3⟩ := t p hp
  have ne : ∀ {b : Addr} {o : HO}, H b = some o → o ≠ .dK kvs → H1 b = some o := fun {b o} q n => s b o q fun z => n (by rw [z, hd] at q; exact (Option.some.inj q).symm)
  refine ⟨ps, ne h1 (by intro z; cases z), h2, fun pos cv hc => ?_⟩
  obtain ⟨c, e1, e2⟩ := h3 pos cv hc
  exact ⟨c, e1, ne e2 (by intro z; unfold CodeO at z; cases z)⟩
end
end Sh
set_option Elab.async false
set_option linter.all false
set_option maxRecDepth 100000
set_option maxHeartbeats 4000000
namespace Sh
open PySem PySem.Spec PyProof.Rows L2
section
variable {X : Cx}
/-- name = {..} on one line, the name a local -/
theorem ps_setDc {i : Nat} {y : Str} {py : Pos} {kx vx tg iter : Expr} {ifs : List Expr} {scope : Scope} {own : List (Str × Nat)} {pos spos : Pos} {wi : TI} {g : TG} {tt : TT} {tk tv : TE} (hc : X.calm = true) (hN : X.N.Nodup) (hy : X.N[i]? = some y) (hyl : X.env.scope.names.lookup y = some .local)
    (hsw : swapsWith (.DictComp kx vx [⟨tg, iter, ifs, 0⟩] scope pos) (some (.Name y py)) spos.line X.env = pure true) (hi : PI X tg iter wi) (ok : BlkOk X.N X.env.scope scope own)
    (hg : ∀ (s : Shared) (H : Hp) (C : Addr) (cl : List (Str × Addr)) (fp : List Addr), PG (X.blk s H scope (compEnvC scope cl C X.env) fp) tg g)
    (ht : ∀ (s : Shared) (H : Hp) (C : Addr) (cl : List (Str × Addr)) (fp : List Addr), PTs (X.blk s H scope (compEnvC scope cl C X.env) fp) ifs tt) (hk : ∀ (s : Shared) (H : Hp) (C : Addr) (cl : List (Str × Addr)) (fp : List Addr), PE (X.blk s H scope (compEnvC scope cl C X.env) fp) kx tk)
    (he : ∀ (s : Shared) (H : Hp) (C : Addr) (cl : List (Str × Addr)) (fp : List Addr), PE (X.blk s H scope (compEnvC scope cl C X.env) fp) vx tv) (hs : ∀ z, foldedSetIterable iter X.env z = pure z := by intro _; rfl) :
    PS X (.Assign [.Name y py] (.DictComp kx vx [⟨tg, iter, ifs, 0⟩] scope pos) spos) (tAsg (tDc wi g tt tk tv (own.map (·.2))) (gName i)) := by
  refine ⟨fun pins s σ H D I h => ?_⟩
  rw [exec_Assign_Name_used _ _ _ _ hsw]
  refine wpAny_bind (wpAny_standAt (wpAny_bind ?_))
  show wpAny _ X.A (do let _ ← comprehension (.DictComp kx vx [⟨tg, iter, ifs, 0⟩] scope pos) scope X.env (firstIterPos [⟨tg, iter, ifs, 0⟩] pos) newDict false (eval iter X.env) (some (assign (.Name y py) X.env))) _ _ s
  have h : tDc wi g tt tk tv (own.map (·.2)) σ H (fun x H1 => gName i x σ H1 D.nx) := h
  refine wpAny_bind (thn (dc_core (Qf := fun _ s' => SP X pins D .next s') hc hN I hi ok hg ht hk he hs h fun L C s' m H' I' q hn f => ?_) fun _ s' hq => wpAny_pure (wpAny_pure hq))
  show wpAny _ _ (assign (.Name y py) X.env (.ref L)) _ _ _
  refine wpAny_assign_Name (store_ok2 (v := V.ref L) I' hN hy (.inl hyl) rfl (fun s2 I2 ⟨a, sb, ha⟩ => ?_) (.inr hyl))
  obtain ⟨f0, f1, f2, f3, f4, f5⟩ := f
  have haC : C ≠ a := ha.elim (fun z => z ▸ f1) fun z e => f4 y a z e.symm
  exact ⟨m, hn.sameBut sb haC, fun h3 sb3 => ⟨_, H', I2.turned (t' := s2.toks) (fun b o hb e => (sb3.2 b hb).trans e) f0 f1 f3 f4 f5, q⟩⟩
theorem sw_trueD {kx vx : Expr} {gs : List Comprehension} {scope : Scope} {pos py : Pos} {y : Str} {l : Nat} {env : Env} (hk : env.scope.kind = .function) (hy : env.scope.names.lookup y = some .local) (hl : (py.line == pos.line) = true)
    (hn : (scope.names.any fun (n, k) => n == y && (k == .local || k == .cell)) = false) : swapsWith (.DictComp kx vx gs scope pos) (some (.Name y py)) l env = pure true := by
  have ky : env.kindOf y = some .local := hy
  have hb : env.blockKind = .function := by unfold Env.blockKind; rw [hk]; rfl
  unfold swapsWith; simp only [hb, ky, hn, Expr.pos, hl]; rfl
end
/-- over a list that stays -/
theorem dc_list {K : PySem.W.Frag} {a : Addr} {xs : List V} {g : TG} {tt : TT} {tk tv : TE} {vs : List Nat} {σ : L2.St} {H1 : Hp} {D : Addr} {Qd : Hp → Prop} (Pv : Nat → Hp → Prop) (h0 : Pv 0 (upd H1 D (.dK []))) (hl : ∀ i H, i ≤ xs.length → Pv i H → SqL K H a xs)
    (hs : ∀ i x H, xs[i]? = some x → Pv i H → g x (wipe σ vs) H fun σ2 H2 => wipe σ2 vs = wipe σ vs ∧ tt σ2 H2 fun b H3 => if b = true then tk σ2 H3 fun y H4 => tv σ2 H4 fun z H5 => ∃ kvs k, y = kV k ∧ H5 D = some (.dK kvs) ∧ kvs.length < sizeLine ∧ Pv (i + 1) (upd H5 D (.dK (putK kvs k z))) else Pv (i + 1) H3)
    (hd : ∀ H, Pv xs.length H → Qd H) :
    ∃ W : Nat → Nat → Hp → Prop, (∃ m, W 0 m (upd H1 D (.dK []))) ∧ ∀ i m H, W i m H → ((Itl K a).stop i H ∧ Qd H) ∨ ((Itl K a).go i H ∧ ∃ Nx : Hp → Prop, (∀ H', Nx H' → ∃ m', m' < m ∧ W (i + 1) m' H') ∧ ∀ x H', (Itl K a).yld i H x H' → g x (wipe σ vs) H' fun σ2 H2 => wipe σ2 vs = wipe σ vs ∧ tt σ2 H2 fun b H3 =>
        if b = true then tk σ2 H3 fun y H4 => tv σ2 H4 fun z H5 => ∃ kvs k, y = kV k ∧ H5 D = some (.dK kvs) ∧ kvs.length < sizeLine ∧ Nx (upd H5 D (.dK (putK kvs k z))) else Nx H3) := by
  refine ⟨fun i m H => m = xs.length - i ∧ i ≤ xs.length ∧ Pv i H, ⟨xs.length, by simp, Nat.zero_le _, h0⟩, ?_⟩
  rintro i m H ⟨rfl, hi, p⟩
  by_cases hlt : i < xs.length
  · refine .inr ⟨⟨xs, xs[i], hl i H hi p, by simp [hlt]⟩, Pv (i + 1), fun H' p' => ⟨xs.length - (i + 1), by omega, rfl, hlt, p'⟩, fun x H' y => ?_⟩
    obtain ⟨rfl, y⟩ := y
    exact hs i x _ (y xs (hl i _ hi p)) p
  · obtain rfl : i = xs.length := by omega
    exact .inl ⟨⟨xs, hl _ H hi p, Nat.le_refl _⟩, hd H p⟩
end Sh
set_option Elab.async false
set_option linter.all false
set_option maxRecDepth 100000
set_option maxHeartbeats 4000000
namespace Sh
open PySem PySem.Spec PyProof.Rows L2
theorem ht_line {o : Expr} {m : Str} {apos pos : Pos} {es : List Expr} {env : Env} (hb : attributeBase o m env (eval o env) = eval o env) (hf : methodCallForm (es.length + ([] : List Keyword).length) (backTo pos (starEach es env)) (backToKw pos (keywordEach [] env)) = true) (hl : (apos.endLine == pos.line) = true) :
    eval (.Call (.Attribute o m apos) es [] pos) env = (do
      let ov ← eval o env
      standAt apos.atName
      let (f, first) ← holding [ov] (getMethod ov m (plainOf o env))
      callWith pos f first (backTo pos (starEach es env)) (backToKw pos (keywordEach [] env))) := by
  have e : ∀ ov, methodCall o m apos pos env ov (es.length + ([] : List Keyword).length) (backTo pos (starEach es env)) (backToKw pos (keywordEach [] env)) = (do
      let (f, first) ← holding [ov] (getMethod ov m (plainOf o env))
      callWith pos f first (backTo pos (starEach es env)) (backToKw pos (keywordEach [] env))) := fun ov => mcall_line hf hl
  have e0 : eval (.Call (.Attribute o m apos) es [] pos) env = (attributeBase o m env (eval o env) >>= fun ov => standAt apos.atName >>= fun _ => methodCall o m apos pos env ov (es.length + ([] : List Keyword).length) (backTo pos (starEach es env)) (backToKw pos (keywordEach [] env))) := by
    first
      | rfl
      | (rw [eval])
      | (unfold eval; rfl)
  rw [e0, hb]
  simp only [e]
end Sh
set_option Elab.async false
set_option linter.all false
set_option maxRecDepth 100000
set_option maxHeartbeats 4000000
namespace Sh
open PySem PySem.Spec PyProof.Rows L2
/-- an expression with two readings: either may be taken -/
def tAlt (t u : TE) : TE := fun σ H Q => t σ H Q ∨ u σ H Q
theorem pe_alt {X : Cx} {e : Expr} {t u : TE} (h : PE X e t) (k : PE X e u) : PE X e (tAlt t u) :=
  ⟨fun pins s σ H Q I q => q.elim (h.run pins s σ H Q I) (k.run pins s σ H Q I)⟩
/-- two promises of one def -/
theorem fn_alt {P : Program} {w : World} {K : PySem.W.Frag} {mg : Str → Option Value} {base : Heap} {CX : CXT} {k : Nat} {f : Addr} {fd : FuncData} {ps : List Str} {sp sp' : Sp}
    (F : FnOk P w K mg base CX k f fd ps sp) (F' : FnOk P w K mg base CX k f fd ps sp') : FnOk P w K mg base CX k f fd ps (fun vs H Q E => sp vs H Q E ∨ sp' vs H Q E) :=
  ⟨fun vs H Q E h => h.elim (F.len vs H Q E) (F'.len vs H Q E),
   fun A outer s H args us vs Q E hr e0 hb hv h => h.elim (F.run A outer s H args us vs Q E hr e0 hb hv) (F'.run A outer s H args us vs Q E hr e0 hb hv)⟩
end Sh
set_option Elab.async false
set_option linter.all false
set_option maxRecDepth 100000
set_option maxHeartbeats 4000000
namespace Sh
open PySem PySem.Spec PyProof.Rows L2
/-- the same values: flat ones, or the same objects -/
def plainV : V → Bool
  | .ref _ => true
  | x => flatB x
theorem eqAt_plain {A : Around} {s : Shared} {x : V} {u v : Value} (f : plainV x = true) (r1 : RelV x u) (r2 : RelV x v) : SeqAt.EqAt A s u v true := by
  cases x with
  | ref a =>
    cases (show u = Value.ref a from r1)
    cases (show v = Value.ref a from r2)
    exact SeqAt.EqAt.same _
  | _ => exact eqAt_same r1 r2 f
/-- (a, ..) == (a, ..), item for item the same -/
def rSameT (K : PySem.W.Frag) (b : Bool) : R2 := fun x y H Q => ∃ p q xs, x = .ref p ∧ y = .ref q ∧ SqT K H p xs ∧ SqT K H q xs ∧ xs.all plainV = true ∧ Q (.bl b) H
section
variable {X : Cx}
theorem items_same {A : Around} {s : Shared} {xs : List V} {us ws : List Value} (f : xs.all plainV = true) (r1 : Vals xs us) (r2 : Vals xs ws) : ∀ j (h1 : j < us.toArray.size) (h2 : j < ws.toArray.size), SeqAt.EqAt A s us.toArray[j] ws.toArray[j] ((fun _ => true) j) := by
  intro j h1 h2
  have h1' : j < us.length := by simpa using h1
  have h2' : j < ws.length := by simpa using h2
  have k : j < xs.length := by rw [r1.length]; exact h1'
  obtain ⟨u, hu, ru⟩ := r1.get (List.getElem?_eq_getElem k)
  obtain ⟨v, hv, rv⟩ := r2.get (List.getElem?_eq_getElem k)
  rw [List.getElem?_eq_getElem h1'] at hu
  rw [List.getElem?_eq_getElem h2'] at hv
  have e1 : us.toArray[j] = u := by rw [← Option.some.inj hu]; simp
  have e2 : ws.toArray[j] = v := by rw [← Option.some.inj hv]; simp
  rw [e1, e2]
  exact eqAt_plain (List.all_eq_true.mp f _ (List.getElem_mem k)) ru rv
theorem op_neSameT (hu : X.A.units < cLine) : OpR X (compareOp .NotEq) (rSameT X.K false) := by
  intro pins s σ H x y v u Q I rx ry h
  obtain ⟨p, q, xs, rfl, rfl, hp, hq, f, z⟩ := h
  cases rx
  cases ry
  obtain ⟨its, r, e, _⟩ := I.tuple hp
  obtain ⟨its2, r2, e2, _⟩ := I.tuple hq
  have key := SeqAt.RcNeAt.tuples (A := X.A) e e2 hu (items_same f r r2)
  have hl : its.toArray.size = its2.toArray.size := by rw [List.size_toArray, List.size_toArray, ← r.length, ← r2.length]
  have e3 : (!((List.range (min its.toArray.size its2.toArray.size)).all (fun _ => true) && its.toArray.size == its2.toArray.size)) = false := by
    rw [show ((List.range (min its.toArray.size its2.toArray.size)).all fun _ => true) = true from List.all_eq_true.mpr fun _ _ => rfl, hl]
    simp
  rw [e3] at key
  exact key X.prog X.w X.xe _ ⟨.bl false, H, I, rfl, z⟩
theorem op_eqSameT (hu : X.A.units < cLine) : OpR X (compareOp .Eq) (rSameT X.K true) := by
  intro pins s σ H x y v u Q I rx ry h
  obtain ⟨p, q, xs, rfl, rfl, hp, hq, f, z⟩ := h
  cases rx
  cases ry
  obtain ⟨its, r, e, _⟩ := I.tuple hp
  obtain ⟨its2, r2, e2, _⟩ := I.tuple hq
  have key := SeqAt.RcAt.tuples (A := X.A) e e2 hu (items_same f r r2)
  have hl : its.toArray.size = its2.toArray.size := by rw [List.size_toArray, List.size_toArray, ← r.length, ← r2.length]
  have e3 : ((List.range (min its.toArray.size its2.toArray.size)).all (fun _ => true) && its.toArray.size == its2.toArray.size) = true := by
    rw [show ((List.range (min its.toArray.size its2.toArray.size)).all fun _ => true) = true from List.all_eq_true.mpr fun _ _ => rfl, hl]
    simp
  rw [e3] at key
  exact key X.prog X.w X.xe _ ⟨.bl true, H, I, rfl, z⟩
end
end Sh
set_option Elab.async false
set_option linter.all false
set_option maxRecDepth 100000
set_option maxHeartbeats 4000000
namespace Sh
open PySem PySem.Spec PySem.W PyProof.Rows L2 NdefX
theorem ec_of {K : Frag} {p : He.Defn} {x q : Str} {st : Stmt} {fd : FuncData} (F : Fun K x q st (He.fAd K p) fd) : fd.code = .ref (He.codeOf K p) := by
  obtain ⟨oc, od, kV, doc, pm, an, cdv, ct, osl, rfl, lk, hcd⟩ := F.ex
  obtain ⟨c, rfl⟩ := He.codeIn_ref hcd
  rw [He.codeOf_eq lk rfl]
/-! ### a head by facts: own exceptions, and tables of defs that make lambdas -/
/-- what classmethods hold -/
def recsG (g : Addr → Option Obj) (as : List Addr) : List Addr := as.flatMap fun a => match g a with
  | some ⟨.type t, _, .fields vs, _⟩ => if t = "classmethod" then vs.toList.filterMap (fun v => match v with | .ref b => some b | _ => none) else []
  | some ⟨.type t, _, .seq vs _, _⟩ => if t = "classmethod" then vs.toList.filterMap (fun v => match v with | .ref b => some b | _ => none) else []
  | _ => []
def asXT (g : Addr → Option Obj) (n : Nat) : List Addr :=
  let a1 := He.asD g n
  let a2 := He.growD g (a1 ++ recsG g a1)
  cStatics :: (a2 ++ cellsG g a2)
/-- a classmethod's def: held by its record -/
structure CD where
  cls : Str
  name : Str
  qual : Str
  st : Stmt
def CD.rcd (K : Frag) (d : CD) : Addr := He.ma K (He.ga K d.cls) d.name
def CD.fn (K : Frag) (d : CD) : Addr := match recIn K (d.rcd K) "classmethod" with
  | some (.ref g :: _) => g
  | _ => 0
def CD.val (d : CD) : XV := some (d.name, d.qual, defArgs d.st, .stmts (defBody d.st), defScope d.st, mainGlobals, [], .none, builtinsNs)
def CD.ok (K : Frag) (d : CD) : Bool := (match recIn K (d.rcd K) "classmethod" with
  | some (.ref _ :: _) => true
  | _ => false) && (fnIn K (d.fn K) && (keepIn K (.ref (d.fn K)) && (readsIn K (He.ga K d.cls) (.type "type") && (decide (specialIn K (.ref (He.ga K d.cls)) "__getattribute__" = some (some (.builtin "type.__getattribute__"))) && ((match findCls K (.ref (He.ga K d.cls)) (.type "type") d.name with
  | some (.get a b c e) => decide (a = .builtin "classmethod.__get__") && (decide (b = .ref (d.rcd K)) && (decide (c = .none) && decide (e = .ref (He.ga K d.cls))))
  | _ => false) && (match K.lookup (d.fn K) with
  | some ⟨_, _, .func fd, _⟩ => codeIn K fd.code d.qual
  | _ => false))))))
theorem CD.read {K : Frag} {d : CD} (h : d.ok K = true) : ClX.CRead K (He.ga K d.cls) (.type "type") := by
  obtain ⟨_, h⟩ := andB h
  obtain ⟨_, h⟩ := andB h
  obtain ⟨_, h⟩ := andB h
  obtain ⟨h1, h⟩ := andB h
  obtain ⟨h2, _⟩ := andB h
  exact ⟨h1, of_decide_eq_true h2⟩
theorem CD.met {K : Frag} {d : CD} (h : d.ok K = true) : ClX.CMet K (He.ga K d.cls) (.type "type") d.name (d.rcd K) (d.fn K) := by
  obtain ⟨h0, h⟩ := andB h
  obtain ⟨hf, h⟩ := andB h
  obtain ⟨_, h⟩ := andB h
  obtain ⟨_, h⟩ := andB h
  obtain ⟨_, h⟩ := andB h
  obtain ⟨h3, _⟩ := andB h
  refine ⟨?_, ?_, hf⟩
  · cases q : findCls K (.ref (He.ga K d.cls)) (.type "type") d.name with
    | none => rw [q] at h3; cases h3
    | some r =>
      rw [q] at h3
      cases r with
      | get a b c e =>
        obtain ⟨e1, h3⟩ := andB h3
        obtain ⟨e2, h3⟩ := andB h3
        obtain ⟨e3, e4⟩ := andB h3
        rw [of_decide_eq_true e1, of_decide_eq_true e2, of_decide_eq_true e3, of_decide_eq_true e4]
      | _ => cases h3
  · unfold CD.fn
    cases q : recIn K (d.rcd K) "classmethod" with
    | none => rw [q] at h0; cases h0
    | some l =>
      rw [q] at h0
      match l, h0 with
      | .ref g :: rest, _ => exact ⟨rest, rfl⟩
theorem CD.fun_ {K : Frag} {d : CD} (h : d.ok K = true) (e : xvOf K (d.fn K) = d.val) : ∃ fd, Fun K d.name d.qual d.st (d.fn K) fd := by
  obtain ⟨_, h⟩ := andB h
  obtain ⟨_, h⟩ := andB h
  obtain ⟨hk, h⟩ := andB h
  obtain ⟨_, h⟩ := andB h
  obtain ⟨_, h⟩ := andB h
  obtain ⟨_, h4⟩ := andB h
  unfold xvOf at e
  cases q : K.lookup (d.fn K) with
  | none => rw [q] at h4; cases h4
  | some o =>
    obtain ⟨oc, od, dt, osl⟩ := o
    rw [q] at h4 e
    cases dt with
    | func fd =>
      obtain ⟨n1, n2, n3, n4, n5, n6, n7, n8, n9, n10, n11, n12, n13, n14, n15⟩ := fd
      have e2 : (some (n1, n2, n3, n4, n5, n6, n7.map (·.1), n8, n15) : XV) = (some (d.name, d.qual, defArgs d.st, .stmts (defBody d.st), defScope d.st, mainGlobals, [], .none, builtinsNs) : XV) := e
      simp only [Option.some.injEq, Prod.mk.injEq] at e2
      obtain ⟨h1, h2, h3, h4', h5, h6, h7, h8, h9⟩ := e2
      cases n7 with
      | cons p r => cases h7
      | nil =>
        subst h1 h2 h3 h4' h5 h6 h8 h9
        exact ⟨_, ⟨_, _, _, _, _, _, _, _, _, rfl, q, h4⟩, hk⟩
    | _ => cases h4
abbrev AlXT : Type := AlX × Bool × List XV
structure SaysXT (fa : List He.Fa) (fn : List He.DefD) (ex : List (Frag → Bool)) (xs : List XD) (tf : List He.Defn) (cm : List CD) (h : Heap) (K : Frag) : Prop where
  s : SaysX fa fn ex xs K
  hd : ∀ p ∈ tf, codeHdIn K (He.cT K p).1 (He.cT K p).2 = true
  out : ∀ p ∈ tf, K.lookup (He.cT K p).2 = none
  empty : ∀ p ∈ tf, h.get? (He.cT K p).2 = some { cls := .none, data := .fields #[] }
  cmo : ∀ (i : Nat) {d : CD}, cm[i]? = some d → d.ok K = true
  cmv : ∀ (i : Nat) {d : CD}, cm[i]? = some d → xvOf K (d.fn K) = d.val
def obsXT (fa : List He.Fa) (fn : List He.DefD) (ex : List (Frag → Bool)) (xs : List XD) (tf : List He.Defn) (cm : List CD) (n : Nat) (g : Addr → Option Obj) : AlXT :=
  (obsX fa fn ex xs (He.frT g (asXT g n)), He.tabsB g tf (He.frT g (asXT g n)) && cm.all (fun d => d.ok (He.frT g (asXT g n))), cm.map fun d => xvOf (He.frT g (asXT g n)) (d.fn (He.frT g (asXT g n))))
def valXT (fn : List He.DefD) (xs : List XD) (cm : List CD) : AlXT := (valX fn xs, true, cm.map CD.val)
theorem saysXT_of {n : Nat} {fa : List He.Fa} {fn : List He.DefD} {ex : List (Frag → Bool)} {xs : List XD} {tf : List He.Defn} {cm : List CD} {h : Heap} (e : obsXT fa fn ex xs tf cm n h.get? = valXT fn xs cm) : SaysXT fa fn ex xs tf cm h (He.frT h.get? (asXT h.get? n)) := by
  have e1 : obsX fa fn ex xs (He.frT h.get? (asXT h.get? n)) = valX fn xs := congrArg (fun z : AlXT => z.1) e
  have e0 : (He.tabsB h.get? tf (He.frT h.get? (asXT h.get? n)) && cm.all (fun d => d.ok (He.frT h.get? (asXT h.get? n)))) = true := congrArg (fun z : AlXT => z.2.1) e
  have e3 : cm.map (fun d => xvOf (He.frT h.get? (asXT h.get? n)) (d.fn (He.frT h.get? (asXT h.get? n)))) = cm.map CD.val := congrArg (fun z : AlXT => z.2.2) e
  obtain ⟨e2, e4⟩ := andB e0
  have key : ∀ p ∈ tf, codeHdIn (He.frT h.get? (asXT h.get? n)) (He.cT (He.frT h.get? (asXT h.get? n)) p).1 (He.cT (He.frT h.get? (asXT h.get? n)) p).2 = true ∧ ∃ o, h.get? (He.cT (He.frT h.get? (asXT h.get? n)) p).2 = some o ∧ He.emptyTab o = true := fun p hp => by
    obtain ⟨h3, h4⟩ := andB (List.all_eq_true.mp e2 p hp)
    refine ⟨h3, ?_⟩
    cases q : h.get? (He.cT (He.frT h.get? (asXT h.get? n)) p).2 with
    | none =>
      rw [q] at h4
      cases h4
    | some o =>
      rw [q] at h4
      exact ⟨o, rfl, h4⟩
  refine ⟨says_of e1, fun p hp => (key p hp).1, fun p hp => ?_, fun p hp => ?_, fun i d hd => List.all_eq_true.mp e4 d (List.mem_of_getElem? hd), fun i d hd => ?_⟩
  · obtain ⟨_, o, q, z⟩ := key p hp
    exact He.frT_none q z
  · obtain ⟨_, o, q, z⟩ := key p hp
    rw [q, He.emptyTab_eq z]
  · have e5 : (cm.map fun d => xvOf (He.frT h.get? (asXT h.get? n)) (d.fn (He.frT h.get? (asXT h.get? n))))[i]? = (cm.map CD.val)[i]? := by rw [e3]
    rw [List.getElem?_map, List.getElem?_map, hd] at e5
    exact Option.some.inj e5
def hookXT (n : Nat) (fa : List He.Fa) (fn : List He.DefD) (ex : List (Frag → Bool)) (xs : List XD) (tf : List He.Defn) (cm : List CD) : PySem.W.Hook where
  α := AlXT
  obs := fun s => obsXT fa fn ex xs tf cm n s.heap.get?
  val := fun _ => valXT fn xs cm
  says := fun _ h => ∃ K : Frag, K.In h ∧ SaysXT fa fn ex xs tf cm h K
  of := fun _ _ e => ⟨_, He.frT_in, saysXT_of e⟩
  keeps := fun _ _ _ ⟨K, hK, c⟩ k => ⟨K, Frag.In.keeps hK k, ⟨c.s, c.hd, c.out, fun p hp => k _ _ (c.empty p hp), c.cmo, c.cmv⟩⟩
theorem obsXT_eq {n : Nat} {fa : List He.Fa} {fn : List He.DefD} {ex : List (Frag → Bool)} {xs : List XD} {tf : List He.Defn} {cm : List CD} {g : Addr → Option Obj} {s : Shared} (h : ∀ a, g a = s.heap.get? a) : obsXT fa fn ex xs tf cm n g = (hookXT n fa fn ex xs tf cm).obs s := by
  have e : g = s.heap.get? := funext h
  rw [e] <;> rfl
end Sh
set_option Elab.async false
set_option linter.all false
set_option maxRecDepth 100000
set_option maxHeartbeats 4000000
namespace Sh
open PySem PySem.Spec PyProof.Rows L2
/-! ### list comprehensions of any number of clauses -/
/-- what a clause asks: its source, its target, its tests, the slots of its own and all later targets -/
structure ClR where
  wi : TI
  g : TG
  tt : TT
  vs : List Nat
/-- the clauses that are left, inside; Nx is to be reached behind them -/
def tIn (D : Addr) (te : TE) : List ClR → L2.St → Hp → (Hp → Prop) → Prop
  | [], σ, H, Nx => te σ H fun y H1 => ∃ acc, H1 D = some (.lst acc) ∧ acc.length < sizeLine ∧ Nx (upd H1 D (.lst (acc ++ [y])))
  | c :: r, σ, H, Nx => c.wi σ H fun J H1 => ∃ W : Nat → Nat → Hp → Prop, (∃ m, W 0 m H1) ∧ ∀ i m H, W i m H →
      (J.stop i H ∧ Nx H) ∨ (J.go i H ∧ ∃ N : Hp → Prop, (∀ H', N H' → ∃ m', m' < m ∧ W (i + 1) m' H') ∧ ∀ x H', J.yld i H x H' → c.g x (wipe σ c.vs) H' fun σ2 H2 => wipe σ2 c.vs = wipe σ c.vs ∧ c.tt σ2 H2 fun b H3 => if b = true then tIn D te r σ2 H3 N else N H3)
/-- the whole: the new list stands at D -/
def tLcN (c : ClR) (r : List ClR) (te : TE) : TE := fun σ H Q => c.wi σ H fun J H1 => ∀ D, H1 D = none → ∃ W : Nat → Nat → Hp → Prop, (∃ m, W 0 m (upd H1 D (.lst []))) ∧ ∀ i m H, W i m H →
      (J.stop i H ∧ Q (.ref D) H) ∨ (J.go i H ∧ ∃ N : Hp → Prop, (∀ H', N H' → ∃ m', m' < m ∧ W (i + 1) m' H') ∧ ∀ x H', J.yld i H x H' → c.g x (wipe σ c.vs) H' fun σ2 H2 => wipe σ2 c.vs = wipe σ c.vs ∧ c.tt σ2 H2 fun b H3 => if b = true then tIn D te r σ2 H3 N else N H3)
/-- the clauses behind the first, in the block's context -/
inductive ClOk (B : Cx) : List Comprehension → List ClR → List Nat → Prop
  | nil {vs : List Nat} : ClOk B [] [] vs
  | cons {tg iter : Expr} {ifs : List Expr} {wi : TI} {g : TG} {tt : TT} {vs vs1 : List Nat} {gs : List Comprehension} {cs : List ClR} (hi : PI B tg iter wi) (hg : PG B tg g) (ht : PTs B ifs tt)
      (hs : ∀ x, foldedSetIterable iter B.env x = pure x) (hv : ∀ i ∈ vs1, i ∈ vs) (r : ClOk B gs cs vs1) : ClOk B (⟨tg, iter, ifs, 0⟩ :: gs) (⟨wi, g, tt, vs1⟩ :: cs) vs
section
variable {prog : Program} {w : World} {A : Around} {s : Shared} {elt : Expr} {gens : List Comprehension} {scope : Scope} {pos : Pos} {it acc : Value} {env : Env}
abbrev NB (prog : Program) (w : World) (A : Around) (env : Env) (R : Result → Shared → Prop) : Value → Shared → Prop := notedBy (model prog w) A env fun e s' => R (.error e) s'
/-- one turn of the loop of clause k: next, store, tests, then what is inside -/
theorem turn_last {k : Nat} {t i : Expr} {ifs : List Expr} {R : Result → Shared → Prop} {V : Fin → Shared → Prop} (h : gens[k]? = some ⟨t, i, ifs, 0⟩) (h' : gens[k + 1]? = none)
    (turn : wpAny (model prog w) A (pyNext it) (fun r s₁ => match r with
      | none => V (.done .next) s₁
      | some v => wpAny (model prog w) A (letOwnedTupleGo t it v) (fun _ s₂ => wpAny (model prog w) A (assign t env v) (fun _ s₃ =>
          wpAny (model prog w) A (forIn ifs true fun c r => if r = true then do let ok ← isTrue c env (eval c env); pure (ForInStep.yield ok) else pure (ForInStep.yield r)) (fun ok s₄ =>
            if ok = true then wpAny (model prog w) A (eval elt env) (fun x s₅ => wpAny (model prog w) A (call (.builtin "list.append") [acc, x]) (fun _ s₆ => V (.again (.compLoop (.ListComp elt gens scope pos) k it acc env)) s₆) (NB prog w A env R) s₅) (NB prog w A env R) s₄
            else V (.again (.compLoop (.ListComp elt gens scope pos) k it acc env)) s₄) (NB prog w A env R) s₃) (NB prog w A env R) s₂) (NB prog w A env R) s₁) (NB prog w A env R) s) :
    wpAny (model prog w) A (compTurn (.ListComp elt gens scope pos) k it acc env) V (NB prog w A env R) s := by
  unfold compTurn
  simp only [h, h']
  refine wpAny_bind (wpAny_standAt (wpAny_bind (wpAny_mono (show wpAny (model prog w) A (pyNext it) _ _ s from turn) (fun r s₁ h₁ => ?_) fun _ _ h' => h')))
  cases r with
  | none => exact wpAny_pure h₁
  | some v =>
    refine wpAny_bind (wpAny_mono h₁ (fun _ s₂ h₂ => ?_) fun _ _ h' => h')
    refine wpAny_bind (wpAny_mono h₂ (fun _ s₃ h₃ => wpAny_bind (wpAny_mono h₃ (fun ok s₄ h₄ => ?_) fun _ _ h' => h')) fun _ _ h' => h')
    cases ok with
    | false => exact wpAny_pure h₄
    | true =>
      exact wpAny_bind (wpAny_bind (wpAny_mono h₄ (fun x s₅ h₅ => wpAny_bind (wpAny_mono h₅ (fun _ s₆ h₆ => wpAny_pure (wpAny_pure h₆)) fun _ _ h' => h')) fun _ _ h' => h'))
theorem turn_more {k : Nat} {t i : Expr} {ifs : List Expr} {R : Result → Shared → Prop} {V : Fin → Shared → Prop} {t1 i1 : Expr} {ifs1 : List Expr} (h : gens[k]? = some ⟨t, i, ifs, 0⟩) (h' : gens[k + 1]? = some ⟨t1, i1, ifs1, 0⟩) (hs : ∀ x, foldedSetIterable i1 env x = pure x)
    (turn : wpAny (model prog w) A (pyNext it) (fun r s₁ => match r with
      | none => V (.done .next) s₁
      | some v => wpAny (model prog w) A (letOwnedTupleGo t it v) (fun _ s₂ => wpAny (model prog w) A (assign t env v) (fun _ s₃ =>
          wpAny (model prog w) A (forIn ifs true fun c r => if r = true then do let ok ← isTrue c env (eval c env); pure (ForInStep.yield ok) else pure (ForInStep.yield r)) (fun ok s₄ =>
            if ok = true then wpAny (model prog w) A (eval i1 env) (fun x s₅ => wpAny (model prog w) A (pyIter x) (fun it1 s₆ => codeAny (model prog w) A (.compStart (.ListComp elt gens scope pos) (k + 1) it1 acc env) (fun r s' => match r with | .ok _ => V (.again (.compLoop (.ListComp elt gens scope pos) k it acc env)) s' | .error _ => False) s₆) (NB prog w A env R) s₅) (NB prog w A env R) s₄
            else V (.again (.compLoop (.ListComp elt gens scope pos) k it acc env)) s₄) (NB prog w A env R) s₃) (NB prog w A env R) s₂) (NB prog w A env R) s₁) (NB prog w A env R) s) :
    wpAny (model prog w) A (compTurn (.ListComp elt gens scope pos) k it acc env) V (NB prog w A env R) s := by
  unfold compTurn
  simp only [h, h']
  refine wpAny_bind (wpAny_standAt (wpAny_bind (wpAny_mono (show wpAny (model prog w) A (pyNext it) _ _ s from turn) (fun r s₁ h₁ => ?_) fun _ _ h' => h')))
  cases r with
  | none => exact wpAny_pure h₁
  | some v =>
    refine wpAny_bind (wpAny_mono h₁ (fun _ s₂ h₂ => ?_) fun _ _ h' => h')
    refine wpAny_bind (wpAny_mono h₂ (fun _ s₃ h₃ => wpAny_bind (wpAny_mono h₃ (fun ok s₄ h₄ => ?_) fun _ _ h' => h')) fun _ _ h' => h')
    cases ok with
    | false => exact wpAny_pure h₄
    | true =>
      refine wpAny_bind (wpAny_mono h₄ (fun x s₅ h₅ => ?_) fun _ _ h' => h')
      refine wpAny_bind (wpAny_standAt (wpAny_bind (wpAny_of_eq (hs x) (wpAny_bind (wpAny_holding (wpAny_mono h₅ (fun it1 s₆ h₆ => ?_) fun _ _ h' => h'))))))
      refine wpAny_bind (wpAny_runOwn ?_)
      rw [Around.mark_none]
      refine codeAny_mono h₆ fun r s' hr => ?_
      cases r with
      | error e => exact hr.elim
      | ok f =>
        first
          | exact wpAny_pure hr
          | exact wpAny_bind (wpAny_pure (wpAny_pure hr))
/-- a later clause's start -/
theorem startN {k : Nat} {c : Comprehension} {R : Result → Shared → Prop} (h : gens[k]? = some c) (hc : c.is_async = 0) (h0 : codeAny (model prog w) A (.compLoop (.ListComp elt gens scope pos) k it acc env) R s)
    (h1 : wpAny (model prog w) A (pyIter it) (fun it' s' => codeAny (model prog w) A (.compLoop (.ListComp elt gens scope pos) k it' acc env) R s') (NB prog w A env R) s) :
    codeAny (model prog w) A (.compStart (.ListComp elt gens scope pos) k it acc env) R s := by
  refine codeAny_of_tree ?_
  show wpAny _ _ ((compStart (.ListComp elt gens scope pos) k it acc env).onRaise (fun x => do noteFrame x env; standAt theWindowsPlace)) _ _ s
  refine wpAny_notedAt ?_
  have hg : (clausesOf (.ListComp elt gens scope pos))[k]? = some c := h
  unfold compStart
  simp only [hg, Option.elim, hc]
  refine wpAny_bind (wpAny_askSetting (wpAny_ite ?_))
  split
  · first
      | exact wpAny_bind (wpAny_pure (wpAny_pure (And.intro rfl h0)))
      | exact wpAny_pure (And.intro rfl h0)
  · have h2 : wpAny (model prog w) A (pyIter it >>= fun x => again (.compLoop (.ListComp elt gens scope pos) k x acc env)) (fun fin s' => match fin with
        | .done f => R (.ok f) s'
        | .again c' => c'.quiet = true ∧ codeAny (model prog w) A c' R s') (NB prog w A env R) s :=
      wpAny_bind (wpAny_mono h1 (fun it' s' h' => wpAny_pure (And.intro rfl h')) fun _ _ x => x)
    first
      | exact wpAny_bind (wpAny_rule (wpAny_bind (wpAny_standAt h2)))
      | exact wpAny_bind (wpAny_rule (wpAny_bind (wpAny_bind (wpAny_standAt (wpAny_pure h2)))))
end
section
variable {B : Cx} {elt : Expr} {te : TE} {gens : List Comprehension} {scope : Scope} {pos : Pos} {D : Addr}
theorem drop_ix {α : Type} {xs ys : List α} {x : α} {k : Nat} (h : xs.drop k = x :: ys) : xs[k]? = some x ∧ xs.drop (k + 1) = ys := by
  refine ⟨?_, ?_⟩
  · have := List.getElem?_drop (xs := xs) (i := k) (j := 0)
    rw [h] at this
    simpa using this.symm
  · rw [← List.drop_drop, h]
    rfl
theorem drop_no {α : Type} {xs : List α} {k : Nat} (h : xs.drop k = []) : xs[k]? = none := by
  rw [List.getElem?_eq_none_iff]
  exact List.drop_eq_nil_iff.mp h
theorem thnX {α : Type} {t : Sem α} {Q Q' : α → Shared → Prop} {M : Model} {A : Around} {E E' : Value → Shared → Prop} {s : Shared} (hE : E = fun _ _ => False) (h : wpAny M A t Q E s) (hQ : ∀ a s, Q a s → Q' a s) : wpAny M A t Q' E' s := by
  subst hE
  exact thnF h hQ
/-- the loop of clause k -/
theorem levelN (hc : B.calm = true) (hx : B.xe = fun _ _ => False) (pe : PE B elt te) {gs : List Comprehension} {cs : List ClR} {vs : List Nat} (C : ClOk B gs cs vs) : ∀ {k : Nat} {tg iter : Expr} {ifs : List Expr} {g : TG} {tt : TT} {J : It} {fp : List Addr} {it : Addr} {tn : Nat → Heap → Prop}
    {pins : List (Addr × Obj)} {σ : L2.St} {H : Hp} {s : Shared} {W : Nat → Nat → Hp → Prop} {m0 : Nat} {R : Result → Shared → Prop} {Nx : Hp → Prop} (hk : gens.drop k = ⟨tg, iter, ifs, 0⟩ :: gs) (pg : PG B tg g) (pt : PTs B ifs tt) (T : Turn B.prog B.w B.K tg J fp it tn)
    (I : L2.Inv B pins (wipe σ vs) H s) (st : tn 0 s.heap) (fpok : ∀ {H' : Hp} {s' : Shared}, L2.Inv B pins (wipe σ vs) H' s' → (∀ b ∈ fp, H' b = none) → ∀ b ∈ fp, FpOk B pins H' b) (fn : ∀ b ∈ fp, H b = none) (w0 : W 0 m0 H)
    (turn : ∀ i m H, W i m H → (J.stop i H ∧ Nx H) ∨ (J.go i H ∧ ∃ N : Hp → Prop, (∀ H', N H' → ∃ m', m' < m ∧ W (i + 1) m' H') ∧ ∀ x H', J.yld i H x H' → g x (wipe σ vs) H' fun σ2 H2 => wipe σ2 vs = wipe σ vs ∧ tt σ2 H2 fun b H3 => if b = true then tIn D te cs σ2 H3 N else N H3))
    (fin : ∀ s' H', L2.Inv B pins (wipe σ vs) H' s' → Nx H' → R (.ok .next) s'), codeAny (model B.prog B.w) B.A (.compLoop (.ListComp elt gens scope pos) k (.ref it) (.ref D) B.env) R s := by
  induction C with
  | nil =>
    intro k tg iter ifs g tt J fp it tn pins σ H s W m0 R Nx hk pg pt T I st fpok fn w0 turn fin
    rename_i vs
    obtain ⟨h1, h2⟩ := drop_ix hk
    refine codeAny_loop rfl (fun n s' => ∃ i H', L2.Inv B pins (wipe σ vs) H' s' ∧ tn i s'.heap ∧ (∀ b ∈ fp, H' b = none) ∧ W i n H') (fun n s5 hI => ?_) m0 ⟨0, H, I, st, fn, w0⟩
    obtain ⟨i, H5, I5, st5, n5, w5⟩ := hI
    show wpAny _ B.A ((compTurn (.ListComp elt gens scope pos) k (.ref it) (.ref D) B.env).onRaise (fun x => do noteFrame x B.env; theTreesLotGoes x)) _ _ s5
    refine wpAny_noted (turn_last (R := R) h1 (drop_no h2) ?_)
    rcases turn i n H5 w5 with ⟨stop, qq⟩ | ⟨go, N, hN, step⟩
    · refine thnF (T.done B rfl rfl rfl hc i pins s5 _ H5 (fun _ _ => False) I5 (fpok I5 n5) st5 stop) fun r s6 ⟨hr, I6⟩ => ?_
      subst hr
      exact fin s6 H5 I6 qq
    · refine thnF (T.item B rfl rfl rfl hc i pins s5 _ H5 (fun _ _ => False) I5 (fpok I5 n5) st5 go) fun r s6 ⟨u, hr, h6⟩ => ?_
      subst hr
      refine thnF h6 fun _ s7 ⟨x, H7, I7, r7, y7, st7, n7⟩ => ?_
      have I7' := I7.pinned (fpok I7 n7) (T.obj _ _ st7)
      refine thnX hx (pg.run _ s7 _ H7 x u _ I7' r7 (step x H7 y7)) fun _ s8 ⟨σ8, H8, I8, hw8, q8⟩ => ?_
      refine thnX hx (pt.run _ s8 σ8 H8 _ I8 q8) fun b s9 ⟨H9, I9, q9⟩ => ?_
      have back : ∀ {s' : Shared} {H' : Hp}, L2.Inv B (pins ++ pinsAt fp s7.heap) σ8 H' s' → N H' → ∃ m, m < n ∧ ∃ i H', L2.Inv B pins (wipe σ vs) H' s' ∧ tn i s'.heap ∧ (∀ b ∈ fp, H' b = none) ∧ W i m H' := fun {s' H'} I' nx => by
        obtain ⟨m', hm, w'⟩ := hN H' nx
        have pin : ∀ b ∈ fp, ∀ o, s7.heap.get? b = some o → s'.heap.get? b = some o ∧ H' b = none := fun b hb o e =>
          let z := I'.pin (b, o) (List.mem_append_right _ (List.mem_append_right _ (mem_pinsAt hb e)))
          ⟨z.1, z.2.1⟩
        refine ⟨m', hm, i + 1, H', I'.unpinned.weak (by rw [← hw8, wipe_length]) (fun j v e => by rw [← hw8] at e; exact (wipe_some e).1), T.keep _ _ _ st7 fun b hb o e => (pin b hb o e).1, fun b hb => ?_, w'⟩
        obtain ⟨o, e, _⟩ := T.obj _ _ st7 b hb
        exact (pin b hb o e).2
      cases b with
      | false =>
        simp only [Bool.false_eq_true, if_false] at q9 ⊢
        exact ⟨by first | trivial | rfl, back I9 q9⟩
      | true =>
        simp only [if_true] at q9 ⊢
        refine thnX hx (pe.run _ s9 σ8 H9 _ I9 q9) fun z s10 ⟨yv, H10, I10, r10, acc, hD, hz, nx⟩ => ?_
        exact app_ok (X := B) I10 hD hz r10 fun s11 I11 => ⟨by first | trivial | rfl, back I11 nx⟩
  | @cons tg1 iter1 ifs1 wi1 g1 tt1 vs vs1 gs cs hi1 hg1 ht1 hs1 hv1 r1 ih =>
    intro k tg iter ifs g tt J fp it tn pins σ H s W m0 R Nx hk pg pt T I st fpok fn w0 turn fin
    obtain ⟨h1, h2⟩ := drop_ix hk
    obtain ⟨h3, _⟩ := drop_ix h2
    refine codeAny_loop rfl (fun n s' => ∃ i H', L2.Inv B pins (wipe σ vs) H' s' ∧ tn i s'.heap ∧ (∀ b ∈ fp, H' b = none) ∧ W i n H') (fun n s5 hI => ?_) m0 ⟨0, H, I, st, fn, w0⟩
    obtain ⟨i, H5, I5, st5, n5, w5⟩ := hI
    show wpAny _ B.A ((compTurn (.ListComp elt gens scope pos) k (.ref it) (.ref D) B.env).onRaise (fun x => do noteFrame x B.env; theTreesLotGoes x)) _ _ s5
    refine wpAny_noted (turn_more (R := R) h1 h3 hs1 ?_)
    rcases turn i n H5 w5 with ⟨stop, qq⟩ | ⟨go, N, hN, step⟩
    · refine thnF (T.done B rfl rfl rfl hc i pins s5 _ H5 (fun _ _ => False) I5 (fpok I5 n5) st5 stop) fun r s6 ⟨hr, I6⟩ => ?_
      subst hr
      exact fin s6 H5 I6 qq
    · refine thnF (T.item B rfl rfl rfl hc i pins s5 _ H5 (fun _ _ => False) I5 (fpok I5 n5) st5 go) fun r s6 ⟨u, hr, h6⟩ => ?_
      subst hr
      refine thnF h6 fun _ s7 ⟨x, H7, I7, r7, y7, st7, n7⟩ => ?_
      have I7' := I7.pinned (fpok I7 n7) (T.obj _ _ st7)
      refine thnX hx (pg.run _ s7 _ H7 x u _ I7' r7 (step x H7 y7)) fun _ s8 ⟨σ8, H8, I8, hw8, q8⟩ => ?_
      refine thnX hx (pt.run _ s8 σ8 H8 _ I8 q8) fun b s9 ⟨H9, I9, q9⟩ => ?_
      have hl8 : (wipe σ vs).length = σ8.length := by rw [← hw8, wipe_length]
      have back : ∀ {σ9 : L2.St} {s' : Shared} {H' : Hp}, L2.Inv B (pins ++ pinsAt fp s7.heap) σ9 H' s' → σ8.length = σ9.length → (∀ (j : Nat) v, (wipe σ vs)[j]? = some (some v) → σ9[j]? = some (some v)) → N H' →
          ∃ m, m < n ∧ ∃ i H', L2.Inv B pins (wipe σ vs) H' s' ∧ tn i s'.heap ∧ (∀ b ∈ fp, H' b = none) ∧ W i m H' := fun {σ9 s' H'} I' hl hkp nx => by
        obtain ⟨m', hm, w'⟩ := hN H' nx
        have pin : ∀ b ∈ fp, ∀ o, s7.heap.get? b = some o → s'.heap.get? b = some o ∧ H' b = none := fun b hb o e =>
          let z := I'.pin (b, o) (List.mem_append_right _ (List.mem_append_right _ (mem_pinsAt hb e)))
          ⟨z.1, z.2.1⟩
        refine ⟨m', hm, i + 1, H', I'.unpinned.weak (hl8.trans hl) hkp, T.keep _ _ _ st7 fun b hb o e => (pin b hb o e).1, fun b hb => ?_, w'⟩
        obtain ⟨o, e, _⟩ := T.obj _ _ st7 b hb
        exact (pin b hb o e).2
      have k8 : ∀ (j : Nat) v, (wipe σ vs)[j]? = some (some v) → σ8[j]? = some (some v) := fun j v e => by
        rw [← hw8] at e
        exact (wipe_some e).1
      have k9 : ∀ (j : Nat) v, (wipe σ vs)[j]? = some (some v) → (wipe σ8 vs1)[j]? = some (some v) := fun j v e => by
        rw [← hw8] at e
        obtain ⟨e1, e2⟩ := wipe_some e
        rw [wipe_out fun z => e2 (hv1 j z)]
        exact e1
      cases b with
      | false =>
        simp only [Bool.false_eq_true, if_false] at q9 ⊢
        exact ⟨by first | trivial | rfl, back I9 rfl k8 q9⟩
      | true =>
        simp only [if_true] at q9 ⊢
        refine thnX hx (hi1.run _ s9 σ8 H9 _ I9 q9) fun xv s10 hx0 => thnX hx hx0 fun itv s11 h11 => ?_
        obtain ⟨it1, fp1, tn1, J1, H11, e1, I11, T1, st11, f11, W1, ⟨m1, w1⟩, turn1⟩ := h11
        subst e1
        have lp : codeAny (model B.prog B.w) B.A (.compLoop (.ListComp elt gens scope pos) (k + 1) (.ref it1) (.ref D) B.env) (fun r s' => match r with
            | .ok _ => ∃ m, m < n ∧ ∃ i H', L2.Inv B pins (wipe σ vs) H' s' ∧ tn i s'.heap ∧ (∀ b ∈ fp, H' b = none) ∧ W i m H'
            | .error _ => False) s11 :=
          ih h2 hg1 ht1 T1 (I11.weak (wipe_length _ _) fun j v e => (wipe_some e).1) st11 (fun {H' s'} I' hn b hb => ⟨hn b hb, (f11 b hb).2⟩) (fun b hb => (f11 b hb).1) w1 turn1 fun s' H' I' nx => back I' (wipe_length σ8 vs1).symm k9 nx
        exact codeAny_mono (startN h3 rfl lp (T1.self B.A 0 _ _ _ st11 lp)) fun r s' hr => by
          cases r with
          | ok f => exact ⟨by first | trivial | rfl, hr⟩
          | error e => exact hr.elim
end
section
variable {X : Cx} {elt tg iter : Expr} {ifs : List Expr} {gs : List Comprehension} {cs : List ClR} {scope : Scope} {own : List (Str × Nat)} {pos : Pos} {wi : TI} {g : TG} {tt : TT} {te : TE}
abbrev blkC (X : Cx) (scope : Scope) (s : Shared) (H : Hp) (C : Addr) (cl : List (Str × Addr)) (fp : List Addr) : Cx := X.blk s H scope (compEnvC scope cl C X.env) fp
theorem lcN_core {pins : List (Addr × Obj)} {s : Shared} {σ : L2.St} {H : Hp} {Q : VK} {pos' : Pos} {use : Option (Value → Sem Unit)} {Qf : Value → Shared → Prop}
    (hc : X.calm = true) (hN : X.N.Nodup) (I : L2.Inv X pins σ H s) (hi : PI X tg iter wi) (ok : BlkOk X.N X.env.scope scope own)
    (hg : ∀ s H C cl fp, PG (blkC X scope s H C cl fp) tg g) (ht : ∀ s H C cl fp, PTs (blkC X scope s H C cl fp) ifs tt) (hC : ∀ s H C cl fp, ClOk (blkC X scope s H C cl fp) gs cs (own.map (·.2))) (he : ∀ s H C cl fp, PE (blkC X scope s H C cl fp) elt te)
    (hs : ∀ x, foldedSetIterable iter X.env x = pure x) (h : tLcN ⟨wi, g, tt, own.map (·.2)⟩ cs te σ H Q)
    (hRR : ∀ D C s' m H', L2.Inv X pins σ H' s' → Q (.ref D) H' → s'.heap.Ns C m → FpOk X pins H' C → compPost (model X.prog X.w) X.A X.xe use Qf (.ref D) C (.ok .next) s') :
    wpAny (model X.prog X.w) X.A (comprehension (.ListComp elt (⟨tg, iter, ifs, 0⟩ :: gs) scope pos) scope X.env pos' (newList []) false (eval iter X.env) use) Qf X.xe s := by
  have fr : ∀ y ∈ scope.names, y.2 = .free → ∃ c, X.env.cells.lookup y.1 = some c := fun y hy e => (ok.free y hy e).elim (fun k => I.ok.has _ (.inl k)) fun k => I.ok.has _ (.inr k)
  refine wpAny_comprehension_free (use := use) rfl hs (closure_ok fr) ok.kind (fun y hy e => by rw [ok.uniq y hy, e]) (thn (hi.run pins s σ H _ I h) fun xv s1 hx => thn hx fun itv s2 ⟨it, fp, tn, J, H2, e, I2, T, st2, f2, q⟩ => ?_)
  subst e
  refine wpAny_newObj_type (newEnv_comp ?_) (by show 0 ≤ sizeLine; decide)
  have hDn : H2 s2.heap.objs.size = none := I2.hok.fresh (Nat.le_refl _)
  obtain ⟨W, ⟨m0, w0⟩, turn⟩ := q _ hDn
  -- behind the making of the list
  generalize hs3 : ({ s2 with heap := s2.heap.push { cls := .type "list", data := .seq ([] : List Value).toArray } } : Shared) = s3
  have h3 : s3.heap = s2.heap.push { cls := .type "list", data := .seq ([] : List Value).toArray } := by rw [← hs3]
  have I3 : L2.Inv X pins σ (upd H2 s2.heap.objs.size (.lst [])) s3 := by
    rw [← hs3]
    exact I2.laid (t' := s2.toks) (fun b o e => Heap.get?_push_of_some _ e) (Nat.le_refl _) ⟨Nat.zero_le _, [], 0, .nil, Heap.get?_push_size _ rfl⟩
  have lt2 : ∀ b ∈ fp, b < s2.heap.objs.size := fun b hb => let ⟨o, e, _⟩ := T.obj _ _ st2 b hb; Heap.lt_size e
  have f3 : ∀ b ∈ fp, FpOk X pins (upd H2 s2.heap.objs.size (.lst [])) b ∧ b < s3.heap.objs.size := fun b hb => by
    refine ⟨⟨?_, (f2 b hb).2⟩, by rw [h3, Heap.size_push]; exact Nat.lt_succ_of_lt (lt2 b hb)⟩
    rw [upd_ne (Nat.ne_of_lt (lt2 b hb))]
    exact (f2 b hb).1
  have st3 : tn 0 s3.heap := T.keep _ _ _ st2 fun b _ o e => by rw [h3]; exact Heap.get?_push_of_some _ e
  have I4 := block_start I3 ok hN f3
  generalize hcl : cellsFrom (s3.heap.objs.size + 1) scope.names (cloFrom X.env.cells scope.names []) = cl at I4
  generalize hH3 : upd H2 s2.heap.objs.size (.lst []) = H3 at I3 I4 w0 f3
  have st4 : tn 0 (pushCells (s3.heap.push { cls := .type "dict", data := .dict #[] }) scope.names) := T.keep _ _ _ st3 fun b _ o e => pushCells_keeps _ _ _ _ (Heap.get?_push_of_some _ e)
  show codeAny _ _ (.compStart (.ListComp elt (⟨tg, iter, ifs, 0⟩ :: gs) scope pos) 0 (.ref it) (.ref s2.heap.objs.size) (compEnvC scope cl s3.heap.objs.size X.env)) (compPost (model X.prog X.w) X.A X.xe use Qf (.ref s2.heap.objs.size) s3.heap.objs.size) { s3 with heap := pushCells (s3.heap.push { cls := .type "dict", data := .dict #[] }) scope.names }
  have loop := levelN (B := blkC X scope s3 H3 s3.heap.objs.size cl fp) (gens := ⟨tg, iter, ifs, 0⟩ :: gs) (scope := scope) (pos := pos) (D := s2.heap.objs.size) (k := 0) (R := compPost (model X.prog X.w) X.A X.xe use Qf (.ref s2.heap.objs.size) s3.heap.objs.size) (Nx := fun H' => Q (.ref s2.heap.objs.size) H') hc rfl (he s3 H3 s3.heap.objs.size cl fp) (hC s3 H3 s3.heap.objs.size cl fp) rfl
    (hg s3 H3 s3.heap.objs.size cl fp) (ht s3 H3 s3.heap.objs.size cl fp) T I4 st4 (fun {H' s'} I' hn b hb => ⟨hn b hb, (I'.ok.exf b hb).1, I'.ok.exfs b hb, .inl hb, fun x c e => (I'.ok.exf b hb).2 x c e, fun p hp => absurd (show p ∈ ([] : List (Addr × Obj)) ++ [] from hp) (by simp)⟩)
    (fun b hb => (f3 b hb).1.1) w0 turn fun s' H' I' qq => ?_
  · exact codeAny_compStart_list loop (T.self X.A 0 _ _ _ st4 loop)
  · have J7 : L2.Inv X pins σ H' s' := I3.call' (ch := fp) I'.os I'.base I'.hok I'.bare fun b hb => ⟨(f3 b hb).1.2.2.2.1, (f3 b hb).1.2.1, (f3 b hb).1.2.2.2.2.1, (f3 b hb).1.2.2.2.2.2⟩
    obtain ⟨m, hn, _⟩ := I'.loc
    exact hRR _ _ s' m H' J7 qq (show s'.heap.Ns s3.heap.objs.size m from hn) (I3.fpOk (Nat.le_refl _) (show H' s3.heap.objs.size = none from I'.free))
/-- as a value -/
theorem pe_lcN (hc : X.calm = true) (hN : X.N.Nodup) (hi : PI X tg iter wi) (ok : BlkOk X.N X.env.scope scope own)
    (hg : ∀ s H C cl fp, PG (blkC X scope s H C cl fp) tg g) (ht : ∀ s H C cl fp, PTs (blkC X scope s H C cl fp) ifs tt) (hC : ∀ s H C cl fp, ClOk (blkC X scope s H C cl fp) gs cs (own.map (·.2))) (he : ∀ s H C cl fp, PE (blkC X scope s H C cl fp) elt te)
    (hs : ∀ x, foldedSetIterable iter X.env x = pure x := by intro _; rfl) : PE X (.ListComp elt (⟨tg, iter, ifs, 0⟩ :: gs) scope pos) (tLcN ⟨wi, g, tt, own.map (·.2)⟩ cs te) := by
  refine ⟨fun pins s σ H Q I h => ?_⟩
  rw [eval_ListComp]
  refine lcN_core hc hN I hi ok hg ht hC he hs h fun D C s' m H' I' q hn f => ⟨m, hn, fun h'' sb => ?_⟩
  exact ⟨.ref D, H', I'.turned (t' := s'.toks) (fun b o hb e => (sb.2 b hb).trans e) f.1 f.2.1 f.2.2.2.1 f.2.2.2.2.1 f.2.2.2.2.2, rfl, q⟩
/-- stored in a name -/
theorem ps_setLcN {i : Nat} {y : Str} {py spos : Pos} (hc : X.calm = true) (hN : X.N.Nodup) (hy : X.N[i]? = some y) (hyl : X.env.scope.names.lookup y = some .local) (hsw : swapsWith (.ListComp elt (⟨tg, iter, ifs, 0⟩ :: gs) scope pos) (some (.Name y py)) spos.line X.env = pure true)
    (hi : PI X tg iter wi) (ok : BlkOk X.N X.env.scope scope own)
    (hg : ∀ s H C cl fp, PG (blkC X scope s H C cl fp) tg g) (ht : ∀ s H C cl fp, PTs (blkC X scope s H C cl fp) ifs tt) (hC : ∀ s H C cl fp, ClOk (blkC X scope s H C cl fp) gs cs (own.map (·.2))) (he : ∀ s H C cl fp, PE (blkC X scope s H C cl fp) elt te)
    (hs : ∀ x, foldedSetIterable iter X.env x = pure x := by intro _; rfl) : PS X (.Assign [.Name y py] (.ListComp elt (⟨tg, iter, ifs, 0⟩ :: gs) scope pos) spos) (tAsg (tLcN ⟨wi, g, tt, own.map (·.2)⟩ cs te) (gName i)) := by
  refine ⟨fun pins s σ H D I h => ?_⟩
  rw [exec_Assign_Name_used _ _ _ _ hsw]
  refine wpAny_bind (wpAny_standAt (wpAny_bind ?_))
  have h' : tLcN ⟨wi, g, tt, own.map (·.2)⟩ cs te σ H (fun x H1 => gName i x σ H1 D.nx) := h
  refine wpAny_bind (thn (lcN_core (Qf := fun _ s' => SP X pins D .next s') (use := some (assign (.Name y py) X.env)) hc hN I hi ok hg ht hC he hs h' fun L C s' m H' I' q hn f => ?_) fun _ s' hq => wpAny_pure (wpAny_pure hq))
  show wpAny _ _ (assign (.Name y py) X.env (.ref L)) _ _ _
  obtain ⟨f0, f1, f2, f3, f4, f5⟩ := f
  refine wpAny_assign_Name (store_ok2 (v := V.ref L) I' hN hy (.inl hyl) rfl (fun s2 I2 ⟨a, sb, ha⟩ => ?_) (.inr hyl))
  have ne : C ≠ a := by
    rcases ha with z | z
    · rw [z]; exact f1
    · exact fun e => f4 y a z e.symm
  exact ⟨m, hn.sameBut sb ne, fun h3 sb3 => ⟨_, H', I2.turned (t' := s2.toks) (fun b o hb e => (sb3.2 b hb).trans e) f0 f1 f3 f4 f5, q⟩⟩
end
end Sh
set_option Elab.async false
set_option linter.all false
set_option maxRecDepth 100000
set_option maxHeartbeats 4000000
namespace Sh
open PySem PySem.Spec PyProof.Rows L2
/-! ### try: .. except X as e: .. except Y as e: .. (the same name e, slot i) -/
/-- behind a suite: the name is gone -/
def gone (i : Nat) (D : Ends) : Ends := { nx := fun σ' H' => D.nx (σ'.set i none) H', rt := D.rt, bk := fun σ' H' => D.bk (σ'.set i none) H', ct := fun σ' H' => D.ct (σ'.set i none) H' }
abbrev HdR := Value × (Addr → Value → Option Addr → TS)
def wAll (K : PySem.W.Frag) (i : Nat) (Wout : WX) (D : Ends) : List HdR → WX
  | [] => Wout
  | (c, ts) :: r => fun cls d σ H => ∃ b, PySem.W.exmOne K cls c = some b ∧ (b = true → ∀ a, H a = none → ts a cls d (gone i D) (σ.set i (some (.ref a))) H) ∧ (b = false → wAll K i Wout D r cls d σ H)
inductive AsOk (X : Cx) (n : Str) : List ExceptHandler → List HdR → Prop
  | nil : AsOk X n [] []
  | cons {x : Str} {c : Value} {ts : Addr → Value → Option Addr → TS} {b₀ : Stmt} {suite : List Stmt} {np pos' : Pos} {hds : List ExceptHandler} {l : List HdR} (hc : Names X x c)
      (hsu : ∀ (a : Addr) (oe : Obj) (cls : Value) (d : Option Addr) (pn : List (Addr × Obj)), Zc cls d oe → (∃ vs, oe.data = .fields vs) → PSs (X.suite a ((a, oe) :: pn)) (b₀ :: suite) (ts a cls d)) (r : AsOk X n hds l) :
      AsOk X n (.ExceptHandler (some (.Name x np)) (some n) (b₀ :: suite) pos' :: hds) ((c, ts) :: l)
section
variable {X : Cx} {n : Str} {i : Nat} {body : List Stmt} {h₀ : ExceptHandler} {hds : List ExceptHandler} {l : List HdR} {pos : Pos} {tb : WX → TS} {Wout : WX}
theorem ps_try_manyAs (hs : X.stack = X.env :: X.outer) (hf : X.env.frame = some X.env.locals) (hN : X.N.Nodup) (hi : X.N[i]? = some n) (hln : X.env.kindOf n = some .local) (tk : Takes X Wout)
    (hb : ∀ (W : WX) (pn : List (Addr × Obj)) (xe : Value → Shared → Prop), Takes (X.tr pn xe) W → PassesOwn (model X.prog X.w) X.A X.env xe → PSs (X.tr pn xe) body (tb W))
    (hh : AsOk X n (h₀ :: hds) l) : PS X (.Try body (h₀ :: hds) [] [] pos) (fun D σ H => tb (wAll X.K i Wout D l) D σ H) := by
  refine ⟨fun pins s σ H D I h => wpAny_Try_except ?_⟩
  have ok := I.ok
  have fr : X.A.frames = some (X.env :: X.outer) := by rw [ok.frames, hs]
  let after : Value → Shared → Prop := fun e s₁ => wpAny (model X.prog X.w) X.A (noteFrame e X.env) (fun _ s₂ => wpAny (model X.prog X.w) X.A (setFlight e none) (fun _ s₃ => wpAny (model X.prog X.w) X.A (handleBy e X.env (h₀ :: hds)) (SP X pins D) X.xe s₃) X.xe s₂) X.xe s₁
  have caught : Takes (X.tr (X.pn ++ pins) after) (wAll X.K i Wout D l) := by
    rintro u s' ⟨a, B, sI, pins', σ', H', cls, d, rfl, J', nb, up, sky, na, os, ag, w⟩
    have J : L2.Inv X pins σ' H' sI := J'.ofTry ok
    have sk : Sky B (X.env :: X.outer) a (Zc cls d) X.env.locals s'.heap := hs ▸ sky
    show wpAny (model X.prog X.w) X.A (noteFrame (.ref a) X.env) _ _ _
    refine Sky.land Zc.steady fr hf sk fun g fl ug => ?_
    have J3 : L2.Inv X pins σ' H' { s' with heap := g } := J.landed nb fl.1 (up.trans ug) os ag
    obtain ⟨oe, vs, ge, hz, gd⟩ := fl.there
    have aside : a ∉ frs (X.env :: X.outer) := fun m => by
      obtain ⟨_, o', q, nf⟩ := fl.2.2.1.mem m
      rw [ge] at q
      cases q
      exact nf _ gd
    have nL : a ≠ X.env.locals := fun z => aside (List.mem_filterMap.mpr ⟨X.env, List.mem_cons_self, by rw [hf, z]⟩)
    have nF : a ∉ X.fs := fun m => let ⟨e, he, q⟩ := List.mem_filterMap.mp m; aside (List.mem_filterMap.mpr ⟨e, List.mem_cons_of_mem _ he, q⟩)
    have S3 := J3.suite ge gd na nL nF
    have look : PySem.W.Looks (model X.prog X.w) g (typeOf (.ref a)) cls := fun A Q E s k q => wpAny_typeOf_ref (k _ _ ge) (by rw [hz.1]; exact q)
    suffices key : ∀ {hs' : List ExceptHandler} {l' : List HdR}, AsOk X n hs' l' → wAll X.K i Wout D l' cls d σ' H' → wpAny (model X.prog X.w) X.A (handleBy (.ref a) X.env hs') (SP X pins D) X.xe { s' with heap := g } from key hh w
    intro hs' l' hk
    induction hk with
    | nil =>
      intro w
      refine wpAny_handleBy_nil ?_
      obtain ⟨_, _, _, o1, vs1, T, _, _, e1, _, d1, f1, _⟩ := id fl
      unfold PySem.passOn
      refine wpAny_bind (wpAny_field e1 d1 f1 ?_)
      rw [if_neg (show ¬ ((Value.ref T == Value.none) = true) from by simp)]
      have out : wpAny (model X.prog X.w) X.A (setFlight (.ref a) X.env.frame) (fun _ s4 => wpAny (model X.prog X.w) X.A (throw (.ref a) : Sem Flow) (SP X pins D) X.xe s4) X.xe { s' with heap := g } := by
        rw [hf]
        exact HandSPX.setFlight_upZ fl fun h4 sk4 up4 => wpAny_throw (tk _ _ ⟨a, B, sI, pins, σ', H', cls, d, rfl, J, nb, (up.trans ug).trans up4, .inr (.inr (by rw [hs]; exact sk4)), na, os, ag, w⟩)
      first
        | exact wpAny_bind (wpAny_pure (wpAny_bind out))
        | exact wpAny_bind out
    | @cons x c ts b₀ suite np pos' hds2 l2 hc hsu r ih =>
      rintro ⟨b, eb, yes, no⟩
      refine wpAny_handleBy_cons (codeAny_handlers_test ?_) (by intro q; cases q)
      have named : ∀ {Q : Value → Shared → Prop} {E : Value → Shared → Prop}, Q c { s' with heap := g } → wpAny (model X.prog X.w) (X.A.mark (some (.ref a))) (eval (.Name x np) X.env) Q E { s' with heap := g } := fun {Q E} q => by
        obtain ⟨k1, k2, k3 | ⟨k3, k4, k5⟩⟩ := hc
        · exact ld_glob (X := X.suite a ((a, oe) :: (X.pn ++ pins))) S3 k1 k3 q k2
        · exact ld_blt (X := X.suite a ((a, oe) :: (X.pn ++ pins))) S3 k1 k3 k4 q k5 k2
      refine named ((PySem.W.exm_one (M := model X.prog X.w) J3.kIn look eb).here ?_)
      cases b with
      | false => exact ih (no rfl)
      | true =>
        refine codeAny_handlers_suite_as (HandSPX.lands_againZ fl fun h4 fl4 up4 => ?_)
        have J4 : L2.Inv X pins σ' H' { s' with heap := h4 } := J.landed nb fl4.1 ((up.trans ug).trans up4) os ag
        obtain ⟨o4, vs4, g4, z4, d4⟩ := fl4.there
        refine store_ok (X := X.suite a ((a, o4) :: (X.pn ++ pins))) (v := .ref a) (J4.suite g4 d4 na nL nF) hN hi (.inl hln) rfl (fun s5 S5 => ?_) (.inr hln)
        refine wpAny_mono ((hsu a o4 cls d (X.pn ++ pins) z4 ⟨_, d4⟩).run [] s5 _ H' _ S5 (yes rfl a na)) (fun f s6 hq => ?_) (fun _ _ z => False.elim z)
        have bye : ∀ {σ6 : L2.St} {H6 : Hp} {Q : Shared → Prop}, L2.Inv (X.suite a ((a, o4) :: (X.pn ++ pins))) [] σ6 H6 s6 → (∀ s7, L2.Inv X pins (σ6.set i none) H6 s7 → Q s7) →
            wpAny (model X.prog X.w) X.A (do bindName X.env n .none; unbindBehindTheSuite X.env n pos') (fun _ s7 => Q s7) X.xe s6 := fun S6 hq => gone_ok (S6.unsuite ok) hN hi hln hq
        cases f with
        | ret u => obtain ⟨v, _, _, S6, r6, q⟩ := hq; exact bye S6 fun s7 J7 => ⟨v, _, _, J7, r6, q⟩
        | next => obtain ⟨_, _, S6, q⟩ := hq; exact bye S6 fun s7 J7 => ⟨_, _, J7, q⟩
        | brk => obtain ⟨_, _, S6, q⟩ := hq; exact bye S6 fun s7 J7 => ⟨_, _, J7, q⟩
        | cont => obtain ⟨_, _, S6, q⟩ := hq; exact bye S6 fun s7 J7 => ⟨_, _, J7, q⟩
  refine wpAny_mono ((hb _ (X.pn ++ pins) after caught PassesOwn.looking).run [] s σ H D (I.toTry _) h) (fun f s1 hq => ?_) (fun e s1 he => he)
  cases f with
  | ret u => obtain ⟨v, _, _, J, r, q⟩ := hq; exact ⟨v, _, _, J.ofTry ok, r, q⟩
  | next => obtain ⟨_, _, J, q⟩ := hq; exact wpAny_execs_nil ⟨_, _, J.ofTry ok, q⟩
  | brk => obtain ⟨_, _, J, q⟩ := hq; exact ⟨_, _, J.ofTry ok, q⟩
  | cont => obtain ⟨_, _, J, q⟩ := hq; exact ⟨_, _, J.ofTry ok, q⟩
end
end Sh
set_option Elab.async false
set_option linter.all false
set_option maxRecDepth 100000
set_option maxHeartbeats 4000000
namespace Sh
open PySem PySem.Spec PyProof.Rows L2
/-! ### o == t, t a tuple, where o's own == gives NotImplemented -/
theorem same_left {M : Model} {A : Around} {E : Value → Shared → Prop} {s : Shared} {x y : Addr} {ox oy : Obj} {R : Bool → Shared → Prop} (hxy : x ≠ y) (hx : s.heap.get? x = some ox) (hy : s.heap.get? y = some oy) (nt : ox.cls ≠ .type "tuple") (h : R false s) : wpAny M A (isSame (.ref x) (.ref y)) R E s := by
  show wpAny M A (if (x == y) = true then pure true else _) R E s
  rw [if_neg (by simpa using hxy)]
  refine wpAny_bind (wpAny_load hx (wpAny_bind (wpAny_load hy ?_)))
  split
  · rename_i h1 _ _ _
    exact absurd h1 nt
  · exact wpAny_pure h
section
variable {X : Cx} {C f : Addr} {fd : FuncData}
theorem sub_tup {K : PySem.W.Frag} {C : Addr} : PySem.W.subIn K (.type "tuple") (.ref C) = some false := by
  have e : fastBuiltinMro "tuple" = some [.type "tuple", .type "object"] := by decide +kernel
  show (fastBuiltinMro "tuple").map (·.contains (.ref C)) = some false
  rw [e]
  first
    | rfl
    | simp
theorem tup_eq_ins {prog : Program} {w : World} {A : Around} {E : Value → Shared → Prop} {s : Shared} {K : PySem.W.Frag} {x b C : Addr} {ox ob : Obj} {od : Option Obj} {Q : Option Value → Shared → Prop} (X : K.In s.heap) (I : PySem.W.InstAt s.heap x ox C od) (nt : PySem.W.mroIn K C (.type "tuple") = some false)
    (hb : s.heap.get? b = some ob) (hc : ob.cls = .type "tuple") (h : Q none s) : wpAny (model prog w) A (tryCompare (.ref b) "__eq__" (.ref x)) Q E s := by
  refine wpAny_tryCompare_declines (show s.TypeIs (.ref b) "tuple" from ⟨ob, hb, hc⟩) F.slot_tuple_eq (GQ.call_here F.slot_tuple_eq ⟨ob, hb, hc⟩ F.entry_tuple_eq (F.args_tuple_eq_2 _ _) ?_)
  have L : PySem.W.Looks (model prog w) s.heap (isInstance (.ref x) (.type "tuple")) false := I.type.andThen (PySem.W.looks_mroIn X nt)
  unfold Builtin.«tuple.__eq__»
  repeat (first | with_reducible refine wpAny_bind (L.here ?_) | wp_step)
  exact ⟨rfl, h⟩
/-- o == xs, where o's own == gives NotImplemented: False -/
def rEqNT (N : List Str) (C : Addr) (tt : TT) : R2 := fun x y H Q => ∃ a b dx fs xs, x = .ref a ∧ y = .ref b ∧ H a = some (.ins C dx fs) ∧ H b = some (.tup xs) ∧
  tt (L2.start N [x, y]) H (fun k H' => k = true ∧ H' a = some (.ins C dx fs) ∧ H' b = some (.tup xs) ∧ Q (.bl false) H')
theorem op_eqNT {qual : Str} {st : Stmt} {N : List Str} {c : Expr} {rest : List Stmt} {p p2 p3 : Pos} {tt : TT} (e : EqC X.K C f)
    (F : Fun X.K "__eq__" qual st f fd) (S : FnScope N ["self", "other"] (defScope st)) (hbd : defBody st = .If c [.Return (some (.Name "NotImplemented" p)) p2] [] p3 :: rest) (hbi : Binds X.K fd ["self", "other"] [])
    (hg : (defScope st).names.lookup ("NotImplemented" : Str) = some .globalImplicit) (hm : X.mg "NotImplemented" = none)
    (ht : ∀ (cdv : Value) (A : Around) (outer : List Env) (s : Shared) (H : Hp) (E : XK), Room 0 A → PT (cxOf CX0 X.prog X.w X.K X.mg X.base N qual (defScope st) f cdv A outer s H E) c tt) (hr : Room 1 X.A) : OpR X (compareOp .Eq) (rEqNT N C tt) := by
  intro pins s σ H x y v u Q I rx ry h
  obtain ⟨a, b, dx, fs, xs, rfl, rfl, ha, hb, hq⟩ := h
  cases rx
  cases ry
  have hab : a ≠ b := ne_of ha hb (by intro z; cases z)
  obtain ⟨mA, J, _⟩ := ins_get I.hok ha
  obtain ⟨od, J, _⟩ := J.look
  obtain ⟨_, its, _, ot, hob, hcl, n, _⟩ := I.hok b _ hb
  have un := hr.un
  have one : wpAny (model X.prog X.w) X.A (tryCompare (.ref a) "__eq__" (.ref b)) (fun r s' => r = none ∧ ∃ H', L2.Inv X pins σ H' s' ∧ H' a = some (.ins C dx fs) ∧ H' b = some (.tup xs) ∧ Q (.bl false) H') X.xe s := by
    unfold tryCompare
    refine wpAny_bind (PySem.W.ifBound_K I.kIn J e.eq e.fn (wpAny_mono (run_ni F S hbd hbi hg hm ht hr I.env0 (us := [.ref a, .ref b]) (vs := [.ref a, .ref b]) (.cons rfl (.cons rfl .nil)) rfl hq) (fun v s' z => ?_) fun _ _ z => z.elim))
    obtain ⟨rfl, H', os, bare, un, hok, q1, q2, q3⟩ := z
    exact wpAny_pure ⟨rfl, H', I.call' os un hok bare (fun b z => absurd z (by simp)), q1, q2, q3⟩
  show wpAny (model X.prog X.w) X.A (richCompare .Eq (.ref a) (.ref b)) (EP X pins σ Q) X.xe s
  simp only [richCompare, cmpInfo_Eq, oneThing_ref]
  refine wpAny_holding (wpAny_bind (wpAny_cRoomFor (by omega) ?_))
  refine wpAny_bind (J.type.here ?_)
  refine wpAny_bind (wpAny_typeOf (show s.TypeIs (.ref b) "tuple" from ⟨_, hob, hcl⟩) ?_)
  have tail : ∀ s1, (∃ H', L2.Inv X pins σ H' s1 ∧ H' a = some (.ins C dx fs) ∧ H' b = some (.tup xs) ∧ Q (.bl false) H') → wpAny (model X.prog X.w) X.A (tryCompare (.ref b) "__eq__" (.ref a)) (fun r s' => r = none ∧ s' = s1) X.xe s1 ∧ wpAny (model X.prog X.w) X.A (isSame (.ref a) (.ref b)) (fun r s' => r = false ∧ s' = s1) X.xe s1 := by
    rintro s1 ⟨H', I1, q1, q2, _⟩
    obtain ⟨mB, J1, _⟩ := ins_get I1.hok q1
    obtain ⟨od1, J1, _⟩ := J1.look
    obtain ⟨_, its1, _, ot1, hob1, hcl1, n1, _⟩ := I1.hok b _ q2
    exact ⟨tup_eq_ins I1.kIn J1 e.nt hob1 hcl1 ⟨rfl, rfl⟩, same_left hab J1.at_ hob1 (by intro z; cases z) ⟨rfl, rfl⟩⟩
  split
  · refine wpAny_bind ((PySem.W.looks_subIn I.kIn sub_tup).here ?_)
    simp only [Bool.false_eq_true, if_false, Bool.not_false, if_true]
    refine wpAny_bind (m := tryCompare (.ref a) _ (.ref b)) (wpAny_mono one (fun r s1 z => ?_) fun _ _ e => e)
    obtain ⟨rfl, z⟩ := z
    refine wpAny_bind (m := tryCompare (.ref b) _ (.ref a)) (wpAny_mono (tail s1 z).1 (fun r s2 y => ?_) fun _ _ e => e)
    obtain ⟨rfl, rfl⟩ := y
    refine wpAny_bind (wpAny_rule (wpAny_bind (wpAny_mono (tail s2 z).2 (fun r s3 y => ?_) fun _ _ e => e)))
    obtain ⟨rfl, rfl⟩ := y
    obtain ⟨H', I1, _, _, q⟩ := z
    exact wpAny_pure ⟨.bl false, H', I1, rfl, q⟩
  · refine wpAny_bind (wpAny_pure ?_)
    simp only [Bool.false_eq_true, if_false, Bool.not_false, if_true]
    refine wpAny_bind (m := tryCompare (.ref a) _ (.ref b)) (wpAny_mono one (fun r s1 z => ?_) fun _ _ e => e)
    obtain ⟨rfl, z⟩ := z
    refine wpAny_bind (m := tryCompare (.ref b) _ (.ref a)) (wpAny_mono (tail s1 z).1 (fun r s2 y => ?_) fun _ _ e => e)
    obtain ⟨rfl, rfl⟩ := y
    refine wpAny_bind (wpAny_rule (wpAny_bind (wpAny_mono (tail s2 z).2 (fun r s3 y => ?_) fun _ _ e => e)))
    obtain ⟨rfl, rfl⟩ := y
    obtain ⟨H', I1, _, _, q⟩ := z
    exact wpAny_pure ⟨.bl false, H', I1, rfl, q⟩
end
end Sh
set_option Elab.async false
set_option linter.all false
set_option maxRecDepth 100000
set_option maxHeartbeats 4000000
namespace Sh
open PySem PySem.Spec PyProof.Rows L2
open AutoSeq1 (wpAny_loadPart')
/-! ### for i, x in enumerate(t), t a tuple -/
abbrev itT (t : Addr) : Obj := { cls := .type "tuple_iterator", data := .fields #[.ref t, .int 0 0] }
abbrev enO (it : Addr) : Obj := { cls := .type "enumerate", data := .fields #[.none, .bool false, .ref it, rawInt 0, .none, .none] }
theorem enumT_new (l : Addr) (items : Array Value) (n : Nat) (dct : Option Addr) (sl : Array (Option Value)) :
    Meets (Builtin.«enumerate.__new__» ⟨[.type "enumerate", .ref l], []⟩) (fun _ R s => s.heap.get? l = some { cls := .type "tuple", dict := dct, data := .seq items n, slots := sl } ∧
      R (.ok (.ret (.ref (s.heap.push (itT l)).objs.size))) { s with heap := (s.heap.push (itT l)).push (enO s.heap.objs.size) }) :=
  .of_wp fun prog w A R s h => by
    obtain ⟨hp, g, d, tk, os⟩ := s
    obtain ⟨hl, h⟩ := h
    have sub := sub_enumerate
    have tup : Heap.IsTuple (Shared.heap ⟨hp, g, d, tk, os⟩) l items := ⟨_, hl, rfl, n, rfl⟩
    wp_walk using wpAny_loadPart' hl
    refine wpAny_stack_any fun st => wpAny_pure ?_
    split
    · rename_i c _ _ _ _ _
      cases (c == Value.type "enumerate") <;>
      · wp_walk using wpAny_loadPart' hl, wpAny_pyIter_tuple tup
        exact ⟨_, rfl, h⟩
    · wp_walk using wpAny_loadPart' hl, wpAny_pyIter_tuple tup
      exact ⟨_, rfl, h⟩
theorem call_enumT {prog : Program} {w : World} {A : Around} {E : Value → Shared → Prop} {s : Shared} {t : Addr} {items : Array Value} {Q : Value → Shared → Prop} (hT : s.heap.IsTuple t items)
    (h : ∀ h', IsEnum h' (s.heap.objs.size + 1) s.heap.objs.size 0 .none → h'.IsTupleIter s.heap.objs.size t 0 → (∀ b o, s.heap.get? b = some o → h'.get? b = some o) → Q (.ref (s.heap.objs.size + 1)) { s with heap := h' }) :
    wpAny (model prog w) A (call (.type "enumerate") [.ref t]) Q E s := by
  obtain ⟨⟨c, dct, dt, sl⟩, hl, hc, n, hd⟩ := hT
  have ec : c = .type "tuple" := hc
  have ed : dt = .seq items n := hd
  subst ec ed
  refine callType_new F.called_enumerate (by decide) (F.typeCall_enumerate_1 _) (F.newCall_enumerate_1 _) (fun obj => F.args_object_init_2 obj _) F.entry_enumerate_new (enumT_new t items n dct sl) ⟨hl, ?_⟩
  have sz : (s.heap.push (itT t)).objs.size = s.heap.objs.size + 1 := Heap.size_push ..
  show _ ∧ _
  rw [sz]
  have ae : ((s.heap.push (itT t)).push (enO s.heap.objs.size)).get? (s.heap.objs.size + 1) = some (enO s.heap.objs.size) := by
    have := Heap.get?_push_size (s.heap.push (itT t)) (o := enO s.heap.objs.size) rfl
    rw [sz] at this
    exact this
  exact ⟨⟨_, ae, rfl⟩, h _ ae ⟨_, Heap.get?_push_of_some _ (Heap.get?_push_size _ rfl), rfl, rfl⟩ fun b o x => Heap.get?_push_of_some _ (Heap.get?_push_of_some _ x)⟩
theorem endT {prog : Program} {w : World} {A : Around} {E : Value → Shared → Prop} {s : Shared} {e it a : Addr} {i : Nat} {items : Array Value} {old : Value} {Q : Option Value → Shared → Prop} (hh : A.handled = none) (he : IsEnum s.heap e it (i : Int) old) (hit : s.heap.IsTupleIter it a i) (ht : s.heap.IsTuple a items)
    (hx : items[i]? = none) (hQ : ∀ h', Heap.ExtBut it s.heap h' → Q none { s with heap := h' }) : wpAny (model prog w) A (pyNext (.ref e)) Q E s := by
  have hT : s.TypeIs (.ref e) "enumerate" := ⟨_, he, rfl⟩
  unfold pyNext
  refine wpAny_bind (wpAny_attempt (wpAny_callSpecial?_slot (name := Str.ofString "__next__") hT F.slot_enumerate_next (wpAny_call_entry F.slot_enumerate_next hT F.entry_enumerate_next ?_ (F.args_enumerate_next_1 _))))
  show wpAny _ _ (field (.ref e) 2 >>= _) _ _ _
  refine wpAny_bind (wpAny_field he rfl (x := .ref it) rfl ?_)
  refine wpAny_bind (PySem.wpAny_nextOf_tuple_end hh hit ht hx fun h' x eb hx' => ?_)
  obtain ⟨o, ho, hc⟩ := hx'
  exact wpAny_bind (wpAny_isInstance (T := "StopIteration") (b := true) ⟨o, ho, hc⟩ isSubtype_stop (wpAny_pure (hQ _ eb)))
/-- the tuple at a, its items in new pairs with their number -/
def ItET (K : PySem.W.Frag) (a : Addr) : It :=
  ⟨fun i H => ∃ (xs : List V) (x : V), SqT K H a xs ∧ xs[i]? = some x, fun i H v H' => ∃ T x, v = .ref T ∧ H T = none ∧ H' = upd H T (.tup [.int (i : Nat), x]) ∧ ∀ xs, SqT K H a xs → xs[i]? = some x, fun i H => ∃ xs : List V, SqT K H a xs ∧ xs.length ≤ i⟩
theorem tup_ne {h : Heap} {a b : Addr} {items : Array Value} {o : Obj} (t : h.IsTuple a items) (hb : h.get? b = some o) (n : o.cls ≠ .type "tuple") : a ≠ b := fun z => by
  obtain ⟨o', h1, h2, _⟩ := t
  rw [z, hb] at h1
  cases h1
  exact n h2
theorem turn_enumT {P : Program} {w : World} {K : PySem.W.Frag} {elts : List Expr} {kk : Nat} {tpos : Pos} (a e it : Addr) :
    Turn P w K (.Tuple elts kk tpos) (ItET K a) [e, it] e (fun i h => (∃ old, IsEnum h e it ((i : Nat) : Int) old) ∧ h.IsTupleIter it a i ∧ e ≠ it) where
  mem := by simp
  obj := fun i h st b hb => by
    obtain ⟨⟨old, he⟩, ⟨o, ho, hc, hd⟩, _⟩ := st
    rcases (show b = e ∨ b = it by simpa using hb) with rfl | rfl
    · exact ⟨_, he, fun v q => nomatch q⟩
    · exact ⟨o, ho, fun v q => by rw [hd] at q; cases q⟩
  keep := fun i h h' st k => let ⟨⟨old, he⟩, hi, hne⟩ := st; ⟨⟨old, k e (by simp) _ he⟩, hi.at fun o q => k it (by simp) o q, hne⟩
  item := by
    intro X hP hw hK hc i pins s σ H E I hf st hg
    subst hP hw hK
    obtain ⟨⟨old, he⟩, hit, hne⟩ := st
    obtain ⟨xs, x, hq, hx⟩ := hg
    obtain ⟨its, rv, p, hz⟩ := I.tuple hq
    obtain ⟨u, hu, ru⟩ := rv.get hx
    have le : e < s.heap.objs.size := Heap.lt_size he
    have li : it < s.heap.objs.size := let ⟨_, q, _⟩ := hit; Heap.lt_size q
    have tp : s.heap.IsTuple a its.toArray := p
    have ae : a ≠ e := tup_ne tp he (fun z => absurd (Value.type.inj z) (by decide))
    have ai : a ≠ it := let ⟨o, q, c, _⟩ := hit; tup_ne tp q (by rw [c]; decide)
    have hil : i < its.toArray.size := by
      have := (List.getElem?_eq_some_iff.mp hu).1
      simpa using this
    refine wpAny_pyNext_enum_itemD (PySem.Draws.tuple (prog := X.prog) (w := X.w) (A := X.A.in1) (I.ok.hd hc) it a ai its.toArray) he ⟨hit, tp⟩ hil hne (by simp [hne, ae.symm]) fun x' h' tk px ho st' hT hsz hk => ?_
    have ex : x' = u := by
      have px' : its.toArray[i]? = some x' := px
      rw [show its.toArray[i]? = its[i]? by simp, hu] at px'
      exact (Option.some.inj px').symm
    subst ex
    refine ⟨_, rfl, wpAny_letOwnedTupleGo_enum (s := { s with heap := h', toks := tk + 1 }) ho fun h'' he' sb => ?_⟩
    have hT2 : h''.get? s.heap.objs.size = some { cls := .type "tuple", data := .seq #[.int i tk, x'] } := (sb.2 _ (Nat.ne_of_gt le)).trans hT
    have new : ObjOk X.prog X.w (upd H s.heap.objs.size (.tup [.int (i : Nat), x])) h'' s.heap.objs.size (.tup [.int (i : Nat), x]) :=
      ⟨by show 2 ≤ sizeLine; decide, [.int i tk, x'], .cons ⟨_, rfl⟩ (.cons ru .nil), ⟨_, hT2, rfl, _, rfl⟩⟩
    have I1 : L2.Inv X pins σ (upd H s.heap.objs.size (.tup [.int (i : Nat), x])) { s with heap := h'', toks := tk + 1 } :=
      I.turnedNew (ch := [e, it]) (fun b ob hb q => (sb.2 b (fun z => hb (by simp [z]))).trans (hk b ob (fun z => hb (by simp [z])) (fun z => hb (by simp [z])) q)) hf (Nat.le_refl _) new
    refine ⟨.ref s.heap.objs.size, _, I1, rfl, ⟨_, x, rfl, I.hok.fresh (Nat.le_refl _), rfl, fun ys hy => by rw [I.tuple_inj hy hq]; exact hx⟩, ⟨⟨x', ?_⟩, st'.1.at fun o q => (sb.2 it (Ne.symm hne)).trans q, hne⟩, fun b hb => ?_⟩
    · rw [show ((i + 1 : Nat) : Int) = (i : Int) + 1 by omega]
      exact he'
    · have lb : b < s.heap.objs.size := by
        rcases (show b = e ∨ b = it by simpa using hb) with rfl | rfl
        · exact le
        · exact li
      rw [upd_ne (Nat.ne_of_lt lb)]
      exact (hf b hb).1
  done := by
    intro X hP hw hK hc i pins s σ H E I hf st hg
    subst hP hw hK
    obtain ⟨⟨old, he⟩, hit, hne⟩ := st
    obtain ⟨xs, hq, hx⟩ := hg
    obtain ⟨its, rv, p, hz⟩ := I.tuple hq
    obtain ⟨f0, f1, f2, f3, f4, f5⟩ := hf it (by simp)
    have hl := rv.length
    have tp : s.heap.IsTuple a its.toArray := p
    have ai : a ≠ it := let ⟨o, q, c, _⟩ := hit; tup_ne tp q (by rw [c]; decide)
    exact endT (I.ok.hd hc) he hit tp (by simp; omega) fun h' eb => ⟨rfl, I.turned (t' := s.toks) (fun b o hb q => eb b o hb q) f0 f1 f3 f4 f5⟩
  self := fun A i s Q E st h => let ⟨⟨_, he⟩, _⟩ := st; wpAny_pyIter_enum he h
def iEnumT (K : PySem.W.Frag) (ta : TA) : TI := fun σ H R => ta σ H fun vs H1 => ∃ a xs, vs = [.ref a] ∧ SqT K H1 a xs ∧ R (ItET K a) H1
theorem pi_enumT {X : Cx} {e : Expr} {ta : TA} {p pos tpos : Pos} {elts : List Expr} {kk : Nat} (hg : Gl X "enumerate") (hm : X.mg "enumerate" = none) (ha : PA X [e] ta) (hs : starEach [e] X.env = [(false, eval e X.env)] := by rfl) :
    PI X (.Tuple elts kk tpos) (.Call (.Name "enumerate" p) [e] [] pos) (iEnumT X.K ta) := by
  refine ⟨fun pins s σ H R I h => ?_⟩
  refine Call_ (ld_blt I hg hm boot_enumerate (PyProof.Rows.callWith_type1 (thn (ha.run pos pins s σ H _ I h) fun us s1 ⟨vs, H1, I1, r1, a, xs, ex, hq, q⟩ => ?_) hs rfl))
  subst ex
  rw [Vals.ref1 r1]
  obtain ⟨its, rv, tp, hz⟩ := I1.tuple hq
  refine call_enumT (show s1.heap.IsTuple a its.toArray from tp) fun h' he hit hk => wpAny_pyIter_enum he ?_
  refine ⟨s1.heap.objs.size + 1, [s1.heap.objs.size + 1, s1.heap.objs.size], _, _, H1, rfl, I1.kept (t' := s1.toks) hk, turn_enumT a (s1.heap.objs.size + 1) s1.heap.objs.size, ⟨⟨.none, he⟩, hit, Nat.succ_ne_self _⟩, fun b hb => ?_, q⟩
  have le : s1.heap.objs.size ≤ b := by
    rcases (show b = s1.heap.objs.size + 1 ∨ b = s1.heap.objs.size by simpa using hb) with z | z
    · rw [z]; exact Nat.le_add_right _ _
    · rw [z]; exact Nat.le_refl _
  exact I1.fpOk le (I1.hok.fresh le)
/-- two readings of what is walked -/
theorem pi_alt {X : Cx} {tg iter : Expr} {w1 w2 : TI} (h1 : PI X tg iter w1) (h2 : PI X tg iter w2) : PI X tg iter (fun σ H R => w1 σ H R ∨ w2 σ H R) :=
  ⟨fun pins s σ H R I h => h.elim (h1.run pins s σ H R I) (h2.run pins s σ H R I)⟩
theorem for_enumT {K : PySem.W.Frag} {a : Addr} {xs : List V} {g : TG} {tb : TS} {D : Ends} {σ : L2.St} {H : Hp} (Pv : Nat → L2.St → Hp → Prop) (h0 : Pv 0 σ H) (hl : ∀ i σ H, i ≤ xs.length → Pv i σ H → SqT K H a xs)
    (hs : ∀ (i : Nat) (x : V) (σ : L2.St) (H : Hp) (T : Addr), xs[i]? = some x → H T = none → Pv i σ H → g (.ref T) σ (upd H T (.tup [.int (i : Nat), x])) fun σ2 H2 => tb { D with nx := Pv (i + 1), ct := Pv (i + 1), bk := D.nx } σ2 H2) (hd : ∀ σ H, Pv xs.length σ H → D.nx σ H) :
    ∃ W : Nat → Nat → L2.St → Hp → Prop, (∃ m, W 0 m σ H) ∧ ∀ i m σ H, W i m σ H →
      ((ItET K a).stop i H ∧ D.nx σ H) ∨ ((ItET K a).go i H ∧ ∃ N : L2.St → Hp → Prop, (∀ σ' H', N σ' H' → ∃ m', m' < m ∧ W (i + 1) m' σ' H') ∧ ∀ x H', (ItET K a).yld i H x H' → g x σ H' fun σ2 H2 => tb { D with nx := N, ct := N, bk := D.nx } σ2 H2) := by
  refine ⟨fun i m σ H => m = xs.length - i ∧ i ≤ xs.length ∧ Pv i σ H, ⟨xs.length, by simp, Nat.zero_le _, h0⟩, ?_⟩
  rintro i m σ H ⟨rfl, hi, p⟩
  have q := hl i σ H hi p
  by_cases hlt : i < xs.length
  · refine .inr ⟨⟨xs, xs[i], q, by simp [hlt]⟩, Pv (i + 1), fun σ' H' p' => ⟨xs.length - (i + 1), by omega, rfl, hlt, p'⟩, fun x H' y => ?_⟩
    obtain ⟨T, x, rfl, nT, rfl, y⟩ := y
    exact hs i x σ _ T (y xs q) nT p
  · have e : i = xs.length := by omega
    subst e
    exact .inl ⟨⟨xs, q, Nat.le_refl _⟩, hd σ H p⟩
end Sh
set_option Elab.async false
set_option linter.all false
set_option maxRecDepth 100000
set_option maxHeartbeats 4000000
namespace Sh
open PySem PySem.Spec PyProof.Rows L2
/-- tuple(s), s a text -/
theorem call_tup_str {X : Cx} (hc : X.calm = true) : CallR X (.type "tuple") (fun xs H Q => ∃ z, xs = [.str z] ∧ z.length ≤ sizeLine ∧ ∀ p, H p = none → Q (.ref p) (upd H p (.tup ((Sh.signs z).map V.str)))) := by
  intro pins s σ H xs us Q I r h
  obtain ⟨z, rfl, hz, q⟩ := h
  obtain ⟨u, rfl, t, rfl⟩ := vals1 r
  have el : ((Sh.signs z).map V.str).length = z.cps.size := by unfold Sh.signs; simp
  refine call_tuple_str (hsz := hz) (I.ok.hd hc) z t fun h' tk acc keep hacc => ?_
  have rv : Vals ((Sh.signs z).map V.str) acc.toList := by
    refine vals_of_at (by rw [el, Array.length_toList]; exact hacc.1.symm) fun j x y h1 h2 => ?_
    obtain ⟨cc, uu, hcc, rfl⟩ := hacc.2 j y (by rw [← Array.getElem?_toList]; exact h2)
    have e2 : ((Sh.signs z).map V.str)[j]? = some (V.str ⟨#[cc]⟩) := by
      unfold Sh.signs
      rw [List.getElem?_map, List.getElem?_map, Array.getElem?_toList, hcc]
      rfl
    rw [e2] at h1
    cases h1
    exact ⟨uu, rfl⟩
  have I1 : Inv X pins σ H { s with heap := h', toks := tk } := I.kept (t' := tk) keep
  have I2 : Inv X pins σ (upd H h'.objs.size (.tup ((Sh.signs z).map V.str))) { s with heap := h'.push { cls := .type "tuple", data := .seq acc }, toks := tk } :=
    I1.laid (t' := tk) (fun b o e => Heap.get?_push_of_some _ e) (Nat.le_refl _) (show ObjOk X.prog X.w _ _ _ (.tup ((Sh.signs z).map V.str)) from ⟨by rw [el]; exact hz, acc.toList, rv, by rw [Array.toArray_toList]; exact IsTup.new _ _⟩)
  exact ⟨.ref h'.objs.size, _, I2, rfl, q _ (I1.hok.fresh (Nat.le_refl _))⟩
end Sh
set_option Elab.async false
set_option linter.all false
set_option maxRecDepth 100000
set_option maxHeartbeats 4000000
namespace Sh
open PySem PySem.Spec PyProof.Rows L2
/-! ### dicts whose keys are tuples of None, bools, ints, texts -/
def leafV : V → Bool
  | .non => true
  | .bl _ => true
  | .int _ => true
  | .str _ => true
  | _ => false
def nkV : V → NestedKey
  | .bl b => .num (if b = true then 1 else 0)
  | .int i => .num i
  | .str x => .text x
  | _ => .none
/-- the tuple at b is the key k -/
def KeyAt (K : PySem.W.Frag) (H : Hp) (k : NestedKey) (b : Addr) : Prop := ∃ vs, SqT K H b vs ∧ vs.all leafV = true ∧ k = .tup (vs.map nkV)
def DNo (P : Program) (w : World) (a : Addr) (xs : List (NestedKey × Addr × V)) : HO := .ext fun h => xs.length ≤ sizeLine ∧ (a == sysModules) = false ∧
  ∃ ys : List (NestedKey × Addr × Value), Paired (fun (p : NestedKey × Addr × V) (q : NestedKey × Addr × Value) => p.1 = q.1 ∧ p.2.1 = q.2.1 ∧ RelV p.2.2 q.2.2) xs ys ∧
    ∃ o es ep, h.get? a = some o ∧ o.ExactDict ∧ o.data = .dict es ep ∧ es.toList = ys.map (entryOfKey (nestedKind P w)) ∧ (ys.map (·.1)).Nodup
def kvN (xs : List (NestedKey × Addr × V)) : List (NestedKey × V) := xs.map fun x => (x.1, x.2.2)
/-- at a stands a dict with these keys and values, in their order -/
def DN (P : Program) (w : World) (K : PySem.W.Frag) (H : Hp) (a : Addr) (kvs : List (NestedKey × V)) : Prop := ∃ xs, H a = some (DNo P w a xs) ∧ kvN xs = kvs ∧ ∀ x ∈ xs, KeyAt K H x.1 x.2.1
theorem KeyAt.mono {K : PySem.W.Frag} {H H' : Hp} {k : NestedKey} {b : Addr} (s : ∀ c u, Rd H c (.tup u) → Rd H' c (.tup u)) (h : KeyAt K H k b) : KeyAt K H' k b := by
  obtain ⟨vs, h1, h2, h3⟩ := h
  refine ⟨vs, ?_, h2, h3⟩
  rcases h1 with h1 | h1
  · exact .inl (s _ _ h1)
  · exact .inr h1
theorem nested_all {h : Heap} : ∀ {vs : List V} {its : List Value}, Vals vs its → vs.all leafV = true → NestedAll h (vs.map nkV) its
  | _, _, .nil, _ => .nil
  | v :: vs, _, .cons r t, e => by
    rw [List.all_cons, Bool.and_eq_true] at e
    refine .cons ?_ (nested_all t e.2)
    cases v with
    | non => cases r; exact .none
    | bl b => cases r; exact .bool rfl
    | int i => obtain ⟨k, rfl⟩ := r; exact .int i k
    | str x => obtain ⟨k, rfl⟩ := r; exact .text x k
    | byt _ => cases e.1
    | flt _ => cases e.1
    | ref _ => cases e.1
    | ty _ => cases e.1
theorem nk_depth : ∀ vs : List V, NestedKey.depthAll (vs.map nkV) = 0
  | [] => rfl
  | v :: vs => by
    rw [List.map_cons, NestedKey.depthAll, nk_depth vs]
    cases v <;> rfl
section
variable {X : Cx} {pins : List (Addr × Obj)} {σ : L2.St} {H : Hp} {s : Shared}
theorem KeyAt.is {k : NestedKey} {b : Addr} (I : L2.Inv X pins σ H s) (h : KeyAt X.K H k b) : (nestedKind X.prog X.w).is s.heap k b := by
  obtain ⟨vs, h1, h2, rfl⟩ := h
  obtain ⟨its, rv, ⟨o, g, c, n, d⟩, _⟩ := I.tuple h1
  refine ⟨.tup g c d (by simpa using nested_all rv h2), ?_⟩
  show NestedKey.depthAll (vs.map nkV) + 1 ≤ 8
  rw [nk_depth]
  decide
abbrev RN : NestedKey × Addr × V → NestedKey × Addr × Value → Prop := fun p q => p.1 = q.1 ∧ p.2.1 = q.2.1 ∧ RelV p.2.2 q.2.2
theorem pair_mem : ∀ {xs : List (NestedKey × Addr × V)} {ys : List (NestedKey × Addr × Value)} {y : NestedKey × Addr × Value}, Paired RN xs ys → y ∈ ys → ∃ x ∈ xs, RN x y
  | _, _, _, .nil, h => by simp at h
  | _, _, _, .cons r t, h => by
    rcases List.mem_cons.mp h with rfl | h
    · exact ⟨_, List.mem_cons_self, r⟩
    · obtain ⟨x, hx, r'⟩ := pair_mem t h
      exact ⟨x, List.mem_cons_of_mem _ hx, r'⟩
theorem pair_app {v : V} {u : Value} {k : NestedKey} {b : Addr} (r : RelV v u) : ∀ {xs : List (NestedKey × Addr × V)} {ys : List (NestedKey × Addr × Value)}, Paired RN xs ys → Paired RN (xs ++ [(k, b, v)]) (ys ++ [(k, b, u)])
  | _, _, .nil => .cons ⟨rfl, rfl, r⟩ .nil
  | _, _, .cons r' t => .cons r' (pair_app r t)
theorem pair_set {v : V} {u : Value} {k : NestedKey} (r : RelV v u) : ∀ {xs : List (NestedKey × Addr × V)} {ys : List (NestedKey × Addr × Value)}, Paired RN xs ys → Paired RN (xs.map (fun x => if x.1 = k then (x.1, x.2.1, v) else x)) (ys.map (putAt k u))
  | _, _, .nil => .nil
  | p :: _, q :: _, .cons r' t => by
    rw [List.map_cons, List.map_cons]
    refine .cons ?_ (pair_set r t)
    obtain ⟨r1, r2, r3⟩ := r'
    unfold putAt
    by_cases h : p.1 = k
    · rw [if_pos h, if_pos (r1 ▸ h)]
      exact ⟨r1, r2, r⟩
    · rw [if_neg h, if_neg (r1 ▸ h)]
      exact ⟨r1, r2, r3⟩
/-- what the library's rules ask of such a dict -/
theorem DN.raw {a : Addr} {kvs : List (NestedKey × V)} (I : L2.Inv X pins σ H s) (h : DN X.prog X.w X.K H a kvs) : ∃ xs ys, H a = some (DNo X.prog X.w a xs) ∧ kvN xs = kvs ∧ (∀ x ∈ xs, KeyAt X.K H x.1 x.2.1) ∧ xs.length ≤ sizeLine ∧ (a == sysModules) = false ∧ Paired RN xs ys ∧ s.heap.DictOfH (nestedKind X.prog X.w) a ys := by
  obtain ⟨xs, h1, h2, h3⟩ := h
  obtain ⟨⟨z, nd, ys, pr, o, es, ep, g1, g2, g3, g4, g5⟩, _, _⟩ := (show ObjOk X.prog X.w H s.heap a (DNo X.prog X.w a xs) from I.hok a _ h1)
  refine ⟨xs, ys, h1, h2, h3, z, nd, pr, o, es, ep, g1, g2, g3, g4, fun y hy => ?_, g5⟩
  obtain ⟨x, hx, e1, e2, _⟩ := pair_mem pr hy
  rw [← e1, ← e2]
  exact (h3 x hx).is I
theorem at_val {xs : List (NestedKey × Addr × V)} {ys : List (NestedKey × Addr × Value)} (pr : Paired RN xs ys) (k : NestedKey) : RelO (valV (kvN xs) k) ((atKey ys k).map (·.2)) := by
  induction pr with
  | nil => exact trivial
  | @cons p q ps qs r t ih =>
    obtain ⟨r1, r2, r3⟩ := r
    by_cases e : p.1 = k
    · have e2 : q.1 = k := r1 ▸ e
      rw [show kvN (p :: ps) = (p.1, p.2.2) :: kvN ps from rfl, valV_pos e]
      have : atKey (q :: qs) k = some q.2 := by simp [atKey, e2]
      rw [this]
      exact r3
    · have e2 : ¬ q.1 = k := r1 ▸ e
      rw [show kvN (p :: ps) = (p.1, p.2.2) :: kvN ps from rfl, valV_neg e]
      have : atKey (q :: qs) k = atKey qs k := by simp [atKey, List.find?_cons, e2]
      rw [this]
      exact ih
/-- put: in its place, or at the end -/
def putN (xs : List (NestedKey × Addr × V)) (k : NestedKey) (b : Addr) (v : V) : List (NestedKey × Addr × V) :=
  if (xs.any fun x => decide (x.1 = k)) = true then xs.map (fun x => if x.1 = k then (x.1, x.2.1, v) else x) else xs ++ [(k, b, v)]
theorem kvN_put (xs : List (NestedKey × Addr × V)) (k : NestedKey) (b : Addr) (v : V) : kvN (putN xs k b v) = putK (kvN xs) k v := by
  unfold putN putK
  have e : ((kvN xs).any fun kv => decide (kv.1 = k)) = xs.any fun x => decide (x.1 = k) := by
    unfold kvN
    rw [List.any_map]
    rfl
  rw [e]
  split
  · unfold kvN
    rw [List.map_map, List.map_map]
    refine List.map_congr_left fun x _ => ?_
    by_cases h : x.1 = k <;> simp [h]
  · simp [kvN]
theorem any_pair {xs : List (NestedKey × Addr × V)} {ys : List (NestedKey × Addr × Value)} (pr : Paired RN xs ys) (k : NestedKey) : (xs.any fun x => decide (x.1 = k)) = (atKey ys k).isSome := by
  have h := (at_val pr k).isSome_eq
  rw [Option.isSome_map] at h
  rw [← h, ← valV_any]
  unfold kvN
  rw [List.any_map]
  rfl
theorem put_pair {xs : List (NestedKey × Addr × V)} {ys : List (NestedKey × Addr × Value)} (pr : Paired RN xs ys) (k : NestedKey) (b : Addr) {v : V} {u : Value} (r : RelV v u) : Paired RN (putN xs k b v) (storedH ys k b u) := by
  unfold putN storedH
  rw [any_pair pr k]
  split
  · exact pair_set r pr
  · exact pair_app r pr
theorem len_putN (xs : List (NestedKey × Addr × V)) (k : NestedKey) (b : Addr) (v : V) : (putN xs k b v).length ≤ xs.length + 1 := by
  unfold putN
  split
  · rw [List.length_map]
    omega
  · simp
theorem mem_putN {xs : List (NestedKey × Addr × V)} {k : NestedKey} {b : Addr} {v : V} {x : NestedKey × Addr × V} (h : x ∈ putN xs k b v) : (∃ y ∈ xs, x.1 = y.1 ∧ x.2.1 = y.2.1) ∨ (x.1 = k ∧ x.2.1 = b) := by
  unfold putN at h
  split at h
  · obtain ⟨y, hy, rfl⟩ := List.mem_map.mp h
    by_cases e : y.1 = k
    · rw [if_pos e]
      exact .inl ⟨y, hy, rfl, rfl⟩
    · rw [if_neg e]
      exact .inl ⟨y, hy, rfl, rfl⟩
  · rcases List.mem_append.mp h with h | h
    · exact .inl ⟨x, h, rfl, rfl⟩
    · simp only [List.mem_singleton] at h
      subst h
      exact .inr ⟨rfl, rfl⟩
/-- a dict of this sort is laid, written -/
theorem dno_ok {P : Program} {w : World} {H' : Hp} {h : Heap} {a : Addr} {xs : List (NestedKey × Addr × V)} {ys : List (NestedKey × Addr × Value)} (z : xs.length ≤ sizeLine) (nd : (a == sysModules) = false) (pr : Paired RN xs ys) (d : h.DictOfH (nestedKind P w) a ys) : ObjOk P w H' h a (DNo P w a xs) := by
  obtain ⟨o, es, ep, g1, g2, g3, g4, _, g5⟩ := d
  refine ⟨⟨z, nd, ys, pr, o, es, ep, g1, g2, g3, g4, g5⟩, ⟨o, g1⟩, ?_⟩
  rintro h1 h2 ⟨z', nd', ys', pr', o', es', ep', g1', g2', g3', g4', g5'⟩ k
  exact ⟨z', nd', ys', pr', o', es', ep', k _ g1', g2', g3', g4', g5'⟩
theorem dno_mut {P : Program} {w : World} {a : Addr} {xs : List (NestedKey × Addr × V)} (h : H a = some (DNo P w a xs)) : Mut (H a) := by
  rw [h]
  exact True.intro
theorem dno_tup {P : Program} {w : World} {a : Addr} {xs : List (NestedKey × Addr × V)} {us : List V} : HO.tup us ≠ DNo P w a xs := fun z => by
  unfold DNo at z
  cases z
theorem KeyAt.put {K : PySem.W.Frag} {P : Program} {w : World} {a b : Addr} {xs : List (NestedKey × Addr × V)} {k : NestedKey} {o : HO} (ha : H a = some (DNo P w a xs)) (h : KeyAt K H k b) : KeyAt K (upd H a o) k b := h.mono fun c u r => by
  rcases r with r | ⟨ob, r⟩
  · exact .inl (by rw [upd_ne (ne_of r ha dno_tup)]; exact r)
  · exact .inr ⟨ob, by rw [upd_ne (ne_of r ha (fun z => by unfold DNo at z; cases z))]; exact r⟩
theorem room8 {A : Around} (hu : A.units + 65 < cLine) : (nestedKind X.prog X.w).room A.in1 := by
  show A.units + 1 + 8 < cLine
  omega
/-- d[k] = v, by values -/
theorem dn_set {A : Around} {E : Value → Shared → Prop} {a b : Addr} {kvs : List (NestedKey × V)} {k : NestedKey} {v : V} {u : Value} {Q : Unit → Shared → Prop} (hu : A.units + 65 < cLine) (I : L2.Inv X pins σ H s) (hd : DN X.prog X.w X.K H a kvs) (hk : KeyAt X.K H k b) (hz : kvs.length < sizeLine) (rv : RelV v u)
    (h : ∀ o s', L2.Inv X pins σ (upd H a o) s' → DN X.prog X.w X.K (upd H a o) a (putK kvs k v) → Q () s') : wpAny (model X.prog X.w) A (setItem (.ref a) (.ref b) u) Q E s := by
  obtain ⟨xs, ys, h1, rfl, h3, z, nd, pr, dd⟩ := hd.raw I
  have hzy : ys.length ≤ sizeLine := by rw [← Paired.length pr]; exact z
  have hzx : xs.length < sizeLine := by
    have : (kvN xs).length = xs.length := by unfold kvN; rw [List.length_map]
    omega
  refine wpAny_setItem_heap (hsz := hzy) (room8 hu) (hk.is I) dd fun h' dd' hs => ?_
  have he : ∃ q, h'.get? a = some q := let ⟨q, _, _, hq, _⟩ := dd'; ⟨q, hq⟩
  have hl : (putN xs k b v).length ≤ sizeLine := by have := len_putN xs k b v; omega
  refine h (DNo X.prog X.w a (putN xs k b v)) _ (d_write I (dno_mut h1) hs he (dno_ok hl nd (put_pair pr k b rv) dd')) ⟨_, upd_same, kvN_put _ _ _ _, fun x hx => ?_⟩
  rcases mem_putN hx with ⟨y, hy, e1, e2⟩ | ⟨e1, e2⟩
  · rw [e1, e2]
    exact (h3 y hy).put h1
  · rw [e1, e2]
    exact hk.put h1
theorem dn_setRaw {E : Value → Shared → Prop} {a b : Addr} {kvs : List (NestedKey × V)} {k : NestedKey} {v : V} {u : Value} {Q : Unit → Shared → Prop} (hu : X.A.units + 65 < cLine) (I : L2.Inv X pins σ H s) (hd : DN X.prog X.w X.K H a kvs) (hk : KeyAt X.K H k b) (hz : kvs.length < sizeLine) (rv : RelV v u)
    (h : ∀ o s', L2.Inv X pins σ (upd H a o) s' → DN X.prog X.w X.K (upd H a o) a (putK kvs k v) → Q () s') : wpAny (model X.prog X.w) X.A (dictSet a (.ref b) u) Q E s := by
  obtain ⟨xs, ys, h1, rfl, h3, z, nd, pr, dd⟩ := hd.raw I
  have hzy : ys.length ≤ sizeLine := by rw [← Paired.length pr]; exact z
  have hzx : xs.length < sizeLine := by
    have : (kvN xs).length = xs.length := by unfold kvN; rw [List.length_map]
    omega
  refine wpAny_dictSet_heap (hsz := hzy) (show (nestedKind X.prog X.w).room X.A by show X.A.units + 8 < cLine; omega) (hk.is I) dd fun h' dd' hs => ?_
  have he : ∃ q, h'.get? a = some q := let ⟨q, _, _, hq, _⟩ := dd'; ⟨q, hq⟩
  have hl : (putN xs k b v).length ≤ sizeLine := by have := len_putN xs k b v; omega
  refine h (DNo X.prog X.w a (putN xs k b v)) _ (d_write I (dno_mut h1) hs he (dno_ok hl nd (put_pair pr k b rv) dd')) ⟨_, upd_same, kvN_put _ _ _ _, fun x hx => ?_⟩
  rcases mem_putN hx with ⟨y, hy, e1, e2⟩ | ⟨e1, e2⟩
  · rw [e1, e2]
    exact (h3 y hy).put h1
  · rw [e1, e2]
    exact hk.put h1
end
section
variable {X : Cx} {o i value : Expr} {pos pos' : Pos} {td ty tv : TE}
def tDNewN (P : Program) (w : World) (K : PySem.W.Frag) : TE := fun _ H Q => ∀ p o, H p = none → DN P w K (upd H p o) p [] → Q (.ref p) (upd H p o)
theorem pe_dnewN : PE X (.Dict [] [] pos) (tDNewN X.prog X.w X.K) := ⟨fun pins s σ H Q I h =>
  wpAny_Dict_empty ⟨.ref s.heap.objs.size, upd H s.heap.objs.size (DNo X.prog X.w s.heap.objs.size []), I.laid (t' := s.toks) (fun _ _ q => Heap.get?_push_of_some _ q) (Nat.le_refl _)
      (dno_ok (Nat.zero_le _) (beq_eq_false_iff_ne.mpr (Ne.symm (Nat.ne_of_lt I.big))) .nil (Heap.DictOfH.new s.heap)), rfl,
    h _ _ (I.hok.fresh (Nat.le_refl _)) ⟨[], upd_same, rfl, fun _ z => nomatch z⟩⟩⟩
def tDGetN (P : Program) (w : World) (K : PySem.W.Frag) (td ty : TE) : TE := fun σ H Q => td σ H fun x H1 => ty σ H1 fun y H2 => ∃ a b kvs k v, x = .ref a ∧ y = .ref b ∧ DN P w K H2 a kvs ∧ KeyAt K H2 k b ∧ valV kvs k = some v ∧ Q v H2
theorem pe_dgetN (hu : X.A.units + 65 < cLine) (ho : PE X o td) (hi : PE X i ty) (hs : NoSl i) : PE X (.Subscript o i pos) (tDGetN X.prog X.w X.K td ty) := by
  refine ⟨fun pins s σ H Q I h => ?_⟩
  refine subD_of PySem.F.slot_dict_getitem.lookup hs (thn (ho.run pins s σ H _ I h) fun u s1 ⟨x, H1, I1, rx, q1⟩ => thn (hi.run pins s1 σ H1 _ I1 q1) fun iv s2 ⟨y, H2, I2, ry, a, b, kvs, k, v, ex, ey, hd, hk, hv, q2⟩ => ?_)
  subst ex ey
  obtain rfl : u = Value.ref a := rx
  obtain rfl : iv = Value.ref b := ry
  obtain ⟨xs, ys, h1, rfl, h3, z, nd, pr, dd⟩ := hd.raw I2
  refine ⟨dd.typeIs, ?_⟩
  obtain ⟨w', hw, rw'⟩ := RelO.some_of (v := v) (o := (atKey ys k).map (·.2)) (by rw [← hv]; exact at_val pr k)
  obtain ⟨p, hp, rfl⟩ := Option.map_eq_some_iff.mp hw
  exact wpAny_getItem_heap (room8 hu) (hk.is I2) dd hp ⟨v, H2, I2.tok _, rw', q2⟩
def rDInN (P : Program) (w : World) (K : PySem.W.Frag) : R2 := fun y x H Q => ∃ a b kvs k, x = .ref a ∧ y = .ref b ∧ DN P w K H a kvs ∧ KeyAt K H k b ∧ Q (.bl (valV kvs k).isSome) H
theorem op_dinN (hu : X.A.units + 65 < cLine) : OpR X (compareOp .In) (rDInN X.prog X.w X.K) := by
  intro pins s σ H y x iv u Q I ry rx h
  obtain ⟨a, b, kvs, k, rfl, rfl, hd, hk, q⟩ := h
  obtain rfl : u = Value.ref a := rx
  obtain rfl : iv = Value.ref b := ry
  obtain ⟨xs, ys, h1, rfl, h3, z, nd, pr, dd⟩ := hd.raw I
  refine wpAny_in_heap (room8 hu) (hk.is I) nd dd ⟨.bl _, H, I.tok _, ?_, q⟩
  have := (at_val pr k).isSome_eq
  rw [Option.isSome_map] at this
  rw [this]
  rfl
def sDPutN (P : Program) (w : World) (K : PySem.W.Frag) (td ty tv : TE) : TS := fun D σ H => tv σ H fun v H1 => td σ H1 fun x H2 => ty σ H2 fun y H3 => ∃ a b kvs k, x = .ref a ∧ y = .ref b ∧ DN P w K H3 a kvs ∧ KeyAt K H3 k b ∧ kvs.length < sizeLine ∧ ∀ o, DN P w K (upd H3 a o) a (putK kvs k v) → D.nx σ (upd H3 a o)
theorem ps_dputN (hu : X.A.units + 65 < cLine) (ho : PE X o td) (hi : PE X i ty) (hv : PE X value tv) (hs : swapsWith value (some (.Subscript o i pos')) pos.line X.env = pure false) : PS X (.Assign [.Subscript o i pos'] value pos) (sDPutN X.prog X.w X.K td ty tv) := by
  refine ⟨fun pins s σ H D I h => ?_⟩
  refine wpAny_Assign_Subscript (thn (hv.run pins s σ H _ I h) fun r s1 ⟨v, H1, I1, rv, q1⟩ => thn (ho.run pins s1 σ H1 _ I1 q1) fun u s2 ⟨x, H2, I2, rx, q2⟩ => thn (hi.run pins s2 σ H2 _ I2 q2) fun iv s3 ⟨y, H3, I3, ry, a, b, kvs, k, ex, ey, hd, hk, hz, q3⟩ => ?_) hs
  subst ex ey
  obtain rfl : u = Value.ref a := rx
  obtain rfl : iv = Value.ref b := ry
  exact dn_set hu I3 hd hk hz rv fun o' s4 I4 d4 => ⟨σ, _, I4, q3 o' d4⟩
/-- len(d) -/
theorem call_lenN : CallR X (.builtin "len") (fun xs H Q => ∃ a kvs, xs = [.ref a] ∧ DN X.prog X.w X.K H a kvs ∧ Q (.int kvs.length) H) := by
  intro pins s σ H xs us Q I r h
  obtain ⟨a, kvs, rfl, hd, q⟩ := h
  obtain ⟨u, rfl, r1⟩ := vals1 r
  obtain rfl : u = Value.ref a := r1
  obtain ⟨xs, ys, h1, rfl, h3, z, nd, pr, dd⟩ := hd.raw I
  have e : (kvN xs).length = ys.length := by
    unfold kvN
    rw [List.length_map]
    exact Paired.length pr
  rw [e] at q
  exact call_len_dictH nd dd (by rw [← Paired.length pr]; rw [sizeLine_eq] at z; omega) ⟨.int _, H, I.tok _, ⟨_, rfl⟩, q⟩
/-- isinstance(d, c) -/
theorem call_isiN : CallR X (.builtin "isinstance") (fun xs H Q => ∃ (a : Addr) (kvs : List (NestedKey × V)) (c : V) (u : Value) (b : Bool), xs = [.ref a, c] ∧ DN X.prog X.w X.K H a kvs ∧ ClsV c u ∧ PySem.W.kitOne X.K (.type "dict") u = some b ∧ Q (.bl b) H) := by
  intro pins s σ H xs us Q I r h
  obtain ⟨a, kvs, c, u, b, rfl, hd, k, e, q⟩ := h
  obtain ⟨u1, u2, rfl, r1, r2⟩ := vals2 r
  have e2 := k.eq r2
  subst e2
  obtain rfl : u1 = Value.ref a := r1
  obtain ⟨xs, ys, h1, rfl, h3, z, nd, pr, o, es, ep, g1, g2, _⟩ := hd.raw I
  exact PySem.W.kia_one PySem.W.kitx_dict I.kIn ⟨o, g1, g2.1⟩ e (fun z => nomatch z) fun tk => ⟨.bl b, H, I.tok tk, rfl, q⟩
end
end Sh
set_option Elab.async false
set_option linter.all false
set_option maxRecDepth 100000
set_option maxHeartbeats 4000000
namespace Sh
open PySem PySem.Spec PyProof.Rows L2 PySem.W
/-! ### dicts whose keys stand on the heap, compared -/
section
variable {prog : Program} {w : World} {K : Type} [DecidableEq K] {knd : HeapKind prog w K} {A : Around} {E : Value → Shared → Prop} {s : Shared}
theorem atKey_at {ys : List (K × Addr × Value)} (nd : (ys.map (·.1)).Nodup) {j : Nat} {k : K} {p : Addr × Value} (h : ys[j]? = some (k, p)) : atKey ys k = some p := by
  induction ys generalizing j with
  | nil => cases h
  | cons y ys ih =>
    rw [List.map_cons, List.nodup_cons] at nd
    cases j with
    | zero =>
      simp only [List.getElem?_cons_zero, Option.some.injEq] at h
      subst h
      simp [atKey]
    | succ j =>
      simp only [List.getElem?_cons_succ] at h
      have hm : k ∈ ys.map (·.1) := List.mem_map.mpr ⟨(k, p), List.mem_of_getElem? h, rfl⟩
      have e : ¬ y.1 = k := fun e => nd.1 (e ▸ hm)
      have := ih nd.2 h
      unfold atKey at this ⊢
      rw [List.find?_cons_of_neg (by simpa using e)]
      exact this
theorem atKey_non {ys : List (K × Addr × Value)} {k : K} (h : ∀ (j : Nat) (p : Addr × Value), ys[j]? ≠ some (k, p)) : atKey ys k = none := by
  unfold atKey
  rw [Option.map_eq_none_iff, List.find?_eq_none]
  intro y hy e
  obtain ⟨j, hj⟩ := List.getElem?_of_mem hy
  have e : y.1 = k := of_decide_eq_true e
  exact h j y.2 (by rw [hj, ← e])
theorem samePairs_heap {nm : String} {a b : Addr} {xs ys : List (K × Addr × Value)} {r : Bool} {Q : Bool → Shared → Prop} (ha : (a == sysModules) = false) (hb : (b == sysModules) = false)
    (da : s.heap.DictOfH knd a xs) (db : s.heap.DictOfH knd b ys) (hu : knd.room A) (hits : xs.length = ys.length → KeqHits A s (pairsH ys) (pairsH xs) r) (h : Q (xs.length == ys.length && r) s) :
    wpAny (model prog w) A (Builtin.Dict.samePairs nm a b) Q E s := by
  obtain ⟨oa, es, ep, hoa, _, hda, hea, hia, hna⟩ := da
  obtain ⟨ob, es', ep', hob, _, hdb, heb, hib, hnb⟩ := db
  have hla : xs.length = es.size := (size_of_entries hea).symm
  have hlb : ys.length = es'.size := (size_of_entries heb).symm
  have hpl : (pairsH xs).length = es.size := by rw [pairsH_length]; exact hla
  rw [hla, hlb] at h
  unfold Builtin.Dict.samePairs Builtin.Dict.showsAll
  rw [if_neg (show ¬ (a == sysModules) = true by rw [ha]; exact Bool.false_ne_true), if_neg (show ¬ (b == sysModules) = true by rw [hb]; exact Bool.false_ne_true)]
  refine wpAny_bind (wpAny_pure (wpAny_bind (wpAny_pure ?_)))
  refine wpAny_bind (wpAny_dictEntries hoa hda ?_)
  dsimp only
  refine wpAny_bind (wpAny_dictEntries hob hdb ?_)
  by_cases hsz : es.size = es'.size
  case neg =>
    rw [if_pos (by simpa using hsz)]
    have hbf : (es.size == es'.size) = false := by simpa using hsz
    rw [hbf, Bool.false_and] at h
    exact wpAny_bind (wpAny_rule (wpAny_pure h))
  case pos =>
    have h' : Q r s := by simpa [hsz] using h
    have hits' := hits (by rw [hla, hlb]; exact hsz)
    rw [if_neg (by rw [hsz]; simp)]
    refine wpAny_bind (wpAny_dictEpoch hoa hda ?_)
    refine wpAny_bind ?_
    rw [Std.Legacy.Range.forIn_eq_forIn_range']
    simp only [Std.Legacy.Range.size, Nat.sub_zero, Nat.add_sub_cancel, Nat.div_one]
    refine wpAny_forIn_list _
      (fun rest q s' => s' = s ∧ q = (none, ()) ∧ ∃ i, rest = List.range' i (es.size - i) ∧ i ≤ es.size ∧ KeqHits A s (pairsH ys) ((pairsH xs).drop i) r)
      _ ?_ ?_ _ _ ⟨rfl, rfl, 0, by simp, Nat.zero_le _, hits'⟩
    · rintro x rest q s' ⟨rfl, rfl, i, hr, hi, hpre⟩
      have hlt : i < es.size := by
        rcases Nat.lt_or_ge i es.size with h | h
        · exact h
        · rw [Nat.sub_eq_zero_of_le h] at hr; simp at hr
      obtain ⟨rfl, hrest⟩ : x = i ∧ rest = List.range' (i + 1) (es.size - (i + 1)) := by
        have e : es.size - i = (es.size - (i + 1)) + 1 := by omega
        rw [e, List.range'_succ] at hr
        injection hr with h1 h2
        exact ⟨h1, h2⟩
      refine wpAny_bind (wpAny_dictEntries hoa hda ?_)
      rw [Array.getElem?_eq_getElem hlt]
      have hlt' : x < xs.length := by rw [hla]; exact hlt
      obtain ⟨⟨k, c, v⟩, hkv⟩ : ∃ y, xs[x]? = some y := ⟨xs[x], List.getElem?_eq_getElem _⟩
      have hex : es[x] = entryOfKey knd (k, c, v) := by
        have := entry_at hea x
        rw [hkv, Array.getElem?_eq_getElem hlt] at this
        exact Option.some.inj this
      have hpx : (pairsH xs)[x]? = some (k, v) := by unfold pairsH; rw [List.getElem?_map, hkv]; rfl
      have hdrop : (pairsH xs).drop x = (k, v) :: (pairsH xs).drop (x + 1) := by
        rw [List.drop_eq_getElem_cons (by rw [pairsH_length]; exact hlt')]
        rw [List.getElem?_eq_getElem (by rw [pairsH_length]; exact hlt')] at hpx
        rw [Option.some.inj hpx]
      rw [hdrop] at hpre
      rw [hex]
      show wpAny _ _ (holding [Value.ref c, v] _ >>= _) _ _ _
      have hik : knd.is s'.heap k c := hia _ (List.mem_of_getElem? hkv)
      refine wpAny_bind (wpAny_holding (wpAny_bind (wpAny_dictFind_heap hu hik hob hdb heb hib hnb (fun hnone => ?_) (fun j p hj => ?_))))
      · have hn : valueAt (pairsH ys) k = none := by rw [valueAt_pairsH, atKey_non hnone]; rfl
        rcases hpre.inv with ⟨_, er⟩ | ⟨y, _, _, hy, _⟩
        · rw [er] at h'
          refine wpAny_pure ?_
          show wpAny _ _ (if (!false) = true then _ else _) _ _ _
          rw [if_pos (by decide)]
          exact wpAny_pure (wpAny_pure h')
        · rw [hn] at hy; exact nomatch hy
      · have hv' : valueAt (pairsH ys) k = some p.2 := by rw [valueAt_pairsH, atKey_at hnb hj]; rfl
        have hjlt : j < es'.size := by rw [← hlb]; exact (List.getElem?_eq_some_iff.mp hj).1
        have hej : es'[j]? = some (entryOfKey knd (k, p)) := by rw [entry_at heb j, hj]; rfl
        refine wpAny_bind (wpAny_dictEntries hob hdb ?_)
        rw [hej]
        rcases hpre.inv with ⟨hn, _⟩ | ⟨y, e, b', hy, he, hrr, er⟩
        · rw [hv'] at hn; exact nomatch hn
        · have ey : p.2 = y := Option.some.inj (hv'.symm.trans hy)
          rw [← ey] at he
          refine wpAny_holding (he prog w _ _ ?_)
          cases e with
          | false =>
            rw [er, Bool.false_and] at h'
            show wpAny _ _ (if (!false) = true then _ else _) _ _ _
            rw [if_pos (by decide)]
            exact wpAny_pure (wpAny_pure h')
          | true =>
            rw [Bool.true_and] at er
            rw [← er] at hrr
            show wpAny _ _ (if (!true) = true then _ else _) _ _ _
            rw [if_neg (by decide)]
            refine wpAny_bind (wpAny_dictEpoch hoa hda ?_)
            rw [if_neg (by simp)]
            exact wpAny_pure ⟨rfl, rfl, x + 1, hrest, hlt, hrr⟩
    · rintro q s' ⟨rfl, rfl, i, hr, hi, hpre⟩
      have hin : i = es.size := by
        rcases Nat.lt_or_ge i es.size with h | h
        · have e : es.size - i = (es.size - (i + 1)) + 1 := by omega
          rw [e, List.range'_succ] at hr; exact nomatch hr
        · exact Nat.le_antisymm hi h
      refine wpAny_pure ?_
      rw [hin, ← hpl, List.drop_length] at hpre
      cases hpre
      exact h'
theorem ne_heap {a b : Addr} {xs ys : List (K × Addr × Value)} {r : Bool} {Q : Value → Shared → Prop} (ha : (a == sysModules) = false) (hb : (b == sysModules) = false)
    (da : s.heap.DictOfH knd a xs) (db : s.heap.DictOfH knd b ys) (hu : A.units < cLine) (hu2 : knd.room A.in1) (hits : xs.length = ys.length → KeqHits A.in1 s (pairsH ys) (pairsH xs) r) (h : Q (.bool (!(xs.length == ys.length && r))) s) :
    wpAny (model prog w) A (compareOp .NotEq (.ref a) (.ref b)) Q E s := by
  refine wpAny_richCompare_same_room (op := .NotEq) da.typeIs db.typeIs PySem.F.slot_dict_ne (wpAny_call_entry PySem.F.slot_dict_ne da.typeIs PySem.F.entry_dict_ne ?_ (PySem.F.args_dict_ne_2 _ _)) hu
  show wpAny _ _ (Builtin.Dict.dictSlotArgs "__ne__" ⟨[.ref a, .ref b], []⟩ >>= _) _ _ s
  refine wpAny_bind ?_
  unfold Builtin.Dict.dictSlotArgs
  refine wpAny_bind (wpAny_notOrdered_dict da.typeIs ?_)
  show wpAny _ _ (pure (Value.ref a, Value.ref b)) _ _ s
  refine wpAny_pure ?_
  refine wpAny_bind (wpAny_isInstance (T := "dict") db.typeIs PySem.F.sub_dict_dict ?_)
  simp only [Bool.not_true, Bool.false_eq_true, if_false]
  refine wpAny_bind (wpAny_pure (wpAny_bind (wpAny_pure ?_)))
  refine wpAny_bind (samePairs_heap ha hb da db hu2 hits ?_)
  refine wpAny_pure ⟨_, rfl, ?_, ?_⟩
  · exact fun x => nomatch x
  · simpa using h
theorem eq_heap {a b : Addr} {xs ys : List (K × Addr × Value)} {r : Bool} {Q : Value → Shared → Prop} (ha : (a == sysModules) = false) (hb : (b == sysModules) = false)
    (da : s.heap.DictOfH knd a xs) (db : s.heap.DictOfH knd b ys) (hu : A.units < cLine) (hu2 : knd.room A.in1) (hits : xs.length = ys.length → KeqHits A.in1 s (pairsH ys) (pairsH xs) r) (h : Q (.bool (xs.length == ys.length && r)) s) :
    wpAny (model prog w) A (compareOp .Eq (.ref a) (.ref b)) Q E s := by
  refine wpAny_richCompare_same_room (op := .Eq) da.typeIs db.typeIs PySem.F.slot_dict_eq (wpAny_call_entry PySem.F.slot_dict_eq da.typeIs PySem.F.entry_dict_eq ?_ (PySem.F.args_dict_eq_2 _ _)) hu
  show wpAny _ _ (Builtin.Dict.dictSlotArgs "__eq__" ⟨[.ref a, .ref b], []⟩ >>= _) _ _ s
  refine wpAny_bind ?_
  unfold Builtin.Dict.dictSlotArgs
  refine wpAny_bind (wpAny_notOrdered_dict da.typeIs ?_)
  show wpAny _ _ (pure (Value.ref a, Value.ref b)) _ _ s
  refine wpAny_pure ?_
  refine wpAny_bind (wpAny_isInstance (T := "dict") db.typeIs PySem.F.sub_dict_dict ?_)
  simp only [Bool.not_true, Bool.false_eq_true, if_false]
  refine wpAny_bind (wpAny_pure (wpAny_bind (wpAny_pure ?_)))
  refine wpAny_bind (samePairs_heap ha hb da db hu2 hits ?_)
  refine wpAny_pure ⟨_, rfl, ?_, ?_⟩
  · exact fun x => nomatch x
  · simpa using h
end
/-- values of one dict in the other, all the same -/
theorem hits_dn {A : Around} {s : Shared} {ks : List (NestedKey × Addr × V)} {ya : List (NestedKey × Addr × Value)} {ls : List (NestedKey × Addr × V)} {yb : List (NestedKey × Addr × Value)} (rb : Paired RN ls yb) (ra : Paired RN ks ya) :
    (∀ p ∈ kvN ks, valV (kvN ls) p.1 = some p.2 ∧ flatB p.2 = true) → KeqHits A s (pairsH yb) (pairsH ya) true := by
  induction ra with
  | nil => intro _; exact .nil
  | @cons p q ps qs h t ih =>
    intro hp
    obtain ⟨h1, _, h3⟩ := h
    obtain ⟨e, f⟩ := hp (p.1, p.2.2) List.mem_cons_self
    have rr : RelO (some p.2.2) (valueAt (pairsH yb) p.1) := by
      rw [← e, valueAt_pairsH]
      exact at_val rb p.1
    obtain ⟨y, hy, ry⟩ := rr.some_of
    obtain ⟨k, c, v⟩ := q
    have h1' : p.1 = k := h1
    rw [h1'] at hy
    show KeqHits A s (pairsH yb) ((k, v) :: pairsH qs) (true && true)
    exact .hit hy (eqAt_same h3 ry f) (ih fun p' hm => hp p' (List.mem_cons_of_mem _ hm))
section
variable {X : Cx}
/-- the two dicts have the same keys and values, in any order -/
def SameN (ks ls : List (NestedKey × V)) : Prop := ks.length = ls.length ∧ ∀ p ∈ ks, valV ls p.1 = some p.2 ∧ flatB p.2 = true
def rEqDN (P : Program) (w : World) (K : PySem.W.Frag) (r : Bool) : R2 := fun x y H Q => ∃ a b ks ls, x = .ref a ∧ y = .ref b ∧ DN P w K H a ks ∧ DN P w K H b ls ∧ SameN ks ls ∧ Q (.bl r) H
theorem kvN_len (xs : List (NestedKey × Addr × V)) : (kvN xs).length = xs.length := List.length_map _
theorem op_eqN (hu : X.A.units + 65 < cLine) : OpR X (compareOp .Eq) (rEqDN X.prog X.w X.K true) := by
  intro pins s σ H x y v u Q I rx ry h
  obtain ⟨a, b, ks, ls, rfl, rfl, da, db, ⟨hl, hp⟩, q⟩ := h
  obtain rfl : v = Value.ref a := rx
  obtain rfl : u = Value.ref b := ry
  obtain ⟨xs, ya, h1, rfl, h3, z, nd, pr, dd⟩ := da.raw I
  obtain ⟨xs', yb, h1', rfl, h3', z', nd', pr', dd'⟩ := db.raw I
  have hl : ya.length = yb.length := by
    rw [← Paired.length pr, ← Paired.length pr', ← kvN_len xs, ← kvN_len xs']
    exact hl
  exact eq_heap nd nd' dd dd' (show X.A.units < cLine by omega) (room8 hu) (fun _ => hits_dn pr' pr hp) (fin_bl I q (by simp [hl]))
theorem op_neN (hu : X.A.units + 65 < cLine) : OpR X (compareOp .NotEq) (rEqDN X.prog X.w X.K false) := by
  intro pins s σ H x y v u Q I rx ry h
  obtain ⟨a, b, ks, ls, rfl, rfl, da, db, ⟨hl, hp⟩, q⟩ := h
  obtain rfl : v = Value.ref a := rx
  obtain rfl : u = Value.ref b := ry
  obtain ⟨xs, ya, h1, rfl, h3, z, nd, pr, dd⟩ := da.raw I
  obtain ⟨xs', yb, h1', rfl, h3', z', nd', pr', dd'⟩ := db.raw I
  have hl : ya.length = yb.length := by
    rw [← Paired.length pr, ← Paired.length pr', ← kvN_len xs, ← kvN_len xs']
    exact hl
  exact ne_heap nd nd' dd dd' (show X.A.units < cLine by omega) (room8 hu) (fun _ => hits_dn pr' pr hp) (fin_bl I q (by simp [hl]))
end
/-! ### read while locked, walked -/
/-- as DN, the dict may be locked -/
def DNr (P : Program) (w : World) (K : PySem.W.Frag) (H : Hp) (a : Addr) (kvs : List (NestedKey × V)) : Prop := ∃ xs, Rd H a (DNo P w a xs) ∧ kvN xs = kvs ∧ ∀ x ∈ xs, KeyAt K H x.1 x.2.1
theorem DN.r {P : Program} {w : World} {K : PySem.W.Frag} {H : Hp} {a : Addr} {kvs : List (NestedKey × V)} (h : DN P w K H a kvs) : DNr P w K H a kvs := by
  obtain ⟨xs, h1, h2, h3⟩ := h
  exact ⟨xs, .inl h1, h2, h3⟩
section
variable {X : Cx} {pins : List (Addr × Obj)} {σ : L2.St} {H : Hp} {s : Shared}
theorem DNr.raw {a : Addr} {kvs : List (NestedKey × V)} (I : L2.Inv X pins σ H s) (h : DNr X.prog X.w X.K H a kvs) : ∃ xs ys, Rd H a (DNo X.prog X.w a xs) ∧ kvN xs = kvs ∧ (∀ x ∈ xs, KeyAt X.K H x.1 x.2.1) ∧ xs.length ≤ sizeLine ∧ (a == sysModules) = false ∧ Paired RN xs ys ∧ s.heap.DictOfH (nestedKind X.prog X.w) a ys := by
  obtain ⟨xs, h1, h2, h3⟩ := h
  obtain ⟨⟨z, nd, ys, pr, o, es, ep, g1, g2, g3, g4, g5⟩, _, _⟩ := (show ObjOk X.prog X.w H s.heap a (DNo X.prog X.w a xs) from h1.ok I.hok)
  refine ⟨xs, ys, h1, h2, h3, z, nd, pr, o, es, ep, g1, g2, g3, g4, fun y hy => ?_, g5⟩
  obtain ⟨x, hx, e1, e2, _⟩ := pair_mem pr hy
  rw [← e1, ← e2]
  exact (h3 x hx).is I
variable {o i : Expr} {pos : Pos} {td ty : TE}
def tDGetR (P : Program) (w : World) (K : PySem.W.Frag) (td ty : TE) : TE := fun σ H Q => td σ H fun x H1 => ty σ H1 fun y H2 => ∃ a b kvs k v, x = .ref a ∧ y = .ref b ∧ DNr P w K H2 a kvs ∧ KeyAt K H2 k b ∧ valV kvs k = some v ∧ Q v H2
theorem pe_dgetR (hu : X.A.units + 65 < cLine) (ho : PE X o td) (hi : PE X i ty) (hs : NoSl i) : PE X (.Subscript o i pos) (tDGetR X.prog X.w X.K td ty) := by
  refine ⟨fun pins s σ H Q I h => ?_⟩
  refine subD_of PySem.F.slot_dict_getitem.lookup hs (thn (ho.run pins s σ H _ I h) fun u s1 ⟨x, H1, I1, rx, q1⟩ => thn (hi.run pins s1 σ H1 _ I1 q1) fun iv s2 ⟨y, H2, I2, ry, a, b, kvs, k, v, ex, ey, hd, hk, hv, q2⟩ => ?_)
  subst ex ey
  obtain rfl : u = Value.ref a := rx
  obtain rfl : iv = Value.ref b := ry
  obtain ⟨xs, ys, h1, rfl, h3, z, nd, pr, dd⟩ := hd.raw I2
  refine ⟨dd.typeIs, ?_⟩
  obtain ⟨w', hw, rw'⟩ := RelO.some_of (v := v) (o := (atKey ys k).map (·.2)) (by rw [← hv]; exact at_val pr k)
  obtain ⟨p, hp, rfl⟩ := Option.map_eq_some_iff.mp hw
  exact wpAny_getItem_heap (room8 hu) (hk.is I2) dd hp ⟨v, H2, I2.tok _, rw', q2⟩
end
section
variable {X : Cx} {pins : List (Addr × Obj)} {σ : L2.St} {H : Hp} {s : Shared} {d : Addr} {o : Obj}
theorem inv_frzN {xs : List (NestedKey × Addr × V)} (I : L2.Inv X pins σ H s) (h : H d = some (.frz o (DNo X.prog X.w d xs))) :
    (d == sysModules) = false ∧ s.heap.get? d = some o ∧ o.ExactDict ∧ ∃ (es : Array DictEntry) (ep : Nat), o.data = .dict es ep ∧ es.size = xs.length ∧
      ∀ (i : Nat) (x : NestedKey × Addr × V), xs[i]? = some x → ∃ en : DictEntry, es[i]? = some en ∧ en.key = .ref x.2.1 := by
  obtain ⟨hd, ⟨z, nd, ys, pr, o', es, ep, g1, g2, g3, g4, g5⟩, _, _⟩ := I.hok d _ h
  rw [hd] at g1
  cases g1
  refine ⟨nd, hd, g2, es, ep, g3, ?_, fun i x e => ?_⟩
  · rw [size_of_entries g4]
    exact (Paired.length pr).symm
  · obtain ⟨y, hy, e1, e2, _⟩ := paired_get pr e
    have q := entry_at g4 i
    rw [hy] at q
    exact ⟨_, q, by rw [e2]; rfl⟩
end
/-- the keys of the locked dict at d: their own tuples, in order -/
def Itkn (P : Program) (w : World) (d : Addr) (o : Obj) (xs : List (NestedKey × Addr × V)) : It :=
  ⟨fun i H => H d = some (.frz o (DNo P w d xs)) ∧ i < xs.length, fun i H x H' => H' = H ∧ ∃ p, xs[i]? = some p ∧ x = .ref p.2.1, fun i H => H d = some (.frz o (DNo P w d xs)) ∧ xs.length ≤ i⟩
section
variable {P : Program} {w : World} {K : PySem.W.Frag} {tg : Expr} {d : Addr} {o : Obj} {es : Array DictEntry} {ep : Nat}
theorem turn_keysN {xs : List (NestedKey × Addr × V)} (it : Addr) (hod : o.data = .dict es ep) : Turn P w K tg (Itkn P w d o xs) [it] it (fun i h => h.IsKeyIter it d i xs.length ep) where
  mem := by simp
  obj := fun i h st b hb => by
    have e : b = it := by simpa using hb
    subst e
    obtain ⟨oi, e, c, dd⟩ := st
    exact ⟨oi, e, fun v z => by rw [dd] at z; cases z⟩
  keep := fun i h h' st k => st.at fun oi e => k it (by simp) oi e
  item := by
    intro X hP hw hK hc i pins s σ H E I hf st hg
    subst hP hw hK
    obtain ⟨hd, hi⟩ := hg
    obtain ⟨f0, f1, f2, f3, f4, f5⟩ := hf it (by simp)
    obtain ⟨hs, hgd, hx, es', ep', hdt, hsz, ent⟩ := inv_frzN I hd
    obtain ⟨rfl, rfl⟩ := dict_ep hod hdt
    obtain ⟨p, hp⟩ : ∃ p, xs[i]? = some p := ⟨xs[i], List.getElem?_eq_getElem hi⟩
    obtain ⟨en, hen, hkey⟩ := ent i p hp
    refine next_key_item st hgd hdt hsz hen fun h' st' sb => ?_
    have I1 : L2.Inv X pins σ H { s with heap := h' } := I.turned (t' := s.toks) (fun b ob hb e => (sb.2 b hb).trans e) f0 f1 f3 f4 f5
    obtain ⟨oi, e, c, dd⟩ := id st'
    exact ⟨en.key, rfl, go_of (s := { s with heap := h' }) e c dd (by decide) ⟨.ref p.2.1, H, I1, hkey, ⟨rfl, p, hp, rfl⟩, st', fun b hb => (hf b hb).1⟩⟩
  done := by
    intro X hP hw hK hc i pins s σ H E I hf st hg
    subst hP hw hK
    obtain ⟨hd, hi⟩ := hg
    obtain ⟨f0, f1, f2, f3, f4, f5⟩ := hf it (by simp)
    obtain ⟨hs, hgd, hx, es', ep', hdt, hsz, ent⟩ := inv_frzN I hd
    obtain ⟨rfl, rfl⟩ := dict_ep hod hdt
    exact next_key_end (I.ok.hd hc) st hgd hdt hsz hi fun h' eb => ⟨rfl, I.turned (t' := s.toks) (fun b ob hb e => eb b ob hb e) f0 f1 f3 f4 f5⟩
  self := fun A i s Q E st h => by
    refine wpAny_pyIter_slot st.typeIs F.slot_dict_keyiterator_iter (wpAny_call_entry F.slot_dict_keyiterator_iter st.typeIs F.entry_dict_keyiterator_iter ?_ (F.args_dict_keyiterator_iter_1 _))
    show wpAny _ _ (ret (.ref it)) _ _ s
    exact wpAny_pure ⟨_, rfl, "dict_keyiterator", _, st.typeIs, F.slot_dict_keyiterator_next.lookup, h⟩
theorem walk_keysN {xs : List (NestedKey × Addr × V)} : Walk (Itkn P w d o xs) xs.length (fun H => H d = some (.frz o (DNo P w d xs))) (YAt (xs.map fun x => V.ref x.2.1)) :=
  ⟨fun _ _ hi h => ⟨h, hi⟩, fun _ h => ⟨h, Nat.le_refl _⟩, fun i H x H' _ _ ⟨e, p, hp, hx⟩ => ⟨e, by rw [List.getElem?_map, hp, hx]; rfl⟩⟩
end
def iKeysN (P : Program) (w : World) (td : TE) : TI := fun σ H R => td σ H fun x H1 => ∃ d o xs, x = .ref d ∧ H1 d = some (.frz o (DNo P w d xs)) ∧ R (Itkn P w d o xs) H1
theorem pi_keysN {X : Cx} {tg e : Expr} {td : TE} (he : PE X e td) : PI X tg e (iKeysN X.prog X.w td) := by
  refine ⟨fun pins s σ H R I h => ?_⟩
  refine thn (he.run pins s σ H _ I h) fun u s1 ⟨x, H1, I1, rx, d, o, xs, ex, hd, q⟩ => ?_
  subst ex
  obtain rfl : u = Value.ref d := rx
  obtain ⟨hs, hgd, hx, es, ep, hdt, hsz, ent⟩ := inv_frzN I1 hd
  refine iter_keys hs hgd hx hdt (pi_one (tk := s1.toks) I1 _ (turn_keysN _ hdt) ⟨_, Heap.get?_push_size _ rfl, rfl, ?_⟩ q)
  rw [hsz] <;> rfl
/-! ### {k: v}, the key a tuple -/
def tDisp1N (P : Program) (w : World) (K : PySem.W.Frag) (tk tv : TE) : TE := fun σ H Q => ∀ p o, H p = none → DN P w K (upd H p o) p [] → tk σ (upd H p o) fun x H1 => tv σ H1 fun y H2 => ∃ b k, x = .ref b ∧ DN P w K H2 p [] ∧ KeyAt K H2 k b ∧ ∀ o', DN P w K (upd H2 p o') p [(k, y)] → Q (.ref p) (upd H2 p o')
theorem pe_disp1N {X : Cx} {pos : Pos} {k v : Expr} {tk tv : TE} (hu : X.A.units + 65 < cLine) (hk : PE X k tk) (hv : PE X v tv) : PE X (.Dict [some k] [v] pos) (tDisp1N X.prog X.w X.K tk tv) := by
  refine ⟨fun pins s σ H Q I q => ?_⟩
  have hn := I.hok.fresh (Nat.le_refl s.heap.objs.size)
  have I1 : L2.Inv X pins σ (upd H s.heap.objs.size (DNo X.prog X.w s.heap.objs.size [])) { s with heap := s.heap.push { cls := .type "dict", data := .dict #[] } } := I.laid (t' := s.toks) (fun _ _ q => Heap.get?_push_of_some _ q) (Nat.le_refl _)
      (dno_ok (Nat.zero_le _) (beq_eq_false_iff_ne.mpr (Ne.symm (Nat.ne_of_lt I.big))) .nil (Heap.DictOfH.new s.heap))
  rw [arm_eval_Dict, show (evalEachOpt [some k] X.env).zip ((evalEach [v] X.env).map fun v => do let x ← v; standAt pos; pure x) = ([(eval k X.env, do let x ← eval v X.env; standAt pos; pure x)] : List (Sem Value × Sem Value)).map fun p => (some p.1, p.2) from rfl, dictDisplay_pairs _ (by simp) (by simp)]
  refine wpAny_bind (wpAny_standAt (wpAny_bind (wpAny_subDictH (knd := nestedKind X.prog X.w) (show X.A.units + 8 < cLine by omega) (by simp) ?_)))
  unfold evalPairs
  refine wpAny_bind (thn (hk.run pins _ σ _ _ I1 (q _ _ hn ⟨[], upd_same, rfl, fun _ z => nomatch z⟩)) fun u s1 ⟨x, H1, I2, rx, q1⟩ => ?_)
  refine wpAny_bind (wpAny_holding (wpAny_bind (thn (hv.run pins s1 σ H1 _ I2 q1) fun u2 s2 ⟨y, H2, I3, ry, b, kk, ex, hd, hkey, q2⟩ => wpAny_bind (wpAny_standAt (wpAny_pure ?_)))))
  refine wpAny_bind (wpAny_holding (wpAny_pure (wpAny_pure ?_)))
  subst ex
  obtain rfl : u = Value.ref b := rx
  obtain ⟨xs, ys, h1, e0, h3, z, nd, pr, dd⟩ := hd.raw I3
  have ex0 : xs = [] := List.map_eq_nil_iff.mp e0
  subst ex0
  cases pr
  refine ⟨[(kk, b, u2)], ⟨rfl, rfl, hkey.is I3, True.intro⟩, dd, fun h' tk dd' hs => wpAny_pure ?_⟩
  have he : ∃ q, h'.get? s.heap.objs.size = some q := let ⟨q, _, _, hq, _⟩ := dd'; ⟨q, hq⟩
  have pr' : Paired RN [(kk, b, y)] [(kk, b, u2)] := .cons ⟨rfl, rfl, ry⟩ .nil
  refine ⟨.ref s.heap.objs.size, upd H2 s.heap.objs.size (DNo X.prog X.w s.heap.objs.size [(kk, b, y)]), d_write I3 (dno_mut h1) hs he (dno_ok (by show 1 ≤ sizeLine; decide) nd pr' dd'), rfl, q2 _ ⟨[(kk, b, y)], upd_same, rfl, fun x hx => ?_⟩⟩
  rw [List.mem_singleton.mp hx]
  exact hkey.put h1
end Sh
set_option Elab.async false
set_option linter.all false
set_option maxRecDepth 100000
set_option maxHeartbeats 4000000
namespace Sh
open PySem L2 PyProof.Rows
/-! ### constants that are tuples, told to the hook -/
def relB : V → Value → Bool
  | .non, .none => true
  | .bl b, .bool c => b == c
  | .int i, .int j _ => decide (i = j)
  | .str x, .str y _ => decide (x = y)
  | .ref a, .ref b => decide (a = b)
  | _, _ => false
theorem relB_ok : ∀ {v : V} {u : Value}, relB v u = true → RelV v u := by
  intro v u h
  cases v <;> cases u <;> first | exact absurd h Bool.false_ne_true | skip
  · rfl
  · rename_i b c
    have : b = c := eq_of_beq h
    subst this
    rfl
  · rename_i i j t
    have : i = j := of_decide_eq_true h
    subst this
    exact ⟨t, rfl⟩
  · rename_i x y t
    have : x = y := of_decide_eq_true h
    subst this
    exact ⟨t, rfl⟩
  · rename_i a b
    have : a = b := of_decide_eq_true h
    subst this
    rfl
def relsB : List V → List Value → Bool
  | [], [] => true
  | v :: vs, u :: us => relB v u && relsB vs us
  | _, _ => false
theorem relsB_ok : ∀ {vs : List V} {us : List Value}, relsB vs us = true → Vals vs us
  | [], [], _ => .nil
  | [], _ :: _, h => absurd h Bool.false_ne_true
  | _ :: _, [], h => absurd h Bool.false_ne_true
  | v :: vs, u :: us, h => by
    have h : (relB v u && relsB vs us) = true := h
    rw [Bool.and_eq_true] at h
    exact .cons (relB_ok h.1) (relsB_ok h.2)
/-- the tuple at a has these items -/
def tupB (K : PySem.W.Frag) (a : Addr) (vs : List V) : Bool := match K.lookup a with
  | some ob => decide (ob.cls = .type "tuple") && decide (ob.dict = none) && match ob.data with
    | .seq us _ => relsB vs us.toList
    | _ => false
  | none => false
/-- where the i-th item of the tuple at a stands -/
def kidC (K : PySem.W.Frag) (a : Addr) (i : Nat) : Addr := match K.lookup a with
  | some ob => match ob.data with
    | .seq us _ => match us.toList[i]? with
      | some (.ref b) => b
      | _ => 0
    | _ => 0
  | none => 0
theorem tupB_ok {K : PySem.W.Frag} {a : Addr} {vs : List V} (h : tupB K a vs = true) (hl : vs.length ≤ sizeLine) : (∀ H, SqT K H a vs) ∧ ∃ o, K.lookup a = some o ∧ o.cls = .type "tuple" ∧ o.dict = none := by
  unfold tupB at h
  cases e : K.lookup a with
  | none => rw [e] at h; exact absurd h Bool.false_ne_true
  | some ob =>
    rw [e] at h
    dsimp only at h
    rw [Bool.and_eq_true, Bool.and_eq_true] at h
    obtain ⟨⟨h1, h2⟩, h3⟩ := h
    obtain ⟨c, d, dat, sl⟩ := ob
    obtain rfl : c = .type "tuple" := of_decide_eq_true h1
    obtain rfl : d = none := of_decide_eq_true h2
    dsimp only at h3
    cases dat with
    | seq us n =>
      have v := relsB_ok h3
      have hz : us.size ≤ sizeLine := Nat.le_trans (Nat.le_of_eq ((Array.length_toList (xs := us)).symm.trans (Paired.length v).symm)) hl
      exact ⟨fun _ => .inr ⟨_, us, n, e, rfl, rfl, hz, v⟩, _, rfl, rfl, rfl⟩
    | _ => exact absurd h3 Bool.false_ne_true
end Sh
set_option Elab.async false
set_option linter.all false
set_option maxRecDepth 100000
set_option maxHeartbeats 4000000
namespace Toy
open PySem L2 Sh ShL LamX NdefX
def top (i : Nat) : Stmt := PySem.Challenge.pw_treeshed_k03_whole_exact_rules.main.body.getD i (.Pass ⟨0, 0, 0, 0⟩)
abbrev s_x_BadLetters : Stmt := inClass (top 3) 0
theorem sc_x_BadLetters : NdefX.NScope ["self", "letters", "__class__"] ["self", "letters"] ["__class__"] (defScope s_x_BadLetters) := NdefX.nscope_by (by decide +kernel)
abbrev s_x_TooMany : Stmt := inClass (top 4) 0
theorem sc_x_TooMany : NdefX.NScope ["self", "what", "many", "most", "__class__"] ["self", "what", "many", "most"] ["__class__"] (defScope s_x_TooMany) := NdefX.nscope_by (by decide +kernel)
abbrev s_x_BadRow : Stmt := inClass (top 5) 0
theorem sc_x_BadRow : NdefX.NScope ["self", "number", "__class__"] ["self", "number"] ["__class__"] (defScope s_x_BadRow) := NdefX.nscope_by (by decide +kernel)
abbrev s_x_Lone : Stmt := inClass (top 6) 0
theorem sc_x_Lone : NdefX.NScope ["self", "place", "__class__"] ["self", "place"] ["__class__"] (defScope s_x_Lone) := NdefX.nscope_by (by decide +kernel)
abbrev s_x_NoPlace : Stmt := inClass (top 7) 0
theorem sc_x_NoPlace : NdefX.NScope ["self", "place", "__class__"] ["self", "place"] ["__class__"] (defScope s_x_NoPlace) := NdefX.nscope_by (by decide +kernel)
abbrev s_x_BadItem : Stmt := inClass (top 8) 0
theorem sc_x_BadItem : NdefX.NScope ["self", "number", "__class__"] ["self", "number"] ["__class__"] (defScope s_x_BadItem) := NdefX.nscope_by (by decide +kernel)
abbrev s_x_BadKind : Stmt := inClass (top 9) 0
theorem sc_x_BadKind : NdefX.NScope ["self", "side", "number", "__class__"] ["self", "side", "number"] ["__class__"] (defScope s_x_BadKind) := NdefX.nscope_by (by decide +kernel)
abbrev s_is_letters : Stmt := top 16
abbrev N_is_letters : List Str := ["letters", "letter"]
theorem sc_is_letters : FnScope ["letters", "letter"] ["letters"] (defScope s_is_letters) := ⟨rfl, rfl, rfl, by decide +kernel, rfl, by decide +kernel, by decide +kernel⟩
abbrev s_is_word : Stmt := top 17
abbrev N_is_word : List Str := ["letters", "word", "letter"]
theorem sc_is_word : FnScope ["letters", "word", "letter"] ["letters", "word"] (defScope s_is_word) := ⟨rfl, rfl, rfl, by decide +kernel, rfl, by decide +kernel, by decide +kernel⟩
abbrev s_is_value : Stmt := top 18
abbrev N_is_value : List Str := ["value"]
theorem sc_is_value : FnScope ["value"] ["value"] (defScope s_is_value) := ⟨rfl, rfl, rfl, by decide +kernel, rfl, by decide +kernel, by decide +kernel⟩
abbrev s_is_row : Stmt := top 19
abbrev N_is_row : List Str := ["letters", "row", "place", "value", "flag"]
theorem sc_is_row : FnScope ["letters", "row", "place", "value", "flag"] ["letters", "row"] (defScope s_is_row) := ⟨rfl, rfl, rfl, by decide +kernel, rfl, by decide +kernel, by decide +kernel⟩
abbrev s_in_order : Stmt := top 20
abbrev N_in_order : List Str := ["letters", "places", "letter"]
theorem sc_in_order : FnScope ["letters", "places", "letter"] ["letters", "places"] (defScope s_in_order) := ⟨rfl, rfl, rfl, by decide +kernel, rfl, by decide +kernel, by decide +kernel⟩
abbrev s_values_of : Stmt := top 21
abbrev N_values_of : List Str := ["letters", "items", "found", "number", "item", "word", "value"]
theorem sc_values_of : FnScope ["letters", "items", "found", "number", "item", "word", "value"] ["letters", "items"] (defScope s_values_of) := ⟨rfl, rfl, rfl, by decide +kernel, rfl, by decide +kernel, by decide +kernel⟩
abbrev s_beginnings : Stmt := top 22
abbrev N_beginnings : List Str := ["words", "found", "word", "length"]
theorem sc_beginnings : FnScope ["words", "found", "word", "length"] ["words"] (defScope s_beginnings) := ⟨rfl, rfl, rfl, by decide +kernel, rfl, by decide +kernel, by decide +kernel⟩
abbrev s_Tree_init : Stmt := inClass (top 23) 0
abbrev N_Tree_init : List Str := ["self", "letters", "rows", "found", "number", "row", "children", "place"]
theorem sc_Tree_init : FnScope ["self", "letters", "rows", "found", "number", "row", "children", "place"] ["self", "letters", "rows"] (defScope s_Tree_init) := ⟨rfl, rfl, rfl, by decide +kernel, rfl, by decide +kernel, by decide +kernel⟩
abbrev s_Tree_has : Stmt := inClass (top 23) 2
abbrev N_Tree_has : List Str := ["self", "place"]
theorem sc_Tree_has : FnScope ["self", "place"] ["self", "place"] (defScope s_Tree_has) := ⟨rfl, rfl, rfl, by decide +kernel, rfl, by decide +kernel, by decide +kernel⟩
abbrev s_Tree_row : Stmt := inClass (top 23) 3
abbrev N_Tree_row : List Str := ["self", "place"]
theorem sc_Tree_row : FnScope ["self", "place"] ["self", "place"] (defScope s_Tree_row) := ⟨rfl, rfl, rfl, by decide +kernel, rfl, by decide +kernel, by decide +kernel⟩
abbrev s_Tree_below : Stmt := inClass (top 23) 4
abbrev N_Tree_below : List Str := ["self", "place"]
theorem sc_Tree_below : FnScope ["self", "place"] ["self", "place"] (defScope s_Tree_below) := ⟨rfl, rfl, rfl, by decide +kernel, rfl, by decide +kernel, by decide +kernel⟩
abbrev s_Tree_of : Stmt := inClass (top 23) 7
abbrev N_Tree_of : List Str := ["cls", "letters", "items", "values", "place"]
theorem sc_Tree_of : FnScope ["cls", "letters", "items", "values", "place"] ["cls", "letters", "items"] (defScope s_Tree_of) := ⟨rfl, rfl, rfl, by decide +kernel, rfl, by decide +kernel, by decide +kernel⟩
abbrev s_is_kind : Stmt := top 26
abbrev N_is_kind : List Str := ["kind", "kept", "flag", "children"]
theorem sc_is_kind : FnScope ["kind", "kept", "flag", "children"] ["kind"] (defScope s_is_kind) := ⟨rfl, rfl, rfl, by decide +kernel, rfl, by decide +kernel, by decide +kernel⟩
abbrev s_kinds_of : Stmt := top 27
abbrev N_kinds_of : List Str := ["side", "kinds", "found", "number", "kind"]
theorem sc_kinds_of : FnScope ["side", "kinds", "found", "number", "kind"] ["side", "kinds"] (defScope s_kinds_of) := ⟨rfl, rfl, rfl, by decide +kernel, rfl, by decide +kernel, by decide +kernel⟩
abbrev s_kind_of : Stmt := top 28
abbrev N_kind_of : List Str := ["tree", "place", "row"]
theorem sc_kind_of : FnScope ["tree", "place", "row"] ["tree", "place"] (defScope s_kind_of) := ⟨rfl, rfl, rfl, by decide +kernel, rfl, by decide +kernel, by decide +kernel⟩
abbrev s_many_with : Stmt := top 29
abbrev N_many_with : List Str := ["kinds", "kept", "children", "kind"]
theorem sc_many_with : FnScope ["kinds", "kept", "children", "kind"] ["kinds", "kept", "children"] (defScope s_many_with) := ⟨rfl, rfl, rfl, by decide +kernel, rfl, by decide +kernel, by decide +kernel⟩
abbrev s_Rule_init : Stmt := inClass (top 30) 0
abbrev N_Rule_init : List Str := ["self", "root", "others"]
theorem sc_Rule_init : FnScope ["self", "root", "others"] ["self", "root", "others"] (defScope s_Rule_init) := ⟨rfl, rfl, rfl, by decide +kernel, rfl, by decide +kernel, by decide +kernel⟩
abbrev s_Rule_broken_at : Stmt := inClass (top 30) 2
abbrev N_Rule_broken_at : List Str := ["self", "tree", "place", "value", "flag", "kind"]
theorem sc_Rule_broken_at : FnScope ["self", "tree", "place", "value", "flag", "kind"] ["self", "tree"] (defScope s_Rule_broken_at) := ⟨rfl, rfl, rfl, by decide +kernel, rfl, by decide +kernel, by decide +kernel⟩
abbrev s_Rule_keeps : Stmt := inClass (top 30) 3
abbrev N_Rule_keeps : List Str := ["self", "tree"]
theorem sc_Rule_keeps : FnScope ["self", "tree"] ["self", "tree"] (defScope s_Rule_keeps) := ⟨rfl, rfl, rfl, by decide +kernel, rfl, by decide +kernel, by decide +kernel⟩
abbrev s_Rule_is_exact : Stmt := inClass (top 30) 4
abbrev N_Rule_is_exact : List Str := ["self", "kept", "children", "due"]
theorem sc_Rule_is_exact : FnScope ["self", "kept", "children", "due"] ["self"] (defScope s_Rule_is_exact) := ⟨rfl, rfl, rfl, by decide +kernel, rfl, by decide +kernel, by decide +kernel⟩
abbrev s_flags_of : Stmt := top 31
abbrev N_flags_of : List Str := ["rule", "flags", "kept", "flag", "children"]
theorem sc_flags_of : FnScope ["rule", "flags", "kept", "flag", "children"] ["rule"] (defScope s_flags_of) := ⟨rfl, rfl, rfl, by decide +kernel, rfl, by decide +kernel, by decide +kernel⟩
abbrev s_Rule_tree_of : Stmt := inClass (top 30) 5
abbrev N_Rule_tree_of : List Str := ["self", "letters", "items", "flags", "bare", "rows", "place", "value", "none", "kept", "lacking", "children"]
theorem sc_Rule_tree_of : FnScope ["self", "letters", "items", "flags", "bare", "rows", "place", "value", "none", "kept", "lacking", "children"] ["self", "letters", "items"] (defScope s_Rule_tree_of) := ⟨rfl, rfl, rfl, by decide +kernel, rfl, by decide +kernel, by decide +kernel⟩
abbrev s_l_pen : Stmt := top 33
abbrev N_l_pen : List Str := ["_law_script"]
theorem sc_l_pen : FnScope ["_law_script"] ["_law_script"] (defScope s_l_pen) := ⟨rfl, rfl, rfl, by decide +kernel, rfl, by decide +kernel, by decide +kernel⟩
abbrev s_l_draw : Stmt := top 34
abbrev N_l_draw : List Str := ["_law_pen_here", "_law_many", "_law_digit", "_law_k", "_law_told", "_law_cell", "_law_mix"]
theorem sc_l_draw : FnScope ["_law_pen_here", "_law_many", "_law_digit", "_law_k", "_law_told", "_law_cell", "_law_mix"] ["_law_pen_here", "_law_many"] (defScope s_l_draw) := ⟨rfl, rfl, rfl, by decide +kernel, rfl, by decide +kernel, by decide +kernel⟩
abbrev s_l_pick : Stmt := top 35
abbrev N_l_pick : List Str := ["_law_pen_here", "_law_some"]
theorem sc_l_pick : FnScope ["_law_pen_here", "_law_some"] ["_law_pen_here", "_law_some"] (defScope s_l_pick) := ⟨rfl, rfl, rfl, by decide +kernel, rfl, by decide +kernel, by decide +kernel⟩
abbrev s_l_letters : Stmt := top 36
abbrev N_l_letters : List Str := ["_law_pen_here", "_law_most", "_law_pool", "_law_found", "_law_k"]
theorem sc_l_letters : FnScope ["_law_pen_here", "_law_most", "_law_pool", "_law_found", "_law_k"] ["_law_pen_here", "_law_most"] (defScope s_l_letters) := ⟨rfl, rfl, rfl, by decide +kernel, rfl, by decide +kernel, by decide +kernel⟩
abbrev s_l_shuffled : Stmt := top 37
abbrev N_l_shuffled : List Str := ["_law_pen_here", "_law_some", "_law_found", "_law_thing"]
theorem sc_l_shuffled : FnScope ["_law_pen_here", "_law_some", "_law_found", "_law_thing"] ["_law_pen_here", "_law_some"] (defScope s_l_shuffled) := ⟨rfl, rfl, rfl, by decide +kernel, rfl, by decide +kernel, by decide +kernel⟩
abbrev s_l_ordered : Stmt := top 38
abbrev N_l_ordered : List Str := ["_law_letters_here", "_law_words", "_law_sign"]
theorem sc_l_ordered : FnScope ["_law_letters_here", "_law_words", "_law_sign"] ["_law_letters_here", "_law_words"] (defScope s_l_ordered) := ⟨rfl, rfl, rfl, by decide +kernel, rfl, by decide +kernel, by decide +kernel⟩
abbrev s_l_exact : Stmt := top 39
abbrev N_l_exact : List Str := ["_law_pen_here", "_law_root", "_law_others", "_law_kept", "_law_children"]
theorem sc_l_exact : FnScope ["_law_pen_here", "_law_root", "_law_others", "_law_kept", "_law_children"] ["_law_pen_here"] (defScope s_l_exact) := ⟨rfl, rfl, rfl, by decide +kernel, rfl, by decide +kernel, by decide +kernel⟩
abbrev s_l_items : Stmt := top 40
abbrev N_l_items : List Str := ["_law_pen_here", "_law_letters_here", "_law_many", "_law_longest", "_law_found", "_law_k", "_law_stem", "_law_word", "_law_j", "_law_other", "_law_value"]
theorem sc_l_items : FnScope ["_law_pen_here", "_law_letters_here", "_law_many", "_law_longest", "_law_found", "_law_k", "_law_stem", "_law_word", "_law_j", "_law_other", "_law_value"] ["_law_pen_here", "_law_letters_here", "_law_many", "_law_longest"] (defScope s_l_items) := ⟨rfl, rfl, rfl, by decide +kernel, rfl, by decide +kernel, by decide +kernel⟩
abbrev s_l_flags_due : Stmt := top 41
abbrev N_l_flags_due : List Str := ["_law_root", "_law_others", "_law_flags", "_law_kept", "_law_flag", "_law_children"]
theorem sc_l_flags_due : FnScope ["_law_root", "_law_others", "_law_flags", "_law_kept", "_law_flag", "_law_children"] ["_law_root", "_law_others"] (defScope s_l_flags_due) := ⟨rfl, rfl, rfl, by decide +kernel, rfl, by decide +kernel, by decide +kernel⟩
abbrev s_l_rows_due : Stmt := top 42
abbrev N_l_rows_due : List Str := ["_law_letters_here", "_law_items_here", "_law_flags", "_law_there", "_law_word", "_law_value", "_law_k", "_law_rows", "_law_place", "_law_values", "_law_children", "_law_key", "_law_letter"]
theorem sc_l_rows_due : FnScope ["_law_letters_here", "_law_items_here", "_law_flags", "_law_there", "_law_word", "_law_value", "_law_k", "_law_rows", "_law_place", "_law_values", "_law_children", "_law_key", "_law_letter"] ["_law_letters_here", "_law_items_here", "_law_flags"] (defScope s_l_rows_due) := ⟨rfl, rfl, rfl, by decide +kernel, rfl, by decide +kernel, by decide +kernel⟩
abbrev s_l_caught : Stmt := top 43
abbrev N_l_caught : List Str := ["_law_function", "_law_told", "e"]
theorem sc_l_caught : FnScope ["_law_function", "_law_told", "e"] ["_law_function"] (defScope s_l_caught) := ⟨rfl, rfl, rfl, by decide +kernel, rfl, by decide +kernel, by decide +kernel⟩
abbrev s_l_bent : Stmt := top 44
abbrev N_l_bent : List Str := ["_law_pen_here", "_law_root", "_law_others", "_law_way", "_law_sides", "_law_side", "_law_kinds", "_law_at", "_law_kept", "_law_flag", "_law_children", "_law_found", "_law_k"]
theorem sc_l_bent : FnScope ["_law_pen_here", "_law_root", "_law_others", "_law_way", "_law_sides", "_law_side", "_law_kinds", "_law_at", "_law_kept", "_law_flag", "_law_children", "_law_found", "_law_k"] ["_law_pen_here", "_law_root", "_law_others"] (defScope s_l_bent) := ⟨rfl, rfl, rfl, by decide +kernel, rfl, by decide +kernel, by decide +kernel⟩
abbrev s_l_is_exact : Stmt := top 45
abbrev N_l_is_exact : List Str := ["_law_root", "_law_others", "_law_kept", "_law_children", "_law_due", "_law_kind"]
theorem sc_l_is_exact : FnScope ["_law_root", "_law_others", "_law_kept", "_law_children", "_law_due", "_law_kind"] ["_law_root", "_law_others"] (defScope s_l_is_exact) := ⟨rfl, rfl, rfl, by decide +kernel, rfl, by decide +kernel, by decide +kernel⟩
abbrev s_l_refused_right : Stmt := top 46
abbrev N_l_refused_right : List Str := ["_law_pen_here", "_law_rule", "_law_letters_here", "_law_items_here", "_law_spot", "_law_wrong", "_law_told", "_law_odd", "_law_long", "_law_k"]
theorem sc_l_refused_right : FnScope ["_law_pen_here", "_law_rule", "_law_letters_here", "_law_items_here", "_law_spot", "_law_wrong", "_law_told", "_law_odd", "_law_long", "_law_k"] ["_law_pen_here", "_law_rule", "_law_letters_here", "_law_items_here"] (defScope s_l_refused_right) := ⟨rfl, rfl, rfl, by decide +kernel, rfl, by decide +kernel, by decide +kernel⟩
abbrev s_l_only_right : Stmt := top 47
abbrev N_l_only_right : List Str := ["_law_pen_here", "_law_rule", "_law_letters_here", "_law_rows", "_law_at", "_law_place", "_law_value", "_law_flag", "_law_other", "_law_there", "_law_k", "_law_row"]
theorem sc_l_only_right : FnScope ["_law_pen_here", "_law_rule", "_law_letters_here", "_law_rows", "_law_at", "_law_place", "_law_value", "_law_flag", "_law_other", "_law_there", "_law_k", "_law_row"] ["_law_pen_here", "_law_rule", "_law_letters_here", "_law_rows"] (defScope s_l_only_right) := ⟨rfl, rfl, rfl, by decide +kernel, rfl, by decide +kernel, by decide +kernel⟩
abbrev s_law : Stmt := top 48
abbrev N_law : List Str := ["_law_script", "_law_pen_here", "_law_root", "_law_others", "_law_rule", "_law_is_exact_here", "_law_letters_here", "_law_items_here", "_law_odd", "_law_flags", "_law_told", "_law_rows", "_law_told_items", "_law_pairs", "_law_tree", "_law_key", "_law_item"]
theorem sc_law : FnScope ["_law_script", "_law_pen_here", "_law_root", "_law_others", "_law_rule", "_law_is_exact_here", "_law_letters_here", "_law_items_here", "_law_odd", "_law_flags", "_law_told", "_law_rows", "_law_told_items", "_law_pairs", "_law_tree", "_law_key", "_law_item"] ["_law_script"] (defScope s_law) := ⟨rfl, rfl, rfl, by decide +kernel, rfl, by decide +kernel, by decide +kernel⟩
structure Tx (P : Program) (K : PySem.W.Frag) (mg : Str → Option Value) where
  b_super : mg "super" = none
  c_ShedError : Addr
  m_ShedError : mg "ShedError" = some (.ref c_ShedError)
  iS : (PySem.W.clsIn K c_ShedError).isSome = true
  tS : PySem.W.typeIn K (.ref c_ShedError) = some (.type "type")
  o_get : PySem.W.specialIn K (.builtin "object.__class__") "__get__" = some (some (.builtin "getset_descriptor.__get__"))
  o_tk : PySem.W.takesIn K (.builtin "object.__class__") = some true
  c_BadLetters : Addr
  m_BadLetters : mg "BadLetters" = some (.ref c_BadLetters)
  x_BadLetters : XCls K c_ShedError c_BadLetters
  c_TooMany : Addr
  m_TooMany : mg "TooMany" = some (.ref c_TooMany)
  x_TooMany : XCls K c_ShedError c_TooMany
  c_BadRow : Addr
  m_BadRow : mg "BadRow" = some (.ref c_BadRow)
  x_BadRow : XCls K c_ShedError c_BadRow
  c_Lone : Addr
  m_Lone : mg "Lone" = some (.ref c_Lone)
  x_Lone : XCls K c_ShedError c_Lone
  c_NoPlace : Addr
  m_NoPlace : mg "NoPlace" = some (.ref c_NoPlace)
  x_NoPlace : XCls K c_ShedError c_NoPlace
  c_BadItem : Addr
  m_BadItem : mg "BadItem" = some (.ref c_BadItem)
  x_BadItem : XCls K c_ShedError c_BadItem
  c_BadKind : Addr
  m_BadKind : mg "BadKind" = some (.ref c_BadKind)
  x_BadKind : XCls K c_ShedError c_BadKind
  c_NotExact : Addr
  m_NotExact : mg "NotExact" = some (.ref c_NotExact)
  x_NotExact : XCls K c_ShedError c_NotExact
  e0_NotExact : PySem.W.excIn K c_NotExact [.type "ValueError", .type "Exception", .type "BaseException", .type "object"] "ValueError.__new__" = true
  a_x_BadLetters : Addr
  fd_x_BadLetters : FuncData
  i_BadLetters : XInit P K mg c_BadLetters a_x_BadLetters "BadLetters.__init__" s_x_BadLetters fd_x_BadLetters
  nf_BadLetters_letters : PySem.W.findIn K (.ref c_BadLetters) "letters" = some none
  a_x_TooMany : Addr
  fd_x_TooMany : FuncData
  i_TooMany : XInit P K mg c_TooMany a_x_TooMany "TooMany.__init__" s_x_TooMany fd_x_TooMany
  nf_TooMany_what : PySem.W.findIn K (.ref c_TooMany) "what" = some none
  nf_TooMany_many : PySem.W.findIn K (.ref c_TooMany) "many" = some none
  nf_TooMany_most : PySem.W.findIn K (.ref c_TooMany) "most" = some none
  a_x_BadRow : Addr
  fd_x_BadRow : FuncData
  i_BadRow : XInit P K mg c_BadRow a_x_BadRow "BadRow.__init__" s_x_BadRow fd_x_BadRow
  nf_BadRow_number : PySem.W.findIn K (.ref c_BadRow) "number" = some none
  a_x_Lone : Addr
  fd_x_Lone : FuncData
  i_Lone : XInit P K mg c_Lone a_x_Lone "Lone.__init__" s_x_Lone fd_x_Lone
  nf_Lone_place : PySem.W.findIn K (.ref c_Lone) "place" = some none
  a_x_NoPlace : Addr
  fd_x_NoPlace : FuncData
  i_NoPlace : XInit P K mg c_NoPlace a_x_NoPlace "NoPlace.__init__" s_x_NoPlace fd_x_NoPlace
  nf_NoPlace_place : PySem.W.findIn K (.ref c_NoPlace) "place" = some none
  a_x_BadItem : Addr
  fd_x_BadItem : FuncData
  i_BadItem : XInit P K mg c_BadItem a_x_BadItem "BadItem.__init__" s_x_BadItem fd_x_BadItem
  nf_BadItem_number : PySem.W.findIn K (.ref c_BadItem) "number" = some none
  a_x_BadKind : Addr
  fd_x_BadKind : FuncData
  i_BadKind : XInit P K mg c_BadKind a_x_BadKind "BadKind.__init__" s_x_BadKind fd_x_BadKind
  nf_BadKind_side : PySem.W.findIn K (.ref c_BadKind) "side" = some none
  nf_BadKind_number : PySem.W.findIn K (.ref c_BadKind) "number" = some none
  kb_BadItem_1 : KBn K fd_x_BadItem ["self", "number"] 2 [] rotU rotV
  kb_BadLetters_1 : KBn K fd_x_BadLetters ["self", "letters"] 2 [] rotU rotV
  kb_TooMany_3 : KBn K fd_x_TooMany ["self", "what", "many", "most"] 4 [] rotU rotV
  kb_BadRow_1 : KBn K fd_x_BadRow ["self", "number"] 2 [] rotU rotV
  kb_Lone_1 : KBn K fd_x_Lone ["self", "place"] 2 [] rotU rotV
  kb_NoPlace_1 : KBn K fd_x_NoPlace ["self", "place"] 2 [] rotU rotV
  kb_BadKind_2 : KBn K fd_x_BadKind ["self", "side", "number"] 3 [] rotU rotV
  xnd : [c_BadLetters, c_TooMany, c_BadRow, c_Lone, c_BadItem, c_NoPlace, c_BadKind, c_NotExact, c_ShedError].Nodup
  b_len : mg "len" = none
  b_isinstance : mg "isinstance" = none
  b_int : mg "int" = none
  b_list : mg "list" = none
  b_sorted : mg "sorted" = none
  b_abs : mg "abs" = none
  b_range : mg "range" = none
  b_tuple : mg "tuple" = none
  b_max : mg "max" = none
  b_min : mg "min" = none
  b_all : mg "all" = none
  b_enumerate : mg "enumerate" = none
  b_str : mg "str" = none
  b_bool : mg "bool" = none
  b_dict : mg "dict" = none
  c_Tree : Addr
  m_Tree : mg "Tree" = some (.ref c_Tree)
  cl_Tree : Cls K c_Tree
  na_Tree_letters : NoAttr K c_Tree "letters"
  na_Tree_rows : NoAttr K c_Tree "rows"
  na_Tree_size : NoAttr K c_Tree "size"
  na_Tree_height : NoAttr K c_Tree "height"
  na_Tree_triples : NoAttr K c_Tree "triples"
  na_Tree_ways : NoAttr K c_Tree "ways"
  c_Rule : Addr
  m_Rule : mg "Rule" = some (.ref c_Rule)
  cl_Rule : Cls K c_Rule
  na_Rule_root : NoAttr K c_Rule "root"
  na_Rule_others : NoAttr K c_Rule "others"
  m_SMALL : ∃ t, mg "SMALL" = some (.str "abcdefghijklmnopqrstuvwxyz" t)
  m_MOST_LETTERS : ∃ t, mg "MOST_LETTERS" = some (.int 200 t)
  m_MOST_PLACES : ∃ t, mg "MOST_PLACES" = some (.int 2000 t)
  m_MOST_VALUE : ∃ t, mg "MOST_VALUE" = some (.int 9 t)
  g_SHAPES_0 : Addr
  q_SHAPES_0 : ∀ H, SqT K H g_SHAPES_0 [.bl false, .int 0]
  g_SHAPES_1 : Addr
  q_SHAPES_1 : ∀ H, SqT K H g_SHAPES_1 [.bl false, .int 1]
  g_SHAPES_2 : Addr
  q_SHAPES_2 : ∀ H, SqT K H g_SHAPES_2 [.bl false, .int 2]
  g_SHAPES_3 : Addr
  q_SHAPES_3 : ∀ H, SqT K H g_SHAPES_3 [.bl true, .int 0]
  g_SHAPES_4 : Addr
  q_SHAPES_4 : ∀ H, SqT K H g_SHAPES_4 [.bl true, .int 1]
  g_SHAPES_5 : Addr
  q_SHAPES_5 : ∀ H, SqT K H g_SHAPES_5 [.bl true, .int 2]
  g_SHAPES : Addr
  m_SHAPES : mg "SHAPES" = some (.ref g_SHAPES)
  y_SHAPES : ∃ o, K.lookup g_SHAPES = some o ∧ o.cls = .type "tuple" ∧ o.dict = none
  q_SHAPES : ∀ H, SqT K H g_SHAPES [.ref g_SHAPES_0, .ref g_SHAPES_1, .ref g_SHAPES_2, .ref g_SHAPES_3, .ref g_SHAPES_4, .ref g_SHAPES_5]
  a_is_letters : Addr
  fd_is_letters : FuncData
  F_is_letters : Fun K "is_letters" "is_letters" s_is_letters a_is_letters fd_is_letters
  bi_is_letters : Binds K fd_is_letters ["letters"] []
  m_is_letters : mg "is_letters" = some (.ref a_is_letters)
  a_is_word : Addr
  fd_is_word : FuncData
  F_is_word : Fun K "is_word" "is_word" s_is_word a_is_word fd_is_word
  bi_is_word : Binds K fd_is_word ["letters", "word"] []
  m_is_word : mg "is_word" = some (.ref a_is_word)
  a_is_value : Addr
  fd_is_value : FuncData
  F_is_value : Fun K "is_value" "is_value" s_is_value a_is_value fd_is_value
  bi_is_value : Binds K fd_is_value ["value"] []
  m_is_value : mg "is_value" = some (.ref a_is_value)
  a_is_row : Addr
  fd_is_row : FuncData
  F_is_row : Fun K "is_row" "is_row" s_is_row a_is_row fd_is_row
  bi_is_row : Binds K fd_is_row ["letters", "row"] []
  m_is_row : mg "is_row" = some (.ref a_is_row)
  a_in_order : Addr
  fd_in_order : FuncData
  F_in_order : Fun K "in_order" "in_order" s_in_order a_in_order fd_in_order
  bi_in_order : Binds K fd_in_order ["letters", "places"] []
  m_in_order : mg "in_order" = some (.ref a_in_order)
  a_values_of : Addr
  fd_values_of : FuncData
  F_values_of : Fun K "values_of" "values_of" s_values_of a_values_of fd_values_of
  bi_values_of : Binds K fd_values_of ["letters", "items"] []
  m_values_of : mg "values_of" = some (.ref a_values_of)
  a_beginnings : Addr
  fd_beginnings : FuncData
  F_beginnings : Fun K "beginnings" "beginnings" s_beginnings a_beginnings fd_beginnings
  bi_beginnings : Binds K fd_beginnings ["words"] []
  m_beginnings : mg "beginnings" = some (.ref a_beginnings)
  a_Tree_init : Addr
  fd_Tree_init : FuncData
  F_Tree_init : Fun K "__init__" "Tree.__init__" s_Tree_init a_Tree_init fd_Tree_init
  bi_Tree_init : Binds K fd_Tree_init ["self", "letters", "rows"] []
  mk_Tree : Mk K c_Tree a_Tree_init
  a_Tree_has : Addr
  fd_Tree_has : FuncData
  F_Tree_has : Fun K "has" "Tree.has" s_Tree_has a_Tree_has fd_Tree_has
  bi_Tree_has : Binds K fd_Tree_has ["self", "place"] []
  me_Tree_has : Meth K c_Tree "has" a_Tree_has
  a_Tree_row : Addr
  fd_Tree_row : FuncData
  F_Tree_row : Fun K "row" "Tree.row" s_Tree_row a_Tree_row fd_Tree_row
  bi_Tree_row : Binds K fd_Tree_row ["self", "place"] []
  me_Tree_row : Meth K c_Tree "row" a_Tree_row
  a_Tree_below : Addr
  fd_Tree_below : FuncData
  F_Tree_below : Fun K "below" "Tree.below" s_Tree_below a_Tree_below fd_Tree_below
  bi_Tree_below : Binds K fd_Tree_below ["self", "place"] []
  me_Tree_below : Meth K c_Tree "below" a_Tree_below
  a_Tree_of : Addr
  fd_Tree_of : FuncData
  F_Tree_of : Fun K "of" "Tree.of" s_Tree_of a_Tree_of fd_Tree_of
  bi_Tree_of : Binds K fd_Tree_of ["cls", "letters", "items"] []
  a_is_kind : Addr
  fd_is_kind : FuncData
  F_is_kind : Fun K "is_kind" "is_kind" s_is_kind a_is_kind fd_is_kind
  bi_is_kind : Binds K fd_is_kind ["kind"] []
  m_is_kind : mg "is_kind" = some (.ref a_is_kind)
  a_kinds_of : Addr
  fd_kinds_of : FuncData
  F_kinds_of : Fun K "kinds_of" "kinds_of" s_kinds_of a_kinds_of fd_kinds_of
  bi_kinds_of : Binds K fd_kinds_of ["side", "kinds"] []
  m_kinds_of : mg "kinds_of" = some (.ref a_kinds_of)
  a_kind_of : Addr
  fd_kind_of : FuncData
  F_kind_of : Fun K "kind_of" "kind_of" s_kind_of a_kind_of fd_kind_of
  bi_kind_of : Binds K fd_kind_of ["tree", "place"] []
  m_kind_of : mg "kind_of" = some (.ref a_kind_of)
  a_many_with : Addr
  fd_many_with : FuncData
  F_many_with : Fun K "many_with" "many_with" s_many_with a_many_with fd_many_with
  bi_many_with : Binds K fd_many_with ["kinds", "kept", "children"] []
  m_many_with : mg "many_with" = some (.ref a_many_with)
  a_Rule_init : Addr
  fd_Rule_init : FuncData
  F_Rule_init : Fun K "__init__" "Rule.__init__" s_Rule_init a_Rule_init fd_Rule_init
  bi_Rule_init : Binds K fd_Rule_init ["self", "root", "others"] []
  mk_Rule : Mk K c_Rule a_Rule_init
  a_Rule_broken_at : Addr
  fd_Rule_broken_at : FuncData
  F_Rule_broken_at : Fun K "broken_at" "Rule.broken_at" s_Rule_broken_at a_Rule_broken_at fd_Rule_broken_at
  bi_Rule_broken_at : Binds K fd_Rule_broken_at ["self", "tree"] []
  me_Rule_broken_at : Meth K c_Rule "broken_at" a_Rule_broken_at
  a_Rule_keeps : Addr
  fd_Rule_keeps : FuncData
  F_Rule_keeps : Fun K "keeps" "Rule.keeps" s_Rule_keeps a_Rule_keeps fd_Rule_keeps
  bi_Rule_keeps : Binds K fd_Rule_keeps ["self", "tree"] []
  me_Rule_keeps : Meth K c_Rule "keeps" a_Rule_keeps
  a_Rule_is_exact : Addr
  fd_Rule_is_exact : FuncData
  F_Rule_is_exact : Fun K "is_exact" "Rule.is_exact" s_Rule_is_exact a_Rule_is_exact fd_Rule_is_exact
  bi_Rule_is_exact : Binds K fd_Rule_is_exact ["self"] []
  me_Rule_is_exact : Meth K c_Rule "is_exact" a_Rule_is_exact
  a_flags_of : Addr
  fd_flags_of : FuncData
  F_flags_of : Fun K "flags_of" "flags_of" s_flags_of a_flags_of fd_flags_of
  bi_flags_of : Binds K fd_flags_of ["rule"] []
  m_flags_of : mg "flags_of" = some (.ref a_flags_of)
  a_Rule_tree_of : Addr
  fd_Rule_tree_of : FuncData
  F_Rule_tree_of : Fun K "tree_of" "Rule.tree_of" s_Rule_tree_of a_Rule_tree_of fd_Rule_tree_of
  bi_Rule_tree_of : Binds K fd_Rule_tree_of ["self", "letters", "items"] []
  me_Rule_tree_of : Meth K c_Rule "tree_of" a_Rule_tree_of
  a_l_pen : Addr
  fd_l_pen : FuncData
  F_l_pen : Fun K "_law_pen" "_law_pen" s_l_pen a_l_pen fd_l_pen
  bi_l_pen : Binds K fd_l_pen ["_law_script"] []
  m_l_pen : mg "_law_pen" = some (.ref a_l_pen)
  a_l_draw : Addr
  fd_l_draw : FuncData
  F_l_draw : Fun K "_law_draw" "_law_draw" s_l_draw a_l_draw fd_l_draw
  bi_l_draw : Binds K fd_l_draw ["_law_pen_here", "_law_many"] []
  m_l_draw : mg "_law_draw" = some (.ref a_l_draw)
  a_l_pick : Addr
  fd_l_pick : FuncData
  F_l_pick : Fun K "_law_pick" "_law_pick" s_l_pick a_l_pick fd_l_pick
  bi_l_pick : Binds K fd_l_pick ["_law_pen_here", "_law_some"] []
  m_l_pick : mg "_law_pick" = some (.ref a_l_pick)
  a_l_letters : Addr
  fd_l_letters : FuncData
  F_l_letters : Fun K "_law_letters" "_law_letters" s_l_letters a_l_letters fd_l_letters
  bi_l_letters : Binds K fd_l_letters ["_law_pen_here", "_law_most"] []
  m_l_letters : mg "_law_letters" = some (.ref a_l_letters)
  a_l_shuffled : Addr
  fd_l_shuffled : FuncData
  F_l_shuffled : Fun K "_law_shuffled" "_law_shuffled" s_l_shuffled a_l_shuffled fd_l_shuffled
  bi_l_shuffled : Binds K fd_l_shuffled ["_law_pen_here", "_law_some"] []
  m_l_shuffled : mg "_law_shuffled" = some (.ref a_l_shuffled)
  a_l_ordered : Addr
  fd_l_ordered : FuncData
  F_l_ordered : Fun K "_law_ordered" "_law_ordered" s_l_ordered a_l_ordered fd_l_ordered
  bi_l_ordered : Binds K fd_l_ordered ["_law_letters_here", "_law_words"] []
  m_l_ordered : mg "_law_ordered" = some (.ref a_l_ordered)
  a_l_exact : Addr
  fd_l_exact : FuncData
  F_l_exact : Fun K "_law_exact" "_law_exact" s_l_exact a_l_exact fd_l_exact
  bi_l_exact : Binds K fd_l_exact ["_law_pen_here"] []
  m_l_exact : mg "_law_exact" = some (.ref a_l_exact)
  a_l_items : Addr
  fd_l_items : FuncData
  F_l_items : Fun K "_law_items" "_law_items" s_l_items a_l_items fd_l_items
  bi_l_items : Binds K fd_l_items ["_law_pen_here", "_law_letters_here", "_law_many", "_law_longest"] []
  m_l_items : mg "_law_items" = some (.ref a_l_items)
  a_l_flags_due : Addr
  fd_l_flags_due : FuncData
  F_l_flags_due : Fun K "_law_flags_due" "_law_flags_due" s_l_flags_due a_l_flags_due fd_l_flags_due
  bi_l_flags_due : Binds K fd_l_flags_due ["_law_root", "_law_others"] []
  m_l_flags_due : mg "_law_flags_due" = some (.ref a_l_flags_due)
  a_l_rows_due : Addr
  fd_l_rows_due : FuncData
  F_l_rows_due : Fun K "_law_rows_due" "_law_rows_due" s_l_rows_due a_l_rows_due fd_l_rows_due
  bi_l_rows_due : Binds K fd_l_rows_due ["_law_letters_here", "_law_items_here", "_law_flags"] []
  m_l_rows_due : mg "_law_rows_due" = some (.ref a_l_rows_due)
  a_l_caught : Addr
  fd_l_caught : FuncData
  F_l_caught : Fun K "_law_caught" "_law_caught" s_l_caught a_l_caught fd_l_caught
  bi_l_caught : Binds K fd_l_caught ["_law_function"] []
  m_l_caught : mg "_law_caught" = some (.ref a_l_caught)
  a_l_bent : Addr
  fd_l_bent : FuncData
  F_l_bent : Fun K "_law_bent" "_law_bent" s_l_bent a_l_bent fd_l_bent
  bi_l_bent : Binds K fd_l_bent ["_law_pen_here", "_law_root", "_law_others"] []
  m_l_bent : mg "_law_bent" = some (.ref a_l_bent)
  a_l_is_exact : Addr
  fd_l_is_exact : FuncData
  F_l_is_exact : Fun K "_law_is_exact" "_law_is_exact" s_l_is_exact a_l_is_exact fd_l_is_exact
  bi_l_is_exact : Binds K fd_l_is_exact ["_law_root", "_law_others"] []
  m_l_is_exact : mg "_law_is_exact" = some (.ref a_l_is_exact)
  a_l_refused_right : Addr
  fd_l_refused_right : FuncData
  F_l_refused_right : Fun K "_law_refused_right" "_law_refused_right" s_l_refused_right a_l_refused_right fd_l_refused_right
  bi_l_refused_right : Binds K fd_l_refused_right ["_law_pen_here", "_law_rule", "_law_letters_here", "_law_items_here"] []
  m_l_refused_right : mg "_law_refused_right" = some (.ref a_l_refused_right)
  a_l_only_right : Addr
  fd_l_only_right : FuncData
  F_l_only_right : Fun K "_law_only_right" "_law_only_right" s_l_only_right a_l_only_right fd_l_only_right
  bi_l_only_right : Binds K fd_l_only_right ["_law_pen_here", "_law_rule", "_law_letters_here", "_law_rows"] []
  m_l_only_right : mg "_law_only_right" = some (.ref a_l_only_right)
  a_law : Addr
  fd_law : FuncData
  F_law : Fun K "law" "law" s_law a_law fd_law
  bi_law : Binds K fd_law ["_law_script"] []
  m_law : mg "law" = some (.ref a_law)
  ca_Tree : PySem.W.findIn K (.ref c_Tree) "__class__" = some (some (.builtin "object.__class__"))
  ob_Tree : PySem.W.mroIn K c_Tree (.type "object") = some true
  cr_Tree : ClX.CRead K c_Tree (.type "type")
  p_Tree_of : Addr
  cm_Tree_of : ClX.CMet K c_Tree (.type "type") "of" p_Tree_of a_Tree_of
  kc_in_order : Addr
  tb_in_order : Addr
  ec_in_order : fd_in_order.code = .ref kc_in_order
  kc_l_ordered : Addr
  tb_l_ordered : Addr
  ec_l_ordered : fd_l_ordered.code = .ref kc_l_ordered
  kc_l_refused_right : Addr
  tb_l_refused_right : Addr
  ec_l_refused_right : fd_l_refused_right.code = .ref kc_l_refused_right
  kc_law : Addr
  tb_law : Addr
  ec_law : fd_law.code = .ref kc_law
  tnd : [tb_in_order, tb_l_ordered, tb_l_refused_right, tb_law].Nodup
section
variable {P : Program} {K : PySem.W.Frag} {mg : Str → Option Value}
def tabs (T : Tx P K mg) : List (Addr × Str) := [(T.tb_in_order, (PyProof.Rows.envOfC "in_order" (defScope s_in_order) 0 0 .none).qual ++ "<lambda>"), (T.tb_l_ordered, (PyProof.Rows.envOfC "_law_ordered" (defScope s_l_ordered) 0 0 .none).qual ++ "<lambda>"), (T.tb_l_refused_right, (PyProof.Rows.envOfC "_law_refused_right" (defScope s_l_refused_right) 0 0 .none).qual ++ "<lambda>"), (T.tb_law, (PyProof.Rows.envOfC "law" (defScope s_law) 0 0 .none).qual ++ "<lambda>")]
theorem mem_in_order (T : Tx P K mg) : (T.tb_in_order, (PyProof.Rows.envOfC "in_order" (defScope s_in_order) 0 0 .none).qual ++ "<lambda>") ∈ tabs T := .head _
theorem uniq_in_order (T : Tx P K mg) : ∀ p ∈ tabs T, p.1 = T.tb_in_order → p.2 = (PyProof.Rows.envOfC "in_order" (defScope s_in_order) 0 0 .none).qual ++ "<lambda>" := ShL.tab_uniq (T := tabs T) T.tnd (mem_in_order T)
theorem mem_l_ordered (T : Tx P K mg) : (T.tb_l_ordered, (PyProof.Rows.envOfC "_law_ordered" (defScope s_l_ordered) 0 0 .none).qual ++ "<lambda>") ∈ tabs T := .tail _ (.head _)
theorem uniq_l_ordered (T : Tx P K mg) : ∀ p ∈ tabs T, p.1 = T.tb_l_ordered → p.2 = (PyProof.Rows.envOfC "_law_ordered" (defScope s_l_ordered) 0 0 .none).qual ++ "<lambda>" := ShL.tab_uniq (T := tabs T) T.tnd (mem_l_ordered T)
theorem mem_l_refused_right (T : Tx P K mg) : (T.tb_l_refused_right, (PyProof.Rows.envOfC "_law_refused_right" (defScope s_l_refused_right) 0 0 .none).qual ++ "<lambda>") ∈ tabs T := .tail _ (.tail _ (.head _))
theorem uniq_l_refused_right (T : Tx P K mg) : ∀ p ∈ tabs T, p.1 = T.tb_l_refused_right → p.2 = (PyProof.Rows.envOfC "_law_refused_right" (defScope s_l_refused_right) 0 0 .none).qual ++ "<lambda>" := ShL.tab_uniq (T := tabs T) T.tnd (mem_l_refused_right T)
theorem mem_law (T : Tx P K mg) : (T.tb_law, (PyProof.Rows.envOfC "law" (defScope s_law) 0 0 .none).qual ++ "<lambda>") ∈ tabs T := .tail _ (.tail _ (.tail _ (.head _)))
theorem uniq_law (T : Tx P K mg) : ∀ p ∈ tabs T, p.1 = T.tb_law → p.2 = (PyProof.Rows.envOfC "law" (defScope s_law) 0 0 .none).qual ++ "<lambda>" := ShL.tab_uniq (T := tabs T) T.tnd (mem_law T)
structure Bx (T : Tx P K mg) (base : Heap) : Prop where
  tb_in_order : LamX.TabB base mg T.kc_in_order T.tb_in_order
  tb_l_ordered : LamX.TabB base mg T.kc_l_ordered T.tb_l_ordered
  tb_l_refused_right : LamX.TabB base mg T.kc_l_refused_right T.tb_l_refused_right
  tb_law : LamX.TabB base mg T.kc_law T.tb_law
end
theorem hu65_of {A : Around} {k : Nat} (hr : Room k A) : A.units + 65 < cLine := by have := hr.un; omega
end Toy
set_option Elab.async false
set_option linter.all false
set_option maxRecDepth 100000
set_option maxHeartbeats 4000000
namespace Toy
open PySem L2 Sh ShL LamX NdefX
/-! ### the exceptions are made -/
theorem kp_two {H : Hp} {a dx : Addr} {o1 o2 : HO} (hd : H dx = none) : Kp a H (upd (upd H dx o1) a o2) := fun b o e nb => by
  rw [upd_ne nb, upd_ne (ne_of_none e hd)]
  exact e
theorem kp_more {H H1 : Hp} {a dx : Addr} {o1 : HO} (k : Kp a H H1) (hd : H dx = none) : Kp a H (upd H1 dx o1) := fun b o e nb => by
  rw [upd_ne (ne_of_none e hd)]
  exact k b o e nb
section
variable {P : Program} {w : World} {K : PySem.W.Frag} {mg : Str → Option Value} {base : Heap}
theorem ok_x_BadLetters (T : Tx P K mg) : FnOk P w K mg base CX0 1 T.a_x_BadLetters T.fd_x_BadLetters ["self", "letters"] (spXI T.c_BadLetters ["letters"]) := by
  obtain ⟨oc, od, kV, doc, pm, an, ct, osl, cc, cda, hfd, lk, hcd, SF⟩ := T.i_BadLetters.fn
  rw [hfd] at lk ⊢
  refine fn_super (k := 0) lk hcd sc_x_BadLetters rfl SF rfl (fun vs H Q E h => ?_) (fun A outer s H vs Q E hr h => ?_)
  · obtain ⟨a, ws, rfl, hl, _⟩ := h
    rw [List.length_cons, hl]
    rfl
  obtain ⟨a, ws, rfl, hl, ha, q⟩ := h
  match ws, hl, q with
  | [v1], _, q =>
  refine ⟨a, T.c_BadLetters, _, _, rfl, ha, T.i_BadLetters.sc, (pa_cons (pv 1) pa_nil), (pss_one (ps_ost (pv 0) (pv 1))), ?_⟩
  refine ⟨_, rfl, by show 1 ≤ 1000; decide, ha, ?_⟩
  refine ⟨_, rfl, _, rfl, a, T.c_BadLetters, rfl, T.i_BadLetters.m.ox, T.nf_BadLetters_letters, .inl ⟨ha, fun dx hd hne => ?_⟩⟩
  exact q _ dx (kp_two hd) hd hne upd_same (by rw [upd_ne hne, upd_same]; rfl)
theorem ok_x_TooMany (T : Tx P K mg) : FnOk P w K mg base CX0 1 T.a_x_TooMany T.fd_x_TooMany ["self", "what", "many", "most"] (spXI T.c_TooMany ["what", "many", "most"]) := by
  obtain ⟨oc, od, kV, doc, pm, an, ct, osl, cc, cda, hfd, lk, hcd, SF⟩ := T.i_TooMany.fn
  rw [hfd] at lk ⊢
  refine fn_super (k := 0) lk hcd sc_x_TooMany rfl SF rfl (fun vs H Q E h => ?_) (fun A outer s H vs Q E hr h => ?_)
  · obtain ⟨a, ws, rfl, hl, _⟩ := h
    rw [List.length_cons, hl]
    rfl
  obtain ⟨a, ws, rfl, hl, ha, q⟩ := h
  match ws, hl, q with
  | [v1, v2, v3], _, q =>
  refine ⟨a, T.c_TooMany, _, _, rfl, ha, T.i_TooMany.sc, (pa_cons (pv 1) (pa_cons (pv 2) (pa_cons (pv 3) pa_nil))), (pss_cons (ps_ost (pv 0) (pv 1)) (pss_cons (ps_ost (pv 0) (pv 2)) (pss_one (ps_ost (pv 0) (pv 3))))), ?_⟩
  refine ⟨_, rfl, _, rfl, _, rfl, by show 3 ≤ 1000; decide, ha, ?_⟩
  refine ⟨_, rfl, _, rfl, a, T.c_TooMany, rfl, T.i_TooMany.m.ox, T.nf_TooMany_what, .inl ⟨ha, fun dx hd hne => ?_⟩⟩
  have ea := (upd_same : upd (upd H dx (exd dx [("what", v1)])) a (exo a T.c_TooMany (some dx)) a = _)
  have ed : upd (upd H dx (exd dx [("what", v1)])) a (exo a T.c_TooMany (some dx)) dx = some (exd dx [("what", v1)]) := by rw [upd_ne hne, upd_same]
  have k0 := (kp_two hd : Kp a H (upd (upd H dx (exd dx [("what", v1)])) a (exo a T.c_TooMany (some dx))))
  generalize upd (upd H dx (exd dx [("what", v1)])) a (exo a T.c_TooMany (some dx)) = H1 at ea ed k0 ⊢
  refine ⟨_, rfl, _, rfl, a, T.c_TooMany, rfl, T.i_TooMany.m.ox, T.nf_TooMany_many, .inr ⟨dx, _, ea, ed, by show 1 ≤ 900; decide, ?_⟩⟩
  have k2 := (kp_more k0 hd : Kp a H (upd H1 dx (exd dx [("many", v2), ("what", v1)])))
  replace ea : upd H1 dx (exd dx [("many", v2), ("what", v1)]) a = some (exo a T.c_TooMany (some dx)) := by rw [upd_ne hne.symm]; exact ea
  replace ed : upd H1 dx (exd dx [("many", v2), ("what", v1)]) dx = some (exd dx [("many", v2), ("what", v1)]) := upd_same
  generalize upd H1 dx (exd dx [("many", v2), ("what", v1)]) = H2 at ea ed k2 ⊢
  refine ⟨_, rfl, _, rfl, a, T.c_TooMany, rfl, T.i_TooMany.m.ox, T.nf_TooMany_most, .inr ⟨dx, _, ea, ed, by show 2 ≤ 900; decide, ?_⟩⟩
  exact q _ dx (kp_more k2 hd) hd hne (by rw [upd_ne hne.symm]; exact ea) upd_same
theorem ok_x_BadRow (T : Tx P K mg) : FnOk P w K mg base CX0 1 T.a_x_BadRow T.fd_x_BadRow ["self", "number"] (spXI T.c_BadRow ["number"]) := by
  obtain ⟨oc, od, kV, doc, pm, an, ct, osl, cc, cda, hfd, lk, hcd, SF⟩ := T.i_BadRow.fn
  rw [hfd] at lk ⊢
  refine fn_super (k := 0) lk hcd sc_x_BadRow rfl SF rfl (fun vs H Q E h => ?_) (fun A outer s H vs Q E hr h => ?_)
  · obtain ⟨a, ws, rfl, hl, _⟩ := h
    rw [List.length_cons, hl]
    rfl
  obtain ⟨a, ws, rfl, hl, ha, q⟩ := h
  match ws, hl, q with
  | [v1], _, q =>
  refine ⟨a, T.c_BadRow, _, _, rfl, ha, T.i_BadRow.sc, (pa_cons (pv 1) pa_nil), (pss_one (ps_ost (pv 0) (pv 1))), ?_⟩
  refine ⟨_, rfl, by show 1 ≤ 1000; decide, ha, ?_⟩
  refine ⟨_, rfl, _, rfl, a, T.c_BadRow, rfl, T.i_BadRow.m.ox, T.nf_BadRow_number, .inl ⟨ha, fun dx hd hne => ?_⟩⟩
  exact q _ dx (kp_two hd) hd hne upd_same (by rw [upd_ne hne, upd_same]; rfl)
theorem ok_x_Lone (T : Tx P K mg) : FnOk P w K mg base CX0 1 T.a_x_Lone T.fd_x_Lone ["self", "place"] (spXI T.c_Lone ["place"]) := by
  obtain ⟨oc, od, kV, doc, pm, an, ct, osl, cc, cda, hfd, lk, hcd, SF⟩ := T.i_Lone.fn
  rw [hfd] at lk ⊢
  refine fn_super (k := 0) lk hcd sc_x_Lone rfl SF rfl (fun vs H Q E h => ?_) (fun A outer s H vs Q E hr h => ?_)
  · obtain ⟨a, ws, rfl, hl, _⟩ := h
    rw [List.length_cons, hl]
    rfl
  obtain ⟨a, ws, rfl, hl, ha, q⟩ := h
  match ws, hl, q with
  | [v1], _, q =>
  refine ⟨a, T.c_Lone, _, _, rfl, ha, T.i_Lone.sc, (pa_cons (pv 1) pa_nil), (pss_one (ps_ost (pv 0) (pv 1))), ?_⟩
  refine ⟨_, rfl, by show 1 ≤ 1000; decide, ha, ?_⟩
  refine ⟨_, rfl, _, rfl, a, T.c_Lone, rfl, T.i_Lone.m.ox, T.nf_Lone_place, .inl ⟨ha, fun dx hd hne => ?_⟩⟩
  exact q _ dx (kp_two hd) hd hne upd_same (by rw [upd_ne hne, upd_same]; rfl)
theorem ok_x_NoPlace (T : Tx P K mg) : FnOk P w K mg base CX0 1 T.a_x_NoPlace T.fd_x_NoPlace ["self", "place"] (spXI T.c_NoPlace ["place"]) := by
  obtain ⟨oc, od, kV, doc, pm, an, ct, osl, cc, cda, hfd, lk, hcd, SF⟩ := T.i_NoPlace.fn
  rw [hfd] at lk ⊢
  refine fn_super (k := 0) lk hcd sc_x_NoPlace rfl SF rfl (fun vs H Q E h => ?_) (fun A outer s H vs Q E hr h => ?_)
  · obtain ⟨a, ws, rfl, hl, _⟩ := h
    rw [List.length_cons, hl]
    rfl
  obtain ⟨a, ws, rfl, hl, ha, q⟩ := h
  match ws, hl, q with
  | [v1], _, q =>
  refine ⟨a, T.c_NoPlace, _, _, rfl, ha, T.i_NoPlace.sc, (pa_cons (pv 1) pa_nil), (pss_one (ps_ost (pv 0) (pv 1))), ?_⟩
  refine ⟨_, rfl, by show 1 ≤ 1000; decide, ha, ?_⟩
  refine ⟨_, rfl, _, rfl, a, T.c_NoPlace, rfl, T.i_NoPlace.m.ox, T.nf_NoPlace_place, .inl ⟨ha, fun dx hd hne => ?_⟩⟩
  exact q _ dx (kp_two hd) hd hne upd_same (by rw [upd_ne hne, upd_same]; rfl)
theorem ok_x_BadItem (T : Tx P K mg) : FnOk P w K mg base CX0 1 T.a_x_BadItem T.fd_x_BadItem ["self", "number"] (spXI T.c_BadItem ["number"]) := by
  obtain ⟨oc, od, kV, doc, pm, an, ct, osl, cc, cda, hfd, lk, hcd, SF⟩ := T.i_BadItem.fn
  rw [hfd] at lk ⊢
  refine fn_super (k := 0) lk hcd sc_x_BadItem rfl SF rfl (fun vs H Q E h => ?_) (fun A outer s H vs Q E hr h => ?_)
  · obtain ⟨a, ws, rfl, hl, _⟩ := h
    rw [List.length_cons, hl]
    rfl
  obtain ⟨a, ws, rfl, hl, ha, q⟩ := h
  match ws, hl, q with
  | [v1], _, q =>
  refine ⟨a, T.c_BadItem, _, _, rfl, ha, T.i_BadItem.sc, (pa_cons (pv 1) pa_nil), (pss_one (ps_ost (pv 0) (pv 1))), ?_⟩
  refine ⟨_, rfl, by show 1 ≤ 1000; decide, ha, ?_⟩
  refine ⟨_, rfl, _, rfl, a, T.c_BadItem, rfl, T.i_BadItem.m.ox, T.nf_BadItem_number, .inl ⟨ha, fun dx hd hne => ?_⟩⟩
  exact q _ dx (kp_two hd) hd hne upd_same (by rw [upd_ne hne, upd_same]; rfl)
theorem ok_x_BadKind (T : Tx P K mg) : FnOk P w K mg base CX0 1 T.a_x_BadKind T.fd_x_BadKind ["self", "side", "number"] (spXI T.c_BadKind ["side", "number"]) := by
  obtain ⟨oc, od, kV, doc, pm, an, ct, osl, cc, cda, hfd, lk, hcd, SF⟩ := T.i_BadKind.fn
  rw [hfd] at lk ⊢
  refine fn_super (k := 0) lk hcd sc_x_BadKind rfl SF rfl (fun vs H Q E h => ?_) (fun A outer s H vs Q E hr h => ?_)
  · obtain ⟨a, ws, rfl, hl, _⟩ := h
    rw [List.length_cons, hl]
    rfl
  obtain ⟨a, ws, rfl, hl, ha, q⟩ := h
  match ws, hl, q with
  | [v1, v2], _, q =>
  refine ⟨a, T.c_BadKind, _, _, rfl, ha, T.i_BadKind.sc, (pa_cons (pv 1) (pa_cons (pv 2) pa_nil)), (pss_cons (ps_ost (pv 0) (pv 1)) (pss_one (ps_ost (pv 0) (pv 2)))), ?_⟩
  refine ⟨_, rfl, _, rfl, by show 2 ≤ 1000; decide, ha, ?_⟩
  refine ⟨_, rfl, _, rfl, a, T.c_BadKind, rfl, T.i_BadKind.m.ox, T.nf_BadKind_side, .inl ⟨ha, fun dx hd hne => ?_⟩⟩
  have ea := (upd_same : upd (upd H dx (exd dx [("side", v1)])) a (exo a T.c_BadKind (some dx)) a = _)
  have ed : upd (upd H dx (exd dx [("side", v1)])) a (exo a T.c_BadKind (some dx)) dx = some (exd dx [("side", v1)]) := by rw [upd_ne hne, upd_same]
  have k0 := (kp_two hd : Kp a H (upd (upd H dx (exd dx [("side", v1)])) a (exo a T.c_BadKind (some dx))))
  generalize upd (upd H dx (exd dx [("side", v1)])) a (exo a T.c_BadKind (some dx)) = H1 at ea ed k0 ⊢
  refine ⟨_, rfl, _, rfl, a, T.c_BadKind, rfl, T.i_BadKind.m.ox, T.nf_BadKind_number, .inr ⟨dx, _, ea, ed, by show 1 ≤ 900; decide, ?_⟩⟩
  exact q _ dx (kp_more k0 hd) hd hne (by rw [upd_ne hne.symm]; exact ea) upd_same
end
end Toy
set_option Elab.async false
set_option linter.all false
set_option maxRecDepth 100000
set_option maxHeartbeats 4000000
namespace Toy
open PySem L2 Sh ShL LamX NdefX
theorem ints_dp {K : PySem.W.Frag} {H : Hp} : ∀ ns : List Int, DpAll K H (ns.map V.int) (ns.map PyData.int)
  | [] => .nil
  | n :: ns => .cons (.int n) (ints_dp ns)
theorem ints_lay : ∀ ns : List Int, PyData.canLayAll0 (ns.map PyData.int) = true ∧ PyData.depthAll (ns.map PyData.int) ≤ 1
  | [] => ⟨rfl, by simp [PyData.depthAll]⟩
  | n :: ns => by
    obtain ⟨h1, h2⟩ := ints_lay ns
    refine ⟨by simp only [List.map_cons, PyData.canLayAll0, PyData.canLay0, h1]; rfl, ?_⟩
    simp only [List.map_cons, PyData.depthAll, PyData.depth]
    omega
theorem ints_shaped (ns : List Int) : SeqAt.shaped (.list (ns.map PyData.int)) = true := by
  obtain ⟨h1, h2⟩ := ints_lay ns
  show (PyData.canLay0 (.list (ns.map PyData.int)) && decide (PyData.depth (.list (ns.map PyData.int)) ≤ 64)) = true
  rw [Bool.and_eq_true]
  exact ⟨by simp only [PyData.canLay0]; exact h1, decide_eq_true (by simp only [PyData.depth]; omega)⟩
theorem ints_eqv (ns : List Int) : PyData.eqv (.list (ns.map PyData.int)) (.list []) = decide (ns.length = 0) := by
  cases ns <;> simp [PyData.eqv, PyData.eqvAll]
theorem posI {n : Nat} [NeZero n] : (0 : Int) < (OfNat.ofNat n : Int) := by
  have := Nat.pos_of_ne_zero (NeZero.ne n)
  exact Int.ofNat_lt.mpr this
/-! ### the pen -/
def penL (c : Addr) (b l : Int) : List (Key × V) := [(.inr "cells", .ref c), (.inr "opened", .int b), (.inr "left", .int l)]
theorem k12 : ¬ (("cells" : Str) = "opened") := by decide +kernel
theorem k13 : ¬ (("cells" : Str) = "left") := by decide +kernel
theorem k23 : ¬ (("opened" : Str) = "left") := by decide +kernel
theorem ki {a b : Str} (h : ¬ a = b) : ¬ (Sum.inr a : Key) = Sum.inr b := fun e => h (Sum.inr.inj e)
theorem pen_cells (c : Addr) (b l : Int) : valV (penL c b l) (.inr "cells") = some (.ref c) := valV_pos rfl
theorem pen_next (c : Addr) (b l : Int) : valV (penL c b l) (.inr "opened") = some (.int b) := (valV_neg (ki k12)).trans (valV_pos rfl)
theorem pen_left (c : Addr) (b l : Int) : valV (penL c b l) (.inr "left") = some (.int l) := (valV_neg (ki k13)).trans ((valV_neg (ki k23)).trans (valV_pos rfl))
theorem put2 {a b c : Str} {x y z v : V} (h12 : ¬ a = b) (h23 : ¬ b = c) : putK ([(.inr a, x), (.inr b, y), (.inr c, z)] : List (Key × V)) (.inr b) v = [(.inr a, x), (.inr b, v), (.inr c, z)] := by
  have h32 : ¬ c = b := fun e => h23 e.symm
  unfold putK
  simp [h12, h32]
theorem put3 {a b c : Str} {x y z v : V} (h13 : ¬ a = c) (h23 : ¬ b = c) : putK ([(.inr a, x), (.inr b, y), (.inr c, z)] : List (Key × V)) (.inr c) v = [(.inr a, x), (.inr b, y), (.inr c, v)] := by
  unfold putK
  simp [h13, h23]
theorem pen_put_next (c : Addr) (b l : Int) (v : Int) : putK (penL c b l) (.inr "opened") (.int v) = penL c v l := by
  unfold penL
  rw [put2 k12 k23]
theorem pen_put_left (c : Addr) (b l : Int) (v : Int) : putK (penL c b l) (.inr "left") (.int v) = penL c b v := by
  unfold penL
  rw [put3 k13 k23]
theorem at_mod {ns : List Int} {b : Int} (h : 0 < (ns.length : Int)) : ∃ v, atI (ns.map V.int) (b % (ns.length : Int)) = some (.int v) := by
  have h1 := Int.emod_nonneg b (show (ns.length : Int) ≠ 0 by omega)
  have h2 := Int.emod_lt_of_pos b h
  have h3 : (b % (ns.length : Int)).toNat < ns.length := by omega
  refine ⟨ns[(b % (ns.length : Int)).toNat], at_of (j := (b % (ns.length : Int)).toNat) (by omega) ?_⟩
  rw [List.getElem?_map, List.getElem?_eq_getElem h3]
  rfl
/-- a pen stands at d, n numbers were drawn from it at most -/
def Pen (H : Hp) (d c : Addr) (n : Nat) : Prop := ∃ (ns : List Int) (b l : Int), H d = some (.dK (penL c b l)) ∧ H c = some (.lst (ns.map V.int)) ∧ 0 ≤ b ∧ b ≤ (n : Int) ∧ 0 ≤ l
theorem Pen.mono {H : Hp} {d c : Addr} {n m : Nat} (p : Pen H d c n) (h : n ≤ m) : Pen H d c m := by
  obtain ⟨ns, b, l, h1, h2, h3, h4, h5⟩ := p
  exact ⟨ns, b, l, h1, h2, h3, by omega, h5⟩
theorem Pen.at {H : Hp} {d c : Addr} {n : Nat} (p : Pen H d c n) : ∃ kvs, H d = some (.dK kvs) := by
  obtain ⟨ns, b, l, h1, _⟩ := p
  exact ⟨_, h1⟩
theorem Pen.same {H H' : Hp} {d c : Addr} {n : Nat} (p : Pen H d c n) (s : Same H H') : Pen H' d c n := by
  obtain ⟨ns, b, l, h1, h2, h3⟩ := p
  exact ⟨ns, b, l, s _ _ h1, s _ _ h2, h3⟩
def spDraw : Sp := fun vs H Q _ => ∃ (d c : Addr) (n : Nat) (m : Int), vs = [.ref d, .int m] ∧ Pen H d c n ∧ n ≤ 100000 ∧ 0 < m ∧ m < 1000000000 ∧
  ∀ (H' : Hp) (r : Int), 0 ≤ r → r < m → Kp d H H' → Pen H' d c (n + 1) → Q (.int r) H'
section
variable {P : Program} {w : World} {K : PySem.W.Frag} {mg : Str → Option Value} {base : Heap}
theorem ok_l_draw (T : Tx P K mg) (B : Bx T base) : FnOk P w K mg base CX0 1 T.a_l_draw T.fd_l_draw ["_law_pen_here", "_law_many"] spDraw := by
  refine T.F_l_draw.ok sc_l_draw (fun vs H Q E h => ?_) (fun cdv A outer s H vs Q E hr h => ?_)
  · obtain ⟨d, c, n, m, rfl, _⟩ := h
    rfl
  have hu := hu_of hr
  obtain ⟨d, c, n, m, rfl, ⟨ns, b, l, hd, hc, hb0, hbn, hl⟩, hn, hm, hm2, q⟩ := h
  have ncd : c ≠ d := ne_of hc hd (by intro z; cases z)
  have gl : ∀ {H' : Hp} {c b l}, H' d = some (.dK (penL c b l)) → DGet H' d (.str "left") (some (.int l)) := fun h => by
    have := DGet.k (k := Sum.inr "left") h
    rw [pen_left] at this
    exact this
  have gb : ∀ {H' : Hp} {c b l}, H' d = some (.dK (penL c b l)) → DGet H' d (.str "opened") (some (.int b)) := fun h => by
    have := DGet.k (k := Sum.inr "opened") h
    rw [pen_next] at this
    exact this
  have gc : ∀ {H' : Hp} {c b l}, H' d = some (.dK (penL c b l)) → DGet H' d (.str "cells") (some (.ref c)) := fun h => by
    have := DGet.k (k := Sum.inr "cells") h
    rw [pen_cells] at this
    exact this
  have pb : ∀ {H' : Hp} {c b l} (v : Int), H' d = some (.dK (penL c b l)) → DPut H' d (.str "opened") (.int v) (upd H' d (.dK (penL c v l))) := fun v h => by
    have := DPut.k (k := Sum.inr "opened") (v := .int v) h (by show 3 < sizeLine; decide)
    rw [pen_put_next] at this
    exact this
  have pl : ∀ {H' : Hp} {c b l} (v : Int), H' d = some (.dK (penL c b l)) → DPut H' d (.str "left") (.int v) (upd H' d (.dK (penL c b v))) := fun v h => by
    have := DPut.k (k := Sum.inr "left") (v := .int v) h (by show 3 < sizeLine; decide)
    rw [pen_put_left] at this
    exact this
  refine ⟨_, (pss_cons (ps_if (pt_cmpR op_gt (pe_dget hu (pv 0) pe_str (fun _ _ => rfl)) pe_int (nomark _))
 (pss_cons (ps_set (i := 2) sc_l_draw.nd rfl (by first | exact Or.inl rfl | exact Or.inr rfl) (pe_op op_mod (pe_callTy call_int1 (by rfl) T.b_int (by decide +kernel) (pa_cons (pe_dget hu (pv 0) pe_str (fun _ _ => rfl)) pa_nil)) (pv 1)))
 (pss_cons (ps_dput hu (pv 0) pe_str (pe_op op_fdivN (pe_dget hu (pv 0) pe_str (fun _ _ => rfl)) (pv 1)) rfl)
 (pss_one (ps_ret (pv 2)))))
 pss_nil)
 (pss_cons (ps_par (i := 3) (j := 4) (by rfl) sc_l_draw.nd rfl rfl (by decide) rfl rfl (pa_cons (pe_dget hu (pv 0) pe_str (fun _ _ => rfl)) (pa_cons (pe_dget hu (pv 0) pe_str (fun _ _ => rfl)) pa_nil)) (by rfl))
 (pss_cons (ps_dput hu (pv 0) pe_str (pe_op op_add (pv 3) pe_int) rfl)
 (pss_cons (ps_if (pt_cmpR (op_eqD hr.units) (pv 4) (pe_lst pa_nil) (nomark _))
 (pss_one (ps_ret (pe_op op_mod (pe_callTy call_int1 (by rfl) T.b_int (by decide +kernel) (pa_cons (pe_op op_add (pe_op op_mul pe_int (pv 3)) pe_int) pa_nil)) (pv 1))))
 pss_nil)
 (pss_cons (ps_set (i := 5) sc_l_draw.nd rfl (by first | exact Or.inl rfl | exact Or.inr rfl) (pe_ix ix_list (pv 4) (pe_op op_mod (pe_callTy call_int1 (by rfl) T.b_int (by decide +kernel) (pa_cons (pv 3) pa_nil)) (pe_callB call_len_seq (by rfl) T.b_len (by decide +kernel) (pa_cons (pv 4) pa_nil))) (fun _ _ => rfl)))
 (pss_cons (ps_if (PW.pt (pw_and (pt_cmpR op_lt (pv 3) (pe_callB call_len_seq (by rfl) T.b_len (by decide +kernel) (pa_cons (pv 4) pa_nil)) (nomark _)) (pw_and1 (pt_cmpR op_ge (pe_callB call_abs (by rfl) T.b_abs (by decide +kernel) (pa_cons (pv 5) pa_nil)) (pe_op op_pow pe_int pe_int) (nomark _)))))
 (pss_cons (ps_dput hu (pv 0) pe_str (pe_op op_fdivN (pe_op op_sub (pe_callB call_abs (by rfl) T.b_abs (by decide +kernel) (pa_cons (pv 5) pa_nil)) (pe_op op_pow pe_int pe_int)) (pv 1)) rfl)
 (pss_one (ps_ret (pe_op op_mod (pe_callTy call_int1 (by rfl) T.b_int (by decide +kernel) (pa_cons (pe_op op_sub (pe_callB call_abs (by rfl) T.b_abs (by decide +kernel) (pa_cons (pv 5) pa_nil)) (pe_op op_pow pe_int pe_int)) pa_nil)) (pv 1)))))
 pss_nil)
 (pss_cons (ps_set (i := 6) sc_l_draw.nd rfl (by first | exact Or.inl rfl | exact Or.inr rfl) (pe_op op_mod (pe_callTy call_int1 (by rfl) T.b_int (by decide +kernel) (pa_cons (pe_op op_add (pe_op op_add (pe_op op_add (pe_op op_mul (pe_op op_mod (pe_callTy call_int1 (by rfl) T.b_int (by decide +kernel) (pa_cons (pv 5) pa_nil)) pe_int) pe_int) (pe_op op_mul (pe_op op_mul pe_int (pv 3)) (pv 3))) (pe_op op_mul pe_int (pv 3))) pe_int) pa_nil)) pe_int))
 (pss_cons (ps_set (i := 6) sc_l_draw.nd rfl (by first | exact Or.inl rfl | exact Or.inr rfl) (pe_op op_mod (pe_callTy call_int1 (by rfl) T.b_int (by decide +kernel) (pa_cons (pe_op op_add (pe_op op_add (pe_op op_mul (pv 6) (pv 6)) (pe_op op_mul pe_int (pv 6))) (pe_op op_mul pe_int (pv 3))) pa_nil)) pe_int))
 (pss_one (ps_ret (pe_op op_mod (pe_callTy call_int1 (by rfl) T.b_int (by decide +kernel) (pa_cons (pe_op op_fdivN (pe_op op_mod (pe_callTy call_int1 (by rfl) T.b_int (by decide +kernel) (pa_cons (pe_op op_mul (pv 6) (pe_op op_add (pv 6) pe_int)) pa_nil)) pe_int) pe_int) pa_nil)) (pv 1)))))))))))), ?_⟩
  -- if pen['left'] > 0
  refine ⟨_, rfl, d, _, rfl, gl hd, _, _, rfl, rfl, _, rfl, ?_⟩
  refine ite2 (fun h1 => ?_) (fun h1 => ?_)
  · refine ⟨_, rfl, d, _, rfl, gl hd, .inl ⟨_, rfl, _, rfl, _, _, rfl, rfl, hm, ?_⟩⟩
    refine ⟨_, rfl, d, _, rfl, gl hd, _, rfl, _, _, rfl, rfl, ⟨by omega, by omega⟩, _, rfl, d, _, rfl, pl _ hd, ?_⟩
    refine ⟨_, rfl, q _ _ (Int.emod_nonneg _ (by omega)) (Int.emod_lt_of_pos _ hm) kp_put ?_⟩
    refine ⟨ns, b, _, upd_same, by rw [upd_ne ncd]; exact hc, hb0, by omega, Int.fdiv_nonneg (by omega) (by omega)⟩
  -- k, told = (pen['opened'], pen['cells']); pen['opened'] = k + 1
  refine ⟨_, rfl, d, _, rfl, gb hd, _, rfl, d, _, rfl, gc hd, _, _, rfl, ?_⟩
  refine ⟨_, rfl, _, _, rfl, rfl, _, rfl, d, _, rfl, pb _ hd, ?_⟩
  have hd2 : (upd H d (.dK (penL c (b + 1) l))) d = some (.dK (penL c (b + 1) l)) := upd_same
  have hc2 : (upd H d (.dK (penL c (b + 1) l))) c = some (.lst (ns.map V.int)) := by rw [upd_ne ncd]; exact hc
  have kp2 : Kp d H (upd H d (.dK (penL c (b + 1) l))) := kp_put
  generalize upd H d (.dK (penL c (b + 1) l)) = H2 at hd2 hc2 kp2 ⊢
  -- if told == []
  refine ⟨_, rfl, Nat.zero_le _, fun e he => ?_⟩
  have s3 := same_upd (o := .lst []) he
  refine ⟨_, _, .lst (SqL.of (s3 _ _ hc2)) (ints_dp ns), .lst (SqL.of upd_same) .nil, ints_shaped ns, by decide +kernel, _, rfl, ?_⟩
  have hd3 := s3 _ _ hd2
  have hc3 := s3 _ _ hc2
  have kp3 : Kp d H (upd H2 e (.lst [])) := kp2.trans (Same.kp s3)
  generalize upd H2 e (.lst []) = H3 at hd3 hc3 kp3 ⊢
  rw [ints_eqv]
  refine ite2 (fun h2 => ?_) (fun h2 => ?_)
  · refine ⟨_, rfl, _, _, rfl, rfl, .inl ⟨by decide, by decide⟩, _, _, rfl, rfl, .inl ⟨_, rfl, _, rfl, _, _, rfl, rfl, hm, ?_⟩⟩
    exact q _ _ (Int.emod_nonneg _ (by omega)) (Int.emod_lt_of_pos _ hm) kp3 ⟨ns, b + 1, l, hd3, hc3, by omega, by omega, hl⟩
  have h3 : 0 < (ns.length : Int) := by
    have h4 : ¬ ns.length = 0 := fun z => h2 (decide_eq_true z)
    omega
  obtain ⟨z, hz⟩ := at_mod (b := b) h3
  have hlen : ((ns.map V.int).length : Int) = (ns.length : Int) := by rw [List.length_map]
  refine ⟨_, rfl, _, rfl, .inl ⟨_, rfl, _, rfl, c, _, rfl, .inl (SqL.of hc3), _, _, rfl, rfl, by rw [hlen]; exact h3, c, ns.map V.int, _, V.int z, rfl, rfl, SqL.of hc3, by rw [hlen]; exact hz, ?_⟩⟩
  -- if k < len(told) and abs(cell) >= 10 ** 18
  refine ⟨_, rfl, _, rfl, c, _, rfl, .inl (SqL.of hc3), _, _, rfl, rfl, _, rfl, ?_⟩
  have m1 := Int.emod_nonneg z (show (2147483629 : Int) ≠ 0 by decide)
  have m2 := Int.emod_lt_of_pos z (show (0 : Int) < 2147483629 by decide)
  have fin : ∀ X : Int, Q (.int (X % m)) H3 := fun X => q _ _ (Int.emod_nonneg _ (by omega)) (Int.emod_lt_of_pos _ hm) kp3 ⟨ns, b + 1, l, hd3, hc3, by omega, by omega, hl⟩
  refine ite2 (fun h4 => ?_) (fun h4 => ?_)
  · refine ⟨_, rfl, _, rfl, _, _, rfl, rfl, ⟨by decide, by decide, by decide⟩, _, _, rfl, rfl, _, rfl, ?_⟩
    refine ite2 (fun h5 => ?_) (fun h5 => ?_)
    · have h6 := of_decide_eq_true h5
      refine ⟨_, rfl, _, rfl, _, _, rfl, rfl, ⟨by decide, by decide, by decide⟩, _, _, rfl, rfl, _, rfl, _, _, rfl, rfl, ⟨by omega, by omega⟩, _, rfl, d, _, rfl, pl _ hd3, ?_⟩
      refine ⟨_, rfl, _, rfl, _, _, rfl, rfl, ⟨by decide, by decide, by decide⟩, _, _, rfl, rfl, .inl ⟨_, rfl, _, rfl, _, _, rfl, rfl, hm, ?_⟩⟩
      exact q _ _ (Int.emod_nonneg _ (by omega)) (Int.emod_lt_of_pos _ hm) (kp3.trans kp_put) ⟨ns, b + 1, _, upd_same, by rw [upd_ne ncd]; exact hc3, by omega, by omega, Int.fdiv_nonneg (by omega) (by omega)⟩
    · show tSeq _ _ _ _ _
      refine ⟨_, rfl, .inl ⟨_, rfl, _, _, rfl, rfl, posI, _, _, rfl, rfl, .inl ⟨by omega, by omega⟩, _, rfl, _, _, rfl, rfl, .inl ⟨by decide, by decide⟩, _, rfl, _, _, rfl, rfl, .inl ⟨by omega, by omega⟩, _, _, rfl, rfl, _, rfl, _, _, rfl, rfl, .inl ⟨by decide, by decide⟩, _, _, rfl, rfl, _, _, rfl, rfl, .inl ⟨_, rfl, _, _, rfl, rfl, posI, ?_⟩⟩⟩
      refine ⟨_, rfl, _, rfl, _, _, rfl, rfl, .inl ⟨by omega, by omega⟩, _, rfl, _, _, rfl, rfl, .inl ⟨by decide, by decide⟩, _, _, rfl, rfl, _, rfl, _, _, rfl, rfl, .inl ⟨by decide, by decide⟩, _, _, rfl, rfl, .inl ⟨_, rfl, _, _, rfl, rfl, posI, ?_⟩⟩
      exact ⟨_, rfl, _, rfl, _, _, rfl, rfl, _, _, rfl, rfl, .inl ⟨by omega, by omega⟩, .inl ⟨_, rfl, _, _, rfl, rfl, posI, _, _, rfl, rfl, ⟨by decide, by decide⟩, .inl ⟨_, rfl, _, rfl, _, _, rfl, rfl, hm, fin _⟩⟩⟩
  · refine iteF ?_
    show tSeq _ _ _ _ _
    refine ⟨_, rfl, .inl ⟨_, rfl, _, _, rfl, rfl, posI, _, _, rfl, rfl, .inl ⟨by omega, by omega⟩, _, rfl, _, _, rfl, rfl, .inl ⟨by decide, by decide⟩, _, rfl, _, _, rfl, rfl, .inl ⟨by omega, by omega⟩, _, _, rfl, rfl, _, rfl, _, _, rfl, rfl, .inl ⟨by decide, by decide⟩, _, _, rfl, rfl, _, _, rfl, rfl, .inl ⟨_, rfl, _, _, rfl, rfl, posI, ?_⟩⟩⟩
    refine ⟨_, rfl, _, rfl, _, _, rfl, rfl, .inl ⟨by omega, by omega⟩, _, rfl, _, _, rfl, rfl, .inl ⟨by decide, by decide⟩, _, _, rfl, rfl, _, rfl, _, _, rfl, rfl, .inl ⟨by decide, by decide⟩, _, _, rfl, rfl, .inl ⟨_, rfl, _, _, rfl, rfl, posI, ?_⟩⟩
    exact ⟨_, rfl, _, rfl, _, _, rfl, rfl, _, _, rfl, rfl, .inl ⟨by omega, by omega⟩, .inl ⟨_, rfl, _, _, rfl, rfl, posI, _, _, rfl, rfl, ⟨by decide, by decide⟩, .inl ⟨_, rfl, _, rfl, _, _, rfl, rfl, hm, fin _⟩⟩⟩
end
theorem cut_drop (xs : List V) (c : Nat) : cutV xs (some (c : Int)) none = xs.drop c := by
  unfold cutV
  rw [HT.sIx_nat, HT.sIx_none]
  by_cases h : c ≤ xs.length
  · rw [Nat.min_eq_left h]
    apply List.take_of_length_le
    rw [List.length_drop]
    exact Nat.le_refl _
  · rw [Nat.min_eq_right (by omega), List.drop_of_length_le (Nat.le_refl _), List.drop_of_length_le (by omega)]
    simp
theorem cut_take (xs : List V) (c : Nat) : cutV xs none (some (c : Int)) = xs.take c := by
  unfold cutV
  rw [HT.sIx_nat, HT.sIx_none]
  show (xs.drop 0).take (min c xs.length - 0) = xs.take c
  rw [List.drop_zero, Nat.sub_zero]
  by_cases h : c ≤ xs.length
  · rw [Nat.min_eq_left h]
  · rw [Nat.min_eq_right (by omega), List.take_of_length_le (Nat.le_refl _), List.take_of_length_le (by omega)]
theorem kp_upd {d p : Addr} {H H' : Hp} {o : HO} (h : Kp d H H') (n : H p = none) : Kp d H (upd H' p o) := fun b u e nb => by
  rw [upd_ne (ne_of_none e n)]
  exact h b u e nb
def spPenOf (K : PySem.W.Frag) : Sp := fun vs H Q _ => ∃ (a : Addr) (ns : List Int), vs = [.ref a] ∧ SqL K H a (ns.map V.int) ∧ ∀ (H' : Hp) (d c : Addr), Same H H' → Pen H' d c 0 → Q (.ref d) H'
section
variable {P : Program} {w : World} {K : PySem.W.Frag} {mg : Str → Option Value} {base : Heap}
theorem ok_l_pen (T : Tx P K mg) (B : Bx T base) : FnOk P w K mg base CX0 1 T.a_l_pen T.fd_l_pen ["_law_script"] (spPenOf K) := by
  refine T.F_l_pen.ok sc_l_pen (fun vs H Q E h => ?_) (fun cdv A outer s H vs Q E hr h => ?_)
  · obtain ⟨a, ns, rfl, _⟩ := h
    rfl
  obtain ⟨a, ns, rfl, hS, q⟩ := h
  refine ⟨_, (pss_one (ps_ret (pe_disp (pps_cons pe_str (pe_callTy call_list_of (by rfl) T.b_list (by decide +kernel) (pa_cons (pe_slice sl_list (pv 0) po_none (po_some pe_int)) pa_nil)) (pps_cons pe_str pe_int (pps_cons pe_str pe_int pps_nil))) (by rfl) (by rfl) (fun z => by cases z) (by decide)))), ?_⟩
  intro p hp
  have s1 : Same H (upd H p (.dK [])) := same_upd hp
  refine ⟨_, rfl, _, rfl, a, _, rfl, s1.seq hS, fun c hc => ?_⟩
  have s2 : Same (upd H p (.dK [])) _ := same_upd (o := .lst (cutV (ns.map V.int) none (some 63))) hc
  refine ⟨c, _, rfl, .inl (SqL.of upd_same), fun l hl => ?_⟩
  have s3 : Same (upd (upd H p (.dK [])) c (.lst (cutV (ns.map V.int) none (some 63)))) _ := same_upd (o := .lst (cutV (ns.map V.int) none (some 63))) hl
  have sA := (s1.trans s2).trans s3
  refine ⟨s3 _ _ (s2 _ _ upd_same), penL l 0 0, rfl, by show 3 ≤ 15; decide, ?_⟩
  have e : mergeK [] (penL l 0 0) = penL l 0 0 := by
    show putK (putK (putK ([] : List (Key × V)) (.inr "cells") (.ref l)) (.inr "opened") (.int 0)) (.inr "left") (.int 0) = _
    rw [show putK ([] : List (Key × V)) (.inr "cells") (.ref l) = [(.inr "cells", .ref l)] from rfl, putK_new _ ((valV_neg (ki k12)).trans valV_nil)]
    exact putK_new _ (show valV ([(.inr "cells", .ref l), (.inr "opened", .int 0)] : List (Key × V)) (.inr "left") = none from (valV_neg (ki k13)).trans ((valV_neg (ki k23)).trans valV_nil))
  rw [e]
  have npl : p ≠ l := fun z => by
    subst z
    rw [s2 _ _ upd_same] at hl
    cases hl
  refine q _ p l (fun b o hb => ?_) ⟨ns.take 63, 0, 0, upd_same, ?_, Int.le_refl _, Int.le_refl _, Int.le_refl _⟩
  · rw [upd_ne (ne_of_none hb hp)]
    exact sA _ _ hb
  · rw [upd_ne npl.symm, upd_same, show cutV (ns.map V.int) none (some 63) = (ns.map V.int).take 63 from cut_take _ 63, List.map_take]
def spPickL (K : PySem.W.Frag) : Sp := fun vs H Q _ => ∃ (d c a : Addr) (n : Nat) (xs : List V), vs = [.ref d, .ref a] ∧ Pen H d c n ∧ n ≤ 100000 ∧ SqL K H a xs ∧ 0 < xs.length ∧ xs.length ≤ 1000 ∧ a ≠ d ∧
  ∀ (H' : Hp) (x : V), x ∈ xs → Kp d H H' → Pen H' d c (n + 1) → Q x H'
def spPickS : Sp := fun vs H Q _ => ∃ (d c : Addr) (n : Nat) (z : Str), vs = [.ref d, .str z] ∧ Pen H d c n ∧ n ≤ 100000 ∧ 0 < z.length ∧ z.length ≤ 1000 ∧
  ∀ (H' : Hp) (x : Nat), x ∈ z.cps.toList → Kp d H H' → Pen H' d c (n + 1) → Q (.str ⟨#[x]⟩) H'
abbrev spPick (K : PySem.W.Frag) : Sp := fun vs H Q E => spPickL K vs H Q E ∨ spPickS vs H Q E
theorem at_mem {α : Type} {xs : List α} {r : Int} (h0 : 0 ≤ r) (h1 : r < (xs.length : Int)) : ∃ x, atI xs r = some x ∧ x ∈ xs := by
  have h3 : r.toNat < xs.length := by omega
  refine ⟨xs[r.toNat], ?_, List.getElem_mem h3⟩
  have e : ixN xs.length r = some r.toNat := by
    unfold ixN
    rw [if_pos h0]
    rw [if_pos h1]
  unfold atI
  rw [e]
  exact List.getElem?_eq_getElem h3
theorem ok_l_pickL (T : Tx P K mg) (B : Bx T base) : FnOk P w K mg base CX0 2 T.a_l_pick T.fd_l_pick ["_law_pen_here", "_law_some"] (spPickL K) := by
  refine T.F_l_pick.ok sc_l_pick (fun vs H Q E h => ?_) (fun cdv A outer s H vs Q E hr h => ?_)
  · obtain ⟨d, c, a, n, xs, rfl, _⟩ := h
    rfl
  obtain ⟨d, c, a, n, xs, rfl, hp, hn, ha, hx, hx2, had, q⟩ := h
  refine ⟨_, (pss_one (ps_ret (pe_ix ix_list (pv 1) (pe_call (ok_l_draw (w := w) T B) (hr.mono (by decide)) (by rfl) T.m_l_draw T.F_l_draw.kp T.bi_l_draw .nil pass0 (pa_cons (pv 0) (pa_cons (pe_callB call_len_seq (by rfl) T.b_len (by decide +kernel) (pa_cons (pv 1) pa_nil)) pa_nil))) (fun _ _ => rfl)))), ?_⟩
  refine ⟨_, rfl, _, rfl, _, rfl, a, xs, rfl, .inl ha, d, c, n, (xs.length : Int), rfl, hp, hn, by omega, by omega, fun H1 r r0 r1 kp p1 => ?_⟩
  obtain ⟨x, e, hm⟩ := at_mem r0 r1
  refine ⟨a, xs, r, x, rfl, rfl, ?_, e, q _ x hm kp p1⟩
  rcases ha with (ha | ⟨o, ha⟩) | ha
  · exact .inl (.inl (kp _ _ ha had))
  · exact .inl (.inr ⟨o, kp _ _ ha had⟩)
  · exact .inr ha
theorem ok_l_pickS (T : Tx P K mg) (B : Bx T base) : FnOk P w K mg base CX0 2 T.a_l_pick T.fd_l_pick ["_law_pen_here", "_law_some"] spPickS := by
  refine T.F_l_pick.ok sc_l_pick (fun vs H Q E h => ?_) (fun cdv A outer s H vs Q E hr h => ?_)
  · obtain ⟨d, c, n, z, rfl, _⟩ := h
    rfl
  obtain ⟨d, c, n, z, rfl, hp, hn, hx, hx2, q⟩ := h
  have hz : z.length ≤ sizeLine := Nat.le_trans hx2 (by decide)
  refine ⟨_, (pss_one (ps_ret (pe_ix ix_str (pv 1) (pe_call (ok_l_draw (w := w) T B) (hr.mono (by decide)) (by rfl) T.m_l_draw T.F_l_draw.kp T.bi_l_draw .nil pass0 (pa_cons (pv 0) (pa_cons (pe_callB call_len_str (by rfl) T.b_len (by decide +kernel) (pa_cons (pv 1) pa_nil)) pa_nil))) (fun _ _ => rfl)))), ?_⟩
  refine ⟨_, rfl, _, rfl, _, rfl, z, rfl, hz, d, c, n, (z.length : Int), rfl, hp, hn, by omega, by omega, fun H1 r r0 r1 kp p1 => ?_⟩
  obtain ⟨x, e, hm⟩ := at_mem (xs := z.cps.toList) r0 (by rw [Array.length_toList]; exact r1)
  exact ⟨z, r, x, rfl, rfl, hz, e, q _ x hm kp p1⟩
theorem ok_l_pick (T : Tx P K mg) (B : Bx T base) : FnOk P w K mg base CX0 2 T.a_l_pick T.fd_l_pick ["_law_pen_here", "_law_some"] (spPick K) :=
  fn_alt (ok_l_pickL T B) (ok_l_pickS T B)
end
end Toy
set_option Elab.async false
set_option linter.all false
set_option maxRecDepth 100000
set_option maxHeartbeats 4000000
namespace Toy
open PySem L2 Sh ShL LamX NdefX
/-! ### words -/
abbrev Wd := List Nat
def sw (l : Wd) : Str := ⟨l.toArray⟩
theorem sw_list (a : Wd) : (sw a).cps.toList = a := rfl
theorem sw_inj {a b : Wd} (h : sw a = sw b) : a = b := by
  have := congrArg (fun s : Str => s.cps.toList) h
  exact this
theorem sw_of (s : Str) : s = sw s.cps.toList := by
  cases s
  rfl
theorem sw_app (a b : Wd) : sw a ++ sw b = sw (a ++ b) := by
  show (⟨a.toArray ++ b.toArray⟩ : Str) = ⟨(a ++ b).toArray⟩
  simp
theorem sw_one (c : Nat) : (⟨#[c]⟩ : Str) = sw [c] := rfl
theorem sw_len (a : Wd) : (sw a).length = a.length := by
  show a.toArray.size = a.length
  simp
theorem sw_dec (a b : Wd) : decide (V.str (sw a) = V.str (sw b)) = decide (a = b) := by
  apply decide_eq_decide.mpr
  exact ⟨fun h => sw_inj (V.str.inj h), fun h => by rw [h]⟩
theorem cut_init (a : Wd) : cutS (sw a) none (some (-1)) = sw a.dropLast := by
  have e1 : HT.sIx (sw a).length (sw a).length (some (-1)) = (sw a).length - 1 := by
    unfold HT.sIx
    simp
    omega
  unfold cutS
  rw [e1, HT.sIx_none, sw_list, sw_len]
  show (⟨((a.drop 0).take (a.length - 1 - 0)).toArray⟩ : Str) = ⟨a.dropLast.toArray⟩
  rw [List.drop_zero, Nat.sub_zero, List.dropLast_eq_take]
theorem cut_to (a : Wd) (k : Nat) : cutS (sw a) none (some (k : Int)) = sw (a.take k) := by
  unfold cutS
  rw [HT.sIx_nat, HT.sIx_none, sw_list, sw_len]
  show (⟨((a.drop 0).take (min k a.length - 0)).toArray⟩ : Str) = ⟨(a.take k).toArray⟩
  rw [List.drop_zero, Nat.sub_zero]
  by_cases h : k ≤ a.length
  · rw [Nat.min_eq_left h]
  · rw [Nat.min_eq_right (by omega), List.take_of_length_le (Nat.le_refl _), List.take_of_length_le (by omega)]
theorem cut_from (a : Wd) (k : Nat) : cutS (sw a) (some (k : Int)) none = sw (a.drop k) := by
  unfold cutS
  rw [HT.sIx_nat, HT.sIx_none, sw_list, sw_len]
  show (⟨((a.drop (min k a.length)).take (a.length - min k a.length)).toArray⟩ : Str) = ⟨(a.drop k).toArray⟩
  by_cases h : k ≤ a.length
  · rw [Nat.min_eq_left h, List.take_of_length_le (by simp)]
  · rw [Nat.min_eq_right (by omega), List.drop_of_length_le (Nat.le_refl _), List.drop_of_length_le (by omega), List.take_nil]
theorem atW_zero {a : Wd} {c : Nat} (h : a[0]? = some c) : atI (sw a).cps.toList 0 = some c := by
  rw [sw_list]
  unfold atI ixN
  obtain ⟨h1, _⟩ := List.getElem?_eq_some_iff.mp h
  rw [if_pos (Int.le_refl 0), if_pos (by omega)]
  exact h
theorem atW_last {a : Wd} {c : Nat} (h : a.getLast? = some c) : atI (sw a).cps.toList (-1) = some c := by
  rw [sw_list]
  unfold atI ixN
  have h1 : 0 < a.length := by
    cases a with
    | nil => cases h
    | cons x r => simp
  rw [if_neg (by decide), if_pos (by omega)]
  show a[(-1 + (a.length : Int)).toNat]? = some c
  rw [show (-1 + (a.length : Int)).toNat = a.length - 1 by omega, ← List.getLast?_eq_getElem?]
  exact h
/-! ### the order of places -/
def kW (z p : Wd) : List Int := p.map fun c => ((z.idxOf c : Nat) : Int)
def ordW (z : Wd) (ws : List Wd) : List Wd := ws.mergeSort fun p q => decide (kW z p ≤ kW z q)
theorem ordW_perm (z : Wd) (ws : List Wd) : (ordW z ws).Perm ws := List.mergeSort_perm ws _
theorem ordW_mem {z : Wd} {ws : List Wd} {p : Wd} : p ∈ ordW z ws ↔ p ∈ ws := (ordW_perm z ws).mem_iff
theorem ordW_len (z : Wd) (ws : List Wd) : (ordW z ws).length = ws.length := (ordW_perm z ws).length_eq
theorem ordW_nodup {z : Wd} {ws : List Wd} (h : ws.Nodup) : (ordW z ws).Nodup := (ordW_perm z ws).nodup_iff.mpr h
theorem ordW_sorted (z : Wd) (ws : List Wd) : (ordW z ws).Pairwise fun p q => kW z p ≤ kW z q := by
  have := List.pairwise_mergeSort (le := fun p q => decide (kW z p ≤ kW z q)) (fun a b c h1 h2 => decide_eq_true (List.le_trans (of_decide_eq_true h1) (of_decide_eq_true h2)))
    (fun a b => by
      rcases List.le_total (kW z a) (kW z b) with h | h
      · simp [h]
      · simp [h]) ws
  exact this.imp fun h => of_decide_eq_true h
theorem kW_inj {z : Wd} : ∀ {p q : Wd}, (∀ c ∈ p, c ∈ z) → (∀ c ∈ q, c ∈ z) → kW z p = kW z q → p = q
  | [], [], _, _, _ => rfl
  | [], _ :: _, _, _, h => by cases h
  | _ :: _, [], _, _, h => by cases h
  | c :: p, d :: q, h1, h2, h => by
    unfold kW at h
    rw [List.map_cons, List.map_cons, List.cons.injEq] at h
    have e : z.idxOf c = z.idxOf d := Int.ofNat.inj h.1
    have e1 := List.getElem_idxOf (List.idxOf_lt_length_of_mem (h1 c List.mem_cons_self))
    have e2 := List.getElem_idxOf (List.idxOf_lt_length_of_mem (h2 d List.mem_cons_self))
    have e3 : c = d := by
      rw [← e1, ← e2]
      simp only [e]
    rw [e3, kW_inj (fun c h => h1 c (List.mem_cons_of_mem _ h)) (fun c h => h2 c (List.mem_cons_of_mem _ h)) h.2]
theorem ordW_uniq {z : Wd} {ws us : List Wd} (hp : ws.Perm us) (hz : ∀ p ∈ ws, ∀ c ∈ p, c ∈ z) : ordW z ws = ordW z us := by
  refine List.Perm.eq_of_pairwise (le := fun p q => kW z p ≤ kW z q) (fun a b ha hb h1 h2 => ?_) (ordW_sorted z ws) (ordW_sorted z us) (((ordW_perm z ws).trans hp).trans (ordW_perm z us).symm)
  exact kW_inj (hz a (ordW_mem.mp ha)) (hz b (hp.mem_iff.mpr (ordW_mem.mp hb))) (List.le_antisymm h1 h2)
theorem ordW_idem {z : Wd} {ws : List Wd} (hz : ∀ p ∈ ws, ∀ c ∈ p, c ∈ z) : ordW z (ordW z ws) = ordW z ws := ordW_uniq (ordW_perm z ws) fun p h => hz p (ordW_mem.mp h)
theorem ordW_sub {z : Wd} {ws us : List Wd} (hs : us.Sublist (ordW z ws)) (hz : ∀ p ∈ ws, ∀ c ∈ p, c ∈ z) : ordW z us = us := by
  have hm : ∀ p ∈ us, ∀ c ∈ p, c ∈ z := fun p h => hz p (ordW_mem.mp (hs.subset h))
  refine List.Perm.eq_of_pairwise (le := fun p q => kW z p ≤ kW z q) (fun a b ha hb h1 h2 => ?_) (ordW_sorted z us) ((ordW_sorted z ws).sublist hs) (ordW_perm z us)
  exact kW_inj (hm a (ordW_mem.mp ha)) (hm b hb) (List.le_antisymm h1 h2)
theorem ordW_head {z : Wd} {ws : List Wd} (h : ([] : Wd) ∈ ws) : (ordW z ws)[0]? = some [] := by
  have hm := ordW_mem (z := z).mpr h
  have hs := ordW_sorted z ws
  cases e : ordW z ws with
  | nil =>
    rw [e] at hm
    cases hm
  | cons a r =>
    rw [e] at hm hs
    rcases List.mem_cons.mp hm with e | e
    · rw [← e]
      rfl
    · have := (List.pairwise_cons.mp hs).1 _ e
      have e2 : kW z a = [] := by
        have h3 : kW z a ≤ [] := this
        cases e4 : kW z a with
        | nil => rfl
        | cons x y =>
          rw [e4] at h3
          exact absurd h3 (by simp)
      cases a with
      | nil => rfl
      | cons x y => cases e2
abbrev keyS (z : Wd) (s : Str) : List Int := kW z s.cps.toList
theorem sort_sw (z : Wd) (ws : List Wd) : (ws.map sw).mergeSort (PySem.W.dataLe false (keyD (keyS z))) = (ordW z ws).map sw := by
  have e : PySem.W.dataLe false (keyD (keyS z)) = fun p q => decide (keyS z p ≤ keyS z q) := PySem.W.dataLe_rows (keyS z)
  rw [e]
  exact (List.map_mergeSort (f := sw) (l := ws) fun a _ b _ => rfl).symm
/-! ### Paired -/
theorem paired_mono {α β : Type} {R S : α → β → Prop} (f : ∀ a b, R a b → S a b) : ∀ {xs : List α} {ys : List β}, Paired R xs ys → Paired S xs ys
  | _, _, .nil => .nil
  | _, _, .cons h t => .cons (f _ _ h) (paired_mono f t)
theorem paired_ix {α β : Type} {R : α → β → Prop} : ∀ {xs : List α} {ys : List β} {n : Nat} {x : α}, Paired R xs ys → xs[n]? = some x → ∃ y, ys[n]? = some y ∧ R x y
  | _, _, _, _, .nil, h => by cases h
  | _, _, 0, _, .cons h t, e => by cases e; exact ⟨_, rfl, h⟩
  | _ :: _, _ :: _, n + 1, _, .cons h t, e => by
    obtain ⟨y, h1, h2⟩ := paired_ix (n := n) t (by simpa using e)
    exact ⟨y, by simpa using h1, h2⟩
theorem paired_ix' {α β : Type} {R : α → β → Prop} : ∀ {xs : List α} {ys : List β} {n : Nat} {y : β}, Paired R xs ys → ys[n]? = some y → ∃ x, xs[n]? = some x ∧ R x y
  | _, _, _, _, .nil, h => by cases h
  | _, _, 0, _, .cons h t, e => by cases e; exact ⟨_, rfl, h⟩
  | _ :: _, _ :: _, n + 1, _, .cons h t, e => by
    obtain ⟨y, h1, h2⟩ := paired_ix' (n := n) t (by simpa using e)
    exact ⟨y, by simpa using h1, h2⟩
theorem paired_app {α β : Type} {R : α → β → Prop} : ∀ {xs xs' : List α} {ys ys' : List β}, Paired R xs ys → Paired R xs' ys' → Paired R (xs ++ xs') (ys ++ ys')
  | _, _, _, _, .nil, h => h
  | _, _, _, _, .cons h t, k => .cons h (paired_app t k)
theorem paired_take {α β : Type} {R : α → β → Prop} : ∀ {xs : List α} {ys : List β} (n : Nat), Paired R xs ys → Paired R (xs.take n) (ys.take n)
  | _, _, 0, _ => by rw [List.take_zero, List.take_zero]; exact .nil
  | _, _, _ + 1, .nil => .nil
  | _, _, n + 1, .cons h t => .cons h (paired_take n t)
theorem paired_drop {α β : Type} {R : α → β → Prop} : ∀ {xs : List α} {ys : List β} (n : Nat), Paired R xs ys → Paired R (xs.drop n) (ys.drop n)
  | _, _, 0, h => h
  | _, _, _ + 1, .nil => .nil
  | _, _, n + 1, .cons h t => paired_drop n t
theorem paired_self {α β : Type} {f : β → α} : ∀ us : List β, Paired (fun x u => x = f u) (us.map f) us
  | [] => .nil
  | _ :: us => .cons rfl (paired_self us)
theorem paired_eq {α β : Type} {f : β → α} : ∀ {xs : List α} {us : List β}, Paired (fun x u => x = f u) xs us → xs = us.map f
  | _, _, .nil => rfl
  | _, _, .cons h t => by rw [List.map_cons, h, paired_eq t]
theorem paired_left {α β : Type} {R : α → β → Prop} : ∀ {xs : List α} {ys : List β} {x : α}, Paired R xs ys → x ∈ xs → ∃ y ∈ ys, R x y
  | _, _, _, .cons h t, m => by
    rcases List.mem_cons.mp m with rfl | m
    · exact ⟨_, List.mem_cons_self, h⟩
    · obtain ⟨y, h1, h2⟩ := paired_left t m
      exact ⟨y, List.mem_cons_of_mem _ h1, h2⟩
theorem paired_map {α β γ : Type} {R : α → β → Prop} {S : α → γ → Prop} {f : β → γ} (h : ∀ a b, R a b → S a (f b)) : ∀ {xs : List α} {ys : List β}, Paired R xs ys → Paired S xs (ys.map f)
  | _, _, .nil => .nil
  | _, _, .cons r t => .cons (h _ _ r) (paired_map h t)
/-! ### a comprehension, turn by turn -/
theorem lcG {α : Type} {J : It} {us : List α} {xs : List V} {R0 : V → α → Prop} {G : Hp → Prop} {Y : Nat → Hp → V → Hp → Prop} (w : Walk J xs.length G Y) (hY : ∀ i H x H', Y i H x H' → H' = H ∧ xs[i]? = some x) (pr : Paired R0 xs us)
    {g : TG} {tt : TT} {te : TE} {vs : List Nat} {σ : L2.St} {H1 : Hp} {D : Addr} {Qd : Hp → Prop} (C : Nat → Hp → Prop) (hC0 : C 0 (upd H1 D (.lst []))) (hC : ∀ i H acc, C i H → C i (upd H D (.lst acc))) (hG : ∀ i H, i ≤ xs.length → C i H → G H) (hl : us.length ≤ 40000)
    (keep : α → Bool) (S : Hp → V → α → Prop) (hS : ∀ H acc acc' v u, H D = some (.lst acc) → S H v u → S (upd H D (.lst acc')) v u)
    (hs : ∀ i x u H acc (R : VK) (N : Hp → Prop), us[i]? = some u → R0 x u → C i H → H D = some (.lst acc) → (keep u = true → ∀ y H', C (i + 1) H' → H' D = some (.lst acc) → (∀ v u, S H v u → S H' v u) → S H' y u → R y H') →
      (keep u = false → ∀ H', C (i + 1) H' → H' D = some (.lst acc) → (∀ v u, S H v u → S H' v u) → N H') → g x (wipe σ vs) H fun σ2 H2 => wipe σ2 vs = wipe σ vs ∧ tt σ2 H2 fun b H3 => if b = true then te σ2 H3 R else N H3)
    (hd : ∀ H acc, C xs.length H → H D = some (.lst acc) → Paired (S H) acc (us.filter keep) → Qd H) :
    ∃ W : Nat → Nat → Hp → Prop, (∃ m, W 0 m (upd H1 D (.lst []))) ∧ ∀ i m H, W i m H →
      (J.stop i H ∧ Qd H) ∨ (J.go i H ∧ ∃ Nx : Hp → Prop, (∀ H', Nx H' → ∃ m', m' < m ∧ W (i + 1) m' H') ∧ ∀ x H', J.yld i H x H' → g x (wipe σ vs) H' fun σ2 H2 => wipe σ2 vs = wipe σ vs ∧ tt σ2 H2 fun b H3 =>
        if b = true then te σ2 H3 fun y H4 => ∃ acc, H4 D = some (.lst acc) ∧ acc.length < sizeLine ∧ Nx (upd H4 D (.lst (acc ++ [y]))) else Nx H3) := by
  have hlen := pr.length
  refine lc_it w (fun i H => ∃ acc, H D = some (.lst acc) ∧ C i H ∧ Paired (S H) acc ((us.take i).filter keep)) ⟨[], upd_same, hC0, by rw [List.take_zero]; exact .nil⟩ (fun i H hi ⟨_, _, c, _⟩ => hG i H hi c) (fun i x H H' hi ⟨acc, hD, c, p⟩ y => ?_)
    fun H ⟨acc, hD, c, p⟩ => hd H acc c hD (by rw [hlen, List.take_of_length_le (Nat.le_refl _)] at p; exact p)
  obtain ⟨rfl, hx⟩ := hY _ _ _ _ y
  obtain ⟨u, hu, r⟩ := paired_ix pr hx
  have e : (us.take (i + 1)) = us.take i ++ [u] := by rw [List.take_add_one, hu]; rfl
  refine hs i x u _ acc _ _ hu r c hD (fun k z H2 c2 hD2 m sy => ?_) fun k H2 c2 hD2 m => ?_
  · refine ⟨acc, hD2, ?_, acc ++ [z], upd_same, hC _ _ _ c2, ?_⟩
    · rw [p.length, sizeLine_eq]
      have h1 := List.length_filter_le keep (us.take i)
      rw [List.length_take] at h1
      omega
    · rw [e, List.filter_append, List.filter_cons_of_pos k, List.filter_nil]
      exact paired_app (paired_mono (fun a b q => hS _ _ _ _ _ hD2 (m a b q)) p) (.cons (hS _ _ _ _ _ hD2 sy) .nil)
  · refine ⟨acc, hD2, c2, ?_⟩
    rw [e, List.filter_append, List.filter_cons_of_neg (by rw [k]; decide), List.filter_nil, List.append_nil]
    exact paired_mono m p
/-- the items are told by f; all that was stands -/
theorem lcF {α : Type} {J : It} {us : List α} {xs : List V} {R0 : V → α → Prop} {G : Hp → Prop} {Y : Nat → Hp → V → Hp → Prop} (w : Walk J xs.length G Y) (hY : ∀ i H x H', Y i H x H' → H' = H ∧ xs[i]? = some x) (pr : Paired R0 xs us)
    {g : TG} {tt : TT} {te : TE} {vs : List Nat} {σ : L2.St} {H1 : Hp} {D : Addr} {Qd : Hp → Prop} (hD : H1 D = none) (hG : ∀ H, Same H1 H → G H) (hl : us.length ≤ 40000)
    (keep : α → Bool) (f : α → V)
    (hs : ∀ x u H (R : VK) (N : Hp → Prop), u ∈ us → R0 x u → Same H1 H → (keep u = true → R (f u) H) → (keep u = false → N H) → g x (wipe σ vs) H fun σ2 H2 => wipe σ2 vs = wipe σ vs ∧ tt σ2 H2 fun b H3 => if b = true then te σ2 H3 R else N H3)
    (hd : ∀ H, Same H1 H → H D = some (.lst ((us.filter keep).map f)) → Qd H) :
    ∃ W : Nat → Nat → Hp → Prop, (∃ m, W 0 m (upd H1 D (.lst []))) ∧ ∀ i m H, W i m H →
      (J.stop i H ∧ Qd H) ∨ (J.go i H ∧ ∃ Nx : Hp → Prop, (∀ H', Nx H' → ∃ m', m' < m ∧ W (i + 1) m' H') ∧ ∀ x H', J.yld i H x H' → g x (wipe σ vs) H' fun σ2 H2 => wipe σ2 vs = wipe σ vs ∧ tt σ2 H2 fun b H3 =>
        if b = true then te σ2 H3 fun y H4 => ∃ acc, H4 D = some (.lst acc) ∧ acc.length < sizeLine ∧ Nx (upd H4 D (.lst (acc ++ [y]))) else Nx H3) := by
  refine lcG w hY pr (fun _ H => Same H1 H) (same_upd hD) (fun _ H acc s b o h => ?_) (fun i H _ s => hG H s) hl keep (fun _ v u => v = f u) (fun _ _ _ _ _ _ h => h) (fun i x u H acc R N hu r s hDH k1 k2 => ?_) fun H acc s hDH p => ?_
  · rw [upd_ne (ne_of_none h hD)]
    exact s _ _ h
  · exact hs x u H R N (List.mem_of_getElem? hu) r s (fun k => k1 k _ _ s hDH (fun _ _ h => h) rfl) fun k => k2 k _ s hDH fun _ _ h => h
  · rw [paired_eq p] at hDH
    exact hd H s hDH
theorem yat {xs : List V} : ∀ i H x H', YAt xs i H x H' → H' = H ∧ xs[i]? = some x := fun _ _ _ _ h => h
/-- the signs of a text -/
abbrev sgs (z : Wd) : List V := z.map fun c => V.str (sw [c])
theorem walk_sgs (z : Wd) : Walk (Its (sw z)) (sgs z).length (fun _ => True) (YAt (sgs z)) := by
  have := walk_str (z := sw z)
  rw [show (sw z).cps.size = (sgs z).length by rw [List.length_map]; show z.toArray.size = z.length; simp] at this
  refine this.mono (fun _ h => h) fun i H x H' hi _ ⟨e, c, h1, h2⟩ => ⟨e, ?_⟩
  have h3 : z[i]? = some c := by
    rw [← h1]
    show z[i]? = z.toArray[i]?
    simp
  rw [List.getElem?_map, h3, h2]
  rfl
theorem pr_sgs (z : Wd) : Paired (fun (x : V) c => x = V.str (sw [c])) (sgs z) z := paired_self z
/-- membership among texts -/
abbrev wsV (ps : List Wd) : List V := ps.map fun p => V.str (sw p)
theorem wsV_flat (ps : List Wd) : (wsV ps).all flatV = true := by
  rw [List.all_eq_true]
  intro x h
  obtain ⟨p, _, rfl⟩ := List.mem_map.mp h
  rfl
theorem wsV_in (p : Wd) (ps : List Wd) : inV (.str (sw p)) (wsV ps) = decide (p ∈ ps) := by
  induction ps with
  | nil => rfl
  | cons q ps ih =>
    show (eqV (.str (sw q)) (.str (sw p)) || inV (.str (sw p)) (wsV ps)) = _
    rw [ih]
    have e : eqV (.str (sw q)) (.str (sw p)) = decide (q = p) := by
      show ((sw q) == (sw p)) = _
      by_cases h : q = p
      · rw [h]; simp
      · rw [decide_eq_false h]
        exact beq_eq_false_iff_ne.mpr fun z => h (sw_inj z)
    rw [e]
    by_cases h : q = p
    · simp [h]
    · simp [h, Ne.symm h]
end Toy
set_option Elab.async false
set_option linter.all false
set_option maxRecDepth 100000
set_option maxHeartbeats 4000000
namespace Toy
open PySem L2 Sh ShL LamX NdefX
/-! ### kinds of values; heaps that keep lists and tuples -/
def TyN (H : Hp) : V → String → Prop
  | .non, t => t = "NoneType"
  | .bl _, t => t = "bool"
  | .int _, t => t = "int"
  | .str _, t => t = "str"
  | .ref p, t => (t = "list" ∧ ∃ xs, H p = some (.lst xs)) ∨ (t = "tuple" ∧ ∃ xs, H p = some (.tup xs)) ∨ (t = "dict" ∧ ∃ kvs, H p = some (.dK kvs))
  | _, _ => False
theorem TyN.ty {K : PySem.W.Frag} {H : Hp} : ∀ {x : V} {t : String}, TyN H x t → TyX K H x (.type t)
  | .non, _, rfl => .base .non
  | .bl b, _, rfl => .base (.bl b)
  | .int i, _, rfl => .base (.int i)
  | .str s, _, rfl => .base (.str s)
  | .ref p, _, .inl ⟨rfl, xs, h⟩ => .base (.lst h)
  | .ref p, _, .inr (.inl ⟨rfl, xs, h⟩) => .base (.tup h)
  | .ref p, _, .inr (.inr ⟨rfl, xs, h⟩) => .base (.dK h)
abbrev tyNs : List String := ["NoneType", "bool", "int", "str", "list", "tuple", "dict"]
theorem TyN.mem {H : Hp} : ∀ {x : V} {t : String}, TyN H x t → t ∈ tyNs
  | .non, _, rfl => by decide
  | .bl b, _, rfl => by decide
  | .int i, _, rfl => by decide
  | .str s, _, rfl => by decide
  | .ref p, _, .inl ⟨rfl, xs, h⟩ => by decide
  | .ref p, _, .inr (.inl ⟨rfl, xs, h⟩) => by decide
  | .ref p, _, .inr (.inr ⟨rfl, xs, h⟩) => by decide
/-- what keeps the types: lists, tuples, dicts stay such -/
def KpT (H H' : Hp) : Prop := (∀ b xs, H b = some (.lst xs) → ∃ ys, H' b = some (.lst ys)) ∧ (∀ b xs, H b = some (.tup xs) → H' b = some (.tup xs)) ∧ ∀ b kvs, H b = some (.dK kvs) → ∃ kvs', H' b = some (.dK kvs')
theorem TyN.kp {H H' : Hp} (k : KpT H H') : ∀ {x : V} {t : String}, TyN H x t → TyN H' x t
  | .non, _, h => h
  | .bl b, _, h => h
  | .int i, _, h => h
  | .str s, _, h => h
  | .ref p, _, .inl ⟨e, xs, h⟩ => .inl ⟨e, k.1 _ _ h⟩
  | .ref p, _, .inr (.inl ⟨e, xs, h⟩) => .inr (.inl ⟨e, xs, k.2.1 _ _ h⟩)
  | .ref p, _, .inr (.inr ⟨e, xs, h⟩) => .inr (.inr ⟨e, k.2.2 _ _ h⟩)
theorem kpT_same {H H' : Hp} (s : Same H H') : KpT H H' := ⟨fun _ _ h => ⟨_, s _ _ h⟩, fun _ _ h => s _ _ h, fun _ _ h => ⟨_, s _ _ h⟩⟩
theorem kpT_sm {T : List (Addr × Str)} {H H' : Hp} (s : Sm T H H') : KpT H H' := ⟨fun _ _ h => ⟨_, s.get h⟩, fun _ _ h => s.get h, fun _ _ h => ⟨_, s.get h⟩⟩
theorem kpT_pen {H H' : Hp} {d c : Addr} {n m : Nat} (p : Pen H d c n) (s : Kp d H H') (p' : Pen H' d c m) : KpT H H' := by
  obtain ⟨kvs, hd⟩ := p.at
  obtain ⟨kvs', hd'⟩ := p'.at
  refine ⟨fun b xs h => ⟨_, s _ _ h (ne_of h hd (by intro z; cases z))⟩, fun b xs h => s _ _ h (ne_of h hd (by intro z; cases z)), fun b kvs h => ?_⟩
  by_cases e : b = d
  · exact ⟨_, by rw [e]; exact hd'⟩
  · exact ⟨_, s _ _ h e⟩
theorem KpT.trans {H H1 H2 : Hp} (a : KpT H H1) (b : KpT H1 H2) : KpT H H2 := ⟨fun x xs h => let ⟨_, h⟩ := a.1 x xs h; b.1 _ _ h, fun x xs h => b.2.1 _ _ (a.2.1 x xs h), fun x xs h => let ⟨_, h⟩ := a.2.2 x xs h; b.2.2 _ _ h⟩
theorem kit_bool {K : PySem.W.Frag} {t : String} (h : t ∈ tyNs) : PySem.W.kitOne K (.type t) (.type "bool") = some (decide (t = "bool")) := by
  simp only [List.mem_cons, List.not_mem_nil, or_false] at h
  rcases h with rfl | rfl | rfl | rfl | rfl | rfl | rfl <;> exact kit_ty (by decide +kernel)
theorem kit_int {K : PySem.W.Frag} {t : String} (h : t ∈ tyNs) : PySem.W.kitOne K (.type t) (.type "int") = some (decide (t = "int" ∨ t = "bool")) := by
  simp only [List.mem_cons, List.not_mem_nil, or_false] at h
  rcases h with rfl | rfl | rfl | rfl | rfl | rfl | rfl <;> exact kit_ty (by decide +kernel)
theorem kit_str {K : PySem.W.Frag} {t : String} (h : t ∈ tyNs) : PySem.W.kitOne K (.type t) (.type "str") = some (decide (t = "str")) := by
  simp only [List.mem_cons, List.not_mem_nil, or_false] at h
  rcases h with rfl | rfl | rfl | rfl | rfl | rfl | rfl <;> exact kit_ty (by decide +kernel)
theorem kit_lot {K : PySem.W.Frag} {t : String} (h : t ∈ tyNs) : PySem.W.kitAny K (.type t) [.type "list", .type "tuple"] = some (decide (t = "list" ∨ t = "tuple")) := by
  simp only [List.mem_cons, List.not_mem_nil, or_false] at h
  rcases h with rfl | rfl | rfl | rfl | rfl | rfl | rfl
  all_goals first
    | exact kitAny_cons (b := true) (kit_ty (by decide +kernel)) (fun z => nomatch z) fun _ => rfl
    | exact kitAny_cons (b := false) (kit_ty (by decide +kernel)) (fun _ => kitAny_cons (b := true) (kit_ty (by decide +kernel)) (fun z => nomatch z) fun _ => rfl) fun z => nomatch z
    | exact kitAny_cons (b := false) (kit_ty (by decide +kernel)) (fun _ => kitAny_cons (b := false) (kit_ty (by decide +kernel)) (fun _ => rfl) fun z => nomatch z) fun z => nomatch z
/-- lists and tuples stay, dicts stay dicts -/
def KpS (H H' : Hp) : Prop := (∀ b xs, H b = some (.lst xs) → H' b = some (.lst xs)) ∧ (∀ b xs, H b = some (.tup xs) → H' b = some (.tup xs)) ∧ ∀ b kvs, H b = some (.dK kvs) → ∃ kvs', H' b = some (.dK kvs')
theorem KpS.t {H H' : Hp} (k : KpS H H') : KpT H H' := ⟨fun b xs h => ⟨_, k.1 b xs h⟩, k.2.1, k.2.2⟩
theorem kpS_same {H H' : Hp} (s : Same H H') : KpS H H' := ⟨fun _ _ h => s _ _ h, fun _ _ h => s _ _ h, fun _ _ h => ⟨_, s _ _ h⟩⟩
theorem kpS_sm {T : List (Addr × Str)} {H H' : Hp} (s : Sm T H H') : KpS H H' := ⟨fun _ _ h => s.get h, fun _ _ h => s.get h, fun _ _ h => ⟨_, s.get h⟩⟩
theorem kpS_pen {H H' : Hp} {d c : Addr} {n m : Nat} (p : Pen H d c n) (s : Kp d H H') (p' : Pen H' d c m) : KpS H H' := by
  obtain ⟨kvs, hd⟩ := p.at
  exact ⟨fun b xs h => s _ _ h (ne_of h hd (by intro z; cases z)), fun b xs h => s _ _ h (ne_of h hd (by intro z; cases z)), (kpT_pen p s p').2.2⟩
theorem kpS_ins {H H' : Hp} {o C dx : Addr} {fs : List (Str × V)} (h : H o = some (.ins C dx fs)) (s : Kp o H H') : KpS H H' :=
  ⟨fun b xs q => s _ _ q (ne_of q h (by intro z; cases z)), fun b xs q => s _ _ q (ne_of q h (by intro z; cases z)), fun b xs q => ⟨_, s _ _ q (ne_of q h (by intro z; cases z))⟩⟩
theorem KpS.trans {H H1 H2 : Hp} (a : KpS H H1) (b : KpS H1 H2) : KpS H H2 := ⟨fun x xs h => b.1 _ _ (a.1 x xs h), fun x xs h => b.2.1 _ _ (a.2.1 x xs h), fun x xs h => let ⟨_, h⟩ := a.2.2 x xs h; b.2.2 _ _ h⟩
theorem KpS.refl (H : Hp) : KpS H H := ⟨fun _ _ h => h, fun _ _ h => h, fun _ _ h => ⟨_, h⟩⟩
def SqA (H : Hp) (a : Addr) (xs : List V) : Prop := H a = some (.lst xs) ∨ H a = some (.tup xs)
theorem SqA.kp {H H' : Hp} {a : Addr} {xs : List V} (s : KpS H H') (h : SqA H a xs) : SqA H' a xs := h.imp (s.1 _ _) (s.2.1 _ _)
end Toy
set_option Elab.async false
set_option linter.all false
set_option maxRecDepth 100000
set_option maxHeartbeats 4000000
namespace Toy
open PySem L2 Sh ShL LamX NdefX
def small : Wd := [97, 98, 99, 100, 101, 102, 103, 104, 105, 106, 107, 108, 109, 110, 111, 112, 113, 114, 115, 116, 117, 118, 119, 120, 121, 122]
theorem small_eq : (("abcdefghijklmnopqrstuvwxyz" : Str)) = sw small := by decide +kernel
theorem mt_eq : (("" : Str)) = sw [] := by decide +kernel
structure LetOk (z : Wd) : Prop where
  l2 : 2 ≤ z.length
  l26 : z.length ≤ 26
  nd : z.Nodup
  sm : ∀ c ∈ z, c ∈ small
theorem count_sw (z : Wd) (c : Nat) : Txt.count (sw z) ⟨#[c]⟩ = ((z.count c : Nat) : Int) := by
  rw [PyProof.Rows.count_is, sw_list]
  show PyProof.Rows.cnt c z = _
  induction z with
  | nil => rfl
  | cons n r ih =>
    rw [PyProof.Rows.cnt_cons, ih, List.count_cons]
    by_cases h : n = c <;> simp [h] <;> omega
theorem idx_le : ∀ {z : Wd} {c i : Nat}, z[i]? = some c → z.idxOf c ≤ i
  | [], _, _, h => by cases h
  | a :: z, c, 0, h => by
    cases h
    simp
  | a :: z, c, i + 1, h => by
    have := idx_le (z := z) (c := c) (i := i) (by simpa using h)
    rw [List.idxOf_cons]
    by_cases e : a = c
    · simp [e]
    · rw [beq_eq_false_iff_ne.mpr e]
      exact Nat.succ_le_succ this
theorem cnt_one : ∀ {z : Wd} {c : Nat}, z.Nodup → c ∈ z → z.count c = 1
  | a :: z, c, nd, h => by
    rw [List.nodup_cons] at nd
    rw [List.count_cons]
    by_cases e : a = c
    · subst e
      rw [List.count_eq_zero.mpr nd.1]
      simp
    · rcases List.mem_cons.mp h with h | h
      · exact absurd h.symm e
      · rw [cnt_one nd.2 h]
        simp [e]
theorem occ_sw {z : Wd} {c : Nat} (h : c ∈ z) : ∃ rest, Builtin.Str.occurrences (sw z) ⟨#[c]⟩ 0 (sw z).length 1 = z.idxOf c :: rest := by
  rcases StrLaws.occ_head (sw z) ⟨#[c]⟩ 1 (Nat.le_refl 1) with ⟨_, hn⟩ | ⟨i, r, e, ha, hn⟩
  · obtain ⟨j, hj⟩ := List.getElem?_of_mem h
    exact absurd ((StrLaws.subAt_one (sw z) c j).mpr hj) (hn j)
  · have h1 : z[i]? = some c := (StrLaws.subAt_one (sw z) c i).mp ha
    refine ⟨r, ?_⟩
    rw [e]
    congr 1
    obtain ⟨h2, h3⟩ := List.getElem?_eq_some_iff.mp h1
    have h4 := List.idxOf_lt_length_of_mem h
    have h5 := List.getElem_idxOf h4
    by_cases h6 : z.idxOf c < i
    · exact absurd ((StrLaws.subAt_one (sw z) c _).mpr (by rw [sw_list, List.getElem?_eq_getElem h4, h5])) (hn _ h6)
    · by_cases h7 : i < z.idxOf c
      · have := idx_le h1
        omega
      · omega
theorem isi_s {K : PySem.W.Frag} : PySem.W.kitOne K (.type "str") (.type "str") = some true := kit_ty (by decide +kernel)
theorem isi_i {K : PySem.W.Frag} : PySem.W.kitOne K (.type "int") (.type "int") = some true := kit_ty (by decide +kernel)
theorem isi_ib {K : PySem.W.Frag} : PySem.W.kitOne K (.type "int") (.type "bool") = some false := kit_ty (by decide +kernel)
theorem isi_nb {K : PySem.W.Frag} : PySem.W.kitOne K (.type "NoneType") (.type "bool") = some false := kit_ty (by decide +kernel)
theorem isi_bb {K : PySem.W.Frag} : PySem.W.kitOne K (.type "bool") (.type "bool") = some true := kit_ty (by decide +kernel)
theorem isi_tt {K : PySem.W.Frag} : PySem.W.kitOne K (.type "tuple") (.type "tuple") = some true := kit_ty (by decide +kernel)
theorem kit_lt {K : PySem.W.Frag} {t : String} (h : t = "list" ∨ t = "tuple") : PySem.W.kitAny K (.type t) [.type "list", .type "tuple"] = some true := by
  rcases h with rfl | rfl
  · exact kitAny_cons (b := true) (kit_ty (by decide +kernel)) (fun z => nomatch z) fun _ => rfl
  · exact kitAny_cons (b := false) (kit_ty (by decide +kernel)) (fun _ => kitAny_cons (b := true) (kit_ty (by decide +kernel)) (fun z => nomatch z) fun _ => rfl) fun z => nomatch z
theorem all_true : ∀ {n : Nat}, (List.replicate n true).all id = true
  | 0 => rfl
  | n + 1 => by rw [List.replicate_succ, List.all_cons, all_true]; rfl
theorem map_bl {α : Type} (us : List α) : us.map (fun _ => V.bl true) = (List.replicate us.length true).map V.bl := by
  induction us with
  | nil => rfl
  | cons u us ih => rw [List.map_cons, ih, List.length_cons, List.replicate_succ, List.map_cons]
theorem filter_tt {α : Type} (us : List α) : us.filter (fun _ => true) = us := by simp
instance (z : Wd) : Decidable (LetOk z) := decidable_of_iff (2 ≤ z.length ∧ z.length ≤ 26 ∧ z.Nodup ∧ ∀ c ∈ z, c ∈ small) ⟨fun h => ⟨h.1, h.2.1, h.2.2.1, h.2.2.2⟩, fun h => ⟨h.l2, h.l26, h.nd, h.sm⟩⟩
theorem filter_tt2 {α : Type} (us : List α) (f : α → Bool) : (us.map f).all id = us.all f := by rw [List.all_map]; rfl
theorem map_bl2 {α : Type} (us : List α) (f : α → Bool) : us.map (fun u => V.bl (f u)) = (us.map f).map V.bl := by rw [List.map_map]; rfl
theorem cnt_nd {z : Wd} : (∀ c ∈ z, z.count c = 1) ↔ z.Nodup := by
  rw [List.nodup_iff_count]
  constructor
  · intro h c
    by_cases hc : c ∈ z
    · rw [h c hc]; omega
    · rw [List.count_eq_zero.mpr hc]; omega
  · intro h c hc
    have h1 := h c
    have h2 := List.count_pos_iff.mpr hc
    omega
def LtV (H : Hp) (v : V) (b : Bool) : Prop := (∃ z, v = .str (sw z) ∧ z.length ≤ 1000 ∧ b = decide (LetOk z)) ∨ (b = false ∧ ∃ t, TyN H v t ∧ t ≠ "str")
def WdV (H : Hp) (z : Wd) (v : V) (b : Bool) : Prop := (∃ p, v = .str (sw p) ∧ p.length ≤ 1000 ∧ b = decide (p.length ≤ 200 ∧ ∀ c ∈ p, c ∈ z)) ∨ (b = false ∧ ∃ t, TyN H v t ∧ t ≠ "str")
def VlV (H : Hp) (v : V) (b : Bool) : Prop := (∃ i : Int, v = .int i ∧ b = decide (1 ≤ i ∧ i ≤ 9)) ∨ (b = false ∧ ∃ t, TyN H v t ∧ t ≠ "int")
def FlV (H : Hp) (v : V) (b : Bool) : Prop := (b = true ∧ ∃ c, v = .bl c) ∨ (b = false ∧ ∃ t, TyN H v t ∧ t ≠ "bool")
theorem LtV.kp {H H' : Hp} {v : V} {b : Bool} (k : KpS H H') (h : LtV H v b) : LtV H' v b := h.imp id fun ⟨e, t, h, n⟩ => ⟨e, t, h.kp k.t, n⟩
theorem WdV.kp {H H' : Hp} {z : Wd} {v : V} {b : Bool} (k : KpS H H') (h : WdV H z v b) : WdV H' z v b := h.imp id fun ⟨e, t, h, n⟩ => ⟨e, t, h.kp k.t, n⟩
theorem VlV.kp {H H' : Hp} {v : V} {b : Bool} (k : KpS H H') (h : VlV H v b) : VlV H' v b := h.imp id fun ⟨e, t, h, n⟩ => ⟨e, t, h.kp k.t, n⟩
theorem FlV.kp {H H' : Hp} {v : V} {b : Bool} (k : KpS H H') (h : FlV H v b) : FlV H' v b := h.imp id fun ⟨e, t, h, n⟩ => ⟨e, t, h.kp k.t, n⟩
def spLetters : Sp := fun vs H Q _ => ∃ v b, vs = [v] ∧ LtV H v b ∧ ∀ H', Same H H' → Q (.bl b) H'
def spWord : Sp := fun vs H Q _ => ∃ z v b, vs = [.str (sw z), v] ∧ WdV H z v b ∧ ∀ H', Same H H' → Q (.bl b) H'
def spValue : Sp := fun vs H Q _ => ∃ v b, vs = [v] ∧ VlV H v b ∧ Q (.bl b) H
section
variable {P : Program} {w : World} {K : PySem.W.Frag} {mg : Str → Option Value} {base : Heap}
theorem ok_is_letters (T : Tx P K mg) (B : Bx T base) : FnOk P w K mg base CX0 1 T.a_is_letters T.fd_is_letters ["letters"] spLetters := by
  refine okT T.F_is_letters sc_is_letters (fun vs H Q E h => ?_) (fun cdv A outer s H vs Q E hcd hr h => ?_)
  · obtain ⟨v, b, rfl, _⟩ := h
    rfl
  have hu := hu_of hr
  have hu65 := hu65_of hr
  obtain ⟨v, b, rfl, hv, q⟩ := h
  refine ⟨_, (pss_cons (ps_if (PW.pt (pw_or (pt_not (pt_val (pe_callB call_isi (by rfl) T.b_isinstance (by decide +kernel) (pa_cons (pv 0) (pa_cons (pe_bltn (v := .ty "str") (by rfl) T.b_str (by decide +kernel) rfl) pa_nil))))) (pw_or1 (pt_not (pt_chain op_le op_le pe_int (pe_callB call_len_str (by rfl) T.b_len (by decide +kernel) (pa_cons (pv 0) pa_nil)) (pe_callB call_len_str (by rfl) T.b_len (by decide +kernel) (pa_cons (pe_glob (v := .str "abcdefghijklmnopqrstuvwxyz") (by rfl) T.m_SMALL.choose_spec ⟨_, rfl⟩) pa_nil)))))))
 (pss_one (ps_ret pe_bl))
 pss_nil)
 (pss_one (ps_ret (pe_callB (cr_all rfl) (by rfl) T.b_all (by decide +kernel) (pa_cons (pe_lc (own := [("letter", 1)]) (g := gName 1) rfl sc_is_letters.nd (pi_str (pv 0)) (blkOk_by (own := [("letter", 1)]) (N := N_is_letters) (sc := defScope s_is_letters) (by decide +kernel)) (fun _ _ _ _ _ => (pg_name (i := 1) sc_is_letters.nd rfl (by first | exact Or.inl rfl | exact Or.inr rfl))) (fun _ _ _ _ _ => pts_nil) (fun _ _ _ _ _ => (pe_and (pe_cmpR op_in_sign (pv 1) (pe_glob (v := .str "abcdefghijklmnopqrstuvwxyz") (by rfl) T.m_SMALL.choose_spec ⟨_, rfl⟩) (by rfl)) (pe_one (pe_cmpR op_eq (pe_m1 PySem.F.slot_str_count PySem.F.type_str_count mt_count (pv 0) (pv 1)) pe_int (nomark _)))))) pa_nil))))), ?_⟩
  rcases hv with ⟨z, rfl, hl0, rfl⟩ | ⟨rfl, t, ht, hn⟩
  rotate_left
  · refine ⟨_, rfl, _, _, _, _, _, rfl, .ty _, ht.ty, kit_str ht.mem, _, rfl, ?_⟩
    rw [decide_eq_false hn]
    exact iteT (q _ fun _ _ h => h)
  have hl : (sw z).length ≤ sizeLine := by rw [sw_len, sizeLine_eq]; omega
  refine ⟨_, rfl, _, _, _, _, _, rfl, .ty _, .base (.str _), isi_s, _, rfl, ?_⟩
  refine iteF ?_
  refine ⟨_, rfl, _, rfl, hl, _, _, rfl, rfl, _, rfl, ?_⟩
  rw [sw_len]
  refine ite2 (fun h2 => ?_) (fun h2 => ?_)
  rotate_left
  · rw [decide_eq_false (fun k : LetOk z => h2 (decide_eq_true (by have := k.l2; omega)))] at q
    exact ⟨_, rfl, iteT (q _ fun _ _ h => h)⟩
  refine ⟨_, rfl, by decide +kernel, _, _, rfl, rfl, _, rfl, ?_⟩
  rw [show ((("abcdefghijklmnopqrstuvwxyz" : Str)).length : Int) = 26 by decide +kernel]
  refine ite2 (fun h3 => ?_) (fun h3 => ?_)
  · have h3 : ¬ (z.length : Int) ≤ 26 := by simpa using h3
    rw [decide_eq_false (fun k : LetOk z => h3 (by have := k.l26; omega))] at q
    exact q _ fun _ _ h => h
  have h3 : (z.length : Int) ≤ 26 := by simpa using h3
  have h2 : (2 : Int) ≤ (z.length : Int) := by simpa using h2
  refine ⟨_, rfl, _, rfl, fun D hD => ?_⟩
  refine lcF (walk_sgs z) yat (pr_sgs z) hD (fun _ _ => trivial) (by omega) (fun _ => true) (fun c => .bl (decide (c ∈ small) && decide (z.count c = 1))) (fun x c H' R N hc e s k1 _ => ?_) (fun H' s hl => ?_)
  · subst e
    refine ⟨rfl, yes_ite ?_⟩
    refine ⟨_, rfl, c, _, rfl, rfl, _, rfl, ?_⟩
    rw [small_eq, sw_list]
    have k1 := k1 rfl
    refine ite2 (fun h => ?_) (fun h => ?_)
    · rw [h] at k1
      refine ⟨_, rfl, ⟨_, rfl⟩, _, rfl, _, _, rfl, rfl, rfl, ?_⟩
      rw [← sw_one, count_sw, show decide (V.int ((z.count c : Nat) : Int) = V.int 1) = decide (z.count c = 1) from decide_eq_decide.mpr ⟨fun h => by have := V.int.inj h; omega, fun h => by rw [h]; rfl⟩]
      exact k1
    · have h : decide (c ∈ small) = false := by simpa using h
      rw [h] at k1
      exact k1
  · rw [filter_tt, map_bl2] at hl
    refine ⟨D, _, rfl, SqL.of hl, ?_⟩
    rw [filter_tt2]
    have e : (z.all fun c => decide (c ∈ small) && decide (z.count c = 1)) = decide (LetOk z) := by
      rw [Bool.eq_iff_iff, List.all_eq_true, decide_eq_true_iff]
      constructor
      · intro h
        have h' : ∀ c ∈ z, c ∈ small ∧ z.count c = 1 := fun c hc => by have := h c hc; simpa using this
        exact ⟨by omega, by omega, cnt_nd.mp fun c hc => (h' c hc).2, fun c hc => (h' c hc).1⟩
      · intro k c hc
        rw [decide_eq_true (k.sm c hc), decide_eq_true (cnt_nd.mpr k.nd c hc)]
        rfl
    rw [e]
    exact q _ s
theorem ok_is_word (T : Tx P K mg) (B : Bx T base) : FnOk P w K mg base CX0 1 T.a_is_word T.fd_is_word ["letters", "word"] spWord := by
  refine okT T.F_is_word sc_is_word (fun vs H Q E h => ?_) (fun cdv A outer s H vs Q E hcd hr h => ?_)
  · obtain ⟨z, v, b, rfl, _⟩ := h
    rfl
  have hu := hu_of hr
  have hu65 := hu65_of hr
  obtain ⟨z, v, b, rfl, hv, q⟩ := h
  refine ⟨_, (pss_cons (ps_if (PW.pt (pw_or (pt_not (pt_val (pe_callB call_isi (by rfl) T.b_isinstance (by decide +kernel) (pa_cons (pv 1) (pa_cons (pe_bltn (v := .ty "str") (by rfl) T.b_str (by decide +kernel) rfl) pa_nil))))) (pw_or1 (pt_cmpR op_gt (pe_callB call_len_str (by rfl) T.b_len (by decide +kernel) (pa_cons (pv 1) pa_nil)) (pe_glob (v := .int 200) (by rfl) T.m_MOST_LETTERS.choose_spec ⟨_, rfl⟩) (nomark _)))))
 (pss_one (ps_ret pe_bl))
 pss_nil)
 (pss_one (ps_ret (pe_callB (cr_all rfl) (by rfl) T.b_all (by decide +kernel) (pa_cons (pe_lc (own := [("letter", 2)]) (g := gName 2) rfl sc_is_word.nd (pi_str (pv 1)) (blkOk_by (own := [("letter", 2)]) (N := N_is_word) (sc := defScope s_is_word) (by decide +kernel)) (fun _ _ _ _ _ => (pg_name (i := 2) sc_is_word.nd rfl (by first | exact Or.inl rfl | exact Or.inr rfl))) (fun _ _ _ _ _ => pts_nil) (fun _ _ _ _ _ => (pe_cmpR op_in_sign (pv 2) (pv 0) (by rfl)))) pa_nil))))), ?_⟩
  rcases hv with ⟨p, rfl, hl0, rfl⟩ | ⟨rfl, t, ht, hn⟩
  rotate_left
  · refine ⟨_, rfl, _, _, _, _, _, rfl, .ty _, ht.ty, kit_str ht.mem, _, rfl, ?_⟩
    rw [decide_eq_false hn]
    exact iteT (q _ fun _ _ h => h)
  have hl : (sw p).length ≤ sizeLine := by rw [sw_len, sizeLine_eq]; omega
  refine ⟨_, rfl, _, _, _, _, _, rfl, .ty _, .base (.str _), isi_s, _, rfl, ?_⟩
  refine iteF ?_
  refine ⟨_, rfl, _, rfl, hl, _, _, rfl, rfl, _, rfl, ?_⟩
  rw [sw_len]
  refine ite2 (fun h2 => ?_) (fun h2 => ?_)
  · have h2 : (200 : Int) < (p.length : Int) := by simpa using h2
    rw [decide_eq_false (fun k : p.length ≤ 200 ∧ ∀ c ∈ p, c ∈ z => by omega)] at q
    exact q _ fun _ _ h => h
  have h2 : ¬ (200 : Int) < (p.length : Int) := by simpa using h2
  refine ⟨_, rfl, _, rfl, fun D hD => ?_⟩
  refine lcF (walk_sgs p) yat (pr_sgs p) hD (fun _ _ => trivial) (by omega) (fun _ => true) (fun c => .bl (decide (c ∈ z))) (fun x c H' R N hc e s k1 _ => ?_) (fun H' s hl => ?_)
  · subst e
    refine ⟨rfl, yes_ite ?_⟩
    refine ⟨_, rfl, _, rfl, c, _, rfl, rfl, ?_⟩
    rw [sw_list]
    exact k1 rfl
  · rw [filter_tt, map_bl2] at hl
    refine ⟨D, _, rfl, SqL.of hl, ?_⟩
    rw [filter_tt2]
    have e : (p.all fun c => decide (c ∈ z)) = decide (p.length ≤ 200 ∧ ∀ c ∈ p, c ∈ z) := by
      rw [Bool.eq_iff_iff, List.all_eq_true, decide_eq_true_iff]
      exact ⟨fun h => ⟨by omega, fun c hc => of_decide_eq_true (h c hc)⟩, fun h c hc => decide_eq_true (h.2 c hc)⟩
    rw [e]
    exact q _ s
theorem ok_is_value (T : Tx P K mg) (B : Bx T base) : FnOk P w K mg base CX0 1 T.a_is_value T.fd_is_value ["value"] spValue := by
  refine okT T.F_is_value sc_is_value (fun vs H Q E h => ?_) (fun cdv A outer s H vs Q E hcd hr h => ?_)
  · obtain ⟨v, b, rfl, _⟩ := h
    rfl
  have hu := hu_of hr
  have hu65 := hu65_of hr
  obtain ⟨v, b, rfl, hv, q⟩ := h
  refine ⟨_, (pss_one (ps_ret (pe_and (pe_callB call_isi (by rfl) T.b_isinstance (by decide +kernel) (pa_cons (pv 0) (pa_cons (pe_bltn (v := .ty "int") (by rfl) T.b_int (by decide +kernel) rfl) pa_nil))) (pe_and (pe_not (pe_callB call_isi (by rfl) T.b_isinstance (by decide +kernel) (pa_cons (pv 0) (pa_cons (pe_bltn (v := .ty "bool") (by rfl) T.b_bool (by decide +kernel) rfl) pa_nil)))) (pe_one (pe_chain op_le op_le pe_int (pv 0) (pe_glob (v := .int 9) (by rfl) T.m_MOST_VALUE.choose_spec ⟨_, rfl⟩))))))), ?_⟩
  rcases hv with ⟨i, rfl, rfl⟩ | ⟨rfl, t, ht, hn⟩
  · refine ⟨_, rfl, _, _, _, _, _, rfl, .ty _, .base (.int _), isi_i, _, rfl, ?_⟩
    refine iteT ?_
    refine ⟨_, rfl, _, _, _, _, _, rfl, .ty _, .base (.int _), isi_ib, _, rfl, _, rfl, ?_⟩
    refine iteT ?_
    refine ⟨_, rfl, _, _, rfl, rfl, _, rfl, ?_⟩
    refine ite2 (fun h1 => ?_) (fun h1 => ?_)
    · refine ⟨_, _, rfl, rfl, ?_⟩
      have h1 : 1 ≤ i := by simpa using h1
      show Q (.bl (decide (i ≤ 9))) H
      rw [show decide (i ≤ 9) = decide (1 ≤ i ∧ i ≤ 9) from decide_eq_decide.mpr ⟨fun h => ⟨h1, h⟩, fun h => h.2⟩]
      exact q
    · have h1 : ¬ 1 ≤ i := by simpa using h1
      rw [decide_eq_false (fun k : 1 ≤ i ∧ i ≤ 9 => h1 k.1)] at q
      exact q
  · refine ⟨_, rfl, _, _, _, _, _, rfl, .ty _, ht.ty, kit_int ht.mem, _, rfl, ?_⟩
    by_cases hb : t = "bool"
    · subst hb
      rw [decide_eq_true (.inr rfl)]
      refine iteT ?_
      refine ⟨_, rfl, _, _, _, _, _, rfl, .ty _, ht.ty, isi_bb, _, rfl, _, rfl, ?_⟩
      exact iteF q
    · rw [decide_eq_false (fun k => k.elim hn hb)]
      exact iteF q
end
end Toy
set_option Elab.async false
set_option linter.all false
set_option maxRecDepth 100000
set_option maxHeartbeats 4000000
namespace Toy
open PySem L2 Sh ShL LamX NdefX
/-! ### dicts with texts as keys -/
def kdl (l : List (Wd × V)) : List (Key × V) := l.map fun q => (.inr (sw q.1), q.2)
theorem kdl_len (l : List (Wd × V)) : (kdl l).length = l.length := List.length_map _
theorem kdl_none : ∀ {l : List (Wd × V)} {p : Wd}, p ∉ l.map (·.1) → valV (kdl l) (.inr (sw p)) = none
  | [], _, _ => rfl
  | q :: l, p, h => by
    rw [List.map_cons, List.mem_cons] at h
    refine (valV_neg (fun e => h (.inl (sw_inj (Sum.inr.inj e)).symm))).trans (kdl_none (l := l) fun m => h (.inr m))
theorem kdl_some : ∀ {l : List (Wd × V)} {p : Wd} {v : V}, (l.map (·.1)).Nodup → (p, v) ∈ l → valV (kdl l) (.inr (sw p)) = some v
  | q :: l, p, v, nd, h => by
    rw [List.map_cons, List.nodup_cons] at nd
    rcases List.mem_cons.mp h with h | h
    · subst h
      exact valV_pos rfl
    · have hm : p ∈ l.map (·.1) := List.mem_map.mpr ⟨_, h, rfl⟩
      exact (valV_neg (fun e => nd.1 (by have := sw_inj (Sum.inr.inj e); rw [this]; exact hm))).trans (kdl_some nd.2 h)
theorem kdl_is {l : List (Wd × V)} (nd : (l.map (·.1)).Nodup) (p : Wd) : (valV (kdl l) (.inr (sw p))).isSome = decide (p ∈ l.map (·.1)) := by
  by_cases h : p ∈ l.map (·.1)
  · obtain ⟨q, hq, rfl⟩ := List.mem_map.mp h
    rw [kdl_some nd (v := q.2) hq, decide_eq_true h]
    rfl
  · rw [kdl_none h, decide_eq_false h]
    rfl
theorem kdl_new {l : List (Wd × V)} {p : Wd} (v : V) (h : p ∉ l.map (·.1)) : putK (kdl l) (.inr (sw p)) v = kdl (l ++ [(p, v)]) := by
  rw [putK_new v (kdl_none h)]
  unfold kdl
  rw [List.map_append]
  rfl
theorem kdl_old {l : List (Wd × V)} {p : Wd} (v : V) (h : p ∈ l.map (·.1)) : putK (kdl l) (.inr (sw p)) v = kdl (l.map fun q => if q.1 = p then (q.1, v) else q) := by
  have e : ((kdl l).any fun kv => decide (kv.1 = (.inr (sw p) : Key))) = true := by
    obtain ⟨q, hq, e⟩ := List.mem_map.mp h
    rw [List.any_eq_true]
    refine ⟨(.inr (sw q.1), q.2), List.mem_map.mpr ⟨q, hq, rfl⟩, ?_⟩
    rw [← e]
    exact decide_eq_true rfl
  unfold putK
  rw [if_pos e]
  unfold kdl
  rw [List.map_map, List.map_map]
  refine List.map_congr_left fun q _ => ?_
  show (if (.inr (sw q.1) : Key) = .inr (sw p) then _ else _) = _
  by_cases h : q.1 = p
  · rw [if_pos (by rw [h]), Function.comp_apply, if_pos h]
  · rw [if_neg (fun e => h (sw_inj (Sum.inr.inj e))), Function.comp_apply, if_neg h]
theorem dget_kdl {H : Hp} {d : Addr} {l : List (Wd × V)} (h : H d = some (.dK (kdl l))) (p : Wd) : DGet H d (.str (sw p)) (valV (kdl l) (.inr (sw p))) := DGet.k (k := .inr (sw p)) h
theorem dput_kdl {H : Hp} {d : Addr} {l : List (Wd × V)} (h : H d = some (.dK (kdl l))) (p : Wd) (v : V) (hl : l.length ≤ 40000) : DPut H d (.str (sw p)) v (upd H d (.dK (putK (kdl l) (.inr (sw p)) v))) :=
  DPut.k (k := .inr (sw p)) h (by rw [kdl_len, sizeLine_eq]; omega)
/-! ### rows -/
abbrev Rw := Wd × Option Int × Bool
def oV : Option Int → V
  | none => .non
  | some i => .int i
abbrev rwVs (r : Rw) : List V := [.str (sw r.1), oV r.2.1, .bl r.2.2]
def RwT (H : Hp) (v : V) (r : Rw) : Prop := ∃ a, v = .ref a ∧ H a = some (.tup (rwVs r))
def RwE (H : Hp) (v : V) (r : Rw) : Prop := ∃ a, v = .ref a ∧ (H a = some (.lst (rwVs r)) ∨ H a = some (.tup (rwVs r)))
theorem RwT.e {H : Hp} {v : V} {r : Rw} (h : RwT H v r) : RwE H v r := let ⟨a, e, h⟩ := h; ⟨a, e, .inr h⟩
theorem RwT.sm {T : List (Addr × Str)} {H H' : Hp} {v : V} {r : Rw} (s : Sm T H H') (h : RwT H v r) : RwT H' v r := let ⟨a, e, h⟩ := h; ⟨a, e, s.get h⟩
theorem RwE.sm {T : List (Addr × Str)} {H H' : Hp} {v : V} {r : Rw} (s : Sm T H H') (h : RwE H v r) : RwE H' v r := let ⟨a, e, h⟩ := h; ⟨a, e, h.imp (fun h => s.get h) fun h => s.get h⟩
theorem RwT.same {H H' : Hp} {v : V} {r : Rw} (s : Same H H') (h : RwT H v r) : RwT H' v r := let ⟨a, e, h⟩ := h; ⟨a, e, s _ _ h⟩
theorem RwE.same {H H' : Hp} {v : V} {r : Rw} (s : Same H H') (h : RwE H v r) : RwE H' v r := let ⟨a, e, h⟩ := h; ⟨a, e, h.imp (s _ _) (s _ _)⟩
theorem RwT.kp {H H' : Hp} {v : V} {r : Rw} {d : Addr} {kvs : List (Key × V)} (hd : H d = some (.dK kvs)) (s : Kp d H H') (h : RwT H v r) : RwT H' v r :=
  let ⟨a, e, h⟩ := h; ⟨a, e, s _ _ h (ne_of h hd (by intro z; cases z))⟩
theorem RwE.kp {H H' : Hp} {v : V} {r : Rw} {d : Addr} {kvs : List (Key × V)} (hd : H d = some (.dK kvs)) (s : Kp d H H') (h : RwE H v r) : RwE H' v r :=
  let ⟨a, e, h⟩ := h; ⟨a, e, h.imp (fun h => s _ _ h (ne_of h hd (by intro z; cases z))) fun h => s _ _ h (ne_of h hd (by intro z; cases z))⟩
structure RwOk (z : Wd) (r : Rw) : Prop where
  wd : ∀ c ∈ r.1, c ∈ z
  l200 : r.1.length ≤ 200
  vl : ∀ i, r.2.1 = some i → 1 ≤ i ∧ i ≤ 9
theorem RwE.sq {K : PySem.W.Frag} {H : Hp} {a : Addr} {xs : List V} (h : H a = some (.lst xs) ∨ H a = some (.tup xs)) : SqL K H a xs ∨ SqT K H a xs := h.imp SqL.of SqT.of
theorem lt_ty {K : PySem.W.Frag} {H : Hp} {a : Addr} {xs : List V} (h : H a = some (.lst xs) ∨ H a = some (.tup xs)) : ∃ t : String, (t = "list" ∨ t = "tuple") ∧ TyX K H (.ref a) (.type t) :=
  h.elim (fun h => ⟨_, .inl rfl, .base (.lst h)⟩) fun h => ⟨_, .inr rfl, .base (.tup h)⟩
/-- three values told as a row: whether they are one -/
def Row3 (H : Hp) (z : Wd) (xs : List V) (b : Bool) : Prop := ∃ x y f b1 b2 b3, xs = [x, y, f] ∧ WdV H z x b1 ∧ ((y = .non ∧ b2 = true) ∨ (y ≠ .non ∧ VlV H y b2)) ∧ FlV H f b3 ∧ b = (b1 && b2 && b3)
theorem Row3.kp {H H' : Hp} {z : Wd} {xs : List V} {b : Bool} (k : KpS H H') (h : Row3 H z xs b) : Row3 H' z xs b := by
  obtain ⟨x, y, f, b1, b2, b3, e, h1, h2, h3, e2⟩ := h
  exact ⟨x, y, f, b1, b2, b3, e, h1.kp k, h2.imp id fun h => ⟨h.1, h.2.kp k⟩, h3.kp k, e2⟩
/-- no row by its kind or length, or three values -/
def RowV (H : Hp) (z : Wd) (v : V) (b : Bool) : Prop := (b = false ∧ ∃ t, TyN H v t ∧ t ≠ "list" ∧ t ≠ "tuple") ∨ ∃ p xs, v = .ref p ∧ SqA H p xs ∧ ((b = false ∧ xs.length ≠ 3) ∨ Row3 H z xs b)
theorem RowV.kp {H H' : Hp} {z : Wd} {v : V} {b : Bool} (k : KpS H H') (h : RowV H z v b) : RowV H' z v b := by
  rcases h with ⟨e, t, h, n⟩ | ⟨p, xs, e, h, h2⟩
  · exact .inl ⟨e, t, h.kp k.t, n⟩
  · exact .inr ⟨p, xs, e, h.kp k, h2.imp id fun h => h.kp k⟩
theorem RwE.sqA {H : Hp} {a : Addr} {xs : List V} (h : SqA H a xs) {K : PySem.W.Frag} : SqL K H a xs ∨ SqT K H a xs := h.imp SqL.of SqT.of
/-- a right row -/
theorem row3_ok {H : Hp} {z : Wd} {r : Rw} (h : RwOk z r) : Row3 H z (rwVs r) true := by
  refine ⟨_, _, _, true, true, true, rfl, .inl ⟨r.1, rfl, Nat.le_trans h.l200 (by decide), (decide_eq_true ⟨h.l200, h.wd⟩).symm⟩, ?_, .inl ⟨rfl, _, rfl⟩, rfl⟩
  cases e : r.2.1 with
  | none => exact .inl ⟨rfl, rfl⟩
  | some i =>
    obtain ⟨h1, h2⟩ := h.vl i e
    exact .inr ⟨fun z => (by cases z), .inl ⟨i, rfl, (decide_eq_true ⟨h1, h2⟩).symm⟩⟩
/-- a row that is told as right is one -/
theorem row3_rw {H : Hp} {z : Wd} {xs : List V} (h : Row3 H z xs true) : ∃ r, xs = rwVs r ∧ RwOk z r := by
  obtain ⟨x, y, f, b1, b2, b3, rfl, h1, h2, h3, e⟩ := h
  obtain ⟨rfl, rfl, rfl⟩ : b1 = true ∧ b2 = true ∧ b3 = true := by cases b1 <;> cases b2 <;> cases b3 <;> first | exact ⟨rfl, rfl, rfl⟩ | cases e
  rcases h1 with ⟨p, rfl, hp, e1⟩ | ⟨e1, _⟩
  rotate_left
  · cases e1
  obtain ⟨l200, wd⟩ := of_decide_eq_true e1.symm
  rcases h3 with ⟨_, c, rfl⟩ | ⟨e1, _⟩
  rotate_left
  · cases e1
  rcases h2 with ⟨rfl, _⟩ | ⟨_, ⟨i, rfl, e2⟩ | ⟨e2, _⟩⟩
  · exact ⟨(p, none, c), rfl, ⟨wd, l200, fun i e => by cases e⟩⟩
  · have := of_decide_eq_true e2.symm
    exact ⟨(p, some i, c), rfl, ⟨wd, l200, fun j e => by cases e; exact this⟩⟩
  · cases e2
def spRow : Sp := fun vs H Q _ => ∃ z v b, vs = [.str (sw z), v] ∧ RowV H z v b ∧ ∀ H', Same H H' → Q (.bl b) H'
def spOrder (T : List (Addr × Str)) : Sp := fun vs H Q _ => ∃ z d kvs ws, vs = [.str (sw z), .ref d] ∧ H d = some (.dK kvs) ∧ kvs.map (fun kv => kV kv.1) = wsV ws ∧ (∀ p ∈ ws, p.length ≤ 200 ∧ ∀ c ∈ p, c ∈ z) ∧ Tabs T H ∧
  ∀ H' a, Sm T H H' → H' a = some (.lst (wsV (ordW z ws))) → Q (.ref a) H'
def spOrdered (K : PySem.W.Frag) (T : List (Addr × Str)) : Sp := fun vs H Q _ => ∃ z a ws, vs = [.str (sw z), .ref a] ∧ SqL K H a (wsV ws) ∧ (∀ p ∈ ws, p.length ≤ 200 ∧ ∀ c ∈ p, c ∈ z) ∧ Tabs T H ∧
  ∀ H' a, Sm T H H' → H' a = some (.lst (wsV (ordW z ws))) → Q (.ref a) H'
section
variable {P : Program} {w : World} {K : PySem.W.Frag} {mg : Str → Option Value} {base : Heap}
theorem ok_is_row (T : Tx P K mg) (B : Bx T base) : FnOk P w K mg base CX0 2 T.a_is_row T.fd_is_row ["letters", "row"] spRow := by
  refine okT T.F_is_row sc_is_row (fun vs H Q E h => ?_) (fun cdv A outer s H vs Q E hcd hr h => ?_)
  · obtain ⟨z, v, b, rfl, _⟩ := h
    rfl
  have hu := hu_of hr
  have hu65 := hu65_of hr
  obtain ⟨z, v, b, rfl, hv, q⟩ := h
  refine ⟨_, (pss_cons (ps_if (PW.pt (pw_or (pt_not (pt_val (pe_callB call_isiT (by rfl) T.b_isinstance (by decide +kernel) (pa_cons (pv 1) (pa_cons (pe_tup (pa_cons (pe_bltn (v := .ty "list") (by rfl) T.b_list (by decide +kernel) rfl) (pa_cons (pe_bltn (v := .ty "tuple") (by rfl) T.b_tuple (by decide +kernel) rfl) pa_nil))) pa_nil))))) (pw_or1 (pt_cmpR op_ne (pe_callB call_len_seq (by rfl) T.b_len (by decide +kernel) (pa_cons (pv 1) pa_nil)) pe_int (nomark _)))))
 (pss_one (ps_ret pe_bl))
 pss_nil)
 (pss_cons (ps_asg (pv 1) (pg_unE rfl (pgs_cons (pg_name (i := 2) sc_is_row.nd rfl (by first | exact Or.inl rfl | exact Or.inr rfl)) (pgs_cons (pg_name (i := 3) sc_is_row.nd rfl (by first | exact Or.inl rfl | exact Or.inr rfl)) (pgs_cons (pg_name (i := 4) sc_is_row.nd rfl (by first | exact Or.inl rfl | exact Or.inr rfl)) pgs_nil)))))
 (pss_one (ps_ret (pe_and (pe_call (ok_is_word (w := w) T B) (hr.mono (by decide)) (by rfl) T.m_is_word T.F_is_word.kp T.bi_is_word .nil pass0 (pa_cons (pv 0) (pa_cons (pv 2) pa_nil))) (pe_and (pe_or (pe_cmpR op_isN (pv 3) pe_non (nomark _)) (pe_one (pe_call (ok_is_value (w := w) T B) (hr.mono (by decide)) (by rfl) T.m_is_value T.F_is_value.kp T.bi_is_value .nil pass0 (pa_cons (pv 3) pa_nil)))) (pe_one (pe_callB call_isi (by rfl) T.b_isinstance (by decide +kernel) (pa_cons (pv 4) (pa_cons (pe_bltn (v := .ty "bool") (by rfl) T.b_bool (by decide +kernel) rfl) pa_nil)))))))))), ?_⟩
  refine ⟨_, rfl, by decide, fun tp htp => ?_⟩
  have s1 := same_upd (o := .tup [V.ty "list", V.ty "tuple"]) htp
  have hv1 := hv.kp (kpS_same s1)
  rcases hv1 with ⟨rfl, t, ht, n1, n2⟩ | ⟨p, xs, rfl, hp, h3⟩
  · refine ⟨_, tp, _, _, [.type "list", .type "tuple"], _, rfl, upd_same, .cons (.ty _) (.cons (.ty _) .nil), ht.ty, kit_lot ht.mem, _, rfl, ?_⟩
    rw [decide_eq_false (fun k => k.elim n1 n2)]
    exact iteT (q _ s1)
  obtain ⟨t, ht, ty⟩ := lt_ty (K := K) hp
  refine ⟨_, tp, _, _, [.type "list", .type "tuple"], true, rfl, upd_same, .cons (.ty _) (.cons (.ty _) .nil), ty, kit_lt ht, _, rfl, ?_⟩
  refine iteF ?_
  refine ⟨_, rfl, p, _, rfl, RwE.sqA hp, rfl, _, rfl, ?_⟩
  rcases h3 with ⟨rfl, hl⟩ | ⟨x, y, f, b1, b2, b3, rfl, h1, h2, h3, rfl⟩
  · rw [decide_eq_false (show ¬ V.int (xs.length : Int) = V.int 3 from fun e => hl (by have := V.int.inj e; omega))]
    exact iteT (q _ s1)
  refine iteF ?_
  refine ⟨_, rfl, p, _, rfl, RwE.sqA hp, rfl, _, _, rfl, _, _, rfl, _, _, rfl, rfl, ?_⟩
  refine ⟨_, rfl, _, rfl, z, x, b1, rfl, h1, fun H2 s2 => ⟨_, rfl, ?_⟩⟩
  have s12 := s1.trans s2
  have h2 := h2.imp id fun h => And.intro h.1 (h.2.kp (kpS_same s2))
  have h3 := h3.kp (kpS_same s2)
  cases b1 with
  | false => exact iteF (q _ s12)
  | true =>
  refine iteT ?_
  have fin3 : ∀ (σ : L2.St) (R : VK), σ[4]? = some (some f) → R (.bl b3) H2 → (tCB (rIsi K) (tCons (tVar 4) (tCons (tC (.ty "bool")) tNil))) σ H2 R := fun σ R h hR => by
    rcases h3 with ⟨rfl, c, rfl⟩ | ⟨rfl, t, ht, n⟩
    · exact ⟨_, h, _, _, _, _, _, rfl, .ty _, .base (.bl _), isi_bb, hR⟩
    · refine ⟨_, h, _, _, _, _, _, rfl, .ty _, ht.ty, kit_bool ht.mem, ?_⟩
      rw [decide_eq_false n]
      exact hR
  rcases h2 with ⟨rfl, rfl⟩ | ⟨ny, h2⟩
  · refine ⟨_, rfl, rfl, _, rfl, ?_⟩
    refine ite2 (fun _ => ?_) (fun h => absurd (decide_eq_true rfl) h)
    exact ⟨_, rfl, iteT (fin3 _ _ rfl (q _ s12))⟩
  · refine ⟨_, rfl, rfl, _, rfl, ?_⟩
    rw [decide_eq_false ny]
    refine iteF ?_
    refine ⟨_, rfl, y, b2, rfl, h2, ?_⟩
    refine ⟨_, rfl, ?_⟩
    cases b2 with
    | true => exact iteT (fin3 _ _ rfl (q _ s12))
    | false => exact iteF (q _ s12)
theorem key_lc {σ : L2.St} {z p : Wd} (h0 : σ[0]? = some (some (.str (sw p)))) (h1 : σ[1]? = some (some (.str (sw z)))) (hl : σ.length = 3) (hp : p.length ≤ 200) (hz : ∀ c ∈ p, c ∈ z) :
    tLc (iStr (tVar 0)) (gName 2) tYes (tM1 (fun x xs H Q => ∃ a b i rest, x = V.str a ∧ xs = [V.str b] ∧ Builtin.Str.occurrences a b 0 a.length 1 = i :: rest ∧ Q (V.int ↑i) H) (tVar 1) (tVar 2)) [2] σ (fun _ => none)
      fun v H' => ∃ l, v = .ref l ∧ H' l = some (.lst ((keyS z (sw p)).map V.int)) := by
  obtain ⟨v0, v1, v2, rfl⟩ : ∃ v0 v1 v2, σ = [v0, v1, v2] := by
    match σ, hl with
    | [v0, v1, v2], _ => exact ⟨v0, v1, v2, rfl⟩
  simp only [List.getElem?_cons_zero, List.getElem?_cons_succ, Option.some.injEq] at h0 h1
  subst h0
  subst h1
  refine ⟨_, rfl, _, rfl, fun D hD => ?_⟩
  refine lcF (walk_sgs p) yat (pr_sgs p) hD (fun _ _ => trivial) (by omega) (fun _ => true) (fun c => .int ((z.idxOf c : Nat) : Int)) (fun x c H' R N hc e s k1 _ => ?_) (fun H' s hl => ?_)
  · subst e
    refine ⟨rfl, yes_ite ?_⟩
    obtain ⟨rest, hr⟩ := occ_sw (hz c hc)
    exact ⟨_, rfl, ⟨_, rfl⟩, _, rfl, _, _, _, rest, rfl, rfl, hr, k1 rfl⟩
  · rw [filter_tt] at hl
    refine ⟨D, rfl, ?_⟩
    rw [hl]
    unfold keyS kW
    rw [sw_list, List.map_map]
    rfl
theorem ok_in_order (T : Tx P K mg) (B : Bx T base) : FnOk P w K mg base CX0 4 T.a_in_order T.fd_in_order ["letters", "places"] (spOrder (tabs T)) := by
  refine okT T.F_in_order sc_in_order (fun vs H Q E h => ?_) (fun cdv A outer s H vs Q E hcd hr h => ?_)
  · obtain ⟨z, d, kvs, ws, rfl, _⟩ := h
    rfl
  have hcd : cdv = .ref T.kc_in_order := hcd.symm.trans T.ec_in_order
  have hu := hu_of hr
  have hu65 := hu65_of hr
  obtain ⟨z, d, kvs, ws, rfl, hd, hk, hw, tb, q⟩ := h
  refine ⟨_, (pss_one (ps_ret (pe_sortLam (k := 0) (N := ["place", "letters", "letter"]) (fr := ["letters"]) (js := [0]) (by rfl) T.b_sorted (by decide +kernel) (pa_cons (pe_callTy (call_list_dK rfl) (by rfl) T.b_list (by decide +kernel) (pa_cons (pv 1) pa_nil)) pa_nil) B.tb_in_order hcd (mem_in_order T) (uniq_in_order T) (hr.mono (by decide)) rfl (NdefX.nscope_by (by decide +kernel)) (by kernel_rfl) rfl (fun _ _ _ _ _ _ => rfl) (fun _ _ _ _ _ _ _ hr => (pe_lc (own := [("letter", 2)]) (g := gName 2) rfl (show List.Nodup (["place", "letters", "letter"] : List Str) by decide +kernel) (pi_str (pv 0)) (blkOk_by (own := [("letter", 2)]) (N := ["place", "letters", "letter"]) (by kernel_rfl)) (fun _ _ _ _ _ => (pg_name (i := 2) (show List.Nodup (["place", "letters", "letter"] : List Str) by decide +kernel) rfl (by first | exact Or.inl rfl | exact Or.inr rfl))) (fun _ _ _ _ _ => pts_nil) (fun _ _ _ _ _ => (pe_m1 PySem.F.slot_str_index PySem.F.type_str_index mt_sindex (pv 1) (pv 2)))))))), ?_⟩
  refine ⟨_, rfl, d, kvs, rfl, hd, fun p hp => ?_⟩
  have s1 := same_upd (o := .lst (kvs.map fun kv => kV kv.1)) hp
  have sm1 := Sm.of tb s1
  refine ⟨p, ws.map sw, keyS z, rfl, ?_, sm1.2, fun y hy => ?_, fun H2 p2 ex tb2 n2 => ?_⟩
  · rw [List.map_map]
    refine SqL.of ?_
    rw [upd_same, hk]
    rfl
  · obtain ⟨x, hx, rfl⟩ := List.mem_map.mp hy
    exact key_lc rfl rfl rfl (hw x hx).1 (hw x hx).2
  · rw [sort_sw, List.map_map]
    have sm2 : Sm (tabs T) H H2 := sm1.trans ⟨ex, tb2⟩
    exact q _ p2 (sm2.new n2) upd_same
theorem ok_l_ordered (T : Tx P K mg) (B : Bx T base) : FnOk P w K mg base CX0 4 T.a_l_ordered T.fd_l_ordered ["_law_letters_here", "_law_words"] (spOrdered K (tabs T)) := by
  refine okT T.F_l_ordered sc_l_ordered (fun vs H Q E h => ?_) (fun cdv A outer s H vs Q E hcd hr h => ?_)
  · obtain ⟨z, a, ws, rfl, _⟩ := h
    rfl
  have hcd : cdv = .ref T.kc_l_ordered := hcd.symm.trans T.ec_l_ordered
  have hu := hu_of hr
  have hu65 := hu65_of hr
  obtain ⟨z, a, ws, rfl, ha, hw, tb, q⟩ := h
  refine ⟨_, (pss_one (ps_ret (pe_sortLam (k := 0) (N := ["_law_word", "_law_letters_here", "_law_sign"]) (fr := ["_law_letters_here"]) (js := [0]) (by rfl) T.b_sorted (by decide +kernel) (pa_cons (pv 1) pa_nil) B.tb_l_ordered hcd (mem_l_ordered T) (uniq_l_ordered T) (hr.mono (by decide)) rfl (NdefX.nscope_by (by decide +kernel)) (by kernel_rfl) rfl (fun _ _ _ _ _ _ => rfl) (fun _ _ _ _ _ _ _ hr => (pe_lc (own := [("_law_sign", 2)]) (g := gName 2) rfl (show List.Nodup (["_law_word", "_law_letters_here", "_law_sign"] : List Str) by decide +kernel) (pi_str (pv 0)) (blkOk_by (own := [("_law_sign", 2)]) (N := ["_law_word", "_law_letters_here", "_law_sign"]) (by kernel_rfl)) (fun _ _ _ _ _ => (pg_name (i := 2) (show List.Nodup (["_law_word", "_law_letters_here", "_law_sign"] : List Str) by decide +kernel) rfl (by first | exact Or.inl rfl | exact Or.inr rfl))) (fun _ _ _ _ _ => pts_nil) (fun _ _ _ _ _ => (pe_m1 PySem.F.slot_str_index PySem.F.type_str_index mt_sindex (pv 1) (pv 2)))))))), ?_⟩
  refine ⟨_, rfl, a, ws.map sw, keyS z, rfl, ?_, tb, fun y hy => ?_, fun H2 p2 ex tb2 n2 => ?_⟩
  · rw [List.map_map]
    exact ha
  · obtain ⟨x, hx, rfl⟩ := List.mem_map.mp hy
    exact key_lc rfl rfl rfl (hw x hx).1 (hw x hx).2
  · rw [sort_sw, List.map_map]
    have sm2 : Sm (tabs T) H H2 := ⟨ex, tb2⟩
    exact q _ p2 (sm2.new n2) upd_same
end
end Toy
set_option Elab.async false
set_option linter.all false
set_option maxRecDepth 100000
set_option maxHeartbeats 4000000
namespace Toy
open PySem L2 Sh ShL LamX NdefX
theorem nd_len {α : Type} [DecidableEq α] : ∀ {xs ys : List α}, xs.Nodup → (∀ x ∈ xs, x ∈ ys) → xs.length ≤ ys.length
  | [], _, _, _ => Nat.zero_le _
  | x :: xs, ys, nd, h => by
    rw [List.nodup_cons] at nd
    have hx := h x List.mem_cons_self
    have := nd_len (xs := xs) (ys := ys.erase x) nd.2 fun y hy => (List.mem_erase_of_ne (fun e => nd.1 (by rw [← e]; exact hy))).mpr (h y (List.mem_cons_of_mem _ hy))
    rw [List.length_erase_of_mem hx] at this
    have h2 := List.length_pos_of_mem hx
    rw [List.length_cons]
    omega
/-! ### beginnings -/
def addW (fs : List Wd) (p : Wd) : Nat → List Wd
  | 0 => fs
  | n + 1 => if p.take (n + 1) ∈ fs then fs else addW (fs ++ [p.take (n + 1)]) p n
theorem addW_succ (fs : List Wd) (p : Wd) (n : Nat) : addW fs p (n + 1) = if p.take (n + 1) ∈ fs then fs else addW (fs ++ [p.take (n + 1)]) p n := rfl
def begs (ws : List Wd) : List Wd := ws.foldl (fun fs p => addW fs p p.length) [[]]
theorem addW_nd {p : Wd} : ∀ {n : Nat} {fs : List Wd}, fs.Nodup → (addW fs p n).Nodup
  | 0, _, h => h
  | n + 1, fs, h => by
    unfold addW
    by_cases e : p.take (n + 1) ∈ fs
    · rw [if_pos e]; exact h
    · rw [if_neg e]
      refine addW_nd (List.nodup_append.mpr ⟨h, by simp, fun a ha b hb => ?_⟩)
      rw [List.mem_singleton] at hb
      rw [hb]
      exact fun z => e (by rw [← z]; exact ha)
theorem addW_sub {p q : Wd} : ∀ {n : Nat} {fs : List Wd}, q ∈ addW fs p n → q ∈ fs ∨ ∃ m, q = p.take m
  | 0, _, h => .inl h
  | n + 1, fs, h => by
    unfold addW at h
    by_cases e : p.take (n + 1) ∈ fs
    · rw [if_pos e] at h; exact .inl h
    · rw [if_neg e] at h
      rcases addW_sub h with h | h
      · rcases List.mem_append.mp h with h | h
        · exact .inl h
        · exact .inr ⟨_, List.mem_singleton.mp h⟩
      · exact .inr h
theorem addW_keep {p q : Wd} : ∀ {n : Nat} {fs : List Wd}, q ∈ fs → q ∈ addW fs p n
  | 0, _, h => h
  | n + 1, fs, h => by
    unfold addW
    by_cases e : p.take (n + 1) ∈ fs
    · rw [if_pos e]; exact h
    · rw [if_neg e]
      exact addW_keep (List.mem_append_left _ h)
theorem addW_all {p : Wd} : ∀ {n : Nat} {fs : List Wd}, n ≤ p.length → [] ∈ fs → (∀ m, m ≤ n → p.take m ∈ fs → ∀ j, j ≤ m → p.take j ∈ fs) → ∀ j, j ≤ n → p.take j ∈ addW fs p n
  | 0, fs, _, h0, _, j, hj => by
    rw [show j = 0 by omega, List.take_zero]
    exact h0
  | n + 1, fs, hn, h0, h, j, hj => by
    unfold addW
    by_cases e : p.take (n + 1) ∈ fs
    · rw [if_pos e]
      exact h (n + 1) (Nat.le_refl _) e j hj
    · rw [if_neg e]
      by_cases hj2 : j = n + 1
      · rw [hj2]
        exact addW_keep (List.mem_append_right _ List.mem_cons_self)
      · refine addW_all (by omega) (List.mem_append_left _ h0) (fun m hm hin i hi => ?_) j (by omega)
        rcases List.mem_append.mp hin with hin | hin
        · exact List.mem_append_left _ (h m (by omega) hin i hi)
        · have := congrArg List.length (List.mem_singleton.mp hin)
          rw [List.length_take, List.length_take] at this
          omega
/-- all beginnings of its members are in it -/
def Clo (fs : List Wd) : Prop := [] ∈ fs ∧ ∀ p ∈ fs, ∀ n, p.take n ∈ fs
theorem Clo.addW {fs : List Wd} (h : Clo fs) (p : Wd) : Clo (addW fs p p.length) := by
  have all := addW_all (p := p) (Nat.le_refl _) h.1 (fun m _ hin j hj => by
    have := h.2 _ hin j
    rw [List.take_take, Nat.min_eq_left hj] at this
    exact this)
  refine ⟨addW_keep h.1, fun q hq n => ?_⟩
  rcases addW_sub hq with hq | ⟨m, rfl⟩
  · exact addW_keep (h.2 _ hq n)
  · rw [List.take_take]
    by_cases hm : min n m ≤ p.length
    · exact all _ hm
    · have := all p.length (Nat.le_refl _)
      rw [List.take_of_length_le (Nat.le_refl _)] at this
      rw [List.take_of_length_le (by omega)]
      exact this
theorem addW_mem {fs : List Wd} (h : Clo fs) {p q : Wd} : q ∈ addW fs p p.length ↔ q ∈ fs ∨ ∃ m, q = p.take m := by
  refine ⟨addW_sub, fun hq => ?_⟩
  rcases hq with hq | ⟨m, rfl⟩
  · exact addW_keep hq
  · have hp : p ∈ addW fs p p.length := by
      have := addW_all (p := p) (fs := fs) (Nat.le_refl _) h.1 (fun m _ hin j hj => by
        have := h.2 _ hin j
        rw [List.take_take, Nat.min_eq_left hj] at this
        exact this) p.length (Nat.le_refl _)
      rw [List.take_of_length_le (Nat.le_refl _)] at this
      exact this
    exact (h.addW p).2 _ hp m
theorem clo0 : Clo [[]] := ⟨List.mem_cons_self, fun p hp n => by rw [List.mem_singleton.mp hp, List.take_nil]; exact List.mem_cons_self⟩
theorem begs_all (ws : List Wd) : ∀ fs, Clo fs → fs.Nodup → Clo (ws.foldl (fun fs p => addW fs p p.length) fs) ∧ (ws.foldl (fun fs p => addW fs p p.length) fs).Nodup ∧ ∀ q, q ∈ ws.foldl (fun fs p => addW fs p p.length) fs ↔ q ∈ fs ∨ ∃ p ∈ ws, ∃ m, q = p.take m := by
  induction ws with
  | nil => exact fun fs h n => ⟨h, n, fun q => by simp⟩
  | cons p ws ih =>
    intro fs h n
    obtain ⟨h1, h2, h3⟩ := ih _ (h.addW p) (addW_nd n)
    refine ⟨h1, h2, fun q => ?_⟩
    rw [List.foldl_cons, h3, addW_mem h]
    constructor
    · rintro ((h | h) | ⟨w, hw, h⟩)
      · exact .inl h
      · exact .inr ⟨p, List.mem_cons_self, h⟩
      · exact .inr ⟨w, List.mem_cons_of_mem _ hw, h⟩
    · rintro (h | ⟨w, hw, h⟩)
      · exact .inl (.inl h)
      · rcases List.mem_cons.mp hw with rfl | hw
        · exact .inl (.inr h)
        · exact .inr ⟨w, hw, h⟩
theorem begs_clo (ws : List Wd) : Clo (begs ws) := (begs_all ws _ clo0 (by simp)).1
theorem begs_nd (ws : List Wd) : (begs ws).Nodup := (begs_all ws _ clo0 (by simp)).2.1
theorem begs_mem {ws : List Wd} {q : Wd} : q ∈ begs ws ↔ q = [] ∨ ∃ p ∈ ws, ∃ m, q = p.take m := by
  have := (begs_all ws _ clo0 (by simp)).2.2 q
  rw [List.mem_singleton] at this
  exact this
theorem begs_perm {ws us : List Wd} (h : ∀ p, p ∈ ws ↔ p ∈ us) : (begs ws).Perm (begs us) := by
  rw [List.perm_ext_iff_of_nodup (begs_nd ws) (begs_nd us)]
  intro q
  rw [begs_mem, begs_mem]
  constructor
  · rintro (e | ⟨p, hp, m, e⟩)
    · exact .inl e
    · exact .inr ⟨p, (h p).mp hp, m, e⟩
  · rintro (e | ⟨p, hp, m, e⟩)
    · exact .inl e
    · exact .inr ⟨p, (h p).mpr hp, m, e⟩
/-- the words' beginnings lie in ps -/
def InPs (ps ws : List Wd) : Prop := ps.length ≤ 30000 ∧ Clo ps ∧ ∀ w ∈ ws, w ∈ ps
abbrev begK (fs : List Wd) : List (Wd × V) := fs.map fun p => (p, V.bl true)
theorem begK_fst (fs : List Wd) : (begK fs).map (·.1) = fs := by
  rw [List.map_map]
  exact List.map_id _
def spBegs (K : PySem.W.Frag) : Sp := fun vs H Q _ => ∃ a ws ps, vs = [.ref a] ∧ SqL K H a (wsV ws) ∧ InPs ps ws ∧ (∀ w ∈ ws, w.length ≤ 200) ∧ ws.length ≤ 30000 ∧
  ∀ H' b, Same H H' → H' b = some (.lst (wsV (begs ws))) → Q (.ref b) H'
def ItE (H : Hp) (v : V) (it : Wd × Int) : Prop := ∃ b, v = .ref b ∧ H b = some (.lst [.str (sw it.1), .int it.2])
theorem ItE.same {H H' : Hp} {v : V} {it : Wd × Int} (s : Same H H') (h : ItE H v it) : ItE H' v it := let ⟨b, e, h⟩ := h; ⟨b, e, s _ _ h⟩
abbrev valK (its : List (Wd × Int)) : List (Wd × V) := its.map fun it => (it.1, V.int it.2)
theorem valK_fst (its : List (Wd × Int)) : (valK its).map (·.1) = its.map (·.1) := by
  rw [List.map_map]
  rfl
theorem same_of_new {H H1 : Hp} {d : Addr} {o : HO} (s : Same H H1) (n : H d = none) : Same H (upd H1 d o) := fun b u h => by
  rw [upd_ne (ne_of_none h n)]
  exact s _ _ h
section
variable {P : Program} {w : World} {K : PySem.W.Frag} {mg : Str → Option Value} {base : Heap}
theorem ok_beginnings (T : Tx P K mg) (B : Bx T base) : FnOk P w K mg base CX0 1 T.a_beginnings T.fd_beginnings ["words"] (spBegs K) := by
  refine okT T.F_beginnings sc_beginnings (fun vs H Q E h => ?_) (fun cdv A outer s H vs Q E hcd hr h => ?_)
  · obtain ⟨a, ws, ps, rfl, _⟩ := h
    rfl
  have hu := hu_of hr
  have hu65 := hu65_of hr
  obtain ⟨a, ws, ps, rfl, ha, ⟨hps, cps, hws⟩, h200, hwl, q⟩ := h
  refine ⟨_, (pss_cons (ps_set (i := 1) sc_beginnings.nd rfl (by first | exact Or.inl rfl | exact Or.inr rfl) (pe_disp (pps_cons pe_str pe_bl pps_nil) (by rfl) (by rfl) (fun z => by cases z) (by decide)))
 (pss_cons (ps_for PassesOwn.never rfl (pi_list (pv 0)) (pg_name (i := 2) sc_beginnings.nd rfl (by first | exact Or.inl rfl | exact Or.inr rfl))
 (pss_one (ps_for PassesOwn.never rfl (pi_range3 (by rfl) T.b_range (pa_cons (pe_callB call_len_str (by rfl) T.b_len (by decide +kernel) (pa_cons (pv 2) pa_nil)) (pa_cons pe_int (pa_cons (pe_un un_neg pe_int) pa_nil)))) (pg_name (i := 3) sc_beginnings.nd rfl (by first | exact Or.inl rfl | exact Or.inr rfl))
 (pss_cons (ps_if (pt_cmp (pc_din hu (pe_slice sl_str (pv 2) po_none (po_some (pv 3))) (pv 1)))
 (pss_one ps_break)
 pss_nil)
 (pss_one (ps_dput hu (pv 1) (pe_slice sl_str (pv 2) po_none (po_some (pv 3))) pe_bl rfl))))))
 (pss_one (ps_ret (pe_callTy (call_list_dK rfl) (by rfl) T.b_list (by decide +kernel) (pa_cons (pv 1) pa_nil)))))), ?_⟩
  intro d hd
  have s0 := same_upd (o := .dK []) hd
  refine ⟨upd_same, kdl (begK [[]]), rfl, by show 1 ≤ 15; decide, ?_⟩
  have hS : Same H (upd (upd H d (.dK [])) d (.dK (mergeK [] (kdl (begK [[]]))))) := same_of_new s0 hd
  have hD : (upd (upd H d (.dK [])) d (.dK (mergeK [] (kdl (begK [[]]))))) d = some (.dK (kdl (begK [[]]))) := upd_same
  generalize upd (upd H d (.dK [])) d (.dK (mergeK [] (kdl (begK [[]])))) = H1 at hS hD
  have sub : ∀ i, ∀ p ∈ (ws.take i).foldl (fun fs p => addW fs p p.length) [[]], p ∈ ps := fun i p hp => by
    rcases ((begs_all (ws.take i) _ clo0 (by simp)).2.2 p).mp hp with h | ⟨x, hx, m, rfl⟩
    · rw [List.mem_singleton.mp h]
      exact cps.1
    · exact cps.2 _ (hws _ (List.mem_of_mem_take hx)) m
  refine ⟨_, rfl, a, rfl, ⟨_, hS.seq ha⟩, ?_⟩
  refine for_it (walk_list (K := K) (a := a) (xs := wsV ws)) (fun i σ H2 => ∃ v2 v3, σ = [some (.ref a), some (.ref d), v2, v3] ∧ Same H H2 ∧ H2 d = some (.dK (kdl (begK ((ws.take i).foldl (fun fs p => addW fs p p.length) [[]])))))
    ⟨_, _, rfl, hS, hD⟩ (fun i σ H2 _ ⟨_, _, _, s, _⟩ => s.seq ha) (fun i x σ H2 H3 hi ⟨v2, v3, e, s, hd2⟩ y => ?_) (fun σ H2 ⟨v2, v3, e, s, hd2⟩ => ?_)
  · obtain ⟨rfl, hx⟩ := y
    subst e
    rw [List.getElem?_map] at hx
    obtain ⟨p, hp, rfl⟩ := Option.map_eq_some_iff.mp hx
    have hpm := List.mem_of_getElem? hp
    have hpl := h200 _ hpm
    generalize hcur : (ws.take i).foldl (fun fs p => addW fs p p.length) [[]] = cur at hd2
    have hsub := sub i
    have hnd := (begs_all (ws.take i) _ clo0 (by simp)).2.1
    rw [hcur] at hsub hnd
    have hnext : (ws.take (i + 1)).foldl (fun fs p => addW fs p p.length) [[]] = addW cur p p.length := by
      rw [List.take_add_one, hp]
      show (ws.take i ++ [p]).foldl _ _ = _
      rw [List.foldl_append, hcur]
      rfl
    have hz : (sw p).length ≤ sizeLine := by rw [sw_len, sizeLine_eq]; omega
    refine ⟨_, rfl, _, rfl, hz, ?_⟩
    rw [sw_len]
    refine ⟨_, rfl, (p.length : Int), 0, -1, _, rfl, RgC.neg (by omega) (by omega) (by decide) (by decide), ?_⟩
    rw [show ((p.length : Int) - 0).toNat = p.length by omega]
    refine for_it walk_rangeC (fun k σ H4 => ∃ v3 now, σ = [some (.ref a), some (.ref d), some (.str (sw p)), v3] ∧ Same H H4 ∧ H4 d = some (.dK (kdl (begK now))) ∧ addW now p (p.length - k) = addW cur p p.length ∧ now.Nodup ∧ ∀ q ∈ now, q ∈ ps)
      ⟨_, cur, rfl, s, hd2, rfl, hnd, hsub⟩ (fun _ _ _ _ _ => trivial) (fun k x σ H4 H5 hk ⟨v3, now, e, s4, hd4, en, nd4, sub4⟩ y => ?_) (fun σ H4 ⟨v3, now, e, s4, hd4, en, nd4, sub4⟩ => ?_)
    · obtain ⟨rfl, rfl⟩ := y
      subst e
      obtain ⟨n, hn⟩ : ∃ n, p.length - k = n + 1 := ⟨p.length - k - 1, by omega⟩
      have hcut : cutS (sw p) none (some ((p.length : Int) + (k : Nat) * -1)) = sw (p.take (n + 1)) := by
        rw [show (p.length : Int) + (k : Nat) * -1 = ((n + 1 : Nat) : Int) by omega]
        exact cut_to p (n + 1)
      have hlen : now.length ≤ 30000 := Nat.le_trans (nd_len nd4 sub4) hps
      have hin : (valV (kdl (begK now)) (.inr (sw (p.take (n + 1))))).isSome = decide (p.take (n + 1) ∈ now) := by
        rw [kdl_is (by rw [begK_fst]; exact nd4), begK_fst]
      refine ⟨_, rfl, _, rfl, _, rfl, _, rfl, hz, _, rfl, d, valV (kdl (begK now)) (.inr (sw (p.take (n + 1)))), rfl, by rw [hcut]; exact dget_kdl hd4 _, _, rfl, ?_⟩
      · rw [hin]
        rw [hn, addW_succ] at en
        refine ite2 (fun hm => ?_) (fun hm => ?_)
        · rw [if_pos (of_decide_eq_true hm)] at en
          exact ⟨_, _, rfl, s4, by rw [hnext, ← en]; exact hd4⟩
        · have hm' := fun z => hm (decide_eq_true z)
          rw [if_neg hm'] at en
          refine ⟨_, rfl, _, rfl, _, rfl, _, rfl, _, rfl, hz, ?_⟩
          rw [hcut]
          refine ⟨d, _, rfl, dput_kdl hd4 _ _ (by rw [List.length_map]; omega), ?_⟩
          refine ⟨_, now ++ [p.take (n + 1)], rfl, same_of_new s4 hd, ?_, ?_, ?_, ?_⟩
          · rw [upd_same, kdl_new _ (by rw [begK_fst]; exact hm')]
            unfold begK
            rw [List.map_append]
            rfl
          · rw [show p.length - (k + 1) = n by omega]
            exact en
          · refine List.nodup_append.mpr ⟨nd4, by simp, fun x hx y hy => ?_⟩
            rw [List.mem_singleton.mp hy]
            exact fun z => hm' (by rw [← z]; exact hx)
          · intro x hx
            rcases List.mem_append.mp hx with hx | hx
            · exact sub4 x hx
            · rw [List.mem_singleton.mp hx]
              exact cps.2 _ (hws _ hpm) _
    · subst e
      rw [Nat.sub_self] at en
      exact ⟨_, _, rfl, s4, by rw [hnext, ← en]; exact hd4⟩
  · subst e
    rw [List.length_map, List.take_of_length_le (Nat.le_refl _)] at hd2
    refine ⟨_, rfl, d, _, rfl, hd2, fun b hb => ?_⟩
    refine q _ b (same_of_new s ?_) ?_
    · cases e : H b with
      | none => rfl
      | some o => rw [s _ _ e] at hb; cases hb
    · rw [upd_same]
      show some (HO.lst ((kdl (begK (begs ws))).map fun kv => kV kv.1)) = _
      unfold kdl begK
      rw [List.map_map, List.map_map]
      rfl
end
end Toy
set_option Elab.async false
set_option linter.all false
set_option maxRecDepth 100000
set_option maxHeartbeats 4000000
namespace Toy
open PySem L2 Sh ShL LamX NdefX
/-! ### items -/
abbrev It2 := Wd × Int
/-- two values told as an item: whether they are one -/
def It2V (H : Hp) (z : Wd) (xs : List V) (o : Option It2) : Prop := ∃ x y b1 b2, xs = [x, y] ∧ WdV H z x b1 ∧ VlV H y b2 ∧ match o with
  | some it => x = .str (sw it.1) ∧ y = .int it.2 ∧ b1 = true ∧ b2 = true
  | none => (b1 && b2) = false
def ItV (H : Hp) (z : Wd) (v : V) (o : Option It2) : Prop := (o = none ∧ ∃ t, TyN H v t ∧ t ≠ "list" ∧ t ≠ "tuple") ∨ ∃ p xs, v = .ref p ∧ SqA H p xs ∧ ((o = none ∧ xs.length ≠ 2) ∨ It2V H z xs o)
theorem It2V.kp {H H' : Hp} {z : Wd} {xs : List V} {o : Option It2} (k : KpS H H') (h : It2V H z xs o) : It2V H' z xs o := by
  obtain ⟨x, y, b1, b2, e, h1, h2, h3⟩ := h
  exact ⟨x, y, b1, b2, e, h1.kp k, h2.kp k, h3⟩
theorem ItV.kp {H H' : Hp} {z : Wd} {v : V} {o : Option It2} (k : KpS H H') (h : ItV H z v o) : ItV H' z v o := by
  rcases h with ⟨e, t, h, n⟩ | ⟨p, xs, e, h, h2⟩
  · exact .inl ⟨e, t, h.kp k.t, n⟩
  · exact .inr ⟨p, xs, e, h.kp k, h2.imp id fun h => h.kp k⟩
theorem it_ok {H : Hp} {z : Wd} {it : It2} (h1 : it.1.length ≤ 200) (h2 : ∀ c ∈ it.1, c ∈ z) (h3 : 1 ≤ it.2 ∧ it.2 ≤ 9) : It2V H z [.str (sw it.1), .int it.2] (some it) :=
  ⟨_, _, true, true, rfl, .inl ⟨it.1, rfl, Nat.le_trans h1 (by decide), (decide_eq_true ⟨h1, h2⟩).symm⟩, .inl ⟨it.2, rfl, (decide_eq_true h3).symm⟩, rfl, rfl, rfl, rfl⟩
theorem it_is {H : Hp} {z : Wd} {xs : List V} {it : It2} (h : It2V H z xs (some it)) : it.1.length ≤ 200 ∧ (∀ c ∈ it.1, c ∈ z) ∧ 1 ≤ it.2 ∧ it.2 ≤ 9 := by
  obtain ⟨x, y, b1, b2, e, h1, h2, rfl, rfl, rfl, rfl⟩ := h
  rcases h1 with ⟨p, e1, _, e2⟩ | ⟨e1, _⟩
  rotate_left
  · cases e1
  rcases h2 with ⟨i, e3, e4⟩ | ⟨e3, _⟩
  rotate_left
  · cases e3
  have := sw_inj (V.str.inj e1)
  subst this
  have := V.int.inj e3
  subst this
  obtain ⟨a, b⟩ := of_decide_eq_true e2.symm
  exact ⟨a, b, of_decide_eq_true e4.symm⟩
/-- the items up to here are right, and no word comes twice -/
def FineI (os : List (Option It2)) (its : List It2) : Prop := os = its.map some ∧ (its.map (·.1)).Nodup
def WrongI (os : List (Option It2)) (i : Nat) : Prop := ∃ o its, os[i]? = some o ∧ FineI (os.take i) its ∧ (o = none ∨ ∃ it, o = some it ∧ it.1 ∈ its.map (·.1))
def spValues (C : Addr) : Sp := fun vs H Q E => ∃ (z : Wd) (a : Addr) (xs : List V) (os : List (Option It2)), vs = [.str (sw z), .ref a] ∧ H a = some (.lst xs) ∧ Paired (ItV H z) xs os ∧ os.length ≤ 20000 ∧
  (∀ its, FineI os its → ∀ H' d, Same H H' → H' d = some (.dK (kdl (valK its))) → Q (.ref d) H') ∧
  (∀ i, WrongI os i → ∀ H' d, Same H H' → H d = none → H' d = some (exd d [("number", .int (i : Nat))]) → E (.ref C) (some d) H')
theorem kdl_app {l : List (Wd × V)} {p : Wd} {v : V} : kdl (l ++ [(p, v)]) = kdl l ++ [(.inr (sw p), v)] := by
  unfold kdl
  rw [List.map_append]
  rfl
theorem nd_take {α : Type} {xs : List α} {i : Nat} {x : α} (nd : xs.Nodup) (h : xs[i]? = some x) : x ∉ xs.take i := by
  intro hm
  obtain ⟨j, hj⟩ := List.getElem?_of_mem hm
  rw [List.getElem?_take] at hj
  by_cases hlt : j < i
  · rw [if_pos hlt] at hj
    exact absurd (nd_ix nd hj h) (by omega)
  · rw [if_neg hlt] at hj
    cases hj
theorem isi2_lt {K : PySem.W.Frag} {H : Hp} {σ : L2.St} {j : Nat} {a : Addr} {xs : List V} {Q : VK} (hσ : σ[j]? = some (some (.ref a))) (ha : H a = some (.lst xs) ∨ H a = some (.tup xs)) (q : ∀ H', Same H H' → Q (.bl true) H') :
    tCB (rIsiT K) (tCons (tVar j) (tCons (tTup (tCons (tC (V.ty "list")) (tCons (tC (V.ty "tuple")) tNil))) tNil)) σ H Q := by
  refine ⟨_, hσ, by decide, fun tp htp => ?_⟩
  have s1 := same_upd (o := .tup [V.ty "list", V.ty "tuple"]) htp
  obtain ⟨t, ht, ty⟩ := lt_ty (K := K) (ha.imp (s1 _ _) (s1 _ _))
  exact ⟨_, tp, _, _, [.type "list", .type "tuple"], true, rfl, upd_same, .cons (.ty _) (.cons (.ty _) .nil), ty, kit_lt ht, q _ s1⟩
theorem isi2_no {K : PySem.W.Frag} {H : Hp} {σ : L2.St} {j : Nat} {v : V} {t : String} {Q : VK} (hσ : σ[j]? = some (some v)) (ht : TyN H v t) (n1 : t ≠ "list") (n2 : t ≠ "tuple") (q : ∀ H', Same H H' → Q (.bl false) H') :
    tCB (rIsiT K) (tCons (tVar j) (tCons (tTup (tCons (tC (V.ty "list")) (tCons (tC (V.ty "tuple")) tNil))) tNil)) σ H Q := by
  refine ⟨_, hσ, by decide, fun tp htp => ?_⟩
  have s1 := same_upd (o := .tup [V.ty "list", V.ty "tuple"]) htp
  have ht1 := ht.kp (kpS_same s1).t
  refine ⟨_, tp, _, _, [.type "list", .type "tuple"], _, rfl, upd_same, .cons (.ty _) (.cons (.ty _) .nil), ht1.ty, kit_lot ht1.mem, ?_⟩
  rw [decide_eq_false (fun k => k.elim n1 n2)]
  exact q _ s1
section
variable {P : Program} {w : World} {K : PySem.W.Frag} {mg : Str → Option Value} {base : Heap}
theorem ok_values_of (T : Tx P K mg) (B : Bx T base) : FnOk P w K mg base (L2.CX P w) 3 T.a_values_of T.fd_values_of ["letters", "items"] (spValues T.c_BadItem) := by
  refine T.F_values_of.okX sc_values_of (fun vs H Q E h => ?_) (fun cdv A outer s H vs Q E hr h => ?_)
  · obtain ⟨z, a, xs, os, rfl, _⟩ := h
    rfl
  have hu := hu_of hr
  have hu65 := hu65_of hr
  obtain ⟨z, a, xs, os, rfl, ha, pr, hl, q1, q2⟩ := h
  have hxl : xs.length = os.length := pr.length
  refine ⟨_, (pss_cons (ps_set (i := 2) sc_values_of.nd rfl (by first | exact Or.inl rfl | exact Or.inr rfl) pe_dnewK)
 (pss_cons (ps_for (passes_of rfl) rfl (pi_enum (by rfl) T.b_enumerate (pa_cons (pv 1) pa_nil)) (pg_tup rfl (pgs_cons (pg_name (i := 3) sc_values_of.nd rfl (by first | exact Or.inl rfl | exact Or.inr rfl)) (pgs_cons (pg_name (i := 4) sc_values_of.nd rfl (by first | exact Or.inl rfl | exact Or.inr rfl)) pgs_nil)))
 (pss_cons (ps_if (PW.pt (pw_or (pt_not (pt_val (pe_callB call_isiT (by rfl) T.b_isinstance (by decide +kernel) (pa_cons (pv 4) (pa_cons (pe_tup (pa_cons (pe_bltn (v := .ty "list") (by rfl) T.b_list (by decide +kernel) rfl) (pa_cons (pe_bltn (v := .ty "tuple") (by rfl) T.b_tuple (by decide +kernel) rfl) pa_nil))) pa_nil))))) (pw_or1 (pt_cmpR op_ne (pe_callB call_len_seq (by rfl) T.b_len (by decide +kernel) (pa_cons (pv 4) pa_nil)) pe_int (nomark _)))))
 (pss_one (ps_raiseX rfl rfl (takes_of rfl rfl rfl rfl) (pe_oexN T.i_BadItem.m (ok_x_BadItem T) (hr.mono (by decide)) (by rfl) T.m_BadItem T.kb_BadItem_1 pass0 (pa_cons (pv 3) pa_nil) pk_nil)))
 pss_nil)
 (pss_cons (ps_asg (pv 4) (pg_unE rfl (pgs_cons (pg_name (i := 5) sc_values_of.nd rfl (by first | exact Or.inl rfl | exact Or.inr rfl)) (pgs_cons (pg_name (i := 6) sc_values_of.nd rfl (by first | exact Or.inl rfl | exact Or.inr rfl)) pgs_nil))))
 (pss_cons (ps_if (PW.pt (pw_or (pt_not (pt_val (pe_call (ok_is_word (w := w) T B) (hr.mono (by decide)) (by rfl) T.m_is_word T.F_is_word.kp T.bi_is_word .nil pass0 (pa_cons (pv 0) (pa_cons (pv 5) pa_nil))))) (pw_or (pt_not (pt_val (pe_call (ok_is_value (w := w) T B) (hr.mono (by decide)) (by rfl) T.m_is_value T.F_is_value.kp T.bi_is_value .nil pass0 (pa_cons (pv 6) pa_nil)))) (pw_or1 (pt_cmp (pc_din hu (pv 5) (pv 2)))))))
 (pss_one (ps_raiseX rfl rfl (takes_of rfl rfl rfl rfl) (pe_oexN T.i_BadItem.m (ok_x_BadItem T) (hr.mono (by decide)) (by rfl) T.m_BadItem T.kb_BadItem_1 pass0 (pa_cons (pv 3) pa_nil) pk_nil)))
 pss_nil)
 (pss_one (ps_dput hu (pv 2) (pv 5) (pv 6) rfl))))))
 (pss_one (ps_ret (pv 2))))), ?_⟩
  intro d hd
  have s0 := same_upd (o := .dK []) hd
  refine ⟨_, rfl, a, xs, rfl, SqL.of (s0 _ _ ha), ?_⟩
  refine for_enum (K := K) (a := a) (xs := xs) (fun i σ H2 => ∃ v3 v4 v5 v6 its, σ = [some (.str (sw z)), some (.ref a), some (.ref d), v3, v4, v5, v6] ∧ Same H H2 ∧ H2 d = some (.dK (kdl (valK its))) ∧ FineI (os.take i) its)
    ⟨_, _, _, _, [], rfl, s0, upd_same, by rw [List.take_zero]; exact ⟨rfl, by simp⟩⟩ (fun i σ H2 _ ⟨_, _, _, _, _, _, s, _⟩ => SqL.of (s _ _ ha)) (fun i x σ H2 U hx hU ⟨v3, v4, v5, v6, its, e, sv, hd2, fi⟩ => ?_) (fun σ H2 ⟨v3, v4, v5, v6, its, e, sv, hd2, fi⟩ => ?_)
  · subst e
    obtain ⟨ov, hov, iv⟩ := paired_ix pr hx
    have s1 := same_upd (o := .tup [.int (i : Nat), x]) hU
    refine ⟨U, _, rfl, SqT.of upd_same, rfl, _, _, rfl, _, _, rfl, rfl, ?_⟩
    have hS := sv.trans s1
    have hD := s1 _ _ hd2
    generalize upd H2 U (.tup [.int (i : Nat), x]) = H3 at hS hD
    have hil := (List.getElem?_eq_some_iff.mp hov).1
    have hlen : its.length = i := by
      have e1 := congrArg List.length fi.1
      rw [List.length_take, List.length_map] at e1
      omega
    have raise : WrongI os i → ∀ H5, Same H H5 → ∀ (D : Ends) (v5 v6 : Option V), tRaiseX (cxOf (L2.CX P w) P w K mg base N_values_of "values_of" (defScope s_values_of) T.a_values_of cdv A outer s H E) (fun cls d _ H => E cls d H) (tOex T.c_BadItem 1 0 (spXI T.c_BadItem ["number"]) rotV (tCons (tVar 3) tNil) tNil) D [some (.str (sw z)), some (.ref a), some (.ref d), some (.int (i : Nat)), some x, v5, v6] H5 := fun hw H5 s5 D v5 v6 =>
      mk_raise (vs := [.int (i : Nat)]) (zs := []) (fun b hb => fr0_none (s5.free hb)) T.x_BadItem.raises (fun R h => ⟨_, rfl, h⟩) (fun R h => h) rfl rfl rfl fun H' d s' n e => q2 i hw H' d (s5.trans s') (s5.free n) e
    have D0 : Ends := { nx := fun _ _ => True, rt := fun _ _ => True }
    have no : ov = none → WrongI os i := fun e => ⟨ov, its, hov, fi, .inl e⟩
    rcases iv.kp (kpS_same hS) with ⟨e, t, ht, n1, n2⟩ | ⟨p, ys, rfl, hp, h3⟩
    · refine isi2_no rfl ht n1 n2 fun H4 s4 => ⟨_, rfl, iteT (raise (no e) H4 (hS.trans s4) D0 _ _)⟩
    refine isi2_lt rfl hp fun H4 s4 => ⟨_, rfl, iteF ?_⟩
    have hp4 := hp.kp (kpS_same s4)
    have hS4 := hS.trans s4
    refine ⟨_, rfl, p, _, rfl, RwE.sqA hp4, rfl, _, rfl, ?_⟩
    rcases h3 with ⟨e, hl2⟩ | h3
    · rw [decide_eq_false (show ¬ V.int (ys.length : Int) = V.int 2 from fun e => hl2 (by have := V.int.inj e; omega))]
      exact iteT (raise (no e) H4 hS4 D0 _ _)
    obtain ⟨x1, y1, b1, b2, rfl, h1, h2, h4⟩ := h3.kp (kpS_same s4)
    refine iteF ?_
    refine ⟨_, rfl, p, _, rfl, RwE.sqA hp4, rfl, _, _, rfl, _, _, rfl, rfl, ?_⟩
    refine ⟨_, rfl, _, rfl, z, x1, b1, rfl, h1, fun H5 s5 => ⟨_, rfl, ?_⟩⟩
    have hS5 := hS4.trans s5
    have no2 : (b1 && b2) = false → ov = none := fun e => by
      cases ov with
      | none => rfl
      | some it =>
        obtain ⟨_, _, rfl, rfl⟩ := h4
        cases e
    cases b1 with
    | false => exact iteT (raise (no (no2 rfl)) H5 hS5 D0 _ _)
    | true =>
    refine iteF ?_
    refine ⟨_, rfl, y1, b2, rfl, h2.kp (kpS_same s5), _, rfl, ?_⟩
    cases b2 with
    | false => exact iteT (raise (no (no2 rfl)) H5 hS5 D0 _ _)
    | true =>
    refine iteF ?_
    cases ov with
    | none => cases h4
    | some it =>
    obtain ⟨rfl, rfl, _, _⟩ := h4
    have hD5 := s5 _ _ (s4 _ _ hD)
    refine ⟨_, rfl, _, rfl, d, valV (kdl (valK its)) (.inr (sw it.1)), rfl, dget_kdl hD5 it.1, _, rfl, ?_⟩
    by_cases hm : it.1 ∈ its.map (·.1)
    · have e : (valV (kdl (valK its)) (.inr (sw it.1))).isSome = true := by
        rw [kdl_is (by rw [valK_fst]; exact fi.2), valK_fst]
        exact decide_eq_true hm
      rw [e]
      exact iteT (raise ⟨_, its, hov, fi, .inr ⟨it, rfl, hm⟩⟩ H5 hS5 D0 _ _)
    have hnew : it.1 ∉ (valK its).map (·.1) := by rw [valK_fst]; exact hm
    rw [kdl_none hnew]
    refine iteF ?_
    refine ⟨_, rfl, _, rfl, _, rfl, d, _, rfl, dput_kdl hD5 it.1 _ (by rw [List.length_map]; omega), ?_⟩
    refine ⟨_, _, _, _, its ++ [it], rfl, same_of_new hS5 hd, ?_, ?_, ?_⟩
    · rw [upd_same, kdl_new _ hnew]
      unfold valK
      rw [List.map_append]
      rfl
    · rw [List.take_add_one, hov, fi.1, List.map_append]
      rfl
    · rw [List.map_append]
      refine List.nodup_append.mpr ⟨fi.2, by simp, fun x hx y hy => ?_⟩
      rw [List.mem_singleton.mp hy]
      exact fun e => hm (by rw [show it.1 = x from e.symm]; exact hx)
  · subst e
    rw [hxl, List.take_of_length_le (Nat.le_refl _)] at fi
    exact ⟨_, rfl, q1 its fi _ d sv hd2⟩
end
end Toy
set_option Elab.async false
set_option linter.all false
set_option maxRecDepth 100000
set_option maxHeartbeats 4000000
namespace Toy
open PySem L2 Sh ShL LamX NdefX
/-! ### children -/
def kids (z : Wd) (os : List Wd) (p : Wd) : Wd := z.filter fun c => decide (p ++ [c] ∈ os)
def kidF (p q : Wd) : Option Nat := if q ≠ [] ∧ q.dropLast = p then q.getLast? else none
def kidS (qs : List Wd) (p : Wd) : Wd := qs.filterMap (kidF p)
theorem kidF_some {p q : Wd} {c : Nat} : kidF p q = some c ↔ q = p ++ [c] := by
  unfold kidF
  constructor
  · intro h
    by_cases e : q ≠ [] ∧ q.dropLast = p
    · rw [if_pos e] at h
      have e1 := List.dropLast_concat_getLast e.1
      have e2 : q.getLast? = some (q.getLast e.1) := List.getLast?_eq_some_getLast e.1
      rw [e2] at h
      have e3 := Option.some.inj h
      rw [e3, e.2] at e1
      exact e1.symm
    · rw [if_neg e] at h
      cases h
  · rintro rfl
    rw [if_pos ⟨by simp, by simp⟩]
    simp
theorem le_app {a b : Int} : ∀ {l : List Int}, l ++ [a] ≤ l ++ [b] → a ≤ b
  | [], h => by
    rcases List.cons_le_cons_iff.mp h with h | h
    · exact Int.le_of_lt h
    · exact Int.le_of_eq h.1
  | x :: l, h => by
    rcases List.cons_le_cons_iff.mp (h : x :: (l ++ [a]) ≤ x :: (l ++ [b])) with h | h
    · exact absurd h (Int.lt_irrefl _)
    · exact le_app h.2
theorem kidS_eq {z : Wd} {os : List Wd} (hz : z.Nodup) (hw : ∀ q ∈ os, ∀ c ∈ q, c ∈ z) (nd : os.Nodup) (srt : os.Pairwise fun p q => kW z p ≤ kW z q) (p : Wd) : kidS os p = kids z os p := by
  have hm : ∀ c, c ∈ kidS os p ↔ p ++ [c] ∈ os := fun c => by
    unfold kidS
    rw [List.mem_filterMap]
    constructor
    · rintro ⟨q, hq, e⟩
      rw [← kidF_some.mp e]
      exact hq
    · exact fun h => ⟨_, h, kidF_some.mpr rfl⟩
  have hk : ∀ c, c ∈ kids z os p ↔ p ++ [c] ∈ os := fun c => by
    unfold kids
    rw [List.mem_filter]
    constructor
    · exact fun h => of_decide_eq_true h.2
    · exact fun h => ⟨hw _ h c (by simp), decide_eq_true h⟩
  refine List.Perm.eq_of_pairwise (le := fun c d => z.idxOf c ≤ z.idxOf d) (fun c d hc hd h1 h2 => ?_) ?_ ?_ ?_
  · have h3 := hw _ ((hm c).mp hc) c (by simp)
    have h4 := hw _ ((hk d).mp hd) d (by simp)
    have e1 := List.getElem_idxOf (List.idxOf_lt_length_of_mem h3)
    have e2 := List.getElem_idxOf (List.idxOf_lt_length_of_mem h4)
    have e : z.idxOf c = z.idxOf d := Nat.le_antisymm h1 h2
    rw [← e1, ← e2]
    simp only [e]
  · unfold kidS
    rw [List.pairwise_filterMap]
    refine srt.imp fun {a b} h c hc d hd => ?_
    rw [kidF_some.mp hc, kidF_some.mp hd] at h
    unfold kW at h
    rw [List.map_append, List.map_append] at h
    exact Int.ofNat_le.mp (le_app h)
  · unfold kids
    refine List.Pairwise.filter _ ?_
    rw [List.pairwise_iff_getElem]
    intro i j hi hj hij
    rw [List.Nodup.idxOf_getElem hz, List.Nodup.idxOf_getElem hz]
    exact Nat.le_of_lt hij
  · refine (List.perm_ext_iff_of_nodup ?_ (show (kids z os p).Nodup from List.Pairwise.filter _ hz)).mpr fun c => (hm c).trans (hk c).symm
    · unfold kidS
      unfold List.Nodup
      rw [List.pairwise_filterMap]
      refine List.Pairwise.imp (fun {a b} h c hc d hd e => h ?_) nd
      rw [kidF_some.mp hc, kidF_some.mp hd, e]
theorem kidS_step (qs : List Wd) (q p : Wd) : kidS (qs ++ [q]) p = if q ≠ [] ∧ q.dropLast = p then kidS qs p ++ (q.getLast?).toList else kidS qs p := by
  unfold kidS
  rw [List.filterMap_append]
  by_cases h : q ≠ [] ∧ q.dropLast = p
  · rw [if_pos h]
    have e : kidF p q = q.getLast? := by unfold kidF; rw [if_pos h]
    cases e2 : q.getLast? with
    | none => rw [e2] at e; simp [e]
    | some c => rw [e2] at e; simp [e]
  · rw [if_neg h]
    have e : kidF p q = none := by unfold kidF; rw [if_neg h]
    simp [e]
theorem kidS_len (qs : List Wd) (p : Wd) : (kidS qs p).length ≤ qs.length := List.length_filterMap_le _ _
/-! ### the tree -/
def treeFs (z : Wd) (t d e : Addr) (n m : Int) : List (Str × V) :=
  putF "ways" (.ref e) (putF "triples" (.ref d) (putF "height" (.int m) (putF "size" (.int n) (putF "rows" (.ref t) (putF "letters" (.str (sw z)) [])))))
section
variable {z : Wd} {t d e : Addr} {n m : Int}
theorem tf_letters : List.lookup ("letters" : Str) (treeFs z t d e n m) = some (V.str (sw z)) := by
  unfold treeFs
  rw [lookup_putF, if_neg (by decide +kernel), lookup_putF, if_neg (by decide +kernel), lookup_putF, if_neg (by decide +kernel), lookup_putF, if_neg (by decide +kernel), lookup_putF, if_neg (by decide +kernel), lookup_putF, if_pos rfl]
theorem tf_rows : List.lookup ("rows" : Str) (treeFs z t d e n m) = some (V.ref t) := by
  unfold treeFs
  rw [lookup_putF, if_neg (by decide +kernel), lookup_putF, if_neg (by decide +kernel), lookup_putF, if_neg (by decide +kernel), lookup_putF, if_neg (by decide +kernel), lookup_putF, if_pos rfl]
theorem tf_size : List.lookup ("size" : Str) (treeFs z t d e n m) = some (V.int n) := by
  unfold treeFs
  rw [lookup_putF, if_neg (by decide +kernel), lookup_putF, if_neg (by decide +kernel), lookup_putF, if_neg (by decide +kernel), lookup_putF, if_pos rfl]
theorem tf_height : List.lookup ("height" : Str) (treeFs z t d e n m) = some (V.int m) := by
  unfold treeFs
  rw [lookup_putF, if_neg (by decide +kernel), lookup_putF, if_neg (by decide +kernel), lookup_putF, if_pos rfl]
theorem tf_triples : List.lookup ("triples" : Str) (treeFs z t d e n m) = some (V.ref d) := by
  unfold treeFs
  rw [lookup_putF, if_neg (by decide +kernel), lookup_putF, if_pos rfl]
theorem tf_ways : List.lookup ("ways" : Str) (treeFs z t d e n m) = some (V.ref e) := by
  unfold treeFs
  rw [lookup_putF, if_pos rfl]
theorem tf_no {x : Str} (h : ¬ x = ("letters" : Str) ∧ ¬ x = ("rows" : Str) ∧ ¬ x = ("size" : Str) ∧ ¬ x = ("height" : Str) ∧ ¬ x = ("triples" : Str) ∧ ¬ x = ("ways" : Str)) : List.lookup x (treeFs z t d e n m) = none := by
  obtain ⟨h1, h2, h3, h4, h5, h6⟩ := h
  unfold treeFs
  rw [lookup_putF, if_neg h6, lookup_putF, if_neg h5, lookup_putF, if_neg h4, lookup_putF, if_neg h3, lookup_putF, if_neg h2, lookup_putF, if_neg h1]
  rfl
end
/-- the dict of triples: us in any order -/
def TriAt (H : Hp) (d : Addr) (us : List Rw) : Prop := ∃ l, H d = some (.dK (kdl l)) ∧ Paired (fun (q : Wd × V) r => q.1 = r.1 ∧ RwT H q.2 r) l us
abbrev wayl (z : Wd) (os : List Wd) : List (Wd × V) := os.map fun p => (p, V.str (sw (kids z os p)))
theorem wayl_fst (z : Wd) (os : List Wd) : (wayl z os).map (·.1) = os := by
  rw [List.map_map]
  exact List.map_id _
structure TreeAt (C : Addr) (H : Hp) (o : Addr) (z : Wd) (rs : List Rw) : Prop where
  root : [] ∈ rs.map (·.1)
  low : ∀ r ∈ rs, ∀ c ∈ r.1, c < 200
  ex : ∃ (dx t d e : Addr) (m : Int) (vs : List V) (us : List Rw), H o = some (.ins C dx (treeFs z t d e (rs.length : Int) m)) ∧ H t = some (.tup vs) ∧ Paired (RwT H) vs rs ∧ TriAt H d us ∧ us.Perm rs ∧
    H e = some (.dK (kdl (wayl z (rs.map (·.1))))) ∧ m ∈ rs.map (fun r => (r.1.length : Int)) ∧ ∀ y ∈ rs.map (fun r => (r.1.length : Int)), y ≤ m
theorem tri_fst {H : Hp} : ∀ {l : List (Wd × V)} {us : List Rw}, Paired (fun (q : Wd × V) r => q.1 = r.1 ∧ RwT H q.2 r) l us → l.map (·.1) = us.map (·.1)
  | _, _, .nil => rfl
  | _, _, .cons h t => by rw [List.map_cons, List.map_cons, h.1, tri_fst t]
theorem tri_mono {H H' : Hp} {d : Addr} {us : List Rw} (hr : [] ∈ us.map (·.1)) (hd : ∀ l, [] ∈ l.map (·.1) → H d = some (.dK (kdl l)) → H' d = some (.dK (kdl l))) (f : ∀ v r, RwT H v r → RwT H' v r) (h : TriAt H d us) : TriAt H' d us :=
  let ⟨l, h1, h2⟩ := h; ⟨l, hd _ (by rw [tri_fst h2]; exact hr) h1, paired_mono (fun a b q => ⟨q.1, f _ _ q.2⟩) h2⟩
/-- a tree stands where instances, tuples and dicts with a root stand -/
theorem TreeAt.mono {C : Addr} {H H' : Hp} {o : Addr} {z : Wd} {rs : List Rw} (h : TreeAt C H o z rs) (k1 : ∀ b C dx fs, H b = some (.ins C dx fs) → H' b = some (.ins C dx fs)) (k2 : ∀ b xs, H b = some (.tup xs) → H' b = some (.tup xs))
    (k3 : ∀ b l, [] ∈ l.map (·.1) → H b = some (.dK (kdl l)) → H' b = some (.dK (kdl l))) : TreeAt C H' o z rs := by
  obtain ⟨dx, t, d, e, m, vs, us, h1, h2, h3, h4, h5, h6, h7⟩ := h.ex
  have f : ∀ v r, RwT H v r → RwT H' v r := fun v r ⟨a, e, q⟩ => ⟨a, e, k2 _ _ q⟩
  exact ⟨h.root, h.low, dx, t, d, e, m, vs, us, k1 _ _ _ _ h1, k2 _ _ h2, paired_mono f h3, tri_mono ((h5.map _).mem_iff.mpr h.root) (k3 d) f h4, h5, k3 _ _ (by rw [wayl_fst]; exact h.root) h6, h7⟩
theorem TreeAt.sm {T : List (Addr × Str)} {C : Addr} {H H' : Hp} {o : Addr} {z : Wd} {rs : List Rw} (h : TreeAt C H o z rs) (s : Sm T H H') : TreeAt C H' o z rs :=
  h.mono (fun _ _ _ _ q => s.get q) (fun _ _ q => s.get q) fun _ _ _ q => s.get q
theorem TreeAt.same {C : Addr} {H H' : Hp} {o : Addr} {z : Wd} {rs : List Rw} (h : TreeAt C H o z rs) (s : Same H H') : TreeAt C H' o z rs :=
  h.mono (fun _ _ _ _ q => s _ _ q) (fun _ _ q => s _ _ q) fun _ _ _ q => s _ _ q
/-- the pen's dict is none whose keys are places -/
theorem pen_kdl {c : Addr} {b l : Int} {k : List (Wd × V)} (hk : [] ∈ k.map (·.1)) : penL c b l ≠ kdl k := by
  intro h
  have h1 : (Sum.inr (sw []) : Key) ∈ (kdl k).map (·.1) := by
    obtain ⟨q, hq, e⟩ := List.mem_map.mp hk
    rw [← e]
    exact List.mem_map.mpr ⟨(.inr (sw q.1), q.2), List.mem_map.mpr ⟨q, hq, rfl⟩, rfl⟩
  rw [← h] at h1
  have h2 : (Sum.inr (sw []) : Key) ∈ [(Sum.inr ("cells" : Str) : Key), .inr "opened", .inr "left"] := h1
  have h3 : ¬ (sw [] = ("cells" : Str)) ∧ ¬ (sw [] = ("opened" : Str)) ∧ ¬ (sw [] = ("left" : Str)) := by decide +kernel
  rcases List.mem_cons.mp h2 with e | h2
  · exact h3.1 (Sum.inr.inj e)
  rcases List.mem_cons.mp h2 with e | h2
  · exact h3.2.1 (Sum.inr.inj e)
  exact h3.2.2 (Sum.inr.inj (List.mem_singleton.mp h2))
theorem TreeAt.kp {C : Addr} {H H' : Hp} {o d c : Addr} {n : Nat} {z : Wd} {rs : List Rw} (h : TreeAt C H o z rs) (hp : Pen H d c n) (s : Kp d H H') : TreeAt C H' o z rs := by
  obtain ⟨ns, b, l, hd, _⟩ := hp
  refine h.mono (fun _ _ _ _ q => s _ _ q (ne_of q hd (by intro z; cases z))) (fun _ _ q => s _ _ q (ne_of q hd (by intro z; cases z))) fun _ k hk q => s _ _ q (ne_of q hd fun z => pen_kdl hk (HO.dK.inj z).symm)
end Toy
set_option Elab.async false
set_option linter.all false
set_option maxRecDepth 100000
set_option maxHeartbeats 4000000
namespace Toy
open PySem L2 Sh ShL LamX NdefX
/-! ### heaps: all stands but tables and one object -/
def SmK (T : List (Addr × Str)) (o : Addr) (H H' : Hp) : Prop := (∀ b u, H b = some u → (∀ ps, u ≠ .tbl ps) → b ≠ o → H' b = some u) ∧ Tabs T H'
/-- e is none of the old ones -/
def Fr (o : Addr) (H : Hp) (e : Addr) : Prop := ∀ b u, H b = some u → (∀ ps, u ≠ .tbl ps) → b ≠ o → b ≠ e
theorem tabs_put {T : List (Addr × Str)} {H : Hp} {d : Addr} {u v : HO} (t : Tabs T H) (hd : H d = some u) (nt : ∀ ps, u ≠ .tbl ps) (nc : ∀ c q, u ≠ CodeO c q) : Tabs T (upd H d v) := fun p hp => by
  obtain ⟨ps, h1, h2, h3⟩ := t p hp
  refine ⟨ps, by rw [upd_ne (ne_of h1 hd fun z => nt _ z.symm)]; exact h1, h2, fun pos cv hc => ?_⟩
  obtain ⟨c, e1, e2⟩ := h3 pos cv hc
  exact ⟨c, e1, by rw [upd_ne (ne_of e2 hd fun z => nc _ _ z.symm)]; exact e2⟩
section
variable {T : List (Addr × Str)} {o e : Addr} {H H1 H2 : Hp}
theorem SmK.of (s : Sm T H H1) : SmK T o H H1 := ⟨fun b u h n _ => s.get h n, s.2⟩
theorem SmK.sm (k : SmK T o H H1) (s : Sm T H1 H2) : SmK T o H H2 := ⟨fun b u h n ne => s.get (k.1 b u h n ne) n, s.2⟩
theorem SmK.same (k : SmK T o H H1) (s : Same H1 H2) : SmK T o H H2 := k.sm (Sm.of k.2 s)
theorem SmK.fresh (k : SmK T o H H1) (n : H1 e = none) : Fr o H e := fun b u h nt ne => ne_of_none (k.1 b u h nt ne) n
theorem SmK.putD {kvs kvs' : List (Key × V)} (k : SmK T o H H1) (f : Fr o H e) (h : H1 e = some (.dK kvs)) : SmK T o H (upd H1 e (.dK kvs')) :=
  ⟨fun b u hb nt ne => by rw [upd_ne (f b u hb nt ne)]; exact k.1 b u hb nt ne, tabs_put k.2 h (by intro ps z; cases z) (by intro c q z; unfold CodeO at z; cases z)⟩
theorem SmK.putO {C dx : Addr} {fs fs' : List (Str × V)} (k : SmK T o H H1) (h : H1 o = some (.ins C dx fs)) : SmK T o H (upd H1 o (.ins C dx fs')) :=
  ⟨fun b u hb nt ne => by rw [upd_ne ne]; exact k.1 b u hb nt ne, tabs_put k.2 h (by intro ps z; cases z) (by intro c q z; unfold CodeO at z; cases z)⟩
end
theorem unlock {H : Hp} {e : Addr} {u v : HO} (h : H e = some u) : Same H (upd (upd H e v) e u) := fun b x hb => by
  by_cases z : b = e
  · rw [z, upd_same, ← h, ← z]; exact hb
  · rw [upd_ne z, upd_ne z]; exact hb
theorem walk_wkeys {e : Addr} {od : Obj} (l : List (Wd × V)) : Walk (Itk e od (kdl l)) (wsV (l.map (·.1))).length (fun H => H e = some (.frz od (.dK (kdl l)))) (YAt (wsV (l.map (·.1)))) := by
  have := walk_keys (d := e) (o := od) (kvs := kdl l)
  rw [show (kdl l).length = (wsV (l.map (·.1))).length by rw [kdl_len, List.length_map, List.length_map]] at this
  refine this.mono (fun _ h => h) fun i H x H' hi _ ⟨e1, k, v, h1, h2⟩ => ⟨e1, ?_⟩
  unfold kdl at h1
  rw [List.getElem?_map] at h1
  obtain ⟨q, hq, e2⟩ := Option.map_eq_some_iff.mp h1
  cases e2
  rw [List.getElem?_map, List.getElem?_map, hq, h2]
  rfl
/-- [f(p) for p in dict] -/
theorem lc_lock {H : Hp} {e : Addr} {l : List (Wd × V)} {k j : Nat} {te : TE} {σ : L2.St} {Q : VK} (he : H e = some (.dK (kdl l))) (hσ : σ[k]? = some (some (.ref e))) (hl : l.length ≤ 40000) (f : Wd → V)
    (hw : ∀ x, wipe ((wipe σ [j]).set j x) [j] = wipe σ [j])
    (hs : ∀ p ∈ l.map (·.1), ∀ H' (R : VK), (∀ b u, H b = some u → b ≠ e → H' b = some u) → R (f p) H' → te ((wipe σ [j]).set j (some (.str (sw p)))) H' R)
    (q : ∀ H' D, Same H H' → H D = none → H' D = some (.lst ((l.map (·.1)).map f)) → Q (.ref D) H') : tLockE (tLc (iKeys (tVar k)) (gName j) tYes te [j]) σ H Q := by
  refine ⟨e, _, he, trivial, fun od => ?_⟩
  refine ⟨_, hσ, e, od, rfl, .inl ⟨_, upd_same, fun D hD => ?_⟩⟩
  have hDe : D ≠ e := fun z => by rw [z, upd_same] at hD; cases hD
  have hD0 : H D = none := by rw [upd_ne hDe] at hD; exact hD
  refine lcF (walk_wkeys l) yat (paired_self (l.map (·.1))) hD (fun H' s => s _ _ upd_same) (by rw [List.length_map]; exact hl) (fun _ => true) f (fun x p H' R N hp ex s k1 _ => ?_) (fun H' s hD2 => ?_)
  · subst ex
    refine ⟨hw _, yes_ite ?_⟩
    exact hs p hp H' R (fun b u hb ne => s _ _ (by rw [upd_ne ne]; exact hb)) (k1 rfl)
  · rw [filter_tt] at hD2
    refine ⟨s _ _ upd_same, q _ D (fun b u hb => ?_) hD0 ?_⟩
    · by_cases z : b = e
      · rw [z, upd_same, ← he, ← z]; exact hb
      · rw [upd_ne z]; exact s _ _ (by rw [upd_ne z]; exact hb)
    · rw [upd_ne hDe]; exact hD2
structure GoodUs (z : Wd) (us : List Rw) : Prop where
  ok : ∀ r ∈ us, RwOk z r
  nd : (us.map (·.1)).Nodup
  root : [] ∈ us.map (·.1)
  par : ∀ p ∈ us.map (·.1), p.dropLast ∈ us.map (·.1)
  len : us.length ≤ 2000
theorem perm_paired {α β : Type} {R : α → β → Prop} {xs ys : List α} (h : ys.Perm xs) : ∀ {us : List β}, Paired R xs us → ∃ vs : List β, vs.Perm us ∧ Paired R ys vs := by
  induction h with
  | nil => exact fun p => by cases p; exact ⟨[], List.Perm.refl _, .nil⟩
  | cons x _ ih =>
    intro us p
    cases p with
    | cons r t =>
      obtain ⟨vs, h1, h2⟩ := ih t
      exact ⟨_ :: vs, h1.cons _, .cons r h2⟩
  | swap x y l =>
    intro us p
    cases p with
    | cons r t =>
      cases t with
      | cons r2 t => exact ⟨_, List.Perm.swap _ _ _, .cons r2 (.cons r t)⟩
  | trans _ _ ih1 ih2 =>
    intro us p
    obtain ⟨vs, h1, h2⟩ := ih2 p
    obtain ⟨ws, h3, h4⟩ := ih1 h2
    exact ⟨ws, h3.trans h1, h4⟩
theorem sort_rows (z : Wd) (us : List Rw) : ∃ rs : List Rw, us.Perm rs ∧ rs.map (·.1) = ordW z (us.map (·.1)) := by
  obtain ⟨vs, h1, h2⟩ := perm_paired (R := fun p (r : Rw) => p = r.1) (ordW_perm z (us.map (·.1))) (paired_self us)
  exact ⟨vs, h1.symm, (paired_eq h2).symm⟩
/-- what is told as a row: the row, or none -/
def RowO (H : Hp) (z : Wd) (v : V) : Option Rw → Prop
  | some r => (∃ p, v = .ref p ∧ SqA H p (rwVs r)) ∧ RwOk z r
  | none => RowV H z v false
theorem RowO.kp {H H' : Hp} {z : Wd} {v : V} : ∀ {o : Option Rw}, KpS H H' → RowO H z v o → RowO H' z v o
  | some _, k, ⟨⟨p, e, h⟩, r⟩ => ⟨⟨p, e, h.kp k⟩, r⟩
  | none, k, h => RowV.kp k h
theorem RowO.v {H : Hp} {z : Wd} {v : V} : ∀ {o : Option Rw}, RowO H z v o → RowV H z v o.isSome
  | some _, ⟨⟨p, e, h⟩, r⟩ => .inr ⟨p, _, e, h, .inr (row3_ok r)⟩
  | none, h => h
def FineR (os : List (Option Rw)) (us : List Rw) : Prop := os = us.map some ∧ (us.map (·.1)).Nodup
def WrongR (os : List (Option Rw)) (i : Nat) : Prop := ∃ o us, os[i]? = some o ∧ FineR (os.take i) us ∧ (o = none ∨ ∃ r, o = some r ∧ r.1 ∈ us.map (·.1))
/-- the first place without the one above it -/
def loneB (us : List Rw) (p : Wd) : Bool := decide (p ≠ [] ∧ p.dropLast ∉ us.map (·.1))
def loneP (z : Wd) (us : List Rw) : Option Wd := (ordW z (us.map (·.1))).find? (loneB us)
theorem lone_root {us : List Rw} (h : ∀ p ∈ us.map (·.1), loneB us p = false) (hl : 0 < us.length) : [] ∈ us.map (·.1) := by
  have key : ∀ n (p : Wd), p.length = n → p ∈ us.map (·.1) → [] ∈ us.map (·.1) := by
    intro n
    induction n with
    | zero => intro p e hp; rw [List.length_eq_zero_iff.mp e] at hp; exact hp
    | succ n ih =>
      intro p e hp
      have h1 := of_decide_eq_false (h p hp)
      have h2 : p.dropLast ∈ us.map (·.1) := Decidable.byContradiction fun k => h1 ⟨(fun z => by rw [z] at e; cases e), k⟩
      exact ih p.dropLast (by rw [List.length_dropLast, e]; rfl) h2
  obtain ⟨r, hr⟩ := List.exists_mem_of_length_pos hl
  exact key _ r.1 rfl (List.mem_map.mpr ⟨r, hr, rfl⟩)
theorem lone_par {us : List Rw} (h : ∀ p ∈ us.map (·.1), loneB us p = false) (hl : 0 < us.length) : ∀ p ∈ us.map (·.1), p.dropLast ∈ us.map (·.1) := fun p hp => by
  by_cases e : p = []
  · rw [e]
    exact lone_root h hl
  · have h1 := of_decide_eq_false (h p hp)
    exact Decidable.byContradiction fun k => h1 ⟨e, k⟩
theorem lone_none {z : Wd} {us : List Rw} (h : loneP z us = none) : ∀ p ∈ us.map (·.1), loneB us p = false := fun p hp => by
  have := List.find?_eq_none.mp h p (ordW_mem.mpr hp)
  simpa using this
theorem good_of {z : Wd} {us : List Rw} (h : loneP z us = none) (hl : 0 < us.length) (hl2 : us.length ≤ 2000) (nd : (us.map (·.1)).Nodup) (ok : ∀ r ∈ us, RwOk z r) : GoodUs z us :=
  ⟨ok, nd, lone_root (lone_none h) hl, lone_par (lone_none h) hl, hl2⟩
theorem fineR_ok {H : Hp} {z : Wd} : ∀ {xs : List V} {us : List Rw}, Paired (RowO H z) xs (us.map some) → ∀ r ∈ us, RwOk z r
  | _, [], _, r, hr => by cases hr
  | _, u :: us, .cons h t, r, hr => by
    rcases List.mem_cons.mp hr with rfl | hr
    · exact h.2
    · exact fineR_ok t r hr
def spInit (T : List (Addr × Str)) (C CL CM CR CN : Addr) : Sp := fun vs H Q E => ∃ (o dx a : Addr) (v : V) (xs : List V) (b : Bool) (z : Wd) (os : List (Option Rw)), vs = [.ref o, v, .ref a] ∧ H o = some (.ins C dx []) ∧ LtV H v b ∧ SqA H a xs ∧ xs.length ≤ 20000 ∧ Tabs T H ∧
  (b = true → 1 ≤ xs.length → xs.length ≤ 2000 → v = .str (sw z) ∧ Paired (RowO H z) xs os) ∧
  (b = false → ∀ H' d, SmK T o H H' → H' d = some (exd d [("letters", v)]) → E (.ref CL) (some d) H') ∧
  (b = true → ¬ (1 ≤ xs.length ∧ xs.length ≤ 2000) → ∀ H' d, SmK T o H H' → H' d = some (exd d [("most", .int 2000), ("many", .int (xs.length : Nat)), ("what", .str "places")]) → E (.ref CM) (some d) H') ∧
  (b = true → 1 ≤ xs.length → xs.length ≤ 2000 → ∀ i, WrongR os i → ∀ H' d, SmK T o H H' → H' d = some (exd d [("number", .int (i : Nat))]) → E (.ref CR) (some d) H') ∧
  (b = true → 1 ≤ xs.length → xs.length ≤ 2000 → ∀ us p, FineR os us → loneP z us = some p → ∀ H' d, SmK T o H H' → H' d = some (exd d [("place", .str (sw p))]) → E (.ref CN) (some d) H') ∧
  (b = true → 1 ≤ xs.length → xs.length ≤ 2000 → ∀ us rs, FineR os us → loneP z us = none → us.Perm rs → rs.map (·.1) = ordW z (us.map (·.1)) → ∀ H', SmK T o H H' → TreeAt C H' o z rs → Q .non H')
theorem tri_get {H : Hp} : ∀ {l : List (Wd × V)} {us : List Rw} {r : Rw}, Paired (fun (q : Wd × V) r => q.1 = r.1 ∧ RwT H q.2 r) l us → r ∈ us → ∃ v, (r.1, v) ∈ l ∧ RwT H v r
  | _, _, r, .cons (a := q) h t, m => by
    rcases List.mem_cons.mp m with rfl | m
    · exact ⟨q.2, by rw [← h.1]; exact List.mem_cons_self, h.2⟩
    · obtain ⟨v, h1, h2⟩ := tri_get t m
      exact ⟨v, List.mem_cons_of_mem _ h1, h2⟩
end Toy
set_option Elab.async false
set_option linter.all false
set_option maxRecDepth 100000
set_option maxHeartbeats 4000000
namespace Toy
open PySem L2 Sh ShL LamX NdefX
theorem kd_map (os : List Wd) (f : Wd → V) : (os.map fun p => (p, f p)).map (·.1) = os := by
  rw [List.map_map]
  exact List.map_id _
theorem kdl_keys (l : List (Wd × V)) : (kdl l).map (fun kv => kV kv.1) = wsV (l.map (·.1)) := by
  unfold kdl
  show _ = (l.map (·.1)).map _
  rw [List.map_map, List.map_map]
  rfl
theorem way_put {os : List Wd} {q : Wd} {f g : Wd → V} {v : V} (h : q ∈ os) (hg : ∀ p, g p = if p = q then v else f p) : putK (kdl (os.map fun p => (p, f p))) (.inr (sw q)) v = kdl (os.map fun p => (p, g p)) := by
  rw [kdl_old v (by rw [kd_map]; exact h), List.map_map]
  congr 1
  refine List.map_congr_left fun p _ => ?_
  show (if p = q then (p, v) else (p, f p)) = (p, g p)
  rw [hg]
  by_cases e : p = q
  · rw [if_pos e, if_pos e]
  · rw [if_neg e, if_neg e]
theorem small_lt {c : Nat} (h : c ∈ small) : c < 200 := by
  revert c
  decide +kernel
abbrev TriP (H : Hp) : Wd × V → Rw → Prop := fun q r => q.1 = r.1 ∧ RwT H q.2 r
theorem triP_same {H H' : Hp} {l : List (Wd × V)} {us : List Rw} (s : Same H H') (h : Paired (TriP H) l us) : Paired (TriP H') l us := paired_mono (fun _ _ h => ⟨h.1, h.2.same s⟩) h
structure Bnd (T : List (Addr × Str)) (C o dx d e : Addr) (l : List (Wd × V)) (us : List Rw) (el : List (Wd × V)) (H0 : Hp) (fs : List (Str × V)) (H : Hp) : Prop where
  smk : SmK T o H0 H
  ins : H o = some (.ins C dx fs)
  dd : H d = some (.dK (kdl l))
  tri : Paired (TriP H) l us
  ee : H e = some (.dK (kdl el))
section
variable {T : List (Addr × Str)} {C o dx d e : Addr} {l : List (Wd × V)} {us : List Rw} {el : List (Wd × V)} {H0 H H' : Hp} {fs : List (Str × V)}
theorem Bnd.same (b : Bnd T C o dx d e l us el H0 fs H) (s : Same H H') : Bnd T C o dx d e l us el H0 fs H' := ⟨b.smk.same s, s _ _ b.ins, s _ _ b.dd, triP_same s b.tri, s _ _ b.ee⟩
theorem Bnd.put (b : Bnd T C o dx d e l us el H0 fs H) (fs' : List (Str × V)) : Bnd T C o dx d e l us el H0 fs' (upd H o (.ins C dx fs')) :=
  ⟨b.smk.putO b.ins, upd_same, by rw [upd_ne (ne_of b.dd b.ins (by intro z; cases z))]; exact b.dd,
   paired_mono (fun q r ⟨h, a, e1, h2⟩ => ⟨h, a, e1, by rw [upd_ne (ne_of h2 b.ins (by intro z; cases z))]; exact h2⟩) b.tri, by rw [upd_ne (ne_of b.ee b.ins (by intro z; cases z))]; exact b.ee⟩
theorem Bnd.putE (b : Bnd T C o dx d e l us el H0 fs H) (f : Fr o H0 e) (nd : d ≠ e) (el' : List (Wd × V)) : Bnd T C o dx d e l us el' H0 fs (upd H e (.dK (kdl el'))) :=
  ⟨b.smk.putD f b.ee, by rw [upd_ne (ne_of b.ins b.ee (by intro z; cases z))]; exact b.ins, by rw [upd_ne nd]; exact b.dd,
   paired_mono (fun q r ⟨h, a, e1, h2⟩ => ⟨h, a, e1, by rw [upd_ne (ne_of h2 b.ee (by intro z; cases z))]; exact h2⟩) b.tri, upd_same⟩
/-- the rows in their order -/
theorem rows_pr {f : Wd → V} : ∀ {rs : List Rw}, (∀ r ∈ rs, RwT H (f r.1) r) → Paired (RwT H) ((rs.map (·.1)).map f) rs
  | [], _ => .nil
  | r :: rs, h => .cons (h r List.mem_cons_self) (rows_pr fun x hx => h x (List.mem_cons_of_mem _ hx))
end
theorem for_enumE {K : PySem.W.Frag} {a : Addr} {j : Nat} {xs : List V} {u : HO} {g : TG} {tb : TS} {D : Ends} {σ : L2.St} {H : Hp} (hj : σ[j]? = some (some (.ref a))) (sq : u = .lst xs ∨ u = .tup xs) (Pv : Nat → L2.St → Hp → Prop) (h0 : Pv 0 σ H) (hl : ∀ i σ H', Pv i σ H' → H' a = some u)
    (hs : ∀ (i : Nat) (x : V) (σ : L2.St) (H : Hp) (T : Addr), xs[i]? = some x → H T = none → Pv i σ H → g (.ref T) σ (upd H T (.tup [.int (i : Nat), x])) fun σ2 H2 => tb { D with nx := Pv (i + 1), ct := Pv (i + 1), bk := D.nx } σ2 H2) (hd : ∀ σ H, Pv xs.length σ H → D.nx σ H) :
    tFor (fun σ H R => iEnum K (tCons (tVar j) tNil) σ H R ∨ iEnumT K (tCons (tVar j) tNil) σ H R) g tb D σ H := by
  rcases sq with rfl | rfl
  · exact .inl ⟨_, hj, a, xs, rfl, SqL.of (hl _ _ _ h0), for_enum (K := K) Pv h0 (fun i σ H' _ p => SqL.of (hl i σ H' p)) hs hd⟩
  · exact .inr ⟨_, hj, a, xs, rfl, SqT.of (hl _ _ _ h0), for_enumT (K := K) Pv h0 (fun i σ H' _ p => SqT.of (hl i σ H' p)) hs hd⟩
theorem SmK.frz {T : List (Addr × Str)} {o e : Addr} {H H1 : Hp} {u : HO} {kvs : List (Key × V)} (k : SmK T o H H1) (f : Fr o H e) (h : H1 e = some (.dK kvs)) : SmK T o H (upd H1 e u) :=
  ⟨fun b x hb nt ne => by rw [upd_ne (f b x hb nt ne)]; exact k.1 b x hb nt ne, tabs_put k.2 h (by intro ps z; cases z) (by intro c q z; unfold CodeO at z; cases z)⟩
theorem SmK.fr0 {T : List (Addr × Str)} {o : Addr} {H H1 : Hp} {u : HO} (k : SmK T o H H1) (ho : H1 o = some u) {a : Addr} (n : H1 a = none) : Fr0 H a := fun x hx => by
  by_cases nt : ∃ ps, x = .tbl ps
  · exact nt
  · have ne : a ≠ o := fun e => by rw [e, ho] at n; cases n
    have := k.1 a x hx (fun ps e => nt ⟨ps, e⟩) ne
    rw [n] at this
    cases this
section
variable {P : Program} {w : World} {K : PySem.W.Frag} {mg : Str → Option Value} {base : Heap}
theorem ok_Tree_init (T : Tx P K mg) (B : Bx T base) : FnOk P w K mg base (L2.CX P w) 5 T.a_Tree_init T.fd_Tree_init ["self", "letters", "rows"] (spInit (tabs T) T.c_Tree T.c_BadLetters T.c_TooMany T.c_BadRow T.c_Lone) := by
  refine T.F_Tree_init.okX sc_Tree_init (fun vs H Q E h => ?_) (fun cdv A outer s H vs Q E hr h => ?_)
  · obtain ⟨o, dx, a, v, xs, b, z, os, rfl, _⟩ := h
    rfl
  have hu := hu_of hr
  have hu65 := hu65_of hr
  obtain ⟨o, dx, a, v, xs, b, z, os, rfl, ho, hv, ha, hlx, tb, hyp, q1, q2, q3, q4, q5⟩ := h
  have smS : ∀ {H'}, Same H H' → SmK (tabs T) o H H' := fun s => SmK.of (Sm.of tb s)
  refine ⟨_, (pss_cons (ps_if (pt_not (pt_val (pe_call (ok_is_letters (w := w) T B) (hr.mono (by decide)) (by rfl) T.m_is_letters T.F_is_letters.kp T.bi_is_letters .nil pass0 (pa_cons (pv 1) pa_nil))))
 (pss_one (ps_raiseX rfl rfl (takes_of rfl rfl rfl rfl) (pe_oexN T.i_BadLetters.m (ok_x_BadLetters T) (hr.mono (by decide)) (by rfl) T.m_BadLetters T.kb_BadLetters_1 pass0 (pa_cons (pv 1) pa_nil) pk_nil)))
 pss_nil)
 (pss_cons (ps_if (pt_not (pt_chain op_le op_le pe_int (pe_callB call_len_seq (by rfl) T.b_len (by decide +kernel) (pa_cons (pv 2) pa_nil)) (pe_glob (v := .int 2000) (by rfl) T.m_MOST_PLACES.choose_spec ⟨_, rfl⟩)))
 (pss_one (ps_raiseX rfl rfl (takes_of rfl rfl rfl rfl) (pe_oexN T.i_TooMany.m (ok_x_TooMany T) (hr.mono (by decide)) (by rfl) T.m_TooMany T.kb_TooMany_3 pass0 (pa_cons pe_str (pa_cons (pe_callB call_len_seq (by rfl) T.b_len (by decide +kernel) (pa_cons (pv 2) pa_nil)) (pa_cons (pe_glob (v := .int 2000) (by rfl) T.m_MOST_PLACES.choose_spec ⟨_, rfl⟩) pa_nil))) pk_nil)))
 pss_nil)
 (pss_cons (ps_set (i := 3) sc_Tree_init.nd rfl (by first | exact Or.inl rfl | exact Or.inr rfl) pe_dnewK)
 (pss_cons (ps_for (passes_of rfl) rfl (pi_alt (pi_enum (by rfl) T.b_enumerate (pa_cons (pv 2) pa_nil)) (pi_enumT (by rfl) T.b_enumerate (pa_cons (pv 2) pa_nil))) (pg_tup rfl (pgs_cons (pg_name (i := 4) sc_Tree_init.nd rfl (by first | exact Or.inl rfl | exact Or.inr rfl)) (pgs_cons (pg_name (i := 5) sc_Tree_init.nd rfl (by first | exact Or.inl rfl | exact Or.inr rfl)) pgs_nil)))
 (pss_cons (ps_if (PW.pt (pw_or (pt_not (pt_val (pe_call (ok_is_row (w := w) T B) (hr.mono (by decide)) (by rfl) T.m_is_row T.F_is_row.kp T.bi_is_row .nil pass0 (pa_cons (pv 1) (pa_cons (pv 5) pa_nil))))) (pw_or1 (pt_cmp (pc_din hu (pe_alt (pe_ix ix_list (pv 5) pe_int (fun _ _ => rfl)) (pe_ix ix_tup (pv 5) pe_int (fun _ _ => rfl))) (pv 3))))))
 (pss_one (ps_raiseX rfl rfl (takes_of rfl rfl rfl rfl) (pe_oexN T.i_BadRow.m (ok_x_BadRow T) (hr.mono (by decide)) (by rfl) T.m_BadRow T.kb_BadRow_1 pass0 (pa_cons (pv 4) pa_nil) pk_nil)))
 pss_nil)
 (pss_one (ps_dput hu (pv 3) (pe_alt (pe_ix ix_list (pv 5) pe_int (fun _ _ => rfl)) (pe_ix ix_tup (pv 5) pe_int (fun _ _ => rfl))) (pe_tup (pa_cons (pe_alt (pe_ix ix_list (pv 5) pe_int (fun _ _ => rfl)) (pe_ix ix_tup (pv 5) pe_int (fun _ _ => rfl))) (pa_cons (pe_alt (pe_ix ix_list (pv 5) pe_int (fun _ _ => rfl)) (pe_ix ix_tup (pv 5) pe_int (fun _ _ => rfl))) (pa_cons (pe_alt (pe_ix ix_list (pv 5) pe_int (fun _ _ => rfl)) (pe_ix ix_tup (pv 5) pe_int (fun _ _ => rfl))) pa_nil)))) rfl))))
 (pss_cons (ps_setDc (i := 6) (own := [("place", 7)]) (g := gName 7) rfl sc_Tree_init.nd rfl rfl (sw_trueD rfl rfl rfl (by decide +kernel)) (pi_list (pe_call (ok_in_order (w := w) T B) (hr.mono (by decide)) (by rfl) T.m_in_order T.F_in_order.kp T.bi_in_order .nil pass0 (pa_cons (pv 1) (pa_cons (pv 3) pa_nil)))) (blkOk_by (own := [("place", 7)]) (N := N_Tree_init) (sc := defScope s_Tree_init) (by decide +kernel)) (fun _ _ _ _ _ => (pg_name (i := 7) sc_Tree_init.nd rfl (by first | exact Or.inl rfl | exact Or.inr rfl))) (fun _ _ _ _ _ => pts_nil) (fun _ _ _ _ _ => (pv 7)) (fun _ _ _ _ _ => pe_str))
 (pss_cons (ps_lock (ps_for (passes_of rfl) rfl (pi_keys (pv 6)) (pg_name (i := 7) sc_Tree_init.nd rfl (by first | exact Or.inl rfl | exact Or.inr rfl))
 (pss_one (ps_if (PW.pt (pw_and (pt_cmpR op_ne (pv 7) pe_str (nomark _)) (pw_and1 (pt_cmp (pc_dnotin hu (pe_slice sl_str (pv 7) po_none (po_some (pe_un un_neg pe_int))) (pv 3))))))
 (pss_one (ps_raiseX rfl rfl (takes_of rfl rfl rfl rfl) (pe_oexN T.i_Lone.m (ok_x_Lone T) (hr.mono (by decide)) (by rfl) T.m_Lone T.kb_Lone_1 pass0 (pa_cons (pv 7) pa_nil) pk_nil)))
 pss_nil))))
 (pss_cons (ps_for (passes_of rfl) rfl (pi_list (pe_callTy (call_list_dK rfl) (by rfl) T.b_list (by decide +kernel) (pa_cons (pv 6) pa_nil))) (pg_name (i := 7) sc_Tree_init.nd rfl (by first | exact Or.inl rfl | exact Or.inr rfl))
 (pss_one (ps_if (pt_cmpR op_ne (pv 7) pe_str (nomark _))
 (pss_one (ps_daug hu (pv 6) (pe_slice sl_str (pv 7) po_none (po_some (pe_un un_neg pe_int))) (pe_ix ix_str (pv 7) (pe_un un_neg pe_int) (fun _ _ => rfl)) in_addS (fun _ _ _ => rfl)))
 pss_nil)))
 (pss_cons (ps_fld (pv 0) (pv 1) rfl)
 (pss_cons (ps_fld (pv 0) (pe_callTy call_tuple_of (by rfl) T.b_tuple (by decide +kernel) (pa_cons (pe_lock (pe_lc (own := [("place", 7)]) (g := gName 7) rfl sc_Tree_init.nd (pi_keys (pv 6)) (blkOk_by (own := [("place", 7)]) (N := N_Tree_init) (sc := defScope s_Tree_init) (by decide +kernel)) (fun _ _ _ _ _ => (pg_name (i := 7) sc_Tree_init.nd rfl (by first | exact Or.inl rfl | exact Or.inr rfl))) (fun _ _ _ _ _ => pts_nil) (fun _ _ _ _ _ => (pe_dget hu (pv 3) (pv 7) (fun _ _ => rfl))))) pa_nil)) rfl)
 (pss_cons (ps_fld (pv 0) (pe_callB call_len_seq (by rfl) T.b_len (by decide +kernel) (pa_cons (pv 2) pa_nil)) rfl)
 (pss_cons (ps_fld (pv 0) (pe_callB (cr_max rfl) (by rfl) T.b_max (by decide +kernel) (pa_cons (pe_lock (pe_lc (own := [("place", 7)]) (g := gName 7) rfl sc_Tree_init.nd (pi_keys (pv 6)) (blkOk_by (own := [("place", 7)]) (N := N_Tree_init) (sc := defScope s_Tree_init) (by decide +kernel)) (fun _ _ _ _ _ => (pg_name (i := 7) sc_Tree_init.nd rfl (by first | exact Or.inl rfl | exact Or.inr rfl))) (fun _ _ _ _ _ => pts_nil) (fun _ _ _ _ _ => (pe_callB call_len_str (by rfl) T.b_len (by decide +kernel) (pa_cons (pv 7) pa_nil))))) pa_nil)) rfl)
 (pss_cons (ps_fld (pv 0) (pv 3) rfl)
 (pss_one (ps_fld (pv 0) (pv 6) rfl)))))))))))))), ?_⟩
  refine ⟨_, rfl, v, b, rfl, hv, fun H1 s1 => ⟨_, rfl, ?_⟩⟩
  cases b with
  | false =>
    refine iteT ?_
    exact mk_raise (vs := [v]) (zs := []) (fun b hb => fr0_none (s1.free hb)) T.x_BadLetters.raises (fun R h => ⟨_, rfl, h⟩) (fun R h => h) rfl rfl rfl fun H' d s' n e => q1 rfl H' d (smS (s1.trans s')) e
  | true =>
  refine iteF ?_
  have ha1 := ha.kp (kpS_same s1)
  refine ⟨_, rfl, a, xs, rfl, RwE.sqA ha1, _, _, rfl, rfl, _, rfl, ?_⟩
  have many : ¬ (1 ≤ xs.length ∧ xs.length ≤ 2000) → ∀ (D : Ends), tRaiseX (cxOf (L2.CX P w) P w K mg base N_Tree_init "Tree.__init__" (defScope s_Tree_init) T.a_Tree_init cdv A outer s H E) (fun cls d _ H => E cls d H) (tOex T.c_TooMany 3 0 (spXI T.c_TooMany ["what", "many", "most"]) rotV (tCons (tC (.str "places")) (tCons (tCB (fun xs H_1 Q => ∃ p ys, xs = [V.ref p] ∧ (SqL K H_1 p ys ∨ SqT K H_1 p ys) ∧ Q (V.int ↑ys.length) H_1) (tCons (tVar 2) tNil)) (tCons (tC (.int 2000)) tNil))) tNil) D [some (.ref o), some v, some (.ref a), none, none, none, none, none] H1 := fun hn D =>
    mk_raise (vs := [.str "places", .int (xs.length : Nat), .int 2000]) (zs := []) (fun b hb => fr0_none (s1.free hb)) T.x_TooMany.raises (fun R h => ⟨_, rfl, a, xs, rfl, RwE.sqA ha1, h⟩) (fun R h => h) rfl rfl rfl fun H' d s' n e => q2 rfl hn H' d (smS (s1.trans s')) e
  refine ite2 (fun h1 => ?_) (fun h1 => ?_)
  rotate_left
  · have h1 : ¬ (1 : Int) ≤ (xs.length : Int) := by simpa using h1
    exact ⟨_, rfl, iteT (many (fun k => h1 (by omega)) { nx := fun _ _ => True, rt := fun _ _ => True })⟩
  refine ⟨_, _, rfl, rfl, _, rfl, ?_⟩
  have h1 : (1 : Int) ≤ (xs.length : Int) := by simpa using h1
  refine ite2 (fun h2 => ?_) (fun h2 => ?_)
  · have h2 : ¬ (xs.length : Int) ≤ 2000 := by simpa using h2
    exact many (fun k => h2 (by omega)) { nx := fun _ _ => True, rt := fun _ _ => True }
  have h2 : (xs.length : Int) ≤ 2000 := by simpa using h2
  have l1 : 1 ≤ xs.length := by omega
  have l2 : xs.length ≤ 2000 := by omega
  obtain ⟨rfl, pr⟩ := hyp rfl l1 l2
  have q3 := q3 rfl l1 l2
  have q4 := q4 rfl l1 l2
  have q5 := q5 rfl l1 l2
  have hz : LetOk z := by
    rcases hv with ⟨z', e1, _, e2⟩ | ⟨e, _⟩
    · rw [sw_inj (V.str.inj e1)]
      exact of_decide_eq_true e2.symm
    · cases e
  have hxl : xs.length = os.length := pr.length
  have hnl : os.length ≤ 2000 := by omega
  intro d hd
  have s2 := s1.trans (same_upd (o := .dK []) hd)
  have hd0 : (upd H1 d (.dK [])) d = some (.dK (kdl [])) := upd_same
  have dn : H d = none := by
    cases e : H d with
    | none => rfl
    | some u => rw [s1 _ _ e] at hd; cases hd
  generalize upd H1 d (.dK []) = H2 at s2 hd0
  obtain ⟨ua, hua, hua2⟩ : ∃ u, H a = some u ∧ (u = .lst xs ∨ u = .tup xs) := ha.elim (fun h => ⟨_, h, .inl rfl⟩) fun h => ⟨_, h, .inr rfl⟩
  refine for_enumE (K := K) (a := a) (j := 2) (xs := xs) (u := ua) rfl hua2 (fun i σ H3 => ∃ v4 v5 l us, σ = [some (.ref o), some (.str (sw z)), some (.ref a), some (.ref d), v4, v5, none, none] ∧ Same H H3 ∧ H3 d = some (.dK (kdl l)) ∧ Paired (TriP H3) l us ∧ FineR (os.take i) us)
    ⟨_, _, [], [], rfl, s2, hd0, .nil, by rw [List.take_zero]; exact ⟨rfl, by simp⟩⟩ (fun i σ H3 ⟨_, _, _, _, _, s, _⟩ => s _ _ hua) (fun i x σ H3 U hx hU ⟨v4, v5, l, us, e, s3, hd3, pl, fi⟩ => ?_) (fun σ H3 ⟨v4, v5, l, us, e, s3, hd3, pl, fi⟩ => ?_)
  · subst e
    obtain ⟨ov, hov, rv⟩ := paired_ix pr hx
    have sU := same_upd (o := .tup [.int (i : Nat), x]) hU
    have s4 := s3.trans sU
    refine ⟨U, _, rfl, SqT.of upd_same, rfl, _, _, rfl, _, _, rfl, rfl, ?_⟩
    have pl3 := triP_same sU pl
    have hd4 := sU _ _ hd3
    generalize upd H3 U (.tup [.int (i : Nat), x]) = H4 at s4 pl3 hd4
    have hil := (List.getElem?_eq_some_iff.mp hov).1
    have hul : us.length = i := by
      have e1 := congrArg List.length fi.1
      rw [List.length_take, List.length_map] at e1
      omega
    have hll : l.length = i := by rw [pl3.length, hul]
    have raise : WrongR os i → ∀ H5, Same H H5 → ∀ (D : Ends), tRaiseX (cxOf (L2.CX P w) P w K mg base N_Tree_init "Tree.__init__" (defScope s_Tree_init) T.a_Tree_init cdv A outer s H E) (fun cls d _ H => E cls d H) (tOex T.c_BadRow 1 0 (spXI T.c_BadRow ["number"]) rotV (tCons (tVar 4) tNil) tNil) D [some (.ref o), some (.str (sw z)), some (.ref a), some (.ref d), some (.int (i : Nat)), some x, none, none] H5 := fun hw H5 s5 D =>
      mk_raise (vs := [.int (i : Nat)]) (zs := []) (fun b hb => fr0_none (s5.free hb)) T.x_BadRow.raises (fun R h => ⟨_, rfl, h⟩) (fun R h => h) rfl rfl rfl fun H' d s' n e => q3 i hw H' d (smS (s5.trans s')) e
    have D0 : Ends := { nx := fun _ _ => True, rt := fun _ _ => True }
    refine ⟨_, rfl, _, rfl, z, x, ov.isSome, rfl, (rv.kp (kpS_same s4)).v, fun H5 s5 => ⟨_, rfl, ?_⟩⟩
    have s45 := s4.trans s5
    cases ov with
    | none => exact iteT (raise ⟨none, us, hov, fi, .inl rfl⟩ H5 s45 D0)
    | some r =>
    refine iteF ?_
    obtain ⟨⟨b, rfl, hb⟩, rok⟩ := rv
    have hb5 := hb.kp (kpS_same s45)
    have hd5 := s5 _ _ hd4
    have ix : ∀ (j : Nat) (v : V) (H' : Hp) (σ : L2.St) (Q : VK), σ[5]? = some (some (.ref b)) → (H' b = some (.lst (rwVs r)) ∨ H' b = some (.tup (rwVs r))) → (rwVs r)[j]? = some v → Q v H' → tAlt (tOp (rIxL K) (tVar 5) (tC (.int (j : Int)))) (tOp (rIxT K) (tVar 5) (tC (.int (j : Int)))) σ H' Q := fun j v H' σ Q e hb hv q =>
      hb.elim (fun hb => .inl ⟨_, e, b, _, _, _, rfl, rfl, SqL.of hb, atI_nat hv, q⟩) fun hb => .inr ⟨_, e, b, _, _, _, rfl, rfl, SqT.of hb, atI_nat hv, q⟩
    refine ix 0 (.str (sw r.1)) _ _ _ rfl hb5 rfl ?_
    refine ⟨_, rfl, d, valV (kdl l) (.inr (sw r.1)), rfl, dget_kdl hd5 r.1, _, rfl, ?_⟩
    by_cases hm : r.1 ∈ us.map (·.1)
    · have e : (valV (kdl l) (.inr (sw r.1))).isSome = true := by
        rw [kdl_is (by rw [tri_fst pl3]; exact fi.2), tri_fst pl3]
        exact decide_eq_true hm
      rw [e]
      exact iteT (raise ⟨_, us, hov, fi, .inr ⟨r, rfl, hm⟩⟩ H5 s45 D0)
    have hnew : r.1 ∉ l.map (·.1) := by rw [tri_fst pl3]; exact hm
    rw [kdl_none hnew]
    refine iteF ?_
    refine ix 0 (.str (sw r.1)) _ _ _ rfl hb5 rfl ?_
    refine ix 1 (oV r.2.1) _ _ _ rfl hb5 rfl ?_
    refine ix 2 (.bl r.2.2) _ _ _ rfl hb5 rfl ?_
    refine ⟨by show 3 ≤ sizeLine; decide, fun p hp => ?_⟩
    have s6 := same_upd (o := .tup (rwVs r)) hp
    have hp6 : (upd H5 p (.tup (rwVs r))) p = some (.tup (rwVs r)) := upd_same
    have hb6 := hb5.imp (s6 _ _) (s6 _ _)
    have hd6 := s6 _ _ hd5
    have pl6 := triP_same (s5.trans s6) pl3
    have s7 := (s4.trans s5).trans s6
    refine ⟨_, rfl, ?_⟩
    refine ix 0 (.str (sw r.1)) _ _ _ rfl hb6 rfl ?_
    refine ⟨d, _, rfl, dput_kdl hd6 r.1 _ (by omega), ?_⟩
    refine ⟨_, _, l ++ [(r.1, .ref p)], us ++ [r], rfl, same_of_new s7 dn, ?_, ?_, ?_, ?_⟩
    · rw [upd_same, kdl_new _ hnew]
    · refine paired_app (paired_mono (fun q r h => ⟨h.1, h.2.kp hd6 kp_put⟩) pl6) (.cons ⟨rfl, p, rfl, ?_⟩ .nil)
      rw [upd_ne (ne_of hp6 hd6 (by intro z; cases z))]
      exact hp6
    · rw [List.take_add_one, hov, fi.1, List.map_append]
      rfl
    · rw [List.map_append]
      refine List.nodup_append.mpr ⟨fi.2, by simp, fun x hx y hy => ?_⟩
      rw [List.mem_singleton.mp hy]
      exact fun e => hm (by rw [show r.1 = x from e.symm]; exact hx)
  · subst e
    rw [hxl, List.take_of_length_le (Nat.le_refl _)] at fi
    obtain ⟨rfl, hnd⟩ := fi
    have hok := fineR_ok pr
    have hxl : xs.length = us.length := by rw [hxl, List.length_map]
    have hul : us.length ≤ 2000 := by omega
    have hu1 : 1 ≤ us.length := by omega
    obtain ⟨rs, pm, od⟩ := sort_rows z us
    have hfst : l.map (·.1) = us.map (·.1) := tri_fst pl
    have hdn : ∀ p, (valV (kdl l) (.inr (sw p))).isSome = decide (p ∈ us.map (·.1)) := fun p => by rw [kdl_is (by rw [hfst]; exact hnd), hfst]
    have wdl : ∀ p ∈ us.map (·.1), p.length ≤ 200 ∧ ∀ c ∈ p, c ∈ z := fun p hp => by
      obtain ⟨r, hr, rfl⟩ := List.mem_map.mp hp
      exact ⟨(hok r hr).l200, (hok r hr).wd⟩
    refine ⟨_, rfl, _, rfl, z, d, kdl l, us.map (·.1), rfl, hd3, ?_, wdl, tb.ext s3, fun H4 a4 sm4 h4 => ⟨a4, rfl, ⟨_, SqL.of h4⟩, fun e he => ?_⟩⟩
    · rw [← hfst]
      exact kdl_keys l
    have s := s3
    rw [← od] at h4
    generalize hos : rs.map (·.1) = os at od h4
    have hosm : ∀ p, p ∈ os ↔ p ∈ us.map (·.1) := fun p => by rw [od]; exact ordW_mem
    have hosl : os.length = us.length := by rw [od, ordW_len, List.length_map]
    have hosn : os.Nodup := by rw [od]; exact ordW_nodup hnd
    refine dc_list (K := K) (a := a4) (xs := wsV os) (fun i H5 => Same H4 H5 ∧ H5 e = some (.dK (kdl ((os.take i).map fun p => (p, V.str (sw [])))))) ⟨same_upd he, upd_same⟩ (fun i H5 _ ⟨s5, _⟩ => SqL.of (s5 _ _ h4)) (fun i x H5 hx ⟨s5, h5⟩ => ?_) (fun H5 ⟨s5, h5⟩ => ?_)
    · rw [List.getElem?_map] at hx
      obtain ⟨p, hp, rfl⟩ := Option.map_eq_some_iff.mp hx
      have hpn : p ∉ ((os.take i).map fun p => (p, V.str (sw []))).map (·.1) := by rw [kd_map]; exact nd_take hosn hp
      refine ⟨rfl, yes_ite ⟨_, rfl, kdl ((os.take i).map fun p => (p, V.str (sw []))), .inr (sw p), rfl, h5, ?_, same_of_new s5 he, ?_⟩⟩
      · rw [kdl_len, List.length_map, List.length_take, sizeLine_eq]
        omega
      · rw [upd_same, mt_eq, kdl_new _ hpn, List.take_add_one, hp]
        show _ = some (HO.dK (kdl ((os.take i ++ [p]).map fun p => (p, V.str (sw [])))))
        rw [List.map_append]
        rfl
    rw [List.length_map, List.take_of_length_le (Nat.le_refl _)] at h5
    have hde : d ≠ e := ne_of_none (sm4.get hd3) he
    have fe : Fr o H e := ((SmK.of (Sm.of tb s)).sm sm4).fresh he
    have b5 : Bnd (tabs T) T.c_Tree o dx d e l us (os.map fun p => (p, V.str (sw []))) H [] H5 :=
      ⟨((SmK.of (Sm.of tb s)).sm sm4).same s5, s5 _ _ (sm4.get (s _ _ ho)), s5 _ _ (sm4.get hd3), paired_mono (fun q r h => ⟨h.1, (h.2.sm sm4).same s5⟩) pl, h5⟩
    clear he h4 s5 sm4 h5
    -- no place without the one above it
    refine ⟨e, _, b5.ee, trivial, fun ob => ?_⟩
    refine ⟨_, rfl, e, ob, rfl, .inl ⟨_, upd_same, ?_⟩⟩
    refine for_it (walk_wkeys (os.map fun p => (p, V.str (sw [])))) (fun i σ H6 => (∃ v7, σ = [some (.ref o), some (.str (sw z)), some (.ref a), some (.ref d), v4, v5, some (.ref e), v7]) ∧ H6 = upd H5 e (.frz ob (.dK (kdl (os.map fun p => (p, V.str (sw [])))))) ∧ ∀ q ∈ os.take i, loneB us q = false)
      ⟨⟨_, rfl⟩, rfl, fun q hq => by rw [List.take_zero] at hq; cases hq⟩ (fun i σ H6 _ ⟨_, h, _⟩ => by rw [h]; exact upd_same) (fun i x σ H6 H7 hi ⟨⟨v7, e1⟩, e2, nl⟩ y => ?_) (fun σ H6 ⟨⟨v7, e1⟩, e2, nl⟩ => ?_)
    · obtain ⟨rfl, hx⟩ := y
      subst e1
      rw [List.getElem?_map, kd_map] at hx
      obtain ⟨p, hp, rfl⟩ := Option.map_eq_some_iff.mp hx
      have hpm := (hosm p).mp (List.mem_of_getElem? hp)
      have hl : (sw p).length ≤ sizeLine := by rw [sw_len, sizeLine_eq]; have := (wdl p hpm).1; omega
      have nl2 : loneB us p = false → ∀ q ∈ os.take (i + 1), loneB us q = false := fun h q hq => by
        rw [List.take_add_one, hp] at hq
        rcases List.mem_append.mp hq with hq | hq
        · exact nl q hq
        · rw [List.mem_singleton.mp hq]
          exact h
      refine ⟨_, rfl, rfl, _, rfl, ?_⟩
      rw [mt_eq, sw_dec]
      refine ite2 (fun hne => ?_) (fun hne => ?_)
      · have hne : p ≠ [] := by simpa using hne
        refine ⟨_, rfl, _, rfl, _, rfl, _, rfl, hl, _, rfl, d, valV (kdl l) (.inr (sw p.dropLast)), rfl, ?_, _, rfl, ?_⟩
        · show DGet _ d (.str (cutS (sw p) none (some (-1)))) _
          rw [cut_init]
          exact dget_kdl (by rw [e2, upd_ne hde]; exact b5.dd) _
        · rw [hdn]
          by_cases hpar : p.dropLast ∈ us.map (·.1)
          · rw [decide_eq_true hpar]
            exact iteF ⟨⟨_, rfl⟩, e2, nl2 (decide_eq_false fun k => k.2 hpar)⟩
          · rw [decide_eq_false hpar]
            refine iteT ?_
            have hlo : loneP z us = some p := by
              unfold loneP
              rw [← od]
              have e6 : os = os.take i ++ p :: os.drop (i + 1) := by
                have := (List.getElem?_eq_some_iff.mp hp)
                rw [← this.2, List.getElem_cons_drop, List.take_append_drop]
              rw [e6, List.find?_append, List.find?_eq_none.mpr (fun q hq => by rw [nl q hq]; decide)]
              rw [List.find?_cons_of_pos (show loneB us p = true from decide_eq_true ⟨hne, hpar⟩)]
              rfl
            have sk := b5.smk.frz (u := .frz ob (.dK (kdl (os.map fun p => (p, V.str (sw [])))))) fe b5.ee
            rw [← e2] at sk
            have io : H7 o = some (.ins T.c_Tree dx []) := by rw [e2, upd_ne (ne_of b5.ins b5.ee (by intro z; cases z))]; exact b5.ins
            exact mk_raise (vs := [.str (sw p)]) (zs := []) (fun b hb => sk.fr0 io hb) T.x_Lone.raises (fun R h => ⟨_, rfl, h⟩) (fun R h => h) rfl rfl rfl fun H' d' s' n e' => q4 us p ⟨rfl, hnd⟩ hlo H' d' (sk.same s') e'
      · have hne : p = [] := by simpa using hne
        exact iteF ⟨⟨_, rfl⟩, e2, nl2 (decide_eq_false fun k => k.1 hne)⟩
    rw [List.take_of_length_le (by simp)] at nl
    have hnone : loneP z us = none := by
      unfold loneP
      rw [← od]
      exact List.find?_eq_none.mpr fun q hq => by rw [nl q hq]; decide
    have gu := good_of hnone (by omega) (by omega) hnd hok
    subst e1
    refine ⟨by rw [e2]; exact upd_same, ?_⟩
    have b6 := b5.same (unlock (v := .frz ob (.dK (kdl (os.map fun p => (p, V.str (sw []))))))  b5.ee)
    rw [← e2] at b6
    generalize upd H6 e (.dK (kdl (os.map fun p => (p, V.str (sw []))))) = H7 at b6
    -- the ways
    refine ⟨_, rfl, e, _, rfl, b6.ee, fun bl hbl => ⟨bl, rfl, ⟨_, SqL.of upd_same⟩, ?_⟩⟩
    have b7 := b6.same (same_upd (o := .lst ((kdl (os.map fun p => (p, V.str (sw [])))).map fun kv => kV kv.1)) hbl)
    have hbl7 : (upd H7 bl (.lst ((kdl (os.map fun p => (p, V.str (sw [])))).map fun kv => kV kv.1))) bl = some (.lst (wsV os)) := by rw [upd_same, kdl_keys, kd_map]
    generalize upd H7 bl (.lst ((kdl (os.map fun p => (p, V.str (sw [])))).map fun kv => kV kv.1)) = H8 at b7 hbl7
    have hble : bl ≠ e := ne_of hbl7 b7.ee (by intro z; cases z)
    refine for_it (walk_list (K := K) (a := bl) (xs := wsV os)) (fun i σ H9 => (∃ v7, σ = [some (.ref o), some (.str (sw z)), some (.ref a), some (.ref d), v4, v5, some (.ref e), v7]) ∧ H9 bl = some (.lst (wsV os)) ∧
        Bnd (tabs T) T.c_Tree o dx d e l us (os.map fun p => (p, V.str (sw (kidS (os.take i) p)))) H [] H9)
      ⟨⟨_, rfl⟩, hbl7, b7⟩ (fun i σ H9 _ ⟨_, h, _⟩ => SqL.of h) (fun i x σ H9 H10 hi ⟨⟨v7, e1⟩, hb9, b9⟩ y => ?_) (fun σ H9 ⟨⟨v7, e1⟩, hb9, b9⟩ => ?_)
    · obtain ⟨rfl, hx⟩ := y
      subst e1
      rw [List.getElem?_map] at hx
      obtain ⟨p, hp, rfl⟩ := Option.map_eq_some_iff.mp hx
      have hpm := (hosm p).mp (List.mem_of_getElem? hp)
      have hil := (List.getElem?_eq_some_iff.mp hp).1
      have hl : (sw p).length ≤ sizeLine := by rw [sw_len, sizeLine_eq]; have := (wdl p hpm).1; omega
      have htk : os.take (i + 1) = os.take i ++ [p] := by rw [List.take_add_one, hp]; rfl
      refine ⟨_, rfl, rfl, _, rfl, ?_⟩
      rw [mt_eq, sw_dec]
      by_cases hpe : p = []
      · rw [decide_eq_true hpe]
        refine iteF ⟨⟨_, rfl⟩, hb9, ?_⟩
        have : (os.map fun q => (q, V.str (sw (kidS (os.take (i + 1)) q)))) = os.map fun q => (q, V.str (sw (kidS (os.take i) q))) := List.map_congr_left fun q _ => by
          rw [htk, kidS_step, if_neg (fun h => h.1 hpe)]
        rw [this]
        exact b9
      · rw [decide_eq_false hpe]
        refine iteT ?_
        obtain ⟨c, hc⟩ : ∃ c, p.getLast? = some c := ⟨_, List.getLast?_eq_some_getLast hpe⟩
        have hpar : p.dropLast ∈ os := (hosm _).mpr (gu.par p hpm)
        refine ⟨_, rfl, _, rfl, _, rfl, _, rfl, _, rfl, hl, e, .str (sw (kidS (os.take i) p.dropLast)), rfl, ?_, ?_⟩
        · show DGet _ e (.str (cutS (sw p) none (some (-1)))) _
          rw [cut_init]
          have := dget_kdl b9.ee p.dropLast
          rw [kdl_some (by rw [kd_map]; exact hosn) (List.mem_map.mpr ⟨_, hpar, rfl⟩)] at this
          exact this
        refine ⟨_, rfl, _, rfl, sw p, _, c, rfl, rfl, hl, atW_last hc, _, _, rfl, rfl, ?_, ?_⟩
        · have h1 := kidS_len (os.take i) p.dropLast
          rw [List.length_take] at h1
          rw [sw_len, sizeLine_eq]
          show _ + 1 ≤ _
          omega
        show ∃ H5, DPut _ e (.str (cutS (sw p) none (some (-1)))) _ H5 ∧ _
        rw [cut_init]
        refine ⟨_, dput_kdl b9.ee p.dropLast _ (by rw [List.length_map]; omega), ⟨_, rfl⟩, by rw [upd_ne hble]; exact hb9, ?_⟩
        rw [way_put (g := fun q => .str (sw (kidS (os.take (i + 1)) q))) hpar (fun q => ?_)]
        · exact b9.putE fe hde _
        · show V.str (sw (kidS (os.take (i + 1)) q)) = _
          rw [htk, kidS_step]
          by_cases hq : q = p.dropLast
          · rw [if_pos ⟨hpe, hq.symm⟩, if_pos hq, hc, hq, sw_one, sw_app]
            rfl
          · rw [if_neg (fun h => hq h.2.symm), if_neg hq]
    subst e1
    rw [List.length_map, List.take_of_length_le (Nat.le_refl _)] at b9
    have hway : (os.map fun p => (p, V.str (sw (kidS os p)))) = wayl z os := List.map_congr_left fun p _ => by
      rw [kidS_eq hz.nd (fun q hq => (wdl q ((hosm q).mp hq)).2) hosn (by rw [od]; exact ordW_sorted _ _)]
    rw [hway] at b9
    -- the fields
    refine ⟨_, rfl, _, rfl, o, T.c_Tree, dx, [], rfl, b9.ins, T.cl_Tree, T.na_Tree_letters, (by show 0 < 1000; decide), ?_⟩
    have b10 := b9.put (putF "letters" (.str (sw z)) [])
    generalize upd H9 o _ = H10 at b10
    have hval : ∀ p ∈ os, ∃ v, valV (kdl l) (.inr (sw p)) = some v := fun p hp => by
      have := hdn p
      rw [decide_eq_true ((hosm p).mp hp)] at this
      exact Option.isSome_iff_exists.mp this
    have hwl : (wayl z os).length ≤ 40000 := by rw [List.length_map]; omega
    refine lc_lock (k := 6) (j := 7) (l := wayl z os) b10.ee rfl hwl (fun p => (valV (kdl l) (.inr (sw p))).getD .non) (fun _ => rfl) (fun p hp H11 R kp k1 => ?_) fun H11 D1 s11 hD1n hD1 => ?_
    · rw [wayl_fst] at hp
      obtain ⟨v, hv⟩ := hval p hp
      rw [hv] at k1
      have := dget_kdl (kp _ _ b10.dd hde) p
      rw [hv] at this
      exact ⟨_, rfl, _, rfl, d, v, rfl, this, k1⟩
    rw [wayl_fst] at hD1
    have b11 := b10.same s11
    refine ⟨D1, _, rfl, .inl ⟨SqL.of hD1, fun t ht => ?_⟩⟩
    have s12 := same_upd (o := .tup (os.map fun p => (valV (kdl l) (.inr (sw p))).getD .non)) ht
    have b12 := b11.same s12
    have ht12 : (upd H11 t (.tup (os.map fun p => (valV (kdl l) (.inr (sw p))).getD .non))) t = some (.tup (os.map fun p => (valV (kdl l) (.inr (sw p))).getD .non)) := upd_same
    generalize upd H11 t (.tup (os.map fun p => (valV (kdl l) (.inr (sw p))).getD .non)) = H12 at b12 ht12
    refine ⟨_, rfl, o, T.c_Tree, dx, _, rfl, b12.ins, T.cl_Tree, T.na_Tree_rows, (by show 1 < 1000; decide), ?_⟩
    have b13 := b12.put (putF "rows" (.ref t) (putF "letters" (.str (sw z)) []))
    have ht13 : (upd H12 o (.ins T.c_Tree dx (putF "rows" (.ref t) (putF "letters" (.str (sw z)) [])))) t = some (.tup (os.map fun p => (valV (kdl l) (.inr (sw p))).getD .non)) := by
      rw [upd_ne (ne_of ht12 b12.ins (by intro z; cases z))]; exact ht12
    generalize upd H12 o (.ins T.c_Tree dx (putF "rows" (.ref t) (putF "letters" (.str (sw z)) []))) = H13 at b13 ht13
    have hrl : (xs.length : Int) = (rs.length : Int) := by rw [hxl, pm.length_eq]
    have ha13 : SqA H13 a xs := ha.imp (fun h => b13.smk.1 _ _ h (by intro ps z; cases z) (ne_of h ho (by intro z; cases z))) fun h => b13.smk.1 _ _ h (by intro ps z; cases z) (ne_of h ho (by intro z; cases z))
    refine ⟨_, rfl, a, xs, rfl, RwE.sqA ha13, _, rfl, o, T.c_Tree, dx, _, rfl, b13.ins, T.cl_Tree, T.na_Tree_size, (by show 2 < 1000; decide), ?_⟩
    rw [hrl]
    have b14 := b13.put (putF "size" (.int (rs.length : Int)) (putF "rows" (.ref t) (putF "letters" (.str (sw z)) [])))
    have ht14 : (upd H13 o (.ins T.c_Tree dx (putF "size" (.int (rs.length : Int)) (putF "rows" (.ref t) (putF "letters" (.str (sw z)) []))))) t = some (.tup (os.map fun p => (valV (kdl l) (.inr (sw p))).getD .non)) := by
      rw [upd_ne (ne_of ht13 b13.ins (by intro z; cases z))]; exact ht13
    generalize upd H13 o (.ins T.c_Tree dx (putF "size" (.int (rs.length : Int)) (putF "rows" (.ref t) (putF "letters" (.str (sw z)) [])))) = H14 at b14 ht14
    refine lc_lock (k := 6) (j := 7) (l := wayl z os) b14.ee rfl hwl (fun p => .int (p.length : Int)) (fun _ => rfl) (fun p hp H15 R kp k1 => ?_) fun H15 D2 s15 hD2n hD2 => ?_
    · rw [wayl_fst] at hp
      have h200 := (wdl p ((hosm p).mp hp)).1
      refine ⟨_, rfl, _, rfl, by rw [sw_len, sizeLine_eq]; omega, ?_⟩
      rw [sw_len]
      exact k1
    rw [wayl_fst] at hD2
    have b15 := b14.same s15
    have ht15 := s15 _ _ ht14
    have hlens : os.map (fun p => V.int (p.length : Int)) = (os.map fun p => (p.length : Int)).map V.int := by rw [List.map_map]; rfl
    rw [hlens] at hD2
    refine ⟨D2, _, rfl, SqL.of hD2, by rw [List.length_map]; omega, fun m hm hmx => ?_⟩
    refine ⟨_, rfl, o, T.c_Tree, dx, _, rfl, b15.ins, T.cl_Tree, T.na_Tree_height, (by show 3 < 1000; decide), ?_⟩
    have b16 := b15.put (putF "height" (.int m) (putF "size" (.int (rs.length : Int)) (putF "rows" (.ref t) (putF "letters" (.str (sw z)) []))))
    have ht16 : (upd H15 o (.ins T.c_Tree dx (putF "height" (.int m) (putF "size" (.int (rs.length : Int)) (putF "rows" (.ref t) (putF "letters" (.str (sw z)) [])))))) t = some (.tup (os.map fun p => (valV (kdl l) (.inr (sw p))).getD .non)) := by
      rw [upd_ne (ne_of ht15 b15.ins (by intro z; cases z))]; exact ht15
    generalize upd H15 o (.ins T.c_Tree dx (putF "height" (.int m) (putF "size" (.int (rs.length : Int)) (putF "rows" (.ref t) (putF "letters" (.str (sw z)) []))))) = H16 at b16 ht16
    refine ⟨_, rfl, _, rfl, o, T.c_Tree, dx, _, rfl, b16.ins, T.cl_Tree, T.na_Tree_triples, (by show 4 < 1000; decide), ?_⟩
    have b17 := b16.put (putF "triples" (.ref d) (putF "height" (.int m) (putF "size" (.int (rs.length : Int)) (putF "rows" (.ref t) (putF "letters" (.str (sw z)) [])))))
    have ht17 : (upd H16 o (.ins T.c_Tree dx (putF "triples" (.ref d) (putF "height" (.int m) (putF "size" (.int (rs.length : Int)) (putF "rows" (.ref t) (putF "letters" (.str (sw z)) []))))))) t = some (.tup (os.map fun p => (valV (kdl l) (.inr (sw p))).getD .non)) := by
      rw [upd_ne (ne_of ht16 b16.ins (by intro z; cases z))]; exact ht16
    generalize upd H16 o (.ins T.c_Tree dx (putF "triples" (.ref d) (putF "height" (.int m) (putF "size" (.int (rs.length : Int)) (putF "rows" (.ref t) (putF "letters" (.str (sw z)) [])))))) = H17 at b17 ht17
    refine ⟨_, rfl, _, rfl, o, T.c_Tree, dx, _, rfl, b17.ins, T.cl_Tree, T.na_Tree_ways, (by show 5 < 1000; decide), ?_⟩
    have b18 := b17.put (treeFs z t d e (rs.length : Int) m)
    have ht18 : (upd H17 o (.ins T.c_Tree dx (treeFs z t d e (rs.length : Int) m))) t = some (.tup (os.map fun p => (valV (kdl l) (.inr (sw p))).getD .non)) := by
      rw [upd_ne (ne_of ht17 b17.ins (by intro z; cases z))]; exact ht17
    show Q .non (upd H17 o (.ins T.c_Tree dx (treeFs z t d e (rs.length : Int) m)))
    generalize upd H17 o (.ins T.c_Tree dx (treeFs z t d e (rs.length : Int) m)) = H18 at b18 ht18
    have hln : rs.map (fun r => (r.1.length : Int)) = os.map fun p => (p.length : Int) := by rw [← hos, List.map_map]; rfl
    refine q5 us rs ⟨rfl, hnd⟩ hnone pm (by rw [hos]; exact od) _ b18.smk ⟨?_, fun r hr c hc => small_lt (hz.sm c ((gu.ok r (pm.mem_iff.mpr hr)).wd c hc)), dx, t, d, e, m, _, us, b18.ins, ht18, ?_, ⟨l, b18.dd, b18.tri⟩, pm, ?_, by rw [hln]; exact hm, by rw [hln]; exact hmx⟩
    · rw [hos]
      exact (hosm _).mpr gu.root
    · rw [← hos]
      refine rows_pr fun r hr => ?_
      obtain ⟨v, h1, h2⟩ := tri_get b18.tri (pm.mem_iff.mpr hr)
      rw [kdl_some (by rw [hfst]; exact gu.nd) h1]
      exact h2
    · rw [hos]
      exact b18.ee
end
end Toy
set_option Elab.async false
set_option linter.all false
set_option maxRecDepth 100000
set_option maxHeartbeats 4000000
namespace Toy
open PySem L2 Sh ShL LamX NdefX
theorem val_lookup (its : List (Wd × Int)) (p : Wd) : valV (kdl (valK its)) (.inr (sw p)) = (its.lookup p).map V.int := by
  induction its with
  | nil => rfl
  | cons it its ih =>
    obtain ⟨q, n⟩ := it
    rw [List.lookup_cons]
    by_cases h : p = q
    · subst h
      rw [show (p == p) = true from by simp]
      exact valV_pos rfl
    · rw [show (p == q) = false from beq_eq_false_iff_ne.mpr h]
      exact (valV_neg (fun e => h (sw_inj (Sum.inr.inj e)).symm)).trans ih
theorem lookup_mem {its : List (Wd × Int)} {p : Wd} {n : Int} (h : its.lookup p = some n) : (p, n) ∈ its := by
  induction its with
  | nil => cases h
  | cons it its ih =>
    obtain ⟨q, k⟩ := it
    rw [List.lookup_cons] at h
    by_cases e : p = q
    · subst e
      rw [show (p == p) = true from by simp] at h
      cases h
      exact List.mem_cons_self
    · rw [show (p == q) = false from beq_eq_false_iff_ne.mpr e] at h
      exact List.mem_cons_of_mem _ (ih h)
/-- the rows that Tree.of makes -/
def ofRows (its : List (Wd × Int)) : List Rw := (begs (its.map (·.1))).map fun p => (p, its.lookup p, false)
theorem ofRows_fst (its : List (Wd × Int)) : (ofRows its).map (·.1) = begs (its.map (·.1)) := by
  unfold ofRows
  rw [List.map_map]
  exact List.map_id _
theorem begs_sub {ps ws : List Wd} (h : Clo ps) (hw : ∀ w ∈ ws, w ∈ ps) : ∀ p ∈ begs ws, p ∈ ps := fun p hp => by
  rcases begs_mem.mp hp with rfl | ⟨w, hw2, m, rfl⟩
  · exact h.1
  · exact h.2 _ (hw w hw2) m
theorem addW_len {p : Wd} : ∀ {n : Nat} {fs : List Wd}, (addW fs p n).length ≤ fs.length + n
  | 0, fs => by simp [addW]
  | n + 1, fs => by
    rw [addW_succ]
    by_cases h : p.take (n + 1) ∈ fs
    · rw [if_pos h]; omega
    · rw [if_neg h]
      have := addW_len (p := p) (n := n) (fs := fs ++ [p.take (n + 1)])
      rw [List.length_append] at this
      simp at this
      omega
theorem begs_len : ∀ {ws : List Wd} {fs : List Wd}, (∀ w ∈ ws, w.length ≤ 200) → (ws.foldl (fun fs p => addW fs p p.length) fs).length ≤ fs.length + 200 * ws.length
  | [], fs, _ => by simp
  | w :: ws, fs, h => by
    rw [List.foldl_cons]
    have h1 := begs_len (ws := ws) (fs := addW fs w w.length) fun x hx => h x (List.mem_cons_of_mem _ hx)
    have h2 := addW_len (p := w) (n := w.length) (fs := fs)
    have h3 := h w List.mem_cons_self
    rw [List.length_cons]
    omega
theorem begs_len' {ws : List Wd} (h : ∀ w ∈ ws, w.length ≤ 200) : (begs ws).length ≤ 1 + 200 * ws.length := begs_len (fs := [[]]) h
theorem ofRows_ok {z : Wd} {its : List It2} (ok : ∀ it ∈ its, it.1.length ≤ 200 ∧ (∀ c ∈ it.1, c ∈ z) ∧ 1 ≤ it.2 ∧ it.2 ≤ 9) : ∀ r ∈ ofRows its, RwOk z r := fun r hr => by
  obtain ⟨p, hp, rfl⟩ := List.mem_map.mp hr
  have h1 : (∀ c ∈ p, c ∈ z) ∧ p.length ≤ 200 := by
    rcases begs_mem.mp hp with rfl | ⟨w, hw2, m, rfl⟩
    · exact ⟨fun c hc => (List.not_mem_nil hc).elim, by simp⟩
    · obtain ⟨it, hit, rfl⟩ := List.mem_map.mp hw2
      have k := ok it hit
      exact ⟨fun c hc => k.2.1 c (List.mem_of_mem_take hc), by rw [List.length_take]; omega⟩
  exact ⟨h1.1, h1.2, fun i hi => (ok _ (lookup_mem hi)).2.2⟩
theorem some_inj {α : Type} : ∀ {xs ys : List α}, xs.map some = ys.map some → xs = ys
  | [], [], _ => rfl
  | [], _ :: _, h => by cases h
  | _ :: _, [], h => by cases h
  | x :: xs, y :: ys, h => by
    rw [List.map_cons, List.map_cons, List.cons.injEq] at h
    rw [Option.some.inj h.1, some_inj h.2]
theorem fineR_inj {us vs : List Rw} (h : FineR (us.map some) vs) : vs = us := (some_inj h.1).symm
theorem fineI_inj {us vs : List It2} (h : FineI (us.map some) vs) : vs = us := (some_inj h.1).symm
theorem wrongR_no {us : List Rw} (nd : (us.map (·.1)).Nodup) {i : Nat} (h : WrongR (us.map some) i) : False := by
  obtain ⟨o, vs, h1, h2, h3⟩ := h
  rw [List.getElem?_map] at h1
  obtain ⟨r, hr, rfl⟩ := Option.map_eq_some_iff.mp h1
  rcases h3 with h3 | ⟨r', e, h3⟩
  · cases h3
  cases e
  have e : us.take i = vs := some_inj (by rw [List.map_take]; exact h2.1)
  rw [← e, List.map_take] at h3
  exact nd_take nd (by rw [List.getElem?_map, hr]; rfl) h3
theorem wrongI_no {us : List It2} (nd : (us.map (·.1)).Nodup) {i : Nat} (h : WrongI (us.map some) i) : False := by
  obtain ⟨o, vs, h1, h2, h3⟩ := h
  rw [List.getElem?_map] at h1
  obtain ⟨r, hr, rfl⟩ := Option.map_eq_some_iff.mp h1
  rcases h3 with h3 | ⟨r', e, h3⟩
  · cases h3
  cases e
  have e : us.take i = vs := some_inj (by rw [List.map_take]; exact h2.1)
  rw [← e, List.map_take] at h3
  exact nd_take nd (by rw [List.getElem?_map, hr]; rfl) h3
theorem lone_of_par {z : Wd} {us : List Rw} (h : ∀ p ∈ us.map (·.1), p.dropLast ∈ us.map (·.1)) : loneP z us = none :=
  List.find?_eq_none.mpr fun q hq => by
    have := h q (ordW_mem.mp hq)
    intro e
    exact (of_decide_eq_true e).2 this
theorem rowO_of {H : Hp} {z : Wd} : ∀ {xs : List V} {us : List Rw}, Paired (RwE H) xs us → (∀ r ∈ us, RwOk z r) → Paired (RowO H z) xs (us.map some)
  | _, _, .nil, _ => .nil
  | _, _, .cons h t, ok => .cons ⟨h, ok _ List.mem_cons_self⟩ (rowO_of t fun r hr => ok r (List.mem_cons_of_mem _ hr))
/-- Tree(letters, rows), letters right -/
theorem mk_treeG {T : List (Addr × Str)} {C CL CM CR CN : Addr} {H : Hp} {z : Wd} {a : Addr} {xs : List V} {os : List (Option Rw)} {Q : VK} {E : XK} (hz : LetOk z) (ha : SqA H a xs) (hl : xs.length ≤ 20000) (tb : Tabs T H)
    (pr : 1 ≤ xs.length → xs.length ≤ 2000 → Paired (RowO H z) xs os)
    (q2 : ¬ (1 ≤ xs.length ∧ xs.length ≤ 2000) → ∀ H' d, Sm T H H' → H' d = some (exd d [("most", .int 2000), ("many", .int (xs.length : Nat)), ("what", .str "places")]) → E (.ref CM) (some d) H')
    (q3 : 1 ≤ xs.length → xs.length ≤ 2000 → ∀ i, WrongR os i → ∀ H' d, Sm T H H' → H' d = some (exd d [("number", .int (i : Nat))]) → E (.ref CR) (some d) H')
    (q4 : 1 ≤ xs.length → xs.length ≤ 2000 → ∀ us p, FineR os us → loneP z us = some p → ∀ H' d, Sm T H H' → H' d = some (exd d [("place", .str (sw p))]) → E (.ref CN) (some d) H')
    (q5 : 1 ≤ xs.length → xs.length ≤ 2000 → ∀ us rs, FineR os us → loneP z us = none → us.Perm rs → rs.map (·.1) = ordW z (us.map (·.1)) → ∀ H' o, Sm T H H' → TreeAt C H' o z rs → Q (.ref o) H') :
    ∀ x dx, H x = none → H dx = none → dx ≠ x → spInit T C CL CM CR CN (.ref x :: ([.str (sw z), .ref a] ++ [])) (upd (upd H dx (.own x)) x (.ins C dx [])) (fun v H2 => v = .non ∧ Q (.ref x) H2) E := by
  intro x dx hx hdx hne
  have s1 := same_upd (o := .own x) hdx
  have s2 : Same H (upd (upd H dx (.own x)) x (.ins C dx [])) := same_of_new s1 hx
  have up : ∀ {H'}, SmK T x (upd (upd H dx (.own x)) x (.ins C dx [])) H' → Sm T H H' := fun k => ⟨fun b u hb nt => k.1 b u (s2 _ _ hb) nt (ne_of_none hb hx), k.2⟩
  exact ⟨x, dx, a, _, xs, true, z, os, rfl, upd_same, .inl ⟨z, rfl, by have := hz.l26; omega, (decide_eq_true hz).symm⟩, ha.kp (kpS_same s2), hl, tb.ext s2, fun _ l1 l2 => ⟨rfl, paired_mono (fun v o h => RowO.kp (kpS_same s2) h) (pr l1 l2)⟩, (fun e => nomatch e),
    fun _ h H' d k e => q2 h H' d (up k) e, fun _ l1 l2 i w H' d k e => q3 l1 l2 i w H' d (up k) e, fun _ l1 l2 us p f l H' d k e => q4 l1 l2 us p f l H' d (up k) e, fun _ l1 l2 us rs f l pm od H' k t => ⟨rfl, q5 l1 l2 us rs f l pm od H' x (up k) t⟩⟩
/-- Tree(no letters, ..) -/
theorem mk_treeL {T : List (Addr × Str)} {C CL CM CR CN : Addr} {H : Hp} {v : V} {a : Addr} {xs : List V} {Q : VK} {E : XK} (hv : LtV H v false) (ha : SqA H a xs) (hl : xs.length ≤ 20000) (tb : Tabs T H)
    (q1 : ∀ H' d, Sm T H H' → H' d = some (exd d [("letters", v)]) → E (.ref CL) (some d) H') :
    ∀ x dx, H x = none → H dx = none → dx ≠ x → spInit T C CL CM CR CN (.ref x :: ([v, .ref a] ++ [])) (upd (upd H dx (.own x)) x (.ins C dx [])) (fun v H2 => v = .non ∧ Q (.ref x) H2) E := by
  intro x dx hx hdx hne
  have s1 := same_upd (o := .own x) hdx
  have s2 : Same H (upd (upd H dx (.own x)) x (.ins C dx [])) := same_of_new s1 hx
  have up : ∀ {H'}, SmK T x (upd (upd H dx (.own x)) x (.ins C dx [])) H' → Sm T H H' := fun k => ⟨fun b u hb nt => k.1 b u (s2 _ _ hb) nt (ne_of_none hb hx), k.2⟩
  exact ⟨x, dx, a, _, xs, false, [], [], rfl, upd_same, hv.kp (kpS_same s2), ha.kp (kpS_same s2), hl, tb.ext s2, (fun e => nomatch e), fun _ H' d k e => q1 H' d (up k) e, (fun e => nomatch e), (fun e => nomatch e), (fun e => nomatch e), (fun e => nomatch e)⟩
def spOf (T : List (Addr × Str)) (C CL CM CI : Addr) : Sp := fun vs H Q E => ∃ (a : Addr) (v : V) (xs : List V) (b : Bool) (z : Wd) (os : List (Option It2)), vs = [.ref C, v, .ref a] ∧ LtV H v b ∧ H a = some (.lst xs) ∧ os.length ≤ 90 ∧ Tabs T H ∧
  (b = true → v = .str (sw z) ∧ Paired (ItV H z) xs os) ∧
  (b = false → ∀ H' d, Sm T H H' → H' d = some (exd d [("letters", v)]) → E (.ref CL) (some d) H') ∧
  (b = true → ∀ i, WrongI os i → ∀ H' d, Sm T H H' → H' d = some (exd d [("number", .int (i : Nat))]) → E (.ref CI) (some d) H') ∧
  (b = true → ∀ its, FineI os its → 2000 < (begs (its.map (·.1))).length → ∀ H' d, Sm T H H' → H' d = some (exd d [("most", .int 2000), ("many", .int ((begs (its.map (·.1))).length : Nat)), ("what", .str "places")]) → E (.ref CM) (some d) H') ∧
  (b = true → ∀ its, FineI os its → (begs (its.map (·.1))).length ≤ 2000 → ∀ rs, (ofRows its).Perm rs → rs.map (·.1) = ordW z (begs (its.map (·.1))) → ∀ H' o, Sm T H H' → TreeAt C H' o z rs → Q (.ref o) H')
theorem fineI_ok {H : Hp} {z : Wd} : ∀ {xs : List V} {its : List It2}, Paired (ItV H z) xs (its.map some) → ∀ it ∈ its, it.1.length ≤ 200 ∧ (∀ c ∈ it.1, c ∈ z) ∧ 1 ≤ it.2 ∧ it.2 ≤ 9
  | _, [], _, it, h => by cases h
  | _, i :: its, .cons h t, it, hm => by
    rcases List.mem_cons.mp hm with rfl | hm
    · rcases h with ⟨e, _⟩ | ⟨p, xs, _, _, ⟨e, _⟩ | h⟩
      · cases e
      · cases e
      · exact it_is h
    · exact fineI_ok t it hm
section
variable {P : Program} {w : World} {K : PySem.W.Frag} {mg : Str → Option Value} {base : Heap}
theorem ok_Tree_of (T : Tx P K mg) (B : Bx T base) : FnOk P w K mg base (L2.CX P w) 7 T.a_Tree_of T.fd_Tree_of ["cls", "letters", "items"] (spOf (tabs T) T.c_Tree T.c_BadLetters T.c_TooMany T.c_BadItem) := by
  refine T.F_Tree_of.okX sc_Tree_of (fun vs H Q E h => ?_) (fun cdv A outer s H vs Q E hr h => ?_)
  · obtain ⟨a, v, xs, b, z, os, rfl, _⟩ := h
    rfl
  have hu := hu_of hr
  have hu65 := hu65_of hr
  obtain ⟨a, v, xs, b, z, os, rfl, hv, ha, hl, tb, hyp, q1, q2, q3, q4⟩ := h
  refine ⟨_, (pss_cons (ps_if (pt_not (pt_val (pe_call (ok_is_letters (w := w) T B) (hr.mono (by decide)) (by rfl) T.m_is_letters T.F_is_letters.kp T.bi_is_letters .nil pass0 (pa_cons (pv 1) pa_nil))))
 (pss_one (ps_raiseX rfl rfl (takes_of rfl rfl rfl rfl) (pe_oexN T.i_BadLetters.m (ok_x_BadLetters T) (hr.mono (by decide)) (by rfl) T.m_BadLetters T.kb_BadLetters_1 pass0 (pa_cons (pv 1) pa_nil) pk_nil)))
 pss_nil)
 (pss_cons (ps_set (i := 3) sc_Tree_of.nd rfl (by first | exact Or.inl rfl | exact Or.inr rfl) (pe_call (ok_values_of (w := w) T B) (hr.mono (by decide)) (by rfl) T.m_values_of T.F_values_of.kp T.bi_values_of .nil (passes_call (takes_of rfl rfl rfl rfl) (fun _ _ _ _ h => h)) (pa_cons (pv 1) (pa_cons (pv 2) pa_nil))))
 (pss_one (ps_ret (pe_makeL (i := 0) T.mk_Tree (ok_Tree_init (w := w) T B) (hr.mono (by decide)) rfl (by first | exact Or.inl rfl | exact Or.inr (Or.inl rfl) | exact Or.inr (Or.inr rfl)) T.bi_Tree_init (passes_call (takes_of rfl rfl rfl rfl) (fun _ _ _ _ h => h)) (pa_cons (pv 1) (pa_cons (pe_lc (own := [("place", 4)]) (g := gName 4) rfl sc_Tree_of.nd (pi_list (pe_call (ok_beginnings (w := w) T B) (hr.mono (by decide)) (by rfl) T.m_beginnings T.F_beginnings.kp T.bi_beginnings .nil pass0 (pa_cons (pe_callTy (call_list_dK rfl) (by rfl) T.b_list (by decide +kernel) (pa_cons (pv 3) pa_nil)) pa_nil))) (blkOk_by (own := [("place", 4)]) (N := N_Tree_of) (sc := defScope s_Tree_of) (by decide +kernel)) (fun _ _ _ _ _ => (pg_name (i := 4) sc_Tree_of.nd rfl (by first | exact Or.inl rfl | exact Or.inr rfl))) (fun _ _ _ _ _ => pts_nil) (fun _ _ _ _ _ => (pe_tup (pa_cons (pv 4) (pa_cons (pe_dget1 hu (pv 3) (pv 4) ⟨by rfl, by rfl, by rfl, by rfl⟩) (pa_cons pe_bl pa_nil)))))) pa_nil))))))), ?_⟩
  refine ⟨_, rfl, v, b, rfl, hv, fun H1 s1 => ⟨_, rfl, ?_⟩⟩
  cases b with
  | false =>
    refine iteT ?_
    exact mk_raise (vs := [v]) (zs := []) (fun b hb => fr0_none (s1.free hb)) T.x_BadLetters.raises (fun R h => ⟨_, rfl, h⟩) (fun R h => h) rfl rfl rfl fun H' d s' n e => q1 rfl H' d (Sm.of tb (s1.trans s')) e
  | true =>
  refine iteF ?_
  obtain ⟨rfl, pr⟩ := hyp rfl
  have hz : LetOk z := by
    rcases hv with ⟨z', e1, _, e2⟩ | ⟨e, _⟩
    · rw [sw_inj (V.str.inj e1)]
      exact of_decide_eq_true e2.symm
    · cases e
  refine ⟨_, rfl, _, rfl, z, a, xs, os, rfl, s1 _ _ ha, paired_mono (fun v o h => ItV.kp (kpS_same s1) h) pr, by omega, fun its fi H2 d s2 hd => ?_, fun i w H' d s' n e => q2 rfl i w H' d (Sm.of tb (s1.trans s')) e⟩
  have hil : its.length ≤ 90 := by
    have := congrArg List.length fi.1
    rw [List.length_map] at this
    omega
  have ok := fineI_ok (fi.1 ▸ pr)
  have hw2 : ∀ w ∈ its.map (·.1), w.length ≤ 200 := fun w hw => by
    obtain ⟨it, hit, rfl⟩ := List.mem_map.mp hw
    exact (ok it hit).1
  have hbl : (begs (its.map (·.1))).length ≤ 18001 := by
    have := begs_len' hw2
    rw [List.length_map] at this
    omega
  refine ⟨rfl, _, rfl, ?_⟩
  refine ⟨_, rfl, d, _, rfl, hd, fun b hb => ?_⟩
  have s3 := same_upd (o := .lst ((kdl (valK its)).map fun kv => kV kv.1)) hb
  have hb3 : (upd H2 b (.lst ((kdl (valK its)).map fun kv => kV kv.1))) b = some (.lst (wsV (its.map (·.1)))) := by rw [upd_same, kdl_keys, valK_fst]
  have hd3 := s3 _ _ hd
  generalize upd H2 b (.lst ((kdl (valK its)).map fun kv => kV kv.1)) = H3 at s3 hb3 hd3
  have hps : InPs (begs (its.map (·.1))) (its.map (·.1)) := ⟨by omega, begs_clo _, fun w hw => begs_mem.mpr (.inr ⟨w, hw, w.length, (List.take_length).symm⟩)⟩
  refine ⟨b, its.map (·.1), begs (its.map (·.1)), rfl, SqL.of hb3, hps, hw2, by rw [List.length_map]; omega, fun H4 c s4 hc => ⟨c, rfl, ⟨_, SqL.of hc⟩, fun D hD => ?_⟩⟩
  have hd4 := s4 _ _ hd3
  refine lcG (walk_list (K := K) (a := c) (xs := wsV (begs (its.map (·.1))))) yat (paired_self (begs (its.map (·.1)))) (fun _ H' => Same H4 H') (same_upd hD) (fun _ H' acc s => same_of_new s hD) (fun i H' _ s => SqL.of (s _ _ hc)) (by omega) (fun _ => true)
    (fun H' v p => RwT H' v (p, its.lookup p, false)) (fun H' acc acc' v p hD2 h => ?_) (fun i x p H' acc R N hp hx s hD2 k1 _ => ?_) (fun H' acc s hD2 pr2 => ?_)
  · obtain ⟨b, e1, h⟩ := h
    exact ⟨b, e1, by rw [upd_ne (ne_of h hD2 (by intro z; cases z))]; exact h⟩
  · subst hx
    refine ⟨rfl, yes_ite ?_⟩
    have g := dget_kdl (s _ _ hd4) p
    rw [val_lookup] at g
    refine ⟨_, rfl, _, rfl, d, rfl, ?_, _, rfl, _, g, by show 3 ≤ sizeLine; decide, fun t ht => ?_⟩
    · exact .inl ⟨_, .inl (s _ _ hd4)⟩
    have st := same_upd (o := .tup [V.str (sw p), ((its.lookup p).map V.int).getD .non, .bl false]) ht
    refine k1 rfl _ _ (s.trans st) (st _ _ hD2) (fun _ _ h => h.same st) ⟨t, rfl, ?_⟩
    rw [upd_same]
    cases its.lookup p <;> rfl
  · rw [filter_tt] at pr2
    have pr3 : Paired (RwE H') acc (ofRows its) := paired_map (f := fun p => (p, its.lookup p, false)) (fun v p h => RwT.e h) pr2
    have sAll := ((s1.trans s2).trans s3).trans (s4.trans s)
    have hal : acc.length = (begs (its.map (·.1))).length := pr2.length
    have nd : ((ofRows its).map (·.1)).Nodup := by rw [ofRows_fst]; exact begs_nd _
    have par : loneP z (ofRows its) = none := lone_of_par fun p hp => by
      rw [ofRows_fst] at hp ⊢
      rw [List.dropLast_eq_take]
      exact (begs_clo _).2 p hp _
    have h1 : 1 ≤ acc.length := by
      rw [hal]
      exact List.length_pos_of_mem (begs_clo (its.map (·.1))).1
    refine mk_treeG (os := (ofRows its).map some) hz (.inl hD2) (by omega) (tb.ext sAll) (fun _ _ => rowO_of pr3 (ofRows_ok ok)) (fun hn H5 d5 sm e => ?_) (fun _ _ i w => (wrongR_no nd w).elim) (fun _ _ us p f l => ?_) (fun _ l2 us rs f _ pm od H5 o sm t => ?_)
    · rw [hal] at e
      exact q3 rfl its fi (by omega) H5 d5 ((Sm.of tb sAll).trans sm) e
    · rw [fineR_inj f, par] at l
      cases l
    · have e := fineR_inj f
      subst e
      exact q4 rfl its fi (by omega) rs pm (by rw [ofRows_fst] at od; exact od) H5 o ((Sm.of tb sAll).trans sm) t
end
end Toy
set_option Elab.async false
set_option linter.all false
set_option maxRecDepth 100000
set_option maxHeartbeats 4000000
namespace Toy
open PySem L2 Sh ShL LamX NdefX
/-! ### rows as data -/
def oD : Option Int → PyData
  | none => .none
  | some i => .int i
def rwD (r : Rw) : PyData := .tuple [.str (sw r.1), oD r.2.1, .bool r.2.2]
theorem oV_dp {K : PySem.W.Frag} {H : Hp} (o : Option Int) : Dp K H (oV o) (oD o) := by
  cases o
  · exact .non
  · exact .int _
theorem RwT.dp {K : PySem.W.Frag} {H : Hp} {v : V} {r : Rw} (h : RwT H v r) : Dp K H v (rwD r) := by
  obtain ⟨a, rfl, h⟩ := h
  exact .tup (SqT.of h) (.cons (.str _) (.cons (oV_dp _) (.cons (.bl _) .nil)))
theorem rws_dp {K : PySem.W.Frag} {H : Hp} : ∀ {vs : List V} {rs : List Rw}, Paired (RwT H) vs rs → DpAll K H vs (rs.map rwD)
  | _, _, .nil => .nil
  | _, _, .cons h t => .cons h.dp (rws_dp t)
theorem sw_beq (a b : Wd) : (sw a == sw b) = decide (a = b) := by
  by_cases h : a = b
  · rw [h]; simp
  · rw [decide_eq_false h]
    exact beq_eq_false_iff_ne.mpr fun z => h (sw_inj z)
theorem oD_eqv (o o' : Option Int) : PyData.eqv (oD o) (oD o') = decide (o = o') := by
  cases o <;> cases o' <;> simp [oD, PyData.eqv] <;> first | rfl | exact Bool.eq_iff_iff.mpr (by simp)
theorem rwD_eqv (r r' : Rw) : PyData.eqv (rwD r) (rwD r') = decide (r = r') := by
  obtain ⟨p, o, f⟩ := r
  obtain ⟨p', o', f'⟩ := r'
  unfold rwD
  simp only [PyData.eqv, PyData.eqvAll, oD_eqv, sw_beq]
  rw [Bool.eq_iff_iff]
  simp [Prod.mk.injEq]
theorem rws_eqv : ∀ rs rs' : List Rw, PyData.eqvAll (rs.map rwD) (rs'.map rwD) = decide (rs = rs')
  | [], [] => by simp [PyData.eqvAll]
  | [], _ :: _ => by simp [PyData.eqvAll]
  | _ :: _, [] => by simp [PyData.eqvAll]
  | r :: rs, r' :: rs' => by
    simp only [List.map_cons, PyData.eqvAll, rwD_eqv, rws_eqv rs rs']
    rw [Bool.eq_iff_iff]
    simp
theorem oD_lay (o : Option Int) : PyData.canLay0 (oD o) = true ∧ PyData.depth (oD o) = 0 := by
  cases o <;> exact ⟨rfl, rfl⟩
theorem str_ok {p : Wd} (h : ∀ c ∈ p, c < 200) : PyData.strOk (sw p) = true := by
  show p.toArray.all (· < 0x110000) = true
  rw [← Array.all_toList, List.all_eq_true]
  exact fun c hc => decide_eq_true (Nat.lt_trans (h c hc) (by decide))
theorem rwD_lay (r : Rw) (hr : ∀ c ∈ r.1, c < 200) : PyData.canLay0 (rwD r) = true ∧ PyData.depth (rwD r) ≤ 1 := by
  unfold rwD
  constructor
  · simp only [PyData.canLay0, PyData.canLayAll0, (oD_lay r.2.1).1, str_ok hr]
    rfl
  · simp only [PyData.depth, PyData.depthAll, (oD_lay r.2.1).2]
    omega
theorem rws_lay : ∀ rs : List Rw, (∀ r ∈ rs, ∀ c ∈ r.1, c < 200) → PyData.canLayAll0 (rs.map rwD) = true ∧ PyData.depthAll (rs.map rwD) ≤ 2
  | [], _ => ⟨rfl, by simp [PyData.depthAll]⟩
  | r :: rs, h => by
    obtain ⟨h1, h2⟩ := rws_lay rs fun x hx => h x (List.mem_cons_of_mem _ hx)
    obtain ⟨h3, h4⟩ := rwD_lay r (h r List.mem_cons_self)
    refine ⟨by simp only [List.map_cons, PyData.canLayAll0, h1, h3]; rfl, ?_⟩
    simp only [List.map_cons, PyData.depthAll]
    omega
theorem shaped_of {d : PyData} (h1 : PyData.canLay0 d = true) (h2 : PyData.depth d ≤ 64) : SeqAt.shaped d = true := by
  show (PyData.canLay0 d && decide (PyData.depth d ≤ 64)) = true
  rw [Bool.and_eq_true]
  exact ⟨h1, decide_eq_true h2⟩
theorem rws_shaped {rs : List Rw} (h : ∀ r ∈ rs, ∀ c ∈ r.1, c < 200) : SeqAt.shaped (.tuple (rs.map rwD)) = true := by
  obtain ⟨h1, h2⟩ := rws_lay rs h
  exact shaped_of (by simp only [PyData.canLay0]; exact h1) (by simp only [PyData.depth]; omega)
theorem rwD_shaped {r : Rw} (h : ∀ c ∈ r.1, c < 200) : SeqAt.shaped (rwD r) = true := shaped_of (rwD_lay r h).1 (by have := (rwD_lay r h).2; omega)
/-! ### what is looked for -/
/-- v is the text p, or no text -/
def PlV (K : PySem.W.Frag) (H : Hp) (v : V) : Option Wd → Prop
  | some p => v = .str (sw p)
  | none => ∃ t, TyX K H v t ∧ PySem.W.kitOne K t (.type "str") = some false
def inR (p : Option Wd) (rs : List Rw) : Bool := match p with
  | some p => decide (p ∈ rs.map (·.1))
  | none => false
def spEq (C : Addr) : Sp := fun vs H Q _ => ∃ x y z z' rs rs', vs = [.ref x, .ref y] ∧ TreeAt C H x z rs ∧ TreeAt C H y z' rs' ∧ Q (.bl (decide (z = z' ∧ rs = rs'))) H
def spHas (K : PySem.W.Frag) (C : Addr) : Sp := fun vs H Q _ => ∃ x z rs v p, vs = [.ref x, v] ∧ TreeAt C H x z rs ∧ (rs.map (·.1)).Nodup ∧ PlV K H v p ∧ Q (.bl (inR p rs)) H
def spRowOf (K : PySem.W.Frag) (C N : Addr) : Sp := fun vs H Q E => ∃ x z rs v p, vs = [.ref x, v] ∧ TreeAt C H x z rs ∧ (rs.map (·.1)).Nodup ∧ PlV K H v p ∧ (∀ r ∈ rs, p = some r.1 → ∀ u, RwT H u r → Q u H) ∧
  (inR p rs = false → ∀ H' d, Same H H' → H d = none → H' d = some (exd d [("place", v)]) → E (.ref N) (some d) H')
def spBelow (K : PySem.W.Frag) (C N : Addr) : Sp := fun vs H Q E => ∃ x z rs v p, vs = [.ref x, v] ∧ TreeAt C H x z rs ∧ (rs.map (·.1)).Nodup ∧ PlV K H v p ∧ (∀ q ∈ rs.map (·.1), p = some q → Q (.str (sw (kids z (rs.map (·.1)) q))) H) ∧
  (inR p rs = false → ∀ H' d, Same H H' → H d = none → H' d = some (exd d [("place", v)]) → E (.ref N) (some d) H')
def spValueOf (K : PySem.W.Frag) (C : Addr) : Sp := fun vs H Q _ => ∃ x z rs v p, vs = [.ref x, v] ∧ TreeAt C H x z rs ∧ (rs.map (·.1)).Nodup ∧ PlV K H v p ∧ (∀ r ∈ rs, p = some r.1 → Q (oV r.2.1) H) ∧ (inR p rs = false → Q .non H)
def kept (rs : List Rw) : List Rw := rs.filter fun r => r.2.1.isSome
def KvT (H : Hp) (v : V) (r : Rw) : Prop := ∃ b, v = .ref b ∧ H b = some (.tup [.str (sw r.1), oV r.2.1])
theorem KvT.same {H H' : Hp} {v : V} {r : Rw} (s : Same H H') (h : KvT H v r) : KvT H' v r := let ⟨a, e, h⟩ := h; ⟨a, e, s _ _ h⟩
def spItems (C : Addr) : Sp := fun vs H Q _ => ∃ x z rs, vs = [.ref x] ∧ TreeAt C H x z rs ∧ rs.length ≤ 2000 ∧ ∀ H' t vs, Same H H' → H' t = some (.tup vs) → Paired (KvT H') vs (kept rs) → Q (.ref t) H'
section
variable {P : Program} {w : World} {K : PySem.W.Frag} {mg : Str → Option Value} {base : Heap}
theorem ok_Tree_has (T : Tx P K mg) (B : Bx T base) : FnOk P w K mg base CX0 1 T.a_Tree_has T.fd_Tree_has ["self", "place"] (spHas K T.c_Tree) := by
  refine okT T.F_Tree_has sc_Tree_has (fun vs H Q E h => ?_) (fun cdv A outer s H vs Q E hcd hr h => ?_)
  · obtain ⟨x, z, rs, v, p, rfl, _⟩ := h
    rfl
  have hu := hu_of hr
  have hu65 := hu65_of hr
  obtain ⟨x, z, rs, v, p, rfl, hx, nd, hv, q⟩ := h
  obtain ⟨dx, t, d, e, m, ws, us, x1, x2, x3, ⟨l, l1, l2⟩, x5, _⟩ := hx.ex
  refine ⟨_, (pss_one (ps_ret (pe_and (pe_callB call_isi (by rfl) T.b_isinstance (by decide +kernel) (pa_cons (pv 1) (pa_cons (pe_bltn (v := .ty "str") (by rfl) T.b_str (by decide +kernel) rfl) pa_nil))) (pe_one (pe_cmp (pc_din hu (pv 1) (pe_fld (pv 0) rfl))))))), ?_⟩
  have nl : (l.map (·.1)).Nodup := by rw [tri_fst l2]; exact (x5.map _).nodup_iff.mpr nd
  cases p with
  | none =>
    obtain ⟨ty, h1, h2⟩ := hv
    exact ⟨_, rfl, _, _, _, _, _, rfl, .ty _, h1, h2, _, rfl, iteF q⟩
  | some p =>
    cases (show v = .str (sw p) from hv)
    refine ⟨_, rfl, _, _, _, _, _, rfl, .ty _, .base (.str _), isi_s, _, rfl, iteT ?_⟩
    refine ⟨_, rfl, _, rfl, x, _, dx, _, _, rfl, x1, T.cl_Tree, T.na_Tree_triples, tf_triples, d, valV (kdl l) (.inr (sw p)), rfl, dget_kdl l1 p, ?_⟩
    rw [kdl_is nl, tri_fst l2]
    have e1 : decide (p ∈ us.map (·.1)) = inR (some p) rs := decide_eq_decide.mpr (x5.map _).mem_iff
    rw [e1]
    exact q
end
end Toy
set_option Elab.async false
set_option linter.all false
set_option maxRecDepth 100000
set_option maxHeartbeats 4000000
namespace Toy
open PySem L2 Sh ShL LamX NdefX
theorem tri_row {H : Hp} {l : List (Wd × V)} {us : List Rw} {r : Rw} (nd : (us.map (·.1)).Nodup) (h : Paired (fun (q : Wd × V) r => q.1 = r.1 ∧ RwT H q.2 r) l us) (m : r ∈ us) : ∃ v, valV (kdl l) (.inr (sw r.1)) = some v ∧ RwT H v r := by
  obtain ⟨v, h1, h2⟩ := tri_get h m
  exact ⟨v, kdl_some (by rw [tri_fst h]; exact nd) h1, h2⟩
theorem inR_of {p : Wd} {rs : List Rw} (h : inR (some p) rs = true) : ∃ r ∈ rs, p = r.1 := by
  obtain ⟨r, hr, e⟩ := List.mem_map.mp (of_decide_eq_true h)
  exact ⟨r, hr, e.symm⟩
section
variable {P : Program} {w : World} {K : PySem.W.Frag} {mg : Str → Option Value} {base : Heap}
theorem ok_Tree_row (T : Tx P K mg) (B : Bx T base) : FnOk P w K mg base (L2.CX P w) 3 T.a_Tree_row T.fd_Tree_row ["self", "place"] (spRowOf K T.c_Tree T.c_NoPlace) := by
  refine T.F_Tree_row.okX sc_Tree_row (fun vs H Q E h => ?_) (fun cdv A outer s H vs Q E hr h => ?_)
  · obtain ⟨x, z, rs, v, p, rfl, _⟩ := h
    rfl
  have hu := hu_of hr
  have hu65 := hu65_of hr
  obtain ⟨x, z, rs, v, p, rfl, hx, nd, hv, q1, q2⟩ := h
  obtain ⟨dx, t, d, e, m, ws, us, x1, x2, x3, ⟨l, l1, l2⟩, x5, _⟩ := hx.ex
  refine ⟨_, (pss_cons (ps_if (pt_not (pt_val (pe_meth (pv 0) T.cl_Tree T.me_Tree_has (ok_Tree_has (w := w) T B) (hr.mono (by decide)) T.bi_Tree_has .nil pass0 (pa_cons (pv 1) pa_nil))))
 (pss_one (ps_raiseX rfl rfl (takes_of rfl rfl rfl rfl) (pe_oexN T.i_NoPlace.m (ok_x_NoPlace T) (hr.mono (by decide)) (by rfl) T.m_NoPlace T.kb_NoPlace_1 pass0 (pa_cons (pv 1) pa_nil) pk_nil)))
 pss_nil)
 (pss_one (ps_ret (pe_dget hu (pe_fld (pv 0) rfl) (pv 1) (fun _ _ => rfl))))), ?_⟩
  refine ⟨_, rfl, x, dx, _, rfl, x1, tf_no (by decide +kernel), _, rfl, x, z, rs, v, p, rfl, hx, nd, hv, _, rfl, ?_⟩
  cases hb : inR p rs with
  | false =>
    refine iteT ?_
    exact mk_raise (vs := [v]) (zs := []) (fun a ha => fr0_none ha) T.x_NoPlace.raises (fun R h => ⟨_, rfl, h⟩) (fun R h => h) rfl rfl rfl fun H' d' s n e => q2 hb _ _ s n e
  | true =>
    refine iteF ?_
    cases p with
    | none => cases hb
    | some p =>
      obtain ⟨r, hr, rfl⟩ := inR_of hb
      cases (show v = .str (sw r.1) from hv)
      have nu : (us.map (·.1)).Nodup := (x5.map _).nodup_iff.mpr nd
      obtain ⟨u, h1, h2⟩ := tri_row nu l2 (x5.mem_iff.mpr hr)
      have g := dget_kdl l1 r.1
      rw [h1] at g
      exact ⟨_, rfl, x, _, dx, _, _, rfl, x1, T.cl_Tree, T.na_Tree_triples, tf_triples, _, rfl, d, u, rfl, g, q1 r hr rfl u h2⟩
theorem ok_Tree_below (T : Tx P K mg) (B : Bx T base) : FnOk P w K mg base (L2.CX P w) 3 T.a_Tree_below T.fd_Tree_below ["self", "place"] (spBelow K T.c_Tree T.c_NoPlace) := by
  refine T.F_Tree_below.okX sc_Tree_below (fun vs H Q E h => ?_) (fun cdv A outer s H vs Q E hr h => ?_)
  · obtain ⟨x, z, rs, v, p, rfl, _⟩ := h
    rfl
  have hu := hu_of hr
  have hu65 := hu65_of hr
  obtain ⟨x, z, rs, v, p, rfl, hx, nd, hv, q1, q2⟩ := h
  obtain ⟨dx, t, d, e, m, ws, us, x1, x2, x3, x4, x5, x6, _⟩ := hx.ex
  refine ⟨_, (pss_cons (ps_if (pt_not (pt_val (pe_meth (pv 0) T.cl_Tree T.me_Tree_has (ok_Tree_has (w := w) T B) (hr.mono (by decide)) T.bi_Tree_has .nil pass0 (pa_cons (pv 1) pa_nil))))
 (pss_one (ps_raiseX rfl rfl (takes_of rfl rfl rfl rfl) (pe_oexN T.i_NoPlace.m (ok_x_NoPlace T) (hr.mono (by decide)) (by rfl) T.m_NoPlace T.kb_NoPlace_1 pass0 (pa_cons (pv 1) pa_nil) pk_nil)))
 pss_nil)
 (pss_one (ps_ret (pe_dget hu (pe_fld (pv 0) rfl) (pv 1) (fun _ _ => rfl))))), ?_⟩
  refine ⟨_, rfl, x, dx, _, rfl, x1, tf_no (by decide +kernel), _, rfl, x, z, rs, v, p, rfl, hx, nd, hv, _, rfl, ?_⟩
  cases hb : inR p rs with
  | false =>
    refine iteT ?_
    exact mk_raise (vs := [v]) (zs := []) (fun a ha => fr0_none ha) T.x_NoPlace.raises (fun R h => ⟨_, rfl, h⟩) (fun R h => h) rfl rfl rfl fun H' d' s n e => q2 hb _ _ s n e
  | true =>
    refine iteF ?_
    cases p with
    | none => cases hb
    | some p =>
      cases (show v = .str (sw p) from hv)
      have hp : p ∈ rs.map (·.1) := of_decide_eq_true hb
      have g := dget_kdl x6 p
      rw [kdl_some (by rw [wayl_fst]; exact nd) (List.mem_map.mpr ⟨p, hp, rfl⟩)] at g
      exact ⟨_, rfl, x, _, dx, _, _, rfl, x1, T.cl_Tree, T.na_Tree_ways, tf_ways, _, rfl, e, _, rfl, g, q1 p hp rfl⟩
end
end Toy
set_option Elab.async false
set_option linter.all false
set_option maxRecDepth 100000
set_option maxHeartbeats 4000000
namespace Toy
open PySem L2 Sh ShL LamX NdefX
/-! ### kinds -/
abbrev Kd := Bool × Bool × Int
def kdD (k : Kd) : PyData := .tuple [.bool k.1, .bool k.2.1, .int k.2.2]
def IsK (H : Hp) (v : V) (k : Kd) : Prop := ∃ t, v = .ref t ∧ H t = some (.tup [.bl k.1, .bl k.2.1, .int k.2.2])
abbrev AllK (H : Hp) : List V → List Kd → Prop := Paired (IsK H)
theorem IsK.dp {K : PySem.W.Frag} {H : Hp} {v : V} {k : Kd} (h : IsK H v k) : Dp K H v (kdD k) := by
  obtain ⟨t, rfl, e⟩ := h
  exact .tup (SqT.of e) (.cons (.bl _) (.cons (.bl _) (.cons (.int _) .nil)))
theorem AllK.dp {K : PySem.W.Frag} {H : Hp} : ∀ {vs : List V} {ks : List Kd}, AllK H vs ks → DpAll K H vs (ks.map kdD)
  | _, _, .nil => .nil
  | _, _, .cons r t => .cons r.dp (AllK.dp t)
theorem IsK.same {H H' : Hp} {v : V} {k : Kd} (s : Same H H') (h : IsK H v k) : IsK H' v k := by
  obtain ⟨t, rfl, e⟩ := h
  exact ⟨t, rfl, s _ _ e⟩
theorem IsK.kp {H H' : Hp} {d : Addr} {v : V} {k : Kd} (s : Kp d H H') (hd : ∃ kvs, H d = some (.dK kvs)) (h : IsK H v k) : IsK H' v k := by
  obtain ⟨t, rfl, e⟩ := h
  obtain ⟨kvs, hd⟩ := hd
  exact ⟨t, rfl, s _ _ e (ne_of e hd (by intro z; cases z))⟩
theorem AllK.mono {H H' : Hp} (f : ∀ v k, IsK H v k → IsK H' v k) : ∀ {vs : List V} {ks : List Kd}, AllK H vs ks → AllK H' vs ks
  | _, _, .nil => .nil
  | _, _, .cons r t => .cons (f _ _ r) (AllK.mono f t)
theorem AllK.same {H H' : Hp} {vs : List V} {ks : List Kd} (s : Same H H') (h : AllK H vs ks) : AllK H' vs ks := AllK.mono (fun _ _ => IsK.same s) h
theorem AllK.len {H : Hp} : ∀ {vs : List V} {ks : List Kd}, AllK H vs ks → vs.length = ks.length
  | _, _, .nil => rfl
  | _, _, .cons _ t => congrArg (· + 1) (AllK.len t)
theorem AllK.get {H : Hp} : ∀ {vs : List V} {ks : List Kd} {i : Nat} {v : V}, AllK H vs ks → vs[i]? = some v → ∃ k, ks[i]? = some k ∧ IsK H v k
  | _, _, _, _, .nil, e => by simp at e
  | _, _, 0, _, .cons r _, e => by simp at e; subst e; exact ⟨_, rfl, r⟩
  | _, _, i + 1, v, .cons _ t, e => by
    obtain ⟨k, h1, h2⟩ := AllK.get (i := i) (v := v) t (by simpa using e)
    exact ⟨k, by simpa using h1, h2⟩
theorem AllK.append {H : Hp} : ∀ {vs ws : List V} {ks js : List Kd}, AllK H vs ks → AllK H ws js → AllK H (vs ++ ws) (ks ++ js)
  | _, _, _, _, .nil, s => s
  | _, _, _, _, .cons r t, s => .cons r (AllK.append t s)
theorem AllK.take {H : Hp} : ∀ {vs : List V} {ks : List Kd} (n : Nat), AllK H vs ks → AllK H (vs.take n) (ks.take n)
  | _, _, 0, _ => .nil
  | _, _, _ + 1, .nil => .nil
  | _, _, n + 1, .cons r t => .cons r (AllK.take n t)
theorem AllK.drop {H : Hp} : ∀ {vs : List V} {ks : List Kd} (n : Nat), AllK H vs ks → AllK H (vs.drop n) (ks.drop n)
  | _, _, 0, r => r
  | _, _, _ + 1, .nil => .nil
  | _, _, n + 1, .cons _ t => AllK.drop n t
theorem kd_eqv (a b : Kd) : PyData.eqv (kdD a) (kdD b) = decide (a = b) := by
  obtain ⟨a1, a2, a3⟩ := a
  obtain ⟨b1, b2, b3⟩ := b
  simp only [kdD, PyData.eqv, PyData.eqvAll]
  cases a1 <;> cases a2 <;> cases b1 <;> cases b2 <;> simp [Bool.beq_eq_decide_eq]
theorem kd_any (k : Kd) : ∀ ks : List Kd, ((ks.map kdD).any fun z => PyData.eqv z (kdD k)) = decide (k ∈ ks)
  | [] => by simp
  | a :: ks => by
    rw [List.map_cons, List.any_cons, kd_any k ks, kd_eqv]
    by_cases h : a = k
    · subst h; simp
    · have h' : ¬ k = a := fun e => h e.symm
      simp [h, h']
theorem kd_depth (k : Kd) : (kdD k).depth = 1 := by simp [kdD, PyData.depth, PyData.depthAll]
theorem kd_lay (k : Kd) : (kdD k).canLay0 = true := by simp [kdD, PyData.canLay0, PyData.canLayAll0]
theorem kds_lay : ∀ ks : List Kd, PyData.canLayAll0 (ks.map kdD) = true
  | [] => by simp [PyData.canLayAll0]
  | z :: zs => by simp [PyData.canLayAll0, kd_lay z, kds_lay zs]
theorem kds_depth : ∀ ks : List Kd, PyData.depthAll (ks.map kdD) ≤ 1
  | [] => by simp [PyData.depthAll]
  | z :: zs => by
    have h1 := kds_depth zs
    have h2 := kd_depth z
    simp only [List.map_cons, PyData.depthAll]
    omega
theorem kd_shaped (k : Kd) : SeqAt.shaped (kdD k) = true := by
  have h := kd_depth k
  show ((kdD k).canLay0 && decide ((kdD k).depth ≤ 64)) = true
  rw [Bool.and_eq_true]
  exact ⟨kd_lay k, decide_eq_true (by omega)⟩
theorem kds_shapedL (ks : List Kd) : SeqAt.shaped (.list (ks.map kdD)) = true := by
  have h1 := kds_depth ks
  have h2 : PyData.depth (.list (ks.map kdD)) ≤ 64 := by
    simp only [PyData.depth]
    omega
  show (PyData.canLay0 (.list (ks.map kdD)) && decide (PyData.depth (.list (ks.map kdD)) ≤ 64)) = true
  rw [Bool.and_eq_true]
  exact ⟨by simp only [PyData.canLay0]; exact kds_lay ks, decide_eq_true h2⟩
theorem kds_shapedT (ks : List Kd) : SeqAt.shaped (.tuple (ks.map kdD)) = true := by
  have h1 := kds_depth ks
  have h2 : PyData.depth (.tuple (ks.map kdD)) ≤ 64 := by
    simp only [PyData.depth]
    omega
  show (PyData.canLay0 (.tuple (ks.map kdD)) && decide (PyData.depth (.tuple (ks.map kdD)) ≤ 64)) = true
  rw [Bool.and_eq_true]
  exact ⟨by simp only [PyData.canLay0]; exact kds_lay ks, decide_eq_true h2⟩
theorem kd_alike (a b : Kd) : PySem.W.alike (kdD a) (kdD b) = true := by simp [kdD, PySem.W.alike, PySem.W.alikeAll]
theorem AllK.dpa {K : PySem.W.Frag} {H : Hp} {vs : List V} {ks : List Kd} (h : AllK H vs ks) : DpAll K H vs (ks.map kdD) := AllK.dp h
theorem kdD_inj {a b : Kd} (h : kdD a = kdD b) : a = b := by
  obtain ⟨a1, a2, a3⟩ := a
  obtain ⟨b1, b2, b3⟩ := b
  simp only [kdD, PyData.tuple.injEq, List.cons.injEq, PyData.bool.injEq, PyData.int.injEq] at h
  obtain ⟨h1, h2, h3, _⟩ := h
  rw [h1, h2, h3]
theorem kds_eqv : ∀ ks js : List Kd, PyData.eqvAll (ks.map kdD) (js.map kdD) = decide (ks = js)
  | [], [] => by simp [PyData.eqvAll]
  | [], _ :: _ => by simp [PyData.eqvAll]
  | _ :: _, [] => by simp [PyData.eqvAll]
  | k :: ks, j :: js => by
    simp only [List.map_cons, PyData.eqvAll, kd_eqv, kds_eqv ks js]
    rw [Bool.eq_iff_iff]
    simp
/-! the order of kinds -/
def leK (a b : Kd) : Bool := PySem.W.dataLe false kdD a b
theorem leK_total : PySem.W.TotalLe leK := PySem.W.sortLe_total (PyProof.Rows.listOrd PyProof.Rows.itemOrd) false fun k => PySem.W.keyToks (kdD k)
theorem toks_inj {a b : Kd} (h : PySem.W.keyToks (kdD a) = PySem.W.keyToks (kdD b)) : a = b := by
  obtain ⟨a1, a2, a3⟩ := a
  obtain ⟨b1, b2, b3⟩ := b
  simp only [kdD, PySem.W.keyToks, PySem.W.keyToksAll, List.cons_append, List.nil_append, List.cons.injEq, Sum.inl.injEq, true_and, and_true] at h
  obtain ⟨h1, h2, h3⟩ := h
  subst h3
  cases a1 <;> cases b1 <;> cases a2 <;> cases b2 <;> simp_all
theorem leK_anti {a b : Kd} (h1 : leK a b = true) (h2 : leK b a = true) : a = b := by
  have e1 : (!(PyProof.Rows.listOrd PyProof.Rows.itemOrd).blt (PySem.W.keyToks (kdD b)) (PySem.W.keyToks (kdD a))) = true := h1
  have e2 : (!(PyProof.Rows.listOrd PyProof.Rows.itemOrd).blt (PySem.W.keyToks (kdD a)) (PySem.W.keyToks (kdD b))) = true := h2
  rw [Bool.not_eq_true'] at e1 e2
  exact toks_inj ((PyProof.Rows.listOrd PyProof.Rows.itemOrd).total _ _ e2 e1)
/-- ascending -/
abbrev SrtK (ks : List Kd) : Prop := ks.Pairwise fun a b => leK a b = true
theorem srt_uniq {ks js : List Kd} (h1 : SrtK ks) (h2 : SrtK js) (p : ks.Perm js) : ks = js :=
  List.Perm.eq_of_pairwise (le := fun a b => leK a b = true) (fun a b _ _ x y => leK_anti x y) h1 h2 p
theorem pairs_k {H : Hp} : ∀ (L : List (V × PyData)), (∀ p ∈ L, ∃ k, p.2 = kdD k ∧ IsK H p.1 k) → ∃ js, AllK H (L.map Prod.fst) js ∧ L.map Prod.snd = js.map kdD
  | [], _ => ⟨[], .nil, rfl⟩
  | p :: L, h => by
    obtain ⟨js, h1, h2⟩ := pairs_k L fun p hp => h p (List.mem_cons_of_mem _ hp)
    obtain ⟨k, e, hk⟩ := h p List.mem_cons_self
    exact ⟨k :: js, .cons hk h1, by rw [List.map_cons, List.map_cons, h2, e]⟩
theorem zip_k {H : Hp} : ∀ {xs : List V} {ks : List Kd}, AllK H xs ks → ∀ p ∈ xs.zip (ks.map kdD), ∃ k, p.2 = kdD k ∧ IsK H p.1 k
  | _, _, .nil, p, hp => by simp at hp
  | _, _, .cons r t, p, hp => by
    rw [List.map_cons, List.zip_cons_cons, List.mem_cons] at hp
    rcases hp with rfl | hp
    · exact ⟨_, rfl, r⟩
    · exact zip_k t p hp
theorem map_perm {js ks : List Kd} (h : (js.map kdD).Perm (ks.map kdD)) : js.Perm ks := by
  have : ((js.map kdD).map fun d => match d with | .tuple [.bool a, .bool b, .int c] => ((a, b, c) : Kd) | _ => (false, false, 0)).Perm ((ks.map kdD).map fun d => match d with | .tuple [.bool a, .bool b, .int c] => ((a, b, c) : Kd) | _ => (false, false, 0)) := h.map _
  rw [List.map_map, List.map_map] at this
  have e : ∀ l : List Kd, l.map ((fun d => match d with | .tuple [.bool a, .bool b, .int c] => ((a, b, c) : Kd) | _ => (false, false, 0)) ∘ kdD) = l := fun l => by
    conv => rhs; rw [← List.map_id l]
    exact List.map_congr_left fun k _ => rfl
  rw [e, e] at this
  exact this
theorem sort_k {H : Hp} {xs : List V} {ks : List Kd} (h : AllK H xs ks) : ∃ js, AllK H ((sortPairs xs (ks.map kdD)).map Prod.fst) js ∧ js.Perm ks ∧ SrtK js := by
  have hp : (sortPairs xs (ks.map kdD)).Perm (xs.zip (ks.map kdD)) := List.mergeSort_perm _ _
  obtain ⟨js, h1, h2⟩ := pairs_k (H := H) (sortPairs xs (ks.map kdD)) fun p hp' => zip_k h p (hp.mem_iff.mp hp')
  have h3 : (js.map kdD).Perm (ks.map kdD) := by
    rw [← h2]
    have := hp.map Prod.snd
    rw [zip_snd (by rw [List.length_map]; exact AllK.len h)] at this
    exact this
  refine ⟨js, h1, map_perm h3, ?_⟩
  have tl : PySem.W.TotalLe (PySem.W.dataLe false (Prod.snd : V × PyData → PyData)) := PySem.W.sortLe_total _ _ _
  have h4 := List.pairwise_mergeSort (le := PySem.W.dataLe false (Prod.snd : V × PyData → PyData)) tl.trans (fun a b => by
    rcases tl.total a b with z | z <;> simp [z]) (xs.zip (ks.map kdD))
  have h5 : ((sortPairs xs (ks.map kdD)).map Prod.snd).Pairwise fun a b => PySem.W.dataLe false id a b = true := List.pairwise_map.mpr h4
  rw [h2, List.pairwise_map] at h5
  exact h5
theorem alike_k (ks : List Kd) : PySem.W.AllAlike (ks.map kdD) := PySem.W.AllAlike.of kd_alike
theorem sortable_k (ks : List Kd) : PySem.W.Sortable (ks.map kdD) := PySem.W.Sortable.tuples fun b => ⟨_, _, rfl⟩
theorem depth_k (ks : List Kd) : ∀ d ∈ ks.map kdD, d.depth ≤ 60 := fun d hd => by
  obtain ⟨k, _, rfl⟩ := List.mem_map.mp hd
  rw [kd_depth]
  decide
end Toy
set_option Elab.async false
set_option linter.all false
set_option maxRecDepth 100000
set_option maxHeartbeats 4000000
namespace Toy
open PySem L2 Sh ShL LamX NdefX
/-! ### is_kind, kinds_of -/
abbrev kdVs (k : Kd) : List V := [.bl k.1, .bl k.2.1, .int k.2.2]
/-- a kind, told by a list or a tuple -/
def KiE (H : Hp) (v : V) (k : Kd) : Prop := ∃ t, v = .ref t ∧ (H t = some (.lst (kdVs k)) ∨ H t = some (.tup (kdVs k)))
def Bad3 (H : Hp) (x y z : V) : Prop := (∃ t, TyN H x t ∧ t ≠ "bool") ∨ ((∃ b, x = .bl b) ∧ ((∃ t, TyN H y t ∧ t ≠ "bool") ∨ ((∃ c, y = .bl c) ∧ ((∃ t, TyN H z t ∧ t ≠ "int") ∨ ∃ i : Int, z = .int i ∧ (i < 0 ∨ 2 < i)))))
/-- none -/
def NoK (H : Hp) (v : V) : Prop := (∃ t, TyN H v t ∧ t ≠ "list" ∧ t ≠ "tuple") ∨ ∃ p xs, v = .ref p ∧ (H p = some (.lst xs) ∨ H p = some (.tup xs)) ∧ (xs.length ≠ 3 ∨ ∃ x y z, xs = [x, y, z] ∧ Bad3 H x y z)
def KV (H : Hp) (v : V) : Option Kd → Prop
  | some k => KiE H v k ∧ 0 ≤ k.2.2 ∧ k.2.2 ≤ 2
  | none => NoK H v
/-- lists and tuples stay, dicts stay dicts -/
theorem KiE.kp {H H' : Hp} {v : V} {k : Kd} (s : KpS H H') (h : KiE H v k) : KiE H' v k := let ⟨t, e, h⟩ := h; ⟨t, e, h.imp (s.1 _ _) (s.2.1 _ _)⟩
theorem IsK.kpS {H H' : Hp} {v : V} {k : Kd} (s : KpS H H') (h : IsK H v k) : IsK H' v k := let ⟨t, e, h⟩ := h; ⟨t, e, s.2.1 _ _ h⟩
theorem IsK.e {H : Hp} {v : V} {k : Kd} (h : IsK H v k) : KiE H v k := let ⟨t, e, h⟩ := h; ⟨t, e, .inr h⟩
theorem Bad3.kp {H H' : Hp} {x y z : V} (s : KpS H H') (h : Bad3 H x y z) : Bad3 H' x y z := by
  rcases h with ⟨t, h, n⟩ | ⟨b, ⟨t, h, n⟩ | ⟨c, ⟨t, h, n⟩ | h⟩⟩
  · exact .inl ⟨t, h.kp s.t, n⟩
  · exact .inr ⟨b, .inl ⟨t, h.kp s.t, n⟩⟩
  · exact .inr ⟨b, .inr ⟨c, .inl ⟨t, h.kp s.t, n⟩⟩⟩
  · exact .inr ⟨b, .inr ⟨c, .inr h⟩⟩
theorem NoK.kp {H H' : Hp} {v : V} (s : KpS H H') (h : NoK H v) : NoK H' v := by
  rcases h with ⟨t, h, n⟩ | ⟨p, xs, e, h, n | ⟨x, y, z, e2, n⟩⟩
  · exact .inl ⟨t, h.kp s.t, n⟩
  · exact .inr ⟨p, xs, e, h.imp (s.1 _ _) (s.2.1 _ _), .inl n⟩
  · exact .inr ⟨p, xs, e, h.imp (s.1 _ _) (s.2.1 _ _), .inr ⟨x, y, z, e2, n.kp s⟩⟩
theorem KV.kp {H H' : Hp} {v : V} : ∀ {o : Option Kd}, KpS H H' → KV H v o → KV H' v o
  | some _, s, ⟨h, r⟩ => ⟨h.kp s, r⟩
  | none, s, h => NoK.kp s h
abbrev AllV (H : Hp) : List V → List (Option Kd) → Prop := Paired (KV H)
theorem AllV.kp {H H' : Hp} {vs : List V} {os : List (Option Kd)} (s : KpS H H') (h : AllV H vs os) : AllV H' vs os := paired_mono (fun _ _ q => KV.kp s q) h
theorem AllK.kpS {H H' : Hp} {vs : List V} {ks : List Kd} (s : KpS H H') (h : AllK H vs ks) : AllK H' vs ks := paired_mono (fun _ _ q => IsK.kpS s q) h
def spIsKind : Sp := fun vs H Q _ => ∃ (v : V) (o : Option Kd), vs = [v] ∧ KV H v o ∧ ∀ H', Same H H' → Q (.bl o.isSome) H'
/-- the list's kinds, all of them right and none twice -/
def Fine (os : List (Option Kd)) (ks : List Kd) : Prop := os = ks.map some ∧ ks.Nodup
/-- at i the first that is wrong -/
def Wrong (os : List (Option Kd)) (i : Nat) : Prop := ∃ o ks, os[i]? = some o ∧ Fine (os.take i) ks ∧ (o = none ∨ ∃ k ∈ ks, o = some k)
def spKinds (C : Addr) : Sp := fun vs H Q E => ∃ (z : Str) (a : Addr) (xs : List V) (os : List (Option Kd)), vs = [.str z, .ref a] ∧ SqA H a xs ∧ AllV H xs os ∧ os.length ≤ 40 ∧
  (∀ ks, Fine os ks → ∀ H' p ys js, Same H H' → H p = none → H' p = some (.tup ys) → AllK H' ys js → js.Perm ks → SrtK js → Q (.ref p) H') ∧
  (∀ i, Wrong os i → ∀ H' d, Same H H' → H d = none → H' d = some (exd d [("number", .int (i : Nat)), ("side", .str z)]) → E (.ref C) (some d) H')
theorem fine_nil : Fine [] [] := ⟨rfl, List.nodup_nil⟩
theorem fine_add {os : List (Option Kd)} {ks : List Kd} {k : Kd} (h : Fine os ks) (n : k ∉ ks) : Fine (os ++ [some k]) (ks ++ [k]) := by
  refine ⟨by rw [h.1, List.map_append]; rfl, List.nodup_append.mpr ⟨h.2, by simp, fun a ha b hb => ?_⟩⟩
  rw [List.mem_singleton.mp hb]
  exact fun e => n (by rw [← e]; exact ha)
section
variable {P : Program} {w : World} {K : PySem.W.Frag} {mg : Str → Option Value} {base : Heap}
theorem ok_is_kind (T : Tx P K mg) (B : Bx T base) : FnOk P w K mg base CX0 1 T.a_is_kind T.fd_is_kind ["kind"] spIsKind := by
  refine okT T.F_is_kind sc_is_kind (fun vs H Q E h => ?_) (fun cdv A outer s H vs Q E hcd hr h => ?_)
  · obtain ⟨v, o, rfl, _⟩ := h
    rfl
  have hu := hu_of hr
  have hu65 := hu65_of hr
  obtain ⟨v, o, rfl, hv, q⟩ := h
  refine ⟨_, (pss_cons (ps_if (PW.pt (pw_or (pt_not (pt_val (pe_callB call_isiT (by rfl) T.b_isinstance (by decide +kernel) (pa_cons (pv 0) (pa_cons (pe_tup (pa_cons (pe_bltn (v := .ty "list") (by rfl) T.b_list (by decide +kernel) rfl) (pa_cons (pe_bltn (v := .ty "tuple") (by rfl) T.b_tuple (by decide +kernel) rfl) pa_nil))) pa_nil))))) (pw_or1 (pt_cmpR op_ne (pe_callB call_len_seq (by rfl) T.b_len (by decide +kernel) (pa_cons (pv 0) pa_nil)) pe_int (nomark _)))))
 (pss_one (ps_ret pe_bl))
 pss_nil)
 (pss_cons (ps_asg (pv 0) (pg_unE rfl (pgs_cons (pg_name (i := 1) sc_is_kind.nd rfl (by first | exact Or.inl rfl | exact Or.inr rfl)) (pgs_cons (pg_name (i := 2) sc_is_kind.nd rfl (by first | exact Or.inl rfl | exact Or.inr rfl)) (pgs_cons (pg_name (i := 3) sc_is_kind.nd rfl (by first | exact Or.inl rfl | exact Or.inr rfl)) pgs_nil)))))
 (pss_cons (ps_if (PW.pt (pw_or (pt_not (pt_val (pe_callB call_isi (by rfl) T.b_isinstance (by decide +kernel) (pa_cons (pv 1) (pa_cons (pe_bltn (v := .ty "bool") (by rfl) T.b_bool (by decide +kernel) rfl) pa_nil))))) (pw_or1 (pt_not (pt_val (pe_callB call_isi (by rfl) T.b_isinstance (by decide +kernel) (pa_cons (pv 2) (pa_cons (pe_bltn (v := .ty "bool") (by rfl) T.b_bool (by decide +kernel) rfl) pa_nil))))))))
 (pss_one (ps_ret pe_bl))
 pss_nil)
 (pss_one (ps_ret (pe_and (pe_callB call_isi (by rfl) T.b_isinstance (by decide +kernel) (pa_cons (pv 3) (pa_cons (pe_bltn (v := .ty "int") (by rfl) T.b_int (by decide +kernel) rfl) pa_nil))) (pe_and (pe_not (pe_callB call_isi (by rfl) T.b_isinstance (by decide +kernel) (pa_cons (pv 3) (pa_cons (pe_bltn (v := .ty "bool") (by rfl) T.b_bool (by decide +kernel) rfl) pa_nil)))) (pe_one (pe_chain op_le op_le pe_int (pv 3) pe_int))))))))), ?_⟩
  refine ⟨_, rfl, by decide, fun tp htp => ?_⟩
  have s1 := same_upd (o := .tup [V.ty "list", V.ty "tuple"]) htp
  have hv1 := KV.kp (kpS_same s1) hv
  have ht1 : (upd H tp (.tup [V.ty "list", V.ty "tuple"])) tp = some (.tup [V.ty "list", V.ty "tuple"]) := upd_same
  generalize upd H tp (.tup [V.ty "list", V.ty "tuple"]) = H1 at s1 hv1 ht1
  -- the tests behind: the three items
  have items : ∀ {x y z : V} (σ : L2.St), σ[1]? = some (some x) → σ[2]? = some (some y) → σ[3]? = some (some z) → σ.length = 4 →
      ((∃ b c i, x = .bl b ∧ y = .bl c ∧ z = .int i ∧ 0 ≤ i ∧ i ≤ 2 ∧ o.isSome = true) ∨ (Bad3 H1 x y z ∧ o.isSome = false)) →
      tSeq (tIfS (tOr (tNot (tB (tCB (rIsi K) (tCons (tVar 1) (tCons (tC (V.ty "bool")) tNil))))) (tNot (tB (tCB (rIsi K) (tCons (tVar 2) (tCons (tC (V.ty "bool")) tNil)))))) (tRet (tC (V.bl false))) tNext) (tRet (tAndV (tCB (rIsi K) (tCons (tVar 3) (tCons (tC (V.ty "int")) tNil))) (tAndV (tNotV (tCB (rIsi K) (tCons (tVar 3) (tCons (tC (V.ty "bool")) tNil)))) (tChain (rI0 fun i j => V.bl (decide (i ≤ j))) (rI0 fun i j => V.bl (decide (i ≤ j))) (tC (V.int 0)) (tVar 3) (tC (V.int 2)))))) { nx := fun _ H' => Q .non H', rt := Q } σ H1 := by
    intro x y z σ e1 e2 e3 el hb
    have isb : ∀ {u : V} {t : String} {i : Nat} (σ : L2.St) (R : VK), σ[i]? = some (some u) → TyN H1 u t → R (.bl (decide (t = "bool"))) H1 → tCB (rIsi K) (tCons (tVar i) (tCons (tC (V.ty "bool")) tNil)) σ H1 R := fun σ R e h q => ⟨_, e, _, _, _, _, _, rfl, .ty _, h.ty, kit_bool h.mem, q⟩
    have isn : ∀ {u : V} {t : String} {i : Nat} (σ : L2.St) (R : VK), σ[i]? = some (some u) → TyN H1 u t → R (.bl (decide (t = "int" ∨ t = "bool"))) H1 → tCB (rIsi K) (tCons (tVar i) (tCons (tC (V.ty "int")) tNil)) σ H1 R := fun σ R e h q => ⟨_, e, _, _, _, _, _, rfl, .ty _, h.ty, kit_int h.mem, q⟩
    have qq := q H1 s1
    rcases hb with ⟨b, c, i, rfl, rfl, rfl, h0, h2, ho⟩ | ⟨hb, ho⟩
    · rw [ho] at qq
      refine isb (t := "bool") _ _ e1 rfl ⟨_, rfl, iteF ?_⟩
      refine isb (t := "bool") _ _ e2 rfl ⟨_, rfl, iteF ?_⟩
      refine isn (t := "int") _ _ e3 rfl ⟨_, rfl, iteT ?_⟩
      refine isb (t := "int") _ _ e3 rfl ⟨_, rfl, _, rfl, iteT ?_⟩
      refine ⟨_, e3, _, _, rfl, rfl, _, rfl, ?_⟩
      rw [decide_eq_true h0]
      refine iteT ⟨_, _, rfl, rfl, ?_⟩
      show Q (.bl (decide (i ≤ 2))) _
      rw [decide_eq_true h2]
      exact qq
    · rw [ho] at qq
      rcases hb with ⟨t, h, n⟩ | ⟨⟨b, rfl⟩, hb⟩
      · refine isb _ _ e1 h ⟨_, rfl, ?_⟩
        rw [decide_eq_false n]
        exact iteT (iteT qq)
      refine isb (t := "bool") _ _ e1 rfl ⟨_, rfl, iteF ?_⟩
      rcases hb with ⟨t, h, n⟩ | ⟨⟨c, rfl⟩, hb⟩
      · refine isb _ _ e2 h ⟨_, rfl, ?_⟩
        rw [decide_eq_false n]
        exact iteT qq
      refine isb (t := "bool") _ _ e2 rfl ⟨_, rfl, iteF ?_⟩
      rcases hb with ⟨t, h, n⟩ | ⟨i, rfl, hi⟩
      · by_cases tb : t = "bool"
        · subst tb
          refine isn _ _ e3 h ⟨_, rfl, iteT ?_⟩
          refine isb _ _ e3 h ⟨_, rfl, _, rfl, iteF qq⟩
        · refine isn _ _ e3 h ⟨_, rfl, ?_⟩
          rw [decide_eq_false (by rintro (z | z); exact n z; exact tb z)]
          exact iteF qq
      · refine isn (t := "int") _ _ e3 rfl ⟨_, rfl, iteT ?_⟩
        refine isb (t := "int") _ _ e3 rfl ⟨_, rfl, _, rfl, iteT ?_⟩
        refine ⟨_, e3, _, _, rfl, rfl, _, rfl, ?_⟩
        refine ite2 (fun h => ?_) (fun h => ?_)
        · have h0 := of_decide_eq_true h
          refine ⟨_, _, rfl, rfl, ?_⟩
          show Q (.bl (decide (i ≤ 2))) _
          rw [decide_eq_false (by omega)]
          exact qq
        · exact qq
  rcases o with _ | k
  · rcases (show NoK H1 v from hv1) with ⟨t, h, n1, n2⟩ | ⟨p, xs, rfl, hp, hb⟩
    · refine ⟨_, tp, _, _, [.type "list", .type "tuple"], _, rfl, ht1, .cons (.ty _) (.cons (.ty _) .nil), h.ty, kit_lot h.mem, ?_⟩
      refine ⟨_, rfl, ?_⟩
      rw [decide_eq_false (by rintro (z | z); exact n1 z; exact n2 z)]
      exact iteT (iteT (q _ s1))
    · obtain ⟨t, ht, ty⟩ : ∃ t, TyN H1 (.ref p) t ∧ (t = "list" ∨ t = "tuple") := hp.elim (fun h => ⟨"list", .inl ⟨rfl, _, h⟩, .inl rfl⟩) fun h => ⟨"tuple", .inr (.inl ⟨rfl, _, h⟩), .inr rfl⟩
      refine ⟨_, tp, _, _, [.type "list", .type "tuple"], _, rfl, ht1, .cons (.ty _) (.cons (.ty _) .nil), ht.ty, kit_lot ht.mem, ?_⟩
      refine ⟨_, rfl, ?_⟩
      rw [decide_eq_true ty]
      refine iteF ⟨_, rfl, p, xs, rfl, RwE.sq hp, rfl, _, rfl, ?_⟩
      rcases hb with hb | ⟨x, y, z, rfl, hb⟩
      · have e : decide (V.int ((xs.length : Nat) : Int) = V.int 3) = false := decide_eq_false fun z => hb (by have := V.int.inj z; omega)
        rw [e]
        exact iteT (q _ s1)
      · refine iteF ⟨_, rfl, p, _, rfl, RwE.sq hp, rfl, _, _, rfl, _, _, rfl, _, _, rfl, rfl, ?_⟩
        exact items _ rfl rfl rfl rfl (.inr ⟨hb, rfl⟩)
  · obtain ⟨⟨p, rfl, hp⟩, h0, h2⟩ := hv1
    obtain ⟨t, ht, ty⟩ : ∃ t, TyN H1 (.ref p) t ∧ (t = "list" ∨ t = "tuple") := hp.elim (fun h => ⟨"list", .inl ⟨rfl, _, h⟩, .inl rfl⟩) fun h => ⟨"tuple", .inr (.inl ⟨rfl, _, h⟩), .inr rfl⟩
    refine ⟨_, tp, _, _, [.type "list", .type "tuple"], _, rfl, ht1, .cons (.ty _) (.cons (.ty _) .nil), ht.ty, kit_lot ht.mem, ?_⟩
    refine ⟨_, rfl, ?_⟩
    rw [decide_eq_true ty]
    refine iteF ⟨_, rfl, p, _, rfl, RwE.sq hp, rfl, _, rfl, ?_⟩
    refine iteF ⟨_, rfl, p, _, rfl, RwE.sq hp, rfl, _, _, rfl, _, _, rfl, _, _, rfl, rfl, ?_⟩
    exact items _ rfl rfl rfl rfl (.inl ⟨_, _, _, rfl, rfl, rfl, h0, h2, rfl⟩)
end
end Toy
set_option Elab.async false
set_option linter.all false
set_option maxRecDepth 100000
set_option maxHeartbeats 4000000
namespace Toy
open PySem L2 Sh ShL LamX NdefX
theorem IsK.put {H : Hp} {D : Addr} {xs ys : List V} {v : V} {k : Kd} (h : H D = some (.lst xs)) (hk : IsK H v k) : IsK (upd H D (.lst ys)) v k := by
  obtain ⟨t, rfl, e⟩ := hk
  exact ⟨t, rfl, by rw [upd_ne (ne_of e h (by intro z; cases z))]; exact e⟩
theorem AllK.put {H : Hp} {D : Addr} {xs ys : List V} {vs : List V} {ks : List Kd} (h : H D = some (.lst xs)) (a : AllK H vs ks) : AllK (upd H D (.lst ys)) vs ks := AllK.mono (fun _ _ => IsK.put h) a
theorem fine_wrong_take {os : List (Option Kd)} {i : Nat} {o : Option Kd} (h : os[i]? = some o) : os.take (i + 1) = os.take i ++ [o] := by
  rw [List.take_add_one, h]
  rfl
section
variable {P : Program} {w : World} {K : PySem.W.Frag} {mg : Str → Option Value} {base : Heap}
theorem ok_kinds_of (T : Tx P K mg) (B : Bx T base) : FnOk P w K mg base (L2.CX P w) 3 T.a_kinds_of T.fd_kinds_of ["side", "kinds"] (spKinds T.c_BadKind) := by
  refine T.F_kinds_of.okX sc_kinds_of (fun vs H Q E h => ?_) (fun cdv A outer s H vs Q E hr h => ?_)
  · obtain ⟨z, a, xs, os, rfl, _⟩ := h
    rfl
  have hu := hu_of hr
  have hu65 := hu65_of hr
  obtain ⟨z, a, xs, os, rfl, ha, hv, hl, q1, q2⟩ := h
  have hxl : xs.length = os.length := hv.length
  refine ⟨_, (pss_cons (ps_set (i := 2) sc_kinds_of.nd rfl (by first | exact Or.inl rfl | exact Or.inr rfl) (pe_lst pa_nil))
 (pss_cons (ps_for (passes_of rfl) rfl (pi_alt (pi_enum (by rfl) T.b_enumerate (pa_cons (pv 1) pa_nil)) (pi_enumT (by rfl) T.b_enumerate (pa_cons (pv 1) pa_nil))) (pg_tup rfl (pgs_cons (pg_name (i := 3) sc_kinds_of.nd rfl (by first | exact Or.inl rfl | exact Or.inr rfl)) (pgs_cons (pg_name (i := 4) sc_kinds_of.nd rfl (by first | exact Or.inl rfl | exact Or.inr rfl)) pgs_nil)))
 (pss_cons (ps_if (PW.pt (pw_or (pt_not (pt_val (pe_call (ok_is_kind (w := w) T B) (hr.mono (by decide)) (by rfl) T.m_is_kind T.F_is_kind.kp T.bi_is_kind .nil pass0 (pa_cons (pv 4) pa_nil)))) (pw_or1 (pt_cmpR (op_inD hu65) (pe_callTy call_tuple_of (by rfl) T.b_tuple (by decide +kernel) (pa_cons (pv 4) pa_nil)) (pv 2) (by rfl)))))
 (pss_one (ps_raiseX rfl rfl (takes_of rfl rfl rfl rfl) (pe_oexN T.i_BadKind.m (ok_x_BadKind T) (hr.mono (by decide)) (by rfl) T.m_BadKind T.kb_BadKind_2 pass0 (pa_cons (pv 0) (pa_cons (pv 3) pa_nil)) pk_nil)))
 pss_nil)
 (pss_one (ps_expr (pe_bm PySem.F.plainAttrs_list PySem.F.slot_list_append PySem.F.type_list_append mt_append (pv 2) (pa_cons (pe_callTy call_tuple_of (by rfl) T.b_tuple (by decide +kernel) (pa_cons (pv 4) pa_nil)) pa_nil))))))
 (pss_one (ps_ret (pe_callTy call_tuple_of (by rfl) T.b_tuple (by decide +kernel) (pa_cons (pe_callB (cr_sortedDD hu65) (by rfl) T.b_sorted (by decide +kernel) (pa_cons (pv 2) pa_nil)) pa_nil)))))), ?_⟩
  refine ⟨Nat.zero_le _, fun o ho => ?_⟩
  have s1 := same_upd (o := .lst []) ho
  obtain ⟨u, hu1, hu2⟩ : ∃ u, H a = some u ∧ (u = .lst xs ∨ u = .tup xs) := ha.elim (fun h => ⟨_, h, .inl rfl⟩) fun h => ⟨_, h, .inr rfl⟩
  refine for_enumE (K := K) (a := a) (j := 1) (xs := xs) (u := u) rfl hu2 (fun i σ H3 => ∃ v3 v4 ys ks, σ = [some (.str z), some (.ref a), some (.ref o), v3, v4] ∧ Same H H3 ∧ H3 o = some (.lst ys) ∧ AllK H3 ys ks ∧ Fine (os.take i) ks)
    ⟨_, _, [], [], rfl, s1, upd_same, .nil, by rw [List.take_zero]; exact fine_nil⟩ (fun i σ H3 ⟨v3, v4, ys, ks, e, s3, h3, k3, fi⟩ => s3 _ _ hu1) (fun i x σ H3 U hx hU ⟨v3, v4, ys, ks, e, s3, h3, k3, fi⟩ => ?_) (fun σ H3 ⟨v3, v4, ys, ks, e, s3, h3, k3, fi⟩ => ?_)
  · subst e
    obtain ⟨ov, hov, kv⟩ := paired_ix hv hx
    have sU := same_upd (o := .tup [.int (i : Nat), x]) hU
    refine ⟨U, _, rfl, SqT.of upd_same, rfl, _, _, rfl, _, _, rfl, rfl, ?_⟩
    have s4 := s3.trans sU
    have h4 := sU _ _ h3
    have k4 := AllK.same sU k3
    generalize upd H3 U (.tup [.int (i : Nat), x]) = H4 at s4 h4 k4
    have hil := (List.getElem?_eq_some_iff.mp hov).1
    have hlen : ks.length = i := by
      have e1 := congrArg List.length fi.1
      rw [List.length_take, List.length_map] at e1
      omega
    have raise : Wrong os i → ∀ H5, Same H H5 → ∀ (D : Ends), tRaiseX (cxOf (L2.CX P w) P w K mg base N_kinds_of "kinds_of" (defScope s_kinds_of) T.a_kinds_of cdv A outer s H E) (fun cls d _ H => E cls d H) (tOex T.c_BadKind 2 0 (spXI T.c_BadKind ["side", "number"]) rotV (tCons (tVar 0) (tCons (tVar 3) tNil)) tNil) D [some (.str z), some (.ref a), some (.ref o), some (.int (i : Nat)), some x] H5 := fun hw H5 s5 D =>
      mk_raise (vs := [.str z, .int (i : Nat)]) (zs := []) (fun b hb => fr0_none (s5.free hb)) T.x_BadKind.raises (fun R h => ⟨_, rfl, _, rfl, h⟩) (fun R h => h) rfl rfl rfl fun H' d s' n e => q2 i hw H' d (s5.trans s') (s5.free n) e
    refine ⟨_, rfl, x, ov, rfl, KV.kp (kpS_same s4) kv, fun H5 s5 => ⟨_, rfl, ?_⟩⟩
    have s6 := s4.trans s5
    rcases ov with _ | k
    · exact iteT (raise ⟨none, ks, hov, fi, .inl rfl⟩ H5 s6 { nx := fun _ _ => True, rt := fun _ _ => True })
    refine iteF ?_
    have h5 := s5 _ _ h4
    have k5 := AllK.same s5 k4
    obtain ⟨⟨t, rfl, ht⟩, kr⟩ := kv
    have ht5 := ht.imp (s6 _ _) (s6 _ _)
    -- tuple(kind): in any case a tuple
    have tupOf : ∀ (H6 : Hp) (σ : L2.St) (R : VK), σ[4]? = some (some (.ref t)) → (H6 t = some (.lst (kdVs k)) ∨ H6 t = some (.tup (kdVs k))) → (∀ H7 p, Same H6 H7 → H7 p = some (.tup (kdVs k)) → R (.ref p) H7) →
        tCB (fun xs H_1 Q => ∃ p ys, xs = [V.ref p] ∧ ((SqL K H_1 p ys ∧ ∀ (l : Addr), H_1 l = none → Q (V.ref l) (upd H_1 l (HO.tup ys))) ∨ SqT K H_1 p ys ∧ Q (V.ref p) H_1)) (tCons (tVar 4) tNil) σ H6 R := fun H6 σ R e h k => by
      rcases h with h | h
      · exact ⟨_, e, t, _, rfl, .inl ⟨SqL.of h, fun l hl => k _ l (same_upd hl) upd_same⟩⟩
      · exact ⟨_, e, t, _, rfl, .inr ⟨SqT.of h, k _ t (fun _ _ h => h) h⟩⟩
    have inF : ∀ (Z : Bool → Hp → Prop), (∀ H6, Same H5 H6 → Z (decide (k ∈ ks)) H6) → tTest (tOp (rInD K) (tCB (fun xs H_1 Q => ∃ p ys, xs = [V.ref p] ∧ ((SqL K H_1 p ys ∧ ∀ (l : Addr), H_1 l = none → Q (V.ref l) (upd H_1 l (HO.tup ys))) ∨ SqT K H_1 p ys ∧ Q (V.ref p) H_1)) (tCons (tVar 4) tNil)) (tVar 2)) [some (.str z), some (.ref a), some (.ref o), some (.int (i : Nat)), some (.ref t)] H5 Z := fun Z hZ => by
      refine tupOf H5 [some (.str z), some (.ref a), some (.ref o), some (.int (i : Nat)), some (.ref t)] (fun x H1 => tVar 2 [some (.str z), some (.ref a), some (.ref o), some (.int (i : Nat)), some (.ref t)] H1 fun y H2 => rInD K x y H2 fun v H3 => ∃ c, v = .bl c ∧ Z c H3) rfl ht5 fun H6 p s56 hp6 => ?_
      refine ⟨_, rfl, kdD k, ks.map kdD, IsK.dp ⟨p, rfl, hp6⟩, .lst (SqL.of (s56 _ _ h5)) (AllK.dp (AllK.same s56 k5)), kd_shaped k, kds_shapedL ks, _, rfl, ?_⟩
      rw [kd_any]
      exact hZ H6 s56
    refine inF _ fun H6 s56 => ?_
    have s7 := s6.trans s56
    have h6 := s56 _ _ h5
    have k6 := AllK.same s56 k5
    by_cases hk : k ∈ ks
    · rw [decide_eq_true hk]
      exact iteT (raise ⟨some k, ks, hov, fi, .inr ⟨k, hk, rfl⟩⟩ H6 s7 { nx := fun _ _ => True, rt := fun _ _ => True })
    · rw [decide_eq_false hk]
      refine iteF ?_
      refine ⟨_, rfl, .inl ⟨rfl, _, SqL.of h6⟩, ?_⟩
      refine tupOf H6 [some (.str z), some (.ref a), some (.ref o), some (.int (i : Nat)), some (.ref t)] _ rfl (ht5.imp (s56 _ _) (s56 _ _)) fun H7 p7 s67 hp7 => ?_
      have h7 := s67 _ _ h6
      have k7 := AllK.same s67 k6
      have yl := AllK.len k7
      refine ⟨o, _, _, rfl, rfl, h7, by rw [sizeLine_eq]; omega, ?_⟩
      refine ⟨_, _, ys ++ [.ref p7], ks ++ [k], rfl, same_of_new (s7.trans s67) ho, upd_same, ?_, ?_⟩
      · exact paired_app (AllK.put h7 k7) (.cons (IsK.put h7 ⟨p7, rfl, hp7⟩) .nil)
      · rw [fine_wrong_take hov]
        exact fine_add fi hk
  · subst e
    rw [hxl, List.take_of_length_le (Nat.le_refl _)] at fi
    refine ⟨_, rfl, o, ys, ks.map kdD, rfl, SqL.of h3, AllK.dp k3, alike_k ks, sortable_k ks, depth_k ks, fun p hp => ⟨p, _, rfl, .inl ⟨SqL.of upd_same, fun l hl => ?_⟩⟩⟩
    obtain ⟨js, j1, j2, j3⟩ := sort_k k3
    have s4 := same_upd (o := .lst ((sortPairs ys (ks.map kdD)).map Prod.fst)) hp
    have s5 := same_upd (o := .tup ((sortPairs ys (ks.map kdD)).map Prod.fst)) hl
    have ss := (s3.trans s4).trans s5
    exact q1 ks fi _ l _ js ss (s3.free (s4.free hl)) upd_same (AllK.same s5 (AllK.same s4 j1)) j2 j3
end
end Toy
set_option Elab.async false
set_option linter.all false
set_option maxRecDepth 100000
set_option maxHeartbeats 4000000
namespace Toy
open PySem L2 Sh ShL LamX NdefX
/-! ### Rule -/
theorem ro : ¬ (("root" : Str) = "others") := by decide +kernel
def flds (p1 p2 : Addr) : List (Str × V) := putF "others" (.ref p2) (putF "root" (.ref p1) [])
theorem flds_root (p1 p2 : Addr) : (flds p1 p2).lookup ("root" : Str) = some (.ref p1) := by
  unfold flds
  rw [lookup_putF, if_neg ro, lookup_putF, if_pos rfl]
theorem flds_others (p1 p2 : Addr) : (flds p1 p2).lookup ("others" : Str) = some (.ref p2) := by
  unfold flds
  rw [lookup_putF, if_pos rfl]
theorem flds_no {p1 p2 : Addr} {x : Str} (h1 : ¬ x = ("root" : Str)) (h2 : ¬ x = ("others" : Str)) : (flds p1 p2).lookup x = none := by
  unfold flds
  rw [lookup_putF, if_neg (fun e => h2 e), lookup_putF, if_neg (fun e => h1 e)]
  rfl
def RuleAt (C : Addr) (H : Hp) (p : Addr) (js1 js2 : List Kd) : Prop := ∃ (dx p1 p2 : Addr) (ys1 ys2 : List V), H p = some (.ins C dx (flds p1 p2)) ∧ H p1 = some (.tup ys1) ∧ H p2 = some (.tup ys2) ∧ AllK H ys1 js1 ∧ AllK H ys2 js2
theorem RuleAt.mono {C : Addr} {H H' : Hp} {p : Addr} {js1 js2 : List Kd} (k1 : ∀ b C dx fs, H b = some (.ins C dx fs) → H' b = some (.ins C dx fs)) (k2 : ∀ b xs, H b = some (.tup xs) → H' b = some (.tup xs)) (h : RuleAt C H p js1 js2) : RuleAt C H' p js1 js2 := by
  obtain ⟨dx, p1, p2, ys1, ys2, h1, h2, h3, h4, h5⟩ := h
  have f : ∀ v k, IsK H v k → IsK H' v k := fun v k ⟨t, e, h⟩ => ⟨t, e, k2 _ _ h⟩
  exact ⟨dx, p1, p2, ys1, ys2, k1 _ _ _ _ h1, k2 _ _ h2, k2 _ _ h3, AllK.mono f h4, AllK.mono f h5⟩
theorem RuleAt.same {C : Addr} {H H' : Hp} {p : Addr} {js1 js2 : List Kd} (s : Same H H') (h : RuleAt C H p js1 js2) : RuleAt C H' p js1 js2 := h.mono (fun _ _ _ _ => s _ _) fun _ _ => s _ _
theorem RuleAt.sm {T : List (Addr × Str)} {C : Addr} {H H' : Hp} {p : Addr} {js1 js2 : List Kd} (s : Sm T H H') (h : RuleAt C H p js1 js2) : RuleAt C H' p js1 js2 := h.mono (fun _ _ _ _ q => s.get q) fun _ _ q => s.get q
theorem RuleAt.kp {C : Addr} {H H' : Hp} {p d c : Addr} {n : Nat} {js1 js2 : List Kd} (hp : Pen H d c n) (s : Kp d H H') (h : RuleAt C H p js1 js2) : RuleAt C H' p js1 js2 := by
  obtain ⟨kvs, hd⟩ := hp.at
  exact h.mono (fun _ _ _ _ q => s _ _ q (ne_of q hd (by intro z; cases z))) fun _ _ q => s _ _ q (ne_of q hd (by intro z; cases z))
abbrev kErr (z : Str) (i : Nat) (d : Addr) : HO := exd d [("number", .int (i : Nat)), ("side", .str z)]
def spInitR (C N : Addr) : Sp := fun vs H Q E => ∃ (p dx a b : Addr) (xs zs : List V) (os us : List (Option Kd)), vs = [.ref p, .ref a, .ref b] ∧ H p = some (.ins C dx []) ∧ SqA H a xs ∧ SqA H b zs ∧ AllV H xs os ∧ AllV H zs us ∧ os.length ≤ 40 ∧ us.length ≤ 40 ∧
  (∀ ks ls, Fine os ks → Fine us ls → ∀ H' j1 j2, Kp p H H' → RuleAt C H' p j1 j2 → j1.Perm ks → SrtK j1 → j2.Perm ls → SrtK j2 → Q .non H') ∧
  (∀ i, Wrong os i → ∀ H' d, Kp p H H' → H d = none → H' d = some (kErr "root" i d) → E (.ref N) (some d) H') ∧
  (∀ ks i, Fine os ks → Wrong us i → ∀ H' d, Kp p H H' → H d = none → H' d = some (kErr "others" i d) → E (.ref N) (some d) H')
section
variable {P : Program} {w : World} {K : PySem.W.Frag} {mg : Str → Option Value} {base : Heap}
theorem ok_Rule_init (T : Tx P K mg) (B : Bx T base) : FnOk P w K mg base (L2.CX P w) 4 T.a_Rule_init T.fd_Rule_init ["self", "root", "others"] (spInitR T.c_Rule T.c_BadKind) := by
  refine T.F_Rule_init.okX sc_Rule_init (fun vs H Q E h => ?_) (fun cdv A outer s H vs Q E hr h => ?_)
  · obtain ⟨p, dx, a, b, xs, zs, os, us, rfl, _⟩ := h
    rfl
  have hu := hu_of hr
  have hu65 := hu65_of hr
  obtain ⟨p, dx, a, b, xs, zs, os, us, rfl, hp, hx, hz, vx, vz, l1, l2, q1, q2, q3⟩ := h
  refine ⟨_, (pss_cons (ps_fld (pv 0) (pe_call (ok_kinds_of (w := w) T B) (hr.mono (by decide)) (by rfl) T.m_kinds_of T.F_kinds_of.kp T.bi_kinds_of .nil (passes_call (takes_of rfl rfl rfl rfl) (fun _ _ _ _ h => h)) (pa_cons pe_str (pa_cons (pv 1) pa_nil))) rfl)
 (pss_one (ps_fld (pv 0) (pe_call (ok_kinds_of (w := w) T B) (hr.mono (by decide)) (by rfl) T.m_kinds_of T.F_kinds_of.kp T.bi_kinds_of .nil (passes_call (takes_of rfl rfl rfl rfl) (fun _ _ _ _ h => h)) (pa_cons pe_str (pa_cons (pv 2) pa_nil))) rfl))), ?_⟩
  refine ⟨_, rfl, _, a, xs, os, rfl, hx, vx, l1, fun ks fk H1 p1 ys1 j1 s1 n1 h1 k1 m1 o1 => ?_, fun i wi H' d s n e => q2 i wi H' d (Same.kp s) n e⟩
  have hp1 := s1 _ _ hp
  refine ⟨_, rfl, p, T.c_Rule, dx, [], rfl, hp1, T.cl_Rule, T.na_Rule_root, (by show 0 < 1000; decide), ?_⟩
  have kp1 : Kp p H1 (upd H1 p (.ins T.c_Rule dx (putF "root" (.ref p1) []))) := kp_put
  have hp2 : (upd H1 p (.ins T.c_Rule dx (putF "root" (.ref p1) []))) p = some (.ins T.c_Rule dx (putF "root" (.ref p1) [])) := upd_same
  have kS := (kpS_same s1).trans (kpS_ins hp1 kp1)
  have ne1 : p1 ≠ p := ne_of h1 hp1 (by intro z; cases z)
  have ka := (Same.kp s1).trans kp1
  have h12 := kp1 _ _ h1 ne1
  have k12 := AllK.kpS (kpS_ins hp1 kp1) k1
  generalize upd H1 p (.ins T.c_Rule dx (putF "root" (.ref p1) [])) = H2 at kp1 hp2 kS ka h12 k12 ⊢
  have fr : ∀ {H3 : Hp} {d : Addr}, Same H2 H3 → H2 d = none → H d = none := fun {H3 d} s n => by
    cases q : H d with
    | none => rfl
    | some u =>
      by_cases e : d = p
      · rw [e, hp2] at n
        cases n
      · rw [ka _ _ q e] at n
        cases n
  refine ⟨_, rfl, _, b, zs, us, rfl, hz.kp kS, AllV.kp kS vz, l2, fun ls fl H3 p2 ys2 j2 s3 n3 h3 k3 m3 o3 => ?_, fun i wi H' d s n e => q3 ks i fk wi H' d (ka.trans (Same.kp s)) (fr s n) e⟩
  have hp3 := s3 _ _ hp2
  refine ⟨_, rfl, p, T.c_Rule, dx, _, rfl, hp3, T.cl_Rule, T.na_Rule_others, (by show 1 < 1000; decide), ?_⟩
  have kp3 : Kp p H3 (upd H3 p (.ins T.c_Rule dx (flds p1 p2))) := kp_put
  have ne2 : p2 ≠ p := ne_of h3 hp3 (by intro z; cases z)
  have kS3 := kpS_ins hp3 kp3
  refine q1 ks ls fk fl _ j1 j2 (ka.trans ((Same.kp s3).trans kp3)) ⟨dx, p1, p2, ys1, ys2, upd_same, ?_, ?_, ?_, ?_⟩ m1 o1 m3 o3
  · exact kp3 _ _ (s3 _ _ h12) ne1
  · exact kp3 _ _ h3 ne2
  · exact AllK.kpS kS3 (AllK.same s3 k12)
  · exact AllK.kpS kS3 k3
end
/-! ### == of rules -/
section
variable {P : Program} {w : World} {K : PySem.W.Frag} {mg : Str → Option Value} {base : Heap}
theorem rule_kit (T : Tx P K mg) : PySem.W.kitOne K (.ref T.c_Rule) (.ref T.c_Rule) = some true := by
  unfold PySem.W.kitOne
  rw [if_pos (by simp)]
end
end Toy
set_option Elab.async false
set_option linter.all false
set_option maxRecDepth 100000
set_option maxHeartbeats 4000000
namespace Toy
open PySem L2 Sh ShL LamX NdefX
/-! ### the kind of a place -/
def kdOf (z : Wd) (os : List Wd) (r : Rw) : Kd := (r.2.1.isSome, r.2.2, min 2 ((kids z os r.1).length : Int))
theorem isN_o (o : Option Int) : (!decide (oV o = V.non)) = o.isSome := by
  cases o <;> simp [oV]
theorem min_if (n : Nat) : (if ((n : Nat) : Int) < 2 then ((n : Nat) : Int) else 2) = min 2 (n : Int) := by
  split <;> omega
theorem kids_len {z : Wd} {os : List Wd} {p : Wd} (h : z.length ≤ 26) : (sw (kids z os p)).length ≤ sizeLine := by
  rw [sw_len, sizeLine_eq]
  have := List.length_filter_le (fun c => decide (p ++ [c] ∈ os)) z
  unfold kids
  omega
def spKindOf (K : PySem.W.Frag) (C N : Addr) : Sp := fun vs H Q E => ∃ x z rs v p, vs = [.ref x, v] ∧ TreeAt C H x z rs ∧ (rs.map (·.1)).Nodup ∧ z.length ≤ 26 ∧ PlV K H v p ∧ (∀ r ∈ rs, p = some r.1 → ∀ H' u, Same H H' → IsK H' u (kdOf z (rs.map (·.1)) r) → Q u H') ∧
  (inR p rs = false → ∀ H' d, Same H H' → H d = none → H' d = some (exd d [("place", v)]) → E (.ref N) (some d) H')
theorem nd_row {rs : List Rw} {r r' : Rw} (nd : (rs.map (·.1)).Nodup) (h : r ∈ rs) (h' : r' ∈ rs) (e : r.1 = r'.1) : r' = r := by
  obtain ⟨i, hi⟩ := List.getElem?_of_mem h
  obtain ⟨j, hj⟩ := List.getElem?_of_mem h'
  have h1 : (rs.map (·.1))[i]? = some r.1 := by rw [List.getElem?_map, hi]; rfl
  have h2 : (rs.map (·.1))[j]? = some r.1 := by rw [List.getElem?_map, hj, e]; rfl
  have := nd_ix nd h1 h2
  subst this
  rw [hi] at hj
  exact (Option.some.inj hj).symm
/-- the first row whose kind is not let -/
def badR (z : Wd) (rs : List Rw) (j1 j2 : List Kd) : Option Rw := rs.find? fun r => decide (kdOf z (rs.map (·.1)) r ∉ (if r.1 = [] then j1 else j2))
def brV : Option Rw → V
  | none => .non
  | some r => .str (sw r.1)
def spBroken (C D : Addr) : Sp := fun vs H Q _ => ∃ x y z rs j1 j2, vs = [.ref x, .ref y] ∧ RuleAt D H x j1 j2 ∧ TreeAt C H y z rs ∧ (rs.map (·.1)).Nodup ∧ z.length ≤ 26 ∧ rs.length ≤ 2000 ∧ ∀ H', Same H H' → Q (brV (badR z rs j1 j2)) H'
def spKeeps (C D : Addr) : Sp := fun vs H Q _ => ∃ x y z rs j1 j2, vs = [.ref x, .ref y] ∧ RuleAt D H x j1 j2 ∧ TreeAt C H y z rs ∧ (rs.map (·.1)).Nodup ∧ z.length ≤ 26 ∧ rs.length ≤ 2000 ∧ ∀ H', Same H H' → Q (.bl (badR z rs j1 j2).isNone) H'
section
variable {P : Program} {w : World} {K : PySem.W.Frag} {mg : Str → Option Value} {base : Heap}
theorem ok_kind_of (T : Tx P K mg) (B : Bx T base) : FnOk P w K mg base (L2.CX P w) 4 T.a_kind_of T.fd_kind_of ["tree", "place"] (spKindOf K T.c_Tree T.c_NoPlace) := by
  refine T.F_kind_of.okX sc_kind_of (fun vs H Q E h => ?_) (fun cdv A outer s H vs Q E hr h => ?_)
  · obtain ⟨x, z, rs, v, p, rfl, _⟩ := h
    rfl
  have hu := hu_of hr
  have hu65 := hu65_of hr
  obtain ⟨x, z, rs, v, p, rfl, hx, nd, hz, hv, q1, q2⟩ := h
  obtain ⟨dx, t, d, e, m, ws, us, x1, x2, x3, x4, x5, x6, x7, x8⟩ := hx.ex
  refine ⟨_, (pss_cons (ps_set (i := 2) sc_kind_of.nd rfl (by first | exact Or.inl rfl | exact Or.inr rfl) (pe_meth (pv 0) T.cl_Tree T.me_Tree_row (ok_Tree_row (w := w) T B) (hr.mono (by decide)) T.bi_Tree_row .nil (passes_call (takes_of rfl rfl rfl rfl) (fun _ _ _ _ h => h)) (pa_cons (pv 1) pa_nil)))
 (pss_one (ps_ret (pe_tup (pa_cons (pe_cmpR op_notN (pe_ix ix_tup (pv 2) pe_int (fun _ _ => rfl)) pe_non (nomark _)) (pa_cons (pe_ix ix_tup (pv 2) pe_int (fun _ _ => rfl)) (pa_cons (pe_callB (call_min2 rfl) (by rfl) T.b_min (by decide +kernel) (pa_cons pe_int (pa_cons (pe_callB call_len_str (by rfl) T.b_len (by decide +kernel) (pa_cons (pe_meth (pv 0) T.cl_Tree T.me_Tree_below (ok_Tree_below (w := w) T B) (hr.mono (by decide)) T.bi_Tree_below .nil (passes_call (takes_of rfl rfl rfl rfl) (fun _ _ _ _ h => h)) (pa_cons (pv 1) pa_nil)) pa_nil)) pa_nil))) pa_nil))))))), ?_⟩
  refine ⟨_, rfl, x, dx, _, rfl, x1, tf_no (by decide +kernel), _, rfl, x, z, rs, v, p, rfl, hx, nd, hv, fun r hr e u hu => ?_, q2⟩
  obtain ⟨b, rfl, hb⟩ := hu
  subst e
  cases (show v = .str (sw r.1) from hv)
  refine ⟨_, rfl, b, _, _, _, rfl, rfl, SqT.of hb, atI_nat (j := 1) rfl, rfl, ?_⟩
  refine ⟨_, rfl, b, _, _, _, rfl, rfl, SqT.of hb, atI_nat (j := 2) rfl, ?_⟩
  refine ⟨_, rfl, x, dx, _, rfl, x1, tf_no (by decide +kernel), _, rfl, x, z, rs, _, some r.1, rfl, hx, nd, rfl, fun q' hq' e => ?_, fun h => ?_⟩
  · cases Option.some.inj e
    refine ⟨_, rfl, kids_len hz, _, _, rfl, ?_⟩
    rw [sw_len, min_if, isN_o]
    refine ⟨by show 3 ≤ sizeLine; decide, fun l hl => ?_⟩
    exact q1 r hr rfl _ _ (same_upd hl) ⟨l, rfl, upd_same⟩
  · rw [show inR (some r.1) rs = true from decide_eq_true (List.mem_map.mpr ⟨r, hr, rfl⟩)] at h
    cases h
theorem ok_Rule_broken_at (T : Tx P K mg) (B : Bx T base) : FnOk P w K mg base CX0 4 T.a_Rule_broken_at T.fd_Rule_broken_at ["self", "tree"] (spBroken T.c_Tree T.c_Rule) := by
  refine okT T.F_Rule_broken_at sc_Rule_broken_at (fun vs H Q E h => ?_) (fun cdv A outer s H vs Q E hcd hr h => ?_)
  · obtain ⟨x, y, z, rs, j1, j2, rfl, _⟩ := h
    rfl
  have hu := hu_of hr
  have hu65 := hu65_of hr
  obtain ⟨x, y, z, rs, j1, j2, rfl, hx, hy, nd, hz, hl, q⟩ := h
  obtain ⟨dx, p1, p2, ys1, ys2, r1, r2, r3, r4, r5⟩ := hx
  obtain ⟨dy, t, d, e, m, ws, us, x1, x2, x3, x4, x5, x6, x7, x8⟩ := hy.ex
  refine ⟨_, (pss_cons (ps_for PassesOwn.never rfl (pi_tup (pe_fld (pv 1) rfl)) (pg_tup rfl (pgs_cons (pg_name (i := 2) sc_Rule_broken_at.nd rfl (by first | exact Or.inl rfl | exact Or.inr rfl)) (pgs_cons (pg_name (i := 3) sc_Rule_broken_at.nd rfl (by first | exact Or.inl rfl | exact Or.inr rfl)) (pgs_cons (pg_name (i := 4) sc_Rule_broken_at.nd rfl (by first | exact Or.inl rfl | exact Or.inr rfl)) pgs_nil))))
 (pss_cons (ps_set (i := 5) sc_Rule_broken_at.nd rfl (by first | exact Or.inl rfl | exact Or.inr rfl) (pe_tup (pa_cons (pe_cmpR op_notN (pv 3) pe_non (nomark _)) (pa_cons (pv 4) (pa_cons (pe_callB (call_min2 rfl) (by rfl) T.b_min (by decide +kernel) (pa_cons pe_int (pa_cons (pe_callB call_len_str (by rfl) T.b_len (by decide +kernel) (pa_cons (pe_meth (E := fun _ _ _ => False) (pv 1) T.cl_Tree T.me_Tree_below (ok_Tree_below (w := w) T B) (hr.mono (by decide)) T.bi_Tree_below .nil (passes_call LamX.takes0 (fun _ _ _ _ h => h)) (pa_cons (pv 2) pa_nil)) pa_nil)) pa_nil))) pa_nil)))))
 (pss_one (ps_if (pt_cmpR (op_notInDT hu65) (pv 5) (pe_ifExp (pt_cmpR op_eq (pv 2) pe_str (nomark _)) (pe_fld (pv 0) rfl) (pe_fld (pv 0) rfl)) (by rfl))
 (pss_one (ps_ret (pv 2)))
 pss_nil))))
 (pss_one (ps_ret pe_non))), ?_⟩
  refine ⟨_, rfl, y, _, dy, _, _, rfl, x1, T.cl_Tree, T.na_Tree_rows, tf_rows, t, rfl, ⟨_, SqT.of x2⟩, ?_⟩
  have hwl : ws.length = rs.length := x3.length
  refine for_it (walk_tup (K := K) (a := t) (xs := ws)) (fun i σ H3 => (∃ v2 v3 v4 v5, σ = [some (.ref x), some (.ref y), v2, v3, v4, v5]) ∧ Same H H3 ∧ ∀ r ∈ rs.take i, kdOf z (rs.map (·.1)) r ∈ (if r.1 = [] then j1 else j2))
    ⟨⟨_, _, _, _, rfl⟩, fun _ _ h => h, by simp⟩ (fun i σ H3 _ ⟨_, s, _⟩ => SqT.of (s _ _ x2)) (fun i u σ H3 H4 hi ⟨⟨v2, v3, v4, v5, e1⟩, s, al⟩ yl => ?_) (fun σ H3 ⟨⟨v2, v3, v4, v5, e1⟩, s, al⟩ => ?_)
  · obtain ⟨rfl, hu'⟩ := yl
    subst e1
    obtain ⟨r, hr2, a, rfl, ha⟩ := paired_ix x3 hu'
    have hrm := List.mem_of_getElem? hr2
    refine ⟨a, _, rfl, SqT.of (s _ _ ha), rfl, _, _, rfl, _, _, rfl, _, _, rfl, rfl, ?_⟩
    refine ⟨_, rfl, rfl, _, rfl, ?_⟩
    have hy' := hy.same s
    refine ⟨_, rfl, y, dy, _, rfl, s _ _ x1, tf_no (by decide +kernel), _, rfl, y, z, rs, _, some r.1, rfl, hy', nd, rfl, fun q' hq' e => ?_, fun h => ?_⟩
    · cases Option.some.inj e
      refine ⟨_, rfl, kids_len hz, _, _, rfl, ?_⟩
      rw [sw_len, min_if, isN_o]
      refine ⟨by show 3 ≤ sizeLine; decide, fun l hl2 => ?_⟩
      have s2 := s.trans (same_upd (o := .tup [.bl r.2.1.isSome, .bl r.2.2, .int (min 2 ((kids z (rs.map (·.1)) r.1).length : Int))]) hl2)
      have hk : IsK (upd H4 l (.tup [.bl r.2.1.isSome, .bl r.2.2, .int (min 2 ((kids z (rs.map (·.1)) r.1).length : Int))])) (.ref l) (kdOf z (rs.map (·.1)) r) := ⟨l, rfl, upd_same⟩
      generalize upd H4 l (.tup [.bl r.2.1.isSome, .bl r.2.2, .int (min 2 ((kids z (rs.map (·.1)) r.1).length : Int))]) = H5 at s2 hk
      refine ⟨_, rfl, _, rfl, rfl, _, rfl, ?_⟩
      rw [mt_eq, sw_dec]
      have step : ∀ js : List Kd, js = (if r.1 = [] then j1 else j2) → kdOf z (rs.map (·.1)) r ∈ js → ∀ r' ∈ rs.take (i + 1), kdOf z (rs.map (·.1)) r' ∈ (if r'.1 = [] then j1 else j2) := fun js e hm r' hr' => by
        rw [List.take_add_one, hr2] at hr'
        rcases List.mem_append.mp hr' with h | h
        · exact al r' h
        · rw [List.mem_singleton.mp (show r' ∈ [r] from h), ← e]
          exact hm
      have out : ∀ js : List Kd, js = (if r.1 = [] then j1 else j2) → kdOf z (rs.map (·.1)) r ∉ js → badR z rs j1 j2 = some r := fun js e hm => by
        unfold badR
        have hsplit : rs = rs.take i ++ r :: rs.drop (i + 1) := by
          have h1 := (List.getElem?_eq_some_iff.mp hr2)
          obtain ⟨h1, h2⟩ := h1
          rw [← h2, List.getElem_cons_drop, List.take_append_drop]
        have hd : ∀ os : List Wd, ∀ l : List Rw, (∀ r' ∈ l, kdOf z os r' ∈ (if r'.1 = [] then j1 else j2)) → l.find? (fun r => decide (kdOf z os r ∉ (if r.1 = [] then j1 else j2))) = none := fun os l hl' => by
          rw [List.find?_eq_none]
          intro r' hr'
          simp [hl' r' hr']
        rw [show rs.find? (fun r => decide (kdOf z (rs.map (·.1)) r ∉ (if r.1 = [] then j1 else j2))) = (rs.take i ++ r :: rs.drop (i + 1)).find? (fun r => decide (kdOf z (rs.map (·.1)) r ∉ (if r.1 = [] then j1 else j2))) by rw [← hsplit]]
        rw [List.find?_append, hd _ _ al, Option.none_or, List.find?_cons_of_pos]
        simp only [decide_eq_true_eq]
        rw [← e]
        exact hm
      refine ite2 (fun h => ?_) (fun h => ?_)
      · have hr0 := of_decide_eq_true h
        refine ⟨_, rfl, x, _, dx, _, _, rfl, s2 _ _ r1, T.cl_Rule, T.na_Rule_root, flds_root _ _, _, _, hk.dp, .tup (SqT.of (s2 _ _ r2)) (AllK.dp (AllK.same s2 r4)), kd_shaped _, kds_shapedT _, _, rfl, ?_⟩
        rw [kd_any]
        refine ite2 (fun h => ?_) (fun h => ?_)
        · have hn : kdOf z (rs.map (·.1)) r ∉ j1 := by simpa using h
          refine ⟨_, rfl, ?_⟩
          have := q _ s2
          rw [out j1 (by rw [if_pos hr0]) hn] at this
          exact this
        · have hm : kdOf z (rs.map (·.1)) r ∈ j1 := by simpa using h
          exact ⟨⟨_, _, _, _, rfl⟩, s2, step j1 (by rw [if_pos hr0]) hm⟩
      · have hr0 : ¬ r.1 = [] := fun z => h (decide_eq_true z)
        refine ⟨_, rfl, x, _, dx, _, _, rfl, s2 _ _ r1, T.cl_Rule, T.na_Rule_others, flds_others _ _, _, _, hk.dp, .tup (SqT.of (s2 _ _ r3)) (AllK.dp (AllK.same s2 r5)), kd_shaped _, kds_shapedT _, _, rfl, ?_⟩
        rw [kd_any]
        refine ite2 (fun h => ?_) (fun h => ?_)
        · have hn : kdOf z (rs.map (·.1)) r ∉ j2 := by simpa using h
          refine ⟨_, rfl, ?_⟩
          have := q _ s2
          rw [out j2 (by rw [if_neg hr0]) hn] at this
          exact this
        · have hm : kdOf z (rs.map (·.1)) r ∈ j2 := by simpa using h
          exact ⟨⟨_, _, _, _, rfl⟩, s2, step j2 (by rw [if_neg hr0]) hm⟩
    · rw [show inR (some r.1) rs = true from decide_eq_true (List.mem_map.mpr ⟨r, hrm, rfl⟩)] at h
      cases h
  · subst e1
    rw [hwl, List.take_of_length_le (Nat.le_refl _)] at al
    have := q _ s
    have e0 : badR z rs j1 j2 = none := by
      unfold badR
      rw [List.find?_eq_none]
      intro r' hr'
      simp [al r' hr']
    rw [e0] at this
    exact this
theorem ok_Rule_keeps (T : Tx P K mg) (B : Bx T base) : FnOk P w K mg base CX0 5 T.a_Rule_keeps T.fd_Rule_keeps ["self", "tree"] (spKeeps T.c_Tree T.c_Rule) := by
  refine okT T.F_Rule_keeps sc_Rule_keeps (fun vs H Q E h => ?_) (fun cdv A outer s H vs Q E hcd hr h => ?_)
  · obtain ⟨x, y, z, rs, j1, j2, rfl, _⟩ := h
    rfl
  have hu := hu_of hr
  have hu65 := hu65_of hr
  obtain ⟨x, y, z, rs, j1, j2, rfl, hx, hy, nd, hz, hl, q⟩ := h
  have hx0 := hx
  obtain ⟨dx, p1, p2, ys1, ys2, r1, r2, r3, r4, r5⟩ := hx
  refine ⟨_, (pss_one (ps_ret (pe_cmpR op_isN (pe_meth (pv 0) T.cl_Rule T.me_Rule_broken_at (ok_Rule_broken_at (w := w) T B) (hr.mono (by decide)) T.bi_Rule_broken_at .nil pass0 (pa_cons (pv 1) pa_nil)) pe_non (nomark _)))), ?_⟩
  refine ⟨_, rfl, x, dx, _, rfl, r1, flds_no (by decide +kernel) (by decide +kernel), _, rfl, x, y, z, rs, j1, j2, rfl, hx0, hy, nd, hz, hl, fun H' s => ⟨rfl, ?_⟩⟩
  have := q _ s
  cases e : badR z rs j1 j2 with
  | none => rw [e] at this; exact this
  | some r => rw [e] at this; exact this
end
end Toy
set_option Elab.async false
set_option linter.all false
set_option maxRecDepth 100000
set_option maxHeartbeats 4000000
namespace Toy
open PySem L2 Sh ShL LamX NdefX
theorem Pen.ne_free {H : Hp} {d c p : Addr} {n : Nat} (h : Pen H d c n) (hp : H p = none) : p ≠ d := by
  obtain ⟨kvs, e⟩ := h.at
  exact (ne_of_none e hp).symm
/-- the pen stays where an object changes that was not there ahead of H0 -/
theorem Pen.put {H0 H : Hp} {d c D : Addr} {n m : Nat} {o : HO} (h0 : Pen H0 d c m) (nD : H0 D = none) (h : Pen H d c n) : Pen (upd H D o) d c n := by
  obtain ⟨ns, b, l, a1, a2, a3⟩ := h
  obtain ⟨ns0, b0, l0, a01, a02, _⟩ := h0
  exact ⟨ns, b, l, by rw [upd_ne (ne_of_none a01 nD)]; exact a1, by rw [upd_ne (ne_of_none a02 nD)]; exact a2, a3⟩
theorem kp_put0 {d p : Addr} {H0 H : Hp} {o : HO} (h : Kp d H0 H) (n : H0 p = none) : Kp d H0 (upd H p o) := fun b u e nb => by
  rw [upd_ne (ne_of_none e n)]
  exact h b u e nb
/-- a word's signs that were drawn, and those that are left -/
structure Drawn (fs rem : Wd) : Prop where
  pm : (fs ++ rem).Perm small
theorem small_nd : small.Nodup := by decide +kernel
theorem Drawn.ok {fs rem : Wd} (h : Drawn fs rem) (h2 : 2 ≤ fs.length) : LetOk fs := by
  have nd : (fs ++ rem).Nodup := h.pm.nodup_iff.mpr small_nd
  have l : (fs ++ rem).length = 26 := h.pm.length_eq
  rw [List.length_append] at l
  exact ⟨h2, by omega, (List.nodup_append.mp nd).1, fun c hc => h.pm.mem_iff.mp (List.mem_append_left _ hc)⟩
theorem erase_perm {α : Type} : ∀ {rem : List α} {k : Nat} {c : α}, rem[k]? = some c → (c :: rem.eraseIdx k).Perm rem
  | [], _, _, h => by cases h
  | x :: rem, 0, c, h => by
    cases h
    exact List.Perm.refl _
  | x :: rem, k + 1, c, h => by
    rw [List.eraseIdx_cons_succ]
    exact (List.Perm.swap x c _).trans ((erase_perm (rem := rem) (k := k) (by simpa using h)).cons x)
theorem erase_map {α β : Type} (f : α → β) : ∀ (xs : List α) (k : Nat), (xs.map f).eraseIdx k = (xs.eraseIdx k).map f
  | [], _ => rfl
  | x :: xs, 0 => rfl
  | x :: xs, k + 1 => by
    rw [List.map_cons, List.eraseIdx_cons_succ, List.eraseIdx_cons_succ, List.map_cons, erase_map f xs k]
theorem seq_ix {r : Int} {n : Nat} (h0 : 0 ≤ r) (h1 : r < (n : Int)) : seqIndex? r n = some r.toNat := by
  unfold seqIndex?
  simp only [show ¬ (r < 0) by omega, if_false]
  simp [h0, h1]
theorem Drawn.step {fs rem : Wd} {k c : Nat} (h : Drawn fs rem) (hc : rem[k]? = some c) : Drawn (fs ++ [c]) (rem.eraseIdx k) := by
  refine ⟨List.Perm.trans ?_ h.pm⟩
  rw [List.append_assoc]
  refine List.Perm.append_left fs ?_
  show (c :: rem.eraseIdx k).Perm rem
  exact erase_perm hc
def spLettersD : Sp := fun vs H Q _ => ∃ (d c : Addr) (n : Nat), vs = [.ref d, .int 5] ∧ Pen H d c n ∧ n ≤ 50000 ∧ ∀ (H' : Hp) (z : Wd), LetOk z → z.length ≤ 5 → Kp d H H' → Pen H' d c (n + 6) → Q (.str (sw z)) H'
def spShuf (K : PySem.W.Frag) : Sp := fun vs H Q _ => ∃ (d c a : Addr) (n : Nat) (xs : List V), vs = [.ref d, .ref a] ∧ Pen H d c n ∧ n ≤ 50000 ∧ H a = some (.lst xs) ∧ xs.length ≤ 1000 ∧
  ∀ (H' : Hp) (b : Addr) (ys : List V), ys.Perm xs → H' b = some (.lst ys) → Kp d H H' → Pen H' d c (n + xs.length) → Q (.ref b) H'
section
variable {P : Program} {w : World} {K : PySem.W.Frag} {mg : Str → Option Value} {base : Heap}
theorem ok_l_letters (T : Tx P K mg) (B : Bx T base) : FnOk P w K mg base CX0 2 T.a_l_letters T.fd_l_letters ["_law_pen_here", "_law_most"] spLettersD := by
  refine okT T.F_l_letters sc_l_letters (fun vs H Q E h => ?_) (fun cdv A outer s H vs Q E hcd hr h => ?_)
  · obtain ⟨d, c, n, rfl, _⟩ := h
    rfl
  have hu := hu_of hr
  have hu65 := hu65_of hr
  obtain ⟨d, c, n, rfl, hp, hn, q⟩ := h
  refine ⟨_, (pss_cons (ps_par (i := 2) (j := 3) (by rfl) sc_l_letters.nd rfl rfl (by decide) rfl rfl (pa_cons (pe_callTy (Sh.call_list_str rfl) (by rfl) T.b_list (by decide +kernel) (pa_cons pe_str pa_nil)) (pa_cons pe_str pa_nil)) (by rfl))
 (pss_cons (ps_for PassesOwn.never rfl (pi_range1 (by rfl) T.b_range (pa_cons (pe_op op_add pe_int (pe_call (ok_l_draw (w := w) T B) (hr.mono (by decide)) (by rfl) T.m_l_draw T.F_l_draw.kp T.bi_l_draw .nil pass0 (pa_cons (pv 0) (pa_cons (pe_op op_sub (pv 1) pe_int) pa_nil)))) pa_nil)) (pg_name (i := 4) sc_l_letters.nd rfl (by first | exact Or.inl rfl | exact Or.inr rfl))
 (pss_one (ps_set (i := 3) sc_l_letters.nd rfl (by first | exact Or.inl rfl | exact Or.inr rfl) (pe_op op_add_str (pv 3) (pe_bm PySem.F.plainAttrs_list PySem.F.slot_list_pop PySem.F.type_list_pop mt_popAt (pv 2) (pa_cons (pe_call (ok_l_draw (w := w) T B) (hr.mono (by decide)) (by rfl) T.m_l_draw T.F_l_draw.kp T.bi_l_draw .nil pass0 (pa_cons (pv 0) (pa_cons (pe_callB call_len_seq (by rfl) T.b_len (by decide +kernel) (pa_cons (pv 2) pa_nil)) pa_nil))) pa_nil))))))
 (pss_one (ps_ret (pv 3))))), ?_⟩
  refine ⟨_, rfl, by decide +kernel, fun pl hpl => ?_⟩
  have e1 : (signs ("abcdefghijklmnopqrstuvwxyz" : Str)).map V.str = small.map fun c => V.str (sw [c]) := by
    unfold signs
    rw [small_eq, sw_list, List.map_map]
    rfl
  rw [e1]
  have p1 := hp.same (same_upd (o := .lst (small.map fun c => V.str (sw [c]))) hpl)
  have kp1 : Kp d H (upd H pl (.lst (small.map fun c => V.str (sw [c])))) := kp_new hpl
  have hl1 : (upd H pl (.lst (small.map fun c => V.str (sw [c])))) pl = some (.lst (small.map fun c => V.str (sw [c]))) := upd_same
  generalize upd H pl (.lst (small.map fun c => V.str (sw [c]))) = H1 at p1 kp1 hl1
  refine ⟨_, _, rfl, ?_⟩
  have npl := hp.ne_free hpl
  refine ⟨_, rfl, _, rfl, _, _, rfl, rfl, d, c, n, 4, rfl, p1, by omega, by decide, by decide, fun H2 r r0 r1 kp p2 => ?_⟩
  refine ⟨_, _, rfl, rfl, _, rfl, by omega, by omega, ?_⟩
  have hl2 := kp _ _ hl1 npl
  have kp2 := kp1.trans kp
  refine for_range (fun i σ H3 => ∃ v4 fs rem, σ = [some (.ref d), some (.int 5), some (.ref pl), some (.str (sw fs)), v4] ∧ Kp d H H3 ∧ Pen H3 d c (n + 1 + i) ∧ H3 pl = some (.lst (rem.map fun c => V.str (sw [c]))) ∧ Drawn fs rem ∧ fs.length = i)
    ⟨_, [], small, by rw [← mt_eq]; rfl, kp2, p2, hl2, ⟨List.Perm.refl _⟩, rfl⟩ (fun i σ H3 hi ⟨v4, fs, rem, e, k3, p3, hl3, dr, hf⟩ => ?_) (fun σ H3 ⟨v4, fs, rem, e, k3, p3, hl3, dr, hf⟩ => ?_)
  · subst e
    have l26 : (fs ++ rem).length = 26 := dr.pm.length_eq
    rw [List.length_append] at l26
    have hrem : (rem.map fun c => V.str (sw [c])).length = rem.length := List.length_map _
    refine ⟨_, rfl, _, rfl, .inl ⟨rfl, _, SqL.of hl3⟩, ?_⟩
    refine ⟨_, rfl, _, rfl, pl, _, rfl, .inl (SqL.of hl3), d, c, n + 1 + i, _, rfl, p3, by omega, by rw [hrem]; omega, by rw [hrem]; omega, fun H4 r r0 r1 kp4 p4 => ?_⟩
    have hl4 := kp4 _ _ hl3 npl
    rw [hrem] at r1
    obtain ⟨x, hx⟩ : ∃ x, rem[r.toNat]? = some x := ⟨_, List.getElem?_eq_getElem (by omega)⟩
    refine ⟨pl, _, r, r.toNat, V.str (sw [x]), rfl, rfl, hl4, by omega, by omega, ?_, by rw [List.getElem?_map, hx]; rfl, ?_⟩
    · exact seq_ix r0 (by rw [hrem]; exact r1)
    refine ⟨_, _, rfl, rfl, by rw [sw_len, sw_len, sizeLine_eq]; show _ + 1 ≤ _; omega, ?_⟩
    rw [sw_app]
    refine ⟨_, fs ++ [x], rem.eraseIdx r.toNat, rfl, kp_put0 (k3.trans kp4) hpl, ?_, ?_, dr.step hx, by rw [List.length_append, hf]; rfl⟩
    · exact Pen.put hp hpl p4
    · rw [upd_same, erase_map]
  · subst e
    exact ⟨_, rfl, q _ fs (dr.ok (by omega)) (by omega) k3 (p3.mono (by omega))⟩
theorem ok_l_shuffled (T : Tx P K mg) (B : Bx T base) : FnOk P w K mg base CX0 2 T.a_l_shuffled T.fd_l_shuffled ["_law_pen_here", "_law_some"] (spShuf K) := by
  refine okT T.F_l_shuffled sc_l_shuffled (fun vs H Q E h => ?_) (fun cdv A outer s H vs Q E hcd hr h => ?_)
  · obtain ⟨d, c, a, n, xs, rfl, _⟩ := h
    rfl
  have hu := hu_of hr
  have hu65 := hu65_of hr
  obtain ⟨d, c, a, n, xs, rfl, hp, hn, ha, hx, q⟩ := h
  obtain ⟨kvs, hd⟩ := hp.at
  have nad : a ≠ d := ne_of ha hd (by intro z; cases z)
  refine ⟨_, (pss_cons (ps_set (i := 2) sc_l_shuffled.nd rfl (by first | exact Or.inl rfl | exact Or.inr rfl) (pe_lst pa_nil))
 (pss_cons (ps_for PassesOwn.never rfl (pi_list (pv 1)) (pg_name (i := 3) sc_l_shuffled.nd rfl (by first | exact Or.inl rfl | exact Or.inr rfl))
 (pss_one (ps_expr (pe_bm PySem.F.plainAttrs_list PySem.F.slot_list_insert PySem.F.type_list_insert mt_insert (pv 2) (pa_cons (pe_call (ok_l_draw (w := w) T B) (hr.mono (by decide)) (by rfl) T.m_l_draw T.F_l_draw.kp T.bi_l_draw .nil pass0 (pa_cons (pv 0) (pa_cons (pe_op op_add (pe_callB call_len_seq (by rfl) T.b_len (by decide +kernel) (pa_cons (pv 2) pa_nil)) pe_int) pa_nil))) (pa_cons (pv 3) pa_nil))))))
 (pss_one (ps_ret (pv 2))))), ?_⟩
  refine ⟨Nat.zero_le _, fun b hb => ?_⟩
  have p1 := hp.same (same_upd (o := .lst []) hb)
  have kp1 : Kp d H (upd H b (.lst [])) := kp_new hb
  have hl1 : (upd H b (.lst [])) b = some (.lst []) := upd_same
  generalize upd H b (.lst []) = H1 at p1 kp1 hl1
  have nbd := hp.ne_free hb
  refine ⟨_, rfl, a, rfl, ⟨_, SqL.of (kp1 _ _ ha nad)⟩, ?_⟩
  refine for_it (walk_list (K := K) (a := a) (xs := xs)) (fun i σ H3 => ∃ v3 ys, σ = [some (.ref d), some (.ref a), some (.ref b), v3] ∧ Kp d H H3 ∧ Pen H3 d c (n + i) ∧ H3 b = some (.lst ys) ∧ ys.Perm (xs.take i))
    ⟨_, [], rfl, kp1, p1, hl1, by rw [List.take_zero]⟩ (fun i σ H3 _ ⟨_, _, _, k3, _⟩ => SqL.of (k3 _ _ ha nad)) (fun i x σ H3 H4 hi ⟨v3, ys, e, k3, p3, hl3, pm⟩ y => ?_) (fun σ H3 ⟨v3, ys, e, k3, p3, hl3, pm⟩ => ?_)
  · obtain ⟨rfl, hx2⟩ := y
    subst e
    have hyl : ys.length = i := by
      have := pm.length_eq
      rw [List.length_take] at this
      omega
    refine ⟨_, rfl, .inl ⟨rfl, _, SqL.of hl3⟩, ?_⟩
    refine ⟨_, rfl, _, rfl, b, _, rfl, .inl (SqL.of hl3), _, _, rfl, rfl, d, c, n + i, _, rfl, p3, by omega, by omega, by omega, fun H5 r r0 r1 k5 p5 => ?_⟩
    have hl5 := k5 _ _ hl3 nbd
    refine ⟨_, rfl, b, _, r, x, rfl, rfl, hl5, by rw [sizeLine_eq]; omega, r0, by omega, ?_⟩
    refine ⟨_, _, rfl, kp_put0 (k3.trans k5) hb, Pen.put hp hb (p5.mono (by omega)), upd_same, ?_⟩
    rw [List.take_add_one, hx2]
    refine List.Perm.trans ?_ (pm.append_right [x])
    rw [List.append_assoc]
    have : (ys.take r.toNat ++ ([x] ++ ys.drop r.toNat)).Perm ((ys.take r.toNat ++ ys.drop r.toNat) ++ [x]) := by
      rw [List.append_assoc]
      exact (List.perm_append_comm).append_left _
    rw [List.take_append_drop] at this
    exact this
  · subst e
    rw [List.take_of_length_le (Nat.le_refl _)] at pm
    exact ⟨_, rfl, q _ b ys pm hl3 k3 p3⟩
end
end Toy
set_option Elab.async false
set_option linter.all false
set_option maxRecDepth 100000
set_option maxHeartbeats 4000000
namespace Toy
open PySem L2 Sh ShL LamX NdefX
section
variable {X : Cx}
theorem takes_len {W : WX} (t : Takes X W) : Takes X (fun cls d σ H => σ.length = X.N.length → W cls d σ H) := fun u s' ⟨a, B, sI, pins, σ, H, cls, d, e, I, nb, up, sky, na, os, ag, w⟩ =>
  t u s' ⟨a, B, sI, pins, σ, H, cls, d, e, I, nb, up, sky, na, os, ag, w I.len⟩
end
theorem kit_self {K : PySem.W.Frag} {S C : Addr} (x : XCls K S C) : PySem.W.kitCls K (.ref C) (.ref C) = some true := by
  unfold PySem.W.kitCls
  simp only [x.isC, x.ty, beq_self_eq_true, Bool.and_self, if_true]
  show PySem.W.mroIn K C (.ref C) = _
  rw [x.sub]
  simp
theorem kit_base {K : PySem.W.Frag} {S C : Addr} (x : XCls K S C) (hS : (PySem.W.clsIn K S).isSome = true) (tS : PySem.W.typeIn K (.ref S) = some (.type "type")) : PySem.W.kitCls K (.ref C) (.ref S) = some true := by
  unfold PySem.W.kitCls
  simp only [hS, tS, beq_self_eq_true, Bool.and_self, if_true]
  show PySem.W.mroIn K C (.ref S) = some true
  rw [x.sub]
  simp
/-- isinstance(e, C), the exception with or without attributes -/
theorem call_isXB2 {X : Cx} {a : Addr} {oe : Obj} {cls : Value} {d : Option Addr} {pn : List (Addr × Obj)} (hz : Zc cls d oe) (hf : ∃ vs, oe.data = .fields vs) (hn : PySem.W.specialIn X.K (.builtin "object.__class__") "__get__" = some (some (.builtin "getset_descriptor.__get__"))) (htk : PySem.W.takesIn X.K (.builtin "object.__class__") = some true) :
    CallR (X.suite a ((a, oe) :: pn)) (.builtin "isinstance") (fun xs H Q => ∃ (C : Addr) (c : V) (u : Value) (b : Bool), xs = [.ref a, c] ∧ ClsV c u ∧ cls = .ref C ∧ ExR X.K C ∧ (d = none ∨ ∃ dx fs, d = some dx ∧ H dx = some (exd dx fs)) ∧ PySem.W.kitOne X.K (.ref C) u = some b ∧ Q (.bl b) H) := by
  intro pins s σ H xs us Q I r h
  obtain ⟨C, c, u, b, rfl, k, rfl, R, hd2, e, q⟩ := h
  rcases hd2 with rfl | ⟨dx, fs, rfl, ed⟩
  · obtain ⟨u1, u2, rfl, r1, r2⟩ := vals2 r
    obtain rfl := k.eq r2
    obtain rfl : u1 = Value.ref a := r1
    have hp := (I.pin (a, oe) (List.mem_append_left _ List.mem_cons_self)).1
    obtain ⟨vs, hd⟩ := hf
    have J : PySem.W.InstAt s.heap a oe C none := ⟨hp, hz.1, (by unfold PySem.W.notCls; rw [hd] <;> rfl), (by rw [hz.2]; exact True.intro)⟩
    exact PySem.W.kia_one (PySem.W.kitx_exc R.isCls R.ga R.gg R.ox.exC R.cl hn htk R.ob) I.kIn J e (fun z => nomatch z) fun tk => ⟨.bl b, H, I.tok tk, rfl, q⟩
  · exact call_isXBy hz hf hn htk pins s σ H _ us Q I r ⟨C, dx, fs, c, u, b, rfl, k, rfl, rfl, R, ed, e, q⟩
theorem lk_head (x : Str) (v : V) (l : List (Str × V)) : List.lookup x ((x, v) :: l) = some v := by
  unfold List.lookup
  rw [show (x == x) = true from beq_self_eq_true x]
theorem lk_next {x y : Str} (v : V) (l : List (Str × V)) (h : ¬ x = y) : List.lookup x ((y, v) :: l) = List.lookup x l := by
  conv => lhs; unfold List.lookup
  rw [show (x == y) = false from beq_eq_false_iff_ne.mpr h]
/-- what comes of a call -/
def TTc (CNotExact CBadLetters CBadItem CTooMany : Addr) : (XK → Hp → VK → Prop) → Hp → VK → Prop := fun tl H Q => ∀ (E : XK) (R : VK),
  (∀ H', (∀ p, H' p = none → Q (.ref p) (upd H' p (.tup [.str "not exact"]))) → E (.ref CNotExact) none H') →
  (∀ dx v0 H', H' dx = some (exd dx [("letters", v0)]) → (∀ p, H' p = none → Q (.ref p) (upd H' p (.tup [.str "letters", v0]))) → E (.ref CBadLetters) (some dx) H') →
  (∀ dx v0 H', H' dx = some (exd dx [("number", v0)]) → (∀ p, H' p = none → Q (.ref p) (upd H' p (.tup [.str "item", v0]))) → E (.ref CBadItem) (some dx) H') →
  (∀ dx v0 v1 v2 H', H' dx = some (exd dx [("most", v2), ("many", v1), ("what", v0)]) → (∀ p, H' p = none → Q (.ref p) (upd H' p (.tup [.str "many", v0, v1, v2]))) → E (.ref CTooMany) (some dx) H') →
  (∀ v H', (∀ p, H' p = none → Q (.ref p) (upd H' p (.tup [.str "done"]))) → R v H') → tl E H R
/-- whether a call raises an error of the package -/
def TTb (CNotExact CBadLetters CBadItem CTooMany : Addr) : (XK → Hp → VK → Prop) → Hp → VK → Prop := fun tl H Q => ∀ (E : XK) (R : VK),
  (∀ c dx fs H', c ∈ [CNotExact, CBadLetters, CBadItem, CTooMany] → H' dx = some (exd dx fs) → Q (.bl true) H' → E (.ref c) (some dx) H') →
  (∀ v H', Q (.bl false) H' → R v H') → tl E H R
section
variable {P : Program} {K : PySem.W.Frag} {mg : Str → Option Value}
theorem gives_l_caught (T : Tx P K mg) (X : Cx) (hK : X.K = K) (hm : X.mg = mg) (cdg : Value) (q : Str) : GivesTo X N_l_caught "_law_caught" (defScope s_l_caught) T.a_l_caught cdg (defBody s_l_caught) "_law_function" q (TTc T.c_NotExact T.c_BadLetters T.c_BadItem T.c_TooMany) := by
  subst hK
  subst hm
  intro f c' s H Q tl act hc h
  have xnd := T.xnd
  simp only [List.nodup_cons, List.mem_cons, List.not_mem_nil, or_false, not_or] at xnd
  obtain ⟨⟨n01, n02, n03, n04, n05, n06, n07, n08⟩, ⟨n12, n13, n14, n15, n16, n17, n18⟩, ⟨n23, n24, n25, n26, n27, n28⟩, ⟨n34, n35, n36, n37, n38⟩, ⟨n45, n46, n47, n48⟩, ⟨n56, n57, n58⟩, ⟨n67, n68⟩, n78, _⟩ := xnd
  refine ⟨_, pss_cons (ps_set (i := 1) sc_l_caught.nd rfl (by first | exact Or.inl rfl | exact Or.inr rfl) pe_non) (pss_cons (ps_try_manyAs (X := (cxOf C8.CX0 X.prog X.w X.K X.mg X.base N_l_caught "_law_caught" (defScope s_l_caught) T.a_l_caught cdg X.A X.stack s H C8.E0).nox) (i := 2) (n := "e")
      (tb := fun W D σ H => ∃ Ech : XK, (∀ cls d σ' H', Ech cls d H' → σ'.length = 3 → W cls d σ' H') ∧ σ[0]? = some (some (.ref f)) ∧ H c' = some (CodeO c' q) ∧ tl Ech H (fun v H1 => [V.str "done"].length ≤ sizeLine ∧ ∀ p, H1 p = none → gName 1 (.ref p) σ (upd H1 p (.tup [.str "done"])) D.nx))
      (l := [(.ref T.c_NotExact, _), (.ref T.c_BadLetters, _), (.ref T.c_BadItem, _), (.ref T.c_TooMany, _)])
      rfl rfl sc_l_caught.nd rfl rfl LamX.takes0 (fun W pn xe tk _ => ?_) (.cons ⟨rfl, by decide +kernel, .inl T.m_NotExact⟩
          (fun a oe cls d pn hz hd => pss_one (ps_set (i := 1) sc_l_caught.nd rfl (by first | exact Or.inl rfl | exact Or.inr rfl) (pe_ifExp (pt_val (pe_callB (call_isXB2 hz hd T.o_get T.o_tk) (by rfl) T.b_isinstance (by decide +kernel) (pa_cons (pv 2) (pa_cons (pe_glob (v := .ref T.c_ShedError) (by rfl) T.m_ShedError rfl) pa_nil)))) (pe_tup (pa_cons pe_str pa_nil)) pe_non))) (.cons ⟨rfl, by decide +kernel, .inl T.m_BadLetters⟩
          (fun a oe cls d pn hz hd => pss_one (ps_set (i := 1) sc_l_caught.nd rfl (by first | exact Or.inl rfl | exact Or.inr rfl) (pe_ifExp (pt_val (pe_callB (call_isXB2 hz hd T.o_get T.o_tk) (by rfl) T.b_isinstance (by decide +kernel) (pa_cons (pv 2) (pa_cons (pe_glob (v := .ref T.c_ShedError) (by rfl) T.m_ShedError rfl) pa_nil)))) (pe_tup (pa_cons pe_str (pa_cons (pe_xby hz hd (pv 2)) pa_nil))) pe_non))) (.cons ⟨rfl, by decide +kernel, .inl T.m_BadItem⟩
          (fun a oe cls d pn hz hd => pss_one (ps_set (i := 1) sc_l_caught.nd rfl (by first | exact Or.inl rfl | exact Or.inr rfl) (pe_ifExp (pt_val (pe_callB (call_isXB2 hz hd T.o_get T.o_tk) (by rfl) T.b_isinstance (by decide +kernel) (pa_cons (pv 2) (pa_cons (pe_glob (v := .ref T.c_ShedError) (by rfl) T.m_ShedError rfl) pa_nil)))) (pe_tup (pa_cons pe_str (pa_cons (pe_xby hz hd (pv 2)) pa_nil))) pe_non))) (.cons ⟨rfl, by decide +kernel, .inl T.m_TooMany⟩
          (fun a oe cls d pn hz hd => pss_one (ps_set (i := 1) sc_l_caught.nd rfl (by first | exact Or.inl rfl | exact Or.inr rfl) (pe_ifExp (pt_val (pe_callB (call_isXB2 hz hd T.o_get T.o_tk) (by rfl) T.b_isinstance (by decide +kernel) (pa_cons (pv 2) (pa_cons (pe_glob (v := .ref T.c_ShedError) (by rfl) T.m_ShedError rfl) pa_nil)))) (pe_tup (pa_cons pe_str (pa_cons (pe_xby hz hd (pv 2)) (pa_cons (pe_xby hz hd (pv 2)) (pa_cons (pe_xby hz hd (pv 2)) pa_nil))))) pe_non))) .nil))))) (pss_one (ps_ret (pv 1)))), ?_⟩
  · refine ⟨fun pins s' σ H' D I h' => ?_⟩
    obtain ⟨Ech, hW, h1, h2, h3⟩ := h'
    exact (pss_cons (ps_expr (act _ pn xe Ech _ _ (takes_len tk) (fun cls d σ' H' h hl => hW cls d σ' H' h hl))) (pss_one (ps_set (i := 1) sc_l_caught.nd rfl (by first | exact Or.inl rfl | exact Or.inr rfl) (pe_tup (pa_cons pe_str pa_nil))))).run pins s' σ H' D I ⟨h1, h2, h3⟩
  · refine ⟨fun cls d H' => (cls = .ref T.c_NotExact ∧ d = none ∧ ∀ p, H' p = none → Q (.ref p) (upd H' p (.tup [.str "not exact"]))) ∨
      (∃ dx v0, cls = .ref T.c_BadLetters ∧ d = some dx ∧ H' dx = some (exd dx [("letters", v0)]) ∧ ∀ p, H' p = none → Q (.ref p) (upd H' p (.tup [.str "letters", v0]))) ∨
      (∃ dx v0, cls = .ref T.c_BadItem ∧ d = some dx ∧ H' dx = some (exd dx [("number", v0)]) ∧ ∀ p, H' p = none → Q (.ref p) (upd H' p (.tup [.str "item", v0]))) ∨
      (∃ dx v0 v1 v2, cls = .ref T.c_TooMany ∧ d = some dx ∧ H' dx = some (exd dx [("most", v2), ("many", v1), ("what", v0)]) ∧ ∀ p, H' p = none → Q (.ref p) (upd H' p (.tup [.str "many", v0, v1, v2]))), fun cls d σ' H' h hl => ?_, rfl, hc,
      h _ _ (fun H' h2 => (.inl ⟨rfl, rfl, h2⟩)) (fun dx v0 H' h1 h2 => (.inr (.inl ⟨dx, v0, rfl, rfl, h1, h2⟩))) (fun dx v0 H' h1 h2 => (.inr (.inr (.inl ⟨dx, v0, rfl, rfl, h1, h2⟩)))) (fun dx v0 v1 v2 H' h1 h2 => (.inr (.inr (.inr ⟨dx, v0, v1, v2, rfl, rfl, h1, h2⟩))))
        (fun v H' hq => ⟨by show 1 ≤ sizeLine; decide, fun p hp => ⟨_, rfl, hq p hp⟩⟩)⟩
    obtain ⟨v0, v1, v2, rfl⟩ : ∃ v0 v1 v2, σ' = [v0, v1, v2] := by
      match σ', hl with
      | [v0, v1, v2], _ => exact ⟨v0, v1, v2, rfl⟩
    rcases h with ⟨rfl, rfl, h2⟩ | ⟨dx, w0, rfl, rfl, h1, h2⟩ | ⟨dx, w0, rfl, rfl, h1, h2⟩ | ⟨dx, w0, w1, w2, rfl, rfl, h1, h2⟩
    · refine ⟨true, exmOne_of T.x_NotExact.subBE (kit_self T.x_NotExact), fun _ a ha => ?_, fun z => by cases z⟩
      refine ⟨_, rfl, T.c_NotExact, _, _, true, rfl, .own _, rfl, T.x_NotExact.r, .inl rfl, T.x_NotExact.base T.x_NotExact T.iS T.tS, _, rfl, iteT ?_⟩
      exact ⟨by show 1 ≤ sizeLine; decide, fun p hp => ⟨_, rfl, h2 p hp⟩⟩
    · refine ⟨decide (T.c_BadLetters = T.c_NotExact), T.x_BadLetters.exm T.x_NotExact n78, fun e => absurd (of_decide_eq_true e) n07, fun _ => ?_⟩
      refine ⟨true, exmOne_of T.x_BadLetters.subBE (kit_self T.x_BadLetters), fun _ a ha => ?_, fun z => by cases z⟩
      refine ⟨_, rfl, T.c_BadLetters, _, _, true, rfl, .own _, rfl, T.x_BadLetters.r, .inr ⟨dx, _, rfl, h1⟩, T.x_BadLetters.base T.x_BadLetters T.iS T.tS, _, rfl, iteT ?_⟩
      refine ⟨_, rfl, rfl, T.c_BadLetters, dx, _, w0, rfl, rfl, T.x_BadLetters.r, T.nf_BadLetters_letters, h1, lk_head _ _ _, ?_⟩
      exact ⟨by show 2 ≤ sizeLine; decide, fun p hp => ⟨_, rfl, h2 p hp⟩⟩
    · refine ⟨decide (T.c_BadItem = T.c_NotExact), T.x_BadItem.exm T.x_NotExact n78, fun e => absurd (of_decide_eq_true e) n47, fun _ => ?_⟩
      refine ⟨decide (T.c_BadItem = T.c_BadLetters), T.x_BadItem.exm T.x_BadLetters n08, fun e => absurd (of_decide_eq_true e) (fun e => n04 e.symm), fun _ => ?_⟩
      refine ⟨true, exmOne_of T.x_BadItem.subBE (kit_self T.x_BadItem), fun _ a ha => ?_, fun z => by cases z⟩
      refine ⟨_, rfl, T.c_BadItem, _, _, true, rfl, .own _, rfl, T.x_BadItem.r, .inr ⟨dx, _, rfl, h1⟩, T.x_BadItem.base T.x_BadItem T.iS T.tS, _, rfl, iteT ?_⟩
      refine ⟨_, rfl, rfl, T.c_BadItem, dx, _, w0, rfl, rfl, T.x_BadItem.r, T.nf_BadItem_number, h1, lk_head _ _ _, ?_⟩
      exact ⟨by show 2 ≤ sizeLine; decide, fun p hp => ⟨_, rfl, h2 p hp⟩⟩
    · refine ⟨decide (T.c_TooMany = T.c_NotExact), T.x_TooMany.exm T.x_NotExact n78, fun e => absurd (of_decide_eq_true e) n17, fun _ => ?_⟩
      refine ⟨decide (T.c_TooMany = T.c_BadLetters), T.x_TooMany.exm T.x_BadLetters n08, fun e => absurd (of_decide_eq_true e) (fun e => n01 e.symm), fun _ => ?_⟩
      refine ⟨decide (T.c_TooMany = T.c_BadItem), T.x_TooMany.exm T.x_BadItem n48, fun e => absurd (of_decide_eq_true e) n14, fun _ => ?_⟩
      refine ⟨true, exmOne_of T.x_TooMany.subBE (kit_self T.x_TooMany), fun _ a ha => ?_, fun z => by cases z⟩
      refine ⟨_, rfl, T.c_TooMany, _, _, true, rfl, .own _, rfl, T.x_TooMany.r, .inr ⟨dx, _, rfl, h1⟩, T.x_TooMany.base T.x_TooMany T.iS T.tS, _, rfl, iteT ?_⟩
      refine ⟨_, rfl, rfl, T.c_TooMany, dx, _, w0, rfl, rfl, T.x_TooMany.r, T.nf_TooMany_what, h1, (by rw [lk_next _ _ (by decide +kernel), lk_next _ _ (by decide +kernel)]; exact lk_head _ _ _), ?_⟩
      refine ⟨_, rfl, rfl, T.c_TooMany, dx, _, w1, rfl, rfl, T.x_TooMany.r, T.nf_TooMany_many, h1, (by rw [lk_next _ _ (by decide +kernel)]; exact lk_head _ _ _), ?_⟩
      refine ⟨_, rfl, rfl, T.c_TooMany, dx, _, w2, rfl, rfl, T.x_TooMany.r, T.nf_TooMany_most, h1, lk_head _ _ _, ?_⟩
      exact ⟨by show 4 ≤ sizeLine; decide, fun p hp => ⟨_, rfl, h2 p hp⟩⟩
end
end Toy
set_option Elab.async false
set_option linter.all false
set_option maxRecDepth 100000
set_option maxHeartbeats 4000000
namespace Toy
open PySem L2 Sh ShL LamX NdefX
/-! ### expressions that give a text, a row of values, a value of some kind -/
def SE (te : TE) (σ : L2.St) (w : Wd) : Prop := ∀ (H : Hp) (R : VK), R (.str (sw w)) H → te σ H R
def CnA (ts : TA) (σ : L2.St) (vs : List V) : Prop := ∀ (H : Hp) (R : List V → Hp → Prop), R vs H → ts σ H R
abbrev rCatW : R2 := fun x y H Q => ∃ i j, x = V.str i ∧ y = V.str j ∧ i.length + j.length ≤ sizeLine ∧ Q (V.str (i ++ j)) H
abbrev rRepW : R2 := fun x y H Q => ∃ (z : Str) (n : Nat), x = V.str z ∧ y = V.int ↑n ∧ n ≤ 1000 ∧ z.length ≤ 1000 ∧ Q (V.str (repS z n)) H
theorem repS_sw (c n : Nat) : repS ⟨#[c]⟩ n = sw (List.replicate n c) := by
  unfold repS sw
  congr 1
  congr 1
  induction n with
  | zero => rfl
  | succ n ih =>
    rw [List.replicate_succ, List.flatten_cons, ih, List.replicate_succ]
    rfl
section
variable {σ : L2.St} {te te1 te2 : TE} {ts : TA} {w w1 w2 : Wd} {vs : List V}
theorem se_var {i : Nat} (e : σ[i]? = some (some (.str (sw w)))) : SE (tVar i) σ w := fun H R k => ⟨_, e, k⟩
theorem se_c {s : Str} (e : s = sw w) : SE (tC (.str s)) σ w := fun H R k => by subst e; exact k
theorem se_cat (h1 : SE te1 σ w1) (h2 : SE te2 σ w2) (hl : w1.length + w2.length ≤ 2000) : SE (tOp rCatW te1 te2) σ (w1 ++ w2) := fun H R k =>
  h1 H _ (h2 H _ ⟨_, _, rfl, rfl, by rw [sw_len, sw_len, sizeLine_eq]; omega, by rw [sw_app]; exact k⟩)
theorem se_ix {i c : Nat} (h : SE te σ w) (hl : w.length ≤ 2000) (hc : w[i]? = some c) : SE (tOp rIxS te (tC (.int (i : Nat)))) σ [c] := fun H R k =>
  h H _ ⟨sw w, _, c, rfl, rfl, by rw [sw_len, sizeLine_eq]; omega, atI_nat hc, k⟩
theorem se_last {c : Nat} (h : SE te σ w) (hl : w.length ≤ 2000) (hc : w.getLast? = some c) : SE (tOp rIxS te (tUn (rU fun i => V.int (-i)) (tC (.int 1)))) σ [c] := fun H R k =>
  h H _ ⟨1, rfl, sw w, _, c, rfl, rfl, by rw [sw_len, sizeLine_eq]; omega, atW_last hc, k⟩
theorem se_rep {c n : Nat} (h : SE te σ [c]) (hn : n ≤ 1000) : SE (tOp rRepW te (tC (.int (n : Nat)))) σ (List.replicate n c) := fun H R k =>
  h H _ ⟨_, n, rfl, rfl, hn, by rw [sw_len]; show 1 ≤ 1000; decide, by rw [← sw_one, repS_sw]; exact k⟩
theorem se_to {n : Nat} (h : SE te σ w) (hl : w.length ≤ 2000) : SE (tSl rSlS te tNoPart (tPart (tC (.int (n : Nat))))) σ (w.take n) := fun H R k =>
  h H _ ⟨_, rfl, _, rfl, by rw [sw_len, sizeLine_eq]; omega, by rw [cut_to]; exact k⟩
theorem se_from {n : Nat} (h : SE te σ w) (hl : w.length ≤ 2000) : SE (tSl rSlS te (tPart (tC (.int (n : Nat)))) tNoPart) σ (w.drop n) := fun H R k =>
  h H _ ⟨_, rfl, _, rfl, by rw [sw_len, sizeLine_eq]; omega, by rw [cut_from]; exact k⟩
theorem cn_nil : CnA tNil σ [] := fun H R k => k
theorem cn_cons {v : V} (h : CnA ts σ vs) : CnA (tCons (tC v) ts) σ (v :: vs) := fun H R k => h H _ k
theorem cn_var {i : Nat} {v : V} (e : σ[i]? = some (some v)) (h : CnA ts σ vs) : CnA (tCons (tVar i) ts) σ (v :: vs) := fun H R k => ⟨v, e, h H _ k⟩
theorem cn_neg {i : Int} (h : CnA ts σ vs) : CnA (tCons (tUn (rU fun i => V.int (-i)) (tC (.int i))) ts) σ (.int (-i) :: vs) := fun H R k => ⟨i, rfl, h H _ k⟩
theorem cn_se (h : SE te σ w) (hs : CnA ts σ vs) : CnA (tCons te ts) σ (.str (sw w) :: vs) := fun H R k => h H _ (hs H _ k)
end
def PE1 (P : Hp → V → Prop) (te : TE) (σ : L2.St) : Prop := ∀ (H : Hp) (R : VK), (∀ x H1, Same H H1 → P H1 x → R x H1) → te σ H R
def PA1 (P : Hp → V → Prop) (ts : TA) (σ : L2.St) (n : Nat) : Prop := ∀ (H : Hp) (R : List V → Hp → Prop), (∀ xs H2, Same H H2 → xs.length = n → (∀ x ∈ xs, P H2 x) → R xs H2) → ts σ H R
def Pm (P : Hp → V → Prop) : Prop := ∀ H H' x, Same H H' → P H x → P H' x
section
variable {P : Hp → V → Prop} {σ : L2.St} {te : TE} {ts : TA} {n : Nat}
theorem p1_nil : PA1 P tNil σ 0 := fun H R k => k [] H (fun _ _ h => h) rfl (fun x hx => by cases hx)
theorem p1_cons (m : Pm P) (h : PE1 P te σ) (hs : PA1 P ts σ n) : PA1 P (tCons te ts) σ (n + 1) := fun H R k =>
  h H _ fun x H1 s1 p1 => hs H1 _ fun xs H2 s2 hl p2 => k (x :: xs) H2 (s1.trans s2) (by rw [List.length_cons, hl]) fun y hy => by
    rcases List.mem_cons.mp hy with rfl | hy
    · exact m _ _ _ s2 p1
    · exact p2 y hy
theorem p1_se {w : Wd} (h : SE te σ w) (hp : ∀ H, P H (.str (sw w))) : PE1 P te σ := fun H R k => h H _ (k _ H (fun _ _ h => h) (hp H))
theorem p1_c {v : V} (hp : ∀ H, P H v) : PE1 P (tC v) σ := fun H R k => k _ H (fun _ _ h => h) (hp H)
theorem p1_tup {vs : List V} (h : CnA ts σ vs) (hl : vs.length ≤ 10) (hp : ∀ H p, H p = some (.tup vs) → P H (.ref p)) : PE1 P (tTup ts) σ := fun H R k =>
  h H _ ⟨by rw [sizeLine_eq]; omega, fun p hn => k _ _ (same_upd hn) (hp _ p upd_same)⟩
theorem p1_lst {vs : List V} (h : CnA ts σ vs) (hl : vs.length ≤ 10) (hp : ∀ H p, H p = some (.lst vs) → P H (.ref p)) : PE1 P (tLst ts) σ := fun H R k =>
  h H _ ⟨by rw [sizeLine_eq]; omega, fun p hn => k _ _ (same_upd hn) (hp _ p upd_same)⟩
theorem lst_p1 {H : Hp} {Q : VK} (h : PA1 P ts σ n) (m : Pm P) (hn : n ≤ 100) (k : ∀ H' p xs, Same H H' → H p = none → H' p = some (.lst xs) → xs.length = n → (∀ x ∈ xs, P H' x) → Q (.ref p) H') : tLst ts σ H Q :=
  h H _ fun xs H2 s2 hl p2 => ⟨by rw [sizeLine_eq]; omega, fun p hp => k _ p xs (s2.trans (same_upd hp)) (s2.free hp) upd_same hl fun x hx => m _ _ _ (same_upd hp) (p2 x hx)⟩
theorem cat_p1 {H : Hp} {Q : VK} {i k0 : Nat} {a : Addr} {ys : List V} (e : σ[i]? = some (some (.ref a))) (ha : H a = some (.lst ys)) (hy : ∀ y ∈ ys, P H y) (hk : ys.length = k0) (m : Pm P) (h : PA1 P ts σ n) (hn : k0 + n ≤ 100)
    (k : ∀ H' p xs, Same H H' → H' p = some (.lst xs) → xs.length = k0 + n → (∀ x ∈ xs, P H' x) → Q (.ref p) H') : tOp rCat (tVar i) (tLst ts) σ H Q := by
  refine ⟨_, e, ?_⟩
  refine lst_p1 h m (by omega) fun H1 p xs s1 n1 hp hl hx => ?_
  refine ⟨a, p, _, _, rfl, rfl, s1 _ _ ha, hp, by rw [sizeLine_eq]; omega, fun q hq => ?_⟩
  have s2 := same_upd (o := .lst (ys ++ xs)) hq
  refine k _ q _ (s1.trans s2) upd_same (by rw [List.length_append, hk, hl]) fun x hx' => ?_
  rcases List.mem_append.mp hx' with h | h
  · exact m _ _ _ (s1.trans s2) (hy x h)
  · exact m _ _ _ s2 (hx x h)
end
theorem asgI {te : TE} {g : TG} {u : TS} {D : Ends} {σ : L2.St} {H : Hp} (h : te σ H fun v H1 => g v σ H1 (u D)) : tSeq (tAsg te g) u D σ H := h
theorem asgE {te : TE} {g : TG} {D : Ends} {σ : L2.St} {H : Hp} (h : te σ H fun v H1 => g v σ H1 D.nx) : tAsg te g D σ H := h
theorem opI {r : R2} {ta tb : TE} {σ : L2.St} {H : Hp} {Q : VK} (h : ta σ H fun x H1 => tb σ H1 fun y H2 => r x y H2 Q) : tOp r ta tb σ H Q := h
def OddL (H : Hp) (v : V) : Prop := LtV H v false ∧ plainV v = true
theorem OddL.m : Pm OddL := fun H H' x s h => ⟨h.1.kp (kpS_same s), h.2⟩
theorem oddL_w {H : Hp} {w : Wd} (hl : w.length ≤ 1000) (h : ¬ LetOk w) : OddL H (.str (sw w)) := ⟨.inl ⟨w, rfl, hl, (decide_eq_false h).symm⟩, rfl⟩
theorem oddL_t {H : Hp} {v : V} {t : String} (h : TyN H v t) (n : t ≠ "str") (p : plainV v = true) : OddL H v := ⟨.inr ⟨rfl, t, h, n⟩, p⟩
theorem no_bad {w : Wd} {c : Nat} (h : c ∈ w) (n : c ∉ small) : ¬ LetOk w := fun k => n (k.sm c h)
theorem no_dup {w : Wd} (h : ¬ w.Nodup) : ¬ LetOk w := fun k => h k.nd
theorem no_short {w : Wd} (h : w.length < 2) : ¬ LetOk w := fun k => by have := k.l2; omega
theorem no_long {w : Wd} (h : 26 < w.length) : ¬ LetOk w := fun k => by have := k.l26; omega
def VlN (b : Bool) (H : Hp) (y : V) : Prop := (y = .non ∧ b = true) ∨ (y ≠ .non ∧ VlV H y b)
theorem wd_m {z : Wd} {b : Bool} : Pm (fun H x => WdV H z x b) := fun H H' x s h => WdV.kp (kpS_same s) h
theorem vl_m {b : Bool} : Pm (VlN b) := fun H H' x s h => h.imp id fun h => ⟨h.1, VlV.kp (kpS_same s) h.2⟩
theorem p1_v {P : Hp → V → Prop} {σ : L2.St} {i : Nat} {v : V} (e : σ[i]? = some (some v)) (hp : ∀ H, P H v) : PE1 P (tVar i) σ := fun H R k => ⟨v, e, k _ H (fun _ _ h => h) (hp H)⟩
theorem vl_int {H : Hp} {i : Int} {b : Bool} (e : b = decide (1 ≤ i ∧ i ≤ 9)) : VlN b H (.int i) := .inr ⟨(fun z => nomatch z), .inl ⟨i, rfl, e⟩⟩
theorem vl_t {H : Hp} {v : V} {t : String} (n0 : v ≠ .non) (h : TyN H v t) (n : t ≠ "int") : VlN false H v := .inr ⟨n0, .inr ⟨rfl, t, h, n⟩⟩
theorem wd_w {H : Hp} {z w : Wd} {b : Bool} (hl : w.length ≤ 1000) (e : b = decide (w.length ≤ 200 ∧ ∀ c ∈ w, c ∈ z)) : WdV H z (.str (sw w)) b := .inl ⟨w, rfl, hl, e⟩
theorem wd_bad {H : Hp} {z w : Wd} {c : Nat} (hl : w.length ≤ 1000) (h : c ∈ w) (n : c ∉ z) : WdV H z (.str (sw w)) false := wd_w hl (decide_eq_false fun k => n (k.2 c h)).symm
theorem wd_long {H : Hp} {z w : Wd} (hl : w.length ≤ 1000) (h : 200 < w.length) : WdV H z (.str (sw w)) false := wd_w hl (decide_eq_false fun k => by omega).symm
theorem wd_t {H : Hp} {z : Wd} {v : V} {t : String} (h : TyN H v t) (n : t ≠ "str") : WdV H z v false := .inr ⟨rfl, t, h, n⟩
theorem ifI {r : R2} {te1 te2 : TE} {a b u : TS} {D : Ends} {σ : L2.St} {H : Hp} (h : te1 σ H fun x H1 => te2 σ H1 fun y H2 => r x y H2 fun v H3 => ∃ k, v = .bl k ∧ (if k = true then a { D with nx := u D } σ H3 else b { D with nx := u D } σ H3)) : tSeq (tIfS (tTest (tOp r te1 te2)) a b) u D σ H := h
theorem ifE {r : R2} {te1 te2 : TE} {a b : TS} {D : Ends} {σ : L2.St} {H : Hp} (h : te1 σ H fun x H1 => te2 σ H1 fun y H2 => r x y H2 fun v H3 => ∃ k, v = .bl k ∧ (if k = true then a D σ H3 else b D σ H3)) : tIfS (tTest (tOp r te1 te2)) a b D σ H := h
theorem tabs_kp {T : List (Addr × Str)} {H H' : Hp} {d c : Addr} {n : Nat} (t : Tabs T H) (p : Pen H d c n) (s : Kp d H H') : Tabs T H' := by
  obtain ⟨ns, b, l, h1, _⟩ := p
  exact Sh.Tabs.kp t h1 s
theorem SmK.kpD {T : List (Addr × Str)} {d c : Addr} {n : Nat} {H H1 H2 : Hp} (k : SmK T d H H1) (p : Pen H1 d c n) (s : Kp d H1 H2) : SmK T d H H2 := by
  obtain ⟨kvs, hd⟩ := p.at
  exact ⟨fun b u h nt ne => s _ _ (k.1 b u h nt ne) ne, Tabs.kp k.2 hd s⟩
theorem SmK.get {T : List (Addr × Str)} {d : Addr} {H H1 : Hp} (k : SmK T d H H1) {b : Addr} {u : HO} (h : H b = some u) (ne : b ≠ d) (nt : ∀ ps, u ≠ .tbl ps := by intro ps z; cases z) : H1 b = some u := k.1 b u h nt ne
theorem SmK.kpS {T : List (Addr × Str)} {d c : Addr} {n m : Nat} {H H1 : Hp} (k : SmK T d H H1) (p : Pen H d c n) (p' : Pen H1 d c m) : KpS H H1 := by
  obtain ⟨kvs, hd⟩ := p.at
  obtain ⟨kvs', hd'⟩ := p'.at
  refine ⟨fun b xs h => k.get h (ne_of h hd (by intro z; cases z)), fun b xs h => k.get h (ne_of h hd (by intro z; cases z)), fun b kvs0 h => ?_⟩
  by_cases e : b = d
  · exact ⟨_, by rw [e]; exact hd'⟩
  · exact ⟨_, k.get h e⟩
theorem SmK.pen {T : List (Addr × Str)} {d c : Addr} {n : Nat} {H H1 : Hp} (s : Sm T H H1) (p : Pen H d c n) : Pen H1 d c n := by
  obtain ⟨ns, b, l, h1, h2, h3⟩ := p
  exact ⟨ns, b, l, s.get h1, s.get h2, h3⟩
theorem pen_sm {T : List (Addr × Str)} {d c : Addr} {n : Nat} {H H1 : Hp} (s : Sm T H H1) (p : Pen H d c n) : Pen H1 d c n := SmK.pen s p
theorem fineR_uniq {os : List (Option Rw)} {us vs : List Rw} (h : FineR os us) (h' : FineR os vs) : us = vs := some_inj (h.1.symm.trans h'.1)
theorem fineI_uniq {os : List (Option It2)} {us vs : List It2} (h : FineI os us) (h' : FineI os vs) : us = vs := some_inj (h.1.symm.trans h'.1)
theorem fineR_wrong {os : List (Option Rw)} {us : List Rw} {i : Nat} (h : FineR os us) (w : WrongR os i) : False := by
  rw [h.1] at w
  exact wrongR_no h.2 w
theorem fineI_wrong {os : List (Option It2)} {us : List It2} {i : Nat} (h : FineI os us) (w : WrongI os i) : False := by
  rw [h.1] at w
  exact wrongI_no h.2 w
theorem wrongI_lt {os : List (Option It2)} {i j : Nat} (w : WrongI os i) (w' : WrongI os j) : ¬ i < j := fun hlt => by
  obtain ⟨o, ks, h1, f1, h2⟩ := w
  obtain ⟨o', ks', h1', f1', h2'⟩ := w'
  refine fineI_wrong (i := i) f1' ⟨o, ks, by rw [List.getElem?_take_of_lt hlt]; exact h1, by rw [List.take_take, Nat.min_eq_left (Nat.le_of_lt hlt)]; exact f1, h2⟩
theorem wrongI_uniq {os : List (Option It2)} {i j : Nat} (w : WrongI os i) (w' : WrongI os j) : i = j := by
  have a := wrongI_lt w w'
  have b := wrongI_lt w' w
  omega
def OutI (os : List (Option It2)) (ws : List V) : Prop := (∀ i, WrongI os i → ws = [.str "item", .int (i : Nat)]) ∧ (∀ its, FineI os its → 2000 < (begs (its.map (·.1))).length → ws = [.str "many", .str "places", .int ((begs (its.map (·.1))).length : Nat), .int 2000]) ∧ (∀ its, FineI os its → (begs (its.map (·.1))).length ≤ 2000 → ws = [.str "done"])
theorem outI_item {os : List (Option It2)} {i : Nat} (h : WrongI os i) : OutI os [.str "item", .int (i : Nat)] :=
  ⟨fun j w => by rw [wrongI_uniq h w], fun its f => (fineI_wrong f h).elim, fun its f => (fineI_wrong f h).elim⟩
theorem outI_done {its : List It2} (nd : (its.map (·.1)).Nodup) (h : (begs (its.map (·.1))).length ≤ 2000) : OutI (its.map some) [.str "done"] :=
  ⟨fun j w => (wrongI_no nd w).elim, fun vs f l => by rw [fineI_inj f] at l; omega, fun _ _ _ => rfl⟩
theorem outI_many {its : List It2} {n : Nat} (nd : (its.map (·.1)).Nodup) (h : (begs (its.map (·.1))).length = n) (hn : 2000 < n) : OutI (its.map some) [.str "many", .str "places", .int (n : Nat), .int 2000] :=
  ⟨fun j w => (wrongI_no nd w).elim, fun vs f _ => by rw [fineI_inj f, h], fun vs f l => by rw [fineI_inj f] at l; omega⟩
theorem same_tupV {K : PySem.W.Frag} {b : Bool} {H : Hp} {p : Addr} {ws : List V} {ts : TA} {σ : L2.St} {R : VK} (h : H p = some (.tup ws)) (hc : CnA ts σ ws) (hp : ws.all plainV = true) (hl : ws.length ≤ 10) (q : ∀ H', Same H H' → R (.bl b) H') :
    tTup ts σ H fun y H1 => rSameT K b (.ref p) y H1 R := by
  refine hc H _ ⟨by rw [sizeLine_eq]; omega, fun p2 hp2 => ?_⟩
  have s2 := same_upd (o := .tup ws) hp2
  exact ⟨p, p2, _, rfl, rfl, SqT.of (s2 _ _ h), SqT.of upd_same, hp, q _ s2⟩
theorem same_ref {K : PySem.W.Frag} {b : Bool} {H : Hp} {p p2 : Addr} {ws : List V} {R : VK} (h : H p = some (.tup ws)) (h2 : H p2 = some (.tup ws)) (hp : ws.all plainV = true) (q : R (.bl b) H) : rSameT K b (.ref p) (.ref p2) H R :=
  ⟨p, p2, _, rfl, rfl, SqT.of h, SqT.of h2, hp, q⟩
def RwP (H : Hp) (v : V) (p : Wd) : Prop := ∃ o f, RwT H v (p, o, f) ∧ ∀ i, o = some i → 1 ≤ i ∧ i ≤ 9
theorem RwT.putL {H : Hp} {v : V} {r : Rw} {p : Addr} {xs ys : List V} (h : RwT H v r) (hp : H p = some (.lst xs)) : RwT (upd H p (.lst ys)) v r := by
  obtain ⟨a, e, h⟩ := h
  exact ⟨a, e, by rw [upd_ne (ne_of h hp (by intro z; cases z))]; exact h⟩
theorem rowO_rw {H : Hp} {z : Wd} : ∀ {xs : List V} {us : List Rw}, Paired (RwT H) xs us → (∀ r ∈ us, RwOk z r) → Paired (RowO H z) xs (us.map some)
  | _, _, .nil, _ => .nil
  | _, _, .cons h t, ok => .cons ⟨h.e, ok _ List.mem_cons_self⟩ (rowO_rw t fun r hr => ok r (List.mem_cons_of_mem _ hr))
theorem consI {te : TE} {ts : TA} {σ : L2.St} {H : Hp} {k : List V → Hp → Prop} (h : te σ H fun v H1 => ts σ H1 fun vs H2 => k (v :: vs) H2) : tCons te ts σ H k := h
theorem tupA {ts : TA} {σ : L2.St} {vs : List V} {H : Hp} {Q : VK} (h : CnA ts σ vs) (hl : vs.length ≤ 10) (k : ∀ p, H p = none → Q (.ref p) (upd H p (.tup vs))) : tTup ts σ H Q := h H _ ⟨by rw [sizeLine_eq]; omega, k⟩
theorem eqV_sw (p q : Wd) : eqV (.str (sw p)) (.str (sw q)) = decide (p = q) := by
  show ((sw p) == (sw q)) = _
  exact sw_beq p q
theorem retAndI {r : R2} {te1 te2 tb : TE} {D : Ends} {σ : L2.St} {H : Hp} (h : te1 σ H fun x H1 => te2 σ H1 fun y H2 => r x y H2 fun v H3 => ∃ k, v = .bl k ∧ (if k = true then tb σ H3 D.rt else D.rt (.bl false) H3)) : tRet (tAndV (tOp r te1 te2) tb) D σ H := h
theorem retOpI {r : R2} {te1 te2 : TE} {D : Ends} {σ : L2.St} {H : Hp} (h : te1 σ H fun x H1 => te2 σ H1 fun y H2 => r x y H2 D.rt) : tRet (tOp r te1 te2) D σ H := h
def ItT (H : Hp) (v : V) (it : It2) : Prop := ∃ a, v = .ref a ∧ H a = some (.tup [.str (sw it.1), .int it.2])
def ItW (H : Hp) (v : V) (w : Wd) : Prop := ∃ k : Int, 1 ≤ k ∧ k ≤ 9 ∧ ItT H v (w, k)
theorem ItT.same {H H' : Hp} {v : V} {it : It2} (s : Same H H') (h : ItT H v it) : ItT H' v it := let ⟨a, e, h⟩ := h; ⟨a, e, s _ _ h⟩
theorem ItT.sm {T : List (Addr × Str)} {H H' : Hp} {v : V} {it : It2} (s : Sm T H H') (h : ItT H v it) : ItT H' v it := let ⟨a, e, h⟩ := h; ⟨a, e, s.get h⟩
theorem ItT.kpS {H H' : Hp} {v : V} {it : It2} (s : KpS H H') (h : ItT H v it) : ItT H' v it := let ⟨a, e, h⟩ := h; ⟨a, e, s.2.1 _ _ h⟩
theorem items_of {H : Hp} : ∀ {vs : List V} {ws : List Wd}, Paired (ItW H) vs ws → ∃ its : List It2, its.map (·.1) = ws ∧ Paired (ItT H) vs its ∧ ∀ it ∈ its, 1 ≤ it.2 ∧ it.2 ≤ 9
  | _, _, .nil => ⟨[], rfl, .nil, fun r h => by cases h⟩
  | _, _, .cons (b := w) ⟨k, h1, h9, h⟩ t => by
    obtain ⟨its, e, pr, ok⟩ := items_of t
    refine ⟨(w, k) :: its, by rw [List.map_cons, e], .cons h pr, fun r hr => ?_⟩
    rcases List.mem_cons.mp hr with rfl | hr
    · exact ⟨h1, h9⟩
    · exact ok r hr
def ItOk (z : Wd) (it : It2) : Prop := it.1.length ≤ 200 ∧ (∀ c ∈ it.1, c ∈ z) ∧ 1 ≤ it.2 ∧ it.2 ≤ 9
theorem itV_of {H : Hp} {z : Wd} : ∀ {vs : List V} {its : List It2}, Paired (ItT H) vs its → (∀ it ∈ its, ItOk z it) → Paired (ItV H z) vs (its.map some)
  | _, _, .nil, _ => .nil
  | _, _, .cons (b := it) ⟨a, e, h⟩ t, ok => .cons (.inr ⟨a, _, e, .inr h, .inr (it_ok (ok it List.mem_cons_self).1 (ok it List.mem_cons_self).2.1 (ok it List.mem_cons_self).2.2)⟩) (itV_of t fun r hr => ok r (List.mem_cons_of_mem _ hr))
def OddI (z : Wd) (H : Hp) (v : V) : Prop := ItV H z v none
theorem OddI.m {z : Wd} : Pm (OddI z) := fun H H' x s h => ItV.kp (kpS_same s) h
theorem vi_m {b : Bool} : Pm (fun H y => VlV H y b) := fun H H' x s h => VlV.kp (kpS_same s) h
theorem p1_two {z : Wd} {σ : L2.St} {te1 te2 : TE} (b1 b2 : Bool) (h1 : PE1 (fun H x => WdV H z x b1) te1 σ) (h2 : PE1 (fun H y => VlV H y b2) te2 σ) (e : (b1 && b2) = false) :
    PE1 (OddI z) (tTup (tCons te1 (tCons te2 tNil))) σ := fun H R k =>
  h1 H _ fun x H1 s1 w1 => h2 H1 _ fun y H2 s2 w2 => ⟨by show 2 ≤ sizeLine; decide, fun p hp => by
    have s4 := same_upd (o := .tup [x, y]) hp
    refine k _ _ ((s1.trans s2).trans s4) (.inr ⟨p, [x, y], rfl, .inr upd_same, .inr ⟨x, y, b1, b2, rfl, w1.kp (kpS_same (s2.trans s4)), w2.kp (kpS_same s4), e⟩⟩)⟩
theorem vi_int {H : Hp} {i : Int} {b : Bool} (e : b = decide (1 ≤ i ∧ i ≤ 9)) : VlV H (.int i) b := .inl ⟨i, rfl, e⟩
theorem vi_t {H : Hp} {v : V} {t : String} (h : TyN H v t) (n : t ≠ "int") : VlV H v false := .inr ⟨rfl, t, h, n⟩
theorem oddI_ty {H : Hp} {z : Wd} {v : V} {t : String} (h : TyN H v t) (n1 : t ≠ "list") (n2 : t ≠ "tuple") : OddI z H v := .inl ⟨rfl, t, h, n1, n2⟩
theorem oddI_len {H : Hp} {z : Wd} {p : Addr} {xs : List V} (h : SqA H p xs) (n : xs.length ≠ 2) : OddI z H (.ref p) := .inr ⟨p, xs, rfl, h, .inl ⟨rfl, n⟩⟩
def itD (it : It2) : PyData := .tuple [.str (sw it.1), .int it.2]
theorem its_dp {K : PySem.W.Frag} {H : Hp} : ∀ {vs : List V} {its : List It2}, Paired (ItT H) vs its → DpAll K H vs (its.map itD)
  | _, _, .nil => .nil
  | _, _, .cons ⟨a, e, h⟩ t => by
    subst e
    exact .cons (.tup (SqT.of h) (.cons (.str _) (.cons (.int _) .nil))) (its_dp t)
theorem its_lay : ∀ its : List It2, (∀ it ∈ its, ∀ c ∈ it.1, c < 200) → PyData.canLayAll0 (its.map itD) = true ∧ PyData.depthAll (its.map itD) ≤ 2
  | [], _ => ⟨rfl, by simp [PyData.depthAll]⟩
  | r :: rs, h => by
    obtain ⟨h1, h2⟩ := its_lay rs fun x hx => h x (List.mem_cons_of_mem _ hx)
    have h3 : PyData.canLay0 (itD r) = true ∧ PyData.depth (itD r) ≤ 1 := by
      unfold itD
      constructor
      · simp only [PyData.canLay0, PyData.canLayAll0, str_ok (h r List.mem_cons_self)]
        rfl
      · simp only [PyData.depth, PyData.depthAll]
        omega
    refine ⟨by simp only [List.map_cons, PyData.canLayAll0, h1, h3.1]; rfl, ?_⟩
    simp only [List.map_cons, PyData.depthAll]
    omega
theorem its_shaped {its : List It2} (h : ∀ it ∈ its, ∀ c ∈ it.1, c < 200) : SeqAt.shaped (.list (its.map itD)) = true := by
  obtain ⟨h1, h2⟩ := its_lay its h
  exact shaped_of (by simp only [PyData.canLay0]; exact h1) (by simp only [PyData.depth]; omega)
theorem wrongI_at {its : List It2} {r : List (Option It2)} {i : Nat} (nd : (its.map (·.1)).Nodup) (hi : i ≤ its.length) : WrongI ((its.map some).take i ++ none :: r) i := by
  have hl : ((its.map some).take i).length = i := by rw [List.length_take, List.length_map]; omega
  refine ⟨none, its.take i, ?_, ⟨?_, ?_⟩, .inl rfl⟩
  · rw [List.getElem?_append_right (by omega), hl, Nat.sub_self]
    rfl
  · rw [List.take_append_of_le_length (by omega), List.take_of_length_le (by omega), ← List.map_take]
  · rw [List.map_take]
    exact nd.sublist (List.take_sublist _ _)
theorem wrongI_end {its : List It2} {it : It2} (nd : (its.map (·.1)).Nodup) (h : it.1 ∈ its.map (·.1)) : WrongI (its.map some ++ [some it]) its.length := by
  have hl : (its.map some).length = its.length := List.length_map _
  refine ⟨some it, its, ?_, ⟨?_, nd⟩, .inr ⟨it, rfl, h⟩⟩
  · rw [List.getElem?_append_right (by omega), hl, Nat.sub_self]
    rfl
  · rw [List.take_append_of_le_length (by omega), List.take_of_length_le (by omega)]
theorem forI {K : PySem.W.Frag} {te : TE} {g : TG} {tb u : TS} {D : Ends} {σ : L2.St} {H : Hp}
    (h : te σ H fun x H1 => ∃ a, x = .ref a ∧ (∃ xs, SqL K H1 a xs) ∧ ∃ W : Nat → Nat → L2.St → Hp → Prop, (∃ m, W 0 m σ H1) ∧ ∀ i m σ H, W i m σ H →
      ((Itl K a).stop i H ∧ ({ D with nx := u D } : Ends).nx σ H) ∨ ((Itl K a).go i H ∧ ∃ N : L2.St → Hp → Prop, (∀ σ' H', N σ' H' → ∃ m', m' < m ∧ W (i + 1) m' σ' H') ∧ ∀ x H', (Itl K a).yld i H x H' → g x σ H' fun σ2 H2 => tb { ({ D with nx := u D } : Ends) with nx := N, ct := N, bk := ({ D with nx := u D } : Ends).nx } σ2 H2)) : tSeq (tFor (iList K te) g tb) u D σ H := h
theorem ifBI {te : TE} {a b u : TS} {D : Ends} {σ : L2.St} {H : Hp} (h : te σ H fun v H3 => ∃ k, v = .bl k ∧ (if (!k) = true then a { D with nx := u D } σ H3 else b { D with nx := u D } σ H3)) : tSeq (tIfS (tNot (tB te)) a b) u D σ H := h
theorem wrongI_none {os : List (Option It2)} : WrongI (none :: os) 0 := ⟨none, [], rfl, ⟨rfl, List.nodup_nil⟩, .inl rfl⟩
def lw (c0 c1 a b : Nat) : Wd := List.replicate a c0 ++ List.replicate b c1
def lws (c0 c1 n : Nat) : List Wd := (List.range n).map fun k => lw c0 c1 k (200 - k)
def lbs (c0 c1 n : Nat) : List Wd := (List.range n).flatMap fun a => (List.range (201 - a)).map fun b => lw c0 c1 a b
theorem lw_inj {c0 c1 : Nat} (ne : c0 ≠ c1) {a b a' b' : Nat} (e : lw c0 c1 a b = lw c0 c1 a' b') : a = a' ∧ b = b' := by
  have h0 := congrArg (List.count c0) e
  have h1 := congrArg List.length e
  unfold lw at h0 h1
  rw [List.count_append, List.count_append, List.count_replicate_self, List.count_replicate_self, List.count_replicate, List.count_replicate, if_neg (by simp; exact ne.symm), if_neg (by simp; exact ne.symm)] at h0
  rw [List.length_append, List.length_append, List.length_replicate, List.length_replicate, List.length_replicate, List.length_replicate] at h1
  omega
theorem lws_nd {c0 c1 n : Nat} (ne : c0 ≠ c1) : (lws c0 c1 n).Nodup := by
  unfold lws
  rw [List.nodup_iff_pairwise_ne, List.pairwise_map]
  exact List.Pairwise.imp (fun h e => h (lw_inj ne e).1) List.nodup_range
theorem lbs_nd {c0 c1 n : Nat} (ne : c0 ≠ c1) : (lbs c0 c1 n).Nodup := by
  unfold lbs
  rw [List.nodup_iff_pairwise_ne, List.pairwise_flatMap]
  refine ⟨fun a ha => ?_, ?_⟩
  · rw [List.pairwise_map]
    exact List.Pairwise.imp (fun h e => h (lw_inj ne e).2) List.nodup_range
  · refine List.Pairwise.imp (fun h x hx y hy e => ?_) List.nodup_range
    obtain ⟨b, _, rfl⟩ := List.mem_map.mp hx
    obtain ⟨b', _, rfl⟩ := List.mem_map.mp hy
    exact h (lw_inj ne e).1
theorem lw_take {c0 c1 a b m : Nat} : (lw c0 c1 a b).take m = lw c0 c1 (min m a) (min (m - a) b) := by
  unfold lw
  rw [List.take_append, List.length_replicate, List.take_replicate, List.take_replicate]
theorem lw_len {c0 c1 a b : Nat} : (lw c0 c1 a b).length = a + b := by simp [lw]
theorem lbs_mem {c0 c1 n : Nat} (h0 : 1 ≤ n) (h1 : n ≤ 100) {q : Wd} : q ∈ begs (lws c0 c1 n) ↔ q ∈ lbs c0 c1 n := by
  rw [begs_mem]
  unfold lbs lws
  rw [List.mem_flatMap]
  constructor
  · rintro (rfl | ⟨p, hp, m, rfl⟩)
    · exact ⟨0, List.mem_range.mpr (by omega), List.mem_map.mpr ⟨0, List.mem_range.mpr (by omega), rfl⟩⟩
    · obtain ⟨k, hk, rfl⟩ := List.mem_map.mp hp
      have hk := List.mem_range.mp hk
      rw [lw_take]
      exact ⟨min m k, List.mem_range.mpr (by omega), List.mem_map.mpr ⟨min (m - k) (200 - k), List.mem_range.mpr (by omega), rfl⟩⟩
  · rintro ⟨a, ha, h⟩
    obtain ⟨b, hb, rfl⟩ := List.mem_map.mp h
    have ha := List.mem_range.mp ha
    have hb := List.mem_range.mp hb
    refine .inr ⟨_, List.mem_map.mpr ⟨a, List.mem_range.mpr ha, rfl⟩, a + b, ?_⟩
    rw [lw_take]
    congr 1 <;> omega
theorem lbs_count {c0 c1 n : Nat} (ne : c0 ≠ c1) (h0 : 1 ≤ n) (h1 : n ≤ 100) : (begs (lws c0 c1 n)).length = ((List.range n).map fun a => 201 - a).sum := by
  have : (begs (lws c0 c1 n)).Perm (lbs c0 c1 n) := (List.perm_ext_iff_of_nodup (begs_nd _) (lbs_nd ne)).mpr fun q => lbs_mem h0 h1
  rw [this.length_eq]
  unfold lbs
  rw [List.length_flatMap]
  simp
theorem begs_11 {c0 c1 : Nat} (ne : c0 ≠ c1) : (begs (lws c0 c1 11)).length = 2156 := by rw [lbs_count ne (by decide) (by decide)]; decide
theorem begs_10 {c0 c1 : Nat} (ne : c0 ≠ c1) : (begs (lws c0 c1 10)).length = 1965 := by rw [lbs_count ne (by decide) (by decide)]; decide
theorem drop_range {α : Type} (f : Nat → α) (n : Nat) : ((List.range (n + 1)).map f).drop 1 = (List.range n).map fun i => f (i + 1) := by
  rw [List.range_succ_eq_map, List.map_cons, List.drop_one, List.tail_cons, List.map_map]
  rfl
theorem lws_take {c0 c1 n m : Nat} (h : m ≤ n) : (lws c0 c1 n).take m = lws c0 c1 m := by
  unfold lws
  rw [← List.map_take, List.take_range, Nat.min_eq_left h]
def mit (p : Wd) : It2 := (p, 3)
theorem mit_fst (ps : List Wd) : (ps.map mit).map (·.1) = ps := by
  rw [List.map_map]
  exact List.map_id _
theorem mit_ok {z : Wd} {c0 c1 n : Nat} (m0 : c0 ∈ z) (m1 : c1 ∈ z) (hn : n ≤ 200) : ∀ it ∈ (lws c0 c1 n).map mit, ItOk z it := fun r hr => by
  obtain ⟨p, hp, rfl⟩ := List.mem_map.mp hr
  unfold lws at hp
  obtain ⟨k, hk, rfl⟩ := List.mem_map.mp hp
  have hk := List.mem_range.mp hk
  refine ⟨?_, fun c hc => ?_, by show (1 : Int) ≤ 3; decide, by show (3 : Int) ≤ 9; decide⟩
  · show (lw c0 c1 k (200 - k)).length ≤ 200
    rw [lw_len]; omega
  · have hc : c ∈ lw c0 c1 k (200 - k) := hc
    unfold lw at hc
    rcases List.mem_append.mp hc with hc | hc
    · rw [List.eq_of_mem_replicate hc]; exact m0
    · rw [List.eq_of_mem_replicate hc]; exact m1
theorem se_repV {te tk : TE} {σ : L2.St} {c n : Nat} (h : SE te σ [c]) (hk : ∀ (H : Hp) (R : VK), R (.int (n : Nat)) H → tk σ H R) (hn : n ≤ 1000) : SE (tOp rRepW te tk) σ (List.replicate n c) := fun H R k =>
  h H _ (hk H _ ⟨_, n, rfl, rfl, hn, by rw [sw_len]; show 1 ≤ 1000; decide, by rw [← sw_one, repS_sw]; exact k⟩)
theorem walk_rng (n : Nat) : Walk (Itr 0 n) ((List.range n).map fun k : Nat => V.int (k : Int)).length (fun _ => True) (YAt ((List.range n).map fun k : Nat => V.int (k : Int))) := by
  have := walk_range (lo := 0) (n := n)
  rw [show n = ((List.range n).map fun k : Nat => V.int (k : Int)).length by rw [List.length_map, List.length_range]] at this
  rw [List.length_map, List.length_range] at this ⊢
  refine this.mono (fun _ h => h) fun i H x H' hi _ ⟨e, h⟩ => ⟨e, ?_⟩
  rw [List.getElem?_map, List.getElem?_range hi, h]
  show some (V.int (i : Int)) = some (V.int (0 + (i : Int)))
  rw [Int.zero_add]
theorem retI {r : R2} {te1 te2 : TE} {D : Ends} {σ : L2.St} {H : Hp} (h : te1 σ H fun x H1 => te2 σ H1 fun y H2 => r x y H2 D.rt) : tRet (tOp r te1 te2) D σ H := h
end Toy
set_option Elab.async false
set_option linter.all false
set_option maxRecDepth 100000
set_option maxHeartbeats 4000000
namespace Toy
open PySem L2 Sh ShL LamX NdefX
/-! ### exact rules, their flags -/
abbrev Sh2 := Bool × Int
def sh (k : Kd) : Sh2 := (k.1, k.2.2)
def cntK (ks : List Kd) (s : Sh2) : Nat := (ks.filter fun k => decide (sh k = s)).length
def dueN (s : Sh2) : Nat := if s.1 = true ∨ 0 < s.2 then 1 else 0
def shapes : List Sh2 := [(false, 0), (false, 1), (false, 2), (true, 0), (true, 1), (true, 2)]
def exB (j1 j2 : List Kd) : Bool := decide ((false, false, 0) ∈ j1) && shapes.all fun s => decide (cntK j1 s = 1 ∧ cntK j2 s = dueN s)
def KOk (k : Kd) : Prop := 0 ≤ k.2.2 ∧ k.2.2 ≤ 2
theorem sh_mem {k : Kd} (h : KOk k) : sh k ∈ shapes := by
  obtain ⟨a, b, c⟩ := k
  have h : 0 ≤ c ∧ c ≤ 2 := h
  have : c = 0 ∨ c = 1 ∨ c = 2 := by omega
  show (a, c) ∈ shapes
  rcases this with rfl | rfl | rfl <;> cases a <;> decide
theorem cntK_perm {ks js : List Kd} (h : ks.Perm js) (s : Sh2) : cntK ks s = cntK js s := (h.filter _).length_eq
theorem exB_perm {j1 j2 k1 k2 : List Kd} (h1 : j1.Perm k1) (h2 : j2.Perm k2) : exB j1 j2 = exB k1 k2 := by
  unfold exB
  congr 1
  · rw [Bool.eq_iff_iff]
    simp [h1.mem_iff]
  · congr 1
    funext s
    rw [cntK_perm h1, cntK_perm h2]
structure Ex (j1 j2 : List Kd) : Prop where
  r0 : (false, false, 0) ∈ j1
  c1 : ∀ s ∈ shapes, cntK j1 s = 1
  c2 : ∀ s ∈ shapes, cntK j2 s = dueN s
  o1 : ∀ k ∈ j1, KOk k
  o2 : ∀ k ∈ j2, KOk k
theorem exB_ex {j1 j2 : List Kd} (o1 : ∀ k ∈ j1, KOk k) (o2 : ∀ k ∈ j2, KOk k) (h : exB j1 j2 = true) : Ex j1 j2 := by
  unfold exB at h
  rw [Bool.and_eq_true] at h
  have a := List.all_eq_true.mp h.2
  exact ⟨of_decide_eq_true h.1, fun s hs => (of_decide_eq_true (a s hs)).1, fun s hs => (of_decide_eq_true (a s hs)).2, o1, o2⟩
theorem Ex.perm {j1 j2 k1 k2 : List Kd} (h : Ex j1 j2) (h1 : j1.Perm k1) (h2 : j2.Perm k2) : Ex k1 k2 :=
  ⟨h1.mem_iff.mp h.r0, fun s hs => by rw [← cntK_perm h1]; exact h.c1 s hs, fun s hs => by rw [← cntK_perm h2]; exact h.c2 s hs, fun k hk => h.o1 k (h1.mem_iff.mpr hk), fun k hk => h.o2 k (h2.mem_iff.mpr hk)⟩
/-- the flag for a shape -/
def fl (ks : List Kd) (s : Sh2) : Bool := match ks.find? fun k => decide (sh k = s) with
  | some k => k.2.1
  | none => false
theorem cnt1 {ks : List Kd} {s : Sh2} (h : cntK ks s ≤ 1) {k : Kd} (hk : k ∈ ks) (e : sh k = s) : k = (s.1, fl ks s, s.2) := by
  unfold cntK at h
  have hm : k ∈ ks.filter fun k => decide (sh k = s) := List.mem_filter.mpr ⟨hk, decide_eq_true e⟩
  have hf : ks.find? (fun k => decide (sh k = s)) = some k := by
    rw [← List.head?_filter]
    cases hl : ks.filter fun k => decide (sh k = s) with
    | nil => rw [hl] at hm; cases hm
    | cons a t =>
      rw [hl] at hm h
      cases t with
      | nil => rw [List.mem_singleton.mp hm]; rfl
      | cons b t => simp at h
  unfold fl
  rw [hf]
  obtain ⟨a, b, c⟩ := k
  subst e
  rfl
theorem cnt_pos {ks : List Kd} {s : Sh2} (h : cntK ks s = 1) : (s.1, fl ks s, s.2) ∈ ks := by
  have h' := h
  unfold cntK at h'
  cases hl : ks.filter fun k => decide (sh k = s) with
  | nil => rw [hl] at h'; cases h'
  | cons a t =>
    have hm : a ∈ ks.filter fun k => decide (sh k = s) := by rw [hl]; exact List.mem_cons_self
    obtain ⟨h1, h2⟩ := List.mem_filter.mp hm
    rw [← cnt1 (by omega) h1 (of_decide_eq_true h2)]
    exact h1
theorem cnt_zero {ks : List Kd} {s : Sh2} (h : cntK ks s = 0) {k : Kd} (hk : k ∈ ks) : sh k ≠ s := fun e => by
  unfold cntK at h
  have hm : k ∈ ks.filter fun k => decide (sh k = s) := List.mem_filter.mpr ⟨hk, decide_eq_true e⟩
  rw [List.length_eq_zero_iff.mp h] at hm
  cases hm
theorem sh_nodup : ∀ {ks : List Kd}, (∀ k ∈ ks, cntK ks (sh k) ≤ 1) → (ks.map sh).Nodup
  | [], _ => List.nodup_nil
  | k :: ks, h => by
    rw [List.map_cons, List.nodup_cons]
    have up : ∀ s, cntK ks s ≤ cntK (k :: ks) s := fun s => by
      unfold cntK
      rw [List.filter_cons]
      split
      · rw [List.length_cons]; omega
      · exact Nat.le_refl _
    refine ⟨fun hm => ?_, sh_nodup fun x hx => Nat.le_trans (up _) (h x (List.mem_cons_of_mem _ hx))⟩
    obtain ⟨x, hx, e⟩ := List.mem_map.mp hm
    have h1 := h k List.mem_cons_self
    unfold cntK at h1
    rw [List.filter_cons, if_pos (by simp), List.length_cons] at h1
    have : x ∈ ks.filter fun x => decide (sh x = sh k) := List.mem_filter.mpr ⟨hx, decide_eq_true e⟩
    have := List.length_pos_of_mem this
    omega
theorem Ex.nd1 {j1 j2 : List Kd} (h : Ex j1 j2) : (j1.map sh).Nodup := sh_nodup fun k hk => Nat.le_of_eq (h.c1 _ (sh_mem (h.o1 k hk)))
theorem Ex.nd2 {j1 j2 : List Kd} (h : Ex j1 j2) : (j2.map sh).Nodup := sh_nodup fun k hk => by
  rw [h.c2 _ (sh_mem (h.o2 k hk))]
  unfold dueN
  split <;> omega
theorem Ex.no0 {j1 j2 : List Kd} (h : Ex j1 j2) : (false, 0) ∉ j2.map sh := fun hm => by
  obtain ⟨x, hx, e⟩ := List.mem_map.mp hm
  exact cnt_zero (h.c2 (false, 0) (by decide)) hx e
/-! the dict of flags -/
def nk (r : Bool) (s : Sh2) : NestedKey := .tup [.num (if r = true then 1 else 0), .num (if s.1 = true then 1 else 0), .num s.2]
theorem nk_inj {r r' : Bool} {s s' : Sh2} (h : nk r s = nk r' s') : r = r' ∧ s = s' := by
  unfold nk at h
  simp only [NestedKey.tup.injEq, List.cons.injEq, NestedKey.num.injEq] at h
  obtain ⟨a, b⟩ := s
  obtain ⟨a', b'⟩ := s'
  obtain ⟨h1, h2, h3, _⟩ := h
  dsimp only at h2 h3
  subst h3
  cases r <;> cases r' <;> cases a <;> cases a' <;> simp_all
def ent (r : Bool) (k : Kd) : NestedKey × V := (nk r (sh k), .bl k.2.1)
def putE (r : Bool) (acc : List (NestedKey × V)) (k : Kd) : List (NestedKey × V) := putK acc (nk r (sh k)) (.bl k.2.1)
def flD (j1 j2 : List Kd) : List (NestedKey × V) := j2.foldl (putE false) (j1.foldl (putE true) [(nk false (false, 0), .bl false)])
theorem val_non {kvs : List (NestedKey × V)} {k : NestedKey} (h : k ∉ kvs.map (·.1)) : valV kvs k = none := by
  unfold valV
  rw [Option.map_eq_none_iff, List.find?_eq_none]
  intro x hx e
  exact h (List.mem_map.mpr ⟨x, hx, of_decide_eq_true e⟩)
theorem fold_ent (r : Bool) : ∀ (ks : List Kd) (acc : List (NestedKey × V)), (ks.map sh).Nodup → (∀ k ∈ ks, nk r (sh k) ∉ acc.map (·.1)) → ks.foldl (putE r) acc = acc ++ ks.map (ent r)
  | [], acc, _, _ => by simp
  | k :: ks, acc, nd, h => by
    rw [List.map_cons, List.nodup_cons] at nd
    rw [List.foldl_cons]
    have e : putE r acc k = acc ++ [ent r k] := putK_new _ (val_non (h k List.mem_cons_self))
    rw [e, fold_ent r ks _ nd.2 fun x hx hm => ?_]
    · simp
    · rw [List.map_append] at hm
      rcases List.mem_append.mp hm with hm | hm
      · exact h x (List.mem_cons_of_mem _ hx) hm
      · have := (nk_inj (List.mem_singleton.mp hm)).2
        exact nd.1 (this ▸ List.mem_map.mpr ⟨x, hx, rfl⟩)
theorem flD_eq {j1 j2 : List Kd} (h : Ex j1 j2) : flD j1 j2 = (nk false (false, 0), .bl false) :: (j1.map (ent true) ++ j2.map (ent false)) := by
  unfold flD
  rw [fold_ent true j1 _ h.nd1 fun k _ hm => ?_, fold_ent false j2 _ h.nd2 fun k hk hm => ?_]
  · simp
  · rw [List.map_append] at hm
    rcases List.mem_append.mp hm with hm | hm
    · exact h.no0 (List.mem_map.mpr ⟨k, hk, (nk_inj (List.mem_singleton.mp hm)).2⟩)
    · obtain ⟨x, hx, e⟩ := List.mem_map.mp hm
      obtain ⟨y, hy, rfl⟩ := List.mem_map.mp hx
      exact absurd (nk_inj e).1 (by decide)
  · exact absurd (nk_inj (List.mem_singleton.mp hm)).1 (by decide)
theorem flD_nd {j1 j2 : List Kd} (h : Ex j1 j2) : ((flD j1 j2).map (·.1)).Nodup := by
  rw [flD_eq h, List.map_cons, List.nodup_cons, List.map_append, List.map_map, List.map_map]
  have inj : ∀ (r : Bool) (ks : List Kd), (ks.map sh).Nodup → (ks.map ((fun x : NestedKey × V => x.1) ∘ ent r)).Nodup := fun r ks nd => by
    rw [List.nodup_iff_pairwise_ne, List.pairwise_map] at nd ⊢
    exact nd.imp fun hne e => hne (nk_inj e).2
  refine ⟨fun hm => ?_, List.nodup_append.mpr ⟨inj _ _ h.nd1, inj _ _ h.nd2, fun a ha b hb e => ?_⟩⟩
  · rcases List.mem_append.mp hm with hm | hm
    · obtain ⟨x, _, e⟩ := List.mem_map.mp hm
      exact absurd (nk_inj e).1 (by decide)
    · obtain ⟨x, hx, e⟩ := List.mem_map.mp hm
      exact h.no0 (List.mem_map.mpr ⟨x, hx, (nk_inj e).2⟩)
  · obtain ⟨x, _, rfl⟩ := List.mem_map.mp ha
    obtain ⟨y, _, rfl⟩ := List.mem_map.mp hb
    exact absurd (nk_inj e).1 (by decide)
theorem flD_same {j1 j2 k1 k2 : List Kd} (h : Ex j1 j2) (h1 : j1.Perm k1) (h2 : j2.Perm k2) : SameN (flD j1 j2) (flD k1 k2) := by
  have pm : (flD j1 j2).Perm (flD k1 k2) := by
    rw [flD_eq h, flD_eq (h.perm h1 h2)]
    exact ((h1.map _).append (h2.map _)).cons _
  have all : ∀ p ∈ flD j1 j2, flatB p.2 = true := fun p hp => by
    rw [flD_eq h] at hp
    rcases List.mem_cons.mp hp with rfl | hp
    · rfl
    rcases List.mem_append.mp hp with hp | hp
    · obtain ⟨x, _, rfl⟩ := List.mem_map.mp hp
      rfl
    · obtain ⟨x, _, rfl⟩ := List.mem_map.mp hp
      rfl
  exact ⟨pm.length_eq, fun p hp => ⟨val_nodup (flD_nd (h.perm h1 h2)) p (pm.mem_iff.mp hp), all p hp⟩⟩
/-- the flag of a place: at the root, shape -/
def flg (j1 j2 : List Kd) (r : Bool) (s : Sh2) : Bool := if r = true then fl j1 s else fl j2 s
theorem fl_non {ks : List Kd} {s : Sh2} (h : cntK ks s = 0) : fl ks s = false := by
  unfold fl
  rw [List.find?_eq_none.mpr fun x hx e => cnt_zero h hx (of_decide_eq_true e)]
theorem flD_val {j1 j2 : List Kd} (h : Ex j1 j2) (r : Bool) {s : Sh2} (hs : s ∈ shapes) : valV (flD j1 j2) (nk r s) = some (.bl (flg j1 j2 r s)) := by
  have key : ∀ p ∈ flD j1 j2, valV (flD j1 j2) p.1 = some p.2 := fun p hp => val_nodup (flD_nd h) p hp
  unfold flg
  cases r with
  | true =>
    rw [if_pos rfl]
    refine key (ent true (s.1, fl j1 s, s.2)) ?_
    rw [flD_eq h]
    exact List.mem_cons_of_mem _ (List.mem_append_left _ (List.mem_map.mpr ⟨_, cnt_pos (h.c1 s hs), rfl⟩))
  | false =>
    rw [if_neg (by decide)]
    have c2 := h.c2 s hs
    by_cases e : dueN s = 1
    · rw [e] at c2
      refine key (ent false (s.1, fl j2 s, s.2)) ?_
      rw [flD_eq h]
      exact List.mem_cons_of_mem _ (List.mem_append_right _ (List.mem_map.mpr ⟨_, cnt_pos c2, rfl⟩))
    · have e0 : dueN s = 0 := by unfold dueN at e ⊢; split at e <;> simp_all
      have es : s = (false, 0) := by
        simp only [shapes, List.mem_cons, List.not_mem_nil, or_false] at hs
        rcases hs with rfl | rfl | rfl | rfl | rfl | rfl <;> first | rfl | exact absurd e0 (by decide)
      subst es
      rw [e0] at c2
      rw [fl_non c2]
      refine key (nk false (false, 0), .bl false) ?_
      rw [flD_eq h]
      exact List.mem_cons_self
/-- which kinds are let -/
theorem in1 {j1 j2 : List Kd} (h : Ex j1 j2) {s : Sh2} (hs : s ∈ shapes) (b : Bool) : (s.1, b, s.2) ∈ j1 ↔ b = fl j1 s :=
  ⟨fun hm => by have := cnt1 (Nat.le_of_eq (h.c1 s hs)) hm rfl; simp at this; exact this, fun e => e ▸ cnt_pos (h.c1 s hs)⟩
theorem in2 {j1 j2 : List Kd} (h : Ex j1 j2) {s : Sh2} (hs : s ∈ shapes) (b : Bool) : (s.1, b, s.2) ∈ j2 ↔ dueN s = 1 ∧ b = fl j2 s :=
  ⟨fun hm => by
    have c2 := h.c2 s hs
    have d1 : dueN s = 1 := by
      by_cases e : dueN s = 1
      · exact e
      · have e0 : dueN s = 0 := by unfold dueN at e ⊢; split at e <;> simp_all
        rw [e0] at c2
        exact absurd rfl (cnt_zero c2 hm)
    rw [d1] at c2
    have := cnt1 (Nat.le_of_eq c2) hm rfl
    simp at this
    exact ⟨d1, this⟩, fun ⟨d, e⟩ => e ▸ cnt_pos (by rw [h.c2 s hs, d])⟩
end Toy
set_option Elab.async false
set_option linter.all false
set_option maxRecDepth 100000
set_option maxHeartbeats 4000000
namespace Toy
open PySem L2 Sh ShL LamX NdefX
/-! ### how many kinds have a shape -/
def pairD (s : Sh2) : PyData := .tuple [.bool s.1, .int s.2]
theorem pairD_eqv (a b : Sh2) : PyData.eqv (pairD a) (pairD b) = decide (a = b) := by
  obtain ⟨a1, a2⟩ := a
  obtain ⟨b1, b2⟩ := b
  simp only [pairD, PyData.eqv, PyData.eqvAll]
  cases a1 <;> cases b1 <;> simp [Bool.beq_eq_decide_eq]
theorem pairD_shaped (a : Sh2) : SeqAt.shaped (pairD a) = true := by
  have h : (pairD a).depth = 1 := by simp [pairD, PyData.depth, PyData.depthAll]
  show ((pairD a).canLay0 && decide ((pairD a).depth ≤ 64)) = true
  rw [Bool.and_eq_true]
  exact ⟨by simp [pairD, PyData.canLay0, PyData.canLayAll0], decide_eq_true (by omega)⟩
/-- the test of a kind's shape -/
theorem shape_test {K : PySem.W.Frag} {σ : L2.St} {H : Hp} {j : Nat} {k : Kd} {t : Addr} {s : Sh2} {te1 te2 : TE} {N : Bool → Hp → Prop} (e : σ[j]? = some (some (.ref t))) (ht : H t = some (.tup [.bl k.1, .bl k.2.1, .int k.2.2]))
    (h1 : ∀ (H : Hp) (R : VK), R (.bl s.1) H → te1 σ H R) (h2 : ∀ (H : Hp) (R : VK), R (.int s.2) H → te2 σ H R) (q : ∀ H', Same H H' → N (decide (sh k = s)) H') :
    tTest (tOp (rEqD K) (tTup (tCons (tOp (rIxT K) (tVar j) (tC (.int 0))) (tCons (tOp (rIxT K) (tVar j) (tC (.int 2))) tNil))) (tTup (tCons te1 (tCons te2 tNil)))) σ H N := by
  refine ⟨_, e, t, _, _, _, rfl, rfl, SqT.of ht, atI_nat (j := 0) rfl, ?_⟩
  refine ⟨_, e, t, _, _, _, rfl, rfl, SqT.of ht, atI_nat (j := 2) rfl, by show 2 ≤ sizeLine; decide, fun p hp => ?_⟩
  have s1 := same_upd (o := .tup [.bl k.1, .int k.2.2]) hp
  have g1 := upd_same (H := H) (a := p) (o := .tup [.bl k.1, .int k.2.2])
  generalize upd H p (.tup [.bl k.1, .int k.2.2]) = H1 at s1 g1
  refine h1 H1 _ (h2 H1 _ ⟨by show 2 ≤ sizeLine; decide, fun p2 hp2 => ?_⟩)
  have s2 := same_upd (o := .tup [.bl s.1, .int s.2]) hp2
  have g2 := upd_same (H := H1) (a := p2) (o := .tup [.bl s.1, .int s.2])
  generalize upd H1 p2 (.tup [.bl s.1, .int s.2]) = H2 at s2 g2
  refine ⟨pairD (sh k), pairD s, .tup (SqT.of (s2 _ _ g1)) (.cons (.bl _) (.cons (.int _) .nil)), .tup (SqT.of g2) (.cons (.bl _) (.cons (.int _) .nil)), pairD_shaped _, pairD_shaped _, _, rfl, ?_⟩
  rw [pairD_eqv]
  exact q _ (s1.trans s2)
def spManyW : Sp := fun vs H Q _ => ∃ a ys js s, vs = [.ref a, .bl s.1, .int s.2] ∧ H a = some (.tup ys) ∧ AllK H ys js ∧ js.length ≤ 40 ∧ ∀ H', Same H H' → Q (.int (cntK js s : Nat)) H'
section
variable {P : Program} {w : World} {K : PySem.W.Frag} {mg : Str → Option Value} {base : Heap}
theorem ok_many_with (T : Tx P K mg) (B : Bx T base) : FnOk P w K mg base CX0 1 T.a_many_with T.fd_many_with ["kinds", "kept", "children"] spManyW := by
  refine okT T.F_many_with sc_many_with (fun vs H Q E h => ?_) (fun cdv A outer s H vs Q E hcd hr h => ?_)
  · obtain ⟨a, ys, js, sh, rfl, _⟩ := h
    rfl
  have hu := hu_of hr
  have hu65 := hu65_of hr
  obtain ⟨a, ys, js, sp, rfl, ha, hk, hl, q⟩ := h
  refine ⟨_, (pss_one (ps_ret (pe_callB call_len_seq (by rfl) T.b_len (by decide +kernel) (pa_cons (pe_lc (own := [("kind", 3)]) (g := gName 3) rfl sc_many_with.nd (pi_tup (pv 0)) (blkOk_by (own := [("kind", 3)]) (N := N_many_with) (sc := defScope s_many_with) (by decide +kernel)) (fun _ _ _ _ _ => (pg_name (i := 3) sc_many_with.nd rfl (by first | exact Or.inl rfl | exact Or.inr rfl))) (fun _ _ _ _ _ => (pts_one (pt_cmpR (by exact (op_eqD hr.units) : OpR _ (compareOp .Eq) (rEqD K)) (pe_tup (pa_cons (pe_ix (by exact ix_tup : IxR _ (rIxT K)) (pv 3) pe_int (fun _ _ => rfl)) (pa_cons (pe_ix (by exact ix_tup : IxR _ (rIxT K)) (pv 3) pe_int (fun _ _ => rfl)) pa_nil))) (pe_tup (pa_cons (pv 1) (pa_cons (pv 2) pa_nil))) (nomark _)))) (fun _ _ _ _ _ => (pv 3))) pa_nil)))), ?_⟩
  refine ⟨_, rfl, a, rfl, ⟨_, SqT.of ha⟩, fun D hD => ?_⟩
  refine lcG (walk_tup (K := K) (a := a) (xs := ys)) yat hk (fun _ H' => Same H H') (same_upd hD) (fun _ H' acc s => same_of_new s hD) (fun i H' _ s => SqT.of (s _ _ ha)) (by omega) (fun k => decide (Toy.sh k = sp))
    (fun _ _ _ => True) (fun _ _ _ _ _ _ h => h) (fun i x k H' acc R N hi hx s hD2 k1 k2 => ?_) (fun H1 acc s1 hD1 pr => ?_)
  · obtain ⟨t, rfl, ht⟩ := IsK.same s hx
    refine ⟨rfl, shape_test rfl ht (fun H R h => ⟨_, rfl, h⟩) (fun H R h => ⟨_, rfl, h⟩) fun H2 s2 => ?_⟩
    refine ite2 (fun h => ?_) (fun h => ?_)
    · exact ⟨_, rfl, k1 h _ _ (s.trans s2) (s2 _ _ hD2) (fun _ _ h => h) trivial⟩
    · exact k2 (by simpa using h) _ (s.trans s2) (s2 _ _ hD2) (fun _ _ h => h)
  · refine ⟨D, acc, rfl, .inl (SqL.of hD1), ?_⟩
    rw [show acc.length = cntK js sp from pr.length]
    exact q _ s1
theorem niB {a b : Int} : (!decide (V.int a = V.int b)) = decide (a ≠ b) := by simp
def spIsExact (C : Addr) : Sp := fun vs H Q _ => ∃ x j1 j2, vs = [.ref x] ∧ RuleAt C H x j1 j2 ∧ j1.length ≤ 40 ∧ j2.length ≤ 40 ∧ ∀ H', Same H H' → Q (.bl (exB j1 j2)) H'
theorem shapes_at (T : Tx P K mg) : Paired (fun v (s : Sh2) => ∃ g, v = V.ref g ∧ ∀ H, SqT K H g [.bl s.1, .int s.2]) [.ref T.g_SHAPES_0, .ref T.g_SHAPES_1, .ref T.g_SHAPES_2, .ref T.g_SHAPES_3, .ref T.g_SHAPES_4, .ref T.g_SHAPES_5] shapes :=
  .cons ⟨_, rfl, T.q_SHAPES_0⟩ (.cons ⟨_, rfl, T.q_SHAPES_1⟩ (.cons ⟨_, rfl, T.q_SHAPES_2⟩ (.cons ⟨_, rfl, T.q_SHAPES_3⟩ (.cons ⟨_, rfl, T.q_SHAPES_4⟩ (.cons ⟨_, rfl, T.q_SHAPES_5⟩ .nil)))))
/-- 1 if kept or children > 0 else 0 -/
theorem due_if {te1 te2 : TE} {σ : L2.St} {H : Hp} {R : VK} {s : Sh2} (h1 : ∀ (H : Hp) (R : VK), R (.bl s.1) H → te1 σ H R) (h2 : ∀ (H : Hp) (R : VK), R (.int s.2) H → te2 σ H R) (q : R (.int (dueN s : Nat)) H) :
    tIf (tOr (tB te1) (tTest (tOp (rI0 fun i j => V.bl (decide (j < i))) te2 (tC (.int 0))))) (tC (.int 1)) (tC (.int 0)) σ H R := by
  refine h1 H _ ⟨_, rfl, ?_⟩
  unfold dueN at q
  refine ite2 (fun h => ?_) (fun h => ?_)
  · rw [if_pos (.inl h)] at q
    exact q
  · refine h2 H _ ⟨_, _, rfl, rfl, _, rfl, ?_⟩
    refine ite2 (fun h' => ?_) (fun h' => ?_)
    · rw [if_pos (.inr (of_decide_eq_true h'))] at q
      exact q
    · rw [if_neg (fun z => z.elim h fun z => h' (decide_eq_true z))] at q
      exact q
theorem exB_no {j1 j2 : List Kd} {s : Sh2} (hs : s ∈ shapes) (h : ¬ (cntK j1 s = 1 ∧ cntK j2 s = dueN s)) : exB j1 j2 = false := by
  unfold exB
  rw [Bool.and_eq_false_iff]
  refine .inr (List.all_eq_false.mpr ⟨s, hs, by simpa using h⟩)
theorem exB_yes {j1 j2 : List Kd} (h0 : (false, false, 0) ∈ j1) (h : ∀ s ∈ shapes, cntK j1 s = 1 ∧ cntK j2 s = dueN s) : exB j1 j2 = true := by
  unfold exB
  rw [Bool.and_eq_true]
  exact ⟨decide_eq_true h0, List.all_eq_true.mpr fun s hs => decide_eq_true (h s hs)⟩
theorem ok_Rule_is_exact (T : Tx P K mg) (B : Bx T base) : FnOk P w K mg base CX0 2 T.a_Rule_is_exact T.fd_Rule_is_exact ["self"] (spIsExact T.c_Rule) := by
  refine okT T.F_Rule_is_exact sc_Rule_is_exact (fun vs H Q E h => ?_) (fun cdv A outer s H vs Q E hcd hr h => ?_)
  · obtain ⟨x, j1, j2, rfl, _⟩ := h
    rfl
  have hu := hu_of hr
  have hu65 := hu65_of hr
  obtain ⟨x, j1, j2, rfl, hx, l1, l2, q⟩ := h
  obtain ⟨dx, p1, p2, ys1, ys2, r1, r2, r3, r4, r5⟩ := hx
  refine ⟨_, (pss_cons (ps_if (pt_cmpR (op_notInDT hu65) (pe_tup (pa_cons pe_bl (pa_cons pe_bl (pa_cons pe_int pa_nil)))) (pe_fld (pv 0) rfl) (by rfl))
 (pss_one (ps_ret pe_bl))
 pss_nil)
 (pss_cons (ps_for PassesOwn.never rfl (pi_tup (pe_glob (v := .ref T.g_SHAPES) (by rfl) T.m_SHAPES rfl)) (pg_tup rfl (pgs_cons (pg_name (i := 1) sc_Rule_is_exact.nd rfl (by first | exact Or.inl rfl | exact Or.inr rfl)) (pgs_cons (pg_name (i := 2) sc_Rule_is_exact.nd rfl (by first | exact Or.inl rfl | exact Or.inr rfl)) pgs_nil)))
 (pss_cons (ps_set (i := 3) sc_Rule_is_exact.nd rfl (by first | exact Or.inl rfl | exact Or.inr rfl) (pe_ifExp (PW.pt (pw_or (pt_val (pv 1)) (pw_or1 (pt_cmpR op_gt (pv 2) pe_int (nomark _))))) pe_int pe_int))
 (pss_one (ps_if (PW.pt (pw_or (pt_cmpR op_ne (pe_call (ok_many_with (w := w) T B) (hr.mono (by decide)) (by rfl) T.m_many_with T.F_many_with.kp T.bi_many_with .nil pass0 (pa_cons (pe_fld (pv 0) rfl) (pa_cons (pv 1) (pa_cons (pv 2) pa_nil)))) pe_int (nomark _)) (pw_or1 (pt_cmpR op_ne (pe_call (ok_many_with (w := w) T B) (hr.mono (by decide)) (by rfl) T.m_many_with T.F_many_with.kp T.bi_many_with .nil pass0 (pa_cons (pe_fld (pv 0) rfl) (pa_cons (pv 1) (pa_cons (pv 2) pa_nil)))) (pv 3) (nomark _)))))
 (pss_one (ps_ret pe_bl))
 pss_nil))))
 (pss_one (ps_ret pe_bl)))), ?_⟩
  refine ⟨by show 3 ≤ sizeLine; decide, fun t ht => ?_⟩
  have s1 := same_upd (o := .tup [.bl false, .bl false, .int 0]) ht
  have g1 : IsK (upd H t (.tup [.bl false, .bl false, .int 0])) (.ref t) (false, false, 0) := ⟨t, rfl, upd_same⟩
  generalize upd H t (.tup [.bl false, .bl false, .int 0]) = H1 at s1 g1
  refine ⟨_, rfl, x, _, dx, _, _, rfl, s1 _ _ r1, T.cl_Rule, T.na_Rule_root, flds_root _ _, _, _, g1.dp, .tup (SqT.of (s1 _ _ r2)) (AllK.dp (AllK.same s1 r4)), kd_shaped _, kds_shapedT _, _, rfl, ?_⟩
  rw [kd_any]
  refine ite2 (fun h => ?_) (fun h => ?_)
  · have hn : (false, false, 0) ∉ j1 := by simpa using h
    have := q _ s1
    unfold exB at this
    rw [decide_eq_false hn, Bool.false_and] at this
    exact this
  have h0 : (false, false, 0) ∈ j1 := by simpa using h
  refine nextS ?_
  dsimp only
  have hsh := shapes_at T
  generalize hgs : [V.ref T.g_SHAPES_0, V.ref T.g_SHAPES_1, V.ref T.g_SHAPES_2, V.ref T.g_SHAPES_3, V.ref T.g_SHAPES_4, V.ref T.g_SHAPES_5] = gs at hsh
  have hq : ∀ H, SqT K H T.g_SHAPES gs := by rw [← hgs]; exact T.q_SHAPES
  refine ⟨T.g_SHAPES, rfl, ⟨_, hq H1⟩, ?_⟩
  have hgl : gs.length = 6 := by rw [← hgs]; rfl
  refine for_it (walk_tup (K := K) (a := T.g_SHAPES) (xs := gs)) (fun i σ H3 => (∃ v1 v2 v3, σ = [some (.ref x), v1, v2, v3]) ∧ Same H H3 ∧ ∀ s ∈ shapes.take i, cntK j1 s = 1 ∧ cntK j2 s = dueN s)
    ⟨⟨_, _, _, rfl⟩, s1, by simp⟩ (fun i σ H3 _ _ => hq H3) (fun i u σ H3 H4 hi ⟨⟨v1, v2, v3, e1⟩, s, al⟩ yl => ?_) (fun σ H3 ⟨⟨v1, v2, v3, e1⟩, s, al⟩ => ?_)
  · obtain ⟨rfl, hu'⟩ := yl
    subst e1
    obtain ⟨sp, hsp, g, rfl, hg⟩ := paired_ix hsh hu'
    have hsm := List.mem_of_getElem? hsp
    refine ⟨g, _, rfl, hg _, rfl, _, _, rfl, _, _, rfl, rfl, ?_⟩
    refine due_if (s := sp) (fun H R h => ⟨_, rfl, h⟩) (fun H R h => ⟨_, rfl, h⟩) ?_
    dsimp only [gName]
    refine ⟨_, rfl, x, _, dx, _, _, rfl, s _ _ r1, T.cl_Rule, T.na_Rule_root, flds_root _ _, _, rfl, _, rfl, p1, ys1, j1, sp, rfl, s _ _ r2, AllK.same s r4, l1, fun H5 s5 => ?_⟩
    have s5 := s.trans s5
    refine ⟨rfl, _, rfl, ?_⟩
    rw [niB]
    refine ite2 (fun h => ?_) (fun h => ?_)
    · have hn : ¬ cntK j1 sp = 1 := fun e => of_decide_eq_true h (by rw [e]; rfl)
      have := q _ s5
      rw [exB_no hsm (fun z => hn z.1)] at this
      exact this
    have c1 : cntK j1 sp = 1 := Classical.byContradiction fun e => h (decide_eq_true (by omega))
    refine ⟨_, rfl, x, _, dx, _, _, rfl, s5 _ _ r1, T.cl_Rule, T.na_Rule_others, flds_others _ _, _, rfl, _, rfl, p2, ys2, j2, sp, rfl, s5 _ _ r3, AllK.same s5 r5, l2, fun H6 s6 => ?_⟩
    have s6 := s5.trans s6
    refine ⟨_, rfl, rfl, _, rfl, ?_⟩
    rw [niB]
    refine ite2 (fun h => ?_) (fun h => ?_)
    · have hn : ¬ cntK j2 sp = dueN sp := fun e => of_decide_eq_true h (by rw [e])
      have := q _ s6
      rw [exB_no hsm (fun z => hn z.2)] at this
      exact this
    have c2 : cntK j2 sp = dueN sp := Classical.byContradiction fun e => h (decide_eq_true (by omega))
    refine ⟨⟨_, _, _, rfl⟩, s6, fun s' hs' => ?_⟩
    rw [List.take_add_one, hsp] at hs'
    rcases List.mem_append.mp hs' with h | h
    · exact al s' h
    · rw [List.mem_singleton.mp (show s' ∈ [sp] from h)]
      exact ⟨c1, c2⟩
  · subst e1
    have := q _ s
    rw [exB_yes h0 fun s' hs' => al s' (by rw [hgl]; exact hs')] at this
    exact this
end
end Toy
set_option Elab.async false
set_option linter.all false
set_option maxRecDepth 100000
set_option maxHeartbeats 4000000
namespace Toy
open PySem L2 Sh ShL LamX NdefX
theorem tup3_key {K : PySem.W.Frag} {H : Hp} {t : Addr} {r : Bool} {s : Sh2} (h : H t = some (.tup [.bl r, .bl s.1, .int s.2])) : KeyAt K H (nk r s) t := ⟨_, SqT.of h, rfl, rfl⟩
theorem mk_raise0 {X : Cx} {C : Addr} {σ : L2.St} {H : Hp} {W : WX} {D : Ends} (h0 : ∀ a, H a = none → Fr0 X.H_0 a) (R : Raises X (.ref C))
    (q : ∀ H', Same H H' → W (.ref C) none σ H') : tRaiseX0 X W (fun _ H Q => ∀ a, H a = none → Q (.ref a) (upd H a (exo a C none))) D σ H := fun a ha =>
  ⟨a, C, rfl, upd_same, h0 a ha, R, q _ fun b o e => by
    have ne := ne_of_none e ha
    rw [delH_ne ne, upd_ne ne]
    exact e⟩
/-- flags[(r, kept, children)] = flag, over a row of kinds -/
theorem DN.same {P : Program} {w : World} {K : PySem.W.Frag} {H H' : Hp} {a : Addr} {kvs : List (NestedKey × V)} (s : Same H H') (h : DN P w K H a kvs) : DN P w K H' a kvs := by
  obtain ⟨xs, h1, h2, h3⟩ := h
  refine ⟨xs, s _ _ h1, h2, fun x hx => (h3 x hx).mono fun c u r => ?_⟩
  rcases r with r | ⟨o, r⟩
  · exact .inl (s _ _ r)
  · exact .inr ⟨o, s _ _ r⟩
theorem putE_len (r : Bool) (acc : List (NestedKey × V)) (k : Kd) : (putE r acc k).length ≤ acc.length + 1 := by
  unfold putE putK
  split
  · rw [List.length_map]; omega
  · simp
theorem fold_len (r : Bool) : ∀ (ks : List Kd) (acc : List (NestedKey × V)), (ks.foldl (putE r) acc).length ≤ acc.length + ks.length
  | [], acc => Nat.le_refl _
  | k :: ks, acc => by
    rw [List.foldl_cons, List.length_cons]
    have h1 := fold_len r ks (putE r acc k)
    have h2 := putE_len r acc k
    omega
theorem fold_take {r : Bool} {ks : List Kd} {acc : List (NestedKey × V)} {i : Nat} {k : Kd} (h : ks[i]? = some k) : (ks.take (i + 1)).foldl (putE r) acc = putE r ((ks.take i).foldl (putE r) acc) k := by
  rw [List.take_add_one, h, List.foldl_append]
  rfl
def spFlagsOf (P : Program) (w : World) (K : PySem.W.Frag) (C N : Addr) : Sp := fun vs H Q E => ∃ x j1 j2, vs = [.ref x] ∧ RuleAt C H x j1 j2 ∧ j1.length ≤ 40 ∧ j2.length ≤ 40 ∧ (exB j1 j2 = true → ∀ H' a, Same H H' → DN P w K H' a (flD j1 j2) → H a = none → Q (.ref a) H') ∧ (exB j1 j2 = false → ∀ H', Same H H' → E (.ref N) none H')
section
variable {P : Program} {w : World} {K : PySem.W.Frag} {mg : Str → Option Value} {base : Heap}
theorem ok_flags_of (T : Tx P K mg) (B : Bx T base) : FnOk P w K mg base (L2.CX P w) 3 T.a_flags_of T.fd_flags_of ["rule"] (spFlagsOf P w K T.c_Rule T.c_NotExact) := by
  refine T.F_flags_of.okX sc_flags_of (fun vs H Q E h => ?_) (fun cdv A outer s H vs Q E hr h => ?_)
  · obtain ⟨x, j1, j2, rfl, _⟩ := h
    rfl
  have hu := hu_of hr
  have hu65 := hu65_of hr
  obtain ⟨x, j1, j2, rfl, hx, l1, l2, q1, q2⟩ := h
  obtain ⟨dx, p1, p2, ys1, ys2, r1, r2, r3, r4, r5⟩ := id hx
  refine ⟨_, (pss_cons (ps_if (pt_not (pt_val (pe_meth0 (pv 0) T.cl_Rule T.me_Rule_is_exact (ok_Rule_is_exact (w := w) T B) (hr.mono (by decide)) T.bi_Rule_is_exact .nil pass0)))
 (pss_one (ps_raiseX0 rfl rfl (takes_of rfl rfl rfl rfl) (pe_exn0 T.e0_NotExact T.m_NotExact T.x_NotExact.r.ox.kC (by rfl))))
 pss_nil)
 (pss_cons (ps_set (i := 1) sc_flags_of.nd rfl (by first | exact Or.inl rfl | exact Or.inr rfl) (pe_disp1N hu65 (pe_tup (pa_cons pe_bl (pa_cons pe_bl (pa_cons pe_int pa_nil)))) pe_bl))
 (pss_cons (ps_for (passes_of rfl) rfl (pi_tup (pe_fld (pv 0) rfl)) (pg_tup rfl (pgs_cons (pg_name (i := 2) sc_flags_of.nd rfl (by first | exact Or.inl rfl | exact Or.inr rfl)) (pgs_cons (pg_name (i := 3) sc_flags_of.nd rfl (by first | exact Or.inl rfl | exact Or.inr rfl)) (pgs_cons (pg_name (i := 4) sc_flags_of.nd rfl (by first | exact Or.inl rfl | exact Or.inr rfl)) pgs_nil))))
 (pss_one (ps_dputN hu65 (pv 1) (pe_tup (pa_cons pe_bl (pa_cons (pv 2) (pa_cons (pv 4) pa_nil)))) (pv 3) rfl)))
 (pss_cons (ps_for (passes_of rfl) rfl (pi_tup (pe_fld (pv 0) rfl)) (pg_tup rfl (pgs_cons (pg_name (i := 2) sc_flags_of.nd rfl (by first | exact Or.inl rfl | exact Or.inr rfl)) (pgs_cons (pg_name (i := 3) sc_flags_of.nd rfl (by first | exact Or.inl rfl | exact Or.inr rfl)) (pgs_cons (pg_name (i := 4) sc_flags_of.nd rfl (by first | exact Or.inl rfl | exact Or.inr rfl)) pgs_nil))))
 (pss_one (ps_dputN hu65 (pv 1) (pe_tup (pa_cons pe_bl (pa_cons (pv 2) (pa_cons (pv 4) pa_nil)))) (pv 3) rfl)))
 (pss_one (ps_ret (pv 1))))))), ?_⟩
  refine ⟨_, rfl, x, dx, _, rfl, r1, flds_no (by decide +kernel) (by decide +kernel), x, j1, j2, rfl, hx, l1, l2, fun H1 s1 => ⟨_, rfl, ?_⟩⟩
  cases hex : exB j1 j2 with
  | false =>
    refine iteT ?_
    exact mk_raise0 (fun b hb => fr0_none (s1.free hb)) T.x_NotExact.raises fun H' s' => q2 hex H' (s1.trans s')
  | true =>
  refine iteF ?_
  refine nextS ?_
  dsimp only
  refine asgI ?_
  refine fun d o hd hdn => ⟨by show 3 ≤ sizeLine; decide, fun t ht => ?_⟩
  have s2 := s1.trans (same_upd (o := o) hd)
  have hd0 := s1.free hd
  generalize upd H1 d o = H2 at hdn s2 ht
  have hdn : DN P w K H2 d [] := hdn
  have s3 := same_upd (o := .tup [.bl false, .bl false, .int 0]) ht
  have g3 : (upd H2 t (.tup [.bl false, .bl false, .int 0])) t = some (.tup [.bl false, .bl false, .int 0]) := upd_same
  have hdn3 := DN.same s3 hdn
  have s3 := s2.trans s3
  generalize upd H2 t (.tup [.bl false, .bl false, .int 0]) = H3 at s3 g3 hdn3
  refine ⟨t, nk false (false, 0), rfl, hdn3, tup3_key (s := (false, 0)) g3, fun o4 hd4 => ?_⟩
  have s4 : Same H (upd H3 d o4) := same_of_new s3 hd0
  generalize upd H3 d o4 = H4 at hd4 s4
  have hd4 : DN P w K H4 d [(nk false (false, 0), .bl false)] := hd4
  dsimp only [gName]
  -- the root's kinds
  refine ⟨_, rfl, x, _, dx, _, _, rfl, s4 _ _ r1, T.cl_Rule, T.na_Rule_root, flds_root _ _, p1, rfl, ⟨_, SqT.of (s4 _ _ r2)⟩, ?_⟩
  have y1 : ys1.length = j1.length := AllK.len r4
  have y2 : ys2.length = j2.length := AllK.len r5
  refine for_it (walk_tup (K := K) (a := p1) (xs := ys1)) (fun i σ H3 => (∃ v2 v3 v4, σ = [some (.ref x), some (.ref d), v2, v3, v4]) ∧ Same H H3 ∧ DN P w K H3 d ((j1.take i).foldl (putE true) [(nk false (false, 0), .bl false)]))
    ⟨⟨_, _, _, rfl⟩, s4, hd4⟩ (fun i σ H3 _ ⟨_, s, _⟩ => SqT.of (s _ _ r2)) (fun i u σ H5 H6 hi ⟨⟨v2, v3, v4, e1⟩, s, hdi⟩ yl => ?_) (fun σ H5 ⟨⟨v2, v3, v4, e1⟩, s, hdi⟩ => ?_)
  · obtain ⟨rfl, hu'⟩ := yl
    subst e1
    obtain ⟨k, hk, hk2⟩ := AllK.get r4 hu'
    obtain ⟨g, rfl, hg⟩ := IsK.same s hk2
    refine ⟨g, _, rfl, SqT.of hg, rfl, _, _, rfl, _, _, rfl, _, _, rfl, rfl, ?_⟩
    refine ⟨_, rfl, _, rfl, _, rfl, _, rfl, by show 3 ≤ sizeLine; decide, fun t2 ht2 => ?_⟩
    have s7 := same_upd (o := .tup [.bl true, .bl k.1, .int k.2.2]) ht2
    have g7 : (upd H6 t2 (.tup [.bl true, .bl k.1, .int k.2.2])) t2 = some (.tup [.bl true, .bl k.1, .int k.2.2]) := upd_same
    have hd7 := DN.same s7 hdi
    have s7 := s.trans s7
    generalize upd H6 t2 (.tup [.bl true, .bl k.1, .int k.2.2]) = H7 at s7 g7 hd7
    refine ⟨d, t2, _, nk true (sh k), rfl, rfl, hd7, tup3_key (s := sh k) g7, ?_, fun o8 hd8 => ⟨⟨_, _, _, rfl⟩, same_of_new s7 hd0, ?_⟩⟩
    · have h1 := fold_len true (j1.take i) [(nk false (false, 0), .bl false)]
      rw [List.length_take] at h1
      rw [sizeLine_eq]
      simp only [List.length_cons, List.length_nil] at h1
      omega
    · rw [fold_take hk]
      exact hd8
  subst e1
  rw [y1, List.take_of_length_le (Nat.le_refl _)] at hdi
  -- the others'
  dsimp only
  refine ⟨_, rfl, x, _, dx, _, _, rfl, s _ _ r1, T.cl_Rule, T.na_Rule_others, flds_others _ _, p2, rfl, ⟨_, SqT.of (s _ _ r3)⟩, ?_⟩
  refine for_it (walk_tup (K := K) (a := p2) (xs := ys2)) (fun i σ H3 => (∃ v2 v3 v4, σ = [some (.ref x), some (.ref d), v2, v3, v4]) ∧ Same H H3 ∧ DN P w K H3 d ((j2.take i).foldl (putE false) (j1.foldl (putE true) [(nk false (false, 0), .bl false)])))
    ⟨⟨_, _, _, rfl⟩, s, hdi⟩ (fun i σ H3 _ ⟨_, s, _⟩ => SqT.of (s _ _ r3)) (fun i u σ H5 H6 hi ⟨⟨v2, v3, v4, e1⟩, s, hdi⟩ yl => ?_) (fun σ H5 ⟨⟨v2, v3, v4, e1⟩, s, hdi⟩ => ?_)
  · obtain ⟨rfl, hu'⟩ := yl
    subst e1
    obtain ⟨k, hk, hk2⟩ := AllK.get r5 hu'
    obtain ⟨g, rfl, hg⟩ := IsK.same s hk2
    refine ⟨g, _, rfl, SqT.of hg, rfl, _, _, rfl, _, _, rfl, _, _, rfl, rfl, ?_⟩
    refine ⟨_, rfl, _, rfl, _, rfl, _, rfl, by show 3 ≤ sizeLine; decide, fun t2 ht2 => ?_⟩
    have s7 := same_upd (o := .tup [.bl false, .bl k.1, .int k.2.2]) ht2
    have g7 : (upd H6 t2 (.tup [.bl false, .bl k.1, .int k.2.2])) t2 = some (.tup [.bl false, .bl k.1, .int k.2.2]) := upd_same
    have hd7 := DN.same s7 hdi
    have s7 := s.trans s7
    generalize upd H6 t2 (.tup [.bl false, .bl k.1, .int k.2.2]) = H7 at s7 g7 hd7
    refine ⟨d, t2, _, nk false (sh k), rfl, rfl, hd7, tup3_key (s := sh k) g7, ?_, fun o8 hd8 => ⟨⟨_, _, _, rfl⟩, same_of_new s7 hd0, ?_⟩⟩
    · have h1 := fold_len false (j2.take i) (j1.foldl (putE true) [(nk false (false, 0), .bl false)])
      have h2 := fold_len true j1 [(nk false (false, 0), .bl false)]
      rw [List.length_take] at h1
      rw [sizeLine_eq]
      simp only [List.length_cons, List.length_nil] at h2
      omega
    · rw [fold_take hk]
      exact hd8
  subst e1
  rw [y2, List.take_of_length_le (Nat.le_refl _)] at hdi
  exact ⟨_, rfl, q1 hex _ d s hdi hd0⟩
end
end Toy
set_option Elab.async false
set_option linter.all false
set_option maxRecDepth 100000
set_option maxHeartbeats 4000000
namespace Toy
open PySem L2 Sh ShL LamX NdefX
def spFlagsDue (P : Program) (w : World) (K : PySem.W.Frag) : Sp := fun vs H Q _ => ∃ (a b : Addr) (xs ys : List V) (r1 r2 : List Kd), vs = [.ref a, .ref b] ∧ H a = some (.lst xs) ∧ H b = some (.lst ys) ∧ AllK H xs r1 ∧ AllK H ys r2 ∧ r1.length ≤ 40 ∧ r2.length ≤ 40 ∧
  ∀ H' d, Same H H' → DN P w K H' d (flD r1 r2) → H d = none → Q (.ref d) H'
def spLIsExact : Sp := fun vs H Q _ => ∃ (a b : Addr) (xs ys : List V) (r1 r2 : List Kd), vs = [.ref a, .ref b] ∧ H a = some (.lst xs) ∧ H b = some (.lst ys) ∧ AllK H xs r1 ∧ AllK H ys r2 ∧ r1.length ≤ 40 ∧ r2.length ≤ 40 ∧
  ∀ H', Same H H' → Q (.bl (exB r1 r2)) H'
section
variable {P : Program} {w : World} {K : PySem.W.Frag} {mg : Str → Option Value} {base : Heap}
theorem ok_l_flags_due (T : Tx P K mg) (B : Bx T base) : FnOk P w K mg base CX0 1 T.a_l_flags_due T.fd_l_flags_due ["_law_root", "_law_others"] (spFlagsDue P w K) := by
  refine okT T.F_l_flags_due sc_l_flags_due (fun vs H Q E h => ?_) (fun cdv A outer s H vs Q E hcd hr h => ?_)
  · obtain ⟨a, b, xs, ys, r1, r2, rfl, _⟩ := h
    rfl
  have hu := hu_of hr
  have hu65 := hu65_of hr
  obtain ⟨a, b, xs, ys, r1, r2, rfl, ha, hb, k1, k2, l1, l2, q⟩ := h
  refine ⟨_, (pss_cons (ps_set (i := 2) sc_l_flags_due.nd rfl (by first | exact Or.inl rfl | exact Or.inr rfl) (pe_disp1N hu65 (pe_tup (pa_cons pe_bl (pa_cons pe_bl (pa_cons pe_int pa_nil)))) pe_bl))
 (pss_cons (ps_for PassesOwn.never rfl (pi_list (pv 0)) (pg_tup rfl (pgs_cons (pg_name (i := 3) sc_l_flags_due.nd rfl (by first | exact Or.inl rfl | exact Or.inr rfl)) (pgs_cons (pg_name (i := 4) sc_l_flags_due.nd rfl (by first | exact Or.inl rfl | exact Or.inr rfl)) (pgs_cons (pg_name (i := 5) sc_l_flags_due.nd rfl (by first | exact Or.inl rfl | exact Or.inr rfl)) pgs_nil))))
 (pss_one (ps_dputN hu65 (pv 2) (pe_tup (pa_cons pe_bl (pa_cons (pv 3) (pa_cons (pv 5) pa_nil)))) (pv 4) rfl)))
 (pss_cons (ps_for PassesOwn.never rfl (pi_list (pv 1)) (pg_tup rfl (pgs_cons (pg_name (i := 3) sc_l_flags_due.nd rfl (by first | exact Or.inl rfl | exact Or.inr rfl)) (pgs_cons (pg_name (i := 4) sc_l_flags_due.nd rfl (by first | exact Or.inl rfl | exact Or.inr rfl)) (pgs_cons (pg_name (i := 5) sc_l_flags_due.nd rfl (by first | exact Or.inl rfl | exact Or.inr rfl)) pgs_nil))))
 (pss_one (ps_dputN hu65 (pv 2) (pe_tup (pa_cons pe_bl (pa_cons (pv 3) (pa_cons (pv 5) pa_nil)))) (pv 4) rfl)))
 (pss_one (ps_ret (pv 2)))))), ?_⟩
  refine asgI ?_
  refine fun d o hd hdn => ⟨by show 3 ≤ sizeLine; decide, fun t ht => ?_⟩
  have s2 := same_upd (o := o) hd
  have hd0 := hd
  generalize upd H d o = H2 at hdn s2 ht
  have hdn : DN P w K H2 d [] := hdn
  have s3 := same_upd (o := .tup [.bl false, .bl false, .int 0]) ht
  have g3 : (upd H2 t (.tup [.bl false, .bl false, .int 0])) t = some (.tup [.bl false, .bl false, .int 0]) := upd_same
  have hdn3 := DN.same s3 hdn
  have s3 := s2.trans s3
  generalize upd H2 t (.tup [.bl false, .bl false, .int 0]) = H3 at s3 g3 hdn3
  refine ⟨t, nk false (false, 0), rfl, hdn3, tup3_key (s := (false, 0)) g3, fun o4 hd4 => ?_⟩
  have s4 : Same H (upd H3 d o4) := same_of_new s3 hd0
  generalize upd H3 d o4 = H4 at hd4 s4
  have hd4 : DN P w K H4 d [(nk false (false, 0), .bl false)] := hd4
  dsimp only [gName]
  have y1 : xs.length = r1.length := AllK.len k1
  have y2 : ys.length = r2.length := AllK.len k2
  refine ⟨_, rfl, a, rfl, ⟨_, SqL.of (s4 _ _ ha)⟩, ?_⟩
  refine for_it (walk_list (K := K) (a := a) (xs := xs)) (fun i σ H3 => (∃ v2 v3 v4, σ = [some (.ref a), some (.ref b), some (.ref d), v2, v3, v4]) ∧ Same H H3 ∧ DN P w K H3 d ((r1.take i).foldl (putE true) [(nk false (false, 0), .bl false)]))
    ⟨⟨_, _, _, rfl⟩, s4, hd4⟩ (fun i σ H3 _ ⟨_, s, _⟩ => SqL.of (s _ _ ha)) (fun i u σ H5 H6 hi ⟨⟨v2, v3, v4, e1⟩, s, hdi⟩ yl => ?_) (fun σ H5 ⟨⟨v2, v3, v4, e1⟩, s, hdi⟩ => ?_)
  · obtain ⟨rfl, hu'⟩ := yl
    subst e1
    obtain ⟨k, hk, hk2⟩ := AllK.get k1 hu'
    obtain ⟨g, rfl, hg⟩ := IsK.same s hk2
    refine ⟨g, _, rfl, SqT.of hg, rfl, _, _, rfl, _, _, rfl, _, _, rfl, rfl, ?_⟩
    refine ⟨_, rfl, _, rfl, _, rfl, _, rfl, by show 3 ≤ sizeLine; decide, fun t2 ht2 => ?_⟩
    have s7 := same_upd (o := .tup [.bl true, .bl k.1, .int k.2.2]) ht2
    have g7 : (upd H6 t2 (.tup [.bl true, .bl k.1, .int k.2.2])) t2 = some (.tup [.bl true, .bl k.1, .int k.2.2]) := upd_same
    have hd7 := DN.same s7 hdi
    have s7 := s.trans s7
    generalize upd H6 t2 (.tup [.bl true, .bl k.1, .int k.2.2]) = H7 at s7 g7 hd7
    refine ⟨d, t2, _, nk true (sh k), rfl, rfl, hd7, tup3_key (s := sh k) g7, ?_, fun o8 hd8 => ⟨⟨_, _, _, rfl⟩, same_of_new s7 hd0, ?_⟩⟩
    · have h1 := fold_len true (r1.take i) [(nk false (false, 0), .bl false)]
      rw [List.length_take] at h1
      rw [sizeLine_eq]
      simp only [List.length_cons, List.length_nil] at h1
      omega
    · rw [fold_take hk]
      exact hd8
  subst e1
  rw [y1, List.take_of_length_le (Nat.le_refl _)] at hdi
  dsimp only
  refine ⟨_, rfl, b, rfl, ⟨_, SqL.of (s _ _ hb)⟩, ?_⟩
  refine for_it (walk_list (K := K) (a := b) (xs := ys)) (fun i σ H3 => (∃ v2 v3 v4, σ = [some (.ref a), some (.ref b), some (.ref d), v2, v3, v4]) ∧ Same H H3 ∧ DN P w K H3 d ((r2.take i).foldl (putE false) (r1.foldl (putE true) [(nk false (false, 0), .bl false)])))
    ⟨⟨_, _, _, rfl⟩, s, hdi⟩ (fun i σ H3 _ ⟨_, s, _⟩ => SqL.of (s _ _ hb)) (fun i u σ H5 H6 hi ⟨⟨v2, v3, v4, e1⟩, s, hdi⟩ yl => ?_) (fun σ H5 ⟨⟨v2, v3, v4, e1⟩, s, hdi⟩ => ?_)
  · obtain ⟨rfl, hu'⟩ := yl
    subst e1
    obtain ⟨k, hk, hk2⟩ := AllK.get k2 hu'
    obtain ⟨g, rfl, hg⟩ := IsK.same s hk2
    refine ⟨g, _, rfl, SqT.of hg, rfl, _, _, rfl, _, _, rfl, _, _, rfl, rfl, ?_⟩
    refine ⟨_, rfl, _, rfl, _, rfl, _, rfl, by show 3 ≤ sizeLine; decide, fun t2 ht2 => ?_⟩
    have s7 := same_upd (o := .tup [.bl false, .bl k.1, .int k.2.2]) ht2
    have g7 : (upd H6 t2 (.tup [.bl false, .bl k.1, .int k.2.2])) t2 = some (.tup [.bl false, .bl k.1, .int k.2.2]) := upd_same
    have hd7 := DN.same s7 hdi
    have s7 := s.trans s7
    generalize upd H6 t2 (.tup [.bl false, .bl k.1, .int k.2.2]) = H7 at s7 g7 hd7
    refine ⟨d, t2, _, nk false (sh k), rfl, rfl, hd7, tup3_key (s := sh k) g7, ?_, fun o8 hd8 => ⟨⟨_, _, _, rfl⟩, same_of_new s7 hd0, ?_⟩⟩
    · have h1 := fold_len false (r2.take i) (r1.foldl (putE true) [(nk false (false, 0), .bl false)])
      have h2 := fold_len true r1 [(nk false (false, 0), .bl false)]
      rw [List.length_take] at h1
      rw [sizeLine_eq]
      simp only [List.length_cons, List.length_nil] at h2
      omega
    · rw [fold_take hk]
      exact hd8
  subst e1
  rw [y2, List.take_of_length_le (Nat.le_refl _)] at hdi
  exact ⟨_, rfl, q _ d s hdi hd0⟩
/-- len([kind for kind in kinds if shape]) -/
theorem len_shape {K : PySem.W.Frag} {σ : L2.St} {H : Hp} {R : VK} {j : Nat} {a : Addr} {xs : List V} {ks : List Kd} {s : Sh2} {te1 te2 : TE} (e : σ[j]? = some (some (.ref a))) (ha : H a = some (.lst xs)) (hk : AllK H xs ks) (hl : ks.length ≤ 40)
    (e5 : ∀ x, wipe ((wipe σ [5]).set 5 x) [5] = wipe σ [5]) (e6 : ∀ x, ((wipe σ [5]).set 5 (some x))[5]? = some (some x))
    (h1 : ∀ (x : V) (H : Hp) (R : VK), R (.bl s.1) H → te1 ((wipe σ [5]).set 5 (some x)) H R) (h2 : ∀ (x : V) (H : Hp) (R : VK), R (.int s.2) H → te2 ((wipe σ [5]).set 5 (some x)) H R)
    (q : ∀ H', Same H H' → R (.int (cntK ks s : Nat)) H') :
    tCB (fun xs H Q => ∃ p ys, xs = [V.ref p] ∧ (SqL K H p ys ∨ SqT K H p ys) ∧ Q (V.int ys.length) H) (tCons (tLc (iList K (tVar j)) (gName 5) (tTest (tOp (rEqD K) (tTup (tCons (tOp (rIxT K) (tVar 5) (tC (.int 0))) (tCons (tOp (rIxT K) (tVar 5) (tC (.int 2))) tNil))) (tTup (tCons te1 (tCons te2 tNil))))) (tVar 5) [5]) tNil) σ H R := by
  refine ⟨_, e, a, rfl, ⟨_, SqL.of ha⟩, fun D hD => ?_⟩
  refine lcG (walk_list (K := K) (a := a) (xs := xs)) yat hk (fun _ H' => Same H H') (same_upd hD) (fun _ H' acc s => same_of_new s hD) (fun i H' _ s => SqL.of (s _ _ ha)) (by omega) (fun k => decide (Toy.sh k = s))
    (fun _ _ _ => True) (fun _ _ _ _ _ _ h => h) (fun i x k H' acc R N hi hx s' hD2 k1 k2 => ?_) (fun H1 acc s1 hD1 pr => ?_)
  · obtain ⟨t, rfl, ht⟩ := IsK.same s' hx
    refine ⟨e5 _, shape_test (e6 _) ht (h1 _) (h2 _) fun H2 s2 => ?_⟩
    refine ite2 (fun h => ?_) (fun h => ?_)
    · exact ⟨_, e6 _, k1 h _ _ (s'.trans s2) (s2 _ _ hD2) (fun _ _ h => h) trivial⟩
    · exact k2 (by simpa using h) _ (s'.trans s2) (s2 _ _ hD2) (fun _ _ h => h)
  · refine ⟨D, acc, rfl, .inl (SqL.of hD1), ?_⟩
    rw [show acc.length = cntK ks s from pr.length]
    exact q _ s1
theorem shapes_all {p : Sh2 → Prop} (h : ∀ b : Bool, ∀ c ∈ ([0, 1, 2] : List Int), p (b, c)) : ∀ s ∈ shapes, p s := fun s hs => by
  obtain ⟨b, c⟩ := s
  refine h b c ?_
  simp only [shapes, List.mem_cons, List.not_mem_nil, or_false, Prod.mk.injEq] at hs
  rcases hs with ⟨_, rfl⟩ | ⟨_, rfl⟩ | ⟨_, rfl⟩ | ⟨_, rfl⟩ | ⟨_, rfl⟩ | ⟨_, rfl⟩ <;> decide
theorem shapes_mk (b : Bool) {c : Int} (h : c ∈ ([0, 1, 2] : List Int)) : (b, c) ∈ shapes := by
  simp only [List.mem_cons, List.not_mem_nil, or_false] at h
  rcases h with rfl | rfl | rfl <;> cases b <;> decide
theorem ok_l_is_exact (T : Tx P K mg) (B : Bx T base) : FnOk P w K mg base CX0 1 T.a_l_is_exact T.fd_l_is_exact ["_law_root", "_law_others"] spLIsExact := by
  refine okT T.F_l_is_exact sc_l_is_exact (fun vs H Q E h => ?_) (fun cdv A outer s H vs Q E hcd hr h => ?_)
  · obtain ⟨a, b, xs, ys, r1, r2, rfl, _⟩ := h
    rfl
  have hu := hu_of hr
  have hu65 := hu65_of hr
  obtain ⟨a, b, xs, ys, r1, r2, rfl, ha, hb, k1, k2, l1, l2, q⟩ := h
  refine ⟨_, (pss_cons (ps_for PassesOwn.never rfl (pi_list (pe_lst (pa_cons pe_bl (pa_cons pe_bl pa_nil)))) (pg_name (i := 2) sc_l_is_exact.nd rfl (by first | exact Or.inl rfl | exact Or.inr rfl))
 (pss_one (ps_for PassesOwn.never rfl (pi_list (pe_lst (pa_cons pe_int (pa_cons pe_int (pa_cons pe_int pa_nil))))) (pg_name (i := 3) sc_l_is_exact.nd rfl (by first | exact Or.inl rfl | exact Or.inr rfl))
 (pss_cons (ps_set (i := 4) sc_l_is_exact.nd rfl (by first | exact Or.inl rfl | exact Or.inr rfl) (pe_ifExp (PW.pt (pw_or (pt_val (pv 2)) (pw_or1 (pt_cmpR op_gt (pv 3) pe_int (nomark _))))) pe_int pe_int))
 (pss_cons (ps_if (pt_cmpR op_ne (pe_callB call_len_seq (by rfl) T.b_len (by decide +kernel) (pa_cons (pe_lc (own := [("_law_kind", 5)]) (g := gName 5) rfl sc_l_is_exact.nd (pi_list (pv 0)) (blkOk_by (own := [("_law_kind", 5)]) (N := N_l_is_exact) (sc := defScope s_l_is_exact) (by decide +kernel)) (fun _ _ _ _ _ => (pg_name (i := 5) sc_l_is_exact.nd rfl (by first | exact Or.inl rfl | exact Or.inr rfl))) (fun _ _ _ _ _ => (pts_one (pt_cmpR (by exact (op_eqD hr.units) : OpR _ (compareOp .Eq) (rEqD K)) (pe_tup (pa_cons (pe_ix (by exact ix_tup : IxR _ (rIxT K)) (pv 5) pe_int (fun _ _ => rfl)) (pa_cons (pe_ix (by exact ix_tup : IxR _ (rIxT K)) (pv 5) pe_int (fun _ _ => rfl)) pa_nil))) (pe_tup (pa_cons (pv 2) (pa_cons (pv 3) pa_nil))) (nomark _)))) (fun _ _ _ _ _ => (pv 5))) pa_nil)) pe_int (nomark _))
 (pss_one (ps_ret pe_bl))
 pss_nil)
 (pss_one (ps_if (pt_cmpR op_ne (pe_callB call_len_seq (by rfl) T.b_len (by decide +kernel) (pa_cons (pe_lc (own := [("_law_kind", 5)]) (g := gName 5) rfl sc_l_is_exact.nd (pi_list (pv 1)) (blkOk_by (own := [("_law_kind", 5)]) (N := N_l_is_exact) (sc := defScope s_l_is_exact) (by decide +kernel)) (fun _ _ _ _ _ => (pg_name (i := 5) sc_l_is_exact.nd rfl (by first | exact Or.inl rfl | exact Or.inr rfl))) (fun _ _ _ _ _ => (pts_one (pt_cmpR (by exact (op_eqD hr.units) : OpR _ (compareOp .Eq) (rEqD K)) (pe_tup (pa_cons (pe_ix (by exact ix_tup : IxR _ (rIxT K)) (pv 5) pe_int (fun _ _ => rfl)) (pa_cons (pe_ix (by exact ix_tup : IxR _ (rIxT K)) (pv 5) pe_int (fun _ _ => rfl)) pa_nil))) (pe_tup (pa_cons (pv 2) (pa_cons (pv 3) pa_nil))) (nomark _)))) (fun _ _ _ _ _ => (pv 5))) pa_nil)) (pv 4) (nomark _))
 (pss_one (ps_ret pe_bl))
 pss_nil)))))))
 (pss_one (ps_ret (pe_cmpR (op_inD hu65) (pe_tup (pa_cons pe_bl (pa_cons pe_bl (pa_cons pe_int pa_nil)))) (pv 0) (by rfl))))), ?_⟩
  refine ⟨by show 2 ≤ sizeLine; decide, fun p hp => ⟨p, rfl, ⟨_, SqL.of upd_same⟩, ?_⟩⟩
  have s1 := same_upd (o := .lst [V.bl false, .bl true]) hp
  have g1 : (upd H p (.lst [V.bl false, .bl true])) p = some (.lst ([false, true].map V.bl)) := upd_same
  have hp0 := hp
  generalize upd H p (.lst [V.bl false, .bl true]) = H1 at s1 g1
  refine for_it (walk_list (K := K) (a := p) (xs := [false, true].map V.bl)) (fun i σ H3 => (∃ v2 v3 v4 v5, σ = [some (.ref a), some (.ref b), v2, v3, v4, v5]) ∧ Same H H3 ∧ H3 p = some (.lst ([false, true].map V.bl)) ∧ ∀ b ∈ [false, true].take i, ∀ c ∈ ([0, 1, 2] : List Int), cntK r1 (b, c) = 1 ∧ cntK r2 (b, c) = dueN (b, c))
    ⟨⟨_, _, _, _, rfl⟩, s1, g1, by simp⟩ (fun i σ H3 _ ⟨_, _, g, _⟩ => SqL.of g) (fun i u σ H5 H6 hi ⟨⟨v2, v3, v4, v5, e1⟩, s, g, al⟩ yl => ?_) (fun σ H5 ⟨⟨v2, v3, v4, v5, e1⟩, s, g, al⟩ => ?_)
  · obtain ⟨rfl, hu'⟩ := yl
    subst e1
    rw [List.getElem?_map] at hu'
    obtain ⟨kept, hkept, rfl⟩ := Option.map_eq_some_iff.mp hu'
    refine ⟨by show 3 ≤ sizeLine; decide, fun p2 hp2 => ⟨p2, rfl, ⟨_, SqL.of upd_same⟩, ?_⟩⟩
    have s2 := same_upd (o := .lst [V.int 0, .int 1, .int 2]) hp2
    have g2 : (upd H6 p2 (.lst [V.int 0, .int 1, .int 2])) p2 = some (.lst (([0, 1, 2] : List Int).map V.int)) := upd_same
    have g := s2 _ _ g
    have s2 := s.trans s2
    generalize upd H6 p2 (.lst [V.int 0, .int 1, .int 2]) = H7 at s2 g2 g
    refine for_it (walk_list (K := K) (a := p2) (xs := ([0, 1, 2] : List Int).map V.int)) (fun m σ H3 => (∃ v3 v4 v5, σ = [some (.ref a), some (.ref b), some (.bl kept), v3, v4, v5]) ∧ Same H H3 ∧ H3 p = some (.lst ([false, true].map V.bl)) ∧ H3 p2 = some (.lst (([0, 1, 2] : List Int).map V.int)) ∧ ∀ c ∈ ([0, 1, 2] : List Int).take m, cntK r1 (kept, c) = 1 ∧ cntK r2 (kept, c) = dueN (kept, c))
      ⟨⟨_, _, _, rfl⟩, s2, g, g2, by simp⟩ (fun m σ H3 _ ⟨_, _, _, g, _⟩ => SqL.of g) (fun m u σ H8 H9 hm ⟨⟨v3, v4, v5, e1⟩, s, g, g2, al2⟩ yl => ?_) (fun σ H8 ⟨⟨v3, v4, v5, e1⟩, s, g, g2, al2⟩ => ?_)
    · obtain ⟨rfl, hu2⟩ := yl
      subst e1
      rw [List.getElem?_map] at hu2
      obtain ⟨ch, hch, rfl⟩ := Option.map_eq_some_iff.mp hu2
      have hcm := List.mem_of_getElem? hch
      have hsm := shapes_mk kept hcm
      refine due_if (s := (kept, ch)) (fun H R h => ⟨_, rfl, h⟩) (fun H R h => ⟨_, rfl, h⟩) ?_
      dsimp only [gName]
      refine ifI (len_shape (s := (kept, ch)) rfl (s _ _ ha) (AllK.same s k1) l1 (fun _ => rfl) (fun _ => rfl) (fun x H R h => ⟨_, rfl, h⟩) (fun x H R h => ⟨_, rfl, h⟩) fun H10 s10 => ⟨rfl, _, rfl, ?_⟩)
      rw [niB]
      have g10 := s10 _ _ g
      have g210 := s10 _ _ g2
      have s10 := s.trans s10
      refine ite2 (fun h => ?_) (fun h => ?_)
      · have hn : ¬ cntK r1 (kept, ch) = 1 := fun e => of_decide_eq_true h (by rw [e]; rfl)
        have := q _ s10
        rw [exB_no hsm (fun z => hn z.1)] at this
        exact this
      have c1 : cntK r1 (kept, ch) = 1 := Classical.byContradiction fun e => h (decide_eq_true (by omega))
      refine nextS ?_
      dsimp only
      refine ifE (len_shape (s := (kept, ch)) rfl (s10 _ _ hb) (AllK.same s10 k2) l2 (fun _ => rfl) (fun _ => rfl) (fun x H R h => ⟨_, rfl, h⟩) (fun x H R h => ⟨_, rfl, h⟩) fun H11 s11 => ⟨_, rfl, rfl, _, rfl, ?_⟩)
      rw [niB]
      have g11 := s11 _ _ g10
      have g211 := s11 _ _ g210
      have s11 := s10.trans s11
      refine ite2 (fun h => ?_) (fun h => ?_)
      · have hn : ¬ cntK r2 (kept, ch) = dueN (kept, ch) := fun e => of_decide_eq_true h (by rw [e])
        have := q _ s11
        rw [exB_no hsm (fun z => hn z.2)] at this
        exact this
      have c2 : cntK r2 (kept, ch) = dueN (kept, ch) := Classical.byContradiction fun e => h (decide_eq_true (by omega))
      refine ⟨⟨_, _, _, rfl⟩, s11, g11, g211, fun c hc => ?_⟩
      rw [List.take_add_one, hch] at hc
      rcases List.mem_append.mp hc with h | h
      · exact al2 c h
      · rw [List.mem_singleton.mp (show c ∈ [ch] from h)]
        exact ⟨c1, c2⟩
    · subst e1
      refine ⟨⟨_, _, _, _, rfl⟩, s, g, fun b hb => ?_⟩
      rw [List.take_add_one, hkept] at hb
      rcases List.mem_append.mp hb with h | h
      · exact al b h
      · rw [List.mem_singleton.mp (show b ∈ [kept] from h)]
        exact al2
  · subst e1
    dsimp only
    refine ⟨by show 3 ≤ sizeLine; decide, fun t ht => ?_⟩
    have s9 := same_upd (o := .tup [.bl false, .bl false, .int 0]) ht
    have g9 : IsK (upd H5 t (.tup [.bl false, .bl false, .int 0])) (.ref t) (false, false, 0) := ⟨t, rfl, upd_same⟩
    have s9 := s.trans s9
    generalize upd H5 t (.tup [.bl false, .bl false, .int 0]) = H9 at s9 g9
    refine ⟨_, rfl, kdD (false, false, 0), r1.map kdD, g9.dp, .lst (SqL.of (s9 _ _ ha)) (AllK.dp (AllK.same s9 k1)), kd_shaped _, kds_shapedL _, ?_⟩
    rw [kd_any]
    have hall := shapes_all (p := fun s => cntK r1 s = 1 ∧ cntK r2 s = dueN s) (fun b c hc => al b (by cases b <;> decide) c hc)
    have e : exB r1 r2 = decide ((false, false, 0) ∈ r1) := by
      unfold exB
      rw [List.all_eq_true.mpr fun s hs => decide_eq_true (hall s hs), Bool.and_true]
    rw [← e]
    exact q _ s9
end
end Toy
set_option Elab.async false
set_option linter.all false
set_option maxRecDepth 100000
set_option maxHeartbeats 4000000
namespace Toy
open PySem L2 Sh ShL LamX NdefX
def five : List Sh2 := [(false, 1), (false, 2), (true, 0), (true, 1), (true, 2)]
theorem ok_sh {k : Kd} (h : sh k ∈ shapes) : KOk k := by
  obtain ⟨a, b, c⟩ := k
  have h : (a, c) ∈ shapes := h
  show 0 ≤ c ∧ c ≤ 2
  simp only [shapes, List.mem_cons, List.not_mem_nil, or_false, Prod.mk.injEq] at h
  omega
theorem nd_sh {ks : List Kd} (h : (ks.map sh).Nodup) : ks.Nodup := by
  rw [List.nodup_iff_pairwise_ne, List.pairwise_map] at h
  rw [List.nodup_iff_pairwise_ne]
  exact h.imp fun hne e => hne (by rw [e])
/-- kinds as they are drawn -/
structure KL (ks : List Kd) : Prop where
  nd : ks.Nodup
  ok : ∀ k ∈ ks, KOk k
  l8 : ks.length ≤ 8
theorem KL.of {ks : List Kd} {ss : List Sh2} (e : ks.map sh = ss) (nd : ss.Nodup) (hs : ∀ s ∈ ss, s ∈ shapes) (hl : ss.length ≤ 8) : KL ks :=
  ⟨nd_sh (e ▸ nd), fun k hk => ok_sh (hs _ (e ▸ List.mem_map.mpr ⟨k, hk, rfl⟩)), by rw [← List.length_map (f := sh), e]; exact hl⟩
theorem kp_lst {H H' : Hp} {d c b : Addr} {n : Nat} {xs : List V} (p : Pen H d c n) (s : Kp d H H') (h : H b = some (.lst xs)) : H' b = some (.lst xs) := by
  obtain ⟨kvs, hd⟩ := p.at
  exact s _ _ h (ne_of h hd (by intro z; cases z))
theorem kp_tup {H H' : Hp} {d c b : Addr} {n : Nat} {xs : List V} (p : Pen H d c n) (s : Kp d H H') (h : H b = some (.tup xs)) : H' b = some (.tup xs) := by
  obtain ⟨kvs, hd⟩ := p.at
  exact s _ _ h (ne_of h hd (by intro z; cases z))
theorem AllK.kpP {H H' : Hp} {d c : Addr} {n : Nat} {vs : List V} {ks : List Kd} (p : Pen H d c n) (s : Kp d H H') (h : AllK H vs ks) : AllK H' vs ks := AllK.mono (fun _ _ => IsK.kp s p.at) h
def ShAt (H : Hp) (v : V) (s : Sh2) : Prop := ∃ g, v = V.ref g ∧ H g = some (.tup [.bl s.1, .int s.2])
theorem ShAt.same {H H' : Hp} {vs : List V} {ss : List Sh2} (st : Same H H') (h : Paired (ShAt H) vs ss) : Paired (ShAt H') vs ss := paired_mono (fun _ _ ⟨g, e, h⟩ => ⟨g, e, st _ _ h⟩) h
theorem ShAt.kpP {H H' : Hp} {d c : Addr} {n : Nat} {vs : List V} {ss : List Sh2} (p : Pen H d c n) (st : Kp d H H') (h : Paired (ShAt H) vs ss) : Paired (ShAt H') vs ss := paired_mono (fun _ _ ⟨g, e, h⟩ => ⟨g, e, kp_tup p st h⟩) h
theorem ShAt.put {H : Hp} {a : Addr} {xs ys vs : List V} {ss : List Sh2} (ha : H a = some (.lst xs)) (h : Paired (ShAt H) vs ss) : Paired (ShAt (upd H a (.lst ys))) vs ss := paired_mono (fun _ _ ⟨g, e, h⟩ => ⟨g, e, by rw [upd_ne (ne_of h ha (by intro z; cases z))]; exact h⟩) h
def spLExact : Sp := fun vs H Q _ => ∃ (d c : Addr) (n : Nat), vs = [.ref d] ∧ Pen H d c n ∧ n ≤ 50000 ∧ ∀ H' p ra rb xs ys r1 r2, KL r1 → KL r2 → r1.length = 6 → r2.length = 5 → H' p = some (.tup [.ref ra, .ref rb]) → H' ra = some (.lst xs) → H' rb = some (.lst ys) → AllK H' xs r1 → AllK H' ys r2 → Kp d H H' → Pen H' d c (n + 10) → Q (.ref p) H'
section
variable {P : Program} {w : World} {K : PySem.W.Frag} {mg : Str → Option Value} {base : Heap}
theorem ok_l_exact (T : Tx P K mg) (B : Bx T base) : FnOk P w K mg base CX0 2 T.a_l_exact T.fd_l_exact ["_law_pen_here"] spLExact := by
  refine okT T.F_l_exact sc_l_exact (fun vs H Q E h => ?_) (fun cdv A outer s H vs Q E hcd hr h => ?_)
  · obtain ⟨d, c, n, rfl, _⟩ := h
    rfl
  have hu := hu_of hr
  have hu65 := hu65_of hr
  obtain ⟨d, c, n, rfl, hp, hn, q⟩ := h
  refine ⟨_, (pss_cons (ps_par (i := 1) (j := 2) (by rfl) sc_l_exact.nd rfl rfl (by decide) rfl rfl (pa_cons (pe_lst (pa_cons (pe_tup (pa_cons pe_bl (pa_cons pe_bl (pa_cons pe_int pa_nil)))) pa_nil)) (pa_cons (pe_lst pa_nil) pa_nil)) (by rfl))
 (pss_cons (ps_for PassesOwn.never rfl (pi_list (pe_lst (pa_cons (pe_tup (pa_cons pe_bl (pa_cons pe_int pa_nil))) (pa_cons (pe_tup (pa_cons pe_bl (pa_cons pe_int pa_nil))) (pa_cons (pe_tup (pa_cons pe_bl (pa_cons pe_int pa_nil))) (pa_cons (pe_tup (pa_cons pe_bl (pa_cons pe_int pa_nil))) (pa_cons (pe_tup (pa_cons pe_bl (pa_cons pe_int pa_nil))) pa_nil))))))) (pg_tup rfl (pgs_cons (pg_name (i := 3) sc_l_exact.nd rfl (by first | exact Or.inl rfl | exact Or.inr rfl)) (pgs_cons (pg_name (i := 4) sc_l_exact.nd rfl (by first | exact Or.inl rfl | exact Or.inr rfl)) pgs_nil)))
 (pss_cons (ps_expr (pe_bm PySem.F.plainAttrs_list PySem.F.slot_list_append PySem.F.type_list_append mt_append (pv 1) (pa_cons (pe_tup (pa_cons (pv 3) (pa_cons (pe_cmpR op_eq (pe_call (ok_l_draw (w := w) T B) (hr.mono (by decide)) (by rfl) T.m_l_draw T.F_l_draw.kp T.bi_l_draw .nil pass0 (pa_cons (pv 0) (pa_cons pe_int pa_nil))) pe_int (nomark _)) (pa_cons (pv 4) pa_nil)))) pa_nil)))
 (pss_one (ps_expr (pe_bm PySem.F.plainAttrs_list PySem.F.slot_list_append PySem.F.type_list_append mt_append (pv 2) (pa_cons (pe_tup (pa_cons (pv 3) (pa_cons (pe_cmpR op_eq (pe_call (ok_l_draw (w := w) T B) (hr.mono (by decide)) (by rfl) T.m_l_draw T.F_l_draw.kp T.bi_l_draw .nil pass0 (pa_cons (pv 0) (pa_cons pe_int pa_nil))) pe_int (nomark _)) (pa_cons (pv 4) pa_nil)))) pa_nil))))))
 (pss_one (ps_ret (pe_tup (pa_cons (pv 1) (pa_cons (pv 2) pa_nil))))))), ?_⟩
  refine ⟨by show 3 ≤ sizeLine; decide, fun t ht => ?_⟩
  have s1 := same_upd (o := .tup [.bl false, .bl false, .int 0]) ht
  have g1 : IsK (upd H t (.tup [.bl false, .bl false, .int 0])) (.ref t) (false, false, 0) := ⟨t, rfl, upd_same⟩
  have p1 := hp.same s1
  generalize upd H t (.tup [.bl false, .bl false, .int 0]) = H1 at s1 g1 p1
  refine ⟨by show 1 ≤ sizeLine; decide, fun ra hra => ?_⟩
  have hra0 := s1.free hra
  have s2 := same_upd (o := .lst [V.ref t]) hra
  have p2 := p1.same s2
  have gra : (upd H1 ra (.lst [V.ref t])) ra = some (.lst [V.ref t]) := upd_same
  have g1 := IsK.same s2 g1
  have s2 := s1.trans s2
  generalize upd H1 ra (.lst [V.ref t]) = H2 at s2 gra g1 p2
  refine ⟨Nat.zero_le _, fun rb hrb => ?_⟩
  have hrb0 := s2.free hrb
  have s3 := same_upd (o := .lst []) hrb
  have p3 := p2.same s3
  have gra := s3 _ _ gra
  have grb : (upd H2 rb (.lst [])) rb = some (.lst []) := upd_same
  have g1 := IsK.same s3 g1
  have s3 := s2.trans s3
  have nab : ra ≠ rb := fun e => by rw [e] at gra; rw [gra] at grb; cases grb
  generalize upd H2 rb (.lst []) = H3 at s3 gra grb g1 p3
  refine ⟨_, _, rfl, ?_⟩
  have nad : ra ≠ d := hp.ne_free hra0
  have nbd : rb ≠ d := hp.ne_free hrb0
  -- the five shapes
  have fv : ∀ (σ : L2.St) (H : Hp) (R : VK), (∀ H' l vs, Same H H' → H l = none → H' l = some (.lst vs) → Paired (ShAt H') vs five → R (.ref l) H') →
      tLst (tCons (tTup (tCons (tC (.bl false)) (tCons (tC (.int 1)) tNil))) (tCons (tTup (tCons (tC (.bl false)) (tCons (tC (.int 2)) tNil))) (tCons (tTup (tCons (tC (.bl true)) (tCons (tC (.int 0)) tNil))) (tCons (tTup (tCons (tC (.bl true)) (tCons (tC (.int 1)) tNil))) (tCons (tTup (tCons (tC (.bl true)) (tCons (tC (.int 2)) tNil))) tNil))))) σ H R := fun σ H R k => by
    unfold tLst
    refine consI (tupA (cn_cons (cn_cons cn_nil)) (by show 2 ≤ 10; decide) fun a ha => ?_)
    have sa := same_upd (o := .tup [.bl false, .int 1]) ha
    have ga := upd_same (H := H) (a := a) (o := .tup [.bl false, .int 1])
    generalize upd H a (.tup [.bl false, .int 1]) = Ha at sa ga
    refine consI (tupA (cn_cons (cn_cons cn_nil)) (by show 2 ≤ 10; decide) fun b hb => ?_)
    have sb := same_upd (o := .tup [.bl false, .int 2]) hb
    have gb := upd_same (H := Ha) (a := b) (o := .tup [.bl false, .int 2])
    have ga := sb _ _ ga
    have sb := sa.trans sb
    generalize upd Ha b (.tup [.bl false, .int 2]) = Hb at sb ga gb
    refine consI (tupA (cn_cons (cn_cons cn_nil)) (by show 2 ≤ 10; decide) fun e he => ?_)
    have se := same_upd (o := .tup [.bl true, .int 0]) he
    have ge := upd_same (H := Hb) (a := e) (o := .tup [.bl true, .int 0])
    have ga := se _ _ ga
    have gb := se _ _ gb
    have se := sb.trans se
    generalize upd Hb e (.tup [.bl true, .int 0]) = He at se ga gb ge
    refine consI (tupA (cn_cons (cn_cons cn_nil)) (by show 2 ≤ 10; decide) fun f hf => ?_)
    have sf := same_upd (o := .tup [.bl true, .int 1]) hf
    have gf := upd_same (H := He) (a := f) (o := .tup [.bl true, .int 1])
    have ga := sf _ _ ga
    have gb := sf _ _ gb
    have ge := sf _ _ ge
    have sf := se.trans sf
    generalize upd He f (.tup [.bl true, .int 1]) = Hf at sf ga gb ge gf
    refine consI (tupA (cn_cons (cn_cons cn_nil)) (by show 2 ≤ 10; decide) fun g hg => ?_)
    have sg := same_upd (o := .tup [.bl true, .int 2]) hg
    have gg := upd_same (H := Hf) (a := g) (o := .tup [.bl true, .int 2])
    have ga := sg _ _ ga
    have gb := sg _ _ gb
    have ge := sg _ _ ge
    have gf := sg _ _ gf
    have sg := sf.trans sg
    generalize upd Hf g (.tup [.bl true, .int 2]) = Hg at sg ga gb ge gf gg
    refine ⟨by show 5 ≤ sizeLine; decide, fun l hl => ?_⟩
    have sl := same_upd (o := .lst [V.ref a, .ref b, .ref e, .ref f, .ref g]) hl
    exact k _ l _ (sg.trans sl) (sg.free hl) upd_same (.cons ⟨a, rfl, sl _ _ ga⟩ (.cons ⟨b, rfl, sl _ _ gb⟩ (.cons ⟨e, rfl, sl _ _ ge⟩ (.cons ⟨f, rfl, sl _ _ gf⟩ (.cons ⟨g, rfl, sl _ _ gg⟩ .nil)))))
  dsimp only
  refine forI ?_
  refine fv _ H3 _ fun H4 l vs s4 hl hvs pv => ?_
  refine ⟨l, rfl, ⟨_, SqL.of hvs⟩, ?_⟩
  have nla : ra ≠ l := ne_of_none gra hl
  have nlb : rb ≠ l := ne_of_none grb hl
  have p4 := p3.same s4
  have gra := s4 _ _ gra
  have grb := s4 _ _ grb
  have g1 := IsK.same s4 g1
  have s4 := s3.trans s4
  have nld : l ≠ d := by
    obtain ⟨kvs, hd⟩ := p4.at
    exact ne_of hvs hd (by intro z; cases z)
  refine for_it (walk_list (K := K) (a := l) (xs := vs)) (fun i σ H' => (∃ v3 v4, σ = [some (.ref d), some (.ref ra), some (.ref rb), v3, v4]) ∧ Kp d H H' ∧ Pen H' d c (n + 2 * i) ∧ H' l = some (.lst vs) ∧ Paired (ShAt H') vs five ∧
      ∃ xs ys r1 r2, H' ra = some (.lst xs) ∧ H' rb = some (.lst ys) ∧ AllK H' xs r1 ∧ AllK H' ys r2 ∧ r1.map sh = (false, 0) :: five.take i ∧ r2.map sh = five.take i)
    ⟨⟨_, _, rfl⟩, Same.kp s4, p4, hvs, pv, _, _, [(false, false, 0)], [], gra, grb, .cons g1 .nil, .nil, rfl, rfl⟩ (fun i σ H' _ ⟨_, _, _, g, _⟩ => SqL.of g) (fun i u σ H5 H6 hi ⟨⟨v3, v4, e1⟩, k5, p5, gl, pv, xs, ys, r1, r2, gra, grb, a1, a2, m1, m2⟩ yl => ?_) (fun σ H5 ⟨⟨v3, v4, e1⟩, k5, p5, gl, pv, xs, ys, r1, r2, gra, grb, a1, a2, m1, m2⟩ => ?_)
  · obtain ⟨rfl, hu'⟩ := yl
    subst e1
    obtain ⟨s, hs, g, rfl, hg⟩ := paired_ix pv hu'
    have hi5 : i < 5 := (List.getElem?_eq_some_iff.mp hs).1
    refine ⟨g, _, rfl, SqT.of hg, rfl, _, _, rfl, _, _, rfl, rfl, ?_⟩
    refine ⟨_, rfl, .inl ⟨rfl, _, SqL.of gra⟩, _, rfl, _, rfl, d, c, _, 3, rfl, p5, by omega, by decide, by decide, fun H7 r r0 r1' k7 p7 => ⟨rfl, _, rfl, by show 3 ≤ sizeLine; decide, fun t1 ht1 => ?_⟩⟩
    have gra7 := kp_lst p5 k7 gra
    have grb7 := kp_lst p5 k7 grb
    have gl7 := kp_lst p5 k7 gl
    have pv7 := ShAt.kpP p5 k7 pv
    have a17 := AllK.kpP p5 k7 a1
    have a27 := AllK.kpP p5 k7 a2
    have k7 := k5.trans k7
    have n1a : ra ≠ t1 := ne_of_none gra7 ht1
    have st1 := same_upd (o := .tup [.bl s.1, .bl (decide (r = 0)), .int s.2]) ht1
    have g71 : IsK (upd H7 t1 (.tup [.bl s.1, .bl (decide (r = 0)), .int s.2])) (.ref t1) (s.1, decide (r = 0), s.2) := ⟨t1, rfl, upd_same⟩
    have e71 : (upd H7 t1 (.tup [.bl s.1, .bl (decide (V.int r = V.int 0)), .int s.2])) = upd H7 t1 (.tup [.bl s.1, .bl (decide (r = 0)), .int s.2]) := by
      rw [show decide (V.int r = V.int 0) = decide (r = 0) by simp]
    rw [e71]
    have gra8 := st1 _ _ gra7
    have grb8 := st1 _ _ grb7
    have gl8 := st1 _ _ gl7
    have pv8 := ShAt.same st1 pv7
    have a18 := AllK.same st1 a17
    have a28 := AllK.same st1 a27
    have p8 := p7.same st1
    have k8 := k7.trans (Same.kp st1)
    generalize upd H7 t1 (.tup [.bl s.1, .bl (decide (r = 0)), .int s.2]) = H8 at g71 gra8 grb8 gl8 pv8 a18 a28 p8 k8
    have y1 : xs.length = r1.length := AllK.len a1
    have y2 : ys.length = r2.length := AllK.len a2
    have l1 : r1.length ≤ 6 := by rw [← List.length_map (f := sh), m1, List.length_cons, List.length_take]; show _ + 1 ≤ 6; have : five.length = 5 := rfl; omega
    have l2 : r2.length ≤ 5 := by rw [← List.length_map (f := sh), m2, List.length_take]; have : five.length = 5 := rfl; omega
    refine ⟨ra, xs, _, rfl, rfl, gra8, by rw [sizeLine_eq]; omega, ?_⟩
    have grb9 : (upd H8 ra (.lst (xs ++ [V.ref t1]))) rb = some (.lst ys) := by rw [upd_ne (Ne.symm nab)]; exact grb8
    have gra9 : (upd H8 ra (.lst (xs ++ [V.ref t1]))) ra = some (.lst (xs ++ [V.ref t1])) := upd_same
    have gl9 : (upd H8 ra (.lst (xs ++ [V.ref t1]))) l = some (.lst vs) := by rw [upd_ne (Ne.symm nla)]; exact gl8
    have pv9 : Paired (ShAt (upd H8 ra (.lst (xs ++ [V.ref t1])))) vs five := ShAt.put gra8 pv8
    have a19 : AllK (upd H8 ra (.lst (xs ++ [V.ref t1]))) (xs ++ [V.ref t1]) (r1 ++ [(s.1, decide (r = 0), s.2)]) := AllK.put gra8 (AllK.append a18 (.cons g71 .nil))
    have a29 : AllK (upd H8 ra (.lst (xs ++ [V.ref t1]))) ys r2 := AllK.put gra8 a28
    have p9 : Pen (upd H8 ra (.lst (xs ++ [V.ref t1]))) d c (n + 2 * i + 1) := Pen.put hp hra0 p8
    have k9 : Kp d H (upd H8 ra (.lst (xs ++ [V.ref t1]))) := kp_put0 k8 hra0
    have hl9 : ∀ b, (upd H8 ra (.lst (xs ++ [V.ref t1]))) b = none → b ≠ ra := fun b hb e => by rw [e, gra9] at hb; cases hb
    generalize upd H8 ra (.lst (xs ++ [V.ref t1])) = H9 at gra9 grb9 gl9 pv9 a19 a29 p9 k9 hl9
    refine ⟨_, rfl, .inl ⟨rfl, _, SqL.of grb9⟩, _, rfl, _, rfl, d, c, _, 2, rfl, p9, by omega, by decide, by decide, fun H10 r' r0' r1'' k10 p10 => ⟨rfl, _, rfl, by show 3 ≤ sizeLine; decide, fun t2 ht2 => ?_⟩⟩
    have gra10 := kp_lst p9 k10 gra9
    have grb10 := kp_lst p9 k10 grb9
    have gl10 := kp_lst p9 k10 gl9
    have pv10 := ShAt.kpP p9 k10 pv9
    have a110 := AllK.kpP p9 k10 a19
    have a210 := AllK.kpP p9 k10 a29
    have k10 := k9.trans k10
    have st2 := same_upd (o := .tup [.bl s.1, .bl (decide (r' = 0)), .int s.2]) ht2
    have g72 : IsK (upd H10 t2 (.tup [.bl s.1, .bl (decide (r' = 0)), .int s.2])) (.ref t2) (s.1, decide (r' = 0), s.2) := ⟨t2, rfl, upd_same⟩
    have e72 : (upd H10 t2 (.tup [.bl s.1, .bl (decide (V.int r' = V.int 0)), .int s.2])) = upd H10 t2 (.tup [.bl s.1, .bl (decide (r' = 0)), .int s.2]) := by
      rw [show decide (V.int r' = V.int 0) = decide (r' = 0) by simp]
    rw [e72]
    have gra11 := st2 _ _ gra10
    have grb11 := st2 _ _ grb10
    have gl11 := st2 _ _ gl10
    have pv11 := ShAt.same st2 pv10
    have a111 := AllK.same st2 a110
    have a211 := AllK.same st2 a210
    have p11 := p10.same st2
    have k11 := k10.trans (Same.kp st2)
    generalize upd H10 t2 (.tup [.bl s.1, .bl (decide (r' = 0)), .int s.2]) = H11 at g72 gra11 grb11 gl11 pv11 a111 a211 p11 k11
    refine ⟨rb, ys, _, rfl, rfl, grb11, by rw [sizeLine_eq]; omega, ?_⟩
    refine ⟨⟨_, _, rfl⟩, kp_put0 k11 hrb0, (Pen.put hp hrb0 p11).mono (by omega), ?_, ShAt.put grb11 pv11, _, _, _, _, ?_, upd_same, AllK.put grb11 a111, AllK.put grb11 (AllK.append a211 (.cons g72 .nil)), ?_, ?_⟩
    · rw [upd_ne (Ne.symm nlb)]; exact gl11
    · rw [upd_ne nab]; exact gra11
    · rw [List.map_append, m1, List.take_add_one, hs]; rfl
    · rw [List.map_append, m2, List.take_add_one, hs]; rfl
  subst e1
  have e5 : vs.length = 5 := pv.length
  rw [e5] at p5 m1 m2
  refine ⟨_, rfl, _, rfl, by show 2 ≤ sizeLine; decide, fun t ht => ?_⟩
  have st := same_upd (o := .tup [V.ref ra, .ref rb]) ht
  have l1 : r1.length = 6 := by rw [← List.length_map (f := sh), m1]; rfl
  have l2 : r2.length = 5 := by rw [← List.length_map (f := sh), m2]; rfl
  exact q _ t ra rb xs ys r1 r2 (KL.of m1 (by decide) (by decide) (by decide)) (KL.of m2 (by decide) (by decide) (by decide)) l1 l2 upd_same (st _ _ gra) (st _ _ grb) (AllK.same st a1) (AllK.same st a2) (k5.trans (Same.kp st)) ((p5.same st).mono (by omega))
end
end Toy
set_option Elab.async false
set_option linter.all false
set_option maxRecDepth 100000
set_option maxHeartbeats 4000000
namespace Toy
open PySem L2 Sh ShL LamX NdefX
/-! ### lists of kinds, by expressions -/
def LK (te : TE) (σ : L2.St) (Hb : Hp) (ks : List Kd) : Prop := ∀ (H : Hp) (R : VK), Same Hb H → (∀ H' a zs, Same H H' → H' a = some (.lst zs) → AllK H' zs ks → R (.ref a) H') → te σ H R
def LKn (te : TE) (σ : L2.St) (Hb : Hp) (ks : List Kd) : Prop := ∀ (H : Hp) (R : VK), Same Hb H → (∀ H' a zs, Same H H' → H a = none → H' a = some (.lst zs) → AllK H' zs ks → R (.ref a) H') → te σ H R
theorem LKn.w {te : TE} {σ : L2.St} {Hb : Hp} {ks : List Kd} (h : LKn te σ Hb ks) : LK te σ Hb ks := fun H R s k => h H R s fun H' a zs s' _ g kk => k H' a zs s' g kk
section
variable {K : PySem.W.Frag} {σ : L2.St} {Hb : Hp} {a : Addr} {xs : List V} {ks js : List Kd} {i j n : Nat} {te te1 te2 : TE}
theorem lk_var (e : σ[j]? = some (some (.ref a))) (h : Hb a = some (.lst xs)) (hk : AllK Hb xs ks) : LK (tVar j) σ Hb ks := fun H R s k => ⟨_, e, k H a xs (fun _ _ h => h) (s _ _ h) (AllK.same s hk)⟩
theorem lk_take (e : σ[j]? = some (some (.ref a))) (h : Hb a = some (.lst xs)) (hk : AllK Hb xs ks) (e2 : σ[i]? = some (some (.int (n : Nat)))) : LK (tSl (rSlL K) (tVar j) tNoPart (tPart (tVar i))) σ Hb (ks.take n) := fun H R s k =>
  ⟨_, e, _, e2, _, rfl, a, xs, rfl, SqL.of (s _ _ h), fun p hp => by
    rw [cut_take]
    exact k _ p _ (same_upd hp) upd_same (AllK.same (same_upd hp) (AllK.take n (AllK.same s hk)))⟩
theorem lk_drop (e : σ[j]? = some (some (.ref a))) (h : Hb a = some (.lst xs)) (hk : AllK Hb xs ks) (e2 : σ[i]? = some (some (.int (n : Nat)))) : LK (tSl (rSlL K) (tVar j) (tPart (tOp (rI0 fun i j => V.int (i + j)) (tVar i) (tC (V.int 1)))) tNoPart) σ Hb (ks.drop (n + 1)) := fun H R s k =>
  ⟨_, e, _, e2, _, _, rfl, rfl, _, rfl, a, xs, rfl, SqL.of (s _ _ h), fun p hp => by
    rw [show ((n : Int) + 1) = ((n + 1 : Nat) : Int) by omega, cut_drop]
    exact k _ p _ (same_upd hp) upd_same (AllK.same (same_upd hp) (AllK.drop (n + 1) (AllK.same s hk)))⟩
theorem lk_tail (e : σ[j]? = some (some (.ref a))) (h : Hb a = some (.lst xs)) (hk : AllK Hb xs ks) : LK (tSl (rSlL K) (tVar j) (tPart (tC (V.int 1))) tNoPart) σ Hb (ks.drop 1) := fun H R s k =>
  ⟨_, e, _, rfl, a, xs, rfl, SqL.of (s _ _ h), fun p hp => by
    rw [show cutV xs (some 1) none = xs.drop 1 from cut_drop xs 1]
    exact k _ p _ (same_upd hp) upd_same (AllK.same (same_upd hp) (AllK.drop 1 (AllK.same s hk)))⟩
theorem lk_one {ts : TA} {k0 : Kd} (h : CnA ts σ [.bl k0.1, .bl k0.2.1, .int k0.2.2]) : LK (tLst (tCons (tTup ts) tNil)) σ Hb [k0] := fun H R s k => by
  unfold tLst
  refine consI (tupA h (by show 3 ≤ 10; decide) fun t ht => ⟨by show 1 ≤ sizeLine; decide, fun l hl => ?_⟩)
  have st := same_upd (o := .tup [V.bl k0.1, .bl k0.2.1, .int k0.2.2]) ht
  have sl := same_upd (o := .lst [V.ref t]) hl
  exact k _ l _ (st.trans sl) upd_same (.cons ⟨t, rfl, sl _ _ upd_same⟩ .nil)
theorem lk_cat (h1 : LK te1 σ Hb ks) (h2 : LK te2 σ Hb js) (hl : ks.length + js.length ≤ 1000) : LKn (tOp rCat te1 te2) σ Hb (ks ++ js) := fun H R s k =>
  h1 H _ s fun H1 a xs s1 ga ka => h2 H1 _ (s.trans s1) fun H2 b ys s2 gb kb => by
    have l1 : xs.length = ks.length := AllK.len ka
    have l2 : ys.length = js.length := AllK.len kb
    refine ⟨a, b, xs, ys, rfl, rfl, s2 _ _ ga, gb, by rw [sizeLine_eq]; omega, fun p hp => ?_⟩
    have s3 := same_upd (o := .lst (xs ++ ys)) hp
    exact k _ p _ ((s1.trans s2).trans s3) ((s1.trans s2).free hp) upd_same (AllK.same s3 (AllK.append (AllK.same s2 ka) kb))
theorem cn_e {v : V} {ts : TA} {vs : List V} (h : ∀ (H : Hp) (R : VK), R v H → te σ H R) (hs : CnA ts σ vs) : CnA (tCons te ts) σ (v :: vs) := fun H R k => h H _ (hs H _ k)
end
/-- no kind twice -/
def dedK (ks : List Kd) : List Kd := ((List.range ks.length).filter fun i => decide (ks.getD i (false, false, 0) ∉ ks.take i)).map fun i => ks.getD i (false, false, 0)
theorem dedK_mem {ks : List Kd} {k : Kd} (h : k ∈ dedK ks) : k ∈ ks := by
  obtain ⟨i, hi, rfl⟩ := List.mem_map.mp h
  have hi := List.mem_range.mp (List.mem_filter.mp hi).1
  rw [List.getD_eq_getElem?_getD, List.getElem?_eq_getElem hi]
  exact List.getElem_mem _
theorem dedK_nd (ks : List Kd) : (dedK ks).Nodup := by
  unfold dedK
  rw [List.nodup_iff_pairwise_ne, List.pairwise_map]
  have h0 : (List.range ks.length).Pairwise (· < ·) := List.pairwise_lt_range
  refine List.Pairwise.imp_of_mem ?_ (List.Pairwise.filter _ h0)
  intro i j hi hj hlt e
  obtain ⟨hj1, hj2⟩ := List.mem_filter.mp hj
  have hj1 := List.mem_range.mp hj1
  have hi1 := List.mem_range.mp (List.mem_filter.mp hi).1
  have hj2 : ks.getD j (false, false, 0) ∉ ks.take j := of_decide_eq_true hj2
  rw [← e, List.getD_eq_getElem?_getD, List.getElem?_eq_getElem hi1] at hj2
  refine hj2 (List.mem_of_getElem? (i := i) ?_)
  rw [List.getElem?_take_of_lt hlt, List.getElem?_eq_getElem hi1]
  rfl
theorem dedK_len (ks : List Kd) : (dedK ks).length ≤ ks.length := by
  unfold dedK
  rw [List.length_map]
  exact Nat.le_trans (List.length_filter_le _ _) (by rw [List.length_range]; exact Nat.le_refl _)
theorem dedK_kl {ks : List Kd} (h : ∀ k ∈ ks, KOk k) (hl : ks.length ≤ 8) : KL (dedK ks) := ⟨dedK_nd ks, fun k hk => h k (dedK_mem hk), Nat.le_trans (dedK_len ks) hl⟩
theorem ok_turn {k : Kd} (h : KOk k) (a b : Bool) : KOk (a, b, (k.2.2 + 1) % 3) := by
  show 0 ≤ (k.2.2 + 1) % 3 ∧ (k.2.2 + 1) % 3 ≤ 2
  have := h.1
  omega
theorem ok_put {ks : List Kd} {n : Nat} {k : Kd} (h : ∀ k ∈ ks, KOk k) (hk : KOk k) : ∀ x ∈ ks.take n ++ [k] ++ ks.drop (n + 1), KOk x := fun x hx => by
  rcases List.mem_append.mp hx with hx | hx
  · rcases List.mem_append.mp hx with hx | hx
    · exact h x (List.mem_of_mem_take hx)
    · rw [List.mem_singleton.mp hx]; exact hk
  · exact h x (List.mem_of_mem_drop hx)
end Toy
set_option Elab.async false
set_option linter.all false
set_option maxRecDepth 100000
set_option maxHeartbeats 4000000
namespace Toy
open PySem L2 Sh ShL LamX NdefX
def spBent : Sp := fun vs H Q _ => ∃ (d c : Addr) (n : Nat) (ra rb : Addr) (xs ys : List V) (r1 r2 : List Kd), vs = [.ref d, .ref ra, .ref rb] ∧ Pen H d c n ∧ n ≤ 50000 ∧ H ra = some (.lst xs) ∧ H rb = some (.lst ys) ∧ AllK H xs r1 ∧ AllK H ys r2 ∧ (∀ k ∈ r1, KOk k) ∧ (∀ k ∈ r2, KOk k) ∧ 0 < r1.length ∧ 0 < r2.length ∧ r1.length ≤ 6 ∧ r2.length ≤ 6 ∧
  ∀ H' p fa fb xs ys k1 k2, KL k1 → KL k2 → H' p = some (.lst [.ref fa, .ref fb]) → H' fa = some (.lst xs) → H' fb = some (.lst ys) → AllK H' xs k1 → AllK H' ys k2 → Kp d H H' → Pen H' d c (n + 3) → Q (.ref p) H'
/-- what stands behind the turn: two lists of kinds in the list of sides -/
structure Bt (d c sl : Addr) (n : Nat) (H0 H : Hp) : Prop where
  pen : Pen H d c n
  kp : Kp d H0 H
  ex : ∃ (a b : Addr) (xs ys : List V) (k1 k2 : List Kd), H sl = some (.lst [.ref a, .ref b]) ∧ H a = some (.lst xs) ∧ H b = some (.lst ys) ∧ AllK H xs k1 ∧ AllK H ys k2 ∧ (∀ k ∈ k1, KOk k) ∧ (∀ k ∈ k2, KOk k) ∧ k1.length ≤ 8 ∧ k2.length ≤ 8
/-- sides[j] = a list of kinds -/
theorem put_side {K : PySem.W.Frag} {σ : L2.St} {H0 Hb : Hp} {d c sl ra rb : Addr} {n j : Nat} {xs ys : List V} {r1 r2 ks : List Kd} {te ti : TE} {D : Ends} (hp : Pen Hb d c n) (hk : Kp d H0 Hb) (hsl : Hb sl = some (.lst [.ref ra, .ref rb])) (hsl0 : H0 sl = none) (h0 : ∃ n, Pen H0 d c n) (ha : Hb ra = some (.lst xs)) (hb : Hb rb = some (.lst ys)) (ka : AllK Hb xs r1) (kb : AllK Hb ys r2)
    (o1 : ∀ k ∈ r1, KOk k) (o2 : ∀ k ∈ r2, KOk k) (l1 : r1.length ≤ 8) (l2 : r2.length ≤ 8) (nas : ra ≠ sl) (nbs : rb ≠ sl) (hj : j < 2) (e4 : σ[4]? = some (some (.ref sl))) (h : LKn te σ Hb ks) (hi : ∀ (H : Hp) (R : VK), R (.int (j : Nat)) H → ti σ H R) (ok : ∀ k ∈ ks, KOk k) (l8 : ks.length ≤ 8)
    (q : ∀ H', Bt d c sl n H0 H' → D.nx σ H') : tAsg te (gSub (tVar 4) ti rSetL) D σ Hb := by
  refine h Hb _ (fun _ _ h => h) fun H1 nl zs s1 hn g1 k1 => ?_
  have hsl1 := s1 _ _ hsl
  have nls : nl ≠ sl := fun e => by rw [e, hsl] at hn; cases hn
  refine ⟨_, e4, hi _ _ ⟨sl, _, (j : Nat), j, rfl, rfl, hsl1, (by rcases (show j = 0 ∨ j = 1 by omega) with rfl | rfl <;> rfl), q _ ?_⟩⟩
  obtain ⟨n0, p0⟩ := h0
  have k2 : Kp d H0 (upd H1 sl (.lst ([V.ref ra, .ref rb].set j (.ref nl)))) := kp_put0 (hk.trans (Same.kp s1)) hsl0
  have p2 : Pen (upd H1 sl (.lst ([V.ref ra, .ref rb].set j (.ref nl)))) d c n := Pen.put p0 hsl0 (hp.same s1)
  have ga : (upd H1 sl (.lst ([V.ref ra, .ref rb].set j (.ref nl)))) ra = some (.lst xs) := by rw [upd_ne nas]; exact s1 _ _ ha
  have gb : (upd H1 sl (.lst ([V.ref ra, .ref rb].set j (.ref nl)))) rb = some (.lst ys) := by rw [upd_ne nbs]; exact s1 _ _ hb
  have gn : (upd H1 sl (.lst ([V.ref ra, .ref rb].set j (.ref nl)))) nl = some (.lst zs) := by rw [upd_ne nls]; exact g1
  have ua := AllK.put (ys := [V.ref ra, .ref rb].set j (.ref nl)) hsl1 (AllK.same s1 ka)
  have ub := AllK.put (ys := [V.ref ra, .ref rb].set j (.ref nl)) hsl1 (AllK.same s1 kb)
  have un := AllK.put (ys := [V.ref ra, .ref rb].set j (.ref nl)) hsl1 k1
  refine ⟨p2, k2, ?_⟩
  rcases (show j = 0 ∨ j = 1 by omega) with rfl | rfl
  · exact ⟨nl, rb, zs, ys, ks, r2, upd_same, gn, gb, un, ub, ok, o2, l8, l2⟩
  · exact ⟨ra, nl, xs, zs, r1, ks, upd_same, ga, gn, ua, un, o1, ok, l1, l8⟩
/-- a list of kinds, not the one at fo -/
def LsAt (fo : Addr) (H : Hp) (v : V) (ks : List Kd) : Prop := ∃ l zs, v = .ref l ∧ l ≠ fo ∧ H l = some (.lst zs) ∧ AllK H zs ks
theorem LsAt.same {fo : Addr} {H H' : Hp} {vs : List V} {kss : List (List Kd)} (s : Same H H') (h : Paired (LsAt fo H) vs kss) : Paired (LsAt fo H') vs kss := paired_mono (fun _ _ ⟨l, zs, e, n, g, k⟩ => ⟨l, zs, e, n, s _ _ g, AllK.same s k⟩) h
theorem LsAt.put {fo : Addr} {H : Hp} {xs ys vs : List V} {kss : List (List Kd)} (ha : H fo = some (.lst xs)) (h : Paired (LsAt fo H) vs kss) : Paired (LsAt fo (upd H fo (.lst ys))) vs kss := paired_mono (fun _ _ ⟨l, zs, e, n, g, k⟩ => ⟨l, zs, e, n, by rw [upd_ne n]; exact g, AllK.put ha k⟩) h
/-- [kinds[k] for k in range(len(kinds)) if kinds[k] not in kinds[:k]] -/
theorem lc_ded {K : PySem.W.Frag} {σ : L2.St} {H : Hp} {R : VK} {a : Addr} {xs : List V} {ks : List Kd} (e6 : σ[6]? = some (some (.ref a))) (ha : H a = some (.lst xs)) (hk : AllK H xs ks) (hl : ks.length ≤ 40)
    (w1 : ∀ x, wipe ((wipe σ [12]).set 12 x) [12] = wipe σ [12]) (w2 : ∀ x, ((wipe σ [12]).set 12 (some x))[12]? = some (some x)) (w3 : ∀ x, ((wipe σ [12]).set 12 (some x))[6]? = some (some (.ref a)))
    (q : ∀ H' l zs, Same H H' → H l = none → H' l = some (.lst zs) → AllK H' zs (dedK ks) → R (.ref l) H') :
    tLc (iRng1 (tCons (tCB (fun xs H Q => ∃ p ys, xs = [V.ref p] ∧ (SqL K H p ys ∨ SqT K H p ys) ∧ Q (V.int ys.length) H) (tCons (tVar 6) tNil)) tNil)) (gName 12) (tTest (tOp (rNotInD K) (tOp (rIxL K) (tVar 6) (tVar 12)) (tSl (rSlL K) (tVar 6) tNoPart (tPart (tVar 12))))) (tOp (rIxL K) (tVar 6) (tVar 12)) [12] σ H R := by
  have xl : xs.length = ks.length := AllK.len hk
  refine ⟨_, e6, a, xs, rfl, .inl (SqL.of ha), _, rfl, by omega, by omega, fun D hD => ?_⟩
  rw [Int.toNat_natCast, xl]
  refine lcG (walk_rng ks.length) yat (paired_self (List.range ks.length)) (fun _ H' => Same H H') (same_upd hD) (fun _ H' acc s => same_of_new s hD) (fun _ _ _ _ => trivial) (by rw [List.length_range]; omega) (fun i => decide (ks.getD i (false, false, 0) ∉ ks.take i))
    (fun H' v i => IsK H' v (ks.getD i (false, false, 0))) (fun H' acc acc' v i hDl h => IsK.put hDl h) (fun m x i H' acc R' N hi hx s hD2 k1 k2 => ?_) (fun H1 acc s1 hD1 pr => ?_)
  · subst hx
    have him := List.mem_range.mp (List.mem_of_getElem? hi)
    have hki : ks[i]? = some (ks.getD i (false, false, 0)) := by rw [List.getD_eq_getElem?_getD, List.getElem?_eq_getElem him]; rfl
    obtain ⟨v, hv⟩ : ∃ v, xs[i]? = some v := ⟨_, List.getElem?_eq_getElem (by omega)⟩
    obtain ⟨k', hk', ik⟩ := AllK.get hk hv
    rw [hki] at hk'
    cases hk'
    generalize ks.getD i (false, false, 0) = kd at *
    have ha' := s _ _ ha
    refine ⟨w1 _, ?_⟩
    refine ⟨_, w3 _, _, w2 _, a, _, _, _, rfl, rfl, SqL.of ha', atI_nat hv, ?_⟩
    refine ⟨_, w3 _, _, w2 _, _, rfl, a, xs, rfl, SqL.of ha', fun p hp => ?_⟩
    rw [cut_take]
    have sp := same_upd (o := .lst (xs.take i)) hp
    have gp := upd_same (H := H') (a := p) (o := .lst (xs.take i))
    have sA := s.trans sp
    have hD3 := sp _ _ hD2
    have up : ∀ v u, IsK H' v u → IsK (upd H' p (.lst (xs.take i))) v u := fun v u h => IsK.same sp h
    generalize upd H' p (.lst (xs.take i)) = H2 at gp sA hD3 up
    refine ⟨kdD kd, (ks.take i).map kdD, IsK.dp (IsK.same sA ik), .lst (SqL.of gp) (AllK.dp (AllK.take i (AllK.same sA hk))), kd_shaped _, kds_shapedL _, _, rfl, ?_⟩
    rw [kd_any]
    refine ite2 (fun h => ?_) (fun h => ?_)
    · refine ⟨_, w3 _, _, w2 _, a, _, _, _, rfl, rfl, SqL.of (sA _ _ ha), atI_nat hv, ?_⟩
      exact k1 (by simpa using h) _ _ sA hD3 (fun v u => up v _) (IsK.same sA ik)
    · exact k2 (by simpa using h) _ sA hD3 (fun v u => up v _)
  · exact q _ D acc s1 hD hD1 (paired_map (f := fun i => ks.getD i (false, false, 0)) (fun _ _ h => h) pr)
section
variable {P : Program} {w : World} {K : PySem.W.Frag} {mg : Str → Option Value} {base : Heap}
theorem ok_l_bent (T : Tx P K mg) (B : Bx T base) : FnOk P w K mg base CX0 2 T.a_l_bent T.fd_l_bent ["_law_pen_here", "_law_root", "_law_others"] spBent := by
  refine okT T.F_l_bent sc_l_bent (fun vs H Q E h => ?_) (fun cdv A outer s H vs Q E hcd hr h => ?_)
  · obtain ⟨d, c, n, ra, rb, xs, ys, r1, r2, rfl, _⟩ := h
    rfl
  have hu := hu_of hr
  have hu65 := hu65_of hr
  obtain ⟨d, c, n, ra, rb, xs, ys, r1, r2, rfl, hp, hn, ha, hb, ka, kb, o1, o2, n1, n2, l1, l2, q⟩ := h
  have nad : ra ≠ d := by
    obtain ⟨kvs, hd⟩ := hp.at
    exact ne_of ha hd (by intro z; cases z)
  have nbd : rb ≠ d := by
    obtain ⟨kvs, hd⟩ := hp.at
    exact ne_of hb hd (by intro z; cases z)
  refine ⟨_, (pss_cons (ps_par (i := 3) (j := 4) (by rfl) sc_l_bent.nd rfl rfl (by decide) rfl rfl (pa_cons (pe_call (ok_l_draw (w := w) T B) (hr.mono (by decide)) (by rfl) T.m_l_draw T.F_l_draw.kp T.bi_l_draw .nil pass0 (pa_cons (pv 0) (pa_cons pe_int pa_nil))) (pa_cons (pe_lst (pa_cons (pv 1) (pa_cons (pv 2) pa_nil))) pa_nil)) (by rfl))
 (pss_cons (ps_set (i := 5) sc_l_bent.nd rfl (by first | exact Or.inl rfl | exact Or.inr rfl) (pe_call (ok_l_draw (w := w) T B) (hr.mono (by decide)) (by rfl) T.m_l_draw T.F_l_draw.kp T.bi_l_draw .nil pass0 (pa_cons (pv 0) (pa_cons pe_int pa_nil))))
 (pss_cons (ps_set (i := 6) sc_l_bent.nd rfl (by first | exact Or.inl rfl | exact Or.inr rfl) (pe_ix ix_list (pv 4) (pv 5) (fun _ _ => rfl)))
 (pss_cons (ps_set (i := 7) sc_l_bent.nd rfl (by first | exact Or.inl rfl | exact Or.inr rfl) (pe_call (ok_l_draw (w := w) T B) (hr.mono (by decide)) (by rfl) T.m_l_draw T.F_l_draw.kp T.bi_l_draw .nil pass0 (pa_cons (pv 0) (pa_cons (pe_callB call_len_seq (by rfl) T.b_len (by decide +kernel) (pa_cons (pv 6) pa_nil)) pa_nil))))
 (pss_cons (ps_asg (pe_ix ix_list (pv 6) (pv 7) (fun _ _ => rfl)) (pg_tup rfl (pgs_cons (pg_name (i := 8) sc_l_bent.nd rfl (by first | exact Or.inl rfl | exact Or.inr rfl)) (pgs_cons (pg_name (i := 9) sc_l_bent.nd rfl (by first | exact Or.inl rfl | exact Or.inr rfl)) (pgs_cons (pg_name (i := 10) sc_l_bent.nd rfl (by first | exact Or.inl rfl | exact Or.inr rfl)) pgs_nil)))))
 (pss_cons (ps_if (pt_cmpR op_eq (pv 3) pe_int (nomark _))
 (pss_one (ps_asg (pe_op op_cat (pe_slice sl_list (pv 6) po_none (po_some (pv 7))) (pe_slice sl_list (pv 6) (po_some (pe_op op_add (pv 7) pe_int)) po_none)) (pg_sub (pv 4) (pv 5) set_list)))
 (pss_one (ps_if (pt_cmpR op_eq (pv 3) pe_int (nomark _))
 (pss_one (ps_asg (pe_op op_cat (pv 6) (pe_lst (pa_cons (pe_tup (pa_cons (pv 8) (pa_cons (pe_not (pv 9)) (pa_cons (pv 10) pa_nil)))) pa_nil))) (pg_sub (pv 4) (pv 5) set_list)))
 (pss_one (ps_if (pt_cmpR op_eq (pv 3) pe_int (nomark _))
 (pss_one (ps_asg (pe_op op_cat (pv 2) (pe_lst (pa_cons (pe_tup (pa_cons pe_bl (pa_cons (pv 9) (pa_cons pe_int pa_nil)))) pa_nil))) (pg_sub (pv 4) pe_int set_list)))
 (pss_one (ps_if (pt_cmpR op_eq (pv 3) pe_int (nomark _))
 (pss_one (ps_asg (pe_op op_cat (pe_lst (pa_cons (pe_tup (pa_cons pe_bl (pa_cons pe_bl (pa_cons pe_int pa_nil)))) pa_nil)) (pe_slice sl_list (pv 1) (po_some pe_int) po_none)) (pg_sub (pv 4) pe_int set_list)))
 (pss_one (ps_if (pt_cmpR op_eq (pv 3) pe_int (nomark _))
 (pss_one (ps_asg (pe_op op_cat (pe_op op_cat (pe_slice sl_list (pv 6) po_none (po_some (pv 7))) (pe_lst (pa_cons (pe_tup (pa_cons (pv 8) (pa_cons (pe_not (pv 9)) (pa_cons (pv 10) pa_nil)))) pa_nil))) (pe_slice sl_list (pv 6) (po_some (pe_op op_add (pv 7) pe_int)) po_none)) (pg_sub (pv 4) (pv 5) set_list)))
 (pss_one (ps_asg (pe_op op_cat (pe_op op_cat (pe_slice sl_list (pv 6) po_none (po_some (pv 7))) (pe_lst (pa_cons (pe_tup (pa_cons (pv 8) (pa_cons (pv 9) (pa_cons (pe_op op_mod (pe_callTy call_int1 (by rfl) T.b_int (by decide +kernel) (pa_cons (pe_op op_add (pv 10) pe_int) pa_nil)) pe_int) pa_nil)))) pa_nil))) (pe_slice sl_list (pv 6) (po_some (pe_op op_add (pv 7) pe_int)) po_none)) (pg_sub (pv 4) (pv 5) set_list))))))))))))
 (pss_cons (ps_set (i := 11) sc_l_bent.nd rfl (by first | exact Or.inl rfl | exact Or.inr rfl) (pe_lst pa_nil))
 (pss_cons (ps_for PassesOwn.never rfl (pi_list (pv 4)) (pg_name (i := 6) sc_l_bent.nd rfl (by first | exact Or.inl rfl | exact Or.inr rfl))
 (pss_one (ps_expr (pe_bm PySem.F.plainAttrs_list PySem.F.slot_list_append PySem.F.type_list_append mt_append (pv 11) (pa_cons (pe_lc (own := [("_law_k", 12)]) (g := gName 12) rfl sc_l_bent.nd (pi_range1 (by rfl) T.b_range (pa_cons (pe_callB call_len_seq (by rfl) T.b_len (by decide +kernel) (pa_cons (pv 6) pa_nil)) pa_nil)) (blkOk_by (own := [("_law_k", 12)]) (N := N_l_bent) (sc := defScope s_l_bent) (by decide +kernel)) (fun _ _ _ _ _ => (pg_name (i := 12) sc_l_bent.nd rfl (by first | exact Or.inl rfl | exact Or.inr rfl))) (fun _ _ _ _ _ => (pts_one (pt_cmpR (by exact (op_notInD hu65) : OpR _ (compareOp .NotIn) (rNotInD K)) (pe_ix (by exact ix_list : IxR _ (rIxL K)) (pv 6) (pv 12) (fun _ _ => rfl)) (pe_slice (by exact sl_list : SlR _ (rSlL K)) (pv 6) po_none (po_some (pv 12))) (by rfl)))) (fun _ _ _ _ _ => (pe_ix (by exact ix_list : IxR _ (rIxL K)) (pv 6) (pv 12) (fun _ _ => rfl)))) pa_nil)))))
 (pss_one (ps_ret (pv 11))))))))))), ?_⟩
  refine ⟨_, rfl, d, c, n, 6, rfl, hp, by omega, by decide, by decide, fun H1 way w0 w1 k1 p1 => ?_⟩
  have ha1 := k1 _ _ ha nad
  have hb1 := k1 _ _ hb nbd
  refine ⟨_, rfl, _, rfl, by show 2 ≤ sizeLine; decide, fun sl hsl => ?_⟩
  have s2 := same_upd (o := .lst [V.ref ra, .ref rb]) hsl
  have gsl : (upd H1 sl (.lst [V.ref ra, .ref rb])) sl = some (.lst [V.ref ra, .ref rb]) := upd_same
  have nas : ra ≠ sl := ne_of_none ha1 hsl
  have nbs : rb ≠ sl := ne_of_none hb1 hsl
  have hsl0 : H sl = none := by
    cases e : H sl with
    | none => rfl
    | some u =>
      have := k1 _ _ e (p1.ne_free hsl)
      rw [hsl] at this
      cases this
  have p2 := p1.same s2
  have ha2 := s2 _ _ ha1
  have hb2 := s2 _ _ hb1
  have ka2 := AllK.same s2 (AllK.kpP hp k1 ka)
  have kb2 := AllK.same s2 (AllK.kpP hp k1 kb)
  have k2 := k1.trans (Same.kp s2)
  generalize upd H1 sl (.lst [V.ref ra, .ref rb]) = H2 at gsl p2 ha2 hb2 ka2 kb2 k2
  refine ⟨_, _, rfl, ?_⟩
  dsimp only
  -- the side
  refine ⟨_, rfl, d, c, _, 2, rfl, p2, by omega, by decide, by decide, fun H3 side z0 z1 k3 p3 => ?_⟩
  obtain ⟨sd, rfl⟩ : ∃ j : Nat, side = (j : Int) := ⟨side.toNat, by omega⟩
  have gsl3 := kp_lst p2 k3 gsl
  have ha3 := kp_lst p2 k3 ha2
  have hb3 := kp_lst p2 k3 hb2
  have ka3 := AllK.kpP p2 k3 ka2
  have kb3 := AllK.kpP p2 k3 kb2
  have k3 := k2.trans k3
  dsimp only [gName]
  have hsd : sd < 2 := by omega
  obtain ⟨kl, zs, ks, hkl, hzs, hks, oks, nks, lks⟩ : ∃ kl zs ks, ([V.ref ra, V.ref rb])[sd]? = some (V.ref kl) ∧ H3 kl = some (.lst zs) ∧ AllK H3 zs ks ∧ (∀ k ∈ ks, KOk k) ∧ 0 < ks.length ∧ ks.length ≤ 6 := by
    rcases (show sd = 0 ∨ sd = 1 by omega) with rfl | rfl
    · exact ⟨ra, xs, r1, rfl, ha3, ka3, o1, n1, l1⟩
    · exact ⟨rb, ys, r2, rfl, hb3, kb3, o2, n2, l2⟩
  refine ⟨_, rfl, _, rfl, sl, _, _, _, rfl, rfl, SqL.of gsl3, atI_nat hkl, ?_⟩
  have zl : zs.length = ks.length := AllK.len hks
  refine ⟨_, rfl, _, rfl, kl, zs, rfl, .inl (SqL.of hzs), d, c, _, _, rfl, p3, by omega, by omega, by omega, fun H4 at' a0 a1 k4 p4 => ?_⟩
  obtain ⟨at_, rfl⟩ : ∃ j : Nat, at' = (j : Int) := ⟨at'.toNat, by omega⟩
  have gsl4 := kp_lst p3 k4 gsl3
  have ha4 := kp_lst p3 k4 ha3
  have hb4 := kp_lst p3 k4 hb3
  have hzs4 := kp_lst p3 k4 hzs
  have ka4 := AllK.kpP p3 k4 ka3
  have kb4 := AllK.kpP p3 k4 kb3
  have hks4 := AllK.kpP p3 k4 hks
  have k4 := k3.trans k4
  obtain ⟨u, hu1⟩ : ∃ u, zs[at_]? = some u := ⟨_, List.getElem?_eq_getElem (by omega)⟩
  obtain ⟨kd, hkd, g, rfl, hg⟩ := AllK.get hks4 hu1
  have okd := oks kd (List.mem_of_getElem? hkd)
  refine ⟨_, rfl, _, rfl, kl, _, _, _, rfl, rfl, SqL.of hzs4, atI_nat hu1, ?_⟩
  refine ⟨g, _, rfl, SqT.of hg, rfl, _, _, rfl, _, _, rfl, _, _, rfl, rfl, ?_⟩
  dsimp only [gName]
  refine seqW (fun σ' H' => σ' = [some (.ref d), some (.ref ra), some (.ref rb), some (.int way), some (.ref sl), some (.int (sd : Nat)), some (.ref kl), some (.int (at_ : Nat)), some (.bl kd.1), some (.bl kd.2.1), some (.int kd.2.2), none, none] ∧ Bt d c sl (n + 1 + 1 + 1) H H') (fun N hN => ?_) (fun σ' H5 ⟨e, bt⟩ => ?_)
  · have fin : ∀ {te ti : TE} {D : Ends} {j : Nat} {js : List Kd}, j < 2 → LKn te [some (.ref d), some (.ref ra), some (.ref rb), some (.int way), some (.ref sl), some (.int (sd : Nat)), some (.ref kl), some (.int (at_ : Nat)), some (.bl kd.1), some (.bl kd.2.1), some (.int kd.2.2), none, none] H4 js → (∀ (H : Hp) (R : VK), R (.int (j : Nat)) H → ti [some (.ref d), some (.ref ra), some (.ref rb), some (.int way), some (.ref sl), some (.int (sd : Nat)), some (.ref kl), some (.int (at_ : Nat)), some (.bl kd.1), some (.bl kd.2.1), some (.int kd.2.2), none, none] H R) → (∀ k ∈ js, KOk k) → js.length ≤ 8 → D.nx = N →
        tAsg te (gSub (tVar 4) ti rSetL) D [some (.ref d), some (.ref ra), some (.ref rb), some (.int way), some (.ref sl), some (.int (sd : Nat)), some (.ref kl), some (.int (at_ : Nat)), some (.bl kd.1), some (.bl kd.2.1), some (.int kd.2.2), none, none] H4 := fun hj hl hi ok l8 eD =>
      put_side (K := K) (r1 := r1) (r2 := r2) p4 k4 gsl4 hsl0 ⟨n, hp⟩ ha4 hb4 ka4 kb4 o1 o2 (by omega) (by omega) nas nbs hj rfl hl hi ok l8 fun H' bt => by rw [eD]; exact hN _ _ ⟨rfl, bt⟩
    have lt : (ks.take at_).length ≤ 6 := by rw [List.length_take]; omega
    have ld : (ks.drop (at_ + 1)).length ≤ 6 := by rw [List.length_drop]; omega
    have ltd : (ks.take at_).length + (ks.drop (at_ + 1)).length ≤ 6 := by rw [List.length_take, List.length_drop]; omega
    refine ⟨_, rfl, rfl, _, rfl, ?_⟩
    refine ite2 (fun _ => ?_) (fun _ => ?_)
    · refine fin hsd (lk_cat (lk_take rfl hzs4 hks4 rfl) (lk_drop rfl hzs4 hks4 rfl) (by omega)) (fun H R h => ⟨_, rfl, h⟩) (fun k hk => ?_) (by rw [List.length_append]; omega) rfl
      rcases List.mem_append.mp hk with hk | hk
      · exact oks k (List.mem_of_mem_take hk)
      · exact oks k (List.mem_of_mem_drop hk)
    refine ⟨_, rfl, rfl, _, rfl, ?_⟩
    refine ite2 (fun _ => ?_) (fun _ => ?_)
    · refine fin hsd (lk_cat (lk_var rfl hzs4 hks4) (lk_one (k0 := (kd.1, !kd.2.1, kd.2.2)) (cn_var rfl (cn_e (fun H R h => ⟨_, rfl, _, rfl, h⟩) (cn_var rfl cn_nil)))) (by show _ + 1 ≤ _; omega)) (fun H R h => ⟨_, rfl, h⟩) (fun k hk => ?_) (by rw [List.length_append]; show _ + 1 ≤ _; omega) rfl
      rcases List.mem_append.mp hk with hk | hk
      · exact oks k hk
      · rw [List.mem_singleton.mp hk]; exact okd
    refine ⟨_, rfl, rfl, _, rfl, ?_⟩
    refine ite2 (fun _ => ?_) (fun _ => ?_)
    · refine fin (j := 1) (by decide) (lk_cat (lk_var rfl hb4 kb4) (lk_one (k0 := (false, kd.2.1, 0)) (cn_cons (cn_var rfl (cn_cons cn_nil)))) (by show _ + 1 ≤ _; omega)) (fun H R h => h) (fun k hk => ?_) (by rw [List.length_append]; show _ + 1 ≤ _; omega) rfl
      rcases List.mem_append.mp hk with hk | hk
      · exact o2 k hk
      · rw [List.mem_singleton.mp hk]; exact ⟨by show (0 : Int) ≤ 0; decide, by show (0 : Int) ≤ 2; decide⟩
    refine ⟨_, rfl, rfl, _, rfl, ?_⟩
    refine ite2 (fun _ => ?_) (fun _ => ?_)
    · refine fin (j := 0) (by decide) (lk_cat (lk_one (k0 := (false, true, 0)) (cn_cons (cn_cons (cn_cons cn_nil)))) (lk_tail rfl ha4 ka4) (by rw [List.length_drop]; show 1 + _ ≤ _; omega)) (fun H R h => h) (fun k hk => ?_) (by rw [List.length_append, List.length_drop]; show 1 + _ ≤ _; omega) rfl
      rcases List.mem_append.mp hk with hk | hk
      · rw [List.mem_singleton.mp hk]; exact ⟨by show (0 : Int) ≤ 0; decide, by show (0 : Int) ≤ 2; decide⟩
      · exact o1 k (List.mem_of_mem_drop hk)
    refine ⟨_, rfl, rfl, _, rfl, ?_⟩
    refine ite2 (fun _ => ?_) (fun _ => ?_)
    · exact fin hsd (lk_cat (lk_cat (lk_take rfl hzs4 hks4 rfl) (lk_one (k0 := (kd.1, !kd.2.1, kd.2.2)) (cn_var rfl (cn_e (fun H R h => ⟨_, rfl, _, rfl, h⟩) (cn_var rfl cn_nil)))) (by show _ + 1 ≤ _; omega)).w (lk_drop rfl hzs4 hks4 rfl) (by rw [List.length_append]; show _ + 1 + _ ≤ _; omega)) (fun H R h => ⟨_, rfl, h⟩) (ok_put oks okd) (by rw [List.length_append, List.length_append]; show _ + 1 + _ ≤ _; omega) rfl
    · exact fin hsd (lk_cat (lk_cat (lk_take rfl hzs4 hks4 rfl) (lk_one (k0 := (kd.1, kd.2.1, (kd.2.2 + 1) % 3)) (cn_var rfl (cn_var rfl (cn_e (fun H R h => ⟨_, rfl, _, _, rfl, rfl, .inl ⟨_, rfl, _, _, rfl, rfl, by show (0 : Int) < 3; decide, h⟩⟩) cn_nil)))) (by show _ + 1 ≤ _; omega)).w (lk_drop rfl hzs4 hks4 rfl) (by rw [List.length_append]; show _ + 1 + _ ≤ _; omega)) (fun H R h => ⟨_, rfl, h⟩) (ok_put oks (ok_turn okd _ _)) (by rw [List.length_append, List.length_append]; show _ + 1 + _ ≤ _; omega) rfl
  subst e
  obtain ⟨p5, k5, fa, fb, xs5, ys5, j1, j2, gsl5, ga5, gb5, ka5, kb5, ok1, ok2, m1, m2⟩ := bt
  refine ⟨Nat.zero_le _, fun fo hfo => ?_⟩
  have s6 := same_upd (o := .lst []) hfo
  have gfo : (upd H5 fo (.lst [])) fo = some (.lst []) := upd_same
  have p6 := p5.same s6
  have gsl6 := s6 _ _ gsl5
  have ga6 := s6 _ _ ga5
  have gb6 := s6 _ _ gb5
  have ka6 := AllK.same s6 ka5
  have kb6 := AllK.same s6 kb5
  have k6 := k5.trans (Same.kp s6)
  have hfo0 : H fo = none := by
    cases e : H fo with
    | none => rfl
    | some u =>
      have := k5 _ _ e (p5.ne_free hfo)
      rw [hfo] at this
      cases this
  have naf : fa ≠ fo := ne_of_none ga5 hfo
  have nbf : fb ≠ fo := ne_of_none gb5 hfo
  have nsf : sl ≠ fo := ne_of_none gsl5 hfo
  generalize upd H5 fo (.lst []) = H6 at gfo p6 gsl6 ga6 gb6 ka6 kb6 k6
  have hsides : Paired (LsAt fo H6) [V.ref fa, .ref fb] [j1, j2] := .cons ⟨fa, xs5, rfl, naf, ga6, ka6⟩ (.cons ⟨fb, ys5, rfl, nbf, gb6, kb6⟩ .nil)
  have hlen : ∀ k ∈ [j1, j2], k.length ≤ 8 := fun k hk => by
    simp only [List.mem_cons, List.not_mem_nil, or_false] at hk
    rcases hk with rfl | rfl
    · exact m1
    · exact m2
  dsimp only [gName]
  refine ⟨_, rfl, sl, rfl, ⟨_, SqL.of gsl6⟩, ?_⟩
  refine for_it (walk_list (K := K) (a := sl) (xs := [V.ref fa, .ref fb])) (fun i σ H' => (∃ v6 v12, σ = [some (.ref d), some (.ref ra), some (.ref rb), some (.int way), some (.ref sl), some (.int (sd : Nat)), v6, some (.int (at_ : Nat)), some (.bl kd.1), some (.bl kd.2.1), some (.int kd.2.2), some (.ref fo), v12]) ∧ Kp d H H' ∧ Pen H' d c (n + 1 + 1 + 1) ∧ H' sl = some (.lst [V.ref fa, .ref fb]) ∧
      Paired (LsAt fo H') [V.ref fa, .ref fb] [j1, j2] ∧ ∃ acc, H' fo = some (.lst acc) ∧ Paired (LsAt fo H') acc (([j1, j2].take i).map dedK))
    ⟨⟨_, _, rfl⟩, k6, p6, gsl6, hsides, [], gfo, .nil⟩ (fun i σ H' _ ⟨_, _, _, g, _⟩ => SqL.of g) (fun i u σ H7 H8 hi ⟨⟨v6, v12, e1⟩, k7, p7, gsl7, hsd7, acc, gfo7, hac⟩ yl => ?_) (fun σ H7 ⟨⟨v6, v12, e1⟩, k7, p7, gsl7, hsd7, acc, gfo7, hac⟩ => ?_)
  · obtain ⟨rfl, hu'⟩ := yl
    subst e1
    obtain ⟨ks', hks', l, zs', rfl, nlf, gl, kl'⟩ := paired_ix hsd7 hu'
    have hl8 := hlen ks' (List.mem_of_getElem? hks')
    refine ⟨_, rfl, .inl ⟨rfl, _, SqL.of gfo7⟩, ?_⟩
    refine lc_ded rfl gl kl' (by omega) (fun _ => rfl) (fun _ => rfl) (fun _ => rfl) fun H9 dl dz s9 hdl gdl kdl' => ?_
    have ndf : dl ≠ fo := fun e => by rw [e, gfo7] at hdl; cases hdl
    have gfo9 := s9 _ _ gfo7
    have gsl9 := s9 _ _ gsl7
    have hsd9 := LsAt.same s9 hsd7
    have hac9 := LsAt.same s9 hac
    have acl : acc.length ≤ 2 := by
      have h1 := hac.length
      rw [List.length_map, List.length_take] at h1
      have h2 : [j1, j2].length = 2 := rfl
      omega
    refine ⟨fo, acc, _, rfl, rfl, gfo9, by rw [sizeLine_eq]; omega, ?_⟩
    refine ⟨⟨_, _, rfl⟩, kp_put0 (k7.trans (Same.kp s9)) hfo0, Pen.put hp hfo0 (p7.same s9), by rw [upd_ne nsf]; exact gsl9, LsAt.put gfo9 hsd9, _, upd_same, ?_⟩
    rw [List.take_add_one, hks', List.map_append]
    exact paired_app (LsAt.put gfo9 hac9) (LsAt.put gfo9 (.cons ⟨dl, dz, rfl, ndf, gdl, kdl'⟩ .nil))
  · subst e1
    cases hac with
    | cons h1 t =>
      cases t with
      | cons h2 t =>
        cases t
        obtain ⟨f1, z1, rfl, _, g1, kk1⟩ := h1
        obtain ⟨f2, z2, rfl, _, g2, kk2⟩ := h2
        exact ⟨_, rfl, q _ fo f1 f2 z1 z2 _ _ (dedK_kl ok1 m1) (dedK_kl ok2 m2) gfo7 g1 g2 kk1 kk2 k7 (p7.mono (by omega))⟩
end
end Toy
set_option Elab.async false
set_option linter.all false
set_option maxRecDepth 100000
set_option maxHeartbeats 4000000
namespace Toy
open PySem L2 Sh ShL LamX NdefX
theorem list_nil (ds : List PyData) : PyData.eqv (.list ds) (.list []) = decide (ds.length = 0) := by
  cases ds <;> simp [PyData.eqv, PyData.eqvAll]
/-- items as the law draws them -/
structure Its (z : Wd) (its : List It2) : Prop where
  nd : (its.map (·.1)).Nodup
  l5 : ∀ it ∈ its, it.1.length ≤ 5
  ok : ∀ it ∈ its, ItOk z it
def spItemsD : Sp := fun vs H Q _ => ∃ (d c : Addr) (n : Nat) (z : Wd), vs = [.ref d, .str (sw z), .int 6, .int 5] ∧ Pen H d c n ∧ n ≤ 50000 ∧ LetOk z ∧ ∀ H' a xs its, Its z its → its.length ≤ 6 → H' a = some (.lst xs) → Paired (ItT H') xs its → Kp d H H' → Pen H' d c (n + 70) → Q (.ref a) H'
theorem ItT.kpP {H H' : Hp} {d c : Addr} {n : Nat} {vs : List V} {its : List It2} (p : Pen H d c n) (s : Kp d H H') (h : Paired (ItT H) vs its) : Paired (ItT H') vs its := paired_mono (fun _ _ ⟨a, e, h⟩ => ⟨a, e, kp_tup p s h⟩) h
theorem ItT.put {H : Hp} {a : Addr} {xs ys vs : List V} {its : List It2} (ha : H a = some (.lst xs)) (h : Paired (ItT H) vs its) : Paired (ItT (upd H a (.lst ys))) vs its := paired_mono (fun _ _ ⟨b, e, h⟩ => ⟨b, e, by rw [upd_ne (ne_of h ha (by intro z; cases z))]; exact h⟩) h
theorem its_low {z : Wd} {its : List It2} (lz : LetOk z) (h : ∀ it ∈ its, ItOk z it) : ∀ it ∈ its, ∀ c ∈ it.1, c < 200 := fun it hit c hc => small_lt (lz.sm c ((h it hit).2.1 c hc))
section
variable {P : Program} {w : World} {K : PySem.W.Frag} {mg : Str → Option Value} {base : Heap}
theorem ok_l_items (T : Tx P K mg) (B : Bx T base) : FnOk P w K mg base CX0 3 T.a_l_items T.fd_l_items ["_law_pen_here", "_law_letters_here", "_law_many", "_law_longest"] spItemsD := by
  refine okT T.F_l_items sc_l_items (fun vs H Q E h => ?_) (fun cdv A outer s H vs Q E hcd hr h => ?_)
  · obtain ⟨d, c, n, z, rfl, _⟩ := h
    rfl
  have hu := hu_of hr
  have hu65 := hu65_of hr
  obtain ⟨d, c, n, z, rfl, hp, hn, lz, q⟩ := h
  have z2 := lz.l2
  have z26 := lz.l26
  refine ⟨_, (pss_cons (ps_set (i := 4) sc_l_items.nd rfl (by first | exact Or.inl rfl | exact Or.inr rfl) (pe_lst pa_nil))
 (pss_cons (ps_for PassesOwn.never rfl (pi_range1 (by rfl) T.b_range (pa_cons (pe_call (ok_l_draw (w := w) T B) (hr.mono (by decide)) (by rfl) T.m_l_draw T.F_l_draw.kp T.bi_l_draw .nil pass0 (pa_cons (pv 0) (pa_cons (pe_op op_add (pv 2) pe_int) pa_nil))) pa_nil)) (pg_name (i := 5) sc_l_items.nd rfl (by first | exact Or.inl rfl | exact Or.inr rfl))
 (pss_cons (ps_set (i := 6) sc_l_items.nd rfl (by first | exact Or.inl rfl | exact Or.inr rfl) (pe_ifExp (PW.pt (pw_or (pt_cmpR (op_eqD hr.units) (pv 4) (pe_lst pa_nil) (nomark _)) (pw_or1 (pt_cmpR op_eq (pe_call (ok_l_draw (w := w) T B) (hr.mono (by decide)) (by rfl) T.m_l_draw T.F_l_draw.kp T.bi_l_draw .nil pass0 (pa_cons (pv 0) (pa_cons pe_int pa_nil))) pe_int (nomark _))))) pe_str (pe_ix ix_tup (pe_call (ok_l_pick (w := w) T B) (hr.mono (by decide)) (by rfl) T.m_l_pick T.F_l_pick.kp T.bi_l_pick .nil pass0 (pa_cons (pv 0) (pa_cons (pv 4) pa_nil))) pe_int (fun _ _ => rfl))))
 (pss_cons (ps_set (i := 7) sc_l_items.nd rfl (by first | exact Or.inl rfl | exact Or.inr rfl) (pe_slice sl_str (pv 6) po_none (po_some (pe_call (ok_l_draw (w := w) T B) (hr.mono (by decide)) (by rfl) T.m_l_draw T.F_l_draw.kp T.bi_l_draw .nil pass0 (pa_cons (pv 0) (pa_cons (pv 3) pa_nil))))))
 (pss_cons (ps_for PassesOwn.never rfl (pi_range1 (by rfl) T.b_range (pa_cons (pe_call (ok_l_draw (w := w) T B) (hr.mono (by decide)) (by rfl) T.m_l_draw T.F_l_draw.kp T.bi_l_draw .nil pass0 (pa_cons (pv 0) (pa_cons (pe_op op_sub (pe_op op_add (pv 3) pe_int) (pe_callB call_len_str (by rfl) T.b_len (by decide +kernel) (pa_cons (pv 7) pa_nil))) pa_nil))) pa_nil)) (pg_name (i := 8) sc_l_items.nd rfl (by first | exact Or.inl rfl | exact Or.inr rfl))
 (pss_one (ps_set (i := 7) sc_l_items.nd rfl (by first | exact Or.inl rfl | exact Or.inr rfl) (pe_op op_add_str (pv 7) (pe_call (ok_l_pick (w := w) T B) (hr.mono (by decide)) (by rfl) T.m_l_pick T.F_l_pick.kp T.bi_l_pick .nil pass0 (pa_cons (pv 0) (pa_cons (pv 1) pa_nil)))))))
 (pss_one (ps_if (pt_cmpR op_notIn_seq (pv 7) (pe_lc (own := [("_law_other", 9), ("_law_value", 10)]) (g := gTup K 2 (gCons (gName 9) (gCons (gName 10) gNil))) rfl sc_l_items.nd (pi_list (pv 4)) (blkOk_by (own := [("_law_other", 9), ("_law_value", 10)]) (N := N_l_items) (sc := defScope s_l_items) (by decide +kernel)) (fun _ _ _ _ _ => (pg_tup rfl (pgs_cons (pg_name (i := 9) sc_l_items.nd rfl (by first | exact Or.inl rfl | exact Or.inr rfl)) (pgs_cons (pg_name (i := 10) sc_l_items.nd rfl (by first | exact Or.inl rfl | exact Or.inr rfl)) pgs_nil)))) (fun _ _ _ _ _ => pts_nil) (fun _ _ _ _ _ => (pv 9))) (by rfl))
 (pss_one (ps_expr (pe_bm PySem.F.plainAttrs_list PySem.F.slot_list_append PySem.F.type_list_append mt_append (pv 4) (pa_cons (pe_tup (pa_cons (pv 7) (pa_cons (pe_op op_add pe_int (pe_call (ok_l_draw (w := w) T B) (hr.mono (by decide)) (by rfl) T.m_l_draw T.F_l_draw.kp T.bi_l_draw .nil pass0 (pa_cons (pv 0) (pa_cons pe_int pa_nil)))) pa_nil))) pa_nil))))
 pss_nil))))))
 (pss_one (ps_ret (pv 4))))), ?_⟩
  refine ⟨Nat.zero_le _, fun fo hfo => ?_⟩
  have nfd := hp.ne_free hfo
  have s1 := same_upd (o := .lst []) hfo
  have p1 := hp.same s1
  have g1 : (upd H fo (.lst [])) fo = some (.lst []) := upd_same
  have k1 : Kp d H (upd H fo (.lst [])) := Same.kp s1
  generalize upd H fo (.lst []) = H1 at p1 g1 k1
  dsimp only [gName]
  refine ⟨_, rfl, _, rfl, _, _, rfl, rfl, d, c, n, _, rfl, p1, by omega, by decide, by decide, fun H2 r r0 r1 k2 p2 => ⟨r, rfl, by omega, by omega, ?_⟩⟩
  obtain ⟨m, rfl⟩ : ∃ j : Nat, r = (j : Int) := ⟨r.toNat, by omega⟩
  rw [Int.toNat_natCast]
  have g2 := kp_lst p1 k2 g1
  have k2 := k1.trans k2
  refine for_range (fun i σ H' => ∃ v5 v6 v7 v8 v9 v10, σ = [some (.ref d), some (.str (sw z)), some (.int 6), some (.int 5), some (.ref fo), v5, v6, v7, v8, v9, v10] ∧ Kp d H H' ∧ Pen H' d c (n + 1 + 10 * i) ∧ ∃ xs its, H' fo = some (.lst xs) ∧ Paired (ItT H') xs its ∧ Its z its ∧ its.length ≤ i)
    ⟨_, _, _, _, _, _, rfl, k2, p2, [], [], g2, .nil, ⟨List.nodup_nil, (fun _ h => by cases h), (fun _ h => by cases h)⟩, Nat.le_refl _⟩ (fun i σ H3 hi ⟨v5, v6, v7, v8, v9, v10, e, k3, p3, xs, its, g3, pr3, ok, il⟩ => ?_) (fun σ H3 ⟨v5, v6, v7, v8, v9, v10, e, k3, p3, xs, its, g3, pr3, ok, il⟩ => ?_)
  · subst e
    have hi6 : i < 6 := by omega
    have xl : xs.length = its.length := pr3.length
    -- the stem
    refine asgS (fun v H4 => ∃ p : Wd, v = .str (sw p) ∧ p.length ≤ 5 ∧ (∀ c ∈ p, c ∈ z) ∧ Kp d H H4 ∧ Pen H4 d c (n + 1 + 10 * i + 2) ∧ H4 fo = some (.lst xs) ∧ Paired (ItT H4) xs its) (fun R hR => ?_) (fun v H4 ⟨p, ev, pl, pz, k4, p4, g4, pr4⟩ => ?_)
    · refine ⟨_, rfl, Nat.zero_le _, fun e0 he0 => ?_⟩
      have s4 := same_upd (o := .lst []) he0
      have ge : (upd H3 e0 (.lst [])) e0 = some (.lst []) := upd_same
      have g4 := s4 _ _ g3
      have pr4 := paired_mono (fun _ _ h => ItT.same s4 h) pr3
      have p4 := p3.same s4
      have k4 := k3.trans (Same.kp s4)
      generalize upd H3 e0 (.lst []) = H4 at ge g4 pr4 p4 k4
      refine ⟨.list (its.map itD), .list [], .lst (SqL.of g4) (its_dp pr4), .lst (SqL.of ge) .nil, its_shaped (its_low lz ok.ok), by decide +kernel, _, rfl, ?_⟩
      rw [list_nil, List.length_map]
      refine ite2 (fun h => ?_) (fun h => ?_)
      · exact hR _ _ ⟨[], mt_eq ▸ rfl, by decide, (fun c h => by cases h), k4, p4.mono (by omega), g4, pr4⟩
      have hne : its.length ≠ 0 := fun e => h (decide_eq_true e)
      refine ⟨_, rfl, d, c, _, 3, rfl, p4, by omega, by decide, by decide, fun H5 r5 r50 r51 k5 p5 => ⟨rfl, _, rfl, ?_⟩⟩
      have g5 := kp_lst p4 k5 g4
      have pr5 := ItT.kpP p4 k5 pr4
      have k5 := k4.trans k5
      refine ite2 (fun _ => ?_) (fun _ => ?_)
      · exact hR _ _ ⟨[], mt_eq ▸ rfl, by decide, (fun c h => by cases h), k5, p5.mono (by omega), g5, pr5⟩
      refine ⟨_, rfl, _, rfl, .inl ⟨d, c, fo, _, xs, rfl, p5, by omega, SqL.of g5, by omega, by omega, nfd, fun H6 x hx k6 p6 => ?_⟩⟩
      have g6 := kp_lst p5 k6 g5
      have pr6 := ItT.kpP p5 k6 pr5
      obtain ⟨it, hit, a, rfl, ha⟩ : ∃ it ∈ its, ItT H6 x it := by
        obtain ⟨j, hj⟩ := List.getElem?_of_mem hx
        obtain ⟨it, h1, h2⟩ := paired_ix pr6 hj
        exact ⟨it, List.mem_of_getElem? h1, h2⟩
      exact ⟨a, _, _, _, rfl, rfl, SqT.of ha, atI_nat (j := 0) rfl, hR _ _ ⟨it.1, rfl, ok.l5 it hit, (ok.ok it hit).2.1, k5.trans k6, p6.mono (by omega), g6, pr6⟩⟩
    subst ev
    dsimp only [gName]
    -- its beginning
    refine ⟨_, rfl, _, rfl, _, rfl, d, c, _, 5, rfl, p4, by omega, by decide, by decide, fun H5 r5 r50 r51 k5 p5 => ⟨r5, rfl, _, rfl, by rw [sw_len, sizeLine_eq]; omega, ?_⟩⟩
    obtain ⟨m5, rfl⟩ : ∃ j : Nat, r5 = (j : Int) := ⟨r5.toNat, by omega⟩
    rw [cut_to]
    have g5 := kp_lst p4 k5 g4
    have pr5 := ItT.kpP p4 k5 pr4
    have k5 := k4.trans k5
    have wl : (p.take m5).length ≤ 4 := by rw [List.length_take]; omega
    have wz : ∀ c ∈ p.take m5, c ∈ z := fun c hc => pz c (List.mem_of_mem_take hc)
    generalize p.take m5 = w5 at wl wz
    dsimp only [gName]
    -- letters more
    refine ⟨_, rfl, _, rfl, _, _, rfl, rfl, _, rfl, sw w5, rfl, by rw [sw_len, sizeLine_eq]; omega, _, _, rfl, rfl, d, c, _, _, rfl, p5, by omega, by rw [sw_len]; omega, by rw [sw_len]; omega, fun H6 r6 r60 r61 k6 p6 => ?_⟩
    rw [sw_len] at r61
    obtain ⟨m6, rfl⟩ : ∃ j : Nat, r6 = (j : Int) := ⟨r6.toNat, by omega⟩
    refine ⟨_, rfl, by omega, by omega, ?_⟩
    rw [Int.toNat_natCast]
    have g6 := kp_lst p5 k6 g5
    have pr6 := ItT.kpP p5 k6 pr5
    have k6 := k5.trans k6
    refine for_range (fun j σ H' => ∃ v8 w', σ = [some (.ref d), some (.str (sw z)), some (.int 6), some (.int 5), some (.ref fo), some (.int (0 + (i : Int))), some (.str (sw p)), some (.str (sw w')), v8, v9, v10] ∧ w'.length = w5.length + j ∧ (∀ c ∈ w', c ∈ z) ∧ Kp d H H' ∧ Pen H' d c (n + 1 + 10 * i + 2 + 1 + 1 + j) ∧ H' fo = some (.lst xs) ∧ Paired (ItT H') xs its)
      ⟨_, w5, rfl, rfl, wz, k6, p6, g6, pr6⟩ (fun j σ H7 hj ⟨v8, w', e, wl', wz', k7, p7, g7, pr7⟩ => ?_) (fun σ H7 ⟨v8, w', e, wl', wz', k7, p7, g7, pr7⟩ => ?_)
    · subst e
      refine ⟨_, rfl, _, rfl, _, rfl, .inr ⟨d, c, _, sw z, rfl, p7, by omega, by rw [sw_len]; omega, by rw [sw_len]; omega, fun H8 y hy k8 p8 => ?_⟩⟩
      have hyz : y ∈ z := hy
      refine ⟨_, _, rfl, rfl, by rw [sw_len, sizeLine_eq]; show _ + 1 ≤ _; omega, ?_⟩
      rw [sw_one, sw_app]
      refine ⟨_, w' ++ [y], rfl, by rw [List.length_append, wl']; rfl, fun c hc => ?_, k7.trans k8, p8, kp_lst p7 k8 g7, ItT.kpP p7 k8 pr7⟩
      rcases List.mem_append.mp hc with hc | hc
      · exact wz' c hc
      · rw [List.mem_singleton.mp hc]; exact hyz
    subst e
    have w5l : w'.length ≤ 5 := by omega
    dsimp only
    -- kept, if it is new
    refine ⟨_, rfl, _, rfl, fo, rfl, ⟨_, SqL.of g7⟩, fun D hD => ?_⟩
    refine lcF (walk_list (K := K) (a := fo) (xs := xs)) yat pr7 hD (fun H' s => SqL.of (s _ _ g7)) (by omega) (fun _ => true) (fun it => .str (sw it.1)) (fun x it H' R N hit hx s k1' _ => ?_) (fun H8 s8 hD8 => ?_)
    · obtain ⟨b, rfl, hb⟩ := ItT.same s hx
      exact ⟨b, _, rfl, SqT.of hb, rfl, _, _, rfl, _, _, rfl, rfl, rfl, yes_ite ⟨_, rfl, k1' rfl⟩⟩
    rw [filter_tt] at hD8
    have hws : its.map (fun it => V.str (sw it.1)) = wsV (its.map (·.1)) := by unfold wsV; rw [List.map_map]; rfl
    rw [hws] at hD8
    have g8 := s8 _ _ g7
    have pr8 := paired_mono (fun _ _ h => ItT.same s8 h) pr7
    have p8 := p7.same s8
    have k8 := k7.trans (Same.kp s8)
    refine ⟨D, _, rfl, .inl (SqL.of hD8), rfl, wsV_flat _, _, rfl, ?_⟩
    rw [wsV_in]
    refine ite2 (fun h => ?_) (fun h => ?_)
    · have hn' : w' ∉ its.map (·.1) := by simpa using h
      refine ⟨_, rfl, .inl ⟨rfl, _, SqL.of g8⟩, _, rfl, _, rfl, d, c, _, 9, rfl, p8, by omega, by decide, by decide, fun H9 r9 r90 r91 k9 p9 => ⟨1, r9, rfl, rfl, by show 2 ≤ sizeLine; decide, fun t ht => ?_⟩⟩
      have g9 := kp_lst p8 k9 g8
      have pr9 := ItT.kpP p8 k9 pr8
      have k9 := k8.trans k9
      have s10 := same_upd (o := .tup [V.str (sw w'), .int (1 + r9)]) ht
      have gt : ItT (upd H9 t (.tup [V.str (sw w'), .int (1 + r9)])) (.ref t) (w', 1 + r9) := ⟨t, rfl, upd_same⟩
      have g10 := s10 _ _ g9
      have pr10 := paired_mono (fun _ _ h => ItT.same s10 h) pr9
      have p10 := p9.same s10
      have k10 := k9.trans (Same.kp s10)
      generalize upd H9 t (.tup [V.str (sw w'), .int (1 + r9)]) = H10 at gt g10 pr10 p10 k10
      refine ⟨fo, xs, _, rfl, rfl, g10, by rw [sizeLine_eq]; omega, ?_⟩
      have itok : ItOk z (w', 1 + r9) := ⟨by show w'.length ≤ 200; omega, wz', by show 1 ≤ 1 + r9; omega, by show 1 + r9 ≤ 9; omega⟩
      refine ⟨_, _, _, _, _, _, rfl, kp_put0 k10 hfo, (Pen.put hp hfo p10).mono (by omega), _, its ++ [(w', 1 + r9)], upd_same, ItT.put g10 (paired_app pr10 (.cons gt .nil)), ⟨?_, fun it hit => ?_, fun it hit => ?_⟩, by rw [List.length_append]; show _ + 1 ≤ _; omega⟩
      · rw [List.map_append]
        refine List.nodup_append.mpr ⟨ok.nd, by simp, fun a ha b hb e => ?_⟩
        rw [List.mem_singleton.mp hb] at e
        exact hn' (by rw [← show a = w' from e]; exact ha)
      · rcases List.mem_append.mp hit with h | h
        · exact ok.l5 it h
        · rw [List.mem_singleton.mp h]; exact w5l
      · rcases List.mem_append.mp hit with h | h
        · exact ok.ok it h
        · rw [List.mem_singleton.mp h]; exact itok
    · exact ⟨_, _, _, _, _, _, rfl, k8, p8.mono (by omega), xs, its, g8, pr8, ok, by omega⟩
  · subst e
    exact ⟨_, rfl, q _ fo xs its ok (by omega) g3 pr3 k3 (p3.mono (by omega))⟩
end
end Toy
set_option Elab.async false
set_option linter.all false
set_option maxRecDepth 100000
set_option maxHeartbeats 4000000
namespace Toy
open PySem L2 Sh ShL LamX NdefX
theorem KeyAt.sm {T : List (Addr × Str)} {K : PySem.W.Frag} {H H' : Hp} {k : NestedKey} {b : Addr} (s : Sm T H H') (h : KeyAt K H k b) : KeyAt K H' k b := h.mono fun c u r => by
  rcases r with r | ⟨o, r⟩
  · exact .inl (s.get r)
  · exact .inr ⟨o, s.get r⟩
theorem DN.sm {P : Program} {w : World} {T : List (Addr × Str)} {K : PySem.W.Frag} {H H' : Hp} {a : Addr} {kvs : List (NestedKey × V)} (s : Sm T H H') (h : DN P w K H a kvs) : DN P w K H' a kvs := by
  obtain ⟨xs, h1, h2, h3⟩ := h
  exact ⟨xs, s.get h1 (by intro ps z; unfold DNo at z; cases z), h2, fun x hx => KeyAt.sm s (h3 x hx)⟩
/-- the row of a place -/
def mkR (z : Wd) (r1 r2 : List Kd) (bs : List Wd) (its : List It2) (p : Wd) : Rw := (p, its.lookup p, flg r1 r2 (decide (p = [])) ((its.lookup p).isSome, min 2 ((kids z bs p).length : Int)))
def rowsD (z : Wd) (r1 r2 : List Kd) (its : List It2) : List Rw := (ordW z (begs (its.map (·.1)))).map (mkR z r1 r2 (begs (its.map (·.1))) its)
theorem lookup_filter {its : List It2} (nd : (its.map (·.1)).Nodup) (p : Wd) : (its.filter fun it => decide (it.1 = p)) = match its.lookup p with
    | some v => [(p, v)]
    | none => [] := by
  induction its with
  | nil => rfl
  | cons it its ih =>
    obtain ⟨q, n⟩ := it
    rw [List.map_cons, List.nodup_cons] at nd
    rw [List.filter_cons, List.lookup_cons]
    by_cases h : q = p
    · subst h
      rw [if_pos (by simp), show (q == q) = true by simp, ih nd.2]
      have : its.lookup q = none := by
        cases e : its.lookup q with
        | none => rfl
        | some v => exact absurd (List.mem_map.mpr ⟨_, lookup_mem e, rfl⟩) nd.1
      rw [this]
    · rw [if_neg (by simpa using h), show (p == q) = false from beq_eq_false_iff_ne.mpr (fun e => h e.symm)]
      exact ih nd.2
theorem shape_in (b : Bool) (m : Nat) : (b, min 2 (m : Int)) ∈ shapes := by
  have : min 2 (m : Int) = 0 ∨ min 2 (m : Int) = 1 ∨ min 2 (m : Int) = 2 := by omega
  rcases this with e | e | e <;> rw [e] <;> cases b <;> decide
theorem begs5 : ∀ {ws : List Wd} {fs : List Wd}, (∀ w ∈ ws, w.length ≤ 5) → (ws.foldl (fun fs p => addW fs p p.length) fs).length ≤ fs.length + 5 * ws.length
  | [], fs, _ => by simp
  | w :: ws, fs, h => by
    rw [List.foldl_cons]
    have h1 := begs5 (ws := ws) (fs := addW fs w w.length) fun x hx => h x (List.mem_cons_of_mem _ hx)
    have h2 := addW_len (p := w) (n := w.length) (fs := fs)
    have h3 := h w List.mem_cons_self
    rw [List.length_cons]
    omega
def valsO : Option Int → List V
  | some v => [.int v]
  | none => []
def valsD : Option Int → List PyData
  | some v => [.int v]
  | none => []
theorem valsO_dp {K : PySem.W.Frag} {H : Hp} (o : Option Int) : DpAll K H (valsO o) (valsD o) := by
  cases o with
  | none => exact .nil
  | some v => exact .cons (.int _) .nil
theorem valsD_shaped (o : Option Int) : SeqAt.shaped (.list (valsD o)) = true := by
  cases o with
  | none => decide +kernel
  | some v =>
    show ((PyData.list [.int v]).canLay0 && decide ((PyData.list [.int v]).depth ≤ 64)) = true
    rw [Bool.and_eq_true]
    exact ⟨by simp [PyData.canLay0, PyData.canLayAll0], decide_eq_true (by simp [PyData.depth, PyData.depthAll])⟩
theorem valsD_nil (o : Option Int) : (!PyData.eqv (.list (valsD o)) (.list [])) = o.isSome := by
  rw [list_nil]
  cases o <;> rfl
/-- values != [] -/
theorem vals_ne {K : PySem.W.Frag} {σ : L2.St} {H : Hp} {R : VK} {j : Nat} {D : Addr} {o : Option Int} (e : σ[j]? = some (some (.ref D))) (hD : H D = some (.lst (valsO o))) (q : ∀ H', Same H H' → R (.bl o.isSome) H') : tOp (rNeD K) (tVar j) (tLst tNil) σ H R := by
  refine ⟨_, e, Nat.zero_le _, fun e0 he0 => ?_⟩
  have s1 := same_upd (o := .lst []) he0
  have g1 : (upd H e0 (.lst [])) e0 = some (.lst []) := upd_same
  have hD1 := s1 _ _ hD
  generalize upd H e0 (.lst []) = H1 at s1 g1 hD1
  refine ⟨.list (valsD o), .list [], .lst (SqL.of hD1) (valsO_dp o), .lst (SqL.of g1) .nil, valsD_shaped o, by decide +kernel, ?_⟩
  rw [valsD_nil]
  exact q _ s1
def spRowsDue (P : Program) (w : World) (K : PySem.W.Frag) (T : List (Addr × Str)) : Sp := fun vs H Q _ => ∃ (z : Wd) (a d : Addr) (xs : List V) (its : List It2) (r1 r2 : List Kd), vs = [.str (sw z), .ref a, .ref d] ∧ LetOk z ∧ H a = some (.lst xs) ∧ Paired (ItT H) xs its ∧ Its z its ∧ its.length ≤ 6 ∧ DN P w K H d (flD r1 r2) ∧ Ex r1 r2 ∧ Tabs T H ∧
  ∀ H' b vs, Sm T H H' → H' b = some (.lst vs) → Paired (RwT H') vs (rowsD z r1 r2 its) → Q (.ref b) H'
section
variable {P : Program} {w : World} {K : PySem.W.Frag} {mg : Str → Option Value} {base : Heap}
theorem ok_l_rows_due (T : Tx P K mg) (B : Bx T base) : FnOk P w K mg base CX0 5 T.a_l_rows_due T.fd_l_rows_due ["_law_letters_here", "_law_items_here", "_law_flags"] (spRowsDue P w K (tabs T)) := by
  refine okT T.F_l_rows_due sc_l_rows_due (fun vs H Q E h => ?_) (fun cdv A outer s H vs Q E hcd hr h => ?_)
  · obtain ⟨z, a, d, xs, its, r1, r2, rfl, _⟩ := h
    rfl
  have hu := hu_of hr
  have hu65 := hu65_of hr
  obtain ⟨z, a, d, xs, its, r1, r2, rfl, lz, ha, pr, ok, il, hd, ex, tb, q⟩ := h
  have z26 := lz.l26
  have xl : xs.length = its.length := pr.length
  have w5 : ∀ w ∈ its.map (·.1), w.length ≤ 5 := fun w hw => by
    obtain ⟨it, hit, rfl⟩ := List.mem_map.mp hw
    exact ok.l5 it hit
  have wz : ∀ w ∈ its.map (·.1), ∀ c ∈ w, c ∈ z := fun w hw => by
    obtain ⟨it, hit, rfl⟩ := List.mem_map.mp hw
    exact (ok.ok it hit).2.1
  refine ⟨_, (pss_cons (ps_set (i := 3) sc_l_rows_due.nd rfl (by first | exact Or.inl rfl | exact Or.inr rfl) (pe_lst (pa_cons pe_str pa_nil)))
 (pss_cons (ps_for PassesOwn.never rfl (pi_list (pv 1)) (pg_tup rfl (pgs_cons (pg_name (i := 4) sc_l_rows_due.nd rfl (by first | exact Or.inl rfl | exact Or.inr rfl)) (pgs_cons (pg_name (i := 5) sc_l_rows_due.nd rfl (by first | exact Or.inl rfl | exact Or.inr rfl)) pgs_nil)))
 (pss_one (ps_for PassesOwn.never rfl (pi_range1 (by rfl) T.b_range (pa_cons (pe_callB call_len_str (by rfl) T.b_len (by decide +kernel) (pa_cons (pv 4) pa_nil)) pa_nil)) (pg_name (i := 6) sc_l_rows_due.nd rfl (by first | exact Or.inl rfl | exact Or.inr rfl))
 (pss_cons (ps_if (pt_cmpR op_in_seq (pe_slice sl_str (pv 4) po_none (po_some (pe_op op_sub (pe_callB call_len_str (by rfl) T.b_len (by decide +kernel) (pa_cons (pv 4) pa_nil)) (pv 6)))) (pv 3) (by rfl))
 (pss_one ps_break)
 pss_nil)
 (pss_one (ps_expr (pe_bm PySem.F.plainAttrs_list PySem.F.slot_list_append PySem.F.type_list_append mt_append (pv 3) (pa_cons (pe_slice sl_str (pv 4) po_none (po_some (pe_op op_sub (pe_callB call_len_str (by rfl) T.b_len (by decide +kernel) (pa_cons (pv 4) pa_nil)) (pv 6)))) pa_nil))))))))
 (pss_cons (ps_set (i := 7) sc_l_rows_due.nd rfl (by first | exact Or.inl rfl | exact Or.inr rfl) (pe_lst pa_nil))
 (pss_cons (ps_for PassesOwn.never rfl (pi_list (pe_call (ok_l_ordered (w := w) T B) (hr.mono (by decide)) (by rfl) T.m_l_ordered T.F_l_ordered.kp T.bi_l_ordered .nil pass0 (pa_cons (pv 0) (pa_cons (pv 3) pa_nil)))) (pg_name (i := 8) sc_l_rows_due.nd rfl (by first | exact Or.inl rfl | exact Or.inr rfl))
 (pss_cons (ps_setLc (i := 9) (own := [("_law_word", 4), ("_law_value", 5)]) (g := gTup K 2 (gCons (gName 4) (gCons (gName 5) gNil))) rfl sc_l_rows_due.nd rfl rfl (sw_true rfl rfl rfl (by decide +kernel)) (pi_list (pv 1)) (blkOk_by (own := [("_law_word", 4), ("_law_value", 5)]) (N := N_l_rows_due) (sc := defScope s_l_rows_due) (by decide +kernel)) (fun _ _ _ _ _ => (pg_tup rfl (pgs_cons (pg_name (i := 4) sc_l_rows_due.nd rfl (by first | exact Or.inl rfl | exact Or.inr rfl)) (pgs_cons (pg_name (i := 5) sc_l_rows_due.nd rfl (by first | exact Or.inl rfl | exact Or.inr rfl)) pgs_nil)))) (fun _ _ _ _ _ => (pts_one (pt_cmpR op_eq (pv 4) (pv 8) (nomark _)))) (fun _ _ _ _ _ => (pv 5)))
 (pss_cons (ps_set (i := 10) sc_l_rows_due.nd rfl (by first | exact Or.inl rfl | exact Or.inr rfl) (pe_callB call_len_seq (by rfl) T.b_len (by decide +kernel) (pa_cons (pe_lc (own := [("_law_letter", 12)]) (g := gName 12) rfl sc_l_rows_due.nd (pi_str (pv 0)) (blkOk_by (own := [("_law_letter", 12)]) (N := N_l_rows_due) (sc := defScope s_l_rows_due) (by decide +kernel)) (fun _ _ _ _ _ => (pg_name (i := 12) sc_l_rows_due.nd rfl (by first | exact Or.inl rfl | exact Or.inr rfl))) (fun _ _ _ _ _ => (pts_one (pt_cmpR (by exact op_in_seq : OpR _ (compareOp .In) (rIn K false)) (pe_op op_add_str (pv 8) (pv 12)) (pv 3) (by rfl)))) (fun _ _ _ _ _ => (pv 12))) pa_nil)))
 (pss_cons (ps_set (i := 11) sc_l_rows_due.nd rfl (by first | exact Or.inl rfl | exact Or.inr rfl) (pe_tup (pa_cons (pe_cmpR op_eq (pv 8) pe_str (nomark _)) (pa_cons (pe_cmpR (op_neD hr.units) (pv 9) (pe_lst pa_nil) (nomark _)) (pa_cons (pe_callB (call_min2 rfl) (by rfl) T.b_min (by decide +kernel) (pa_cons pe_int (pa_cons (pv 10) pa_nil))) pa_nil)))))
 (pss_one (ps_expr (pe_bm PySem.F.plainAttrs_list PySem.F.slot_list_append PySem.F.type_list_append mt_append (pv 7) (pa_cons (pe_tup (pa_cons (pv 8) (pa_cons (pe_ifExp (pt_cmpR (op_neD hr.units) (pv 9) (pe_lst pa_nil) (nomark _)) (pe_ix ix_list (pv 9) pe_int (fun _ _ => rfl)) pe_non) (pa_cons (pe_dgetR hu65 (pv 2) (pv 11) (fun _ _ => rfl)) pa_nil)))) pa_nil))))))))
 (pss_one (ps_ret (pv 7))))))), ?_⟩
  -- the places
  refine ⟨by show 1 ≤ sizeLine; decide, fun th hth => ?_⟩
  have s1 := same_upd (o := .lst [V.str ("" : Str)]) hth
  have g1 : (upd H th (.lst [V.str ("" : Str)])) th = some (.lst (wsV [[]])) := by rw [upd_same, mt_eq]; rfl
  generalize upd H th (.lst [V.str ("" : Str)]) = H1 at s1 g1
  dsimp only [gName]
  refine ⟨_, rfl, a, rfl, ⟨_, SqL.of (s1 _ _ ha)⟩, ?_⟩
  refine for_it (walk_list (K := K) (a := a) (xs := xs)) (fun i σ H2 => (∃ v4 v5 v6, σ = [some (.str (sw z)), some (.ref a), some (.ref d), some (.ref th), v4, v5, v6, none, none, none, none, none, none]) ∧ Same H H2 ∧ H2 th = some (.lst (wsV (((its.map (·.1)).take i).foldl (fun fs p => addW fs p p.length) [[]]))))
    ⟨⟨_, _, _, rfl⟩, s1, g1⟩ (fun i σ H2 _ ⟨_, s, _⟩ => SqL.of (s _ _ ha)) (fun i x σ H2 H3 hi ⟨⟨v4, v5, v6, e⟩, s, g⟩ y => ?_) (fun σ H2 ⟨⟨v4, v5, v6, e⟩, s, g⟩ => ?_)
  · obtain ⟨rfl, hx⟩ := y
    subst e
    obtain ⟨it, hit, b, rfl, hb⟩ := paired_ix (paired_mono (fun _ _ h => ItT.same s h) pr) hx
    have hp : (its.map (·.1))[i]? = some it.1 := by rw [List.getElem?_map, hit]; rfl
    have hpl := w5 _ (List.mem_of_getElem? hp)
    have hcl := begs5 (ws := (its.map (·.1)).take i) (fs := [[]]) fun w hw => w5 w (List.mem_of_mem_take hw)
    have hi6 : ((its.map (·.1)).take i).length ≤ 6 := by rw [List.length_take, List.length_map]; omega
    generalize hcur : ((its.map (·.1)).take i).foldl (fun fs p => addW fs p p.length) [[]] = cur at g hcl
    have hnext : ((its.map (·.1)).take (i + 1)).foldl (fun fs p => addW fs p p.length) [[]] = addW cur it.1 it.1.length := by
      rw [List.take_add_one, hp]
      show ((its.map (·.1)).take i ++ [it.1]).foldl _ _ = _
      rw [List.foldl_append, hcur]
      rfl
    have hcl : cur.length ≤ 31 := by simp only [List.length_cons, List.length_nil] at hcl; omega
    refine ⟨b, _, rfl, SqT.of hb, rfl, _, _, rfl, _, _, rfl, rfl, ?_⟩
    obtain ⟨p, v⟩ := it
    dsimp only at hpl hnext hp
    have hz : (sw p).length ≤ sizeLine := by rw [sw_len, sizeLine_eq]; omega
    refine ⟨_, rfl, _, rfl, hz, _, rfl, by omega, by rw [sw_len]; show ((p.length : Nat) : Int) < 2 ^ 62; omega, ?_⟩
    rw [sw_len, Int.toNat_natCast]
    refine for_range (lo := 0) (n := p.length) (fun k σ H4 => (∃ v6, σ = [some (.str (sw z)), some (.ref a), some (.ref d), some (.ref th), some (.str (sw p)), some (.int v), v6, none, none, none, none, none, none]) ∧ Same H H4 ∧ ∃ now, H4 th = some (.lst (wsV now)) ∧ addW now p (p.length - k) = addW cur p p.length ∧ now.length ≤ cur.length + k)
      ⟨⟨_, rfl⟩, s, cur, g, rfl, Nat.le_refl _⟩ (fun k σ H4 hk ⟨⟨v6, e⟩, s4, now, g4, en, nl⟩ => ?_) (fun σ H4 ⟨⟨v6, e⟩, s4, now, g4, en, nl⟩ => ?_)
    · subst e
      obtain ⟨n, hn⟩ : ∃ n, p.length - k = n + 1 := ⟨p.length - k - 1, by omega⟩
      have hcut : cutS (sw p) none (some ((p.length : Int) - (0 + (k : Int)))) = sw (p.take (n + 1)) := by
        rw [show (p.length : Int) - (0 + (k : Int)) = ((n + 1 : Nat) : Int) by omega]
        exact cut_to p (n + 1)
      refine ⟨_, rfl, _, rfl, _, rfl, hz, _, rfl, _, _, rfl, rfl, _, rfl, _, rfl, hz, ?_⟩
      rw [sw_len, hcut]
      refine ⟨_, rfl, th, _, rfl, .inl (SqL.of g4), rfl, wsV_flat _, _, rfl, ?_⟩
      rw [wsV_in]
      rw [hn, addW_succ] at en
      refine ite2 (fun hm => ?_) (fun hm => ?_)
      · have hm : p.take (n + 1) ∈ now := of_decide_eq_true hm
        rw [if_pos hm] at en
        exact ⟨⟨_, _, _, rfl⟩, s4, by rw [hnext, ← en]; exact g4⟩
      · have hm' : p.take (n + 1) ∉ now := fun z => hm (decide_eq_true z)
        rw [if_neg hm'] at en
        refine nextS ?_
        dsimp only
        refine ⟨_, rfl, .inl ⟨rfl, _, SqL.of g4⟩, _, rfl, _, rfl, _, rfl, hz, _, rfl, _, _, rfl, rfl, _, rfl, _, rfl, hz, ?_⟩
        rw [sw_len, hcut]
        refine ⟨th, _, _, rfl, rfl, g4, by rw [List.length_map, sizeLine_eq]; omega, ?_⟩
        refine ⟨⟨_, rfl⟩, same_of_new s4 hth, now ++ [p.take (n + 1)], ?_, ?_, by rw [List.length_append]; show _ + 1 ≤ _; omega⟩
        · rw [upd_same]
          unfold wsV
          rw [List.map_append]
          rfl
        · rw [show p.length - (k + 1) = n by omega]
          exact en
    · subst e
      rw [Nat.sub_self] at en
      exact ⟨⟨_, _, _, rfl⟩, s4, by rw [hnext, ← en]; exact g4⟩
  subst e
  rw [xl, ← List.length_map (f := fun it : It2 => it.1), List.take_of_length_le (Nat.le_refl _)] at g
  have g : H2 th = some (.lst (wsV (begs (its.map (·.1))))) := g
  have bl : (begs (its.map (·.1))).length ≤ 31 := by
    have := begs5 (ws := its.map (·.1)) (fs := [[]]) w5
    rw [List.length_map] at this
    simp only [List.length_cons, List.length_nil] at this
    exact Nat.le_trans this (by omega)
  have bz : ∀ p ∈ begs (its.map (·.1)), p.length ≤ 200 ∧ ∀ c ∈ p, c ∈ z := fun p hp => by
    rcases begs_mem.mp hp with rfl | ⟨w, hw, m, rfl⟩
    · exact ⟨by simp, fun c hc => by cases hc⟩
    · exact ⟨by have := w5 w hw; rw [List.length_take]; omega, fun c hc => wz w hw c (List.mem_of_mem_take hc)⟩
  dsimp only
  generalize hbs : begs (its.map (·.1)) = bs at g bl bz
  have hrd : rowsD z r1 r2 its = (ordW z bs).map (mkR z r1 r2 bs its) := by unfold rowsD; rw [hbs]
  refine ⟨Nat.zero_le _, fun ro hro => ?_⟩
  have s3 := same_upd (o := .lst []) hro
  have g3 := s3 _ _ g
  have gro : (upd H2 ro (.lst [])) ro = some (.lst []) := upd_same
  have s3 := s.trans s3
  have ntr : th ≠ ro := ne_of_none g hro
  generalize upd H2 ro (.lst []) = H3 at s3 g3 gro
  have sm3 := Sm.of tb s3
  refine ⟨_, rfl, _, rfl, z, th, bs, rfl, SqL.of g3, bz, sm3.2, fun H4 oa sm4 hoa => ?_⟩
  have g4 := sm4.get g3
  have gro4 := sm4.get gro
  have sm4 := sm3.trans sm4
  have nor : oa ≠ ro ∨ ordW z bs = [] := by
    by_cases e : oa = ro
    · rw [e, gro4] at hoa
      cases h : ordW z bs with
      | nil => exact .inr rfl
      | cons a b => rw [h] at hoa; cases hoa
    · exact .inl e
  have nor : oa ≠ ro := by
    rcases nor with h | h
    · exact h
    · have : ([] : Wd) ∈ ordW z bs := by rw [ordW_mem, ← hbs]; exact (begs_clo _).1
      rw [h] at this
      cases this
  have ha4 := sm4.get ha
  have pr4 := paired_mono (fun _ _ h => ItT.sm sm4 h) pr
  have hd4 := DN.sm sm4 hd
  have nar : a ≠ ro := ne_of_none (s _ _ ha) hro
  have osl : (ordW z bs).length ≤ 31 := by rw [ordW_len]; exact bl
  have hro0 : H ro = none := s.free hro
  refine ⟨oa, rfl, ⟨_, SqL.of hoa⟩, ?_⟩
  refine for_it (walk_list (K := K) (a := oa) (xs := wsV (ordW z bs))) (fun i σ H' => (∃ v4 v5 v6 v8 v9 v10 v11 v12, σ = [some (.str (sw z)), some (.ref a), some (.ref d), some (.ref th), v4, v5, v6, some (.ref ro), v8, v9, v10, v11, v12]) ∧ Kp ro H4 H' ∧ Tabs (tabs T) H' ∧ ∃ acc, H' ro = some (.lst acc) ∧ Paired (RwT H') acc (((ordW z bs).take i).map (mkR z r1 r2 bs its)))
    ⟨⟨_, _, _, _, _, _, _, _, by rfl⟩, Kp.refl _ _, sm4.2, [], gro4, .nil⟩ (fun i σ H' _ ⟨_, k, _⟩ => SqL.of (k _ _ hoa nor)) (fun i x σ H5 H6 hi ⟨⟨v4, v5, v6, v8, v9, v10, v11, v12, e⟩, k5, t5, acc, gro5, pac⟩ y => ?_) (fun σ H5 ⟨⟨v4, v5, v6, v8, v9, v10, v11, v12, e⟩, k5, t5, acc, gro5, pac⟩ => ?_)
  · obtain ⟨rfl, hx⟩ := y
    subst e
    rw [List.getElem?_map] at hx
    obtain ⟨p, hp, rfl⟩ := Option.map_eq_some_iff.mp hx
    have hpb : p ∈ bs := ordW_mem.mp (List.mem_of_getElem? hp)
    have hp200 := (bz p hpb).1
    have ha5 := k5 _ _ ha4 nar
    have g5 := k5 _ _ g4 ntr
    have pr5 : Paired (ItT H6) xs its := paired_mono (fun _ _ ⟨b, e, h⟩ => ⟨b, e, k5 _ _ h (ne_of h gro4 (by intro z; cases z))⟩) pr4
    have hd5 : DN P w K H6 d (flD r1 r2) := by
      obtain ⟨xs', h1, h2, h3⟩ := hd4
      refine ⟨xs', k5 _ _ h1 (ne_of h1 gro4 (by intro z; unfold DNo at z; cases z)), h2, fun x hx => (h3 x hx).mono fun c u r => ?_⟩
      rcases r with r | ⟨o, r⟩
      · exact .inl (k5 _ _ r (ne_of r gro4 (by intro z; cases z)))
      · exact .inr ⟨o, k5 _ _ r (ne_of r gro4 (by intro z; cases z))⟩
    -- the values
    refine ⟨_, rfl, a, rfl, ⟨_, SqL.of ha5⟩, fun D hD => ?_⟩
    refine lcF (walk_list (K := K) (a := a) (xs := xs)) yat pr5 hD (fun H' s => SqL.of (s _ _ ha5)) (by omega) (fun it => decide (it.1 = p)) (fun it => .int it.2) (fun x it H' R N hit hx s k1' k2' => ?_) (fun H7 s7 hD7 => ?_)
    · obtain ⟨b, rfl, hb⟩ := ItT.same s hx
      refine ⟨b, _, rfl, SqT.of hb, rfl, _, _, rfl, _, _, rfl, rfl, rfl, _, rfl, _, rfl, rfl, _, rfl, ?_⟩
      rw [sw_dec]
      refine ite2 (fun h => ?_) (fun h => ?_)
      · exact ⟨_, rfl, k1' h⟩
      · exact k2' (by simpa using h)
    rw [lookup_filter ok.nd] at hD7
    have hvs : ((match its.lookup p with | some v => [(p, v)] | none => []).map fun it : It2 => V.int it.2) = valsO (its.lookup p) := by cases its.lookup p <;> rfl
    rw [hvs] at hD7
    have k7 := k5.trans (Same.kp s7)
    have g7 := s7 _ _ g5
    have t7 := t5.ext s7
    have gro7 := s7 _ _ gro5
    have pac7 := paired_mono (fun _ _ h => RwT.same s7 h) pac
    have hd7 := DN.same s7 hd5
    -- the children
    dsimp only [gName]
    refine ⟨_, rfl, _, rfl, fun D2 hD2 => ?_⟩
    refine lcF (walk_sgs z) yat (pr_sgs z) hD2 (fun _ _ => trivial) (by omega) (fun c => decide (p ++ [c] ∈ bs)) (fun c => .str (sw [c])) (fun y c H' R N hc e s k1' k2' => ?_) (fun H8 s8 hD8 => ?_)
    · subst e
      refine ⟨rfl, _, rfl, _, rfl, _, _, rfl, rfl, by rw [sw_len, sw_len, sizeLine_eq]; show _ + 1 ≤ _; omega, ?_⟩
      rw [sw_app]
      refine ⟨_, rfl, th, _, rfl, .inl (SqL.of (s _ _ g7)), rfl, wsV_flat _, _, rfl, ?_⟩
      rw [wsV_in]
      refine ite2 (fun h => ?_) (fun h => ?_)
      · exact ⟨_, rfl, k1' h⟩
      · exact k2' (by simpa using h)
    refine ⟨D2, _, rfl, .inl (SqL.of hD8), ?_⟩
    rw [List.length_map, show (z.filter fun c => decide (p ++ [c] ∈ bs)) = kids z bs p from rfl]
    have k8 := k7.trans (Same.kp s8)
    have t8 := t7.ext s8
    have gro8 := s8 _ _ gro7
    have pac8 := paired_mono (fun _ _ h => RwT.same s8 h) pac7
    have hd8 := DN.same s8 hd7
    have hD8' := s8 _ _ hD7
    -- the key
    dsimp only [gName]
    refine ⟨_, rfl, rfl, ?_⟩
    rw [mt_eq, sw_dec]
    refine vals_ne rfl hD8' fun H9 s9 => ?_
    refine ⟨_, rfl, _, _, rfl, ?_⟩
    rw [min_if]
    refine ⟨by show 3 ≤ sizeLine; decide, fun ky hky => ?_⟩
    have s10 := same_upd (o := .tup [.bl (decide (p = [])), .bl (its.lookup p).isSome, .int (min 2 ((kids z bs p).length : Int))]) hky
    have gky : KeyAt K (upd H9 ky (.tup [.bl (decide (p = [])), .bl (its.lookup p).isSome, .int (min 2 ((kids z bs p).length : Int))])) (nk (decide (p = [])) ((its.lookup p).isSome, min 2 ((kids z bs p).length : Int))) ky := tup3_key (s := ((its.lookup p).isSome, min 2 ((kids z bs p).length : Int))) upd_same
    have s10 := s9.trans s10
    generalize upd H9 ky (.tup [.bl (decide (p = [])), .bl (its.lookup p).isSome, .int (min 2 ((kids z bs p).length : Int))]) = H10 at s10 gky
    have k10 := k8.trans (Same.kp s10)
    have t10 := t8.ext s10
    have gro10 := s10 _ _ gro8
    have pac10 := paired_mono (fun _ _ h => RwT.same s10 h) pac8
    have hd10 := DN.same s10 hd8
    have hD10 := s10 _ _ hD8'
    have al : acc.length ≤ 31 := by
      have h1 := pac.length
      rw [List.length_map, List.length_take] at h1
      omega
    -- the row
    refine ⟨_, rfl, .inl ⟨rfl, _, SqL.of gro10⟩, ?_⟩
    have tail : ∀ H12, Same H10 H12 → ∀ t, H12 t = none → Kp ro H4 (upd (upd H12 t (.tup [V.str (sw p), oV (its.lookup p), .bl (mkR z r1 r2 bs its p).2.2])) ro (.lst (acc ++ [V.ref t]))) ∧ Tabs (tabs T) (upd (upd H12 t (.tup [V.str (sw p), oV (its.lookup p), .bl (mkR z r1 r2 bs its p).2.2])) ro (.lst (acc ++ [V.ref t]))) ∧
        ∃ acc', (upd (upd H12 t (.tup [V.str (sw p), oV (its.lookup p), .bl (mkR z r1 r2 bs its p).2.2])) ro (.lst (acc ++ [V.ref t]))) ro = some (.lst acc') ∧ Paired (RwT (upd (upd H12 t (.tup [V.str (sw p), oV (its.lookup p), .bl (mkR z r1 r2 bs its p).2.2])) ro (.lst (acc ++ [V.ref t])))) acc' (((ordW z bs).take (i + 1)).map (mkR z r1 r2 bs its)) := fun H12 s12 t ht => by
      have s13 := same_upd (o := .tup [V.str (sw p), oV (its.lookup p), .bl (mkR z r1 r2 bs its p).2.2]) ht
      have gt : RwT (upd H12 t (.tup [V.str (sw p), oV (its.lookup p), .bl (mkR z r1 r2 bs its p).2.2])) (.ref t) (mkR z r1 r2 bs its p) := ⟨t, rfl, upd_same⟩
      have sA := s12.trans s13
      have gro13 := sA _ _ gro10
      have k13 := k10.trans (Same.kp sA)
      have t13 := t10.ext sA
      have pac13 := paired_mono (fun _ _ h => RwT.same sA h) pac10
      generalize upd H12 t (.tup [V.str (sw p), oV (its.lookup p), .bl (mkR z r1 r2 bs its p).2.2]) = H13 at gt gro13 k13 t13 pac13
      refine ⟨fun b u hb ne => by rw [upd_ne ne]; exact k13 _ _ hb ne, tabs_put t13 gro13 (by intro ps z; cases z) (by intro c q z; unfold CodeO at z; cases z), _, upd_same, ?_⟩
      rw [List.take_add_one, hp, List.map_append]
      exact paired_mono (fun _ _ h => RwT.putL h gro13) (paired_app pac13 (.cons gt .nil))
    have kd10 : ∀ H12, Same H10 H12 → KeyAt K H12 (nk (decide (p = [])) ((its.lookup p).isSome, min 2 ((kids z bs p).length : Int))) ky := fun H12 s12 => gky.mono fun c u r => by
      rcases r with r | ⟨o, r⟩
      · exact .inl (s12 _ _ r)
      · exact .inr ⟨o, s12 _ _ r⟩
    have hval : valV (flD r1 r2) (nk (decide (p = [])) ((its.lookup p).isSome, min 2 ((kids z bs p).length : Int))) = some (.bl (mkR z r1 r2 bs its p).2.2) := flD_val ex _ (shape_in _ _)
    refine ⟨_, rfl, ?_⟩
    refine vals_ne rfl hD10 fun H11 s11 => ⟨_, rfl, ?_⟩
    have hD11 := s11 _ _ hD10
    cases hlk : its.lookup p with
    | none =>
      rw [hlk] at tail kd10 hval hD11
      refine iteF ?_
      refine ⟨_, rfl, _, rfl, d, ky, _, _, _, rfl, rfl, (DN.same s11 hd10).r, kd10 _ s11, hval, by show 3 ≤ sizeLine; decide, fun t ht => ?_⟩
      refine ⟨ro, acc, _, rfl, rfl, same_upd ht _ _ (s11 _ _ gro10), by rw [sizeLine_eq]; omega, ?_⟩
      exact ⟨⟨_, _, _, _, _, _, _, _, rfl⟩, tail _ s11 t ht⟩
    | some v =>
      rw [hlk] at tail kd10 hval hD11
      refine iteT ?_
      refine ⟨_, rfl, D, _, _, _, rfl, rfl, SqL.of hD11, atI_nat (j := 0) rfl, ?_⟩
      refine ⟨_, rfl, _, rfl, d, ky, _, _, _, rfl, rfl, (DN.same s11 hd10).r, kd10 _ s11, hval, by show 3 ≤ sizeLine; decide, fun t ht => ?_⟩
      refine ⟨ro, acc, _, rfl, rfl, same_upd ht _ _ (s11 _ _ gro10), by rw [sizeLine_eq]; omega, ?_⟩
      exact ⟨⟨_, _, _, _, _, _, _, _, rfl⟩, tail _ s11 t ht⟩
  · subst e
    rw [List.length_map, List.take_of_length_le (Nat.le_refl _), ← hrd] at pac
    refine ⟨_, rfl, q _ ro acc ⟨fun b u hb nt => k5 _ _ (sm4.1 b u hb nt) (fun e => by rw [e] at hb; rw [hro0] at hb; cases hb), t5⟩ gro5 pac⟩
end
end Toy
set_option Elab.async false
set_option linter.all false
set_option maxRecDepth 100000
set_option maxHeartbeats 4000000
namespace Toy
open PySem L2 Sh ShL LamX NdefX
theorem rows_uniq {us rs : List Rw} (pm : us.Perm rs) (nd : (us.map (·.1)).Nodup) (e : rs.map (·.1) = us.map (·.1)) : rs = us := by
  refine List.ext_getElem? fun i => ?_
  have hl := pm.length_eq
  cases h : us[i]? with
  | none =>
    rw [List.getElem?_eq_none_iff] at h ⊢
    omega
  | some u =>
    obtain ⟨r, hr⟩ : ∃ r, rs[i]? = some r := ⟨_, List.getElem?_eq_getElem (by have := (List.getElem?_eq_some_iff.mp h).1; omega)⟩
    have h1 : (rs.map (·.1))[i]? = some r.1 := by rw [List.getElem?_map, hr]; rfl
    rw [e, List.getElem?_map, h] at h1
    have h2 : u.1 = r.1 := Option.some.inj h1
    rw [hr, nd_row nd (List.mem_of_getElem? h) (pm.mem_iff.mpr (List.mem_of_getElem? hr)) h2]
/-- the rows of the bare tree, in order -/
theorem bare_rows {z : Wd} {its : List It2} {rs : List Rw} (pm : (ofRows its).Perm rs) (od : rs.map (·.1) = ordW z (begs (its.map (·.1)))) : rs = (ordW z (begs (its.map (·.1)))).map fun p => (p, its.lookup p, false) := by
  rw [← od, List.map_map]
  have : ∀ r ∈ rs, r = ((fun p => (p, its.lookup p, false)) ∘ fun r : Rw => r.1) r := fun r hr => by
    obtain ⟨p, _, rfl⟩ := List.mem_map.mp (pm.mem_iff.mpr hr)
    rfl
  conv => lhs; rw [← List.map_id rs]
  exact List.map_congr_left this
theorem kids_ord {z : Wd} {bs : List Wd} {p : Wd} : kids z (ordW z bs) p = kids z bs p := by
  unfold kids
  congr 1
  funext c
  rw [Bool.eq_iff_iff]
  simp [ordW_mem]
theorem rowsD_fst (z : Wd) (j1 j2 : List Kd) (its : List It2) : (rowsD z j1 j2 its).map (·.1) = ordW z (begs (its.map (·.1))) := by
  unfold rowsD
  rw [List.map_map]
  exact List.map_id _
theorem rowsD_ok {z : Wd} {j1 j2 : List Kd} {its : List It2} (ok : ∀ it ∈ its, it.1.length ≤ 200 ∧ (∀ c ∈ it.1, c ∈ z) ∧ 1 ≤ it.2 ∧ it.2 ≤ 9) : ∀ r ∈ rowsD z j1 j2 its, RwOk z r := fun r hr => by
  obtain ⟨p, hp, rfl⟩ := List.mem_map.mp hr
  have h := ofRows_ok ok (p, its.lookup p, false) (List.mem_map.mpr ⟨p, ordW_mem.mp hp, rfl⟩)
  exact ⟨h.1, h.2, fun i hi => h.3 i hi⟩
def spTreeOf (T : List (Addr × Str)) (C CL CM CI CR N : Addr) : Sp := fun vs H Q E => ∃ (x a : Addr) (v : V) (xs : List V) (b : Bool) (z : Wd) (os : List (Option It2)) (j1 j2 : List Kd), vs = [.ref x, v, .ref a] ∧ RuleAt CR H x j1 j2 ∧ j1.length ≤ 40 ∧ j2.length ≤ 40 ∧ (∀ k ∈ j1, KOk k) ∧ (∀ k ∈ j2, KOk k) ∧
  LtV H v b ∧ H a = some (.lst xs) ∧ os.length ≤ 90 ∧ Tabs T H ∧ (b = true → v = .str (sw z) ∧ Paired (ItV H z) xs os) ∧
  (exB j1 j2 = false → ∀ H', Sm T H H' → E (.ref N) none H') ∧
  (exB j1 j2 = true → b = false → ∀ H' d, Sm T H H' → H' d = some (exd d [("letters", v)]) → E (.ref CL) (some d) H') ∧
  (exB j1 j2 = true → b = true → ∀ i, WrongI os i → ∀ H' d, Sm T H H' → H' d = some (exd d [("number", .int (i : Nat))]) → E (.ref CI) (some d) H') ∧
  (exB j1 j2 = true → b = true → ∀ its, FineI os its → 2000 < (begs (its.map (·.1))).length → ∀ H' d, Sm T H H' → H' d = some (exd d [("most", .int 2000), ("many", .int ((begs (its.map (·.1))).length : Nat)), ("what", .str "places")]) → E (.ref CM) (some d) H') ∧
  (exB j1 j2 = true → b = true → ∀ its, FineI os its → (begs (its.map (·.1))).length ≤ 2000 → ∀ H' o, Sm T H H' → TreeAt C H' o z (rowsD z j1 j2 its) → Q (.ref o) H')
section
variable {P : Program} {w : World} {K : PySem.W.Frag} {mg : Str → Option Value} {base : Heap}
theorem ok_Rule_tree_of (T : Tx P K mg) (B : Bx T base) : FnOk P w K mg base (L2.CX P w) 8 T.a_Rule_tree_of T.fd_Rule_tree_of ["self", "letters", "items"] (spTreeOf (tabs T) T.c_Tree T.c_BadLetters T.c_TooMany T.c_BadItem T.c_Rule T.c_NotExact) := by
  refine T.F_Rule_tree_of.okX sc_Rule_tree_of (fun vs H Q E h => ?_) (fun cdv A outer s H vs Q E hr h => ?_)
  · obtain ⟨x, a, v, xs, b, z, os, j1, j2, rfl, _⟩ := h
    rfl
  have hu := hu_of hr
  have hu65 := hu65_of hr
  obtain ⟨x, a, v, xs, b, z, os, j1, j2, rfl, hx, l1, l2, ok1, ok2, hv, ha, hol, tb, hyp, e1, e2, e3, e4, q⟩ := h
  refine ⟨_, (pss_cons (ps_set (i := 3) sc_Rule_tree_of.nd rfl (by first | exact Or.inl rfl | exact Or.inr rfl) (pe_call (ok_flags_of (w := w) T B) (hr.mono (by decide)) (by rfl) T.m_flags_of T.F_flags_of.kp T.bi_flags_of .nil (passes_call (takes_of rfl rfl rfl rfl) (fun _ _ _ _ h => h)) (pa_cons (pv 0) pa_nil)))
 (pss_cons (ps_set (i := 4) sc_Rule_tree_of.nd rfl (by first | exact Or.inl rfl | exact Or.inr rfl) (ClX.pe_cmeth (pe_glob (v := .ref T.c_Tree) (by rfl) T.m_Tree rfl) T.cr_Tree T.cm_Tree_of (fnR_of (ok_Tree_of (w := w) T B) T.bi_Tree_of) (hr.mono (by decide)) (passes_call (takes_of rfl rfl rfl rfl) (fun _ _ _ _ h => h)) (pa_cons (pv 1) (pa_cons (pv 2) pa_nil)) (ht := ht_line (by rfl) (by rfl) (by rfl))))
 (pss_cons (ps_set (i := 5) sc_Rule_tree_of.nd rfl (by first | exact Or.inl rfl | exact Or.inr rfl) (pe_lst pa_nil))
 (pss_cons (ps_for (passes_of rfl) rfl (pi_tup (pe_fld (pv 4) rfl)) (pg_tup rfl (pgs_cons (pg_name (i := 6) sc_Rule_tree_of.nd rfl (by first | exact Or.inl rfl | exact Or.inr rfl)) (pgs_cons (pg_name (i := 7) sc_Rule_tree_of.nd rfl (by first | exact Or.inl rfl | exact Or.inr rfl)) (pgs_cons (pg_name (i := 8) sc_Rule_tree_of.nd rfl (by first | exact Or.inl rfl | exact Or.inr rfl)) pgs_nil))))
 (pss_cons (ps_asg (pe_call (ok_kind_of (w := w) T B) (hr.mono (by decide)) (by rfl) T.m_kind_of T.F_kind_of.kp T.bi_kind_of .nil (passes_call (takes_of rfl rfl rfl rfl) (fun _ _ _ _ h => h)) (pa_cons (pv 4) (pa_cons (pv 6) pa_nil))) (pg_tup rfl (pgs_cons (pg_name (i := 9) sc_Rule_tree_of.nd rfl (by first | exact Or.inl rfl | exact Or.inr rfl)) (pgs_cons (pg_name (i := 10) sc_Rule_tree_of.nd rfl (by first | exact Or.inl rfl | exact Or.inr rfl)) (pgs_cons (pg_name (i := 11) sc_Rule_tree_of.nd rfl (by first | exact Or.inl rfl | exact Or.inr rfl)) pgs_nil)))))
 (pss_one (ps_expr (pe_bm PySem.F.plainAttrs_list PySem.F.slot_list_append PySem.F.type_list_append mt_append (pv 5) (pa_cons (pe_tup (pa_cons (pv 6) (pa_cons (pv 7) (pa_cons (pe_dgetR hu65 (pv 3) (pe_tup (pa_cons (pe_cmpR op_eq (pv 6) pe_str (nomark _)) (pa_cons (pv 9) (pa_cons (pv 11) pa_nil)))) (fun _ _ => rfl)) pa_nil)))) pa_nil))))))
 (pss_one (ps_ret (pe_make T.mk_Tree (ok_Tree_init (w := w) T B) (hr.mono (by decide)) (by rfl) T.m_Tree T.bi_Tree_init .nil (passes_call (takes_of rfl rfl rfl rfl) (fun _ _ _ _ h => h)) (pa_cons (pv 1) (pa_cons (pv 5) pa_nil))))))))), ?_⟩
  refine ⟨_, rfl, x, j1, j2, rfl, hx, l1, l2, fun hex H1 d s1 hd hd0 => ?_, fun hex H' s' => e1 hex H' (Sm.of tb s')⟩
  have ex := exB_ex ok1 ok2 hex
  have sm1 := Sm.of tb s1
  refine ⟨rfl, _, rfl, _, rfl, a, v, xs, b, z, os, rfl, hv.kp (kpS_same s1), s1 _ _ ha, hol, sm1.2, fun hb => ⟨(hyp hb).1, paired_mono (fun v o h => ItV.kp (kpS_same s1) h) (hyp hb).2⟩, fun hb H' d' sm e => e2 hex hb H' d' (sm1.trans sm) e, fun hb i w H' d' sm e => e3 hex hb i w H' d' (sm1.trans sm) e, fun hb its f l H' d' sm e => e4 hex hb its f l H' d' (sm1.trans sm) e, fun hb its f l rs pm od H2 o sm2 t2 => ?_⟩
  subst hb
  have hz : LetOk z := by
    obtain ⟨ev, _⟩ := hyp rfl
    rcases hv with ⟨z', e1, _, e2⟩ | ⟨e, _⟩
    · rw [ev] at e1
      rw [sw_inj (V.str.inj e1)]
      exact of_decide_eq_true e2.symm
    · cases e
  obtain ⟨rfl, prx⟩ := hyp rfl
  have okI := fineI_ok (f.1 ▸ prx)
  have hrs := bare_rows pm od
  have z26 := hz.l26
  have hd2 := DN.sm sm2 hd
  have sm2 := sm1.trans sm2
  generalize hbs : begs (its.map (·.1)) = bs at *
  have bz : ∀ p ∈ bs, ∀ c ∈ p, c ∈ z := fun p hp => by
    rw [← hbs] at hp
    rcases begs_mem.mp hp with rfl | ⟨w, hw, m, rfl⟩
    · exact fun c hc => by cases hc
    · obtain ⟨it, hit, rfl⟩ := List.mem_map.mp hw
      exact fun c hc => (okI it hit).2.1 c (List.mem_of_mem_take hc)
  have bnd : bs.Nodup := hbs ▸ begs_nd _
  have hrl : rs.length = bs.length := by rw [hrs, List.length_map, ordW_len]
  have rnd : (rs.map (·.1)).Nodup := by rw [od]; exact ordW_nodup bnd
  obtain ⟨dx, t, dd, ee, m, ws, us, x1, x2, x3, x4, x5, x6, x7, x8⟩ := t2.ex
  dsimp only [gName]
  refine ⟨Nat.zero_le _, fun ro hro => ?_⟩
  have s3 := same_upd (o := .lst []) hro
  have gro : (upd H2 ro (.lst [])) ro = some (.lst []) := upd_same
  have sm3 := sm2.ext s3
  have t3 := t2.same s3
  have hd3 := DN.same s3 hd2
  have y1 := s3 _ _ x1
  have y2 := s3 _ _ x2
  have y3 := paired_mono (fun _ _ h => RwT.same s3 h) x3
  generalize upd H2 ro (.lst []) = H3 at s3 gro sm3 t3 hd3 y1 y2 y3
  dsimp only [gName]
  refine ⟨_, rfl, o, _, dx, _, _, rfl, y1, T.cl_Tree, T.na_Tree_rows, tf_rows, t, rfl, ⟨_, SqT.of y2⟩, ?_⟩
  have hwl : ws.length = rs.length := x3.length
  have sub : ∀ {H'}, Kp ro H3 H' → TreeAt T.c_Tree H' o z rs := fun k => t3.mono (fun b C dx fs q => k _ _ q (ne_of q gro (by intro z; cases z))) (fun b xs q => k _ _ q (ne_of q gro (by intro z; cases z))) fun b l _ q => k _ _ q (ne_of q gro (by intro z; cases z))
  have dsub : ∀ {H'}, Kp ro H3 H' → DN P w K H' d (flD j1 j2) := fun k => by
    obtain ⟨xs', h1, h2, h3⟩ := hd3
    refine ⟨xs', k _ _ h1 (ne_of h1 gro (by intro z; unfold DNo at z; cases z)), h2, fun x hx => (h3 x hx).mono fun c u r => ?_⟩
    rcases r with r | ⟨o, r⟩
    · exact .inl (k _ _ r (ne_of r gro (by intro z; cases z)))
    · exact .inr ⟨o, k _ _ r (ne_of r gro (by intro z; cases z))⟩
  have hbl : rs.length ≤ 30000 := by
    rw [hrl, ← hbs]
    have := begs_len' (ws := its.map (·.1)) fun w hw => by
      obtain ⟨it, hit, rfl⟩ := List.mem_map.mp hw
      exact (okI it hit).1
    have h2 := congrArg List.length f.1
    rw [List.length_map] at h2
    rw [List.length_map] at this
    omega
  refine for_it (walk_tup (K := K) (a := t) (xs := ws)) (fun i σ H' => (∃ v6 v7 v8 v9 v10 v11, σ = [some (.ref x), some (.str (sw z)), some (.ref a), some (.ref d), some (.ref o), some (.ref ro), v6, v7, v8, v9, v10, v11]) ∧ Kp ro H3 H' ∧ Tabs (tabs T) H' ∧ ∃ acc, H' ro = some (.lst acc) ∧ Paired (RwT H') acc ((rs.take i).map fun r => mkR z j1 j2 bs its r.1))
    ⟨⟨_, _, _, _, _, _, rfl⟩, Kp.refl _ _, sm3.2, [], gro, .nil⟩ (fun i σ H' _ ⟨_, k, _⟩ => SqT.of (k _ _ y2 (ne_of y2 gro (by intro z; cases z)))) (fun i u σ H4 H5 hi ⟨⟨v6, v7, v8, v9, v10, v11, e⟩, k4, t4, acc, gro4, pac⟩ yl => ?_) (fun σ H4 ⟨⟨v6, v7, v8, v9, v10, v11, e⟩, k4, t4, acc, gro4, pac⟩ => ?_)
  · obtain ⟨rfl, hu'⟩ := yl
    subst e
    obtain ⟨r, hr2, g, rfl, hg⟩ := paired_ix y3 hu'
    have hrm := List.mem_of_getElem? hr2
    have hrv : r = (r.1, its.lookup r.1, false) := by
      have := hrm
      rw [hrs] at this
      obtain ⟨p, _, rfl⟩ := List.mem_map.mp this
      rfl
    have hg5 := k4 _ _ hg (ne_of hg gro (by intro z; cases z))
    have r200 : r.1.length ≤ 200 := by
      have h := (ofRows_ok okI r (pm.mem_iff.mpr hrm)).2
      exact h
    have al : acc.length ≤ 30000 := by
      have h1 := pac.length
      rw [List.length_map, List.length_take] at h1
      omega
    refine ⟨g, _, rfl, SqT.of hg5, rfl, _, _, rfl, _, _, rfl, _, _, rfl, rfl, ?_⟩
    refine ⟨_, rfl, _, rfl, o, z, rs, _, some r.1, rfl, sub k4, rnd, z26, rfl, fun r' hr' er H6 u s6 hu => ?_, fun hn => ?_⟩
    rotate_left
    · rw [show inR (some r.1) rs = true from decide_eq_true (List.mem_map.mpr ⟨r, hrm, rfl⟩)] at hn
      cases hn
    have er' : r' = r := nd_row rnd hrm hr' (Option.some.inj er)
    rw [er'] at hu
    obtain ⟨kt, rfl, hkt⟩ := hu
    refine ⟨kt, _, rfl, SqT.of hkt, rfl, _, _, rfl, _, _, rfl, _, _, rfl, rfl, ?_⟩
    have k6 := k4.trans (Same.kp s6)
    have t6 := t4.ext s6
    have gro6 := s6 _ _ gro4
    have pac6 := paired_mono (fun _ _ h => RwT.same s6 h) pac
    have hshape : sh (kdOf z (rs.map (·.1)) r) = ((its.lookup r.1).isSome, min 2 ((kids z bs r.1).length : Int)) := by
      show (r.2.1.isSome, min 2 ((kids z (rs.map (·.1)) r.1).length : Int)) = _
      rw [od, kids_ord, hrv]
    have hk1 : (kdOf z (rs.map (·.1)) r).1 = (its.lookup r.1).isSome := congrArg Prod.fst hshape
    have hk2 : (kdOf z (rs.map (·.1)) r).2.2 = min 2 ((kids z bs r.1).length : Int) := congrArg Prod.snd hshape
    refine ⟨_, rfl, .inl ⟨rfl, _, SqL.of gro6⟩, _, rfl, _, rfl, _, rfl, _, rfl, rfl, ?_⟩
    rw [mt_eq, sw_dec]
    refine ⟨_, rfl, _, rfl, by show 3 ≤ sizeLine; decide, fun ky hky => ?_⟩
    rw [hk1, hk2]
    have s7 := same_upd (o := .tup [.bl (decide (r.1 = [])), .bl (its.lookup r.1).isSome, .int (min 2 ((kids z bs r.1).length : Int))]) hky
    have gky : KeyAt K (upd H6 ky (.tup [.bl (decide (r.1 = [])), .bl (its.lookup r.1).isSome, .int (min 2 ((kids z bs r.1).length : Int))])) (nk (decide (r.1 = [])) ((its.lookup r.1).isSome, min 2 ((kids z bs r.1).length : Int))) ky := tup3_key (s := ((its.lookup r.1).isSome, min 2 ((kids z bs r.1).length : Int))) upd_same
    have k7 := k6.trans (Same.kp s7)
    have t7 := t6.ext s7
    have gro7 := s7 _ _ gro6
    have pac7 := paired_mono (fun _ _ h => RwT.same s7 h) pac6
    generalize upd H6 ky (.tup [.bl (decide (r.1 = [])), .bl (its.lookup r.1).isSome, .int (min 2 ((kids z bs r.1).length : Int))]) = H7 at gky k7 t7 gro7 pac7
    have hval : valV (flD j1 j2) (nk (decide (r.1 = [])) ((its.lookup r.1).isSome, min 2 ((kids z bs r.1).length : Int))) = some (.bl (mkR z j1 j2 bs its r.1).2.2) := flD_val ex _ (shape_in _ _)
    refine ⟨d, ky, _, _, _, rfl, rfl, (dsub k7).r, gky, hval, by show 3 ≤ sizeLine; decide, fun nt hnt => ?_⟩
    have hov : oV r.2.1 = oV (its.lookup r.1) := by rw [hrv]
    rw [hov]
    have s8 := same_upd (o := .tup [V.str (sw r.1), oV (its.lookup r.1), .bl (mkR z j1 j2 bs its r.1).2.2]) hnt
    have gt : RwT (upd H7 nt (.tup [V.str (sw r.1), oV (its.lookup r.1), .bl (mkR z j1 j2 bs its r.1).2.2])) (.ref nt) (mkR z j1 j2 bs its r.1) := ⟨nt, rfl, upd_same⟩
    have k8 := k7.trans (Same.kp s8)
    have t8 := t7.ext s8
    have gro8 := s8 _ _ gro7
    have pac8 := paired_mono (fun _ _ h => RwT.same s8 h) pac7
    generalize upd H7 nt (.tup [V.str (sw r.1), oV (its.lookup r.1), .bl (mkR z j1 j2 bs its r.1).2.2]) = H8 at gt k8 t8 gro8 pac8
    refine ⟨ro, acc, _, rfl, rfl, gro8, by rw [sizeLine_eq]; omega, ?_⟩
    refine ⟨⟨_, _, _, _, _, _, rfl⟩, fun b u hb ne => by rw [upd_ne ne]; exact k8 _ _ hb ne, tabs_put t8 gro8 (by intro ps z; cases z) (by intro c q z; unfold CodeO at z; cases z), _, upd_same, ?_⟩
    rw [List.take_add_one, hr2, List.map_append]
    exact paired_mono (fun _ _ h => RwT.putL h gro8) (paired_app pac8 (.cons gt .nil))
  · subst e
    have e9 : ((rs.take ws.length).map fun r => mkR z j1 j2 bs its r.1) = rowsD z j1 j2 its := by
      rw [hwl, List.take_of_length_le (Nat.le_refl _)]
      unfold rowsD
      rw [hbs, ← od, List.map_map]
      rfl
    rw [e9] at pac
    refine ⟨_, rfl, _, rfl, ?_⟩
    have rok := rowsD_ok (z := z) (j1 := j1) (j2 := j2) okI
    have fst : (rowsD z j1 j2 its).map (·.1) = ordW z bs := by rw [rowsD_fst, hbs]
    have dnd : ((rowsD z j1 j2 its).map (·.1)).Nodup := by rw [fst]; exact ordW_nodup bnd
    have par : loneP z (rowsD z j1 j2 its) = none := lone_of_par fun p hp => by
      rw [fst, ordW_mem, ← hbs] at hp ⊢
      rw [List.dropLast_eq_take]
      exact (begs_clo _).2 p hp _
    have hal : acc.length = bs.length := by rw [pac.length, ← List.length_map (f := fun r : Rw => r.1), fst, ordW_len]
    have sm4 : Sm (tabs T) H H4 := ⟨fun b u hb nt => k4 _ _ (sm3.1 b u hb nt) (fun e => by
      rw [e] at hb
      have := sm2.1 _ _ hb nt
      rw [hro] at this
      cases this), t4⟩
    have h1 : 1 ≤ acc.length := by
      rw [hal, ← hbs]
      exact List.length_pos_of_mem (begs_clo (its.map (·.1))).1
    refine mk_treeG (os := (rowsD z j1 j2 its).map some) hz (.inl gro4) (by omega) t4 (fun _ _ => rowO_of (paired_mono (fun _ _ h => RwT.e h) pac) rok) (fun hn => absurd ⟨h1, by omega⟩ hn) (fun _ _ i w => (wrongR_no dnd w).elim) (fun _ _ us p f' l' => ?_) (fun _ l2 us rs' f' _ pm' od' H5 o' sm5 t' => ?_)
    · rw [fineR_inj f', par] at l'
      cases l'
    · have e' := fineR_inj f'
      subst e'
      rw [fst, ordW_idem bz, ← fst] at od'
      rw [rows_uniq pm' dnd od'] at t'
      exact q hex rfl its f (by rw [hbs]; omega) H5 o' (sm4.trans sm5) t'
end
end Toy
set_option Elab.async false
set_option linter.all false
set_option maxRecDepth 100000
set_option maxHeartbeats 4000000
namespace Toy
open PySem L2 Sh ShL LamX NdefX
/-! ### the tree of an exact rule keeps it, and no other near it does -/
theorem rowsD_mem {z : Wd} {j1 j2 : List Kd} {its : List It2} {r : Rw} (h : r ∈ rowsD z j1 j2 its) : r.1 ∈ begs (its.map (·.1)) ∧ r = mkR z j1 j2 (begs (its.map (·.1))) its r.1 := by
  obtain ⟨p, hp, rfl⟩ := List.mem_map.mp h
  exact ⟨ordW_mem.mp hp, rfl⟩
/-- the shape of a place -/
def shp (z : Wd) (its : List It2) (p : Wd) : Sh2 := ((its.lookup p).isSome, min 2 ((kids z (begs (its.map (·.1))) p).length : Int))
theorem shp_in (z : Wd) (its : List It2) (p : Wd) : shp z its p ∈ shapes := shape_in _ _
theorem kd_shp {z : Wd} {j1 j2 : List Kd} {its : List It2} {p : Wd} (b : Bool) : kdOf z (ordW z (begs (its.map (·.1)))) (p, its.lookup p, b) = ((shp z its p).1, b, (shp z its p).2) := by
  unfold kdOf shp
  rw [kids_ord]
theorem due_one {z : Wd} {its : List It2} (wz : ∀ it ∈ its, ∀ c ∈ it.1, c ∈ z) {p : Wd} (hp : p ∈ begs (its.map (·.1))) (h0 : p ≠ []) : dueN (shp z its p) = 1 := by
  unfold dueN shp
  cases h : its.lookup p with
  | some v => exact if_pos (.inl rfl)
  | none =>
    refine if_pos (.inr ?_)
    rcases begs_mem.mp hp with e | ⟨w, hw, m, e⟩
    · exact absurd e h0
    · have hlt : m < w.length := by
        rcases Nat.lt_or_ge m w.length with hlt | hge
        · exact hlt
        · rw [List.take_of_length_le hge] at e
          subst e
          obtain ⟨it, hit, rfl⟩ := List.mem_map.mp hw
          exfalso
          have : ∀ {its : List It2}, it ∈ its → its.lookup it.1 ≠ none := fun {its} hm => by
            induction its with
            | nil => cases hm
            | cons a t ih =>
              obtain ⟨q, n⟩ := a
              rw [List.lookup_cons]
              by_cases hq : it.1 = q
              · rw [show (it.1 == q) = true by simp [hq]]; simp
              · rw [show (it.1 == q) = false from beq_eq_false_iff_ne.mpr hq]
                rcases List.mem_cons.mp hm with rfl | hm
                · exact absurd rfl hq
                · exact ih hm
          exact this hit h
      obtain ⟨it, hit, rfl⟩ := List.mem_map.mp hw
      have hc : it.1[m]? = some it.1[m] := List.getElem?_eq_getElem hlt
      have hk : it.1[m] ∈ kids z (begs (its.map (·.1))) p := by
        unfold kids
        refine List.mem_filter.mpr ⟨wz it hit _ (List.getElem_mem hlt), decide_eq_true ?_⟩
        rw [e, show it.1.take m ++ [it.1[m]] = it.1.take (m + 1) by rw [List.take_add_one, hc]; rfl]
        exact begs_mem.mpr (.inr ⟨it.1, hw, m + 1, rfl⟩)
      have := List.length_pos_of_mem hk
      show (0 : Int) < min 2 ((kids z (begs (its.map (·.1))) p).length : Int)
      omega
/-- which flags are let at a place -/
theorem let_at {z : Wd} {j1 j2 : List Kd} {its : List It2} (ex : Ex j1 j2) (wz : ∀ it ∈ its, ∀ c ∈ it.1, c ∈ z) {p : Wd} (hp : p ∈ begs (its.map (·.1))) (b : Bool) :
    kdOf z (ordW z (begs (its.map (·.1)))) (p, its.lookup p, b) ∈ (if p = [] then j1 else j2) ↔ b = (mkR z j1 j2 (begs (its.map (·.1))) its p).2.2 := by
  rw [kd_shp (j1 := j1) (j2 := j2)]
  show _ ↔ b = flg j1 j2 (decide (p = [])) (shp z its p)
  unfold flg
  by_cases h : p = []
  · rw [if_pos h, if_pos (decide_eq_true h)]
    exact in1 ex (shp_in z its p) b
  · rw [if_neg h, if_neg (by simpa using h), in2 ex (shp_in z its p) b]
    exact ⟨fun h => h.2, fun e => ⟨due_one wz hp h, e⟩⟩
theorem keeps_own {z : Wd} {j1 j2 : List Kd} {its : List It2} (ex : Ex j1 j2) (wz : ∀ it ∈ its, ∀ c ∈ it.1, c ∈ z) : badR z (rowsD z j1 j2 its) j1 j2 = none := by
  unfold badR
  rw [List.find?_eq_none]
  intro r hr
  obtain ⟨hp, e⟩ := rowsD_mem hr
  rw [rowsD_fst, e]
  exact fun hn => of_decide_eq_true hn ((let_at ex wz hp _).mpr rfl)
/-- one flag turned -/
theorem bad_flip {z : Wd} {j1 j2 : List Kd} {its : List It2} (ex : Ex j1 j2) (wz : ∀ it ∈ its, ∀ c ∈ it.1, c ∈ z) {i : Nat} {r : Rw} (h : (rowsD z j1 j2 its)[i]? = some r) :
    badR z ((rowsD z j1 j2 its).take i ++ [(r.1, r.2.1, !r.2.2)] ++ (rowsD z j1 j2 its).drop (i + 1)) j1 j2 = some (r.1, r.2.1, !r.2.2) := by
  have hk : ((rowsD z j1 j2 its).take i ++ [((r.1, r.2.1, !r.2.2) : Rw)] ++ (rowsD z j1 j2 its).drop (i + 1)).map (·.1) = ordW z (begs (its.map (·.1))) := by
    rw [← rowsD_fst z j1 j2 its]
    obtain ⟨hi, e⟩ := List.getElem?_eq_some_iff.mp h
    conv => rhs; rw [← List.take_append_drop i (rowsD z j1 j2 its), List.drop_eq_getElem_cons hi, e]
    simp
  unfold badR
  rw [hk, List.append_assoc, List.find?_append]
  have h1 : ((rowsD z j1 j2 its).take i).find? (fun r => decide (kdOf z (ordW z (begs (its.map (·.1)))) r ∉ (if r.1 = [] then j1 else j2))) = none := by
    rw [List.find?_eq_none]
    intro x hx
    obtain ⟨hp, e⟩ := rowsD_mem (List.mem_of_mem_take hx)
    rw [e]
    exact fun hn => of_decide_eq_true hn ((let_at ex wz hp _).mpr rfl)
  rw [h1, Option.none_or, List.singleton_append, List.find?_cons_of_pos]
  obtain ⟨hp, e⟩ := rowsD_mem (List.mem_of_getElem? h)
  have hv : r.2.1 = its.lookup r.1 := by rw [e]; rfl
  have hf : r.2.2 = (mkR z j1 j2 (begs (its.map (·.1))) its r.1).2.2 := congrArg (fun x : Rw => x.2.2) e
  refine decide_eq_true fun hm => ?_
  have hm : kdOf z (ordW z (begs (its.map (·.1)))) (r.1, r.2.1, !r.2.2) ∈ (if r.1 = [] then j1 else j2) := hm
  rw [hv] at hm
  have := (let_at ex wz hp _).mp hm
  rw [← hf] at this
  cases h : r.2.2 <;> rw [h] at this <;> cases this
/-- an end without a value -/
theorem bad_end {z : Wd} {j1 j2 : List Kd} (ex : Ex j1 j2) {ps : List Wd} {rs : List Rw} {q : Wd} {f : Bool} (hq : q ∉ ps) (h0 : q ≠ []) (clo : ∀ p ∈ ps, p.dropLast ∈ ps) (hk : ∀ p, p ∈ rs.map (·.1) ↔ p ∈ ps ∨ p = q) (hm : (q, none, f) ∈ rs) : (badR z rs j1 j2).isNone = false := by
  have hkid : kids z (rs.map (·.1)) q = [] := by
    unfold kids
    rw [List.filter_eq_nil_iff]
    intro c _ e
    rcases (hk _).mp (of_decide_eq_true e) with h | h
    · exact hq (by have := clo _ h; rwa [List.dropLast_concat] at this)
    · have := congrArg List.length h
      simp at this
  cases hb : badR z rs j1 j2 with
  | some r => rfl
  | none =>
    unfold badR at hb
    rw [List.find?_eq_none] at hb
    have := hb _ hm
    exfalso
    refine this (decide_eq_true ?_)
    show kdOf z (rs.map (·.1)) (q, none, f) ∉ (if q = [] then j1 else j2)
    rw [if_neg h0]
    unfold kdOf
    rw [hkid]
    intro hin
    exact absurd ((in2 ex (s := (false, 0)) (by decide) f).mp hin).1 (by decide)
end Toy
set_option Elab.async false
set_option linter.all false
set_option maxRecDepth 100000
set_option maxHeartbeats 4000000
namespace Toy
open PySem L2 Sh ShL LamX NdefX
theorem mk_tree0 {T : List (Addr × Str)} {C CL CM CR CN : Addr} {H : Hp} {z : Wd} {a : Addr} {xs : List V} {us : List Rw} {Q : VK} {E : XK} (hz : LetOk z) (ha : H a = some (.lst xs)) (tb : Tabs T H) (pr : Paired (RwT H) xs us) (ok : ∀ r ∈ us, RwOk z r) (nd : (us.map (·.1)).Nodup) (par : ∀ p ∈ us.map (·.1), p.dropLast ∈ us.map (·.1)) (h1 : 1 ≤ us.length) (h2 : us.length ≤ 2000)
    (q : ∀ rs, us.Perm rs → rs.map (·.1) = ordW z (us.map (·.1)) → ∀ H' o, Sm T H H' → TreeAt C H' o z rs → Q (.ref o) H') :
    ∀ x dx, H x = none → H dx = none → dx ≠ x → spInit T C CL CM CR CN (.ref x :: ([.str (sw z), .ref a] ++ [])) (upd (upd H dx (.own x)) x (.ins C dx [])) (fun v H2 => v = .non ∧ Q (.ref x) H2) E := by
  have xl : xs.length = us.length := pr.length
  refine mk_treeG (os := us.map some) hz (.inl ha) (by omega) tb (fun _ _ => rowO_of (paired_mono (fun _ _ h => RwT.e h) pr) ok) (fun hn => absurd ⟨by omega, by omega⟩ hn) (fun _ _ i w => (wrongR_no nd w).elim) (fun _ _ vs p f l => ?_) (fun _ _ vs rs f _ pm od H' o sm t => ?_)
  · rw [fineR_inj f, lone_of_par par] at l
    cases l
  · have e := fineR_inj f
    subst e
    exact q rs pm od H' o sm t
/-- Tree(letters, a list of right rows) -/
theorem tree_mk {T : List (Addr × Str)} {C CL CM CR CN : Addr} {targs : TA} {σ : L2.St} {H : Hp} {Q : VK} {E : XK} {z : Wd} (hz : LetOk z)
    (hargs : ∀ R : List V → Hp → Prop, (∀ (H2 : Hp) (a : Addr) (xs : List V) (us : List Rw), H2 a = some (.lst xs) → Tabs T H2 → Paired (RwT H2) xs us → (∀ r ∈ us, RwOk z r) → (us.map (·.1)).Nodup → (∀ p ∈ us.map (·.1), p.dropLast ∈ us.map (·.1)) → 1 ≤ us.length → us.length ≤ 2000 →
      (∀ rs, us.Perm rs → rs.map (·.1) = ordW z (us.map (·.1)) → ∀ H' o, Sm T H2 H' → TreeAt C H' o z rs → Q (.ref o) H') → R [.str (sw z), .ref a] H2) → targs σ H R) :
    tMake C (spInit T C CL CM CR CN) [] E targs σ H Q :=
  hargs _ fun H2 a xs us ha tb pr ok nd par h1 h2 q => mk_tree0 hz ha tb pr ok nd par h1 h2 q
/-- what the place becomes: longer while it is there -/
def Ext (ps : List Wd) (z p0 : Wd) (j : Nat) (p : Wd) : Prop := (∀ c ∈ p, c ∈ z) ∧ ((p ∈ ps ∧ p.length = p0.length + j) ∨ (p ∉ ps ∧ p ≠ [] ∧ p.dropLast ∈ ps ∧ p.length ≤ 200))
def spOnly (P : Program) (w : World) (K : PySem.W.Frag) (T : List (Addr × Str)) (C : Addr) : Sp := fun vs H Q _ => ∃ (d c : Addr) (n : Nat) (x ra : Addr) (z : Wd) (j1 j2 : List Kd) (its : List It2) (ws : List V), vs = [.ref d, .ref x, .str (sw z), .ref ra] ∧ Pen H d c n ∧ n ≤ 50000 ∧ RuleAt C H x j1 j2 ∧ Ex j1 j2 ∧ LetOk z ∧ z.length ≤ 5 ∧ Its z its ∧ its.length ≤ 6 ∧ H ra = some (.lst ws) ∧ Paired (RwT H) ws (rowsD z j1 j2 its) ∧ Tabs T H ∧
  ∀ H', SmK T d H H' → Pen H' d c (n + 1) → Q (.bl true) H'
section
variable {P : Program} {w : World} {K : PySem.W.Frag} {mg : Str → Option Value} {base : Heap}
theorem ok_l_only_right (T : Tx P K mg) (B : Bx T base) : FnOk P w K mg base CX0 10 T.a_l_only_right T.fd_l_only_right ["_law_pen_here", "_law_rule", "_law_letters_here", "_law_rows"] (spOnly P w K (tabs T) T.c_Rule) := by
  refine okT T.F_l_only_right sc_l_only_right (fun vs H Q E h => ?_) (fun cdv A outer s H vs Q E hcd hr h => ?_)
  · obtain ⟨d, c, n, x, ra, z, j1, j2, its, ws, rfl, _⟩ := h
    rfl
  have hu := hu_of hr
  have hu65 := hu65_of hr
  obtain ⟨d, c, n, x, ra, z, j1, j2, its, ws, rfl, hp, hn, hx, ex, lz, l5, ok, il, gra, pr, tb, q⟩ := h
  have z2 := lz.l2
  have z26 := lz.l26
  obtain ⟨c0, hc0⟩ : ∃ c0, z[0]? = some c0 := ⟨_, List.getElem?_eq_getElem (by omega)⟩
  obtain ⟨c1, hc1⟩ : ∃ c1, z[1]? = some c1 := ⟨_, List.getElem?_eq_getElem (by omega)⟩
  have wz : ∀ it ∈ its, ∀ c ∈ it.1, c ∈ z := fun it hit => (ok.ok it hit).2.1
  have fst := rowsD_fst z j1 j2 its
  have rok : ∀ r ∈ rowsD z j1 j2 its, RwOk z r := rowsD_ok fun it hit => ok.ok it hit
  have bl : (begs (its.map (·.1))).length ≤ 31 := by
    have := begs5 (ws := its.map (·.1)) (fs := [[]]) fun w hw => by
      obtain ⟨it, hit, rfl⟩ := List.mem_map.mp hw
      exact ok.l5 it hit
    rw [List.length_map] at this
    simp only [List.length_cons, List.length_nil] at this
    exact Nat.le_trans this (by omega)
  have rl : (rowsD z j1 j2 its).length = (begs (its.map (·.1))).length := by rw [← List.length_map (f := fun r : Rw => r.1), fst, ordW_len]
  have rl1 : 1 ≤ (rowsD z j1 j2 its).length := by rw [rl]; exact List.length_pos_of_mem (begs_clo (its.map (·.1))).1
  have rnd : ((rowsD z j1 j2 its).map (·.1)).Nodup := by rw [fst]; exact ordW_nodup (begs_nd _)
  have b5 : ∀ p ∈ (rowsD z j1 j2 its).map (·.1), p.length ≤ 5 := fun p hp => by
    rw [fst, ordW_mem] at hp
    rcases begs_mem.mp hp with rfl | ⟨w, hw, m, rfl⟩
    · simp
    · obtain ⟨it, hit, rfl⟩ := List.mem_map.mp hw
      have := ok.l5 it hit
      rw [List.length_take]
      omega
  have rpar : ∀ p ∈ (rowsD z j1 j2 its).map (·.1), p.dropLast ∈ (rowsD z j1 j2 its).map (·.1) := fun p hp => by
    rw [fst, ordW_mem] at hp ⊢
    rw [List.dropLast_eq_take]
    exact (begs_clo _).2 p hp _
  have bz : ∀ p ∈ (rowsD z j1 j2 its).map (·.1), ∀ c ∈ p, c ∈ z := fun p hp => by
    obtain ⟨r, hr, rfl⟩ := List.mem_map.mp hp
    exact (rok r hr).wd
  have keep0 : ∀ (i : Nat) (r : Rw), (rowsD z j1 j2 its)[i]? = some r → badR z ((rowsD z j1 j2 its).take i ++ [(r.1, r.2.1, !r.2.2)] ++ (rowsD z j1 j2 its).drop (i + 1)) j1 j2 = some (r.1, r.2.1, !r.2.2) := fun i r h => bad_flip ex wz h
  have idem : ordW z ((rowsD z j1 j2 its).map (·.1)) = (rowsD z j1 j2 its).map (·.1) := by
    rw [fst]
    exact ordW_idem fun p hp => bz p (by rw [fst]; exact ordW_mem.mpr hp)
  generalize rowsD z j1 j2 its = rs at *
  have wl : ws.length = rs.length := pr.length
  refine ⟨_, (pss_cons (ps_set (i := 4) sc_l_only_right.nd rfl (by first | exact Or.inl rfl | exact Or.inr rfl) (pe_call (ok_l_draw (w := w) T B) (hr.mono (by decide)) (by rfl) T.m_l_draw T.F_l_draw.kp T.bi_l_draw .nil pass0 (pa_cons (pv 0) (pa_cons (pe_callB call_len_seq (by rfl) T.b_len (by decide +kernel) (pa_cons (pv 3) pa_nil)) pa_nil))))
 (pss_cons (ps_asg (pe_ix ix_list (pv 3) (pv 4) (fun _ _ => rfl)) (pg_tup rfl (pgs_cons (pg_name (i := 5) sc_l_only_right.nd rfl (by first | exact Or.inl rfl | exact Or.inr rfl)) (pgs_cons (pg_name (i := 6) sc_l_only_right.nd rfl (by first | exact Or.inl rfl | exact Or.inr rfl)) (pgs_cons (pg_name (i := 7) sc_l_only_right.nd rfl (by first | exact Or.inl rfl | exact Or.inr rfl)) pgs_nil)))))
 (pss_cons (ps_set (i := 8) sc_l_only_right.nd rfl (by first | exact Or.inl rfl | exact Or.inr rfl) (pe_make (E := fun _ _ _ => False) T.mk_Tree (ok_Tree_init (w := w) T B) (hr.mono (by decide)) (by rfl) T.m_Tree T.bi_Tree_init .nil (passes_call LamX.takes0 (fun _ _ _ _ h => h)) (pa_cons (pv 2) (pa_cons (pe_op op_cat (pe_op op_cat (pe_slice sl_list (pv 3) po_none (po_some (pv 4))) (pe_lst (pa_cons (pe_tup (pa_cons (pv 5) (pa_cons (pv 6) (pa_cons (pe_not (pv 7)) pa_nil)))) pa_nil))) (pe_slice sl_list (pv 3) (po_some (pe_op op_add (pv 4) pe_int)) po_none)) pa_nil))))
 (pss_cons (ps_if (PW.pt (pw_or (pt_val (pe_meth (pv 1) T.cl_Rule T.me_Rule_keeps (ok_Rule_keeps (w := w) T B) (hr.mono (by decide)) T.bi_Rule_keeps .nil pass0 (pa_cons (pv 8) pa_nil))) (pw_or1 (pt_cmpR op_ne (pe_meth (pv 1) T.cl_Rule T.me_Rule_broken_at (ok_Rule_broken_at (w := w) T B) (hr.mono (by decide)) T.bi_Rule_broken_at .nil pass0 (pa_cons (pv 8) pa_nil)) (pv 5) (nomark _)))))
 (pss_one (ps_ret pe_bl))
 pss_nil)
 (pss_cons (ps_setLc (i := 9) (own := [("_law_row", 11)]) (g := gName 11) rfl sc_l_only_right.nd rfl rfl (sw_true rfl rfl rfl (by decide +kernel)) (pi_list (pv 3)) (blkOk_by (own := [("_law_row", 11)]) (N := N_l_only_right) (sc := defScope s_l_only_right) (by decide +kernel)) (fun _ _ _ _ _ => (pg_name (i := 11) sc_l_only_right.nd rfl (by first | exact Or.inl rfl | exact Or.inr rfl))) (fun _ _ _ _ _ => pts_nil) (fun _ _ _ _ _ => (pe_ix (by exact ix_tup : IxR _ (rIxT K)) (pv 11) pe_int (fun _ _ => rfl))))
 (pss_cons (ps_for PassesOwn.never rfl (pi_range1 (by rfl) T.b_range (pa_cons pe_int pa_nil)) (pg_name (i := 10) sc_l_only_right.nd rfl (by first | exact Or.inl rfl | exact Or.inr rfl))
 (pss_one (ps_if (pt_cmpR op_in_seq (pv 5) (pv 9) (by rfl))
 (pss_one (ps_set (i := 5) sc_l_only_right.nd rfl (by first | exact Or.inl rfl | exact Or.inr rfl) (pe_op op_add_str (pv 5) (pe_ix ix_str (pv 2) (pe_op op_odd (pv 10) pe_int) (fun _ _ => rfl)))))
 pss_nil)))
 (pss_one (ps_ret (pe_not (pe_meth (pv 1) T.cl_Rule T.me_Rule_keeps (ok_Rule_keeps (w := w) T B) (hr.mono (by decide)) T.bi_Rule_keeps .nil pass0 (pa_cons (pe_make (E := fun _ _ _ => False) T.mk_Tree (ok_Tree_init (w := w) T B) (hr.mono (by decide)) (by rfl) T.m_Tree T.bi_Tree_init .nil (passes_call LamX.takes0 (fun _ _ _ _ h => h)) (pa_cons (pv 2) (pa_cons (pe_op op_cat (pv 3) (pe_lst (pa_cons (pe_tup (pa_cons (pv 5) (pa_cons pe_non (pa_cons (pv 7) pa_nil)))) pa_nil))) pa_nil))) pa_nil))))))))))), ?_⟩
  refine ⟨_, rfl, _, rfl, ra, ws, rfl, .inl (SqL.of gra), d, c, n, _, rfl, hp, by omega, by omega, by omega, fun H1 at' a0 a1 k1 p1 => ?_⟩
  obtain ⟨i, rfl⟩ : ∃ j : Nat, at' = (j : Int) := ⟨at'.toNat, by omega⟩
  have km1 : SmK (tabs T) d H H1 := (SmK.of (Sm.refl tb)).kpD hp k1
  have gra1 := kp_lst hp k1 gra
  have pr1 : Paired (RwT H1) ws rs := paired_mono (fun _ _ ⟨g, e, h⟩ => ⟨g, e, kp_tup hp k1 h⟩) pr
  have hx1 := RuleAt.kp hp k1 hx
  obtain ⟨u, hu1⟩ : ∃ u, ws[i]? = some u := ⟨_, List.getElem?_eq_getElem (by omega)⟩
  obtain ⟨r, hr2, g, rfl, hg⟩ := paired_ix pr1 hu1
  obtain ⟨p0, o0, f0⟩ := r
  have hp0 : p0 ∈ rs.map (·.1) := List.mem_map.mpr ⟨_, List.mem_of_getElem? hr2, rfl⟩
  dsimp only [gName]
  refine ⟨_, rfl, _, rfl, ra, _, _, _, rfl, rfl, SqL.of gra1, atI_nat hu1, ?_⟩
  refine ⟨g, _, rfl, SqT.of hg, rfl, _, _, rfl, _, _, rfl, _, _, rfl, rfl, ?_⟩
  dsimp only [gName]
  -- a flag turned
  refine asgI ?_
  refine tree_mk lz fun R hR => ?_
  refine ⟨_, rfl, _, rfl, _, rfl, _, rfl, ra, ws, rfl, SqL.of gra1, fun q1 hq1 => ?_⟩
  rw [cut_take]
  have s2 := same_upd (o := .lst (ws.take i)) hq1
  have g2 : (upd H1 q1 (.lst (ws.take i))) q1 = some (.lst (ws.take i)) := upd_same
  generalize upd H1 q1 (.lst (ws.take i)) = H2 at s2 g2
  refine ⟨_, rfl, _, rfl, _, rfl, _, rfl, by show 3 ≤ sizeLine; decide, fun t ht => ⟨by show 1 ≤ sizeLine; decide, fun q2 hq2 => ?_⟩⟩
  have s3 := same_upd (o := .tup [V.str (sw p0), oV o0, .bl (!f0)]) ht
  have s4 := same_upd (o := .lst [V.ref t]) hq2
  have gt : RwT (upd (upd H2 t (.tup [V.str (sw p0), oV o0, .bl (!f0)])) q2 (.lst [V.ref t])) (.ref t) (p0, o0, !f0) := ⟨t, rfl, s4 _ _ upd_same⟩
  have gq2 : (upd (upd H2 t (.tup [V.str (sw p0), oV o0, .bl (!f0)])) q2 (.lst [V.ref t])) q2 = some (.lst [V.ref t]) := upd_same
  have s4 := s3.trans s4
  have gq1 := s4 _ _ g2
  have s4 := s2.trans s4
  generalize upd (upd H2 t (.tup [V.str (sw p0), oV o0, .bl (!f0)])) q2 (.lst [V.ref t]) = H4 at gt gq2 s4 gq1
  refine ⟨q1, q2, _, _, rfl, rfl, gq1, gq2, by rw [List.length_take, sizeLine_eq]; show _ + 1 ≤ _; omega, fun q3 hq3 => ?_⟩
  have s5 := same_upd (o := .lst (ws.take i ++ [V.ref t])) hq3
  have gq3 : (upd H4 q3 (.lst (ws.take i ++ [V.ref t]))) q3 = some (.lst (ws.take i ++ [V.ref t])) := upd_same
  have gt := RwT.same s5 gt
  have s5 := s4.trans s5
  generalize upd H4 q3 (.lst (ws.take i ++ [V.ref t])) = H5 at s5 gq3 gt
  refine ⟨_, rfl, _, rfl, _, _, rfl, rfl, _, rfl, ra, ws, rfl, SqL.of (s5 _ _ gra1), fun q4 hq4 => ?_⟩
  rw [show ((i : Int) + 1) = ((i + 1 : Nat) : Int) by omega, cut_drop]
  have s6 := same_upd (o := .lst (ws.drop (i + 1))) hq4
  have gq4 : (upd H5 q4 (.lst (ws.drop (i + 1)))) q4 = some (.lst (ws.drop (i + 1))) := upd_same
  have gq3 := s6 _ _ gq3
  have gt := RwT.same s6 gt
  have s6 := s5.trans s6
  generalize upd H5 q4 (.lst (ws.drop (i + 1))) = H6 at s6 gq3 gq4 gt
  refine ⟨q3, q4, _, _, rfl, rfl, gq3, gq4, by rw [List.length_append, List.length_take, List.length_drop, sizeLine_eq]; show _ + 1 + _ ≤ _; omega, fun q5 hq5 => ?_⟩
  have s7 := same_upd (o := .lst (ws.take i ++ [V.ref t] ++ ws.drop (i + 1))) hq5
  have gq5 : (upd H6 q5 (.lst (ws.take i ++ [V.ref t] ++ ws.drop (i + 1)))) q5 = some (.lst (ws.take i ++ [V.ref t] ++ ws.drop (i + 1))) := upd_same
  have gt := RwT.same s7 gt
  have s7 := s6.trans s7
  generalize upd H6 q5 (.lst (ws.take i ++ [V.ref t] ++ ws.drop (i + 1))) = H7 at s7 gq5 gt
  have km7 := km1.same s7
  have pr7 := paired_mono (fun _ _ h => RwT.same s7 h) pr1
  have hus : (rs.take i ++ [((p0, o0, !f0) : Rw)] ++ rs.drop (i + 1)).map (·.1) = rs.map (·.1) := by
    obtain ⟨hi, e⟩ := List.getElem?_eq_some_iff.mp hr2
    conv => rhs; rw [← List.take_append_drop i rs, List.drop_eq_getElem_cons hi, e]
    simp
  have r0k := rok _ (List.mem_of_getElem? hr2)
  have usok : ∀ r ∈ rs.take i ++ [((p0, o0, !f0) : Rw)] ++ rs.drop (i + 1), RwOk z r := fun r hr => by
    rcases List.mem_append.mp hr with hr | hr
    · rcases List.mem_append.mp hr with hr | hr
      · exact rok r (List.mem_of_mem_take hr)
      · rw [List.mem_singleton.mp hr]
        exact ⟨r0k.wd, r0k.l200, r0k.3⟩
    · exact rok r (List.mem_of_mem_drop hr)
  have usl : (rs.take i ++ [((p0, o0, !f0) : Rw)] ++ rs.drop (i + 1)).length = rs.length := by rw [← List.length_map (f := fun r : Rw => r.1), hus, List.length_map]
  have kbad := keep0 i _ hr2
  have upr : Paired (RwT H7) (ws.take i ++ [V.ref t] ++ ws.drop (i + 1)) (rs.take i ++ [((p0, o0, !f0) : Rw)] ++ rs.drop (i + 1)) := paired_app (paired_app (paired_take i pr7) (.cons gt .nil)) (paired_drop (i + 1) pr7)
  generalize hue : rs.take i ++ [((p0, o0, !f0) : Rw)] ++ rs.drop (i + 1) = us at hus usok usl upr
  have kbad : badR z us j1 j2 = some (p0, o0, !f0) := by rw [← hue]; exact kbad
  refine hR H7 q5 _ us gq5 km7.2 upr usok (by rw [hus]; exact rnd) (by rw [hus]; exact rpar) (by omega) (by omega) fun rs' pm od H8 o sm8 t8 => ?_
  rw [hus, idem, ← hus] at od
  rw [rows_uniq pm (by rw [hus]; exact rnd) od] at t8
  have km8 := km7.sm sm8
  have hx8 := RuleAt.sm sm8 (RuleAt.same s7 hx1)
  have gra8 := sm8.get (s7 _ _ gra1)
  have pr8 := paired_mono (fun _ _ h => RwT.sm sm8 h) pr7
  have p8 := pen_sm sm8 (p1.same s7)
  obtain ⟨dx8, b1, b2, y1, y2, hx8a, hx8b, hx8c, hx8d, hx8e⟩ := id hx8
  dsimp only [gName]
  refine ⟨_, rfl, x, dx8, _, rfl, hx8a, flds_no (by decide +kernel) (by decide +kernel), _, rfl, x, o, z, us, j1, j2, rfl, hx8, t8, by rw [hus]; exact rnd, z26, by omega, fun H9 s9 => ⟨_, rfl, ?_⟩⟩
  rw [kbad]
  refine iteF ?_
  refine ⟨_, rfl, x, dx8, _, rfl, s9 _ _ hx8a, flds_no (by decide +kernel) (by decide +kernel), _, rfl, x, o, z, us, j1, j2, rfl, RuleAt.same s9 hx8, t8.same s9, by rw [hus]; exact rnd, z26, by omega, fun H10 s10 => ?_⟩
  rw [kbad]
  refine ⟨_, rfl, rfl, _, rfl, ?_⟩
  rw [show (!decide (brV (some ((p0, o0, !f0) : Rw)) = V.str (sw p0))) = false by simp [brV]]
  refine iteF ?_
  have s10 := s9.trans s10
  have km10 := km8.same s10
  have gra10 := s10 _ _ gra8
  have pr10 := paired_mono (fun _ _ h => RwT.same s10 h) pr8
  have p10 := p8.same s10
  have hx10 := RuleAt.same s10 hx8
  refine nextS ?_
  dsimp only
  -- an end more
  refine asgI ?_
  refine ⟨_, rfl, ra, rfl, ⟨_, SqL.of gra10⟩, fun D hD => ?_⟩
  refine lcF (walk_list (K := K) (a := ra) (xs := ws)) yat pr10 hD (fun H' s => SqL.of (s _ _ gra10)) (by omega) (fun _ => true) (fun r => .str (sw r.1)) (fun v r H' R N hr ex s k1 _ => ?_) (fun H11 s11 hD11 => ?_)
  · obtain ⟨e, rfl, he⟩ := RwT.same s ex
    exact ⟨rfl, yes_ite ⟨_, rfl, e, _, _, _, rfl, rfl, SqT.of he, atI_nat (j := 0) rfl, k1 rfl⟩⟩
  rw [filter_tt] at hD11
  have hws : rs.map (fun r => V.str (sw r.1)) = wsV (rs.map (·.1)) := by unfold wsV; rw [List.map_map]; rfl
  rw [hws] at hD11
  have km11 := km10.same s11
  have gra11 := s11 _ _ gra10
  have pr11 := paired_mono (fun _ _ h => RwT.same s11 h) pr10
  have p11 := p10.same s11
  have hx11 := RuleAt.same s11 hx10
  dsimp only [gName]
  refine ⟨_, rfl, by decide, by decide, ?_⟩
  refine for_range (lo := 0) (n := 9) (fun j σ H' => (∃ v10 p, σ = [some (.ref d), some (.ref x), some (.str (sw z)), some (.ref ra), some (.int (i : Nat)), some (.str (sw p)), some (oV o0), some (.bl f0), some (.ref o), some (.ref D), v10, none] ∧ Ext (rs.map (·.1)) z p0 j p) ∧ H' = H11)
    ⟨⟨_, p0, rfl, bz p0 hp0, .inl ⟨hp0, rfl⟩⟩, rfl⟩ (fun j σ H' hj ⟨⟨v10, p, e, ext⟩, eH⟩ => ?_) (fun σ H' ⟨⟨v10, p, e, ext⟩, eH⟩ => ?_)
  · subst e eH
    refine ⟨_, rfl, _, rfl, D, _, rfl, .inl (SqL.of hD11), rfl, wsV_flat _, _, rfl, ?_⟩
    rw [wsV_in]
    refine ite2 (fun h => ?_) (fun h => ?_)
    · have hm : p ∈ rs.map (·.1) := of_decide_eq_true h
      have pl := b5 p hm
      rcases ext.2 with ⟨_, el⟩ | ⟨hn, _⟩
      · obtain ⟨c, hc⟩ : ∃ c, z[j % 2]? = some c := ⟨_, List.getElem?_eq_getElem (by omega)⟩
        refine ⟨_, rfl, _, rfl, _, rfl, j, by rw [Int.zero_add], rfl, sw z, _, c, rfl, rfl, by rw [sw_len, sizeLine_eq]; omega, atI_nat hc, ?_⟩
        refine ⟨_, _, rfl, rfl, by rw [sw_len, sizeLine_eq]; show _ + 1 ≤ _; omega, ?_⟩
        rw [sw_one, sw_app]
        refine ⟨⟨_, p ++ [c], rfl, fun c' hc' => ?_, ?_⟩, rfl⟩
        · rcases List.mem_append.mp hc' with hc' | hc'
          · exact ext.1 c' hc'
          · rw [List.mem_singleton.mp hc']; exact List.mem_of_getElem? hc
        · by_cases hm2 : p ++ [c] ∈ rs.map (·.1)
          · exact .inl ⟨hm2, by rw [List.length_append, el]; rfl⟩
          · exact .inr ⟨hm2, by simp, by rw [List.dropLast_concat]; exact hm, by rw [List.length_append]; show _ + 1 ≤ _; omega⟩
      · exact absurd hm hn
    · have hn : p ∉ rs.map (·.1) := fun z => h (decide_eq_true z)
      refine ⟨⟨_, p, rfl, ext.1, ?_⟩, rfl⟩
      rcases ext.2 with ⟨hm, _⟩ | h'
      · exact absurd hm hn
      · exact .inr h'
  subst e eH
  obtain ⟨ez, ext⟩ := ext
  have ext : p ∉ rs.map (·.1) ∧ p ≠ [] ∧ p.dropLast ∈ rs.map (·.1) ∧ p.length ≤ 200 := by
    rcases ext with ⟨hm, el⟩ | h
    · have := b5 p hm
      omega
    · exact h
  obtain ⟨en, e0, ed, el⟩ := ext
  dsimp only
  obtain ⟨dx11, c1', c2', y3, y4, hx11a, _⟩ := id hx11
  refine ⟨_, rfl, x, dx11, _, rfl, hx11a, flds_no (by decide +kernel) (by decide +kernel), ?_⟩
  refine consI (tree_mk lz fun R hR => ?_)
  refine ⟨_, rfl, _, rfl, _, rfl, _, rfl, by show 3 ≤ sizeLine; decide, fun t2 ht2 => ⟨by show 1 ≤ sizeLine; decide, fun q6 hq6 => ?_⟩⟩
  have s12 := same_upd (o := .tup [V.str (sw p), .non, .bl f0]) ht2
  have s13 := same_upd (o := .lst [V.ref t2]) hq6
  have gt2 := s13 _ _ (upd_same (H := H') (a := t2) (o := .tup [V.str (sw p), .non, .bl f0]))
  have gq6 := upd_same (H := upd H' t2 (.tup [V.str (sw p), .non, .bl f0])) (a := q6) (o := .lst [V.ref t2])
  have s13 := s12.trans s13
  generalize upd (upd H' t2 (.tup [V.str (sw p), .non, .bl f0])) q6 (.lst [V.ref t2]) = H13 at s13 gt2 gq6
  refine ⟨ra, q6, _, _, rfl, rfl, s13 _ _ gra11, gq6, by rw [sizeLine_eq]; show _ + 1 ≤ _; omega, fun q7 hq7 => ?_⟩
  have s14 := same_upd (o := .lst (ws ++ [V.ref t2])) hq7
  have gq7 : (upd H13 q7 (.lst (ws ++ [V.ref t2]))) q7 = some (.lst (ws ++ [V.ref t2])) := upd_same
  have gt2 := s14 _ _ gt2
  have s14 := s13.trans s14
  generalize upd H13 q7 (.lst (ws ++ [V.ref t2])) = H14 at s14 gq7 gt2
  have km14 := km11.same s14
  have upr2 : Paired (RwT H14) (ws ++ [V.ref t2]) (rs ++ [((p, none, f0) : Rw)]) := paired_app (paired_mono (fun _ _ h => RwT.same s14 h) pr11) (.cons ⟨t2, rfl, gt2⟩ .nil)
  have keys2 : (rs ++ [((p, none, f0) : Rw)]).map (·.1) = rs.map (·.1) ++ [p] := by simp
  refine hR H14 q7 _ (rs ++ [((p, none, f0) : Rw)]) gq7 km14.2 upr2 (fun r hr => ?_) ?_ ?_ (by rw [List.length_append]; show 1 ≤ _ + 1; omega) (by rw [List.length_append]; show _ + 1 ≤ _; omega) fun rs2 pm2 od2 H15 o2 sm15 t15 => ?_
  · rcases List.mem_append.mp hr with hr | hr
    · exact rok r hr
    · rw [List.mem_singleton.mp hr]
      exact ⟨ez, el, fun i e => by cases e⟩
  · rw [keys2]
    exact List.nodup_append.mpr ⟨rnd, by simp, fun a ha b hb e => by rw [List.mem_singleton.mp hb] at e; exact en (e ▸ ha)⟩
  · rw [keys2]
    intro q hq
    rcases List.mem_append.mp hq with hq | hq
    · exact List.mem_append_left _ (rpar q hq)
    · rw [List.mem_singleton.mp hq]
      exact List.mem_append_left _ ed
  have km15 := km14.sm sm15
  have hx15 := RuleAt.sm sm15 (RuleAt.same s14 hx11)
  have rl2 : rs2.length = rs.length + 1 := by rw [← pm2.length_eq, List.length_append]; rfl
  have nd2 : (rs2.map (·.1)).Nodup := by
    rw [od2, keys2]
    exact ordW_nodup (List.nodup_append.mpr ⟨rnd, by simp, fun a ha b hb e => by rw [List.mem_singleton.mp hb] at e; exact en (e ▸ ha)⟩)
  refine ⟨x, o2, z, rs2, j1, j2, rfl, hx15, t15, nd2, z26, by omega, fun H16 s16 => ⟨_, rfl, ?_⟩⟩
  rw [bad_end ex en e0 rpar (fun p' => by rw [od2, ordW_mem, keys2, List.mem_append, List.mem_singleton]) (pm2.mem_iff.mp (List.mem_append_right _ (List.mem_singleton.mpr rfl)))]
  exact q _ (km15.same s16) ((pen_sm sm15 (p11.same s14)).same s16)
end
end Toy
set_option Elab.async false
set_option linter.all false
set_option maxRecDepth 100000
set_option maxHeartbeats 4000000
namespace Toy
open PySem L2 Sh ShL LamX NdefX
abbrev rCatE : R2 := fun x y H Q => ∃ i j, x = V.str i ∧ y = V.str j ∧ i.length + j.length ≤ sizeLine ∧ Q (V.str (i ++ j)) H
/-- things that are no pairs -/
theorem seven {z : Wd} {c0 c1 : Nat} {σ : L2.St} {H : Hp} {Q : VK} (e : σ[2]? = some (some (.str (sw z)))) (lz : LetOk z) (l5 : z.length ≤ 5) (hc0 : z[0]? = some c0) (hc1 : z[1]? = some c1)
    (k : ∀ H' p xs, Same H H' → H p = none → H' p = some (.lst xs) → xs.length = 7 → (∀ x ∈ xs, OddI z H' x) → Q (.ref p) H') :
    tLst (tCons (tTup (tCons (tC (.str "A")) (tCons (tC (.int 1)) tNil))) (tCons (tTup (tCons (tOp rRepW (tOp rIxS (tVar 2) (tC (.int 0))) (tC (.int 9))) (tCons (tC (.int 0)) tNil))) (tCons (tC .non)
      (tCons (tTup (tCons (tVar 2) (tCons (tC (.int 1)) (tCons (tC (.int 1)) tNil)))) (tCons (tTup (tCons (tOp rRepW (tOp rIxS (tVar 2) (tC (.int 1))) (tC (.int 201))) (tCons (tC (.int 3)) tNil)))
      (tCons (tTup (tCons (tC (.str "")) (tCons (tC (.str "1")) tNil))) (tCons (tLst tNil) tNil))))))) σ H Q := by
  have m0 : c0 ∈ z := List.mem_of_getElem? hc0
  have n65 : 65 ∉ z := fun h => absurd (lz.sm _ h) (by decide +kernel)
  exact lst_p1 (P := OddI z) (n := 7)
    (p1_cons OddI.m (p1_two false true (p1_se (P := fun H x => WdV H z x false) (se_c (w := [65]) (by decide +kernel)) fun H => wd_bad (c := 65) (by decide) List.mem_cons_self n65) (p1_c fun H => vi_int (by decide)) rfl)
    (p1_cons OddI.m (p1_two true false (p1_se (P := fun H x => WdV H z x true) (se_rep (n := 9) (se_ix (i := 0) (se_var (w := z) e) (by omega) hc0) (by decide)) fun H => wd_w (by simp) (decide_eq_true ⟨by simp, fun c hc => by rw [List.eq_of_mem_replicate hc]; exact m0⟩).symm) (p1_c fun H => vi_int (by decide)) rfl)
    (p1_cons OddI.m (p1_c fun H => oddI_ty (t := "NoneType") rfl (by decide) (by decide))
    (p1_cons OddI.m (p1_tup (cn_var e (cn_cons (cn_cons cn_nil))) (by show 3 ≤ 10; decide) fun H p hp => oddI_len (.inr hp) (by show 3 ≠ 2; decide))
    (p1_cons OddI.m (p1_two false true (p1_se (P := fun H x => WdV H z x false) (se_rep (n := 201) (se_ix (i := 1) (se_var (w := z) e) (by omega) hc1) (by decide)) fun H => wd_long (by simp) (by simp)) (p1_c fun H => vi_int (by decide)) rfl)
    (p1_cons OddI.m (p1_two true false (p1_se (P := fun H x => WdV H z x true) (se_c (w := []) mt_eq) fun H => wd_w (by decide) (decide_eq_true ⟨by decide, fun c hc => by cases hc⟩).symm) (p1_c fun H => vi_t (t := "str") rfl (by decide)) rfl)
    (p1_cons OddI.m (p1_lst cn_nil (by decide) fun H p hp => oddI_len (.inl hp) (by decide))
    p1_nil))))))) OddI.m (by decide) k
/-- things that are no letters -/
theorem sevenL {z : Wd} {c0 : Nat} {σ : L2.St} {H : Hp} {Q : VK} (e : σ[2]? = some (some (.str (sw z)))) (lz : LetOk z) (l5 : z.length ≤ 5) (hc0 : z[0]? = some c0)
    (k : ∀ H' p xs, Same H H' → H p = none → H' p = some (.lst xs) → xs.length = 7 → (∀ x ∈ xs, OddL H' x) → Q (.ref p) H') :
    tLst (tCons (tC (.str "a")) (tCons (tC (.str "abb")) (tCons (tOp rCatE (tVar 2) (tC (.str "B"))) (tCons (tC .non) (tCons (tC (.int 5)) (tCons (tLst (tCons (tVar 2) tNil)) (tCons (tOp rCatE (tVar 2) (tOp rIxS (tVar 2) (tC (.int 0)))) tNil))))))) σ H Q := by
  have m0 : c0 ∈ z := List.mem_of_getElem? hc0
  exact lst_p1 (P := OddL) (n := 7)
    (p1_cons OddL.m (p1_se (se_c (w := [97]) (by decide +kernel)) fun H => oddL_w (by decide) (no_short (by decide)))
    (p1_cons OddL.m (p1_se (se_c (w := [97, 98, 98]) (by decide +kernel)) fun H => oddL_w (by decide) (no_dup (by decide)))
    (p1_cons OddL.m (p1_se (se_cat (se_var e) (se_c (w := [66]) (by decide +kernel)) (by simp; omega)) fun H => oddL_w (by simp; omega) (no_bad (c := 66) (List.mem_append_right _ List.mem_cons_self) (by decide +kernel)))
    (p1_cons OddL.m (p1_c fun H => oddL_t (t := "NoneType") rfl (by decide) rfl)
    (p1_cons OddL.m (p1_c fun H => oddL_t (t := "int") rfl (by decide) rfl)
    (p1_cons OddL.m (p1_lst (cn_var e cn_nil) (by show 1 ≤ 10; decide) fun H p hp => oddL_t (t := "list") (.inl ⟨rfl, _, hp⟩) (by decide) rfl)
    (p1_cons OddL.m (p1_se (se_cat (se_var e) (se_ix (i := 0) (se_var e) (by omega) hc0) (by simp; omega)) fun H => oddL_w (by simp; omega) (no_dup fun nd => by
        rw [List.nodup_append] at nd
        exact nd.2.2 c0 m0 c0 List.mem_cons_self rfl))
    p1_nil))))))) OddL.m (by decide) k
/-- what comes of rule.tree_of(letters, items) -/
def OutT (ex b : Bool) (v : V) (os : List (Option It2)) (ws : List V) : Prop := (ex = false → ws = [.str "not exact"]) ∧ (ex = true → b = false → ws = [.str "letters", v]) ∧ (ex = true → b = true → OutI os ws)
theorem caughtT {T : List (Addr × Str)} {C CL CM CI CR CN : Addr} {targs : TA} {σ : L2.St} {H : Hp} {Q : VK} {j : Nat} {x : Addr} {j1 j2 : List Kd} {ws : List V} (tb : Tabs T H) (e : σ[j]? = some (some (.ref x))) (hx : RuleAt CR H x j1 j2) (l1 : j1.length ≤ 40) (l2 : j2.length ≤ 40) (ok1 : ∀ k ∈ j1, KOk k) (ok2 : ∀ k ∈ j2, KOk k)
    (hargs : ∀ (H1 : Hp) (R : List V → Hp → Prop), Sm T H H1 → (∀ H2 a xs v b (z : Wd) os, Same H1 H2 → LtV H2 v b → H2 a = some (.lst xs) → os.length ≤ 90 → (b = true → v = .str (sw z) ∧ Paired (ItV H2 z) xs os) → OutT (exB j1 j2) b v os ws → R [v, .ref a] H2) → targs σ H1 R)
    (q : ∀ H' p, Sm T H H' → H' p = some (.tup ws) → Q (.ref p) H') : tLam T (TTc CN CL CI CM) (fun E => tMeth CR "tree_of" (spTreeOf T C CL CM CI CR CN) [] E (tVar j) targs) σ H Q := by
  refine ⟨tb, fun H1 ext tb1 E R hN hL hI hM hD => ?_⟩
  have sm1 : Sm T H H1 := ⟨ext, tb1⟩
  have hx1 := RuleAt.sm sm1 hx
  obtain ⟨dx, p1, p2, ys1, ys2, r1, _⟩ := id hx1
  refine ⟨_, e, x, dx, _, rfl, r1, flds_no (by decide +kernel) (by decide +kernel), hargs H1 _ sm1 fun H2 a xs v b z os s2 hv ha hl pr out => ?_⟩
  have sm2 := sm1.ext s2
  have fin : ∀ {H' : Hp} {vs : List V}, Sm T H2 H' → ws = vs → ∀ p, H' p = none → Q (.ref p) (upd H' p (.tup vs)) := fun s e p hp => q _ p ((sm2.trans s).new hp) (by rw [upd_same, e])
  exact ⟨x, a, v, xs, b, z, os, j1, j2, rfl, RuleAt.same s2 hx1, l1, l2, ok1, ok2, hv, ha, hl, sm2.2, pr,
    fun h H' s => hN H' (fin s (out.1 h)), fun h hb H' d s e => hL d _ H' e (fin s (out.2.1 h hb)), fun h hb i w H' d s e => hI d _ H' e (fin s ((out.2.2 h hb).1 i w)),
    fun h hb its f l H' d s e => hM d _ _ _ H' e (fin s ((out.2.2 h hb).2.1 its f l)), fun h hb its f l H' o s _ => hD _ H' (fin s ((out.2.2 h hb).2.2 its f l))⟩
theorem caughtF {P : Program} {w : World} {K : PySem.W.Frag} {T : List (Addr × Str)} {CL CM CI CR CN : Addr} {σ : L2.St} {H : Hp} {Q : VK} {j : Nat} {x : Addr} {j1 j2 : List Kd} (tb : Tabs T H) (e : σ[j]? = some (some (.ref x))) (hx : RuleAt CR H x j1 j2) (l1 : j1.length ≤ 40) (l2 : j2.length ≤ 40) (hn : exB j1 j2 = false)
    (q : ∀ H' p, Sm T H H' → H' p = some (.tup [.str "not exact"]) → Q (.ref p) H') : tLam T (TTc CN CL CI CM) (fun E => tCall (spFlagsOf P w K CR CN) [] E (tCons (tVar j) tNil)) σ H Q := by
  refine ⟨tb, fun H1 ext tb1 E R hN hL hI hM hD => ?_⟩
  have sm1 : Sm T H H1 := ⟨ext, tb1⟩
  exact ⟨_, e, x, j1, j2, rfl, RuleAt.sm sm1 hx, l1, l2, fun h => (by rw [hn] at h; cases h), fun _ H' s => hN H' fun p hp => q _ p ((sm1.ext s).new hp) upd_same⟩
theorem splice {K : PySem.W.Frag} {σ : L2.St} {H : Hp} {Q : VK} {a : Addr} {xs ws : List V} {j k i : Nat} {ts : TA} (e1 : σ[j]? = some (some (.ref a))) (ha : H a = some (.lst xs)) (e2 : σ[k]? = some (some (.int (i : Nat)))) (hts : CnA ts σ ws) (hw : ws.length ≤ 5) (hx : xs.length ≤ 1000)
    (q : ∀ H' p, Same H H' → H' p = some (.lst (xs.take i ++ ws ++ xs.drop i)) → Q (.ref p) H') : tOp rCat (tOp rCat (tSl (rSlL K) (tVar j) tNoPart (tPart (tVar k))) (tLst ts)) (tSl (rSlL K) (tVar j) (tPart (tVar k)) tNoPart) σ H Q := by
  refine ⟨_, e1, _, e2, _, rfl, a, xs, rfl, SqL.of ha, fun p1 h1 => ?_⟩
  rw [cut_take]
  have s1 := same_upd (o := .lst (xs.take i)) h1
  have g1 : (upd H p1 (.lst (xs.take i))) p1 = some (.lst (xs.take i)) := upd_same
  generalize upd H p1 (.lst (xs.take i)) = H1 at s1 g1
  refine hts H1 _ ⟨by rw [sizeLine_eq]; omega, fun p2 h2 => ?_⟩
  have s2 := same_upd (o := .lst ws) h2
  have g2 : (upd H1 p2 (.lst ws)) p2 = some (.lst ws) := upd_same
  have s12 := s1.trans s2
  have g1 := s2 _ _ g1
  generalize upd H1 p2 (.lst ws) = H2 at s12 g1 g2
  refine ⟨p1, p2, _, _, rfl, rfl, g1, g2, by rw [List.length_take, sizeLine_eq]; omega, fun p3 h3 => ?_⟩
  have s3 := same_upd (o := .lst (xs.take i ++ ws)) h3
  have g3 : (upd H2 p3 (.lst (xs.take i ++ ws))) p3 = some (.lst (xs.take i ++ ws)) := upd_same
  have s13 := s12.trans s3
  generalize upd H2 p3 (.lst (xs.take i ++ ws)) = H3 at s13 g3
  refine ⟨_, e1, _, e2, _, rfl, a, xs, rfl, SqL.of (s13 _ _ ha), fun p4 h4 => ?_⟩
  rw [cut_drop]
  have s4 := same_upd (o := .lst (xs.drop i)) h4
  have g4 : (upd H3 p4 (.lst (xs.drop i))) p4 = some (.lst (xs.drop i)) := upd_same
  have s14 := s13.trans s4
  have g3 := s4 _ _ g3
  generalize upd H3 p4 (.lst (xs.drop i)) = H4 at s14 g3 g4
  refine ⟨p3, p4, _, _, rfl, rfl, g3, g4, by rw [List.length_append, List.length_take, List.length_drop, sizeLine_eq]; omega, fun p5 h5 => ?_⟩
  exact q _ p5 (s14.trans (same_upd h5)) upd_same
end Toy
set_option Elab.async false
set_option linter.all false
set_option maxRecDepth 100000
set_option maxHeartbeats 4000000
namespace Toy
open PySem L2 Sh ShL LamX NdefX
/-- what stands while wrong items are tried -/
structure RF (T : List (Addr × Str)) (CR d c x ia : Addr) (j1 j2 : List Kd) (xs : List V) (its : List It2) (H0 : Hp) (n : Nat) (H : Hp) : Prop where
  pen : Pen H d c n
  smk : SmK T d H0 H
  rule : RuleAt CR H x j1 j2
  ia : H ia = some (.lst xs)
  pr : Paired (ItT H) xs its
section
variable {T : List (Addr × Str)} {CR d c x ia : Addr} {j1 j2 : List Kd} {xs : List V} {its : List It2} {n m : Nat} {H0 H H' : Hp}
theorem RF.sm (l : RF T CR d c x ia j1 j2 xs its H0 n H) (s : Sm T H H') : RF T CR d c x ia j1 j2 xs its H0 n H' := ⟨pen_sm s l.pen, l.smk.sm s, RuleAt.sm s l.rule, s.get l.ia, paired_mono (fun _ _ h => ItT.sm s h) l.pr⟩
theorem RF.same (l : RF T CR d c x ia j1 j2 xs its H0 n H) (s : Same H H') : RF T CR d c x ia j1 j2 xs its H0 n H' := l.sm (Sm.of l.smk.2 s)
theorem RF.kp (l : RF T CR d c x ia j1 j2 xs its H0 n H) (s : Kp d H H') (p : Pen H' d c m) : RF T CR d c x ia j1 j2 xs its H0 m H' := ⟨p, l.smk.kpD l.pen s, RuleAt.kp l.pen s l.rule, kp_lst l.pen s l.ia, ItT.kpP l.pen s l.pr⟩
theorem RF.up (l : RF T CR d c x ia j1 j2 xs its H0 n H) (h : n ≤ m) : RF T CR d c x ia j1 j2 xs its H0 m H := ⟨l.pen.mono h, l.smk, l.rule, l.ia, l.pr⟩
end
theorem at_last {α : Type} {xs : List α} {x : α} (h : xs.getLast? = some x) : atI xs (-1) = some x := by
  have hne : xs ≠ [] := fun e => by rw [e] at h; cases h
  have hl : 0 < xs.length := List.length_pos_iff.mpr hne
  unfold atI
  have e : ixN xs.length (-1) = some (xs.length - 1) := by
    unfold ixN
    rw [if_neg (by decide), if_pos (by omega)]
    congr 1
    omega
  rw [e]
  rw [List.getLast?_eq_getElem?] at h
  exact h
theorem ltV_z {H : Hp} {z : Wd} (lz : LetOk z) : LtV H (.str (sw z)) true := .inl ⟨z, rfl, by have := lz.l26; omega, (decide_eq_true lz).symm⟩
theorem outT_item {b : Bool} {v : V} {os : List (Option It2)} {i : Nat} (hb : b = true) (h : WrongI os i) : OutT true b v os [.str "item", .int (i : Nat)] := ⟨(fun h => by cases h), (fun _ h => by rw [hb] at h; cases h), fun _ _ => outI_item h⟩
theorem outT_let {v : V} {os : List (Option It2)} : OutT true false v os [.str "letters", v] := ⟨(fun h => by cases h), fun _ _ => rfl, (fun _ h => by cases h)⟩
theorem outT_many {v : V} {its : List It2} {n : Nat} (nd : (its.map (·.1)).Nodup) (h : (begs (its.map (·.1))).length = n) (hn : 2000 < n) : OutT true true v (its.map some) [.str "many", .str "places", .int (n : Nat), .int 2000] := ⟨(fun h => by cases h), (fun _ h => by cases h), fun _ _ => outI_many nd h hn⟩
def spRefusedR (T : List (Addr × Str)) (CR : Addr) : Sp := fun vs H Q _ => ∃ (d c : Addr) (n : Nat) (x ia : Addr) (z : Wd) (j1 j2 : List Kd) (its : List It2) (xs : List V), vs = [.ref d, .ref x, .str (sw z), .ref ia] ∧ Pen H d c n ∧ n ≤ 50000 ∧ RuleAt CR H x j1 j2 ∧ j1.length ≤ 40 ∧ j2.length ≤ 40 ∧ exB j1 j2 = true ∧ Ex j1 j2 ∧ LetOk z ∧ z.length ≤ 5 ∧ Its z its ∧ its.length ≤ 6 ∧ H ia = some (.lst xs) ∧ Paired (ItT H) xs its ∧ Tabs T H ∧ ∀ H', Q (.bl true) H'
section
variable {P : Program} {w : World} {K : PySem.W.Frag} {mg : Str → Option Value} {base : Heap}
theorem ok_l_refused_right (T : Tx P K mg) (B : Bx T base) : FnOk P w K mg base CX0 14 T.a_l_refused_right T.fd_l_refused_right ["_law_pen_here", "_law_rule", "_law_letters_here", "_law_items_here"] (spRefusedR (tabs T) T.c_Rule) := by
  refine okT T.F_l_refused_right sc_l_refused_right (fun vs H Q E h => ?_) (fun cdv A outer s H vs Q E hcd hr h => ?_)
  · obtain ⟨d, c, n, x, ia, z, j1, j2, its, xs, rfl, _⟩ := h
    rfl
  have hcd : cdv = .ref T.kc_l_refused_right := hcd.symm.trans T.ec_l_refused_right
  have hu := hu_of hr
  have hu65 := hu65_of hr
  obtain ⟨oc_n, od_n, kV_n, doc_n, pm_n, an_n, cdv_n, ct_n, osl_n, fd_n, lk_n, cg_l_caught⟩ := T.F_l_caught.ex
  have bi_n := T.bi_l_caught
  rw [fd_n] at lk_n bi_n
  have lk_l_caught := lk_n
  have bi_l_caught := bi_n
  obtain ⟨d, c, n, x, ia, z, j1, j2, its, xs, rfl, hp, hn, hx, jl1, jl2, hex, ex, lz, l5, ok, il, hia, pr, tb, q⟩ := h
  have ok1 := ex.o1
  have ok2 := ex.o2
  have z2 := lz.l2
  obtain ⟨c0, hc0⟩ : ∃ c0, z[0]? = some c0 := ⟨_, List.getElem?_eq_getElem (by omega)⟩
  obtain ⟨c1, hc1⟩ : ∃ c1, z[1]? = some c1 := ⟨_, List.getElem?_eq_getElem (by omega)⟩
  have m0 : c0 ∈ z := List.mem_of_getElem? hc0
  have m1 : c1 ∈ z := List.mem_of_getElem? hc1
  have ne : c1 ≠ c0 := fun e => absurd (nd_ix lz.nd hc0 (e ▸ hc1)) (by decide)
  have xl : xs.length = its.length := pr.length
  have rf : RF (tabs T) T.c_Rule d c x ia j1 j2 xs its H n H := ⟨hp, SmK.of (Sm.refl tb), hx, hia, pr⟩
  refine ⟨_, (pss_cons (ps_set (i := 4) sc_l_refused_right.nd rfl (by first | exact Or.inl rfl | exact Or.inr rfl) (pe_call (ok_l_draw (w := w) T B) (hr.mono (by decide)) (by rfl) T.m_l_draw T.F_l_draw.kp T.bi_l_draw .nil pass0 (pa_cons (pv 0) (pa_cons (pe_op op_add (pe_callB call_len_seq (by rfl) T.b_len (by decide +kernel) (pa_cons (pv 3) pa_nil)) pe_int) pa_nil))))
 (pss_cons (ps_set (i := 5) sc_l_refused_right.nd rfl (by first | exact Or.inl rfl | exact Or.inr rfl) (pe_call (ok_l_pick (w := w) T B) (hr.mono (by decide)) (by rfl) T.m_l_pick T.F_l_pick.kp T.bi_l_pick .nil pass0 (pa_cons (pv 0) (pa_cons (pe_lst (pa_cons (pe_tup (pa_cons pe_str (pa_cons pe_int pa_nil))) (pa_cons (pe_tup (pa_cons (pe_op op_mulS (pe_ix ix_str (pv 2) pe_int (fun _ _ => rfl)) pe_int) (pa_cons pe_int pa_nil))) (pa_cons pe_non (pa_cons (pe_tup (pa_cons (pv 2) (pa_cons pe_int (pa_cons pe_int pa_nil)))) (pa_cons (pe_tup (pa_cons (pe_op op_mulS (pe_ix ix_str (pv 2) pe_int (fun _ _ => rfl)) pe_int) (pa_cons pe_int pa_nil))) (pa_cons (pe_tup (pa_cons pe_str (pa_cons pe_str pa_nil))) (pa_cons (pe_lst pa_nil) pa_nil)))))))) pa_nil))))
 (pss_cons (ps_set (i := 6) sc_l_refused_right.nd rfl (by first | exact Or.inl rfl | exact Or.inr rfl) (pe_op op_cat (pe_op op_cat (pe_slice sl_list (pv 3) po_none (po_some (pv 4))) (pe_lst (pa_cons (pv 5) pa_nil))) (pe_slice sl_list (pv 3) (po_some (pv 4)) po_none)))
 (pss_cons (ps_if (pt_cmpR (op_neSameT (Nat.lt_of_le_of_lt (Nat.le_add_right _ 65) hu65)) (pe_lamcall (T := tabs T) (k := 10) (Ng := N_l_caught) (by rfl) T.m_l_caught T.F_l_caught.kp lk_l_caught cg_l_caught bi_l_caught sc_l_caught rfl (by first | exact Or.inl rfl | exact Or.inr (Or.inl rfl) | exact Or.inr (Or.inr rfl)) (gives_l_caught T _ rfl rfl _ _) B.tb_l_refused_right hcd (mem_l_refused_right T) (uniq_l_refused_right T) (hr.mono (by decide)) (lamS_by (sc := defScope s_l_refused_right) (by decide +kernel)) rfl (fun _ _ _ _ _ => rfl) (fun A outer s H E f c' hr2 => (pe_meth (pv 1) T.cl_Rule T.me_Rule_tree_of (ok_Rule_tree_of (w := w) T B) (hr2.mono (by decide)) T.bi_Rule_tree_of .nil (passes_call (takes_of rfl rfl rfl rfl) (fun _ _ _ _ h => h)) (pa_cons (pv 2) (pa_cons (pv 6) pa_nil))))) (pe_tup (pa_cons pe_str (pa_cons (pv 4) pa_nil))) (nomark _))
 (pss_one (ps_ret pe_bl))
 pss_nil)
 (pss_cons (ps_if (PW.pt (pw_and (pt_cmpR (op_neD hr.units) (pv 3) (pe_lst pa_nil) (nomark _)) (pw_and1 (pt_cmpR (op_neSameT (Nat.lt_of_le_of_lt (Nat.le_add_right _ 65) hu65)) (pe_lamcall (T := tabs T) (k := 10) (Ng := N_l_caught) (by rfl) T.m_l_caught T.F_l_caught.kp lk_l_caught cg_l_caught bi_l_caught sc_l_caught rfl (by first | exact Or.inl rfl | exact Or.inr (Or.inl rfl) | exact Or.inr (Or.inr rfl)) (gives_l_caught T _ rfl rfl _ _) B.tb_l_refused_right hcd (mem_l_refused_right T) (uniq_l_refused_right T) (hr.mono (by decide)) (lamS_by (sc := defScope s_l_refused_right) (by decide +kernel)) rfl (fun _ _ _ _ _ => rfl) (fun A outer s H E f c' hr2 => (pe_meth (pv 1) T.cl_Rule T.me_Rule_tree_of (ok_Rule_tree_of (w := w) T B) (hr2.mono (by decide)) T.bi_Rule_tree_of .nil (passes_call (takes_of rfl rfl rfl rfl) (fun _ _ _ _ h => h)) (pa_cons (pv 2) (pa_cons (pe_op op_cat (pv 3) (pe_lst (pa_cons (pe_tup (pa_cons (pe_ix (by exact ix_tup : IxR _ (rIxT K)) (pe_ix (by exact ix_list : IxR _ (rIxL K)) (pv 3) (pe_un un_neg pe_int) (fun _ _ => rfl)) pe_int (fun _ _ => rfl)) (pa_cons pe_int pa_nil))) pa_nil))) pa_nil))))) (pe_tup (pa_cons pe_str (pa_cons (pe_callB call_len_seq (by rfl) T.b_len (by decide +kernel) (pa_cons (pv 3) pa_nil)) pa_nil))) (nomark _)))))
 (pss_one (ps_ret pe_bl))
 pss_nil)
 (pss_cons (ps_set (i := 7) sc_l_refused_right.nd rfl (by first | exact Or.inl rfl | exact Or.inr rfl) (pe_call (ok_l_pick (w := w) T B) (hr.mono (by decide)) (by rfl) T.m_l_pick T.F_l_pick.kp T.bi_l_pick .nil pass0 (pa_cons (pv 0) (pa_cons (pe_lst (pa_cons pe_str (pa_cons pe_str (pa_cons (pe_op op_add_str (pv 2) pe_str) (pa_cons pe_non (pa_cons pe_int (pa_cons (pe_lst (pa_cons (pv 2) pa_nil)) (pa_cons (pe_op op_add_str (pv 2) (pe_ix ix_str (pv 2) pe_int (fun _ _ => rfl))) pa_nil)))))))) pa_nil))))
 (pss_cons (ps_if (pt_cmpR (op_neSameT (Nat.lt_of_le_of_lt (Nat.le_add_right _ 65) hu65)) (pe_lamcall (T := tabs T) (k := 10) (Ng := N_l_caught) (by rfl) T.m_l_caught T.F_l_caught.kp lk_l_caught cg_l_caught bi_l_caught sc_l_caught rfl (by first | exact Or.inl rfl | exact Or.inr (Or.inl rfl) | exact Or.inr (Or.inr rfl)) (gives_l_caught T _ rfl rfl _ _) B.tb_l_refused_right hcd (mem_l_refused_right T) (uniq_l_refused_right T) (hr.mono (by decide)) (lamS_by (sc := defScope s_l_refused_right) (by decide +kernel)) rfl (fun _ _ _ _ _ => rfl) (fun A outer s H E f c' hr2 => (pe_meth (pv 1) T.cl_Rule T.me_Rule_tree_of (ok_Rule_tree_of (w := w) T B) (hr2.mono (by decide)) T.bi_Rule_tree_of .nil (passes_call (takes_of rfl rfl rfl rfl) (fun _ _ _ _ h => h)) (pa_cons (pv 7) (pa_cons (pv 6) pa_nil))))) (pe_tup (pa_cons pe_str (pa_cons (pv 7) pa_nil))) (nomark _))
 (pss_one (ps_ret pe_bl))
 pss_nil)
 (pss_cons (ps_if (pt_cmpR op_gt (pe_call (ok_l_draw (w := w) T B) (hr.mono (by decide)) (by rfl) T.m_l_draw T.F_l_draw.kp T.bi_l_draw .nil pass0 (pa_cons (pv 0) (pa_cons pe_int pa_nil))) pe_int (nomark _))
 (pss_one (ps_ret pe_bl))
 pss_nil)
 (pss_cons (ps_set (i := 8) sc_l_refused_right.nd rfl (by first | exact Or.inl rfl | exact Or.inr rfl) (pe_lc (own := [("_law_k", 9)]) (g := gName 9) rfl sc_l_refused_right.nd (pi_range1 (by rfl) T.b_range (pa_cons pe_int pa_nil)) (blkOk_by (own := [("_law_k", 9)]) (N := N_l_refused_right) (sc := defScope s_l_refused_right) (by decide +kernel)) (fun _ _ _ _ _ => (pg_name (i := 9) sc_l_refused_right.nd rfl (by first | exact Or.inl rfl | exact Or.inr rfl))) (fun _ _ _ _ _ => pts_nil) (fun _ _ _ _ _ => (pe_tup (pa_cons (pe_op op_add_str (pe_op op_mulS (pe_ix ix_str (pv 2) pe_int (fun _ _ => rfl)) (pv 9)) (pe_op op_mulS (pe_ix ix_str (pv 2) pe_int (fun _ _ => rfl)) (pe_op op_sub pe_int (pv 9)))) (pa_cons pe_int pa_nil))))))
 (pss_cons (ps_if (pt_cmpR (op_neSameT (Nat.lt_of_le_of_lt (Nat.le_add_right _ 65) hu65)) (pe_lamcall (T := tabs T) (k := 10) (Ng := N_l_caught) (by rfl) T.m_l_caught T.F_l_caught.kp lk_l_caught cg_l_caught bi_l_caught sc_l_caught rfl (by first | exact Or.inl rfl | exact Or.inr (Or.inl rfl) | exact Or.inr (Or.inr rfl)) (gives_l_caught T _ rfl rfl _ _) B.tb_l_refused_right hcd (mem_l_refused_right T) (uniq_l_refused_right T) (hr.mono (by decide)) (lamS_by (sc := defScope s_l_refused_right) (by decide +kernel)) rfl (fun _ _ _ _ _ => rfl) (fun A outer s H E f c' hr2 => (pe_meth (pv 1) T.cl_Rule T.me_Rule_tree_of (ok_Rule_tree_of (w := w) T B) (hr2.mono (by decide)) T.bi_Rule_tree_of .nil (passes_call (takes_of rfl rfl rfl rfl) (fun _ _ _ _ h => h)) (pa_cons (pv 2) (pa_cons (pv 8) pa_nil))))) (pe_tup (pa_cons pe_str (pa_cons pe_str (pa_cons pe_int (pa_cons pe_int pa_nil))))) (nomark _))
 (pss_one (ps_ret pe_bl))
 pss_nil)
 (pss_one (ps_ret (pe_cmpR (op_eqSameT (Nat.lt_of_le_of_lt (Nat.le_add_right _ 65) hu65)) (pe_lamcall (T := tabs T) (k := 10) (Ng := N_l_caught) (by rfl) T.m_l_caught T.F_l_caught.kp lk_l_caught cg_l_caught bi_l_caught sc_l_caught rfl (by first | exact Or.inl rfl | exact Or.inr (Or.inl rfl) | exact Or.inr (Or.inr rfl)) (gives_l_caught T _ rfl rfl _ _) B.tb_l_refused_right hcd (mem_l_refused_right T) (uniq_l_refused_right T) (hr.mono (by decide)) (lamS_by (sc := defScope s_l_refused_right) (by decide +kernel)) rfl (fun _ _ _ _ _ => rfl) (fun A outer s H E f c' hr2 => (pe_meth (pv 1) T.cl_Rule T.me_Rule_tree_of (ok_Rule_tree_of (w := w) T B) (hr2.mono (by decide)) T.bi_Rule_tree_of .nil (passes_call (takes_of rfl rfl rfl rfl) (fun _ _ _ _ h => h)) (pa_cons (pv 2) (pa_cons (pe_op op_cat (pv 8) (pe_lst (pa_cons pe_int pa_nil))) pa_nil))))) (pe_tup (pa_cons pe_str (pa_cons pe_int pa_nil))) (nomark _)))))))))))))), ?_⟩
  -- the spot
  refine ⟨_, rfl, _, rfl, ia, _, rfl, .inl (SqL.of hia), _, _, rfl, rfl, d, c, n, _, rfl, hp, by omega, by omega, by omega, fun H1 r r0 r1 k1 p1 => ?_⟩
  obtain ⟨i, rfl⟩ : ∃ j : Nat, r = (j : Int) := ⟨r.toNat, by omega⟩
  have hil : i ≤ its.length := by omega
  have rf1 := rf.kp k1 p1
  dsimp only [gName]
  -- a wrong one
  refine ⟨_, rfl, ?_⟩
  refine consI (seven rfl lz l5 hc0 hc1 fun H2 oa ys s2 n2 g2 l2 q2 => ?_)
  have rf2 := rf1.same s2
  have nod : oa ≠ d := by
    obtain ⟨kvs, hd⟩ := rf2.pen.at
    exact ne_of g2 hd (by intro z; cases z)
  refine .inl ⟨d, c, oa, _, ys, rfl, rf2.pen, by omega, SqL.of g2, by omega, by omega, nod, fun H3 v hv k3 p3 => ?_⟩
  have rf3 := rf2.kp k3 p3
  have ov : OddI z H3 v := ItV.kp (kpS_pen rf2.pen k3 p3) (q2 v hv)
  dsimp only [gName]
  -- among the items
  refine asgI (splice (ws := [v]) rfl rf3.ia rfl (cn_var rfl cn_nil) (by show 1 ≤ 5; decide) (by omega) fun H4 ta s4 g4 => ?_)
  have rf4 := rf3.same s4
  have ov4 : OddI z H4 v := ItV.kp (kpS_same s4) ov
  dsimp only [gName]
  have told : ∀ {H'}, RF (tabs T) T.c_Rule d c x ia j1 j2 xs its H (n + 1 + 1) H' → OddI z H' v → Paired (ItV H' z) (xs.take i ++ [v] ++ xs.drop i) ((its.map some).take i ++ [none] ++ (its.map some).drop i) := fun l o => paired_app (paired_app (paired_take i (itV_of l.pr ok.ok)) (.cons o .nil)) (paired_drop i (itV_of l.pr ok.ok))
  have tlen : ((its.map some).take i ++ [none] ++ (its.map some).drop i).length ≤ 90 := by
    simp only [List.length_append, List.length_take, List.length_drop, List.length_cons, List.length_nil, List.length_map]
    omega
  refine ifI (caughtT (ws := [.str "item", .int (i : Nat)]) rf4.smk.2 rfl rf4.rule jl1 jl2 ok1 ok2 (fun H5 R sm5 hR => ?_) (fun H5 pp sm5 g5 => ?_))
  · refine ⟨_, rfl, _, rfl, hR H5 ta _ _ true z _ (fun _ _ h => h) (ltV_z lz) (sm5.get g4) tlen (fun _ => ⟨rfl, told (rf4.sm sm5) (ItV.kp (kpS_sm sm5) ov4)⟩) ?_⟩
    rw [hex]
    refine outT_item rfl ?_
    rw [List.append_assoc]
    exact wrongI_at ok.nd hil
  refine same_tupV g5 (cn_cons (cn_var rfl cn_nil)) rfl (by show 2 ≤ 10; decide) fun H6 s6 => ⟨_, rfl, iteF ?_⟩
  have sm6 := sm5.ext s6
  have rf6 := rf4.sm sm6
  have g4 := sm6.get g4
  have ov6 : OddI z H6 v := ItV.kp (kpS_sm sm6) ov4
  refine nextS ?_
  dsimp only
  -- one twice
  refine seqW (fun σ' H' => σ' = [some (.ref d), some (.ref x), some (.str (sw z)), some (.ref ia), some (.int (i : Nat)), some v, some (.ref ta), none, none, none] ∧ Sm (tabs T) H6 H') (fun N hN => ?_) (fun σ' H7 ⟨e, sm7⟩ => ?_)
  · refine ⟨_, rfl, Nat.zero_le _, fun e0 he0 => ?_⟩
    have s7 := same_upd (o := .lst []) he0
    have ge : (upd H6 e0 (.lst [])) e0 = some (.lst []) := upd_same
    have rf7 := rf6.same s7
    generalize upd H6 e0 (.lst []) = H7 at s7 ge rf7
    refine ⟨.list (its.map itD), .list [], .lst (SqL.of rf7.ia) (its_dp rf7.pr), .lst (SqL.of ge) .nil, its_shaped (its_low lz ok.ok), by decide +kernel, _, rfl, ?_⟩
    rw [list_nil, List.length_map]
    refine ite2 (fun h => ?_) (fun h => ?_)
    rotate_left
    · exact iteF (hN _ _ ⟨rfl, Sm.of rf6.smk.2 s7⟩)
    have hne : its.length ≠ 0 := fun e => by rw [e] at h; cases h
    obtain ⟨it, hit⟩ : ∃ it, its.getLast? = some it := by
      cases e : its.getLast? with
      | some it => exact ⟨it, rfl⟩
      | none => rw [List.getLast?_eq_none_iff] at e; rw [e] at hne; exact absurd rfl hne
    have him := List.mem_of_getLast? hit
    have iok := ok.ok it him
    refine caughtT (ws := [.str "item", .int (its.length : Nat)]) rf7.smk.2 rfl rf7.rule jl1 jl2 ok1 ok2 (fun H8 R sm8 hR => ?_) (fun H8 pp sm8 g8 => ?_)
    · have rf8 := rf7.sm sm8
      have hlx : xs.getLast? = xs[its.length - 1]? := by rw [List.getLast?_eq_getElem?, xl]
      have hli : its[its.length - 1]? = some it := by rw [← List.getLast?_eq_getElem?]; exact hit
      obtain ⟨u, hu1⟩ : ∃ u, xs[its.length - 1]? = some u := ⟨_, List.getElem?_eq_getElem (by omega)⟩
      obtain ⟨it', hit', g, rfl, hg⟩ := paired_ix rf8.pr hu1
      rw [hli] at hit'
      cases hit'
      refine ⟨_, rfl, _, rfl, _, rfl, 1, rfl, ia, xs, _, _, rfl, rfl, SqL.of rf8.ia, at_last (hlx.trans hu1), g, _, _, _, rfl, rfl, SqT.of hg, atI_nat (j := 0) rfl, by show 2 ≤ sizeLine; decide, fun t ht => ⟨by show 1 ≤ sizeLine; decide, fun q1 hq1 => ?_⟩⟩
      have s9 := same_upd (o := .tup [V.str (sw it.1), .int 5]) ht
      have s10 := same_upd (o := .lst [V.ref t]) hq1
      have gt : ItT (upd (upd H8 t (.tup [V.str (sw it.1), .int 5])) q1 (.lst [V.ref t])) (.ref t) (it.1, 5) := ⟨t, rfl, s10 _ _ upd_same⟩
      have gq1 : (upd (upd H8 t (.tup [V.str (sw it.1), .int 5])) q1 (.lst [V.ref t])) q1 = some (.lst [V.ref t]) := upd_same
      have s10 := s9.trans s10
      generalize upd (upd H8 t (.tup [V.str (sw it.1), .int 5])) q1 (.lst [V.ref t]) = H10 at gt gq1 s10
      refine ⟨ia, q1, _, _, rfl, rfl, s10 _ _ rf8.ia, gq1, by rw [sizeLine_eq]; show _ + 1 ≤ _; omega, fun q2' hq2' => ?_⟩
      have s11 := same_upd (o := .lst (xs ++ [V.ref t])) hq2'
      have sA := s10.trans s11
      refine hR _ q2' (xs ++ [V.ref t]) _ true z (its.map some ++ [some (it.1, 5)]) sA (ltV_z lz) upd_same (by rw [List.length_append, List.length_map]; show _ + 1 ≤ _; omega) (fun _ => ⟨rfl, ?_⟩) ?_
      · exact paired_app (itV_of (rf8.same sA).pr ok.ok) (itV_of (its := [(it.1, 5)]) (.cons (ItT.same s11 gt) .nil) fun it' h' => by rw [List.mem_singleton.mp h']; exact ⟨iok.1, iok.2.1, by show (1 : Int) ≤ 5; decide, by show (5 : Int) ≤ 9; decide⟩)
      · rw [hex]
        exact outT_item rfl (wrongI_end ok.nd (List.mem_map.mpr ⟨it, him, rfl⟩))
    have rf8 := rf7.sm sm8
    refine ⟨_, rfl, ia, xs, rfl, .inl (SqL.of rf8.ia), by show 2 ≤ sizeLine; decide, fun p2 hp2 => ?_⟩
    rw [xl]
    have s9 := same_upd (o := .tup [V.str "item", .int (its.length : Nat)]) hp2
    refine same_ref (s9 _ _ g8) upd_same rfl ⟨_, rfl, iteF (hN _ _ ⟨rfl, ((Sm.of rf6.smk.2 s7).trans sm8).ext s9⟩)⟩
  subst e
  have rf7 := rf6.sm sm7
  have g4 := sm7.get g4
  have ov7 : OddI z H7 v := ItV.kp (kpS_sm sm7) ov6
  have hlz : z.length ≤ 5 := l5
  -- wrong letters
  refine asgI ?_
  refine ⟨_, rfl, ?_⟩
  refine consI (sevenL rfl lz l5 hc0 fun H8 ob yb s8 n8 g8 l8 q8 => ?_)
  have rf8 := rf7.same s8
  have nobd : ob ≠ d := by
    obtain ⟨kvs, hd⟩ := rf8.pen.at
    exact ne_of g8 hd (by intro z; cases z)
  refine .inl ⟨d, c, ob, _, yb, rfl, rf8.pen, by omega, SqL.of g8, by omega, by omega, nobd, fun H9 vl hvl k9 p9 => ?_⟩
  have rf9 := rf8.kp k9 p9
  have ol : LtV H9 vl false := (q8 vl hvl).1.kp (kpS_pen rf8.pen k9 p9)
  have hpl := (q8 vl hvl).2
  have hall : ([.str "letters", vl] : List V).all plainV = true := by
    show (true && (plainV vl && true)) = true
    rw [hpl]
    rfl
  have g9 := kp_lst rf8.pen k9 (s8 _ _ g4)
  have ov9 : OddI z H9 v := ItV.kp (kpS_pen rf8.pen k9 p9) (ItV.kp (kpS_same s8) ov7)
  dsimp only [gName]
  refine ifI (caughtT (ws := [.str "letters", vl]) rf9.smk.2 rfl rf9.rule jl1 jl2 ok1 ok2 (fun H10 R sm10 hR => ?_) (fun H10 pp sm10 g10 => ?_))
  · refine ⟨_, rfl, _, rfl, hR H10 ta _ vl false [] [] (fun _ _ h => h) (ol.kp (kpS_sm sm10)) (sm10.get g9) (by decide) (fun e => by cases e) ?_⟩
    rw [hex]
    exact outT_let
  refine same_tupV g10 (cn_cons (cn_var rfl cn_nil)) hall (by show 2 ≤ 10; decide) fun H11 s11 => ⟨_, rfl, iteF ?_⟩
  have sm11 := sm10.ext s11
  have rf11 := rf9.sm sm11
  refine nextS ?_
  dsimp only
  -- now and then too many
  refine ⟨_, rfl, d, c, _, 40, rfl, rf11.pen, by omega, by decide, by decide, fun H12 r' r0' r1' k12 p12 => ⟨_, _, rfl, rfl, _, rfl, ?_⟩⟩
  refine ite2 (fun _ => q _) (fun _ => ?_)
  have rf12 := rf11.kp k12 p12
  refine nextS ?_
  dsimp only
  refine asgI ?_
  refine ⟨11, rfl, by decide, by decide, fun ib hib => ?_⟩
  refine lcG (walk_rng 11) yat (paired_self (List.range 11)) (fun _ H' => Same H12 H') (same_upd hib) (fun _ H' acc s => same_of_new s hib) (fun _ _ _ _ => trivial) (by decide) (fun _ => true)
    (fun H' v k => ItT H' v (mit (lw c1 c0 k (200 - k)))) (fun H' acc acc' v p hD2 h => ?_) (fun i x' k H' acc R N hk hx' s hD2 k1' _ => ?_) (fun H13 lx s13 hib13 pr13 => ?_)
  · obtain ⟨b, e1, h⟩ := h
    exact ⟨b, e1, by rw [upd_ne (ne_of h hD2 (by intro z; cases z))]; exact h⟩
  · subst hx'
    have hk11 : k < 11 := List.mem_range.mp (List.mem_of_getElem? hk)
    refine ⟨rfl, yes_ite ?_⟩
    refine tupA (cn_se (w := lw c1 c0 k (200 - k)) (se_cat (se_repV (n := k) (se_ix (i := 1) (se_var (w := z) rfl) (by omega) hc1) (fun H R h => ⟨_, rfl, h⟩) (by omega)) (se_repV (n := 200 - k) (se_ix (i := 0) (se_var (w := z) rfl) (by omega) hc0) (fun H R h => ⟨_, rfl, _, _, rfl, rfl, by show R (V.int ((200 : Int) - (k : Int))) H; rw [show (200 : Int) - (k : Int) = ((200 - k : Nat) : Int) by omega]; exact h⟩) (by omega)) (by rw [List.length_replicate, List.length_replicate]; omega)) (cn_cons cn_nil)) (by show 2 ≤ 10; decide) fun t ht => ?_
    have st := same_upd (o := .tup [V.str (sw (lw c1 c0 k (200 - k))), .int 3]) ht
    exact k1' rfl _ _ (s.trans st) (st _ _ hD2) (fun _ _ h => h.same st) ⟨t, rfl, upd_same⟩
  rw [filter_tt] at pr13
  have pr13 : Paired (ItT H13) lx ((lws c1 c0 11).map mit) := by
    unfold lws
    rw [List.map_map]
    exact paired_map (f := fun k => mit (lw c1 c0 k (200 - k))) (fun v p h => h) pr13
  have lxl : lx.length = 11 := by rw [pr13.length, List.length_map]; simp [lws]
  have rf13 := rf12.same s13
  have nd11 : (((lws c1 c0 11).map mit).map (·.1)).Nodup := by rw [mit_fst]; exact lws_nd ne
  have il11 : ((lws c1 c0 11).map mit).length = 11 := by rw [List.length_map]; simp [lws]
  have ok11 := mit_ok (n := 11) m1 m0 (by decide)
  dsimp only [gName]
  refine ifI (caughtT (ws := [.str "many", .str "places", .int ((2156 : Nat) : Int), .int 2000]) rf13.smk.2 rfl rf13.rule jl1 jl2 ok1 ok2 (fun H14 R sm14 hR => ?_) (fun H14 pp sm14 g14 => ?_))
  · refine ⟨_, rfl, _, rfl, hR H14 ib _ _ true z (((lws c1 c0 11).map mit).map some) (fun _ _ h => h) (ltV_z lz) (sm14.get hib13) (by rw [List.length_map, il11]; decide) (fun _ => ⟨rfl, itV_of (paired_mono (fun _ _ h => ItT.sm sm14 h) pr13) ok11⟩) ?_⟩
    rw [hex]
    exact outT_many nd11 (by rw [mit_fst]; exact begs_11 ne) (by decide)
  refine same_tupV g14 (cn_cons (cn_cons (cn_cons (cn_cons cn_nil)))) rfl (by show 4 ≤ 10; decide) fun H15 s15 => ⟨_, rfl, iteF ?_⟩
  have sm15 := sm14.ext s15
  have rf15 := rf13.sm sm15
  have h15 := sm15.get hib13
  have pr15 := paired_mono (fun _ _ h => ItT.sm sm15 h) pr13
  refine nextS ?_
  dsimp only
  refine retI (caughtT (ws := [.str "item", .int ((11 : Nat) : Int)]) rf15.smk.2 rfl rf15.rule jl1 jl2 ok1 ok2 (fun H16 R sm16 hR => ?_) (fun H16 pp sm16 g16 => ?_))
  · have h16 := sm16.get h15
    refine ⟨_, rfl, _, rfl, by show 1 ≤ sizeLine; decide, fun q1 hq1 => ?_⟩
    have sq1 := same_upd (o := .lst [V.int 3]) hq1
    refine ⟨ib, q1, lx, [V.int 3], rfl, rfl, sq1 _ _ h16, upd_same, by rw [lxl, sizeLine_eq]; decide, fun q2' hq2' => ?_⟩
    have sq2 := sq1.trans (same_upd (o := .lst (lx ++ [V.int 3])) hq2')
    refine hR _ q2' (lx ++ [V.int 3]) _ true z (((lws c1 c0 11).map mit).map some ++ [none]) sq2 (ltV_z lz) upd_same (by rw [List.length_append, List.length_map, il11]; decide) (fun _ => ⟨rfl, ?_⟩) ?_
    · exact paired_app (itV_of (paired_mono (fun _ _ h => ItT.same sq2 (ItT.sm sm16 h)) pr15) ok11) (.cons (oddI_ty (t := "int") rfl (by decide) (by decide)) .nil)
    · rw [hex]
      have h := wrongI_at (r := []) (i := 11) nd11 (by omega)
      rw [List.take_of_length_le (by rw [List.length_map, il11]; decide)] at h
      exact outT_item rfl h
  exact same_tupV g16 (cn_cons (cn_cons cn_nil)) rfl (by show 2 ≤ 10; decide) fun H17 s17 => q _
end
end Toy
set_option Elab.async false
set_option linter.all false
set_option maxRecDepth 100000
set_option maxHeartbeats 4000000
namespace Toy
open PySem L2 Sh ShL LamX NdefX
/-! ### rules of right kinds -/
theorem fine_inj {ks js : List Kd} (h : Fine (ks.map some) js) : js = ks := by
  have := congrArg (List.map fun o : Option Kd => o.getD (false, false, 0)) h.1
  rw [List.map_map, List.map_map] at this
  have e : ∀ l : List Kd, l.map ((fun o : Option Kd => o.getD (false, false, 0)) ∘ some) = l := fun l => by
    conv => rhs; rw [← List.map_id l]
    rfl
  rw [e, e] at this
  exact this.symm
theorem wrong_no {ks : List Kd} (nd : ks.Nodup) {i : Nat} (h : Wrong (ks.map some) i) : False := by
  obtain ⟨o, js, h1, h2, h3⟩ := h
  rw [List.getElem?_map] at h1
  obtain ⟨k, hk, rfl⟩ := Option.map_eq_some_iff.mp h1
  rcases h3 with h3 | ⟨k', hk', h3⟩
  · cases h3
  · cases h3
    rw [← List.map_take] at h2
    rw [fine_inj h2] at hk'
    exact nd_take nd hk hk'
theorem allV_of {H : Hp} {vs : List V} {ks : List Kd} (h : AllK H vs ks) (hk : ∀ k ∈ ks, 0 ≤ k.2.2 ∧ k.2.2 ≤ 2) : AllV H vs (ks.map some) := by
  induction h with
  | nil => exact .nil
  | cons r t ih => exact .cons ⟨r.e, hk _ List.mem_cons_self⟩ (ih fun k h => hk k (List.mem_cons_of_mem _ h))
theorem kpS_new {H : Hp} {p : Addr} {o : HO} (h : H p = none) : KpS H (upd H p o) := kpS_same (same_upd h)
theorem mk_ruleG {C N : Addr} {E : XK} {a b : Addr} {xs zs : List V} {os us : List (Option Kd)} {H : Hp} {Q : VK} (ha : SqA H a xs) (hb : SqA H b zs) (va : AllV H xs os) (vb : AllV H zs us) (l1 : os.length ≤ 40) (l2 : us.length ≤ 40)
    (k1 : ∀ ks ls, Fine os ks → Fine us ls → ∀ H' p j1 j2, Same H H' → H p = none → RuleAt C H' p j1 j2 → j1.Perm ks → SrtK j1 → j2.Perm ls → SrtK j2 → Q (.ref p) H')
    (k2 : ∀ i, Wrong os i → ∀ H' d, Same H H' → H d = none → H' d = some (kErr "root" i d) → E (.ref N) (some d) H')
    (k3 : ∀ ks i, Fine os ks → Wrong us i → ∀ H' d, Same H H' → H d = none → H' d = some (kErr "others" i d) → E (.ref N) (some d) H') :
    ∀ x dx, H x = none → H dx = none → dx ≠ x → spInitR C N (.ref x :: ([.ref a, .ref b] ++ [])) (upd (upd H dx (.own x)) x (.ins C dx [])) (fun v H2 => v = .non ∧ Q (.ref x) H2) E := fun x dx hx hdx ne => by
  have s0 : Same H (upd (upd H dx (.own x)) x (.ins C dx [])) := (same_upd hdx).trans (same_upd (by rw [upd_ne ne.symm]; exact hx))
  have kS := kpS_same s0
  have up : ∀ {H'}, Kp x (upd (upd H dx (.own x)) x (.ins C dx [])) H' → Same H H' := fun {H'} k b o hb => k b o (s0 _ _ hb) (ne_of_none hb hx)
  have fr : ∀ {d}, (upd (upd H dx (.own x)) x (.ins C dx [])) d = none → H d = none := fun {d} n => s0.free n
  exact ⟨x, dx, a, b, xs, zs, os, us, rfl, upd_same, ha.kp kS, hb.kp kS, AllV.kp kS va, AllV.kp kS vb, l1, l2, fun ks ls fk fl H' j1 j2 kp r m1 o1 m2 o2 => ⟨rfl, k1 ks ls fk fl H' x j1 j2 (up kp) hx r m1 o1 m2 o2⟩,
    fun i w H' d kp n e => k2 i w H' d (up kp) (fr n) e, fun ks i fk w H' d kp n e => k3 ks i fk w H' d (up kp) (fr n) e⟩
theorem mk_ruleK {C N : Addr} {E : XK} {a b : Addr} {xs zs : List V} {ks ls : List Kd} {H : Hp} {Q : VK} (ha : SqA H a xs) (hb : SqA H b zs) (va : AllV H xs (ks.map some)) (vb : AllV H zs (ls.map some)) (n1 : ks.Nodup) (n2 : ls.Nodup) (l1 : ks.length ≤ 40) (l2 : ls.length ≤ 40)
    (k1 : ∀ H' p j1 j2, Same H H' → H p = none → RuleAt C H' p j1 j2 → j1.Perm ks → SrtK j1 → j2.Perm ls → SrtK j2 → Q (.ref p) H') :
    ∀ x dx, H x = none → H dx = none → dx ≠ x → spInitR C N (.ref x :: ([.ref a, .ref b] ++ [])) (upd (upd H dx (.own x)) x (.ins C dx [])) (fun v H2 => v = .non ∧ Q (.ref x) H2) E :=
  mk_ruleG ha hb va vb (by rw [List.length_map]; exact l1) (by rw [List.length_map]; exact l2) (fun js is fj fi => by rw [fine_inj fj, fine_inj fi]; exact k1) (fun i w => (wrong_no n1 w).elim) fun _ i _ w => (wrong_no n2 w).elim
/-- Rule(a, b), at the head of a call -/
theorem mkRP {C N : Addr} {E : XK} {targs : TA} {σ : L2.St} {H : Hp} {Q : VK} {ks ls : List Kd} (n1 : ks.Nodup) (n2 : ls.Nodup) (l1 : ks.length ≤ 40) (l2 : ls.length ≤ 40)
    (hargs : ∀ R : List V → Hp → Prop, (∀ (H1 : Hp) (a b : Addr) (xs zs : List V) (k1 k2 : List Kd), H1 a = some (.lst xs) → H1 b = some (.lst zs) → AllK H1 xs k1 → AllK H1 zs k2 → k1.Perm ks → k2.Perm ls → (∀ k ∈ ks, KOk k) → (∀ k ∈ ls, KOk k) →
      (∀ H' p j1 j2, Same H1 H' → H1 p = none → RuleAt C H' p j1 j2 → j1.Perm ks → j2.Perm ls → Q (.ref p) H') → R [.ref a, .ref b] H1) → targs σ H R) :
    tMake C (spInitR C N) [] E targs σ H Q :=
  hargs _ fun H1 a b xs zs k1 k2 ha hb p1 p2 m1 m2 o1 o2 q => mk_ruleK (.inl ha) (.inl hb) (allV_of p1 fun k hk => o1 k (m1.mem_iff.mp hk)) (allV_of p2 fun k hk => o2 k (m2.mem_iff.mp hk)) (m1.nodup_iff.mpr n1) (m2.nodup_iff.mpr n2) (by rw [m1.length_eq]; exact l1) (by rw [m2.length_eq]; exact l2)
    fun H' p j1 j2 s n r i1 _ i2 _ => q H' p j1 j2 s n r (i1.trans m1) (i2.trans m2)
end Toy
set_option Elab.async false
set_option linter.all false
set_option maxRecDepth 100000
set_option maxHeartbeats 4000000
namespace Toy
open PySem L2 Sh ShL LamX NdefX
/-! ### what the law compares -/
theorem fl_perm {ks js : List Kd} {s : Sh2} (hp : ks.Perm js) (h : cntK ks s ≤ 1) : fl ks s = fl js s := by
  have h' : cntK js s ≤ 1 := by rw [← cntK_perm hp]; exact h
  by_cases e : cntK ks s = 1
  · have := cnt1 h' (hp.mem_iff.mp (cnt_pos e)) rfl
    exact (Prod.mk.inj (Prod.mk.inj this).2).1
  · have e0 : cntK ks s = 0 := by omega
    rw [fl_non e0, fl_non (by rw [← cntK_perm hp]; exact e0)]
theorem flg_perm {j1 j2 r1 r2 : List Kd} (ex : Ex j1 j2) (h1 : j1.Perm r1) (h2 : j2.Perm r2) {s : Sh2} (hs : s ∈ shapes) (r : Bool) : flg j1 j2 r s = flg r1 r2 r s := by
  unfold flg
  rw [fl_perm h1 (Nat.le_of_eq (ex.c1 s hs)), fl_perm h2 (by rw [ex.c2 s hs]; unfold dueN; split <;> omega)]
theorem lookup_perm {its js : List It2} (h : its.Perm js) (nd : (its.map (·.1)).Nodup) (p : Wd) : its.lookup p = js.lookup p := by
  have a := lookup_filter nd p
  have b := lookup_filter ((h.map _).nodup_iff.mp nd) p
  have c := h.filter fun it => decide (it.1 = p)
  rw [a, b] at c
  cases e1 : its.lookup p <;> cases e2 : js.lookup p <;> rw [e1, e2] at c
  · exact absurd c.length_eq (by simp)
  · exact absurd c.length_eq (by simp)
  · have := List.perm_singleton.mp c.symm
    simp only [List.cons.injEq, Prod.mk.injEq, and_true, true_and] at this
    rw [this]
theorem rowsD_same {z : Wd} {j1 j2 r1 r2 : List Kd} {its js : List It2} (ex : Ex j1 j2) (h1 : j1.Perm r1) (h2 : j2.Perm r2) (hi : its.Perm js) (nd : (its.map (·.1)).Nodup) (wz : ∀ it ∈ its, ∀ c ∈ it.1, c ∈ z) : rowsD z j1 j2 its = rowsD z r1 r2 js := by
  have bp : (begs (its.map (·.1))).Perm (begs (js.map (·.1))) := begs_perm fun p => (hi.map _).mem_iff
  have bz : ∀ p ∈ begs (its.map (·.1)), ∀ c ∈ p, c ∈ z := fun p hp c hc => by
    rcases begs_mem.mp hp with rfl | ⟨w, hw, m, rfl⟩
    · cases hc
    · obtain ⟨it, hit, rfl⟩ := List.mem_map.mp hw
      exact wz it hit c (List.mem_of_mem_take hc)
  unfold rowsD
  rw [ordW_uniq bp bz]
  refine List.map_congr_left fun p _ => ?_
  have ek : kids z (begs (its.map (·.1))) p = kids z (begs (js.map (·.1))) p := by
    unfold kids
    exact List.filter_congr fun c _ => decide_eq_decide.mpr bp.mem_iff
  unfold mkR
  rw [ek, lookup_perm hi nd, flg_perm ex h1 h2 (shape_in _ _)]
/-! items as lists -/
def ItL (H : Hp) (v : V) (it : It2) : Prop := ∃ a, v = .ref a ∧ H a = some (.lst [.str (sw it.1), .int it.2])
def itDL (it : It2) : PyData := .list [.str (sw it.1), .int it.2]
theorem ItL.same {H H' : Hp} {v : V} {it : It2} (s : Same H H') (h : ItL H v it) : ItL H' v it := let ⟨a, e, h⟩ := h; ⟨a, e, s _ _ h⟩
theorem ItL.sm {T : List (Addr × Str)} {H H' : Hp} {v : V} {it : It2} (s : Sm T H H') (h : ItL H v it) : ItL H' v it := let ⟨a, e, h⟩ := h; ⟨a, e, s.get h⟩
theorem itL_dp {K : PySem.W.Frag} {H : Hp} : ∀ {vs : List V} {its : List It2}, Paired (ItL H) vs its → DpAll K H vs (its.map itDL)
  | _, _, .nil => .nil
  | _, _, .cons ⟨a, e, h⟩ t => by
    subst e
    exact .cons (.lst (SqL.of h) (.cons (.str _) (.cons (.int _) .nil))) (itL_dp t)
theorem itDL_eqv (it : It2) : PyData.eqv (itDL it) (itDL it) = true := by
  unfold itDL
  simp only [PyData.eqv, PyData.eqvAll, sw_beq]
  simp
theorem itsL_eqv : ∀ its : List It2, PyData.eqvAll (its.map itDL) (its.map itDL) = true
  | [] => by simp [PyData.eqvAll]
  | r :: rs => by
    simp only [List.map_cons, PyData.eqvAll, itDL_eqv, itsL_eqv rs]
    rfl
theorem itsL_lay : ∀ its : List It2, (∀ it ∈ its, ∀ c ∈ it.1, c < 200) → PyData.canLayAll0 (its.map itDL) = true ∧ PyData.depthAll (its.map itDL) ≤ 2
  | [], _ => ⟨rfl, by simp [PyData.depthAll]⟩
  | r :: rs, h => by
    obtain ⟨h1, h2⟩ := itsL_lay rs fun x hx => h x (List.mem_cons_of_mem _ hx)
    have h3 : PyData.canLay0 (itDL r) = true ∧ PyData.depth (itDL r) ≤ 1 := by
      unfold itDL
      constructor
      · simp only [PyData.canLay0, PyData.canLayAll0, str_ok (h r List.mem_cons_self)]
        rfl
      · simp only [PyData.depth, PyData.depthAll]
        omega
    refine ⟨by simp only [List.map_cons, PyData.canLayAll0, h1, h3.1]; rfl, ?_⟩
    simp only [List.map_cons, PyData.depthAll]
    omega
theorem itsL_shaped {its : List It2} (h : ∀ it ∈ its, ∀ c ∈ it.1, c < 200) : SeqAt.shaped (.list (its.map itDL)) = true := by
  obtain ⟨h1, h2⟩ := itsL_lay its h
  exact shaped_of (by simp only [PyData.canLay0]; exact h1) (by simp only [PyData.depth]; omega)
theorem itVL_of {H : Hp} {z : Wd} : ∀ {vs : List V} {its : List It2}, Paired (ItL H) vs its → (∀ it ∈ its, ItOk z it) → Paired (ItV H z) vs (its.map some)
  | _, _, .nil, _ => .nil
  | _, _, .cons (b := it) ⟨a, e, h⟩ t, ok => .cons (.inr ⟨a, _, e, .inl h, .inr (it_ok (ok it List.mem_cons_self).1 (ok it List.mem_cons_self).2.1 (ok it List.mem_cons_self).2.2)⟩) (itVL_of t fun r hr => ok r (List.mem_cons_of_mem _ hr))
/-- [list(item) for item in items] -/
theorem lc_lists {K : PySem.W.Frag} {σ : L2.St} {H1 : Hp} {R : VK} {a : Addr} {xs : List V} {its : List It2} {k j : Nat} (e1 : σ[k]? = some (some (.ref a))) (ha : H1 a = some (.lst xs)) (pr : Paired (ItT H1) xs its) (hl : its.length ≤ 1000)
    (e2 : ∀ x, wipe ((wipe σ [j]).set j x) [j] = wipe σ [j]) (e3 : ∀ x, ((wipe σ [j]).set j (some x))[j]? = some (some x)) (hR : ∀ H6 D zs, Same H1 H6 → H6 D = some (.lst zs) → Paired (ItL H6) zs its → R (.ref D) H6) :
    tLc (iList K (tVar k)) (gName j) tYes (tCB (fun xs H Q => ∃ p ys, xs = [V.ref p] ∧ (SqL K H p ys ∨ SqT K H p ys) ∧ ∀ (l : Addr), H l = none → Q (V.ref l) (upd H l (HO.lst ys))) (tCons (tVar j) tNil)) [j] σ H1 R := by
  refine ⟨_, e1, a, rfl, ⟨_, SqL.of ha⟩, fun D hD => ?_⟩
  refine lcG (walk_list (K := K) (a := a) (xs := xs)) yat pr (fun _ H => Same H1 H) (same_upd hD) (fun _ H' acc s => same_of_new s hD) (fun m H' _ s => SqL.of (s _ _ ha)) (by omega) (fun _ => true) (fun H' v u => ∃ b, v = V.ref b ∧ b ≠ D ∧ H' b = some (.lst [.str (sw u.1), .int u.2])) (fun H' acc acc' v u hDl ⟨b, e, ne, h⟩ => ⟨b, e, ne, by rw [upd_ne ne]; exact h⟩) (fun m x r H' acc R' N hr ex s hDH k1 _ => ?_) (fun H' acc s hDH pr => ?_)
  · obtain ⟨g, rfl, hg⟩ := ItT.same s ex
    refine ⟨e2 _, yes_ite ⟨_, e3 _, g, _, rfl, .inr (SqT.of hg), fun l hl => ?_⟩⟩
    have sl := same_upd (o := .lst [V.str (sw r.1), .int r.2]) hl
    have nlD : l ≠ D := fun z => by rw [z, hDH] at hl; cases hl
    exact k1 rfl _ _ (s.trans sl) (sl _ _ hDH) (fun v u ⟨b, e, ne, h⟩ => ⟨b, e, ne, sl _ _ h⟩) ⟨l, rfl, nlD, upd_same⟩
  · rw [filter_tt] at pr
    exact hR H' D acc s hDH (paired_mono (fun v u ⟨b, e, _, h⟩ => ⟨b, e, h⟩) pr)
/-- all([isinstance(d[key], bool) for key in d]) -/
theorem lc_bools {P : Program} {w : World} {K : PySem.W.Frag} {σ : L2.St} {H : Hp} {R : VK} {a : Addr} {kvs : List (NestedKey × V)} {k j : Nat} (hd : DN P w K H a kvs) (nd : (kvs.map (·.1)).Nodup) (hv : ∀ x ∈ kvs, ∃ b, x.2 = .bl b) (hl : kvs.length ≤ 1000) (e1 : σ[k]? = some (some (.ref a)))
    (e2 : ∀ x, wipe ((wipe σ [j]).set j x) [j] = wipe σ [j]) (e3 : ∀ x, ((wipe σ [j]).set j (some x))[j]? = some (some x)) (e4 : ∀ x, ((wipe σ [j]).set j (some x))[k]? = some (some (.ref a)))
    (hR : ∀ H', Same H H' → R (.bl true) H') :
    tCB (rAll K) (tCons (tLockE (tLc (iKeysN P w (tVar k)) (gName j) tYes (tCB (rIsi K) (tCons (tDGetR P w K (tVar k) (tVar j)) (tCons (tC (.ty "bool")) tNil))) [j])) tNil) σ H R := by
  obtain ⟨xs, ha, rfl, hk⟩ := hd
  have xl : xs.length ≤ 1000 := by rw [← kvN_len]; exact hl
  refine ⟨a, _, ha, ha ▸ dno_mut ha, fun od => ?_⟩
  refine ⟨_, e1, a, od, xs, rfl, upd_same, fun D hD => ?_⟩
  have hDa : D ≠ a := fun z => by rw [z, upd_same] at hD; cases hD
  have hD0 : H D = none := by rw [upd_ne hDa] at hD; exact hD
  have keys : ∀ {H'}, Same (upd H a (.frz od (DNo P w a xs))) H' → ∀ x ∈ xs, KeyAt K H' x.1 x.2.1 := fun s x hx => (hk x hx).mono fun c u r => by
    rcases r with r | ⟨ob, r⟩
    · exact .inl (s _ _ (by rw [upd_ne (ne_of r ha dno_tup)]; exact r))
    · exact .inr ⟨ob, s _ _ (by rw [upd_ne (ne_of r ha (fun z => by unfold DNo at z; cases z))]; exact r)⟩
  refine lcF (us := xs) (xs := xs.map fun x => V.ref x.2.1) (by rw [List.length_map]; exact walk_keysN) yat (paired_self xs) hD (fun H' s => s _ _ upd_same) (by omega) (fun _ => true) (fun _ => .bl true) (fun x p H' R N hp ex s k1 _ => ?_) (fun H' s hD2 => ?_)
  · subst ex
    refine ⟨e2 _, yes_ite ?_⟩
    obtain ⟨b, hb⟩ := hv (p.1, p.2.2) (List.mem_map.mpr ⟨p, hp, rfl⟩)
    have hb : p.2.2 = .bl b := hb
    refine ⟨_, e4 _, _, e3 _, a, _, _, _, p.2.2, rfl, rfl, ⟨xs, .inr ⟨od, s _ _ upd_same⟩, rfl, keys s⟩, keys s p hp, val_nodup nd (p.1, p.2.2) (List.mem_map.mpr ⟨p, hp, rfl⟩), ?_⟩
    refine ⟨_, _, _, _, true, rfl, .ty _, .base (hb ▸ .bl _), isi_bb, k1 rfl⟩
  · rw [filter_tt] at hD2
    refine ⟨s _ _ upd_same, ?_⟩
    have hu : Same H (upd H' a (DNo P w a xs)) := fun b u hb => by
      by_cases z : b = a
      · rw [z, upd_same, ← ha, ← z]; exact hb
      · rw [upd_ne z]; exact s _ _ (by rw [upd_ne z]; exact hb)
    have hD3 : (upd H' a (DNo P w a xs)) D = some (.lst ((List.replicate xs.length true).map V.bl)) := by
      rw [upd_ne hDa, hD2]
      congr 2
      rw [List.map_replicate, List.map_const']
    exact ⟨D, _, rfl, SqL.of hD3, by rw [show (List.replicate xs.length true).all id = true by simp]; exact hR _ hu⟩
end Toy
set_option Elab.async false
set_option linter.all false
set_option maxRecDepth 100000
set_option maxHeartbeats 4000000
set_option pp.maxSteps 300
set_option pp.deepTerms false
namespace Toy
open PySem L2 Sh ShL LamX NdefX
def spLaw (K : PySem.W.Frag) (T : List (Addr × Str)) : Sp := fun vs H Q _ => ∃ (a : Addr) (ns : List Int), vs = [.ref a] ∧ SqL K H a (ns.map V.int) ∧ Tabs T H ∧ ∀ H', Q (.bl true) H'
def OddV (z : Wd) (H : Hp) (v : V) : Prop := ∃ b, LtV H v b ∧ (b = true → v = .str (sw z))
theorem OddV.m {z : Wd} : Pm (OddV z) := fun _ _ _ s ⟨b, h, e⟩ => ⟨b, h.kp (kpS_same s), e⟩
theorem OddL.v {z : Wd} {H : Hp} {v : V} (h : OddL H v) : OddV z H v := ⟨false, h.1, fun e => by cases e⟩
theorem itT_kp {d c : Addr} {n : Nat} {H H' : Hp} {vs : List V} {its : List It2} (p : Pen H d c n) (k : Kp d H H') (h : Paired (ItT H) vs its) : Paired (ItT H') vs its := ItT.kpP p k h
theorem ne_bl (a b : Bool) : (!decide (V.bl a = V.bl b)) = decide (a ≠ b) := by cases a <;> cases b <;> rfl
section
variable {P : Program} {w : World} {K : PySem.W.Frag} {mg : Str → Option Value} {base : Heap}
theorem tree_kitC (T : Tx P K mg) : PySem.W.kitOne K (.ref T.c_Tree) (.ref T.c_Tree) = some true := by
  unfold PySem.W.kitOne
  rw [if_pos (by simp)]
theorem RF.smk28 {T : List (Addr × Str)} {CR d c x ia : Addr} {j1 j2 : List Kd} {xs : List V} {its : List It2} {n m : Nat} {H0 H H' : Hp} (l : RF T CR d c x ia j1 j2 xs its H0 n H) (k : SmK T d H H') (p : Pen H' d c m) : RF T CR d c x ia j1 j2 xs its H' m H' := by
  obtain ⟨kvs, hd⟩ := l.pen.at
  exact ⟨p, SmK.of (Sm.refl k.2), l.rule.mono (fun _ _ _ _ h => k.get h (ne_of h hd (by intro z; cases z))) fun _ _ h => k.get h (ne_of h hd (by intro z; cases z)), k.get l.ia (ne_of l.ia hd (by intro z; cases z)), paired_mono (fun _ _ ⟨a, e, h⟩ => ⟨a, e, k.get h (ne_of h hd (by intro z; cases z))⟩) l.pr⟩
theorem ok_law (T : Tx P K mg) (B : Bx T base) : FnOk P w K mg base CX0 16 T.a_law T.fd_law ["_law_script"] (spLaw K (tabs T)) := by
  refine okT T.F_law sc_law (fun vs H Q E h => ?_) (fun cdv A outer s H vs Q E hcd hr h => ?_)
  · obtain ⟨a, ns, rfl, _⟩ := h
    rfl
  have hcd : cdv = .ref T.kc_law := hcd.symm.trans T.ec_law
  have hu := hu_of hr
  have hu65 := hu65_of hr
  obtain ⟨oc_n, od_n, kV_n, doc_n, pm_n, an_n, cdv_n, ct_n, osl_n, fd_n, lk_n, cg_l_caught⟩ := T.F_l_caught.ex
  have bi_n := T.bi_l_caught
  rw [fd_n] at lk_n bi_n
  have lk_l_caught := lk_n
  have bi_l_caught := bi_n
  obtain ⟨a, ns, rfl, hS, tb, q⟩ := h
  refine ⟨_, (pss_cons (ps_set (i := 1) sc_law.nd rfl (by first | exact Or.inl rfl | exact Or.inr rfl) (pe_call (ok_l_pen (w := w) T B) (hr.mono (by decide)) (by rfl) T.m_l_pen T.F_l_pen.kp T.bi_l_pen .nil pass0 (pa_cons (pv 0) pa_nil)))
 (pss_cons (ps_asg (pe_call (ok_l_exact (w := w) T B) (hr.mono (by decide)) (by rfl) T.m_l_exact T.F_l_exact.kp T.bi_l_exact .nil pass0 (pa_cons (pv 1) pa_nil)) (pg_tup rfl (pgs_cons (pg_name (i := 2) sc_law.nd rfl (by first | exact Or.inl rfl | exact Or.inr rfl)) (pgs_cons (pg_name (i := 3) sc_law.nd rfl (by first | exact Or.inl rfl | exact Or.inr rfl)) pgs_nil))))
 (pss_cons (ps_if (pt_cmpR op_eq (pe_call (ok_l_draw (w := w) T B) (hr.mono (by decide)) (by rfl) T.m_l_draw T.F_l_draw.kp T.bi_l_draw .nil pass0 (pa_cons (pv 1) (pa_cons pe_int pa_nil))) pe_int (nomark _))
 (pss_one (ps_asg (pe_call (ok_l_bent (w := w) T B) (hr.mono (by decide)) (by rfl) T.m_l_bent T.F_l_bent.kp T.bi_l_bent .nil pass0 (pa_cons (pv 1) (pa_cons (pv 2) (pa_cons (pv 3) pa_nil)))) (pg_unl rfl (pgs_cons (pg_name (i := 2) sc_law.nd rfl (by first | exact Or.inl rfl | exact Or.inr rfl)) (pgs_cons (pg_name (i := 3) sc_law.nd rfl (by first | exact Or.inl rfl | exact Or.inr rfl)) pgs_nil)))))
 pss_nil)
 (pss_cons (ps_asg (pe_tup (pa_cons (pe_make (E := fun _ _ _ => False) T.mk_Rule (ok_Rule_init (w := w) T B) (hr.mono (by decide)) (by rfl) T.m_Rule T.bi_Rule_init .nil (passes_call LamX.takes0 (fun _ _ _ _ h => h)) (pa_cons (pe_call (ok_l_shuffled (w := w) T B) (hr.mono (by decide)) (by rfl) T.m_l_shuffled T.F_l_shuffled.kp T.bi_l_shuffled .nil pass0 (pa_cons (pv 1) (pa_cons (pv 2) pa_nil))) (pa_cons (pe_call (ok_l_shuffled (w := w) T B) (hr.mono (by decide)) (by rfl) T.m_l_shuffled T.F_l_shuffled.kp T.bi_l_shuffled .nil pass0 (pa_cons (pv 1) (pa_cons (pv 3) pa_nil))) pa_nil))) (pa_cons (pe_call (ok_l_is_exact (w := w) T B) (hr.mono (by decide)) (by rfl) T.m_l_is_exact T.F_l_is_exact.kp T.bi_l_is_exact .nil pass0 (pa_cons (pv 2) (pa_cons (pv 3) pa_nil))) pa_nil))) (pg_tup rfl (pgs_cons (pg_name (i := 4) sc_law.nd rfl (by first | exact Or.inl rfl | exact Or.inr rfl)) (pgs_cons (pg_name (i := 5) sc_law.nd rfl (by first | exact Or.inl rfl | exact Or.inr rfl)) pgs_nil))))
 (pss_cons (ps_set (i := 6) sc_law.nd rfl (by first | exact Or.inl rfl | exact Or.inr rfl) (pe_call (ok_l_letters (w := w) T B) (hr.mono (by decide)) (by rfl) T.m_l_letters T.F_l_letters.kp T.bi_l_letters .nil pass0 (pa_cons (pv 1) (pa_cons pe_int pa_nil))))
 (pss_cons (ps_set (i := 7) sc_law.nd rfl (by first | exact Or.inl rfl | exact Or.inr rfl) (pe_call (ok_l_items (w := w) T B) (hr.mono (by decide)) (by rfl) T.m_l_items T.F_l_items.kp T.bi_l_items .nil pass0 (pa_cons (pv 1) (pa_cons (pv 6) (pa_cons pe_int (pa_cons pe_int pa_nil))))))
 (pss_cons (ps_if (PW.pt (pw_or (pt_not (pt_val (pe_callB call_isi (by rfl) T.b_isinstance (by decide +kernel) (pa_cons (pe_meth0 (pv 4) T.cl_Rule T.me_Rule_is_exact (ok_Rule_is_exact (w := w) T B) (hr.mono (by decide)) T.bi_Rule_is_exact .nil pass0) (pa_cons (pe_bltn (v := .ty "bool") (by rfl) T.b_bool (by decide +kernel) rfl) pa_nil))))) (pw_or1 (pt_cmpR op_ne (pe_meth0 (pv 4) T.cl_Rule T.me_Rule_is_exact (ok_Rule_is_exact (w := w) T B) (hr.mono (by decide)) T.bi_Rule_is_exact .nil pass0) (pv 5) (nomark _)))))
 (pss_one (ps_ret pe_bl))
 pss_nil)
 (pss_cons (ps_if (pt_not (pt_val (pv 5)))
 (pss_cons (ps_if (pt_cmpR (op_neSameT (Nat.lt_of_le_of_lt (Nat.le_add_right _ 65) hu65)) (pe_lamcall (T := tabs T) (k := 10) (Ng := N_l_caught) (by rfl) T.m_l_caught T.F_l_caught.kp lk_l_caught cg_l_caught bi_l_caught sc_l_caught rfl (by first | exact Or.inl rfl | exact Or.inr (Or.inl rfl) | exact Or.inr (Or.inr rfl)) (gives_l_caught T _ rfl rfl _ _) B.tb_law hcd (mem_law T) (uniq_law T) (hr.mono (by decide)) (lamS_by (sc := defScope s_law) (by decide +kernel)) rfl (fun _ _ _ _ _ => rfl) (fun A outer s H E f c' hr2 => (pe_call (ok_flags_of (w := w) T B) (hr2.mono (by decide)) (by rfl) T.m_flags_of T.F_flags_of.kp T.bi_flags_of .nil (passes_call (takes_of rfl rfl rfl rfl) (fun _ _ _ _ h => h)) (pa_cons (pv 4) pa_nil)))) (pe_tup (pa_cons pe_str pa_nil)) (nomark _))
 (pss_one (ps_ret pe_bl))
 pss_nil)
 (pss_cons (ps_set (i := 8) sc_law.nd rfl (by first | exact Or.inl rfl | exact Or.inr rfl) (pe_call (ok_l_pick (w := w) T B) (hr.mono (by decide)) (by rfl) T.m_l_pick T.F_l_pick.kp T.bi_l_pick .nil pass0 (pa_cons (pv 1) (pa_cons (pe_lst (pa_cons (pv 6) (pa_cons pe_str (pa_cons pe_non (pa_cons (pe_op op_add_str (pv 6) pe_str) pa_nil))))) pa_nil))))
 (pss_one (ps_ret (pe_cmpR (op_eqSameT (Nat.lt_of_le_of_lt (Nat.le_add_right _ 65) hu65)) (pe_lamcall (T := tabs T) (k := 10) (Ng := N_l_caught) (by rfl) T.m_l_caught T.F_l_caught.kp lk_l_caught cg_l_caught bi_l_caught sc_l_caught rfl (by first | exact Or.inl rfl | exact Or.inr (Or.inl rfl) | exact Or.inr (Or.inr rfl)) (gives_l_caught T _ rfl rfl _ _) B.tb_law hcd (mem_law T) (uniq_law T) (hr.mono (by decide)) (lamS_by (sc := defScope s_law) (by decide +kernel)) rfl (fun _ _ _ _ _ => rfl) (fun A outer s H E f c' hr2 => (pe_meth (pv 4) T.cl_Rule T.me_Rule_tree_of (ok_Rule_tree_of (w := w) T B) (hr2.mono (by decide)) T.bi_Rule_tree_of .nil (passes_call (takes_of rfl rfl rfl rfl) (fun _ _ _ _ h => h)) (pa_cons (pv 8) (pa_cons (pe_op op_cat (pv 7) (pe_lst (pa_cons pe_non pa_nil))) pa_nil))))) (pe_tup (pa_cons pe_str pa_nil)) (nomark _))))))
 pss_nil)
 (pss_cons (ps_set (i := 9) sc_law.nd rfl (by first | exact Or.inl rfl | exact Or.inr rfl) (pe_call (ok_l_flags_due (w := w) T B) (hr.mono (by decide)) (by rfl) T.m_l_flags_due T.F_l_flags_due.kp T.bi_l_flags_due .nil pass0 (pa_cons (pv 2) (pa_cons (pv 3) pa_nil))))
 (pss_cons (ps_set (i := 10) sc_law.nd rfl (by first | exact Or.inl rfl | exact Or.inr rfl) (pe_call (E := fun _ _ _ => False) (ok_flags_of (w := w) T B) (hr.mono (by decide)) (by rfl) T.m_flags_of T.F_flags_of.kp T.bi_flags_of .nil (passes_call LamX.takes0 (fun _ _ _ _ h => h)) (pa_cons (pv 4) pa_nil)))
 (pss_cons (ps_if (PW.pt (pw_or (pt_not (pt_val (pe_callB call_isiN (by rfl) T.b_isinstance (by decide +kernel) (pa_cons (pv 10) (pa_cons (pe_bltn (v := .ty "dict") (by rfl) T.b_dict (by decide +kernel) rfl) pa_nil))))) (pw_or (pt_cmpR (op_neN hu65) (pv 10) (pv 9) (nomark _)) (pw_or1 (pt_not (pt_val (pe_callB (cr_all rfl) (by rfl) T.b_all (by decide +kernel) (pa_cons (pe_lock (pe_lc (own := [("_law_key", 15)]) (g := gName 15) rfl sc_law.nd (pi_keysN (pv 10)) (blkOk_by (own := [("_law_key", 15)]) (N := N_law) (sc := defScope s_law) (by decide +kernel)) (fun _ _ _ _ _ => (pg_name (i := 15) sc_law.nd rfl (by first | exact Or.inl rfl | exact Or.inr rfl))) (fun _ _ _ _ _ => pts_nil) (fun _ _ _ _ _ => (pe_callB (by exact call_isi : CallR _ (.builtin "isinstance") (rIsi K)) (by rfl) T.b_isinstance (by decide +kernel) (pa_cons (by exact (pe_dgetR hu65 (pv 10) (pv 15) (fun _ _ => rfl)) : PE _ _ (tDGetR P w K (tVar 10) (tVar 15))) (pa_cons (pe_bltn (v := .ty "bool") (by rfl) T.b_bool (by decide +kernel) rfl) pa_nil)))))) pa_nil))))))))
 (pss_one (ps_ret pe_bl))
 pss_nil)
 (pss_cons (ps_dputN hu65 (pv 10) (pe_tup (pa_cons pe_bl (pa_cons pe_bl (pa_cons pe_int pa_nil)))) pe_non rfl)
 (pss_cons (ps_if (pt_cmpR (op_neN hu65) (pe_call (E := fun _ _ _ => False) (ok_flags_of (w := w) T B) (hr.mono (by decide)) (by rfl) T.m_flags_of T.F_flags_of.kp T.bi_flags_of .nil (passes_call LamX.takes0 (fun _ _ _ _ h => h)) (pa_cons (pv 4) pa_nil)) (pv 9) (nomark _))
 (pss_one (ps_ret pe_bl))
 pss_nil)
 (pss_cons (ps_set (i := 11) sc_law.nd rfl (by first | exact Or.inl rfl | exact Or.inr rfl) (pe_call (ok_l_rows_due (w := w) T B) (hr.mono (by decide)) (by rfl) T.m_l_rows_due T.F_l_rows_due.kp T.bi_l_rows_due .nil pass0 (pa_cons (pv 6) (pa_cons (pv 7) (pa_cons (pv 9) pa_nil)))))
 (pss_cons (ps_set (i := 12) sc_law.nd rfl (by first | exact Or.inl rfl | exact Or.inr rfl) (pe_call (ok_l_shuffled (w := w) T B) (hr.mono (by decide)) (by rfl) T.m_l_shuffled T.F_l_shuffled.kp T.bi_l_shuffled .nil pass0 (pa_cons (pv 1) (pa_cons (pv 7) pa_nil))))
 (pss_cons (ps_setLc (i := 13) (own := [("_law_item", 16)]) (g := gName 16) rfl sc_law.nd rfl rfl (sw_true rfl rfl rfl (by decide +kernel)) (pi_list (pv 12)) (blkOk_by (own := [("_law_item", 16)]) (N := N_law) (sc := defScope s_law) (by decide +kernel)) (fun _ _ _ _ _ => (pg_name (i := 16) sc_law.nd rfl (by first | exact Or.inl rfl | exact Or.inr rfl))) (fun _ _ _ _ _ => pts_nil) (fun _ _ _ _ _ => (pe_callTy (by exact call_list_of : CallR _ (.type "list") (fun xs H Q => ∃ p ys, xs = [.ref p] ∧ (SqL K H p ys ∨ SqT K H p ys) ∧ ∀ l, H l = none → Q (.ref l) (upd H l (.lst ys)))) (by rfl) T.b_list (by decide +kernel) (pa_cons (pv 16) pa_nil))))
 (pss_cons (ps_set (i := 14) sc_law.nd rfl (by first | exact Or.inl rfl | exact Or.inr rfl) (pe_meth (E := fun _ _ _ => False) (pv 4) T.cl_Rule T.me_Rule_tree_of (ok_Rule_tree_of (w := w) T B) (hr.mono (by decide)) T.bi_Rule_tree_of .nil (passes_call LamX.takes0 (fun _ _ _ _ h => h)) (pa_cons (pv 6) (pa_cons (pv 13) pa_nil))))
 (pss_cons (ps_if (PW.pt (pw_or (pt_cmpR (op_neD hr.units) (pe_fld (pv 14) rfl) (pe_callTy call_tuple_of (by rfl) T.b_tuple (by decide +kernel) (pa_cons (pv 11) pa_nil)) (nomark _)) (pw_or (pt_cmpR op_ne (pe_fld (pv 14) rfl) (pv 6) (nomark _)) (pw_or1 (pt_not (pt_val (pe_callB call_isi (by rfl) T.b_isinstance (by decide +kernel) (pa_cons (pv 14) (pa_cons (pe_glob (v := .ref T.c_Tree) (by rfl) T.m_Tree rfl) pa_nil)))))))))
 (pss_one (ps_ret pe_bl))
 pss_nil)
 (pss_cons (ps_if (pt_cmpR (op_neD hr.units) (pv 13) (pe_lc (own := [("_law_item", 16)]) (g := gName 16) rfl sc_law.nd (pi_list (pv 12)) (blkOk_by (own := [("_law_item", 16)]) (N := N_law) (sc := defScope s_law) (by decide +kernel)) (fun _ _ _ _ _ => (pg_name (i := 16) sc_law.nd rfl (by first | exact Or.inl rfl | exact Or.inr rfl))) (fun _ _ _ _ _ => pts_nil) (fun _ _ _ _ _ => (pe_callTy (by exact call_list_of : CallR _ (.type "list") (fun xs H Q => ∃ p ys, xs = [.ref p] ∧ (SqL K H p ys ∨ SqT K H p ys) ∧ ∀ l, H l = none → Q (.ref l) (upd H l (.lst ys)))) (by rfl) T.b_list (by decide +kernel) (pa_cons (pv 16) pa_nil)))) (nomark _))
 (pss_one (ps_ret pe_bl))
 pss_nil)
 (pss_cons (ps_if (PW.pt (pw_or (pt_not (pt_val (pe_meth (pv 4) T.cl_Rule T.me_Rule_keeps (ok_Rule_keeps (w := w) T B) (hr.mono (by decide)) T.bi_Rule_keeps .nil pass0 (pa_cons (pv 14) pa_nil)))) (pw_or1 (pt_cmpR op_notN (pe_meth (pv 4) T.cl_Rule T.me_Rule_broken_at (ok_Rule_broken_at (w := w) T B) (hr.mono (by decide)) T.bi_Rule_broken_at .nil pass0 (pa_cons (pv 14) pa_nil)) pe_non (nomark _)))))
 (pss_one (ps_ret pe_bl))
 pss_nil)
 (pss_one (ps_ret (pe_and (pe_call (ok_l_only_right (w := w) T B) (hr.mono (by decide)) (by rfl) T.m_l_only_right T.F_l_only_right.kp T.bi_l_only_right .nil pass0 (pa_cons (pv 1) (pa_cons (pv 4) (pa_cons (pv 6) (pa_cons (pv 11) pa_nil))))) (pe_one (pe_call (ok_l_refused_right (w := w) T B) (hr.mono (by decide)) (by rfl) T.m_l_refused_right T.F_l_refused_right.kp T.bi_l_refused_right .nil pass0 (pa_cons (pv 1) (pa_cons (pv 4) (pa_cons (pv 6) (pa_cons (pv 7) pa_nil))))))))))))))))))))))))))))), ?_⟩
  refine ⟨_, rfl, a, ns, rfl, hS, fun H1 d c s1 p1 => ?_⟩
  have t1 := tb.ext s1
  try dsimp only [gName]
  refine asgI ⟨_, rfl, d, c, 0, rfl, p1, by omega, fun H2 p ra rb xs ys r1 r2 k1 k2 l1 l2 gp ga gb a1 a2 kp2 p2 => ⟨p, _, rfl, SqT.of gp, rfl, _, _, rfl, _, _, rfl, rfl, ?_⟩⟩
  have km2 : SmK (tabs T) d H1 H2 := (SmK.of (Sm.refl t1)).kpD p1 kp2
  -- now and then bent
  refine seqW (fun σ' H' => ∃ ra rb xs ys r1 r2, σ' = [some (.ref a), some (.ref d), some (.ref ra), some (.ref rb), none, none, none, none, none, none, none, none, none, none, none, none, none] ∧ KL r1 ∧ KL r2 ∧ H' ra = some (.lst xs) ∧ H' rb = some (.lst ys) ∧ AllK H' xs r1 ∧ AllK H' ys r2 ∧ SmK (tabs T) d H1 H' ∧ Pen H' d c 14) (fun N hN => ?_) (fun σ' H4 ⟨ra, rb, xs, ys, r1, r2, e, k1, k2, ga, gb, a1, a2, km4, p4⟩ => ?_)
  · refine ⟨_, rfl, d, c, _, 3, rfl, p2, by omega, by decide, by decide, fun H3 r r0 r1' k3 p3 => ⟨rfl, _, rfl, ?_⟩⟩
    have km3 := km2.kpD p2 k3
    have ga3 := kp_lst p2 k3 ga
    have gb3 := kp_lst p2 k3 gb
    have a13 := AllK.kpP p2 k3 a1
    have a23 := AllK.kpP p2 k3 a2
    refine ite2 (fun _ => ?_) (fun _ => ?_)
    · refine asgE ⟨_, rfl, _, rfl, _, rfl, d, c, _, ra, rb, xs, ys, r1, r2, rfl, p3, by omega, ga3, gb3, a13, a23, k1.ok, k2.ok, by omega, by omega, by omega, by omega, fun H4 p fa fb xs' ys' r1' r2' kl1 kl2 gp ga gb a1 a2 kp4 p4 => ⟨p, _, rfl, SqL.of gp, rfl, _, _, rfl, _, _, rfl, rfl, ?_⟩⟩
      exact hN _ _ ⟨fa, fb, xs', ys', r1', r2', rfl, kl1, kl2, ga, gb, a1, a2, km3.kpD p3 kp4, p4.mono (by omega)⟩
    · exact hN _ _ ⟨ra, rb, xs, ys, r1, r2, rfl, k1, k2, ga3, gb3, a13, a23, km3, p3.mono (by omega)⟩
  subst e
  have xl : xs.length = r1.length := AllK.len a1
  have yl : ys.length = r2.length := AllK.len a2
  have kl1 := k1.l8
  have kl2 := k2.l8
  -- the rule
  refine asgI ?_
  refine consI (mkRP k1.nd k2.nd (by omega) (by omega) fun R hR => ?_)
  refine ⟨_, rfl, _, rfl, d, c, ra, _, xs, rfl, p4, by omega, ga, by omega, fun H5 b1 zs1 pm1 g1 k5 p5 => ⟨_, rfl, _, rfl, d, c, rb, _, ys, rfl, p5, by omega, kp_lst p4 k5 gb, by omega, fun H6 b2 zs2 pm2 g2 k6 p6 => ?_⟩⟩
  obtain ⟨q1, m1, pk1⟩ := perm_paired pm1 (AllK.kpP p4 k5 a1)
  obtain ⟨q2, m2, pk2⟩ := perm_paired pm2 (AllK.kpP p5 k6 (AllK.kpP p4 k5 a2))
  have km6 := (km4.kpD p4 k5).kpD p5 k6
  have ga6 := kp_lst p5 k6 (kp_lst p4 k5 ga)
  have gb6 := kp_lst p5 k6 (kp_lst p4 k5 gb)
  have a16 := AllK.kpP p5 k6 (AllK.kpP p4 k5 a1)
  have a26 := AllK.kpP p5 k6 (AllK.kpP p4 k5 a2)
  have p6 : Pen H6 d c 30 := p6.mono (by omega)
  refine hR H6 b1 b2 zs1 zs2 q1 q2 (kp_lst p5 k6 g1) g2 (AllK.kpP p5 k6 pk1) pk2 m1 m2 k1.ok k2.ok fun H7 x j1 j2 s7 n7 hx pj1 pj2 => ?_
  refine ⟨_, rfl, _, rfl, ra, rb, xs, ys, r1, r2, rfl, s7 _ _ ga6, s7 _ _ gb6, AllK.same s7 a16, AllK.same s7 a26, by omega, by omega, fun H8 s8 => ⟨by show 2 ≤ sizeLine; decide, fun t ht => ⟨t, _, rfl, SqT.of upd_same, rfl, _, _, rfl, _, _, rfl, rfl, ?_⟩⟩⟩
  have s9 := same_upd (o := .tup [V.ref x, .bl (exB r1 r2)]) ht
  have s9 := s8.trans s9
  generalize upd H8 t (.tup [V.ref x, .bl (exB r1 r2)]) = H9 at s9
  have hx9 := RuleAt.same s9 hx
  have s9 := s7.trans s9
  have km9 := km6.same s9
  have p9 := p6.same s9
  have ga9 := s9 _ _ ga6
  have gb9 := s9 _ _ gb6
  have a19 := AllK.same s9 a16
  have a29 := AllK.same s9 a26
  have jl1 : j1.length ≤ 40 := by rw [pj1.length_eq]; omega
  have jl2 : j2.length ≤ 40 := by rw [pj2.length_eq]; omega
  have ok1 : ∀ k ∈ j1, KOk k := fun k hk => k1.ok k (pj1.mem_iff.mp hk)
  have ok2 : ∀ k ∈ j2, KOk k := fun k hk => k2.ok k (pj2.mem_iff.mp hk)
  have exe : exB j1 j2 = exB r1 r2 := exB_perm pj1 pj2
  try dsimp only [gName]
  -- letters, items
  refine asgI ⟨_, rfl, d, c, _, rfl, p9, by omega, fun H10 z lz l5 k10 p10 => ?_⟩
  try dsimp only [gName]
  refine asgI ⟨_, rfl, _, rfl, d, c, _, z, rfl, p10, by omega, lz, fun H11 ia xi its iok il gia pr k11 p11 => ?_⟩
  try dsimp only [gName]
  have rf : RF (tabs T) T.c_Rule d c x ia j1 j2 xi its H1 106 H11 := ⟨p11.mono (by omega), (km9.kpD p9 k10).kpD p10 k11, RuleAt.kp p10 k11 (RuleAt.kp p9 k10 hx9), gia, pr⟩
  have ga11 := kp_lst p10 k11 (kp_lst p9 k10 ga9)
  have gb11 := kp_lst p10 k11 (kp_lst p9 k10 gb9)
  have a111 := AllK.kpP p10 k11 (AllK.kpP p9 k10 a19)
  have a211 := AllK.kpP p10 k11 (AllK.kpP p9 k10 a29)
  have xil : xi.length = its.length := pr.length
  have z2 := lz.l2
  have z26 := lz.l26
  obtain ⟨dx, pr1, pr2, ys1, ys2, hx11, _⟩ := id rf.rule
  refine ⟨_, rfl, x, dx, _, rfl, hx11, flds_no (by decide +kernel) (by decide +kernel), x, j1, j2, rfl, rf.rule, jl1, jl2, fun H12 s12 => ?_⟩
  refine ⟨_, _, _, _, true, rfl, .ty _, .base (.bl _), isi_bb, _, rfl, iteF ?_⟩
  have rf12 := rf.same s12
  refine ⟨_, rfl, x, dx, _, rfl, s12 _ _ hx11, flds_no (by decide +kernel) (by decide +kernel), x, j1, j2, rfl, rf12.rule, jl1, jl2, fun H13 s13 => ⟨_, rfl, rfl, _, rfl, ?_⟩⟩
  rw [exe, ne_bl, decide_eq_false (fun h => h rfl)]
  refine iteF ?_
  have rf13 := rf12.same s13
  have s13 := s12.trans s13
  have ga13 := s13 _ _ ga11
  have gb13 := s13 _ _ gb11
  have a113 := AllK.same s13 a111
  have a213 := AllK.same s13 a211
  refine nextS ?_
  dsimp only
  refine ⟨_, rfl, _, rfl, ?_⟩
  cases hex : exB r1 r2 with
  | false =>
    refine iteT ?_
    refine ifI (caughtF rf13.smk.2 rfl rf13.rule jl1 jl2 (exe.trans hex) fun H14 pp sm14 g14 => ?_)
    refine same_tupV g14 (cn_cons cn_nil) rfl (by show 1 ≤ 10; decide) fun H15 s15 => ⟨_, rfl, iteF ?_⟩
    have rf15 := rf13.sm (sm14.ext s15)
    refine nextS ?_
    dsimp only
    refine asgI ?_
    refine ⟨_, rfl, ?_⟩
    refine consI (lst_p1 (P := OddV z) (n := 4)
      (p1_cons OddV.m (p1_v (v := .str (sw z)) rfl fun H => ⟨true, ltV_z lz, fun _ => rfl⟩)
      (p1_cons OddV.m (p1_se (se_c (w := [97]) (by decide +kernel)) fun H => (oddL_w (by decide) (no_short (by decide))).v)
      (p1_cons OddV.m (p1_c fun H => OddL.v (oddL_t (v := .non) (t := "NoneType") rfl (by decide) rfl))
      (p1_cons OddV.m (p1_se (se_cat (se_var (w := z) rfl) (se_c (w := [65]) (by decide +kernel)) (by simp; omega)) fun H => (oddL_w (by simp; omega) (no_bad (c := 65) (List.mem_append_right _ List.mem_cons_self) (by decide +kernel))).v)
      p1_nil)))) OddV.m (by decide) fun H16 oa yo s16 n16 g16 l16 q16 => ?_)
    have rf16 := rf15.same s16
    have nod : oa ≠ d := by
      obtain ⟨kvs, hd⟩ := rf16.pen.at
      exact ne_of g16 hd (by intro z; cases z)
    refine .inl ⟨d, c, oa, _, yo, rfl, rf16.pen, by omega, SqL.of g16, by omega, by omega, nod, fun H17 v hv k17 p17 => ?_⟩
    have rf17 := rf16.kp k17 p17
    obtain ⟨b, lv, eb⟩ := q16 v hv
    have lv := lv.kp (kpS_pen rf16.pen k17 p17)
    try dsimp only [gName]
    refine retI (caughtT (ws := [.str "not exact"]) rf17.smk.2 rfl rf17.rule jl1 jl2 ok1 ok2 (fun H18 R sm18 hR => ?_) (fun H18 pp sm18 g18 => ?_))
    · have rf18 := rf17.sm sm18
      refine ⟨_, rfl, _, rfl, by show 1 ≤ sizeLine; decide, fun t1 ht1 => ?_⟩
      have st1 := same_upd (o := .lst [V.non]) ht1
      refine ⟨ia, t1, xi, [V.non], rfl, rfl, st1 _ _ rf18.ia, upd_same, by rw [sizeLine_eq]; show _ + 1 ≤ _; omega, fun t2 ht2 => ?_⟩
      have st2 := st1.trans (same_upd (o := .lst (xi ++ [V.non])) ht2)
      refine hR _ t2 (xi ++ [V.non]) v b z (its.map some ++ [none]) st2 (lv.kp ((kpS_sm sm18).trans (kpS_same st2))) upd_same (by rw [List.length_append, List.length_map]; show _ + 1 ≤ _; omega) (fun hb => ⟨eb hb, ?_⟩) ?_
      · exact paired_app (itV_of (rf18.same st2).pr iok.ok) (.cons (oddI_ty (t := "NoneType") rfl (by decide) (by decide)) .nil)
      · rw [exe, hex]
        exact ⟨fun _ => rfl, (fun h => by cases h), fun h => by cases h⟩
    exact same_tupV g18 (cn_cons cn_nil) rfl (by show 1 ≤ 10; decide) fun H19 s19 => q _
  | true =>
  refine iteF ?_
  refine nextS ?_
  dsimp only
  have exj : Ex j1 j2 := exB_ex ok1 ok2 (exe.trans hex)
  have exr : Ex r1 r2 := exB_ex k1.ok k2.ok hex
  have wz : ∀ it ∈ its, ∀ c ∈ it.1, c ∈ z := fun it hit => (iok.ok it hit).2.1
  -- the flags
  refine asgI ⟨_, rfl, _, rfl, ra, rb, xs, ys, r1, r2, rfl, ga13, gb13, a113, a213, by omega, by omega, fun H14 fd s14 d14 n14 => ?_⟩
  try dsimp only [gName]
  have rf14 := rf13.same s14
  refine asgI ⟨_, rfl, x, j1, j2, rfl, rf14.rule, jl1, jl2, fun _ H15 fe s15 d15 n15 => ?_, fun h => by rw [exe, hex] at h; cases h⟩
  try dsimp only [gName]
  have flen : (flD j1 j2).length ≤ 81 := by
    unfold flD
    have h1 := fold_len false j2 (j1.foldl (putE true) [(nk false (false, 0), .bl false)])
    have h2 := fold_len true j1 [(nk false (false, 0), .bl false)]
    simp only [List.length_cons, List.length_nil] at h2
    omega
  refine ⟨_, rfl, fe, _, _, _, true, rfl, d15, .ty _, kit_ty (by decide +kernel), _, rfl, iteF ?_⟩
  refine ⟨_, rfl, _, rfl, fe, fd, _, _, rfl, rfl, d15, DN.same s15 d14, flD_same exj pj1 pj2, _, rfl, iteF ?_⟩
  refine lc_bools (j := 15) (k := 10) d15 (flD_nd exj) (fun e he => ?_) (by omega) rfl (fun _ => rfl) (fun _ => rfl) (fun _ => rfl) fun H16 s16 => ⟨_, rfl, iteF ?_⟩
  · rw [flD_eq exj] at he
    rcases List.mem_cons.mp he with rfl | he
    · exact ⟨_, rfl⟩
    rcases List.mem_append.mp he with he | he
    · obtain ⟨k, _, rfl⟩ := List.mem_map.mp he
      exact ⟨_, rfl⟩
    · obtain ⟨k, _, rfl⟩ := List.mem_map.mp he
      exact ⟨_, rfl⟩
  refine nextS ?_
  dsimp only
  refine ⟨_, rfl, by show 3 ≤ sizeLine; decide, fun t1 ht1 => ?_⟩
  have s17 := same_upd (o := .tup [V.bl true, .bl true, .int 0]) ht1
  have g17 : (upd H16 t1 (.tup [V.bl true, .bl true, .int 0])) t1 = some (.tup [V.bl true, .bl true, .int 0]) := upd_same
  generalize upd H16 t1 (.tup [V.bl true, .bl true, .int 0]) = H17 at s17 g17
  have s17 := s16.trans s17
  refine ⟨fe, t1, _, _, rfl, rfl, DN.same s17 d15, tup3_key (r := true) (s := (true, 0)) g17, by rw [sizeLine_eq]; omega, fun o18 d18 => ?_⟩
  have s18 : Same H14 (upd H17 fe o18) := same_of_new (s15.trans s17) n15
  generalize upd H17 fe o18 = H18 at s18
  have rf18 := rf14.same s18
  have d18 := DN.same s18 d14
  refine ⟨_, rfl, x, j1, j2, rfl, rf18.rule, jl1, jl2, fun _ H19 fe2 s19 d19 n19 => ?_, fun h => by rw [exe, hex] at h; cases h⟩
  refine ⟨_, rfl, fe2, fd, _, _, rfl, rfl, d19, DN.same s19 d18, flD_same exj pj1 pj2, _, rfl, iteF ?_⟩
  have rf19 := rf18.same s19
  have d19 := DN.same s19 d18
  refine nextS ?_
  dsimp only
  -- the rows due
  refine asgI ⟨_, rfl, _, rfl, _, rfl, z, ia, fd, xi, its, r1, r2, rfl, lz, rf19.ia, rf19.pr, iok, il, d19, exr, rf19.smk.2, fun H20 wa ws sm20 gwa prw => ?_⟩
  try dsimp only [gName]
  have rf20 := rf19.sm sm20
  rw [← rowsD_same exj pj1 pj2 (List.Perm.refl its) iok.nd wz] at prw
  -- items told in another order
  refine asgI ⟨_, rfl, _, rfl, d, c, ia, _, xi, rfl, rf20.pen, by omega, rf20.ia, by omega, fun H21 ta zi pm gta k21 p21 => ?_⟩
  try dsimp only [gName]
  have rf21 := rf20.kp k21 p21
  have gwa := kp_lst rf20.pen k21 gwa
  have prw : Paired (RwT H21) ws _ := paired_mono (fun _ _ ⟨g, e, h⟩ => ⟨g, e, kp_tup rf20.pen k21 h⟩) prw
  obtain ⟨js, pjs, prj⟩ := perm_paired pm rf21.pr
  have jsok : ∀ it ∈ js, ItOk z it := fun it hit => iok.ok it (pjs.mem_iff.mp hit)
  have jsl : js.length ≤ 6 := by rw [pjs.length_eq]; exact il
  have jnd : (js.map (·.1)).Nodup := (pjs.map _).nodup_iff.mpr iok.nd
  have erow : rowsD z j1 j2 js = rowsD z j1 j2 its := rowsD_same exj (List.Perm.refl _) (List.Perm.refl _) pjs jnd fun it hit => (jsok it hit).2.1
  refine asgI ?_
  refine lc_lists (k := 12) (j := 16) rfl gta prj (by omega) (fun _ => rfl) (fun _ => rfl) fun H22 pa zs s22 gpa pz => ?_
  try dsimp only [gName]
  have rf22 := rf21.same s22
  have gwa := s22 _ _ gwa
  have gta := s22 _ _ gta
  have prw := paired_mono (fun _ _ h => RwT.same s22 h) prw
  have prj := paired_mono (fun _ _ h => ItT.same s22 h) prj
  -- the tree
  obtain ⟨dx2, _, _, _, _, hx22, _⟩ := id rf22.rule
  have bl : (begs (js.map (·.1))).length ≤ 2000 := by
    have := begs5 (ws := js.map (·.1)) (fs := [[]]) fun w hw => by
      obtain ⟨it, hit, rfl⟩ := List.mem_map.mp hw
      exact iok.l5 it (pjs.mem_iff.mp hit)
    rw [List.length_map] at this
    simp only [List.length_cons, List.length_nil] at this
    exact Nat.le_trans this (by omega)
  refine asgI ⟨_, rfl, x, dx2, _, rfl, hx22, flds_no (by decide +kernel) (by decide +kernel), _, rfl, _, rfl, x, pa, _, zs, true, z, js.map some, j1, j2, rfl, rf22.rule, jl1, jl2, ok1, ok2, ltV_z lz, gpa, by rw [List.length_map]; omega, rf22.smk.2, fun _ => ⟨rfl, itVL_of pz jsok⟩,
    (fun h => by rw [exe, hex] at h; cases h), (fun _ h => by cases h), fun _ _ i wr => (wrongI_no jnd wr).elim, (fun _ _ vs f l => by rw [fineI_inj f] at l; omega), fun _ _ vs f _ H23 o sm23 tr => ?_⟩
  rw [fineI_inj f, erow] at tr
  try dsimp only [gName]
  have rf23 := rf22.sm sm23
  have gwa := sm23.get gwa
  have gta := sm23.get gta
  have gpa := sm23.get gpa
  have prw := paired_mono (fun _ _ h => RwT.sm sm23 h) prw
  have prj := paired_mono (fun _ _ h => ItT.sm sm23 h) prj
  have pz := paired_mono (fun _ _ h => ItL.sm sm23 h) pz
  have low : ∀ r ∈ rowsD z j1 j2 its, ∀ c ∈ r.1, c < 200 := tr.low
  obtain ⟨dt, tt, td, te, m, tvs, us, ht, htt, ptt, _⟩ := id tr.ex
  refine ⟨_, rfl, o, _, dt, _, _, rfl, ht, T.cl_Tree, T.na_Tree_rows, tf_rows, ?_⟩
  refine ⟨_, rfl, wa, ws, rfl, .inl ⟨SqL.of gwa, fun tu htu => ?_⟩⟩
  have s24 := same_upd (o := .tup ws) htu
  have g24 : (upd H23 tu (.tup ws)) tu = some (.tup ws) := upd_same
  generalize upd H23 tu (.tup ws) = H24 at s24 g24
  refine ⟨.tuple ((rowsD z j1 j2 its).map rwD), .tuple ((rowsD z j1 j2 its).map rwD), .tup (SqT.of (s24 _ _ htt)) (rws_dp (paired_mono (fun _ _ h => RwT.same s24 h) ptt)), .tup (SqT.of g24) (rws_dp (paired_mono (fun _ _ h => RwT.same s24 h) prw)), rws_shaped low, rws_shaped low, _, rfl, ?_⟩
  rw [show PyData.eqv (.tuple ((rowsD z j1 j2 its).map rwD)) (.tuple ((rowsD z j1 j2 its).map rwD)) = true by simp only [PyData.eqv, rws_eqv, decide_true]]
  refine iteF ?_
  refine ⟨_, rfl, o, _, dt, _, _, rfl, s24 _ _ ht, T.cl_Tree, T.na_Tree_letters, tf_letters, _, rfl, rfl, _, rfl, ?_⟩
  rw [decide_eq_true rfl]
  refine iteF ?_
  refine ⟨_, rfl, _, _, _, _, true, rfl, .own _, .base (.ins (s24 _ _ ht) T.cl_Tree T.ca_Tree T.o_get T.o_tk T.ob_Tree), tree_kitC T, _, rfl, iteF ?_⟩
  have rf24 := rf23.same s24
  have gwa := s24 _ _ gwa
  have gta := s24 _ _ gta
  have gpa := s24 _ _ gpa
  have prw := paired_mono (fun _ _ h => RwT.same s24 h) prw
  have prj := paired_mono (fun _ _ h => ItT.same s24 h) prj
  have pz := paired_mono (fun _ _ h => ItL.same s24 h) pz
  have tr := TreeAt.same tr s24
  refine nextS ?_
  try dsimp only
  -- the pairs stand
  refine ⟨_, rfl, ?_⟩
  refine lc_lists (k := 12) (j := 16) rfl gta prj (by omega) (fun _ => rfl) (fun _ => rfl) fun H25 pb zs2 s25 gpb pz2 => ?_
  have lowi : ∀ it ∈ js, ∀ c ∈ it.1, c < 200 := its_low lz jsok
  refine ⟨.list (js.map itDL), .list (js.map itDL), .lst (SqL.of (s25 _ _ gpa)) (itL_dp (paired_mono (fun _ _ h => ItL.same s25 h) pz)), .lst (SqL.of gpb) (itL_dp pz2), itsL_shaped lowi, itsL_shaped lowi, _, rfl, ?_⟩
  rw [show PyData.eqv (.list (js.map itDL)) (.list (js.map itDL)) = true by simp only [PyData.eqv]; exact itsL_eqv js]
  refine iteF ?_
  have rf25 := rf24.same s25
  have gwa := s25 _ _ gwa
  have prw := paired_mono (fun _ _ h => RwT.same s25 h) prw
  have tr := TreeAt.same tr s25
  refine nextS ?_
  try dsimp only
  -- it keeps the rule
  obtain ⟨dx3, _, _, _, _, hx25, _⟩ := id rf25.rule
  have fst := rowsD_fst z j1 j2 its
  have rnd : ((rowsD z j1 j2 its).map (·.1)).Nodup := by rw [fst]; exact ordW_nodup (begs_nd _)
  have rl : (rowsD z j1 j2 its).length ≤ 2000 := by
    rw [← List.length_map (f := fun r : Rw => r.1), fst, ordW_len, (begs_perm fun p => (pjs.map _).mem_iff.symm : (begs (its.map (·.1))).Perm (begs (js.map (·.1)))).length_eq]
    exact bl
  have own := keeps_own (z := z) exj wz
  refine ⟨_, rfl, x, dx3, _, rfl, hx25, flds_no (by decide +kernel) (by decide +kernel), _, rfl, x, o, z, rowsD z j1 j2 its, j1, j2, rfl, rf25.rule, tr, rnd, z26, rl, fun H26 s26 => ?_⟩
  rw [own]
  refine ⟨_, rfl, iteF ?_⟩
  have rf26 := rf25.same s26
  refine ⟨_, rfl, x, dx3, _, rfl, s26 _ _ hx25, flds_no (by decide +kernel) (by decide +kernel), _, rfl, x, o, z, rowsD z j1 j2 its, j1, j2, rfl, rf26.rule, TreeAt.same tr s26, rnd, z26, rl, fun H27 s27 => ?_⟩
  rw [own]
  refine ⟨rfl, _, rfl, iteF ?_⟩
  have rf27 := rf26.same s27
  have s27 := s26.trans s27
  refine nextS ?_
  try dsimp only
  refine ⟨_, rfl, _, rfl, _, rfl, _, rfl, d, c, _, x, wa, z, j1, j2, its, ws, rfl, rf27.pen, by omega, rf27.rule, exj, lz, l5, iok, il, s27 _ _ gwa, paired_mono (fun _ _ h => RwT.same s27 h) prw, rf27.smk.2, fun H28 km28 p28 => ⟨_, rfl, iteT ?_⟩⟩
  have rf28 := rf27.smk28 km28 p28
  exact ⟨_, rfl, _, rfl, _, rfl, _, rfl, d, c, _, x, ia, z, j1, j2, its, xi, rfl, rf28.pen, by omega, rf28.rule, jl1, jl2, exe.trans hex, exj, lz, l5, iok, il, rf28.ia, rf28.pr, rf28.smk.2, q⟩
end
end Toy
set_option Elab.async false
set_option linter.all false
set_option maxRecDepth 100000
set_option maxHeartbeats 4000000
namespace Toy
open PySem L2 Sh ShL LamX NdefX
abbrev PP : Program := (PySem.Challenge.rw_treeshed_k03_whole_exact_rules).prog
def hFa : List He.Fa := [.free "len", .free "isinstance", .free "int", .free "list", .free "sorted", .free "abs", .free "range", .free "tuple", .free "max", .free "min", .free "all", .free "enumerate", .free "str", .free "bool", .free "dict", .free "super", .glo "ShedError", .glo "BadLetters", .glo "TooMany", .glo "BadRow", .glo "Lone", .glo "NoPlace", .glo "BadItem", .glo "BadKind", .glo "NotExact", .glo "Tree", .cls "Tree", .noat "Tree" "letters", .noat "Tree" "rows", .noat "Tree" "size", .noat "Tree" "height", .noat "Tree" "triples", .noat "Tree" "ways", .glo "Rule", .cls "Rule", .noat "Rule" "root", .noat "Rule" "others", .str "SMALL" "abcdefghijklmnopqrstuvwxyz", .int "MOST_LETTERS" 200, .int "MOST_PLACES" 2000, .int "MOST_VALUE" 9, .glo "SHAPES", .glo "is_letters", .glo "is_word", .glo "is_value", .glo "is_row", .glo "in_order", .glo "values_of", .glo "beginnings", .mkr "Tree", .meth "Tree" "has", .meth "Tree" "row", .meth "Tree" "below", .glo "is_kind", .glo "kinds_of", .glo "kind_of", .glo "many_with", .mkr "Rule", .meth "Rule" "broken_at", .meth "Rule" "keeps", .meth "Rule" "is_exact", .glo "flags_of", .meth "Rule" "tree_of", .glo "_law_pen", .glo "_law_draw", .glo "_law_pick", .glo "_law_letters", .glo "_law_shuffled", .glo "_law_ordered", .glo "_law_exact", .glo "_law_items", .glo "_law_flags_due", .glo "_law_rows_due", .glo "_law_caught", .glo "_law_bent", .glo "_law_is_exact", .glo "_law_refused_right", .glo "_law_only_right", .glo "law"]
def hFn : List He.DefD := [⟨("is_letters", none), "is_letters", "is_letters", defArgs s_is_letters, defBody s_is_letters, defScope s_is_letters, [], []⟩, ⟨("is_word", none), "is_word", "is_word", defArgs s_is_word, defBody s_is_word, defScope s_is_word, [], []⟩, ⟨("is_value", none), "is_value", "is_value", defArgs s_is_value, defBody s_is_value, defScope s_is_value, [], []⟩, ⟨("is_row", none), "is_row", "is_row", defArgs s_is_row, defBody s_is_row, defScope s_is_row, [], []⟩, ⟨("in_order", none), "in_order", "in_order", defArgs s_in_order, defBody s_in_order, defScope s_in_order, [], []⟩, ⟨("values_of", none), "values_of", "values_of", defArgs s_values_of, defBody s_values_of, defScope s_values_of, [], []⟩, ⟨("beginnings", none), "beginnings", "beginnings", defArgs s_beginnings, defBody s_beginnings, defScope s_beginnings, [], []⟩, ⟨("Tree", some "__init__"), "__init__", "Tree.__init__", defArgs s_Tree_init, defBody s_Tree_init, defScope s_Tree_init, [], []⟩, ⟨("Tree", some "has"), "has", "Tree.has", defArgs s_Tree_has, defBody s_Tree_has, defScope s_Tree_has, [], []⟩, ⟨("Tree", some "row"), "row", "Tree.row", defArgs s_Tree_row, defBody s_Tree_row, defScope s_Tree_row, [], []⟩, ⟨("Tree", some "below"), "below", "Tree.below", defArgs s_Tree_below, defBody s_Tree_below, defScope s_Tree_below, [], []⟩, ⟨("is_kind", none), "is_kind", "is_kind", defArgs s_is_kind, defBody s_is_kind, defScope s_is_kind, [], []⟩, ⟨("kinds_of", none), "kinds_of", "kinds_of", defArgs s_kinds_of, defBody s_kinds_of, defScope s_kinds_of, [], []⟩, ⟨("kind_of", none), "kind_of", "kind_of", defArgs s_kind_of, defBody s_kind_of, defScope s_kind_of, [], []⟩, ⟨("many_with", none), "many_with", "many_with", defArgs s_many_with, defBody s_many_with, defScope s_many_with, [], []⟩, ⟨("Rule", some "__init__"), "__init__", "Rule.__init__", defArgs s_Rule_init, defBody s_Rule_init, defScope s_Rule_init, [], []⟩, ⟨("Rule", some "broken_at"), "broken_at", "Rule.broken_at", defArgs s_Rule_broken_at, defBody s_Rule_broken_at, defScope s_Rule_broken_at, [], []⟩, ⟨("Rule", some "keeps"), "keeps", "Rule.keeps", defArgs s_Rule_keeps, defBody s_Rule_keeps, defScope s_Rule_keeps, [], []⟩, ⟨("Rule", some "is_exact"), "is_exact", "Rule.is_exact", defArgs s_Rule_is_exact, defBody s_Rule_is_exact, defScope s_Rule_is_exact, [], []⟩, ⟨("flags_of", none), "flags_of", "flags_of", defArgs s_flags_of, defBody s_flags_of, defScope s_flags_of, [], []⟩, ⟨("Rule", some "tree_of"), "tree_of", "Rule.tree_of", defArgs s_Rule_tree_of, defBody s_Rule_tree_of, defScope s_Rule_tree_of, [], []⟩, ⟨("_law_pen", none), "_law_pen", "_law_pen", defArgs s_l_pen, defBody s_l_pen, defScope s_l_pen, [], []⟩, ⟨("_law_draw", none), "_law_draw", "_law_draw", defArgs s_l_draw, defBody s_l_draw, defScope s_l_draw, [], []⟩, ⟨("_law_pick", none), "_law_pick", "_law_pick", defArgs s_l_pick, defBody s_l_pick, defScope s_l_pick, [], []⟩, ⟨("_law_letters", none), "_law_letters", "_law_letters", defArgs s_l_letters, defBody s_l_letters, defScope s_l_letters, [], []⟩, ⟨("_law_shuffled", none), "_law_shuffled", "_law_shuffled", defArgs s_l_shuffled, defBody s_l_shuffled, defScope s_l_shuffled, [], []⟩, ⟨("_law_ordered", none), "_law_ordered", "_law_ordered", defArgs s_l_ordered, defBody s_l_ordered, defScope s_l_ordered, [], []⟩, ⟨("_law_exact", none), "_law_exact", "_law_exact", defArgs s_l_exact, defBody s_l_exact, defScope s_l_exact, [], []⟩, ⟨("_law_items", none), "_law_items", "_law_items", defArgs s_l_items, defBody s_l_items, defScope s_l_items, [], []⟩, ⟨("_law_flags_due", none), "_law_flags_due", "_law_flags_due", defArgs s_l_flags_due, defBody s_l_flags_due, defScope s_l_flags_due, [], []⟩, ⟨("_law_rows_due", none), "_law_rows_due", "_law_rows_due", defArgs s_l_rows_due, defBody s_l_rows_due, defScope s_l_rows_due, [], []⟩, ⟨("_law_caught", none), "_law_caught", "_law_caught", defArgs s_l_caught, defBody s_l_caught, defScope s_l_caught, [], []⟩, ⟨("_law_bent", none), "_law_bent", "_law_bent", defArgs s_l_bent, defBody s_l_bent, defScope s_l_bent, [], []⟩, ⟨("_law_is_exact", none), "_law_is_exact", "_law_is_exact", defArgs s_l_is_exact, defBody s_l_is_exact, defScope s_l_is_exact, [], []⟩, ⟨("_law_refused_right", none), "_law_refused_right", "_law_refused_right", defArgs s_l_refused_right, defBody s_l_refused_right, defScope s_l_refused_right, [], []⟩, ⟨("_law_only_right", none), "_law_only_right", "_law_only_right", defArgs s_l_only_right, defBody s_l_only_right, defScope s_l_only_right, [], []⟩, ⟨("law", none), "law", "law", defArgs s_law, defBody s_law, defScope s_law, [], []⟩]
def hEx : List (PySem.W.Frag → Bool) := [fun K => (PySem.W.clsIn K (He.ga K "ShedError")).isSome,
  fun K => decide (PySem.W.typeIn K (.ref (He.ga K "ShedError")) = some (.type "type")),
  fun K => decide (PySem.W.specialIn K (.builtin "object.__class__") "__get__" = some (some (.builtin "getset_descriptor.__get__"))),
  fun K => decide (PySem.W.takesIn K (.builtin "object.__class__") = some true),
  fun K => xclsB K (He.ga K "ShedError") (He.ga K "BadLetters"),
  fun K => xclsB K (He.ga K "ShedError") (He.ga K "TooMany"),
  fun K => xclsB K (He.ga K "ShedError") (He.ga K "BadRow"),
  fun K => xclsB K (He.ga K "ShedError") (He.ga K "Lone"),
  fun K => xclsB K (He.ga K "ShedError") (He.ga K "NoPlace"),
  fun K => xclsB K (He.ga K "ShedError") (He.ga K "BadItem"),
  fun K => xclsB K (He.ga K "ShedError") (He.ga K "BadKind"),
  fun K => xclsB K (He.ga K "ShedError") (He.ga K "NotExact"),
  fun K => PySem.W.excIn K (He.ga K "NotExact") [.type "ValueError", .type "Exception", .type "BaseException", .type "object"] "ValueError.__new__",
  fun K => xinitB PP.main.file K (He.ga K "BadLetters") (He.ma K (He.ga K "BadLetters") "__init__") "BadLetters.__init__",
  fun K => decide (PySem.W.nsIn K cStatics "thirdparty.any" = some none),
  fun K => decide (PySem.W.findIn K (.ref (He.ga K "BadLetters")) "letters" = some none),
  fun K => xinitB PP.main.file K (He.ga K "TooMany") (He.ma K (He.ga K "TooMany") "__init__") "TooMany.__init__",
  fun K => decide (PySem.W.findIn K (.ref (He.ga K "TooMany")) "what" = some none),
  fun K => decide (PySem.W.findIn K (.ref (He.ga K "TooMany")) "many" = some none),
  fun K => decide (PySem.W.findIn K (.ref (He.ga K "TooMany")) "most" = some none),
  fun K => xinitB PP.main.file K (He.ga K "BadRow") (He.ma K (He.ga K "BadRow") "__init__") "BadRow.__init__",
  fun K => decide (PySem.W.findIn K (.ref (He.ga K "BadRow")) "number" = some none),
  fun K => xinitB PP.main.file K (He.ga K "Lone") (He.ma K (He.ga K "Lone") "__init__") "Lone.__init__",
  fun K => decide (PySem.W.findIn K (.ref (He.ga K "Lone")) "place" = some none),
  fun K => xinitB PP.main.file K (He.ga K "NoPlace") (He.ma K (He.ga K "NoPlace") "__init__") "NoPlace.__init__",
  fun K => decide (PySem.W.findIn K (.ref (He.ga K "NoPlace")) "place" = some none),
  fun K => xinitB PP.main.file K (He.ga K "BadItem") (He.ma K (He.ga K "BadItem") "__init__") "BadItem.__init__",
  fun K => decide (PySem.W.findIn K (.ref (He.ga K "BadItem")) "number" = some none),
  fun K => xinitB PP.main.file K (He.ga K "BadKind") (He.ma K (He.ga K "BadKind") "__init__") "BadKind.__init__",
  fun K => decide (PySem.W.findIn K (.ref (He.ga K "BadKind")) "side" = some none),
  fun K => decide (PySem.W.findIn K (.ref (He.ga K "BadKind")) "number" = some none),
  fun K => decide ([He.ga K "BadLetters", He.ga K "TooMany", He.ga K "BadRow", He.ga K "Lone", He.ga K "BadItem", He.ga K "NoPlace", He.ga K "BadKind", He.ga K "NotExact", He.ga K "ShedError"].Nodup),
  fun K => Sh.tupB K (Sh.kidC K (He.ga K "SHAPES") 0) [.bl false, .int 0],
  fun K => Sh.tupB K (Sh.kidC K (He.ga K "SHAPES") 1) [.bl false, .int 1],
  fun K => Sh.tupB K (Sh.kidC K (He.ga K "SHAPES") 2) [.bl false, .int 2],
  fun K => Sh.tupB K (Sh.kidC K (He.ga K "SHAPES") 3) [.bl true, .int 0],
  fun K => Sh.tupB K (Sh.kidC K (He.ga K "SHAPES") 4) [.bl true, .int 1],
  fun K => Sh.tupB K (Sh.kidC K (He.ga K "SHAPES") 5) [.bl true, .int 2],
  fun K => Sh.tupB K (He.ga K "SHAPES") [.ref (Sh.kidC K (He.ga K "SHAPES") 0), .ref (Sh.kidC K (He.ga K "SHAPES") 1), .ref (Sh.kidC K (He.ga K "SHAPES") 2), .ref (Sh.kidC K (He.ga K "SHAPES") 3), .ref (Sh.kidC K (He.ga K "SHAPES") 4), .ref (Sh.kidC K (He.ga K "SHAPES") 5)],
  fun K => decide (PySem.W.findIn K (.ref (He.ga K "Tree")) "__class__" = some (some (.builtin "object.__class__"))),
  fun K => decide (PySem.W.mroIn K (He.ga K "Tree") (.type "object") = some true),
  fun K => decide ([He.tabOf K (He.codeOf K ("in_order", none)), He.tabOf K (He.codeOf K ("_law_ordered", none)), He.tabOf K (He.codeOf K ("_law_refused_right", none)), He.tabOf K (He.codeOf K ("law", none))].Nodup)]
def hXs : List XD := [⟨"BadLetters", "BadLetters.__init__", s_x_BadLetters⟩, ⟨"TooMany", "TooMany.__init__", s_x_TooMany⟩, ⟨"BadRow", "BadRow.__init__", s_x_BadRow⟩, ⟨"Lone", "Lone.__init__", s_x_Lone⟩, ⟨"NoPlace", "NoPlace.__init__", s_x_NoPlace⟩, ⟨"BadItem", "BadItem.__init__", s_x_BadItem⟩, ⟨"BadKind", "BadKind.__init__", s_x_BadKind⟩]
abbrev Says (K : PySem.W.Frag) : Prop := SaysX hFa hFn hEx hXs K
def lawAt : Nat := 48
def loose : List PySem.Str := (["_wall", "__name__", "ShedError", "BadLetters", "TooMany", "BadRow", "Lone", "NoPlace", "BadItem", "BadKind", "NotExact", "SMALL", "MOST_LETTERS", "MOST_PLACES", "MOST_VALUE", "is_letters", "is_word", "is_value", "is_row", "in_order", "values_of", "beginnings", "Tree", "SHAPES", "is_kind", "kinds_of", "kind_of", "many_with", "Rule", "flags_of"] : List PySem.Str) ++ (["_law_pen", "_law_draw", "_law_pick", "_law_letters", "_law_shuffled", "_law_ordered", "_law_exact", "_law_items", "_law_flags_due", "_law_rows_due", "_law_caught", "_law_bent", "_law_is_exact", "_law_refused_right", "_law_only_right"] : List PySem.Str)
theorem IXe_BadLetters {K : PySem.W.Frag} {h : Heap} {mg : Str → Option Value} (X : K.In h) (G : h.Ns mainGlobals mg) (c : Says K) : ∃ fd, XInit PP K mg (He.ga K "BadLetters") (He.ma K (He.ga K "BadLetters") "__init__") "BadLetters.__init__" s_x_BadLetters fd := (xinit_of (P := PP) (mg := mg) (d := ⟨"BadLetters", "BadLetters.__init__", s_x_BadLetters⟩) (xclsB_ok (c.e 4 (f := fun K => xclsB K (He.ga K "ShedError") (He.ga K "BadLetters")) rfl)) (c.x 0 rfl) (c.e 13 (f := fun K => xinitB PP.main.file K (He.ga K "BadLetters") (He.ma K (He.ga K "BadLetters") "__init__") "BadLetters.__init__") rfl) (He.free_ok X G (c.d.fact 15 (f := .free "super") rfl)) (of_decide_eq_true (c.e 14 (f := fun K => decide (PySem.W.nsIn K cStatics "thirdparty.any" = some none)) rfl)) (by decide +kernel) ⟨_, rfl, rfl⟩ (by decide +kernel) (by decide +kernel) (by decide +kernel))
theorem IX_BadLetters {K : PySem.W.Frag} {h : Heap} {mg : Str → Option Value} (X : K.In h) (G : h.Ns mainGlobals mg) (c : Says K) : XInit PP K mg (He.ga K "BadLetters") (He.ma K (He.ga K "BadLetters") "__init__") "BadLetters.__init__" s_x_BadLetters (IXe_BadLetters X G c).choose := (IXe_BadLetters X G c).choose_spec
theorem IXe_TooMany {K : PySem.W.Frag} {h : Heap} {mg : Str → Option Value} (X : K.In h) (G : h.Ns mainGlobals mg) (c : Says K) : ∃ fd, XInit PP K mg (He.ga K "TooMany") (He.ma K (He.ga K "TooMany") "__init__") "TooMany.__init__" s_x_TooMany fd := (xinit_of (P := PP) (mg := mg) (d := ⟨"TooMany", "TooMany.__init__", s_x_TooMany⟩) (xclsB_ok (c.e 5 (f := fun K => xclsB K (He.ga K "ShedError") (He.ga K "TooMany")) rfl)) (c.x 1 rfl) (c.e 16 (f := fun K => xinitB PP.main.file K (He.ga K "TooMany") (He.ma K (He.ga K "TooMany") "__init__") "TooMany.__init__") rfl) (He.free_ok X G (c.d.fact 15 (f := .free "super") rfl)) (of_decide_eq_true (c.e 14 (f := fun K => decide (PySem.W.nsIn K cStatics "thirdparty.any" = some none)) rfl)) (by decide +kernel) ⟨_, rfl, rfl⟩ (by decide +kernel) (by decide +kernel) (by decide +kernel))
theorem IX_TooMany {K : PySem.W.Frag} {h : Heap} {mg : Str → Option Value} (X : K.In h) (G : h.Ns mainGlobals mg) (c : Says K) : XInit PP K mg (He.ga K "TooMany") (He.ma K (He.ga K "TooMany") "__init__") "TooMany.__init__" s_x_TooMany (IXe_TooMany X G c).choose := (IXe_TooMany X G c).choose_spec
theorem IXe_BadRow {K : PySem.W.Frag} {h : Heap} {mg : Str → Option Value} (X : K.In h) (G : h.Ns mainGlobals mg) (c : Says K) : ∃ fd, XInit PP K mg (He.ga K "BadRow") (He.ma K (He.ga K "BadRow") "__init__") "BadRow.__init__" s_x_BadRow fd := (xinit_of (P := PP) (mg := mg) (d := ⟨"BadRow", "BadRow.__init__", s_x_BadRow⟩) (xclsB_ok (c.e 6 (f := fun K => xclsB K (He.ga K "ShedError") (He.ga K "BadRow")) rfl)) (c.x 2 rfl) (c.e 20 (f := fun K => xinitB PP.main.file K (He.ga K "BadRow") (He.ma K (He.ga K "BadRow") "__init__") "BadRow.__init__") rfl) (He.free_ok X G (c.d.fact 15 (f := .free "super") rfl)) (of_decide_eq_true (c.e 14 (f := fun K => decide (PySem.W.nsIn K cStatics "thirdparty.any" = some none)) rfl)) (by decide +kernel) ⟨_, rfl, rfl⟩ (by decide +kernel) (by decide +kernel) (by decide +kernel))
theorem IX_BadRow {K : PySem.W.Frag} {h : Heap} {mg : Str → Option Value} (X : K.In h) (G : h.Ns mainGlobals mg) (c : Says K) : XInit PP K mg (He.ga K "BadRow") (He.ma K (He.ga K "BadRow") "__init__") "BadRow.__init__" s_x_BadRow (IXe_BadRow X G c).choose := (IXe_BadRow X G c).choose_spec
theorem IXe_Lone {K : PySem.W.Frag} {h : Heap} {mg : Str → Option Value} (X : K.In h) (G : h.Ns mainGlobals mg) (c : Says K) : ∃ fd, XInit PP K mg (He.ga K "Lone") (He.ma K (He.ga K "Lone") "__init__") "Lone.__init__" s_x_Lone fd := (xinit_of (P := PP) (mg := mg) (d := ⟨"Lone", "Lone.__init__", s_x_Lone⟩) (xclsB_ok (c.e 7 (f := fun K => xclsB K (He.ga K "ShedError") (He.ga K "Lone")) rfl)) (c.x 3 rfl) (c.e 22 (f := fun K => xinitB PP.main.file K (He.ga K "Lone") (He.ma K (He.ga K "Lone") "__init__") "Lone.__init__") rfl) (He.free_ok X G (c.d.fact 15 (f := .free "super") rfl)) (of_decide_eq_true (c.e 14 (f := fun K => decide (PySem.W.nsIn K cStatics "thirdparty.any" = some none)) rfl)) (by decide +kernel) ⟨_, rfl, rfl⟩ (by decide +kernel) (by decide +kernel) (by decide +kernel))
theorem IX_Lone {K : PySem.W.Frag} {h : Heap} {mg : Str → Option Value} (X : K.In h) (G : h.Ns mainGlobals mg) (c : Says K) : XInit PP K mg (He.ga K "Lone") (He.ma K (He.ga K "Lone") "__init__") "Lone.__init__" s_x_Lone (IXe_Lone X G c).choose := (IXe_Lone X G c).choose_spec
theorem IXe_NoPlace {K : PySem.W.Frag} {h : Heap} {mg : Str → Option Value} (X : K.In h) (G : h.Ns mainGlobals mg) (c : Says K) : ∃ fd, XInit PP K mg (He.ga K "NoPlace") (He.ma K (He.ga K "NoPlace") "__init__") "NoPlace.__init__" s_x_NoPlace fd := (xinit_of (P := PP) (mg := mg) (d := ⟨"NoPlace", "NoPlace.__init__", s_x_NoPlace⟩) (xclsB_ok (c.e 8 (f := fun K => xclsB K (He.ga K "ShedError") (He.ga K "NoPlace")) rfl)) (c.x 4 rfl) (c.e 24 (f := fun K => xinitB PP.main.file K (He.ga K "NoPlace") (He.ma K (He.ga K "NoPlace") "__init__") "NoPlace.__init__") rfl) (He.free_ok X G (c.d.fact 15 (f := .free "super") rfl)) (of_decide_eq_true (c.e 14 (f := fun K => decide (PySem.W.nsIn K cStatics "thirdparty.any" = some none)) rfl)) (by decide +kernel) ⟨_, rfl, rfl⟩ (by decide +kernel) (by decide +kernel) (by decide +kernel))
theorem IX_NoPlace {K : PySem.W.Frag} {h : Heap} {mg : Str → Option Value} (X : K.In h) (G : h.Ns mainGlobals mg) (c : Says K) : XInit PP K mg (He.ga K "NoPlace") (He.ma K (He.ga K "NoPlace") "__init__") "NoPlace.__init__" s_x_NoPlace (IXe_NoPlace X G c).choose := (IXe_NoPlace X G c).choose_spec
theorem IXe_BadItem {K : PySem.W.Frag} {h : Heap} {mg : Str → Option Value} (X : K.In h) (G : h.Ns mainGlobals mg) (c : Says K) : ∃ fd, XInit PP K mg (He.ga K "BadItem") (He.ma K (He.ga K "BadItem") "__init__") "BadItem.__init__" s_x_BadItem fd := (xinit_of (P := PP) (mg := mg) (d := ⟨"BadItem", "BadItem.__init__", s_x_BadItem⟩) (xclsB_ok (c.e 9 (f := fun K => xclsB K (He.ga K "ShedError") (He.ga K "BadItem")) rfl)) (c.x 5 rfl) (c.e 26 (f := fun K => xinitB PP.main.file K (He.ga K "BadItem") (He.ma K (He.ga K "BadItem") "__init__") "BadItem.__init__") rfl) (He.free_ok X G (c.d.fact 15 (f := .free "super") rfl)) (of_decide_eq_true (c.e 14 (f := fun K => decide (PySem.W.nsIn K cStatics "thirdparty.any" = some none)) rfl)) (by decide +kernel) ⟨_, rfl, rfl⟩ (by decide +kernel) (by decide +kernel) (by decide +kernel))
theorem IX_BadItem {K : PySem.W.Frag} {h : Heap} {mg : Str → Option Value} (X : K.In h) (G : h.Ns mainGlobals mg) (c : Says K) : XInit PP K mg (He.ga K "BadItem") (He.ma K (He.ga K "BadItem") "__init__") "BadItem.__init__" s_x_BadItem (IXe_BadItem X G c).choose := (IXe_BadItem X G c).choose_spec
theorem IXe_BadKind {K : PySem.W.Frag} {h : Heap} {mg : Str → Option Value} (X : K.In h) (G : h.Ns mainGlobals mg) (c : Says K) : ∃ fd, XInit PP K mg (He.ga K "BadKind") (He.ma K (He.ga K "BadKind") "__init__") "BadKind.__init__" s_x_BadKind fd := (xinit_of (P := PP) (mg := mg) (d := ⟨"BadKind", "BadKind.__init__", s_x_BadKind⟩) (xclsB_ok (c.e 10 (f := fun K => xclsB K (He.ga K "ShedError") (He.ga K "BadKind")) rfl)) (c.x 6 rfl) (c.e 28 (f := fun K => xinitB PP.main.file K (He.ga K "BadKind") (He.ma K (He.ga K "BadKind") "__init__") "BadKind.__init__") rfl) (He.free_ok X G (c.d.fact 15 (f := .free "super") rfl)) (of_decide_eq_true (c.e 14 (f := fun K => decide (PySem.W.nsIn K cStatics "thirdparty.any" = some none)) rfl)) (by decide +kernel) ⟨_, rfl, rfl⟩ (by decide +kernel) (by decide +kernel) (by decide +kernel))
theorem IX_BadKind {K : PySem.W.Frag} {h : Heap} {mg : Str → Option Value} (X : K.In h) (G : h.Ns mainGlobals mg) (c : Says K) : XInit PP K mg (He.ga K "BadKind") (He.ma K (He.ga K "BadKind") "__init__") "BadKind.__init__" s_x_BadKind (IXe_BadKind X G c).choose := (IXe_BadKind X G c).choose_spec
def hTf : List He.Defn := [("in_order", none), ("_law_ordered", none), ("_law_refused_right", none), ("law", none)]
def hCm : List CD := [⟨"Tree", "of", "Tree.of", s_Tree_of⟩]
abbrev SaysT (h : Heap) (K : PySem.W.Frag) : Prop := SaysXT hFa hFn hEx hXs hTf hCm h K
noncomputable def tx_of {K : PySem.W.Frag} {h : Heap} {mg : Str → Option Value} (X : K.In h) (G : h.Ns mainGlobals mg) (c : SaysT h K) : Tx PP K mg where
  b_len := He.free_ok X G (c.s.d.fact 0 (f := .free "len") rfl)
  b_isinstance := He.free_ok X G (c.s.d.fact 1 (f := .free "isinstance") rfl)
  b_int := He.free_ok X G (c.s.d.fact 2 (f := .free "int") rfl)
  b_list := He.free_ok X G (c.s.d.fact 3 (f := .free "list") rfl)
  b_sorted := He.free_ok X G (c.s.d.fact 4 (f := .free "sorted") rfl)
  b_abs := He.free_ok X G (c.s.d.fact 5 (f := .free "abs") rfl)
  b_range := He.free_ok X G (c.s.d.fact 6 (f := .free "range") rfl)
  b_tuple := He.free_ok X G (c.s.d.fact 7 (f := .free "tuple") rfl)
  b_max := He.free_ok X G (c.s.d.fact 8 (f := .free "max") rfl)
  b_min := He.free_ok X G (c.s.d.fact 9 (f := .free "min") rfl)
  b_all := He.free_ok X G (c.s.d.fact 10 (f := .free "all") rfl)
  b_enumerate := He.free_ok X G (c.s.d.fact 11 (f := .free "enumerate") rfl)
  b_str := He.free_ok X G (c.s.d.fact 12 (f := .free "str") rfl)
  b_bool := He.free_ok X G (c.s.d.fact 13 (f := .free "bool") rfl)
  b_dict := He.free_ok X G (c.s.d.fact 14 (f := .free "dict") rfl)
  b_super := He.free_ok X G (c.s.d.fact 15 (f := .free "super") rfl)
  c_ShedError := He.ga K "ShedError"
  m_ShedError := He.glo_ok X G (c.s.d.fact 16 (f := .glo "ShedError") rfl)
  iS := (c.s.e 0 (f := fun K => (PySem.W.clsIn K (He.ga K "ShedError")).isSome) rfl)
  tS := of_decide_eq_true (c.s.e 1 (f := fun K => decide (PySem.W.typeIn K (.ref (He.ga K "ShedError")) = some (.type "type"))) rfl)
  o_get := of_decide_eq_true (c.s.e 2 (f := fun K => decide (PySem.W.specialIn K (.builtin "object.__class__") "__get__" = some (some (.builtin "getset_descriptor.__get__")))) rfl)
  o_tk := of_decide_eq_true (c.s.e 3 (f := fun K => decide (PySem.W.takesIn K (.builtin "object.__class__") = some true)) rfl)
  c_BadLetters := He.ga K "BadLetters"
  m_BadLetters := He.glo_ok X G (c.s.d.fact 17 (f := .glo "BadLetters") rfl)
  x_BadLetters := xclsB_ok (c.s.e 4 (f := fun K => xclsB K (He.ga K "ShedError") (He.ga K "BadLetters")) rfl)
  c_TooMany := He.ga K "TooMany"
  m_TooMany := He.glo_ok X G (c.s.d.fact 18 (f := .glo "TooMany") rfl)
  x_TooMany := xclsB_ok (c.s.e 5 (f := fun K => xclsB K (He.ga K "ShedError") (He.ga K "TooMany")) rfl)
  c_BadRow := He.ga K "BadRow"
  m_BadRow := He.glo_ok X G (c.s.d.fact 19 (f := .glo "BadRow") rfl)
  x_BadRow := xclsB_ok (c.s.e 6 (f := fun K => xclsB K (He.ga K "ShedError") (He.ga K "BadRow")) rfl)
  c_Lone := He.ga K "Lone"
  m_Lone := He.glo_ok X G (c.s.d.fact 20 (f := .glo "Lone") rfl)
  x_Lone := xclsB_ok (c.s.e 7 (f := fun K => xclsB K (He.ga K "ShedError") (He.ga K "Lone")) rfl)
  c_NoPlace := He.ga K "NoPlace"
  m_NoPlace := He.glo_ok X G (c.s.d.fact 21 (f := .glo "NoPlace") rfl)
  x_NoPlace := xclsB_ok (c.s.e 8 (f := fun K => xclsB K (He.ga K "ShedError") (He.ga K "NoPlace")) rfl)
  c_BadItem := He.ga K "BadItem"
  m_BadItem := He.glo_ok X G (c.s.d.fact 22 (f := .glo "BadItem") rfl)
  x_BadItem := xclsB_ok (c.s.e 9 (f := fun K => xclsB K (He.ga K "ShedError") (He.ga K "BadItem")) rfl)
  c_BadKind := He.ga K "BadKind"
  m_BadKind := He.glo_ok X G (c.s.d.fact 23 (f := .glo "BadKind") rfl)
  x_BadKind := xclsB_ok (c.s.e 10 (f := fun K => xclsB K (He.ga K "ShedError") (He.ga K "BadKind")) rfl)
  c_NotExact := He.ga K "NotExact"
  m_NotExact := He.glo_ok X G (c.s.d.fact 24 (f := .glo "NotExact") rfl)
  x_NotExact := xclsB_ok (c.s.e 11 (f := fun K => xclsB K (He.ga K "ShedError") (He.ga K "NotExact")) rfl)
  e0_NotExact := (c.s.e 12 (f := fun K => PySem.W.excIn K (He.ga K "NotExact") [.type "ValueError", .type "Exception", .type "BaseException", .type "object"] "ValueError.__new__") rfl)
  a_x_BadLetters := He.ma K (He.ga K "BadLetters") "__init__"
  fd_x_BadLetters := (IXe_BadLetters X G c.s).choose
  i_BadLetters := IX_BadLetters X G c.s
  nf_BadLetters_letters := of_decide_eq_true (c.s.e 15 (f := fun K => decide (PySem.W.findIn K (.ref (He.ga K "BadLetters")) "letters" = some none)) rfl)
  a_x_TooMany := He.ma K (He.ga K "TooMany") "__init__"
  fd_x_TooMany := (IXe_TooMany X G c.s).choose
  i_TooMany := IX_TooMany X G c.s
  nf_TooMany_what := of_decide_eq_true (c.s.e 17 (f := fun K => decide (PySem.W.findIn K (.ref (He.ga K "TooMany")) "what" = some none)) rfl)
  nf_TooMany_many := of_decide_eq_true (c.s.e 18 (f := fun K => decide (PySem.W.findIn K (.ref (He.ga K "TooMany")) "many" = some none)) rfl)
  nf_TooMany_most := of_decide_eq_true (c.s.e 19 (f := fun K => decide (PySem.W.findIn K (.ref (He.ga K "TooMany")) "most" = some none)) rfl)
  a_x_BadRow := He.ma K (He.ga K "BadRow") "__init__"
  fd_x_BadRow := (IXe_BadRow X G c.s).choose
  i_BadRow := IX_BadRow X G c.s
  nf_BadRow_number := of_decide_eq_true (c.s.e 21 (f := fun K => decide (PySem.W.findIn K (.ref (He.ga K "BadRow")) "number" = some none)) rfl)
  a_x_Lone := He.ma K (He.ga K "Lone") "__init__"
  fd_x_Lone := (IXe_Lone X G c.s).choose
  i_Lone := IX_Lone X G c.s
  nf_Lone_place := of_decide_eq_true (c.s.e 23 (f := fun K => decide (PySem.W.findIn K (.ref (He.ga K "Lone")) "place" = some none)) rfl)
  a_x_NoPlace := He.ma K (He.ga K "NoPlace") "__init__"
  fd_x_NoPlace := (IXe_NoPlace X G c.s).choose
  i_NoPlace := IX_NoPlace X G c.s
  nf_NoPlace_place := of_decide_eq_true (c.s.e 25 (f := fun K => decide (PySem.W.findIn K (.ref (He.ga K "NoPlace")) "place" = some none)) rfl)
  a_x_BadItem := He.ma K (He.ga K "BadItem") "__init__"
  fd_x_BadItem := (IXe_BadItem X G c.s).choose
  i_BadItem := IX_BadItem X G c.s
  nf_BadItem_number := of_decide_eq_true (c.s.e 27 (f := fun K => decide (PySem.W.findIn K (.ref (He.ga K "BadItem")) "number" = some none)) rfl)
  a_x_BadKind := He.ma K (He.ga K "BadKind") "__init__"
  fd_x_BadKind := (IXe_BadKind X G c.s).choose
  i_BadKind := IX_BadKind X G c.s
  nf_BadKind_side := of_decide_eq_true (c.s.e 29 (f := fun K => decide (PySem.W.findIn K (.ref (He.ga K "BadKind")) "side" = some none)) rfl)
  nf_BadKind_number := of_decide_eq_true (c.s.e 30 (f := fun K => decide (PySem.W.findIn K (.ref (He.ga K "BadKind")) "number" = some none)) rfl)
  kb_BadItem_1 := kbn_x (IX_BadItem X G c.s) fun cc kV doc pm an cda ct us ws h1 h2 => match us, ws, h1, h2 with | [_, _], [], _, _ => rfl
  kb_BadLetters_1 := kbn_x (IX_BadLetters X G c.s) fun cc kV doc pm an cda ct us ws h1 h2 => match us, ws, h1, h2 with | [_, _], [], _, _ => rfl
  kb_TooMany_3 := kbn_x (IX_TooMany X G c.s) fun cc kV doc pm an cda ct us ws h1 h2 => match us, ws, h1, h2 with | [_, _, _, _], [], _, _ => rfl
  kb_BadRow_1 := kbn_x (IX_BadRow X G c.s) fun cc kV doc pm an cda ct us ws h1 h2 => match us, ws, h1, h2 with | [_, _], [], _, _ => rfl
  kb_Lone_1 := kbn_x (IX_Lone X G c.s) fun cc kV doc pm an cda ct us ws h1 h2 => match us, ws, h1, h2 with | [_, _], [], _, _ => rfl
  kb_NoPlace_1 := kbn_x (IX_NoPlace X G c.s) fun cc kV doc pm an cda ct us ws h1 h2 => match us, ws, h1, h2 with | [_, _], [], _, _ => rfl
  kb_BadKind_2 := kbn_x (IX_BadKind X G c.s) fun cc kV doc pm an cda ct us ws h1 h2 => match us, ws, h1, h2 with | [_, _, _], [], _, _ => rfl
  xnd := of_decide_eq_true (c.s.e 31 (f := fun K => decide ([He.ga K "BadLetters", He.ga K "TooMany", He.ga K "BadRow", He.ga K "Lone", He.ga K "BadItem", He.ga K "NoPlace", He.ga K "BadKind", He.ga K "NotExact", He.ga K "ShedError"].Nodup)) rfl)
  c_Tree := He.ga K "Tree"
  m_Tree := He.glo_ok X G (c.s.d.fact 25 (f := .glo "Tree") rfl)
  cl_Tree := He.cls_ok (c.s.d.fact 26 (f := .cls "Tree") rfl)
  na_Tree_letters := He.noat_ok (c.s.d.fact 27 (f := .noat "Tree" "letters") rfl)
  na_Tree_rows := He.noat_ok (c.s.d.fact 28 (f := .noat "Tree" "rows") rfl)
  na_Tree_size := He.noat_ok (c.s.d.fact 29 (f := .noat "Tree" "size") rfl)
  na_Tree_height := He.noat_ok (c.s.d.fact 30 (f := .noat "Tree" "height") rfl)
  na_Tree_triples := He.noat_ok (c.s.d.fact 31 (f := .noat "Tree" "triples") rfl)
  na_Tree_ways := He.noat_ok (c.s.d.fact 32 (f := .noat "Tree" "ways") rfl)
  c_Rule := He.ga K "Rule"
  m_Rule := He.glo_ok X G (c.s.d.fact 33 (f := .glo "Rule") rfl)
  cl_Rule := He.cls_ok (c.s.d.fact 34 (f := .cls "Rule") rfl)
  na_Rule_root := He.noat_ok (c.s.d.fact 35 (f := .noat "Rule" "root") rfl)
  na_Rule_others := He.noat_ok (c.s.d.fact 36 (f := .noat "Rule" "others") rfl)
  m_SMALL := He.str_ok X G (c.s.d.fact 37 (f := .str "SMALL" "abcdefghijklmnopqrstuvwxyz") rfl)
  m_MOST_LETTERS := He.int_ok X G (c.s.d.fact 38 (f := .int "MOST_LETTERS" 200) rfl)
  m_MOST_PLACES := He.int_ok X G (c.s.d.fact 39 (f := .int "MOST_PLACES" 2000) rfl)
  m_MOST_VALUE := He.int_ok X G (c.s.d.fact 40 (f := .int "MOST_VALUE" 9) rfl)
  g_SHAPES_0 := (Sh.kidC K (He.ga K "SHAPES") 0)
  q_SHAPES_0 := (Sh.tupB_ok (c.s.e 32 (f := fun K => Sh.tupB K (Sh.kidC K (He.ga K "SHAPES") 0) [.bl false, .int 0]) rfl) (by show 2 ≤ sizeLine; decide)).1
  g_SHAPES_1 := (Sh.kidC K (He.ga K "SHAPES") 1)
  q_SHAPES_1 := (Sh.tupB_ok (c.s.e 33 (f := fun K => Sh.tupB K (Sh.kidC K (He.ga K "SHAPES") 1) [.bl false, .int 1]) rfl) (by show 2 ≤ sizeLine; decide)).1
  g_SHAPES_2 := (Sh.kidC K (He.ga K "SHAPES") 2)
  q_SHAPES_2 := (Sh.tupB_ok (c.s.e 34 (f := fun K => Sh.tupB K (Sh.kidC K (He.ga K "SHAPES") 2) [.bl false, .int 2]) rfl) (by show 2 ≤ sizeLine; decide)).1
  g_SHAPES_3 := (Sh.kidC K (He.ga K "SHAPES") 3)
  q_SHAPES_3 := (Sh.tupB_ok (c.s.e 35 (f := fun K => Sh.tupB K (Sh.kidC K (He.ga K "SHAPES") 3) [.bl true, .int 0]) rfl) (by show 2 ≤ sizeLine; decide)).1
  g_SHAPES_4 := (Sh.kidC K (He.ga K "SHAPES") 4)
  q_SHAPES_4 := (Sh.tupB_ok (c.s.e 36 (f := fun K => Sh.tupB K (Sh.kidC K (He.ga K "SHAPES") 4) [.bl true, .int 1]) rfl) (by show 2 ≤ sizeLine; decide)).1
  g_SHAPES_5 := (Sh.kidC K (He.ga K "SHAPES") 5)
  q_SHAPES_5 := (Sh.tupB_ok (c.s.e 37 (f := fun K => Sh.tupB K (Sh.kidC K (He.ga K "SHAPES") 5) [.bl true, .int 2]) rfl) (by show 2 ≤ sizeLine; decide)).1
  g_SHAPES := (He.ga K "SHAPES")
  m_SHAPES := He.glo_ok X G (c.s.d.fact 41 (f := .glo "SHAPES") rfl)
  y_SHAPES := (Sh.tupB_ok (c.s.e 38 (f := fun K => Sh.tupB K (He.ga K "SHAPES") [.ref (Sh.kidC K (He.ga K "SHAPES") 0), .ref (Sh.kidC K (He.ga K "SHAPES") 1), .ref (Sh.kidC K (He.ga K "SHAPES") 2), .ref (Sh.kidC K (He.ga K "SHAPES") 3), .ref (Sh.kidC K (He.ga K "SHAPES") 4), .ref (Sh.kidC K (He.ga K "SHAPES") 5)]) rfl) (by show 6 ≤ sizeLine; decide)).2
  q_SHAPES := (Sh.tupB_ok (c.s.e 38 (f := fun K => Sh.tupB K (He.ga K "SHAPES") [.ref (Sh.kidC K (He.ga K "SHAPES") 0), .ref (Sh.kidC K (He.ga K "SHAPES") 1), .ref (Sh.kidC K (He.ga K "SHAPES") 2), .ref (Sh.kidC K (He.ga K "SHAPES") 3), .ref (Sh.kidC K (He.ga K "SHAPES") 4), .ref (Sh.kidC K (He.ga K "SHAPES") 5)]) rfl) (by show 6 ≤ sizeLine; decide)).1
  a_is_letters := (He.ga K "is_letters")
  fd_is_letters := (c.s.d.def_ 0 (d := ⟨("is_letters", none), "is_letters", "is_letters", defArgs s_is_letters, defBody s_is_letters, defScope s_is_letters, [], []⟩) rfl).choose
  F_is_letters := fun_of (st := s_is_letters) (c.s.d.def_ 0 (d := ⟨("is_letters", none), "is_letters", "is_letters", defArgs s_is_letters, defBody s_is_letters, defScope s_is_letters, [], []⟩) rfl).choose_spec
  bi_is_letters := (fun_of (st := s_is_letters) (c.s.d.def_ 0 (d := ⟨("is_letters", none), "is_letters", "is_letters", defArgs s_is_letters, defBody s_is_letters, defScope s_is_letters, [], []⟩) rfl).choose_spec).binds (ps := ["letters"]) fun _ _ _ _ _ _ us hl => match us, hl with | [_], _ => rfl
  m_is_letters := He.glo_ok X G (c.s.d.fact 42 (f := .glo "is_letters") rfl)
  a_is_word := (He.ga K "is_word")
  fd_is_word := (c.s.d.def_ 1 (d := ⟨("is_word", none), "is_word", "is_word", defArgs s_is_word, defBody s_is_word, defScope s_is_word, [], []⟩) rfl).choose
  F_is_word := fun_of (st := s_is_word) (c.s.d.def_ 1 (d := ⟨("is_word", none), "is_word", "is_word", defArgs s_is_word, defBody s_is_word, defScope s_is_word, [], []⟩) rfl).choose_spec
  bi_is_word := (fun_of (st := s_is_word) (c.s.d.def_ 1 (d := ⟨("is_word", none), "is_word", "is_word", defArgs s_is_word, defBody s_is_word, defScope s_is_word, [], []⟩) rfl).choose_spec).binds (ps := ["letters", "word"]) fun _ _ _ _ _ _ us hl => match us, hl with | [_, _], _ => rfl
  m_is_word := He.glo_ok X G (c.s.d.fact 43 (f := .glo "is_word") rfl)
  a_is_value := (He.ga K "is_value")
  fd_is_value := (c.s.d.def_ 2 (d := ⟨("is_value", none), "is_value", "is_value", defArgs s_is_value, defBody s_is_value, defScope s_is_value, [], []⟩) rfl).choose
  F_is_value := fun_of (st := s_is_value) (c.s.d.def_ 2 (d := ⟨("is_value", none), "is_value", "is_value", defArgs s_is_value, defBody s_is_value, defScope s_is_value, [], []⟩) rfl).choose_spec
  bi_is_value := (fun_of (st := s_is_value) (c.s.d.def_ 2 (d := ⟨("is_value", none), "is_value", "is_value", defArgs s_is_value, defBody s_is_value, defScope s_is_value, [], []⟩) rfl).choose_spec).binds (ps := ["value"]) fun _ _ _ _ _ _ us hl => match us, hl with | [_], _ => rfl
  m_is_value := He.glo_ok X G (c.s.d.fact 44 (f := .glo "is_value") rfl)
  a_is_row := (He.ga K "is_row")
  fd_is_row := (c.s.d.def_ 3 (d := ⟨("is_row", none), "is_row", "is_row", defArgs s_is_row, defBody s_is_row, defScope s_is_row, [], []⟩) rfl).choose
  F_is_row := fun_of (st := s_is_row) (c.s.d.def_ 3 (d := ⟨("is_row", none), "is_row", "is_row", defArgs s_is_row, defBody s_is_row, defScope s_is_row, [], []⟩) rfl).choose_spec
  bi_is_row := (fun_of (st := s_is_row) (c.s.d.def_ 3 (d := ⟨("is_row", none), "is_row", "is_row", defArgs s_is_row, defBody s_is_row, defScope s_is_row, [], []⟩) rfl).choose_spec).binds (ps := ["letters", "row"]) fun _ _ _ _ _ _ us hl => match us, hl with | [_, _], _ => rfl
  m_is_row := He.glo_ok X G (c.s.d.fact 45 (f := .glo "is_row") rfl)
  kc_in_order := He.codeOf K ("in_order", none)
  tb_in_order := He.tabOf K (He.codeOf K ("in_order", none))
  ec_in_order := ec_of (p := ("in_order", none)) (fun_of (st := s_in_order) (c.s.d.def_ 4 (d := ⟨("in_order", none), "in_order", "in_order", defArgs s_in_order, defBody s_in_order, defScope s_in_order, [], []⟩) rfl).choose_spec)
  a_in_order := (He.ga K "in_order")
  fd_in_order := (c.s.d.def_ 4 (d := ⟨("in_order", none), "in_order", "in_order", defArgs s_in_order, defBody s_in_order, defScope s_in_order, [], []⟩) rfl).choose
  F_in_order := fun_of (st := s_in_order) (c.s.d.def_ 4 (d := ⟨("in_order", none), "in_order", "in_order", defArgs s_in_order, defBody s_in_order, defScope s_in_order, [], []⟩) rfl).choose_spec
  bi_in_order := (fun_of (st := s_in_order) (c.s.d.def_ 4 (d := ⟨("in_order", none), "in_order", "in_order", defArgs s_in_order, defBody s_in_order, defScope s_in_order, [], []⟩) rfl).choose_spec).binds (ps := ["letters", "places"]) fun _ _ _ _ _ _ us hl => match us, hl with | [_, _], _ => rfl
  m_in_order := He.glo_ok X G (c.s.d.fact 46 (f := .glo "in_order") rfl)
  a_values_of := (He.ga K "values_of")
  fd_values_of := (c.s.d.def_ 5 (d := ⟨("values_of", none), "values_of", "values_of", defArgs s_values_of, defBody s_values_of, defScope s_values_of, [], []⟩) rfl).choose
  F_values_of := fun_of (st := s_values_of) (c.s.d.def_ 5 (d := ⟨("values_of", none), "values_of", "values_of", defArgs s_values_of, defBody s_values_of, defScope s_values_of, [], []⟩) rfl).choose_spec
  bi_values_of := (fun_of (st := s_values_of) (c.s.d.def_ 5 (d := ⟨("values_of", none), "values_of", "values_of", defArgs s_values_of, defBody s_values_of, defScope s_values_of, [], []⟩) rfl).choose_spec).binds (ps := ["letters", "items"]) fun _ _ _ _ _ _ us hl => match us, hl with | [_, _], _ => rfl
  m_values_of := He.glo_ok X G (c.s.d.fact 47 (f := .glo "values_of") rfl)
  a_beginnings := (He.ga K "beginnings")
  fd_beginnings := (c.s.d.def_ 6 (d := ⟨("beginnings", none), "beginnings", "beginnings", defArgs s_beginnings, defBody s_beginnings, defScope s_beginnings, [], []⟩) rfl).choose
  F_beginnings := fun_of (st := s_beginnings) (c.s.d.def_ 6 (d := ⟨("beginnings", none), "beginnings", "beginnings", defArgs s_beginnings, defBody s_beginnings, defScope s_beginnings, [], []⟩) rfl).choose_spec
  bi_beginnings := (fun_of (st := s_beginnings) (c.s.d.def_ 6 (d := ⟨("beginnings", none), "beginnings", "beginnings", defArgs s_beginnings, defBody s_beginnings, defScope s_beginnings, [], []⟩) rfl).choose_spec).binds (ps := ["words"]) fun _ _ _ _ _ _ us hl => match us, hl with | [_], _ => rfl
  m_beginnings := He.glo_ok X G (c.s.d.fact 48 (f := .glo "beginnings") rfl)
  a_Tree_init := (He.ma K (He.ga K "Tree") "__init__")
  fd_Tree_init := (c.s.d.def_ 7 (d := ⟨("Tree", some "__init__"), "__init__", "Tree.__init__", defArgs s_Tree_init, defBody s_Tree_init, defScope s_Tree_init, [], []⟩) rfl).choose
  F_Tree_init := fun_of (st := s_Tree_init) (c.s.d.def_ 7 (d := ⟨("Tree", some "__init__"), "__init__", "Tree.__init__", defArgs s_Tree_init, defBody s_Tree_init, defScope s_Tree_init, [], []⟩) rfl).choose_spec
  bi_Tree_init := (fun_of (st := s_Tree_init) (c.s.d.def_ 7 (d := ⟨("Tree", some "__init__"), "__init__", "Tree.__init__", defArgs s_Tree_init, defBody s_Tree_init, defScope s_Tree_init, [], []⟩) rfl).choose_spec).binds (ps := ["self", "letters", "rows"]) fun _ _ _ _ _ _ us hl => match us, hl with | [_, _, _], _ => rfl
  mk_Tree := He.mkr_ok (c.s.d.fact 49 (f := .mkr "Tree") rfl)
  a_Tree_has := (He.ma K (He.ga K "Tree") "has")
  fd_Tree_has := (c.s.d.def_ 8 (d := ⟨("Tree", some "has"), "has", "Tree.has", defArgs s_Tree_has, defBody s_Tree_has, defScope s_Tree_has, [], []⟩) rfl).choose
  F_Tree_has := fun_of (st := s_Tree_has) (c.s.d.def_ 8 (d := ⟨("Tree", some "has"), "has", "Tree.has", defArgs s_Tree_has, defBody s_Tree_has, defScope s_Tree_has, [], []⟩) rfl).choose_spec
  bi_Tree_has := (fun_of (st := s_Tree_has) (c.s.d.def_ 8 (d := ⟨("Tree", some "has"), "has", "Tree.has", defArgs s_Tree_has, defBody s_Tree_has, defScope s_Tree_has, [], []⟩) rfl).choose_spec).binds (ps := ["self", "place"]) fun _ _ _ _ _ _ us hl => match us, hl with | [_, _], _ => rfl
  me_Tree_has := He.meth_ok (c.s.d.fact 50 (f := .meth "Tree" "has") rfl)
  a_Tree_row := (He.ma K (He.ga K "Tree") "row")
  fd_Tree_row := (c.s.d.def_ 9 (d := ⟨("Tree", some "row"), "row", "Tree.row", defArgs s_Tree_row, defBody s_Tree_row, defScope s_Tree_row, [], []⟩) rfl).choose
  F_Tree_row := fun_of (st := s_Tree_row) (c.s.d.def_ 9 (d := ⟨("Tree", some "row"), "row", "Tree.row", defArgs s_Tree_row, defBody s_Tree_row, defScope s_Tree_row, [], []⟩) rfl).choose_spec
  bi_Tree_row := (fun_of (st := s_Tree_row) (c.s.d.def_ 9 (d := ⟨("Tree", some "row"), "row", "Tree.row", defArgs s_Tree_row, defBody s_Tree_row, defScope s_Tree_row, [], []⟩) rfl).choose_spec).binds (ps := ["self", "place"]) fun _ _ _ _ _ _ us hl => match us, hl with | [_, _], _ => rfl
  me_Tree_row := He.meth_ok (c.s.d.fact 51 (f := .meth "Tree" "row") rfl)
  a_Tree_below := (He.ma K (He.ga K "Tree") "below")
  fd_Tree_below := (c.s.d.def_ 10 (d := ⟨("Tree", some "below"), "below", "Tree.below", defArgs s_Tree_below, defBody s_Tree_below, defScope s_Tree_below, [], []⟩) rfl).choose
  F_Tree_below := fun_of (st := s_Tree_below) (c.s.d.def_ 10 (d := ⟨("Tree", some "below"), "below", "Tree.below", defArgs s_Tree_below, defBody s_Tree_below, defScope s_Tree_below, [], []⟩) rfl).choose_spec
  bi_Tree_below := (fun_of (st := s_Tree_below) (c.s.d.def_ 10 (d := ⟨("Tree", some "below"), "below", "Tree.below", defArgs s_Tree_below, defBody s_Tree_below, defScope s_Tree_below, [], []⟩) rfl).choose_spec).binds (ps := ["self", "place"]) fun _ _ _ _ _ _ us hl => match us, hl with | [_, _], _ => rfl
  me_Tree_below := He.meth_ok (c.s.d.fact 52 (f := .meth "Tree" "below") rfl)
  a_Tree_of := CD.fn K ⟨"Tree", "of", "Tree.of", s_Tree_of⟩
  fd_Tree_of := (CD.fun_ (c.cmo 0 (d := ⟨"Tree", "of", "Tree.of", s_Tree_of⟩) rfl) (c.cmv 0 (d := ⟨"Tree", "of", "Tree.of", s_Tree_of⟩) rfl)).choose
  F_Tree_of := (CD.fun_ (c.cmo 0 (d := ⟨"Tree", "of", "Tree.of", s_Tree_of⟩) rfl) (c.cmv 0 (d := ⟨"Tree", "of", "Tree.of", s_Tree_of⟩) rfl)).choose_spec
  bi_Tree_of := ((CD.fun_ (c.cmo 0 (d := ⟨"Tree", "of", "Tree.of", s_Tree_of⟩) rfl) (c.cmv 0 (d := ⟨"Tree", "of", "Tree.of", s_Tree_of⟩) rfl)).choose_spec).binds (ps := ["cls", "letters", "items"]) fun _ _ _ _ _ _ us hl => match us, hl with | [_, _, _], _ => rfl
  cr_Tree := CD.read (c.cmo 0 (d := ⟨"Tree", "of", "Tree.of", s_Tree_of⟩) rfl)
  p_Tree_of := CD.rcd K ⟨"Tree", "of", "Tree.of", s_Tree_of⟩
  cm_Tree_of := CD.met (c.cmo 0 (d := ⟨"Tree", "of", "Tree.of", s_Tree_of⟩) rfl)
  a_is_kind := (He.ga K "is_kind")
  fd_is_kind := (c.s.d.def_ 11 (d := ⟨("is_kind", none), "is_kind", "is_kind", defArgs s_is_kind, defBody s_is_kind, defScope s_is_kind, [], []⟩) rfl).choose
  F_is_kind := fun_of (st := s_is_kind) (c.s.d.def_ 11 (d := ⟨("is_kind", none), "is_kind", "is_kind", defArgs s_is_kind, defBody s_is_kind, defScope s_is_kind, [], []⟩) rfl).choose_spec
  bi_is_kind := (fun_of (st := s_is_kind) (c.s.d.def_ 11 (d := ⟨("is_kind", none), "is_kind", "is_kind", defArgs s_is_kind, defBody s_is_kind, defScope s_is_kind, [], []⟩) rfl).choose_spec).binds (ps := ["kind"]) fun _ _ _ _ _ _ us hl => match us, hl with | [_], _ => rfl
  m_is_kind := He.glo_ok X G (c.s.d.fact 53 (f := .glo "is_kind") rfl)
  a_kinds_of := (He.ga K "kinds_of")
  fd_kinds_of := (c.s.d.def_ 12 (d := ⟨("kinds_of", none), "kinds_of", "kinds_of", defArgs s_kinds_of, defBody s_kinds_of, defScope s_kinds_of, [], []⟩) rfl).choose
  F_kinds_of := fun_of (st := s_kinds_of) (c.s.d.def_ 12 (d := ⟨("kinds_of", none), "kinds_of", "kinds_of", defArgs s_kinds_of, defBody s_kinds_of, defScope s_kinds_of, [], []⟩) rfl).choose_spec
  bi_kinds_of := (fun_of (st := s_kinds_of) (c.s.d.def_ 12 (d := ⟨("kinds_of", none), "kinds_of", "kinds_of", defArgs s_kinds_of, defBody s_kinds_of, defScope s_kinds_of, [], []⟩) rfl).choose_spec).binds (ps := ["side", "kinds"]) fun _ _ _ _ _ _ us hl => match us, hl with | [_, _], _ => rfl
  m_kinds_of := He.glo_ok X G (c.s.d.fact 54 (f := .glo "kinds_of") rfl)
  a_kind_of := (He.ga K "kind_of")
  fd_kind_of := (c.s.d.def_ 13 (d := ⟨("kind_of", none), "kind_of", "kind_of", defArgs s_kind_of, defBody s_kind_of, defScope s_kind_of, [], []⟩) rfl).choose
  F_kind_of := fun_of (st := s_kind_of) (c.s.d.def_ 13 (d := ⟨("kind_of", none), "kind_of", "kind_of", defArgs s_kind_of, defBody s_kind_of, defScope s_kind_of, [], []⟩) rfl).choose_spec
  bi_kind_of := (fun_of (st := s_kind_of) (c.s.d.def_ 13 (d := ⟨("kind_of", none), "kind_of", "kind_of", defArgs s_kind_of, defBody s_kind_of, defScope s_kind_of, [], []⟩) rfl).choose_spec).binds (ps := ["tree", "place"]) fun _ _ _ _ _ _ us hl => match us, hl with | [_, _], _ => rfl
  m_kind_of := He.glo_ok X G (c.s.d.fact 55 (f := .glo "kind_of") rfl)
  a_many_with := (He.ga K "many_with")
  fd_many_with := (c.s.d.def_ 14 (d := ⟨("many_with", none), "many_with", "many_with", defArgs s_many_with, defBody s_many_with, defScope s_many_with, [], []⟩) rfl).choose
  F_many_with := fun_of (st := s_many_with) (c.s.d.def_ 14 (d := ⟨("many_with", none), "many_with", "many_with", defArgs s_many_with, defBody s_many_with, defScope s_many_with, [], []⟩) rfl).choose_spec
  bi_many_with := (fun_of (st := s_many_with) (c.s.d.def_ 14 (d := ⟨("many_with", none), "many_with", "many_with", defArgs s_many_with, defBody s_many_with, defScope s_many_with, [], []⟩) rfl).choose_spec).binds (ps := ["kinds", "kept", "children"]) fun _ _ _ _ _ _ us hl => match us, hl with | [_, _, _], _ => rfl
  m_many_with := He.glo_ok X G (c.s.d.fact 56 (f := .glo "many_with") rfl)
  a_Rule_init := (He.ma K (He.ga K "Rule") "__init__")
  fd_Rule_init := (c.s.d.def_ 15 (d := ⟨("Rule", some "__init__"), "__init__", "Rule.__init__", defArgs s_Rule_init, defBody s_Rule_init, defScope s_Rule_init, [], []⟩) rfl).choose
  F_Rule_init := fun_of (st := s_Rule_init) (c.s.d.def_ 15 (d := ⟨("Rule", some "__init__"), "__init__", "Rule.__init__", defArgs s_Rule_init, defBody s_Rule_init, defScope s_Rule_init, [], []⟩) rfl).choose_spec
  bi_Rule_init := (fun_of (st := s_Rule_init) (c.s.d.def_ 15 (d := ⟨("Rule", some "__init__"), "__init__", "Rule.__init__", defArgs s_Rule_init, defBody s_Rule_init, defScope s_Rule_init, [], []⟩) rfl).choose_spec).binds (ps := ["self", "root", "others"]) fun _ _ _ _ _ _ us hl => match us, hl with | [_, _, _], _ => rfl
  mk_Rule := He.mkr_ok (c.s.d.fact 57 (f := .mkr "Rule") rfl)
  a_Rule_broken_at := (He.ma K (He.ga K "Rule") "broken_at")
  fd_Rule_broken_at := (c.s.d.def_ 16 (d := ⟨("Rule", some "broken_at"), "broken_at", "Rule.broken_at", defArgs s_Rule_broken_at, defBody s_Rule_broken_at, defScope s_Rule_broken_at, [], []⟩) rfl).choose
  F_Rule_broken_at := fun_of (st := s_Rule_broken_at) (c.s.d.def_ 16 (d := ⟨("Rule", some "broken_at"), "broken_at", "Rule.broken_at", defArgs s_Rule_broken_at, defBody s_Rule_broken_at, defScope s_Rule_broken_at, [], []⟩) rfl).choose_spec
  bi_Rule_broken_at := (fun_of (st := s_Rule_broken_at) (c.s.d.def_ 16 (d := ⟨("Rule", some "broken_at"), "broken_at", "Rule.broken_at", defArgs s_Rule_broken_at, defBody s_Rule_broken_at, defScope s_Rule_broken_at, [], []⟩) rfl).choose_spec).binds (ps := ["self", "tree"]) fun _ _ _ _ _ _ us hl => match us, hl with | [_, _], _ => rfl
  me_Rule_broken_at := He.meth_ok (c.s.d.fact 58 (f := .meth "Rule" "broken_at") rfl)
  a_Rule_keeps := (He.ma K (He.ga K "Rule") "keeps")
  fd_Rule_keeps := (c.s.d.def_ 17 (d := ⟨("Rule", some "keeps"), "keeps", "Rule.keeps", defArgs s_Rule_keeps, defBody s_Rule_keeps, defScope s_Rule_keeps, [], []⟩) rfl).choose
  F_Rule_keeps := fun_of (st := s_Rule_keeps) (c.s.d.def_ 17 (d := ⟨("Rule", some "keeps"), "keeps", "Rule.keeps", defArgs s_Rule_keeps, defBody s_Rule_keeps, defScope s_Rule_keeps, [], []⟩) rfl).choose_spec
  bi_Rule_keeps := (fun_of (st := s_Rule_keeps) (c.s.d.def_ 17 (d := ⟨("Rule", some "keeps"), "keeps", "Rule.keeps", defArgs s_Rule_keeps, defBody s_Rule_keeps, defScope s_Rule_keeps, [], []⟩) rfl).choose_spec).binds (ps := ["self", "tree"]) fun _ _ _ _ _ _ us hl => match us, hl with | [_, _], _ => rfl
  me_Rule_keeps := He.meth_ok (c.s.d.fact 59 (f := .meth "Rule" "keeps") rfl)
  a_Rule_is_exact := (He.ma K (He.ga K "Rule") "is_exact")
  fd_Rule_is_exact := (c.s.d.def_ 18 (d := ⟨("Rule", some "is_exact"), "is_exact", "Rule.is_exact", defArgs s_Rule_is_exact, defBody s_Rule_is_exact, defScope s_Rule_is_exact, [], []⟩) rfl).choose
  F_Rule_is_exact := fun_of (st := s_Rule_is_exact) (c.s.d.def_ 18 (d := ⟨("Rule", some "is_exact"), "is_exact", "Rule.is_exact", defArgs s_Rule_is_exact, defBody s_Rule_is_exact, defScope s_Rule_is_exact, [], []⟩) rfl).choose_spec
  bi_Rule_is_exact := (fun_of (st := s_Rule_is_exact) (c.s.d.def_ 18 (d := ⟨("Rule", some "is_exact"), "is_exact", "Rule.is_exact", defArgs s_Rule_is_exact, defBody s_Rule_is_exact, defScope s_Rule_is_exact, [], []⟩) rfl).choose_spec).binds (ps := ["self"]) fun _ _ _ _ _ _ us hl => match us, hl with | [_], _ => rfl
  me_Rule_is_exact := He.meth_ok (c.s.d.fact 60 (f := .meth "Rule" "is_exact") rfl)
  a_flags_of := (He.ga K "flags_of")
  fd_flags_of := (c.s.d.def_ 19 (d := ⟨("flags_of", none), "flags_of", "flags_of", defArgs s_flags_of, defBody s_flags_of, defScope s_flags_of, [], []⟩) rfl).choose
  F_flags_of := fun_of (st := s_flags_of) (c.s.d.def_ 19 (d := ⟨("flags_of", none), "flags_of", "flags_of", defArgs s_flags_of, defBody s_flags_of, defScope s_flags_of, [], []⟩) rfl).choose_spec
  bi_flags_of := (fun_of (st := s_flags_of) (c.s.d.def_ 19 (d := ⟨("flags_of", none), "flags_of", "flags_of", defArgs s_flags_of, defBody s_flags_of, defScope s_flags_of, [], []⟩) rfl).choose_spec).binds (ps := ["rule"]) fun _ _ _ _ _ _ us hl => match us, hl with | [_], _ => rfl
  m_flags_of := He.glo_ok X G (c.s.d.fact 61 (f := .glo "flags_of") rfl)
  a_Rule_tree_of := (He.ma K (He.ga K "Rule") "tree_of")
  fd_Rule_tree_of := (c.s.d.def_ 20 (d := ⟨("Rule", some "tree_of"), "tree_of", "Rule.tree_of", defArgs s_Rule_tree_of, defBody s_Rule_tree_of, defScope s_Rule_tree_of, [], []⟩) rfl).choose
  F_Rule_tree_of := fun_of (st := s_Rule_tree_of) (c.s.d.def_ 20 (d := ⟨("Rule", some "tree_of"), "tree_of", "Rule.tree_of", defArgs s_Rule_tree_of, defBody s_Rule_tree_of, defScope s_Rule_tree_of, [], []⟩) rfl).choose_spec
  bi_Rule_tree_of := (fun_of (st := s_Rule_tree_of) (c.s.d.def_ 20 (d := ⟨("Rule", some "tree_of"), "tree_of", "Rule.tree_of", defArgs s_Rule_tree_of, defBody s_Rule_tree_of, defScope s_Rule_tree_of, [], []⟩) rfl).choose_spec).binds (ps := ["self", "letters", "items"]) fun _ _ _ _ _ _ us hl => match us, hl with | [_, _, _], _ => rfl
  me_Rule_tree_of := He.meth_ok (c.s.d.fact 62 (f := .meth "Rule" "tree_of") rfl)
  a_l_pen := (He.ga K "_law_pen")
  fd_l_pen := (c.s.d.def_ 21 (d := ⟨("_law_pen", none), "_law_pen", "_law_pen", defArgs s_l_pen, defBody s_l_pen, defScope s_l_pen, [], []⟩) rfl).choose
  F_l_pen := fun_of (st := s_l_pen) (c.s.d.def_ 21 (d := ⟨("_law_pen", none), "_law_pen", "_law_pen", defArgs s_l_pen, defBody s_l_pen, defScope s_l_pen, [], []⟩) rfl).choose_spec
  bi_l_pen := (fun_of (st := s_l_pen) (c.s.d.def_ 21 (d := ⟨("_law_pen", none), "_law_pen", "_law_pen", defArgs s_l_pen, defBody s_l_pen, defScope s_l_pen, [], []⟩) rfl).choose_spec).binds (ps := ["_law_script"]) fun _ _ _ _ _ _ us hl => match us, hl with | [_], _ => rfl
  m_l_pen := He.glo_ok X G (c.s.d.fact 63 (f := .glo "_law_pen") rfl)
  a_l_draw := (He.ga K "_law_draw")
  fd_l_draw := (c.s.d.def_ 22 (d := ⟨("_law_draw", none), "_law_draw", "_law_draw", defArgs s_l_draw, defBody s_l_draw, defScope s_l_draw, [], []⟩) rfl).choose
  F_l_draw := fun_of (st := s_l_draw) (c.s.d.def_ 22 (d := ⟨("_law_draw", none), "_law_draw", "_law_draw", defArgs s_l_draw, defBody s_l_draw, defScope s_l_draw, [], []⟩) rfl).choose_spec
  bi_l_draw := (fun_of (st := s_l_draw) (c.s.d.def_ 22 (d := ⟨("_law_draw", none), "_law_draw", "_law_draw", defArgs s_l_draw, defBody s_l_draw, defScope s_l_draw, [], []⟩) rfl).choose_spec).binds (ps := ["_law_pen_here", "_law_many"]) fun _ _ _ _ _ _ us hl => match us, hl with | [_, _], _ => rfl
  m_l_draw := He.glo_ok X G (c.s.d.fact 64 (f := .glo "_law_draw") rfl)
  a_l_pick := (He.ga K "_law_pick")
  fd_l_pick := (c.s.d.def_ 23 (d := ⟨("_law_pick", none), "_law_pick", "_law_pick", defArgs s_l_pick, defBody s_l_pick, defScope s_l_pick, [], []⟩) rfl).choose
  F_l_pick := fun_of (st := s_l_pick) (c.s.d.def_ 23 (d := ⟨("_law_pick", none), "_law_pick", "_law_pick", defArgs s_l_pick, defBody s_l_pick, defScope s_l_pick, [], []⟩) rfl).choose_spec
  bi_l_pick := (fun_of (st := s_l_pick) (c.s.d.def_ 23 (d := ⟨("_law_pick", none), "_law_pick", "_law_pick", defArgs s_l_pick, defBody s_l_pick, defScope s_l_pick, [], []⟩) rfl).choose_spec).binds (ps := ["_law_pen_here", "_law_some"]) fun _ _ _ _ _ _ us hl => match us, hl with | [_, _], _ => rfl
  m_l_pick := He.glo_ok X G (c.s.d.fact 65 (f := .glo "_law_pick") rfl)
  a_l_letters := (He.ga K "_law_letters")
  fd_l_letters := (c.s.d.def_ 24 (d := ⟨("_law_letters", none), "_law_letters", "_law_letters", defArgs s_l_letters, defBody s_l_letters, defScope s_l_letters, [], []⟩) rfl).choose
  F_l_letters := fun_of (st := s_l_letters) (c.s.d.def_ 24 (d := ⟨("_law_letters", none), "_law_letters", "_law_letters", defArgs s_l_letters, defBody s_l_letters, defScope s_l_letters, [], []⟩) rfl).choose_spec
  bi_l_letters := (fun_of (st := s_l_letters) (c.s.d.def_ 24 (d := ⟨("_law_letters", none), "_law_letters", "_law_letters", defArgs s_l_letters, defBody s_l_letters, defScope s_l_letters, [], []⟩) rfl).choose_spec).binds (ps := ["_law_pen_here", "_law_most"]) fun _ _ _ _ _ _ us hl => match us, hl with | [_, _], _ => rfl
  m_l_letters := He.glo_ok X G (c.s.d.fact 66 (f := .glo "_law_letters") rfl)
  a_l_shuffled := (He.ga K "_law_shuffled")
  fd_l_shuffled := (c.s.d.def_ 25 (d := ⟨("_law_shuffled", none), "_law_shuffled", "_law_shuffled", defArgs s_l_shuffled, defBody s_l_shuffled, defScope s_l_shuffled, [], []⟩) rfl).choose
  F_l_shuffled := fun_of (st := s_l_shuffled) (c.s.d.def_ 25 (d := ⟨("_law_shuffled", none), "_law_shuffled", "_law_shuffled", defArgs s_l_shuffled, defBody s_l_shuffled, defScope s_l_shuffled, [], []⟩) rfl).choose_spec
  bi_l_shuffled := (fun_of (st := s_l_shuffled) (c.s.d.def_ 25 (d := ⟨("_law_shuffled", none), "_law_shuffled", "_law_shuffled", defArgs s_l_shuffled, defBody s_l_shuffled, defScope s_l_shuffled, [], []⟩) rfl).choose_spec).binds (ps := ["_law_pen_here", "_law_some"]) fun _ _ _ _ _ _ us hl => match us, hl with | [_, _], _ => rfl
  m_l_shuffled := He.glo_ok X G (c.s.d.fact 67 (f := .glo "_law_shuffled") rfl)
  kc_l_ordered := He.codeOf K ("_law_ordered", none)
  tb_l_ordered := He.tabOf K (He.codeOf K ("_law_ordered", none))
  ec_l_ordered := ec_of (p := ("_law_ordered", none)) (fun_of (st := s_l_ordered) (c.s.d.def_ 26 (d := ⟨("_law_ordered", none), "_law_ordered", "_law_ordered", defArgs s_l_ordered, defBody s_l_ordered, defScope s_l_ordered, [], []⟩) rfl).choose_spec)
  a_l_ordered := (He.ga K "_law_ordered")
  fd_l_ordered := (c.s.d.def_ 26 (d := ⟨("_law_ordered", none), "_law_ordered", "_law_ordered", defArgs s_l_ordered, defBody s_l_ordered, defScope s_l_ordered, [], []⟩) rfl).choose
  F_l_ordered := fun_of (st := s_l_ordered) (c.s.d.def_ 26 (d := ⟨("_law_ordered", none), "_law_ordered", "_law_ordered", defArgs s_l_ordered, defBody s_l_ordered, defScope s_l_ordered, [], []⟩) rfl).choose_spec
  bi_l_ordered := (fun_of (st := s_l_ordered) (c.s.d.def_ 26 (d := ⟨("_law_ordered", none), "_law_ordered", "_law_ordered", defArgs s_l_ordered, defBody s_l_ordered, defScope s_l_ordered, [], []⟩) rfl).choose_spec).binds (ps := ["_law_letters_here", "_law_words"]) fun _ _ _ _ _ _ us hl => match us, hl with | [_, _], _ => rfl
  m_l_ordered := He.glo_ok X G (c.s.d.fact 68 (f := .glo "_law_ordered") rfl)
  a_l_exact := (He.ga K "_law_exact")
  fd_l_exact := (c.s.d.def_ 27 (d := ⟨("_law_exact", none), "_law_exact", "_law_exact", defArgs s_l_exact, defBody s_l_exact, defScope s_l_exact, [], []⟩) rfl).choose
  F_l_exact := fun_of (st := s_l_exact) (c.s.d.def_ 27 (d := ⟨("_law_exact", none), "_law_exact", "_law_exact", defArgs s_l_exact, defBody s_l_exact, defScope s_l_exact, [], []⟩) rfl).choose_spec
  bi_l_exact := (fun_of (st := s_l_exact) (c.s.d.def_ 27 (d := ⟨("_law_exact", none), "_law_exact", "_law_exact", defArgs s_l_exact, defBody s_l_exact, defScope s_l_exact, [], []⟩) rfl).choose_spec).binds (ps := ["_law_pen_here"]) fun _ _ _ _ _ _ us hl => match us, hl with | [_], _ => rfl
  m_l_exact := He.glo_ok X G (c.s.d.fact 69 (f := .glo "_law_exact") rfl)
  a_l_items := (He.ga K "_law_items")
  fd_l_items := (c.s.d.def_ 28 (d := ⟨("_law_items", none), "_law_items", "_law_items", defArgs s_l_items, defBody s_l_items, defScope s_l_items, [], []⟩) rfl).choose
  F_l_items := fun_of (st := s_l_items) (c.s.d.def_ 28 (d := ⟨("_law_items", none), "_law_items", "_law_items", defArgs s_l_items, defBody s_l_items, defScope s_l_items, [], []⟩) rfl).choose_spec
  bi_l_items := (fun_of (st := s_l_items) (c.s.d.def_ 28 (d := ⟨("_law_items", none), "_law_items", "_law_items", defArgs s_l_items, defBody s_l_items, defScope s_l_items, [], []⟩) rfl).choose_spec).binds (ps := ["_law_pen_here", "_law_letters_here", "_law_many", "_law_longest"]) fun _ _ _ _ _ _ us hl => match us, hl with | [_, _, _, _], _ => rfl
  m_l_items := He.glo_ok X G (c.s.d.fact 70 (f := .glo "_law_items") rfl)
  a_l_flags_due := (He.ga K "_law_flags_due")
  fd_l_flags_due := (c.s.d.def_ 29 (d := ⟨("_law_flags_due", none), "_law_flags_due", "_law_flags_due", defArgs s_l_flags_due, defBody s_l_flags_due, defScope s_l_flags_due, [], []⟩) rfl).choose
  F_l_flags_due := fun_of (st := s_l_flags_due) (c.s.d.def_ 29 (d := ⟨("_law_flags_due", none), "_law_flags_due", "_law_flags_due", defArgs s_l_flags_due, defBody s_l_flags_due, defScope s_l_flags_due, [], []⟩) rfl).choose_spec
  bi_l_flags_due := (fun_of (st := s_l_flags_due) (c.s.d.def_ 29 (d := ⟨("_law_flags_due", none), "_law_flags_due", "_law_flags_due", defArgs s_l_flags_due, defBody s_l_flags_due, defScope s_l_flags_due, [], []⟩) rfl).choose_spec).binds (ps := ["_law_root", "_law_others"]) fun _ _ _ _ _ _ us hl => match us, hl with | [_, _], _ => rfl
  m_l_flags_due := He.glo_ok X G (c.s.d.fact 71 (f := .glo "_law_flags_due") rfl)
  a_l_rows_due := (He.ga K "_law_rows_due")
  fd_l_rows_due := (c.s.d.def_ 30 (d := ⟨("_law_rows_due", none), "_law_rows_due", "_law_rows_due", defArgs s_l_rows_due, defBody s_l_rows_due, defScope s_l_rows_due, [], []⟩) rfl).choose
  F_l_rows_due := fun_of (st := s_l_rows_due) (c.s.d.def_ 30 (d := ⟨("_law_rows_due", none), "_law_rows_due", "_law_rows_due", defArgs s_l_rows_due, defBody s_l_rows_due, defScope s_l_rows_due, [], []⟩) rfl).choose_spec
  bi_l_rows_due := (fun_of (st := s_l_rows_due) (c.s.d.def_ 30 (d := ⟨("_law_rows_due", none), "_law_rows_due", "_law_rows_due", defArgs s_l_rows_due, defBody s_l_rows_due, defScope s_l_rows_due, [], []⟩) rfl).choose_spec).binds (ps := ["_law_letters_here", "_law_items_here", "_law_flags"]) fun _ _ _ _ _ _ us hl => match us, hl with | [_, _, _], _ => rfl
  m_l_rows_due := He.glo_ok X G (c.s.d.fact 72 (f := .glo "_law_rows_due") rfl)
  a_l_caught := (He.ga K "_law_caught")
  fd_l_caught := (c.s.d.def_ 31 (d := ⟨("_law_caught", none), "_law_caught", "_law_caught", defArgs s_l_caught, defBody s_l_caught, defScope s_l_caught, [], []⟩) rfl).choose
  F_l_caught := fun_of (st := s_l_caught) (c.s.d.def_ 31 (d := ⟨("_law_caught", none), "_law_caught", "_law_caught", defArgs s_l_caught, defBody s_l_caught, defScope s_l_caught, [], []⟩) rfl).choose_spec
  bi_l_caught := (fun_of (st := s_l_caught) (c.s.d.def_ 31 (d := ⟨("_law_caught", none), "_law_caught", "_law_caught", defArgs s_l_caught, defBody s_l_caught, defScope s_l_caught, [], []⟩) rfl).choose_spec).binds (ps := ["_law_function"]) fun _ _ _ _ _ _ us hl => match us, hl with | [_], _ => rfl
  m_l_caught := He.glo_ok X G (c.s.d.fact 73 (f := .glo "_law_caught") rfl)
  a_l_bent := (He.ga K "_law_bent")
  fd_l_bent := (c.s.d.def_ 32 (d := ⟨("_law_bent", none), "_law_bent", "_law_bent", defArgs s_l_bent, defBody s_l_bent, defScope s_l_bent, [], []⟩) rfl).choose
  F_l_bent := fun_of (st := s_l_bent) (c.s.d.def_ 32 (d := ⟨("_law_bent", none), "_law_bent", "_law_bent", defArgs s_l_bent, defBody s_l_bent, defScope s_l_bent, [], []⟩) rfl).choose_spec
  bi_l_bent := (fun_of (st := s_l_bent) (c.s.d.def_ 32 (d := ⟨("_law_bent", none), "_law_bent", "_law_bent", defArgs s_l_bent, defBody s_l_bent, defScope s_l_bent, [], []⟩) rfl).choose_spec).binds (ps := ["_law_pen_here", "_law_root", "_law_others"]) fun _ _ _ _ _ _ us hl => match us, hl with | [_, _, _], _ => rfl
  m_l_bent := He.glo_ok X G (c.s.d.fact 74 (f := .glo "_law_bent") rfl)
  a_l_is_exact := (He.ga K "_law_is_exact")
  fd_l_is_exact := (c.s.d.def_ 33 (d := ⟨("_law_is_exact", none), "_law_is_exact", "_law_is_exact", defArgs s_l_is_exact, defBody s_l_is_exact, defScope s_l_is_exact, [], []⟩) rfl).choose
  F_l_is_exact := fun_of (st := s_l_is_exact) (c.s.d.def_ 33 (d := ⟨("_law_is_exact", none), "_law_is_exact", "_law_is_exact", defArgs s_l_is_exact, defBody s_l_is_exact, defScope s_l_is_exact, [], []⟩) rfl).choose_spec
  bi_l_is_exact := (fun_of (st := s_l_is_exact) (c.s.d.def_ 33 (d := ⟨("_law_is_exact", none), "_law_is_exact", "_law_is_exact", defArgs s_l_is_exact, defBody s_l_is_exact, defScope s_l_is_exact, [], []⟩) rfl).choose_spec).binds (ps := ["_law_root", "_law_others"]) fun _ _ _ _ _ _ us hl => match us, hl with | [_, _], _ => rfl
  m_l_is_exact := He.glo_ok X G (c.s.d.fact 75 (f := .glo "_law_is_exact") rfl)
  kc_l_refused_right := He.codeOf K ("_law_refused_right", none)
  tb_l_refused_right := He.tabOf K (He.codeOf K ("_law_refused_right", none))
  ec_l_refused_right := ec_of (p := ("_law_refused_right", none)) (fun_of (st := s_l_refused_right) (c.s.d.def_ 34 (d := ⟨("_law_refused_right", none), "_law_refused_right", "_law_refused_right", defArgs s_l_refused_right, defBody s_l_refused_right, defScope s_l_refused_right, [], []⟩) rfl).choose_spec)
  a_l_refused_right := (He.ga K "_law_refused_right")
  fd_l_refused_right := (c.s.d.def_ 34 (d := ⟨("_law_refused_right", none), "_law_refused_right", "_law_refused_right", defArgs s_l_refused_right, defBody s_l_refused_right, defScope s_l_refused_right, [], []⟩) rfl).choose
  F_l_refused_right := fun_of (st := s_l_refused_right) (c.s.d.def_ 34 (d := ⟨("_law_refused_right", none), "_law_refused_right", "_law_refused_right", defArgs s_l_refused_right, defBody s_l_refused_right, defScope s_l_refused_right, [], []⟩) rfl).choose_spec
  bi_l_refused_right := (fun_of (st := s_l_refused_right) (c.s.d.def_ 34 (d := ⟨("_law_refused_right", none), "_law_refused_right", "_law_refused_right", defArgs s_l_refused_right, defBody s_l_refused_right, defScope s_l_refused_right, [], []⟩) rfl).choose_spec).binds (ps := ["_law_pen_here", "_law_rule", "_law_letters_here", "_law_items_here"]) fun _ _ _ _ _ _ us hl => match us, hl with | [_, _, _, _], _ => rfl
  m_l_refused_right := He.glo_ok X G (c.s.d.fact 76 (f := .glo "_law_refused_right") rfl)
  a_l_only_right := (He.ga K "_law_only_right")
  fd_l_only_right := (c.s.d.def_ 35 (d := ⟨("_law_only_right", none), "_law_only_right", "_law_only_right", defArgs s_l_only_right, defBody s_l_only_right, defScope s_l_only_right, [], []⟩) rfl).choose
  F_l_only_right := fun_of (st := s_l_only_right) (c.s.d.def_ 35 (d := ⟨("_law_only_right", none), "_law_only_right", "_law_only_right", defArgs s_l_only_right, defBody s_l_only_right, defScope s_l_only_right, [], []⟩) rfl).choose_spec
  bi_l_only_right := (fun_of (st := s_l_only_right) (c.s.d.def_ 35 (d := ⟨("_law_only_right", none), "_law_only_right", "_law_only_right", defArgs s_l_only_right, defBody s_l_only_right, defScope s_l_only_right, [], []⟩) rfl).choose_spec).binds (ps := ["_law_pen_here", "_law_rule", "_law_letters_here", "_law_rows"]) fun _ _ _ _ _ _ us hl => match us, hl with | [_, _, _, _], _ => rfl
  m_l_only_right := He.glo_ok X G (c.s.d.fact 77 (f := .glo "_law_only_right") rfl)
  kc_law := He.codeOf K ("law", none)
  tb_law := He.tabOf K (He.codeOf K ("law", none))
  ec_law := ec_of (p := ("law", none)) (fun_of (st := s_law) (c.s.d.def_ 36 (d := ⟨("law", none), "law", "law", defArgs s_law, defBody s_law, defScope s_law, [], []⟩) rfl).choose_spec)
  a_law := (He.ga K "law")
  fd_law := (c.s.d.def_ 36 (d := ⟨("law", none), "law", "law", defArgs s_law, defBody s_law, defScope s_law, [], []⟩) rfl).choose
  F_law := fun_of (st := s_law) (c.s.d.def_ 36 (d := ⟨("law", none), "law", "law", defArgs s_law, defBody s_law, defScope s_law, [], []⟩) rfl).choose_spec
  bi_law := (fun_of (st := s_law) (c.s.d.def_ 36 (d := ⟨("law", none), "law", "law", defArgs s_law, defBody s_law, defScope s_law, [], []⟩) rfl).choose_spec).binds (ps := ["_law_script"]) fun _ _ _ _ _ _ us hl => match us, hl with | [_], _ => rfl
  m_law := He.glo_ok X G (c.s.d.fact 78 (f := .glo "law") rfl)
  ca_Tree := of_decide_eq_true (c.s.e 39 (f := fun K => decide (PySem.W.findIn K (.ref (He.ga K "Tree")) "__class__" = some (some (.builtin "object.__class__")))) rfl)
  ob_Tree := of_decide_eq_true (c.s.e 40 (f := fun K => decide (PySem.W.mroIn K (He.ga K "Tree") (.type "object") = some true)) rfl)
  tnd := of_decide_eq_true (c.s.e 41 (f := fun K => decide ([He.tabOf K (He.codeOf K ("in_order", none)), He.tabOf K (He.codeOf K ("_law_ordered", none)), He.tabOf K (He.codeOf K ("_law_refused_right", none)), He.tabOf K (He.codeOf K ("law", none))].Nodup)) rfl)
end Toy
set_option Elab.async false
set_option linter.all false
set_option maxRecDepth 100000
set_option maxHeartbeats 4000000
namespace Toy
open PySem L2 Sh ShL LamX NdefX
/-! ### the end -/
theorem facts {w : World} {K : PySem.W.Frag} {h : Heap} {mg : Str → Option Value} {fa : Addr} (X : K.In h) (G : h.Ns mainGlobals mg) (hfa : mg ("law" : Str) = some (.ref fa)) (c : SaysT h K) :
    LamX.LawAtS PySem.Challenge.rw_treeshed_k03_whole_exact_rules w K CX0 16 63 "_law_script" mg fa h := by
  have e := hfa.symm.trans (tx_of X G c).m_law
  cases e
  have m1 : ∀ q ∈ hTf, He.cT K q ∈ hTf.map (He.cT K) := fun q hq => List.mem_map.mpr ⟨q, hq, rfl⟩
  have q1 : (("in_order", none) : He.Defn) ∈ hTf := .head _
  have q2 : (("_law_ordered", none) : He.Defn) ∈ hTf := .tail _ (.head _)
  have q3 : (("_law_refused_right", none) : He.Defn) ∈ hTf := .tail _ (.tail _ (.head _))
  have q4 : (("law", none) : He.Defn) ∈ hTf := .tail _ (.tail _ (.tail _ (.head _)))
  refine ⟨(tx_of X G c).fd_law, hTf.map (He.cT K), spLaw K (tabs (tx_of X G c)), fun p hp => ?_, fun p hp => ?_, fun p hp => ?_, fun s v => ?_, fun H a ns hl _ ht hS => ⟨a, ns, rfl, hS, fun p hp => ?_, fun _ => rfl⟩, fun base _ _ hB => ok_law (tx_of X G c) ⟨hB _ (m1 _ q1), hB _ (m1 _ q2), hB _ (m1 _ q3), hB _ (m1 _ q4)⟩⟩
  · obtain ⟨q, hq, rfl⟩ := List.mem_map.mp hp
    exact c.empty q hq
  · obtain ⟨q, hq, rfl⟩ := List.mem_map.mp hp
    exact c.out q hq
  · obtain ⟨q, hq, rfl⟩ := List.mem_map.mp hp
    exact PySem.W.codeHd_of_K X (c.hd q hq)
  · obtain ⟨oc, od, kV, doc, pm, an, cdv, ct, osl, h, _⟩ := (tx_of X G c).F_law.ex
    rw [h]
    exact .of_eq rfl
  · unfold tabs at hp
    rcases List.mem_cons.mp hp with rfl | hp
    · exact LamX.TabS.nil (ht _ (m1 _ q1))
    rcases List.mem_cons.mp hp with rfl | hp
    · exact LamX.TabS.nil (ht _ (m1 _ q2))
    rcases List.mem_cons.mp hp with rfl | hp
    · exact LamX.TabS.nil (ht _ (m1 _ q3))
    rcases List.mem_cons.mp hp with rfl | hp
    · exact LamX.TabS.nil (ht _ (m1 _ q4))
    cases hp
end Toy
set_option Elab.async false
set_option linter.all false
set_option maxRecDepth 100000
set_option maxHeartbeats 4000000
namespace Toy
open PySem L2 Sh ShL LamX NdefX
/-! ### the head: the run of the top, in the kernel -/
abbrev R : PySem.W.OpenRow := PySem.W.OpenLaw.row PySem.Challenge.rw_treeshed_k03_whole_exact_rules
abbrev hk : PySem.W.Hook := hookXT 4 hFa hFn hEx hXs hTf hCm
def ob (s : PySem.W.SharedT) : AlXT := obsXT hFa hFn hEx hXs hTf hCm 4 (HandSHeadRun.getT s)
theorem ob_eq (s : PySem.W.SharedT) : ob s = hk.obs s.abs := obsXT_eq (HandSHeadRun.getT_eq s)
set_option maxHeartbeats 0 in
theorem run (w : World) : HandSHeadRun.RunEq R (PySem.W.view R.prog [48]) hk ob 20000 loose w := by
  intro os
  kernel_rfl
end Toy
set_option Elab.async false
set_option linter.all false
set_option maxRecDepth 100000
set_option maxHeartbeats 4000000
namespace Toy
open PySem L2 Sh ShL LamX NdefX
end Toy
open PySem PySem.W PySem.Calls PyProof.Rows
set_option maxRecDepth 100000 in
set_option maxHeartbeats 0 in
theorem PySem.Challenge.cw_treeshed_k03_whole_exact_rules_holds : PySem.Challenge.rw_treeshed_k03_whole_exact_rules.Holds := by
  w_on; o_law
  refine HandSHeadRun.head_any (r := OpenLaw.row PySem.Challenge.rw_treeshed_k03_whole_exact_rules) (q := view (OpenLaw.row PySem.Challenge.rw_treeshed_k03_whole_exact_rules).prog [48]) (H := Toy.hk) (ob := Toy.ob) (M := 20000) (loose := Toy.loose) (d := HandSHeadRun.topDef (OpenLaw.row PySem.Challenge.rw_treeshed_k03_whole_exact_rules).prog 48) (kwd := []) Toy.ob_eq
    (by kernel_rfl) (fun s => by kernel_rfl) Toy.run (by kernel_rfl) (by kernel_rfl) (by kernel_rfl) (by rfl) (by first | assumption | decide +kernel) (by decide +kernel) ⟨rfl, rfl, rfl, rfl, rfl, by decide +kernel⟩ ?hw ?hc
  case hw => w_witness2
  case hc =>
    refine LamX.walk_ofTsE (l := PySem.Challenge.rw_treeshed_k03_whole_exact_rules) (n := 63) (k := 16) (x := "_law_script") (CX := fun _ => L2.CX0) rfl (by decide) (by kernel_rfl) ⟨rfl, by decide, by decide⟩ ?F (fun _ _ _ _ _ h => h)
    intro w mg fa h Y G hmg0
    obtain ⟨K, KX, c⟩ := Y
    have hmg : mg ("law" : PySem.Str) = some (.ref fa) := by
      have e : (HandSHeadRun.topDef (OpenLaw.row PySem.Challenge.rw_treeshed_k03_whole_exact_rules).prog 48).name = ("law" : PySem.Str) := by kernel_rfl
      rw [← e]
      exact hmg0
    exact ⟨K, KX, Toy.facts (w := w) KX G hmg c⟩
#print axioms PySem.Challenge.cw_treeshed_k03_whole_exact_rules_holds
namespace Toy
end Toy
