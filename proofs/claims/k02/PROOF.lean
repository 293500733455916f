import PyProof.Rows.All
import Wide.All
import OpenK.AllK
import Wide.FinOn
import HandS.ForMost
import HandS.Deep
import HandS.Style
import HandS.IsInst
import HandS.TupAny
import HandS.Codes
import KE.SortData
import HandS.Exc
import HandS.ExcInit
import HandS.Nested
import KE.KSuper
import KE.KExcSuper
import HandS.Defaults
import HandS.MakeKw
import HandS.ExcValue
import KE.KExcIs
import PyProof.ReprReads
import PyProof.StrHeap
import PyProof.ReprHeadsEmpty
import HandS.RaiseMore
import KE.KStateDown
import HandS.Head0
import HandS.Head1
import HandS.Head2
import HandS.HeadEnd
import HandS.HeadHook1
import HandS.HeadHook2
import HandS.TryMany
import KE.SortKeyHeap
import HandS.OwnEq
import HandS.More
import HandS.NamedTupSort
import PyProof.InstNe
import HandS.NoneIn
import PyProof.StrOps2
import PyProof.SliceStr2
import KE.KRevSl
import HandS.Conv
import KE.KDictList
import PyProof.StrWalks
import HandS.Lambda
import HandS.ClsMeth
import HandS.DictComp
import HandS.HeadWalk
import HandS.DeepEq
import HandS.Base
import HandS.Call
import HandS.HeadHook4
import HandS.EndTab
import PyProof.EqAt
import PyProof.EqKinds
import PyProof.TupleCall
import HandS.List
import HandS.Comp
import KE.GoesMore
import PyProof.EnumMake
import HandS.Steps
import HandS.WordsExc
import HandS.SortInts
import HandS.Flow
import HandS.StrMore
import HandS.Replace
import HandS.Iter
import HandS.Walk
import PySem.Challenge.RW_treeshed_k02_rules_and_kinds
set_option Elab.async false
set_option linter.all false
set_option maxRecDepth 100000
set_option maxHeartbeats 4000000
namespace Sh
open PySem PySem.Spec PyProof.Rows L2
/-! ### rules of my own over the hand layer -/
section
variable {X : Cx}
def rInDT (K : PySem.W.Frag) : R2 := fun x y H Q => ∃ d ds, Dp K H x d ∧ Dp K H y (.tuple ds) ∧ SeqAt.shaped d = true ∧ SeqAt.shaped (.tuple ds) = true ∧ Q (.bl (ds.any fun z => PyData.eqv z d)) H
def rNotInDT (K : PySem.W.Frag) : R2 := fun x y H Q => ∃ d ds, Dp K H x d ∧ Dp K H y (.tuple ds) ∧ SeqAt.shaped d = true ∧ SeqAt.shaped (.tuple ds) = true ∧ Q (.bl (!ds.any fun z => PyData.eqv z d)) H
theorem op_inDT (hu : X.A.units + 65 < cLine) : OpR X (compareOp .In) (rInDT X.K) := by
  intro pins s σ H x y v u Q I rx ry h
  obtain ⟨d, ds, hd, he, sd, se, q⟩ := h
  obtain ⟨as, r1⟩ := Dp.reads I d x v hd rx
  obtain ⟨bs, r2⟩ := Dp.reads I (.tuple ds) y u he ry
  exact SeqAt.in_tuple_reads r2 r1 (SeqAt.canLay_of_shaped se) (SeqAt.canLay_of_shaped sd) (room_in_shaped sd hu) ⟨.bl _, H, I, rfl, q⟩
theorem op_notInDT (hu : X.A.units + 65 < cLine) : OpR X (compareOp .NotIn) (rNotInDT X.K) := by
  intro pins s σ H x y v u Q I rx ry h
  obtain ⟨d, ds, hd, he, sd, se, q⟩ := h
  obtain ⟨as, r1⟩ := Dp.reads I d x v hd rx
  obtain ⟨bs, r2⟩ := Dp.reads I (.tuple ds) y u he ry
  exact SeqAt.notIn_tuple_reads r2 r1 (SeqAt.canLay_of_shaped se) (SeqAt.canLay_of_shaped sd) (room_in_shaped sd hu) ⟨.bl _, H, I, rfl, q⟩
/-! sorted of a list that reads as data -/
def sortPairs (xs : List V) (ds : List PyData) : List (V × PyData) := (xs.zip ds).mergeSort (PySem.W.dataLe false Prod.snd)
def rSortedDD (K : PySem.W.Frag) : List V → Hp → VK → Prop := fun vs H Q => ∃ (a : Addr) (xs : List V) (ds : List PyData), vs = [V.ref a] ∧ SqL K H a xs ∧ DpAll K H xs ds ∧ PySem.W.AllAlike ds ∧ PySem.W.Sortable ds ∧ (∀ d ∈ ds, d.depth ≤ 60) ∧
  ∀ p, H p = none → Q (.ref p) (upd H p (.lst ((sortPairs xs ds).map Prod.fst)))
theorem DpAll.len {K : PySem.W.Frag} {H : Hp} : ∀ {xs : List V} {ds : List PyData}, DpAll K H xs ds → xs.length = ds.length
  | _, _, .nil => rfl
  | _, _, .cons _ t => by
    show _ + 1 = _ + 1
    rw [DpAll.len t]
theorem zip_snd {α β : Type} : ∀ {xs : List α} {ds : List β}, xs.length = ds.length → (xs.zip ds).map Prod.snd = ds
  | [], [], _ => rfl
  | x :: xs, d :: ds, h => by
    show d :: (xs.zip ds).map Prod.snd = d :: ds
    rw [zip_snd (Nat.succ.inj h)]
theorem each_rel {K : PySem.W.Frag} {H : Hp} : ∀ {xs : List V} {ds : List PyData} {its : List Value}, Vals xs its → xs.length = ds.length → PySem.W.EachIs (fun (v : Value) (b : V × PyData) => RelV b.1 v) its (xs.zip ds)
  | [], [], _, .nil, _ => .nil
  | _ :: _, _ :: _, _, .cons r t, h => .cons r (each_rel (K := K) (H := H) t (Nat.succ.inj h))
theorem each_reads {pins : List (Addr × Obj)} {σ : L2.St} {H : Hp} {s : Shared} (I : L2.Inv X pins σ H s) : ∀ {xs : List V} {ds : List PyData} {its : List Value}, Vals xs its → DpAll X.K H xs ds → PySem.W.EachIs (fun (v : Value) (b : V × PyData) => ∃ as, Reads s.heap v b.2 as) its (xs.zip ds)
  | [], [], _, .nil, _ => .nil
  | _ :: _, _ :: _, _, .cons r t, .cons h hs => .cons (Dp.reads I _ _ _ h r) (each_reads I t hs)
theorem vals_of_each : ∀ {out : List Value} {bs : List (V × PyData)}, PySem.W.EachIs (fun (v : Value) (b : V × PyData) => RelV b.1 v) out bs → Vals (bs.map Prod.fst) out
  | _, _, .nil => .nil
  | _, _, .cons r t => .cons r (vals_of_each t)
theorem cr_sortedDD (hu : X.A.units + 65 < cLine) : CallR X (.builtin "sorted") (rSortedDD X.K) := by
  intro pins s σ H vs us Q I r h
  obtain ⟨a, xs, ds, rfl, hs, hd, hal, hk, hdp, q⟩ := h
  obtain ⟨its, rv, hl, hz⟩ := I.list hs
  rw [Vals.ref1 r]
  have el := DpAll.len hd
  have ez : (xs.zip ds).map Prod.snd = ds := zip_snd el
  have elz : (xs.zip ds).length = xs.length := by rw [List.length_zip, el, Nat.min_self]
  refine PySem.W.sorted_data (enc := Prod.snd) (bs := xs.zip ds) hl.isList (each_rel (K := X.K) (H := H) rv el) (each_reads I rv hd) (by rw [ez]; exact hal) (by rw [ez]; exact hk) (by rw [elz]; exact hz) (fun b hb => ?_) fun out ho eo => ?_
  · have hm : b.2 ∈ ds := by
      rw [← ez]
      exact List.mem_map.mpr ⟨b, hb, rfl⟩
    have := hdp _ hm
    omega
  · obtain ⟨ep, he'⟩ := PyProof.Rows.sortedAll_at s.heap its out.toArray
    have hlen : ((sortPairs xs ds).map Prod.fst).length ≤ sizeLine := by
      rw [List.length_map, sortPairs, List.length_mergeSort, elz]
      exact hz
    refine ⟨.ref _, upd H (s.heap.objs.size + 1) (.lst ((sortPairs xs ds).map Prod.fst)), I.laid (t' := s.toks) (fun _ _ => PyProof.Rows.sortedAll_old) (Nat.le_succ _) ⟨hlen, out, ep, vals_of_each eo, he'⟩, rfl, q _ (I.hok.fresh (Nat.le_succ _))⟩
end
/-! ### heaps -/
/-- all that was tracked is as it was, but for d -/
def Kp (d : Addr) (H H' : Hp) : Prop := ∀ b o, H b = some o → b ≠ d → H' b = some o
theorem Kp.refl (d : Addr) (H : Hp) : Kp d H H := fun _ _ h _ => h
theorem Kp.trans {d : Addr} {H H1 H2 : Hp} (a : Kp d H H1) (b : Kp d H1 H2) : Kp d H H2 := fun c o h n => b c o (a c o h n) n
theorem same_upd {H : Hp} {p : Addr} {o : HO} (h : H p = none) : Same H (upd H p o) := fun b x e => by
  rw [upd_ne (ne_of_none e h)]
  exact e
theorem Same.kp {d : Addr} {H H' : Hp} (s : Same H H') : Kp d H H' := fun b o h _ => s b o h
theorem kp_new {d : Addr} {H : Hp} {p : Addr} {o : HO} (h : H p = none) : Kp d H (upd H p o) := Same.kp (same_upd h)
theorem kp_put {d : Addr} {H : Hp} {o : HO} : Kp d H (upd H d o) := fun b x e n => by
  rw [upd_ne n]
  exact e
/-- a place that was free stays apart -/
theorem Kp.free {d : Addr} {H H' : Hp} (e : Kp d H H') {o : HO} (hd : H' d = some o) {l : Addr} (h : H' l = none) : H l = none := by
  cases q : H l with
  | none => rfl
  | some u =>
    by_cases hl : l = d
    · subst hl
      rw [hd] at h
      cases h
    · rw [e l u q hl] at h
      cases h
mutual
theorem dp_keep {K : PySem.W.Frag} {H H' : Hp} (k : ∀ a u, Rd H a u → (∃ xs, u = .lst xs ∨ u = .tup xs) → Rd H' a u) : ∀ (d : PyData) (v : V), Dp K H v d → Dp K H' v d
  | .none, _, h => by cases h; exact .non
  | .bool b, _, h => by cases h; exact .bl b
  | .int i, _, h => by cases h; exact .int i
  | .str x, _, h => by cases h; exact .str x
  | .list ds, _, h => by
    cases h with
    | lst h1 h2 =>
      refine .lst ?_ (dpAll_keep k ds _ h2)
      rcases h1 with h1 | h1
      · exact .inl (k _ _ h1 ⟨_, .inl rfl⟩)
      · exact .inr h1
  | .tuple ds, _, h => by
    cases h with
    | tup h1 h2 =>
      refine .tup ?_ (dpAll_keep k ds _ h2)
      rcases h1 with h1 | h1
      · exact .inl (k _ _ h1 ⟨_, .inr rfl⟩)
      · exact .inr h1
theorem dpAll_keep {K : PySem.W.Frag} {H H' : Hp} (k : ∀ a u, Rd H a u → (∃ xs, u = .lst xs ∨ u = .tup xs) → Rd H' a u) : ∀ (ds : List PyData) (vs : List V), DpAll K H vs ds → DpAll K H' vs ds
  | [], _, h => by cases h; exact .nil
  | d :: ds, _, h => by
    cases h with
    | cons h1 h2 => exact .cons (dp_keep k d _ h1) (dpAll_keep k ds _ h2)
end
/-! ### loops -/
theorem for_enum {K : PySem.W.Frag} {a : Addr} {xs : List V} {g : TG} {tb : TS} {D : Ends} {σ : L2.St} {H : Hp} (Pv : Nat → L2.St → Hp → Prop) (h0 : Pv 0 σ H) (hl : ∀ i σ H, i ≤ xs.length → Pv i σ H → SqL K H a xs)
    (hs : ∀ (i : Nat) (x : V) (σ : L2.St) (H : Hp) (T : Addr), xs[i]? = some x → H T = none → Pv i σ H → g (.ref T) σ (upd H T (.tup [.int (i : Nat), x])) fun σ2 H2 => tb { D with nx := Pv (i + 1), ct := Pv (i + 1), bk := D.nx } σ2 H2) (hd : ∀ σ H, Pv xs.length σ H → D.nx σ H) :
    ∃ W : Nat → Nat → L2.St → Hp → Prop, (∃ m, W 0 m σ H) ∧ ∀ i m σ H, W i m σ H →
      ((Ite K a).stop i H ∧ D.nx σ H) ∨ ((Ite K a).go i H ∧ ∃ N : L2.St → Hp → Prop, (∀ σ' H', N σ' H' → ∃ m', m' < m ∧ W (i + 1) m' σ' H') ∧ ∀ x H', (Ite K a).yld i H x H' → g x σ H' fun σ2 H2 => tb { D with nx := N, ct := N, bk := D.nx } σ2 H2) := by
  refine ⟨fun i m σ H => m = xs.length - i ∧ i ≤ xs.length ∧ Pv i σ H, ⟨xs.length, by simp, Nat.zero_le _, h0⟩, ?_⟩
  rintro i m σ H ⟨rfl, hi, p⟩
  have q := hl i σ H hi p
  by_cases hlt : i < xs.length
  · refine .inr ⟨⟨xs, xs[i], q, by simp [hlt]⟩, Pv (i + 1), fun σ' H' p' => ⟨xs.length - (i + 1), by omega, rfl, hlt, p'⟩, fun x H' y => ?_⟩
    obtain ⟨T, x, rfl, nT, rfl, y⟩ := y
    exact hs i x σ _ T (y xs q) nT p
  · have e : i = xs.length := by omega
    subst e
    exact .inl ⟨⟨xs, q, Nat.le_refl _⟩, hd σ H p⟩
/-- a cut: what is known of the value that is stored -/
theorem asgW {te : TE} {g : TG} {D : Ends} {σ : L2.St} {H : Hp} (W : VK) (h1 : ∀ R : VK, (∀ v H2, W v H2 → R v H2) → te σ H R) (h2 : ∀ v H2, W v H2 → g v σ H2 D.nx) : tAsg te g D σ H := h1 _ h2
theorem asgS {te : TE} {g : TG} {u : TS} {D : Ends} {σ : L2.St} {H : Hp} (W : VK) (h1 : ∀ R : VK, (∀ v H2, W v H2 → R v H2) → te σ H R) (h2 : ∀ v H2, W v H2 → g v σ H2 (u D)) : tSeq (tAsg te g) u D σ H := h1 _ h2
/-- a cut behind a statement -/
theorem seqW {t u : TS} {D : Ends} {σ : L2.St} {H : Hp} (W : L2.St → Hp → Prop) (h1 : ∀ N : L2.St → Hp → Prop, (∀ σ' H', W σ' H' → N σ' H') → t { D with nx := N } σ H) (h2 : ∀ σ' H', W σ' H' → u D σ' H') : tSeq t u D σ H := h1 _ h2
theorem nextS {D : Ends} {σ : L2.St} {H : Hp} (h : D.nx σ H) : tNext D σ H := h
theorem yes_ite {σ : L2.St} {H : Hp} {A B : Hp → Prop} (h : A H) : tYes σ H fun b H3 => if b = true then A H3 else B H3 := (iteT h : if true = true then A H else B H)
/-- a new object: the heap behind it by what is known of it -/
theorem newW {G : VK} {H : Hp} {o : HO} (h : ∀ p H1, H p = none → Same H H1 → H1 p = some o → G (.ref p) H1) : ∀ p, H p = none → G (.ref p) (upd H p o) := fun p hp => h p _ hp (same_upd hp) upd_same
theorem seqT {K : PySem.W.Frag} {H H' : Hp} {a : Addr} {xs : List V} (e : Same H H') (h : SqT K H a xs) : SqT K H' a xs := by
  rcases h with (h | ⟨o, h⟩) | h
  · exact .inl (.inl (e _ _ h))
  · exact .inl (.inr ⟨o, e _ _ h⟩)
  · exact .inr h
end Sh
set_option Elab.async false
set_option linter.all false
set_option maxRecDepth 100000
set_option maxHeartbeats 4000000
namespace Sh
open PySem PySem.Spec PySem.W PyProof.Rows L2 NdefX
/-! ### own exceptions whose __init__ says super().__init__(..) -/
/-- what the written part says of such an __init__ -/
structure SupF (P : Program) (K : Frag) (mg : Str → Option Value) (cc cda D : Addr) (params : Arguments) (scope : Scope) (sn : Str) : Prop where
  head : ∃ ar : Arg, (params.posonlyargs ++ params.args).head? = some ar ∧ ar.arg = sn
  code : ∃ ccl cdd vs ccs file tf, K.lookup cda = some ⟨ccl, cdd, .fields vs, ccs⟩ ∧ vs[2]? = some (.str file tf) ∧ ((P.main.file : Str) == file) = true
  cell : ∃ cl cld csl, K.lookup cc = some ⟨cl, cld, .cell (some (.ref D)), csl⟩
  clsD : ∃ cdD, clsIn K D = some cdD
  ks : scope.names.lookup ("super" : Str) = some .globalImplicit
  kc : scope.names.lookup ("__class__" : Str) = some .free
  ka : scope.names.lookup sn = some .local
  top : (P.main.scope.names.lookup ("super" : Str)).isSome = false
  mgs : mg "super" = none
  opq : nsIn K cStatics "thirdparty.any" = some none
theorem boot_super : bootBuiltins "super" = some (.type "super") := by decide +kernel
theorem call_mw {prog : Program} {w : World} {A : Around} {E : Value → Shared → Prop} {h : Heap} {g : Array GenState} {d : Drawn} {t : Nat} {os : OsState} {nm q : Str} {C N : Addr} {bs bm : List Value} {hdct : Bool} {sn : List Str} {sub : List Value} {ab : Bool} {col : Option Bool} {dd : Option Addr} {k0 k1 k2 k3 k5 : Option Value}
    {u e t0 : Addr} {rest : List Value} {Q : Value → Shared → Prop}
    (hC : h.get? C = some (excClassObj nm q C N bs bm hdct sn sub ab col dd k0 k1 k2 k3 k5 "ValueError.__new__")) (he : h.get? e = some (excObj C t0 none .none)) (hu : h.get? u = some (kxs_mw "ValueError.__init__" e)) (hz : rest.length ≤ sizeLine)
    (hq : ∀ h', (∀ b o, b ≠ e → h.get? b = some o → h'.get? b = some o) → h'.get? e = some (excObj C h.objs.size none .none) → Q .none ⟨h', g, d, t, os⟩) :
    wpAny (model prog w) A (call (.ref u) rest) Q E ⟨h, g, d, t, os⟩ := by
  have FB := F.excBase_ValueError
  refine wpAny_call (codeAny_of_tree ?_)
  show wpAny _ A.in1 (callAny (.ref u) ⟨rest, []⟩) _ _ _
  simp only [callAny]
  refine wpAny_bind (wpAny_load hu ?_)
  simp only [kxs_mw, show (Value.type "method-wrapper" == Value.type "method" || Value.type "method-wrapper" == Value.type "builtin_function_or_method" || Value.type "method-wrapper" == Value.type "method-wrapper") = true by decide, if_true]
  refine KFB.if_so (by decide) ?_
  refine wpAny_bind (check_bound_init FB.toExcCallFacts hC he rfl ?_)
  refine wpAny_bind (wpAny_pure (wpAny_pure ?_))
  refine ⟨plainId_quiet FB.init.plain _, codeAny_builtin FB.initEntry ?_⟩
  exact exc_init_tree (cls := .ref C) (t0 := t0) (dv := none) (c2 := .none) (c3 := .none) (b4 := .bool false) he hz fun h' k e' _ => hq h' k e'
/-- what is asked of the class of the exception that is made -/
structure SupC (K : Frag) (C D : Addr) : Prop where
  ox : OexC K C
  mro : mroIn K C (.ref D) = some true
  sup : ks_superIn K C D "__init__" = some (some (.builtin "ValueError.__init__"))
  sub : subIn K (.ref C) (.type "ValueError") = some true
section
variable {CX : CXT} {P : Program} {w : World} {K : Frag} {mg : Str → Option Value} {base : Heap} {k : Nat} {f cc cda D : Addr} {name qual : Str} {params : Arguments} {body rest : List Stmt} {scope : Scope} {dV kV doc pm oc ct : Value} {an od : Option Addr} {osl : Array (Option Value)} {N ps : List Str} {sp : Sp} {sn : Str}
  {p0 p1 p2 p3 p4 : Pos} {e : Expr} {es : List Expr}
theorem fn_super (lk : K.lookup f = some ⟨oc, od, .func (fnX name qual params body scope [("__class__", cc)] dV kV doc pm an (.ref cda) ct), osl⟩) (hcd : codeIn K (.ref cda) qual = true)
    (S : NScope N ps ["__class__"] scope) (hN0 : N[0]? = some sn) (SF : SupF P K mg cc cda D params scope sn)
    (hb : body = .Expr (.Call (.Attribute (.Call (.Name "super" p0) [] [] p1) "__init__" p2) (e :: es) [] p3) p4 :: rest)
    (len : ∀ vs H Q E, sp vs H Q E → vs.length = ps.length)
    (hbody : ∀ (A : Around) (outer : List Env) (s : Shared) (H : Hp) (vs : List V) (Q : VK) (E : XK), Room k (A.deeper (envF ⟨name, qual, params, body, scope, [("__class__", cc)], cda⟩ f s.heap.objs.size)) → sp vs H Q E →
      ∃ (a C : Addr) (ta : TA) (t : TS), (startF N vs [some (.ref D)])[0]? = some (some (.ref a)) ∧ H a = some (exo a C none) ∧ SupC K C D ∧
        PA (ncx CX P w K mg base N ⟨name, qual, params, body, scope, [("__class__", cc)], cda⟩ f A outer s H E) (e :: es) ta ∧ PSs (ncx CX P w K mg base N ⟨name, qual, params, body, scope, [("__class__", cc)], cda⟩ f A outer s H E) rest t ∧
        ta (startF N vs [some (.ref D)]) H (fun ws H1 => ws.length ≤ 1000 ∧ H1 a = some (exo a C none) ∧ t { nx := fun _ H' => Q .non H', rt := Q } (startF N vs [some (.ref D)]) H1))
    (hc : ∀ env : Env, ∃ pl : Sem Bool, eval (.Call (.Attribute (.Call (.Name "super" p0) [] [] p1) "__init__" p2) (e :: es) [] p3) env = (do
      let ov ← attributeBase (.Call (.Name "super" p0) [] [] p1) "__init__" env (eval (.Call (.Name "super" p0) [] [] p1) env)
      standAt p2.atName
      let (f, first) ← holding [ov] (getMethod ov "__init__" pl)
      callWith p3 f first (backTo p3 (starEach (e :: es) env)) []) := by exact fun env => ⟨_, rfl⟩)
    (hsw : ∀ env : Env, swapsWith (.Call (.Attribute (.Call (.Name "super" p0) [] [] p1) "__init__" p2) (e :: es) [] p3) none p4.line env = pure false := by intro _; rfl)
    (he : ∀ env, starEach (e :: es) env = (false, eval e env) :: starEach es env := by intro _; rfl) (hpl : ∀ env, (backTo p3 (starEach es env)).any (·.1) = false := by intro _; rfl) :
    FnOk P w K mg base CX (k + 1) f (fnX name qual params body scope [("__class__", cc)] dV kV doc pm an (.ref cda) ct) ps sp := by
  refine ⟨len, fun A outer s H args us vs Q E hr e0 hbi r hsp => ?_⟩
  have hl := len _ _ _ _ hsp
  have KX : K.In s.heap := e0.mod.kin.keeps fun b o z => (e0.bs b o z).1
  have lim : s.heap.NoLimit := e0.mod.nolimit.keeps fun b o z => (e0.bs b o z).1
  obtain ⟨a, C, ta, t, h0, ea, SC, hPA, hPS, hq⟩ := hbody A outer s H vs Q E (hr.deeper _) hsp
  obtain ⟨ar, hhead, har⟩ := SF.head
  obtain ⟨ccl, cdd, vsC, ccs, file, tf, hcode, hvs, hfile⟩ := SF.code
  obtain ⟨ccl', cld, csl, hcell⟩ := SF.cell
  obtain ⟨cdD, hD⟩ := SF.clsD
  have hCA : CellsAt [("__class__", cc)] ["__class__"] [some (V.ref D)] s.heap H := by
    have hn : H cc = none := (e0.bs cc _ (e0.mod.kin _ _ hcell)).2
    have hc : s.heap.IsCell cc (some (.ref D)) := ⟨_, KX _ _ hcell, rfl⟩
    refine ⟨rfl, fun y c z => ?_, fun x y c z1 z2 => ?_, fun i y z => ?_⟩
    · have : c = cc := by
        simp only [List.lookup] at z
        split at z
        · cases z; rfl
        · cases z
      subst this
      exact ⟨hn, _, hc⟩
    · simp only [List.lookup] at z1 z2
      split at z1
      · rename_i q1
        split at z2
        · rename_i q2
          rw [beq_iff_eq] at q1 q2
          rw [q1, q2]
        · cases z2
      · cases z1
    · match i, z with
      | 0, z =>
        cases z
        refine ⟨cc, rfl, fun v z => ?_⟩
        cases z
        exact ⟨_, rfl, hc⟩
      | i + 1, z => simp at z
  refine ks_codeAny_call_defAt hr.depth (KX _ _ lk) rfl lim (codeRec_of KX hcd) rfl hbi S.nocell (fun ⟨n, _⟩ hy => S.par n (List.of_mem_zip hy).1) (fun h₁ hns hk => ?_) S.co S.gen S.kind
  have I : Inv (ncx CX P w K mg base N ⟨name, qual, params, body, scope, [("__class__", cc)], cda⟩ f A outer s H E) [] (startF N vs [some (.ref D)]) H { s with heap := h₁, toks := s.toks + (ps.zip us).length } :=
    inv_startN (F := ⟨name, qual, params, body, scope, [("__class__", cc)], cda⟩) S hr.hd e0 hl r hCA hns hk
  have Ih : K.In h₁ := KX.keeps hk
  subst hb
  have hC' : ∃ cd, clsIn K C = some cd := by
    have := SC.sup
    unfold ks_superIn at this
    cases hc : clsIn K C with
    | none => rw [hc] at this; cases this
    | some cd => exact ⟨cd, rfl⟩
  obtain ⟨cd, hcC⟩ := hC'
  obtain ⟨t1, hoe⟩ := exo_at I.hok ea
  have IA : InstAt h₁ a { cls := .ref C, dict := none, data := .fields #[.ref t1, .none, .none, .none, .bool false, .none] } C none := ⟨hoe, rfl, rfl, trivial⟩
  obtain ⟨oD, hD1, hD2⟩ : ∃ oD, h₁.get? D = some oD ∧ oD.data = .cls cdD := by
    unfold clsIn at hD
    split at hD
    · rename_i c d cd' sl ho
      cases hD
      exact ⟨_, Ih _ _ ho, rfl⟩
    · cases hD
  obtain ⟨pl, hpe⟩ := hc (callEnv (fnX name qual params (.Expr (.Call (.Attribute (.Call (.Name "super" p0) [] [] p1) "__init__" p2) (e :: es) [] p3) p4 :: rest) scope [("__class__", cc)] dV kV doc pm an (.ref cda) ct) s.heap.objs.size f)
  refine ks_wpAt_execs_cons (ks_wpAt_Expr_any (ks_wpAt_MethodCall (pl := pl) ?_ hpe) I.quiet (hsw _))
  refine ks_wpAt_super_base (fd := fnX name qual params _ scope [("__class__", cc)] dV kV doc pm an (.ref cda) ct) (ar := ar) SF.ks SF.kc (by decide) rfl (Ih _ _ lk) rfl hhead rfl (Ih _ _ hcode) rfl hvs hfile SF.top ?_
  obtain ⟨mb, hb1, hb2⟩ := I.mod.blt
  refine ks_loadName_global S.kind SF.ks (Calls.loadGlobal_builtin (mg := mg) (mb := mb) (I.mod.glob.keeps I.bk) SF.mgs (hb1.keeps I.bk) ((hb2 "super" (by decide)).trans boot_super) ⟨rfl, ?_⟩)
  refine wpAny_loadName_free S.kind SF.kc rfl ⟨_, Ih _ _ hcell, rfl⟩ ?_
  obtain ⟨m, hm, hloc⟩ := I.loc
  obtain ⟨u, ru, hlk⟩ := hloc 0 sn (.ref a) hN0 h0 (.inl SF.ka)
  obtain rfl : u = Value.ref a := ru
  have hmv : m ar.arg = some (.ref a) := by
    rw [har]
    rcases hlk with ⟨_, z⟩ | ⟨z, _⟩
    · exact z
    · rcases z with z | z <;> (exfalso; have y := SF.ka; rw [show (ncx CX P w K mg base N _ f A outer s H E).env.kindOf sn = scope.names.lookup sn from rfl, y] at z; cases z)
  refine wpAny_loadName_local S.kind (har ▸ SF.ka) hm hmv ?_
  refine ks_wpAny_isType_cls hD1 hD2 ⟨rfl, ?_⟩
  refine ks_wpAny_call_super hD1 hD2 IA.at_ IA.cls (fun c e => by cases e) (looks_mroIn Ih SC.mro) (fun h2 hso k2 => ?_)
  have Ih2 : K.In h2 := Ih.keeps k2
  have IA2 : InstAt h2 a { cls := .ref C, dict := none, data := .fields #[.ref t1, .none, .none, .none, .bool false, .none] } C none := ⟨k2 _ _ hoe, rfl, rfl, trivial⟩
  have hsup := SC.sup
  unfold ks_superIn at hsup
  rw [hcC] at hsup
  refine kxs_getMethod kxs_ValueError hso (looks_opaque Ih2 SF.opq) (l₀ := cd.mro) (fun A Q E s k q => wpAny_bind ((looks_clsIn Ih2 hcC) A _ E s k (wpAny_pure q))) rfl Ih2 hsup (IA2.type.andThen (looks_subIn Ih2 SC.sub)) (ks_ne Ih2 IA2 hcC) (by decide) ?_
  have hlt : h₁.objs.size < h2.objs.size := Heap.lt_size hso
  have I2 : Inv (ncx CX P w K mg base N ⟨name, qual, params, _, scope, [("__class__", cc)], cda⟩ f A outer s H E) [] (startF N vs [some (.ref D)]) H ⟨h2.push (kxs_mw "ValueError.__init__" a), s.gens, s.drawn, s.toks + (ps.zip us).length + 1, s.os⟩ :=
    I.kept (h' := h2.push (kxs_mw "ValueError.__init__" a)) (t' := s.toks + (ps.zip us).length + 1) fun b o z => Heap.get?_push_of_some _ (k2 b o z)
  have I3 := I2.pins_of (pins' := [(h2.objs.size, kxs_mw "ValueError.__init__" a)]) (fun p hp => by
    rw [List.mem_singleton.mp hp]
    exact ⟨Heap.get?_push_at rfl rfl, I.hok.fresh (Nat.le_of_lt hlt), Nat.ne_of_gt (Nat.lt_trans I.lt hlt), I.nofs (Nat.le_of_lt hlt), fun v z => by cases z⟩)
  have hstar := he (envF ⟨name, qual, params, .Expr (.Call (.Attribute (.Call (.Name "super" p0) [] [] p1) "__init__" p2) (e :: es) [] p3) p4 :: rest, scope, [("__class__", cc)], cda⟩ f s.heap.objs.size)
  have hplain := hpl (envF ⟨name, qual, params, .Expr (.Call (.Attribute (.Call (.Name "super" p0) [] [] p1) "__init__" p2) (e :: es) [] p3) p4 :: rest, scope, [("__class__", cc)], cda⟩ f s.heap.objs.size)
  have key := hPA.run p3 [(h2.objs.size, kxs_mw "ValueError.__init__" a)] _ _ H _ I3 hq
  show wpAny _ _ (callWith p3 (.ref h2.objs.size) [] (backTo p3 (starEach (e :: es) (envF ⟨name, qual, params, .Expr (.Call (.Attribute (.Call (.Name "super" p0) [] [] p1) "__init__" p2) (e :: es) [] p3) p4 :: rest, scope, [("__class__", cc)], cda⟩ f s.heap.objs.size))) []) _ _ _
  change wpAny _ _ (spliced (backTo p3 (starEach (e :: es) (envF ⟨name, qual, params, .Expr (.Call (.Attribute (.Call (.Name "super" p0) [] [] p1) "__init__" p2) (e :: es) [] p3) p4 :: rest, scope, [("__class__", cc)], cda⟩ f s.heap.objs.size)))) _ _ _ at key
  rw [hstar] at key ⊢
  refine kxs_callWith (i := "ValueError.__init__") (x := a) (by show (false || (backTo p3 (starEach es _)).any (·.1)) = false; rw [hplain]; rfl) (Calls.evalArgs_plain ?_)
  refine wpAny_mono key (fun us' s1 hv => ?_) fun _ _ z => z
  obtain ⟨ws, H1, I1, r1, hz, ea1, q1⟩ := hv
  refine ⟨(I1.pin _ (List.mem_append_right _ (List.mem_singleton.mpr rfl))).1, ?_⟩
  have hpin := (I1.pin _ (List.mem_append_right _ (List.mem_singleton.mpr rfl))).1
  obtain ⟨nm, qn, NN, bs, bm, sn', sub, ab, col, dd, k0, k1, k2', k3, k5, hCl, hbm⟩ := SC.ox.cls
  obtain ⟨t2, hoe2⟩ := exo_at I1.hok ea1
  obtain ⟨hp, g1, d1, tk1, os1⟩ := s1
  refine call_mw (I1.kIn _ _ hCl) hoe2 hpin (by show us'.length ≤ sizeLine; rw [← Paired.length r1, sizeLine_eq]; omega) fun h' k' e' => ?_
  have J := I1.write (t' := tk1) (x := a) (e := a) (o := exo a C none) (by rw [ea1]; exact True.intro) (.inl rfl) k' ⟨_, e'⟩ (exo_ok e')
  have eu : upd H1 a (exo a C none) = H1 := by
    funext b
    by_cases hb : b = a
    · rw [hb, upd_same, ea1]
    · rw [upd_ne hb]
  rw [eu] at J
  have J0 := J.pins_of (pins' := []) (fun p hp => by cases hp)
  refine wpAt_of_wpAny (wpAny_mono (hPS.run [] _ _ H1 _ J0 q1) (fun fl s' hs => ?_) fun e s' hs => hs)
  have fin : ∀ {σ' : L2.St} {H' : Hp} {v : V} {u : Value}, Inv (ncx CX P w K mg base N ⟨name, qual, params, .Expr (.Call (.Attribute (.Call (.Name "super" p0) [] [] p1) "__init__" p2) (e :: es) [] p3) p4 :: rest, scope, [("__class__", cc)], cda⟩ f A outer s H E) [] σ' H' s' → L2.RelV v u → Q v H' → CE outer P w H s Q u s' :=
    fun {σ' H' v u} J rv q => ⟨v, H', J.os, J.bare, J.base, J.hok, rv, q⟩
  cases fl with
  | ret u =>
    obtain ⟨v, σ', H', J, rv, q⟩ := hs
    exact fin J rv q
  | next =>
    obtain ⟨σ', H', J, q⟩ := hs
    exact fin (v := V.non) (u := Value.none) J rfl q
  | brk =>
    obtain ⟨_, _, _, q⟩ := hs
    exact False.elim q
  | cont =>
    obtain ⟨_, _, _, q⟩ := hs
    exact False.elim q
end
end Sh
set_option Elab.async false
set_option linter.all false
set_option maxRecDepth 100000
set_option maxHeartbeats 4000000
namespace Sh
open PySem PySem.Spec PySem.W PyProof.Rows L2
/-! ### own exceptions as values -/
/-- the class's facts that a reader of its instances asks -/
structure ExR (K : Frag) (C : Addr) : Prop where
  ox : OexC K C
  ga : findIn K (.ref C) "__getattribute__" = some (some (.builtin "BaseException.__getattribute__"))
  gg : findIn K (.ref C) "__getattr__" = some none
  hd : hasDictIn K C = true
  cl : findIn K (.ref C) "__class__" = some (some (.builtin "object.__class__"))
  ob : mroIn K C (.type "object") = some true
theorem ExR.isCls {K : Frag} {C : Addr} (R : ExR K C) : (clsIn K C).isSome = true := by
  have h := R.hd
  unfold hasDictIn at h
  cases q : clsIn K C with
  | none => rw [q] at h; cases h
  | some cd => rfl
/-- an exception's object is an instance of its class -/
theorem exo_inst {P : Program} {w : World} {H : Hp} {h : Heap} {a C : Addr} {d : Option Addr} {fs : List (Str × V)} (hok : HOk P w H h) (ea : H a = some (exo a C d)) (ed : ∀ dx, d = some dx → ∃ fs, H dx = some (exd dx fs)) : ∃ ox od, InstAt h a ox C od ∧ (d = none → od = none) := by
  obtain ⟨t1, ho⟩ := exo_at hok ea
  cases d with
  | none => exact ⟨_, none, ⟨ho, rfl, rfl, trivial⟩, fun _ => rfl⟩
  | some dx =>
    obtain ⟨fs, e⟩ := ed dx rfl
    obtain ⟨mA, hns, _⟩ := exd_at hok e
    obtain ⟨od, h1, _⟩ := lookIn_ns hns
    exact ⟨_, some od, ⟨ho, rfl, rfl, h1⟩, fun z => by cases z⟩
section
variable {X : Cx}
/-- e.f of an exception that is held -/
def tXGet (K : Frag) (f : Str) (te : TE) : TE := fun σ H Q => te σ H fun x H1 => ∃ (a C dx : Addr) (fs : List (Str × V)) (v : V), x = .ref a ∧ ExR K C ∧ findIn K (.ref C) f = some none ∧ H1 a = some (exo a C (some dx)) ∧ H1 dx = some (exd dx fs) ∧ fs.lookup f = some v ∧ Q v H1
theorem pe_xget {e : Expr} {te : TE} {f : Str} {pos : Pos} (he : PE X e te) (hb : attributeBase e f X.env (eval e X.env) = eval e X.env := by rfl) : PE X (.Attribute e f pos) (tXGet X.K f te) := by
  refine ⟨fun pins s σ H Q I h => attr_of hb (thn (he.run pins s σ H _ I h) fun u s1 hh => ?_)⟩
  obtain ⟨x, H1, I1, rx, a, C, dx, fs, v, rfl, R, hno, ea, ed, hl, q⟩ := hh
  obtain rfl : u = Value.ref a := rx
  obtain ⟨t1, ho⟩ := exo_at I1.hok ea
  obtain ⟨mA, hns, hr⟩ := exd_at I1.hok ed
  obtain ⟨od, hod, hlk⟩ := lookIn_ns hns
  obtain ⟨u, hu, ru⟩ := RelO.some_of (v := v) (o := mA f) (by rw [← hl]; exact hr f)
  have J : InstAt s1.heap a _ C (some od) := ⟨ho, rfl, rfl, hod⟩
  exact HandSPX.exc_get I1.kIn J R.ga R.gg R.ox.exC (findObj_own R.hd hno rfl (by rw [hlk, hu])) (handed_of ru) ⟨v, H1, I1.tok _, ru, q⟩
/-- isinstance(e, C) -/
def rIsX (K : Frag) : List V → Hp → VK → Prop := fun xs H Q => ∃ (a C : Addr) (d : Option Addr) (c : V) (u : Value) (b : Bool), xs = [.ref a, c] ∧ ClsV c u ∧ ExR K C ∧ H a = some (exo a C d) ∧ (∀ dx, d = some dx → ∃ fs, H dx = some (exd dx fs)) ∧ kitOne K (.ref C) u = some b ∧ Q (.bl b) H
theorem call_isX (hn : specialIn X.K (.builtin "object.__class__") "__get__" = some (some (.builtin "getset_descriptor.__get__"))) (htk : takesIn X.K (.builtin "object.__class__") = some true) : CallR X (.builtin "isinstance") (rIsX X.K) := by
  intro pins s σ H xs us Q I r h
  obtain ⟨a, C, d, c, u, b, rfl, k, R, ea, ed, e, q⟩ := h
  obtain ⟨u1, u2, rfl, r1, r2⟩ := vals2 r
  obtain rfl := k.eq r2
  obtain rfl : u1 = Value.ref a := r1
  obtain ⟨ox, od, J, _⟩ := exo_inst (fs := []) I.hok ea ed
  exact kia_one (kitx_exc R.isCls R.ga R.gg R.ox.exC R.cl hn htk R.ob) I.kIn J e (fun z => nomatch z) fun tk => ⟨.bl b, H, I.tok tk, rfl, q⟩
end
/-! ### C(e, .., k = v, ..): a new exception, as a value -/
section
variable {prog : Program} {w : World} {M : Model} {A : Around} {E : Value → Shared → Prop} {R : Result → Shared → Prop} {hh : Heap} {gs : Array GenState} {dr : Drawn} {tk : Nat} {os : OsState}
variable {nm q : Str} {C N : Addr} {bs bm : List Value} {hdct : Bool} {sn : List Str} {sub : List Value} {ab : Bool} {col : Option Bool} {dd : Option Addr} {k0 k1 k2 k3 k5 : Option Value} {kw : List (Str × Value)} {rest : List Value}
theorem check_newK (hT : HandSPX.refsVE bm = true) {Q : Unit → Shared → Prop} (hC : hh.get? C = some (excClassObj nm q C N bs bm hdct sn sub ab col dd k0 k1 k2 k3 k5 "ValueError.__new__")) (hq : Q () ⟨hh, gs, dr, tk, os⟩) : wpAny M A (checkBuiltinCall "ValueError.__new__" ⟨.ref C :: rest, kw⟩) Q E ⟨hh, gs, dr, tk, os⟩ := by
  have FB := F.excBase_ValueError
  have hcont : (Value.ref C :: bm).contains (.type "ValueError") = true := by rw [List.contains_cons, HandSPX.refsVE_contains "ValueError" bm hT, FB.hasB, Bool.or_true]
  have hstar := FB.noStar
  simp only [checkBuiltinCall, FB.newKind, FB.newSplit, FB.newRow]
  repeat (first | refine wpAny_loadPart_at hC ?_ | (refine wpAny_isSubtype_exc hC ?_; rw [hcont]) | refine wpAny_staticBase_exc hC ?_ | refine wpAny_madeBy_exc hC ?_ | simp only [bne_self_eq_false, Bool.false_eq_true, if_false] | wp_step)
  exact hq
theorem new_K (hT : HandSPX.refsVE bm = true) (hC : hh.get? C = some (excClassObj nm q C N bs bm hdct sn sub ab col dd k0 k1 k2 k3 k5 "ValueError.__new__")) (hz : rest.length ≤ sizeLine)
    (hq : R (.ok (.ret (.ref (hh.objs.size + 1)))) ⟨(hh.push (kdv_tup rest)).push (HandSPX.excO C hh.objs.size), gs, dr, tk, os⟩) : codeAny (model prog w) A (.builtin "ValueError.__new__" ⟨.ref C :: rest, kw⟩) R ⟨hh, gs, dr, tk, os⟩ := by
  have FB := F.excBase_ValueError
  have hends := FB.ends
  have hcB : (Value.ref C :: bm).contains (.type "ValueError") = true := by rw [List.contains_cons, HandSPX.refsVE_contains "ValueError" bm hT, FB.hasB, Bool.or_true]
  have hcA : (Value.ref C :: bm).contains (.type "AttributeError") = false := by rw [List.contains_cons, HandSPX.refsVE_contains "AttributeError" bm hT, FB.noAttr]; rfl
  have hcN : (Value.ref C :: bm).contains (.type "NameError") = false := by rw [List.contains_cons, HandSPX.refsVE_contains "NameError" bm hT, FB.noName]; rfl
  refine codeAny_builtinAt FB.entry ?_
  unfold Builtin.«BaseException.__new__»
  refine PySem.wpAt_bind ?_
  show PySem.wpAt _ _ _ (stack >>= _) _ _ _
  refine PySem.wpAt_bind (PySem.wpAt_stack fun p below => PySem.wpAt_of_wpAny ?_)
  wp_walk
  refine PySem.wpAt_of_wpAny ?_
  rw [FB.owner]
  repeat (first | with_reducible refine wpAny_madeHere_exc FB.canon hC ?_ | with_reducible refine wpAny_loadPart_at hC ?_ | (with_reducible refine wpAny_isSubtype_exc hC ?_; first | rw [hcB] | rw [hcA] | rw [hcN]) | wp_step)
  show R _ _
  rw [Heap.size_push]
  exact hq
theorem type_callK (hT : HandSPX.refsVE bm = true) {fI : Addr} {Q : Fin → Shared → Prop} (hC : hh.get? C = some (excClassObj nm q C N bs bm hdct sn sub ab col dd k0 k1 k2 k3 k5 "ValueError.__new__"))
    (hi : Looks (model prog w) hh (typeLookup (.ref C) "__init__") (some (.ref fI))) (hb : ∀ self, Looks (model prog w) hh (bindSpecial (.ref fI) self) (.ref fI, [self])) (hz : rest.length ≤ sizeLine)
    (hq : codeAny (model prog w) A (.call (.ref fI) ⟨.ref (hh.objs.size + 1) :: rest, kw⟩)
      (fun r s' => match r with | .ok (.ret v) => v = .none ∧ Q (.done (.ret (.ref (hh.objs.size + 1)))) s' | .ok _ => False | .error e => E e s') ⟨(hh.push (kdv_tup rest)).push (HandSPX.excO C hh.objs.size), gs, dr, tk, os⟩) :
    wpAny (model prog w) A (Builtin.«type.__call__» ⟨.ref C :: rest, kw⟩) Q E ⟨hh, gs, dr, tk, os⟩ := by
  have FB := F.excBase_ValueError
  repeat (first | with_reducible refine wpAny_loadPart_at hC ?_ | with_reducible refine wpAny_madeBy_exc hC ?_ | wp_step)
  refine codeAny_call_builtin_code (Code.quiet_builtin _ FB.quiet) (check_newK hT hC ?_)
  refine new_K hT hC hz ?_
  show wpAny _ _ _ _ _ _
  have k : ∀ b o, hh.get? b = some o → ((hh.push (kdv_tup rest)).push (HandSPX.excO C hh.objs.size)).get? b = some o := fun b o e => Heap.get?_push_of_some _ (Heap.get?_push_of_some _ e)
  have hC₁ := k _ _ hC
  have hget : ((hh.push (kdv_tup rest)).push (HandSPX.excO C hh.objs.size)).get? (hh.objs.size + 1) = some (HandSPX.excO C hh.objs.size) := by heap_get
  have hcC : (Value.ref C :: bm).contains (.ref C) = true := by simp
  have i1 := hi.keeps k
  have b1 := (hb (.ref (hh.objs.size + 1))).keeps k
  unfold isInstance
  repeat (first | with_reducible refine wpAny_loadPart_at hget ?_ | (with_reducible refine wpAny_isSubtype_exc hC₁ ?_; rw [hcC]) | wp_step)
  show wpAny _ _ (typeLookup (.ref C) _) _ _ _
  refine i1.at (wpAny_holding (wpAny_bind (b1.at (wpAny_bind (wpAny_call (codeAny_mono hq fun r s' z => ?_))))))
  rcases r with e | (v | _ | _ | _) <;> first | exact z | exact z.elim | skip
  obtain ⟨rfl, z⟩ := z
  first | exact wpAny_pure (wpAny_pure z) | (wp_walk; exact z)
theorem check_tcK {Q : Unit → Shared → Prop} (hC : hh.get? C = some (excClassObj nm q C N bs bm hdct sn sub ab col dd k0 k1 k2 k3 k5 "ValueError.__new__")) (hq : Q () ⟨hh, gs, dr, tk, os⟩) : wpAny M A (checkBuiltinCall "type.__call__" ⟨.ref C :: rest, kw⟩) Q E ⟨hh, gs, dr, tk, os⟩ := by
  have f3 := tc_sub
  have hT : (⟨hh, gs, dr, tk, os⟩ : Shared).TypeIs (.ref C) "type" := ⟨_, hC, rfl⟩
  simp only [checkBuiltinCall, tc_kind, tc_split]
  repeat (any_goals (first | assumption | with_reducible refine wpAny_loadPart_at hC ?_ | with_reducible refine wpAny_onRaise ?_ | with_reducible refine wpAny_map ?_ | wp_step))
theorem call_K (hT : HandSPX.refsVE bm = true) {fI : Addr} (hC : hh.get? C = some (excClassObj nm q C N bs bm hdct sn sub ab col dd k0 k1 k2 k3 k5 "ValueError.__new__"))
    (hi : Looks (model prog w) hh (typeLookup (.ref C) "__init__") (some (.ref fI))) (hb : ∀ self, Looks (model prog w) hh (bindSpecial (.ref fI) self) (.ref fI, [self])) (hz : rest.length ≤ sizeLine)
    (hq : codeAny (model prog w) (A.under (.builtin "type.__call__" ⟨.ref C :: rest, kw⟩)) (.call (.ref fI) ⟨.ref (hh.objs.size + 1) :: rest, kw⟩) (InitBack (hh.objs.size + 1) R) ⟨(hh.push (kdv_tup rest)).push (HandSPX.excO C hh.objs.size), gs, dr, tk, os⟩) :
    codeAny (model prog w) A (.call (.ref C) ⟨rest, kw⟩) R ⟨hh, gs, dr, tk, os⟩ := by
  have f1 := tc_lookup
  have f2 := tc_bind (.ref C)
  have hTy : (⟨hh, gs, dr, tk, os⟩ : Shared).TypeIs (.ref C) "type" := ⟨_, hC, rfl⟩
  refine codeAny_of_tree ?_
  show wpAny _ _ (callAny (.ref C) _) _ _ _
  repeat (any_goals (first | assumption | with_reducible refine wpAny_loadPart_at hC ?_ | wp_step))
  refine ⟨rfl, ?_⟩
  refine codeAny_call_builtin_at (Code.quiet_builtin _ (by decide +kernel)) entry_typeCall (check_tcK hC (type_callK hT hC hi hb hz ?_))
  refine codeAny_mono hq fun r s' z => ?_
  rcases r with e | (v | _ | _ | _) <;> exact z
end
/-- what a maker of its instances asks -/
structure ExM (K : Frag) (C fI : Addr) : Prop where
  ox : OexC K C
  iC : findIn K (.ref C) "__init__" = some (some (.ref fI))
  tI : typeIn K (.ref fI) = some (.type "function")
section
variable {X : Cx} {CX : CXT} {k n : Nat} {fI C : Addr} {fd : FuncData} {ps ks : List Str} {sp : Sp} {x : Str} {p pos : Pos} {e : Expr} {es : List Expr} {kws : List Keyword} {t tk : TA} {g : List Value → List Value → List Value} {gV : List V → List V → List V}
theorem run_oex {pins : List (Addr × Obj)} {σ : L2.St} {H : Hp} {s : Shared} {Q : VK} {us ws : List Value} {vs zs : List V} (T : ExM X.K C fI) (F1 : FnOk X.prog X.w X.K X.mg X.base CX k fI fd ps sp) (hr : Room (k + 1) X.A) (hb : KBn X.K fd ps (n + 1) ks g gV)
    (hx : Passes CX X (fun _ _ _ => False)) (I : Inv X pins σ H s) (r : Vals vs us) (rz : Vals zs ws) (l1 : vs.length = n) (l2 : zs.length = ks.length) (hn : n ≤ 1000)
    (h : ∀ a, H a = none → sp (gV (.ref a :: vs) zs) (upd H a (exo a C none)) (fun v H2 => v = .non ∧ Q (.ref a) H2) (fun _ _ _ => False)) :
    wpAny (model X.prog X.w) X.A (call (.ref C) us (ks.zip ws)) (EP X pins σ Q) X.xe s := by
  obtain ⟨nm, q, N, bs, bm, sn, sub, ab, col, dd, k0, k1, k2, k3, k5, hC, hbm⟩ := T.ox.cls
  obtain ⟨hp, gs, dr, tk, os⟩ := s
  have hsz : hp.objs.size ≤ hp.objs.size + 1 := Nat.le_succ _
  have hq := h (hp.objs.size + 1) (I.hok.fresh hsz)
  have kk : ∀ b o, hp.get? b = some o → ((hp.push (kdv_tup us)).push (HandSPX.excO C hp.objs.size)).get? b = some o := fun b o e => Heap.get?_push_of_some _ (Heap.get?_push_of_some _ e)
  have hget : ((hp.push (kdv_tup us)).push (HandSPX.excO C hp.objs.size)).get? (hp.objs.size + 1) = some (HandSPX.excO C hp.objs.size) := by heap_get
  have I2 : Inv X pins σ (upd H (hp.objs.size + 1) (exo (hp.objs.size + 1) C none)) ⟨(hp.push (kdv_tup us)).push (HandSPX.excO C hp.objs.size), gs, dr, tk, os⟩ :=
    I.laid (t' := tk) (a := hp.objs.size + 1) (o := exo (hp.objs.size + 1) C none) (h' := (hp.push (kdv_tup us)).push (HandSPX.excO C hp.objs.size)) kk hsz (exo_ok hget)
  have r1 : Vals (V.ref (hp.objs.size + 1) :: vs) (Value.ref (hp.objs.size + 1) :: us) := .cons rfl r
  have r2 := hb.rel r1 rz
  have e1 : (Value.ref (hp.objs.size + 1) :: us).length = n + 1 := r1.length.symm.trans (congrArg Nat.succ l1)
  have e2 : ws.length = ks.length := rz.length.symm.trans l2
  have hus : us.length ≤ sizeLine := by
    rw [← Paired.length r, l1, sizeLine_eq]
    omega
  refine wpAny_call (call_K hbm (I.kIn _ _ hC) (looks_findIn I.kIn T.iC) (fun self => bind_fn I.kIn self T.tI) hus
    (codeAny_mono (F1.run _ X.stack _ _ ⟨Value.ref (hp.objs.size + 1) :: us, ks.zip ws⟩ (g (Value.ref (hp.objs.size + 1) :: us) ws) _ _ (fun _ _ _ => False) (hr.make C us (ks.zip ws)) (I2.env0.make C us (ks.zip ws)) (hb.to _ (Value.ref (hp.objs.size + 1) :: us) ws I2.kIn e1 e2) r2 hq) fun r s' hq' => ?_))
  cases r with
  | error er => exact hx pins σ _ _ er s' I2 hq'
  | ok fl =>
    cases fl with
    | ret u =>
      obtain ⟨v, H', I3, rv, ev, q3⟩ := I2.after hq'
      subst ev
      exact ⟨rv, ⟨V.ref (hp.objs.size + 1), H', I3, rfl, q3⟩⟩
    | next => exact False.elim hq'
    | brk => exact False.elim hq'
    | cont => exact False.elim hq'
/-- C(e, .., k = v, ..) -/
def tOex (C : Addr) (n m : Nat) (sp : Sp) (gV : List V → List V → List V) (t tk : TA) : TE := fun σ H Q => t σ H fun vs H1 => tk σ H1 fun zs H2 => vs.length = n ∧ zs.length = m ∧
  ∀ a, H2 a = none → sp (gV (.ref a :: vs) zs) (upd H2 a (exo a C none)) (fun v H3 => v = .non ∧ Q (.ref a) H3) (fun _ _ _ => False)
theorem pe_oexN (T : ExM X.K C fI) (F1 : FnOk X.prog X.w X.K X.mg X.base CX k fI fd ps sp) (hr : Room (k + 1) X.A) (hg : Gl X x) (hm : X.mg x = some (.ref C)) (hb : KBn X.K fd ps (n + 1) ks g gV) (hx : Passes CX X (fun _ _ _ => False))
    (ha : PA X (e :: es) t) (hkw : PK X kws tk) (hn : n ≤ 1000 := by decide) (hall : (backToKw pos (keywordEach kws X.env)).all (·.1.isSome) = true := by rfl) (hks : (backToKw pos (keywordEach kws X.env)).filterMap (·.1) = ks := by rfl)
    (hdb : (x == ("__debug__" : Str)) = false := by decide) (he : starEach (e :: es) X.env = (false, eval e X.env) :: starEach es X.env := by rfl)
    (hpl : ((backTo pos (starEach (e :: es) X.env)).any (·.1) || (backToKw pos (keywordEach kws X.env)).any (·.1.isNone)) = false := by rfl) :
    PE X (.Call (.Name x p) (e :: es) kws pos) (tOex C n ks.length sp gV t tk) := by
  refine ⟨fun pins s σ H Q I h => wpAny_Call_Name_kw (ld_glob I hg hm ?_ hdb)⟩
  refine callWith_KW (h₀ := X.base) I.ok.mod.kin T.ox.kC hall (thn (ha.run pos pins s σ H _ I h) fun us s1 ⟨vs, H1, I1, r, q⟩ => ?_) hpl he
  refine thn (hkw.run pos pins s1 σ H1 _ I1 q) fun ws s2 ⟨zs, H2, I2, rz, l1, l2, q2⟩ => ⟨I2.kIn, ?_⟩
  rw [hks]
  exact run_oex T F1 hr hb hx I2 r rz l1 l2 hn q2
theorem pe_oex0 (T : ExM X.K C fI) (F1 : FnOk X.prog X.w X.K X.mg X.base CX k fI fd ps sp) (hr : Room (k + 1) X.A) (hg : Gl X x) (hm : X.mg x = some (.ref C)) (hb : KBn X.K fd ps 1 ks g gV) (hx : Passes CX X (fun _ _ _ => False))
    (hkw : PK X kws tk) (hall : (backToKw pos (keywordEach kws X.env)).all (·.1.isSome) = true := by rfl) (hks : (backToKw pos (keywordEach kws X.env)).filterMap (·.1) = ks := by rfl)
    (hdb : (x == ("__debug__" : Str)) = false := by decide) (hpl : ((backTo pos (starEach [] X.env)).any (·.1) || (backToKw pos (keywordEach kws X.env)).any (·.1.isNone)) = false := by rfl) :
    PE X (.Call (.Name x p) [] kws pos) (tOex C 0 ks.length sp gV tNil tk) := by
  refine ⟨fun pins s σ H Q I h => wpAny_Call_Name_kw (ld_glob I hg hm ?_ hdb)⟩
  refine callWith_KW0 (h₀ := X.base) I.ok.mod.kin T.ox.kC hall ?_ hpl
  refine thn (hkw.run pos pins s σ H _ I h) fun ws s2 ⟨zs, H2, I2, rz, l1, l2, q2⟩ => ⟨I2.kIn, ?_⟩
  rw [hks]
  exact run_oex T F1 hr hb hx I2 .nil rz l1 l2 (by decide) q2
end
/-- C(), an own exception class without own __init__ -/
theorem pe_exn0 {X : Cx} {C : Addr} {x : Str} {p pos : Pos} (q : excIn X.K C [.type "ValueError", .type "Exception", .type "BaseException", .type "object"] "ValueError.__new__" = true) (gC : X.mg x = some (.ref C)) (kC : keepIn X.K (.ref C) = true) (hg : Gl X x) (hdb : (x == ("__debug__" : Str)) = false := by decide) :
    PE X (.Call (.Name x p) [] [] pos) (fun _ H Q => ∀ a, H a = none → Q (.ref a) (upd H a (exo a C none))) := by
  refine ⟨fun pins s σ H Q I h => wpAny_Call_Name_kw (ld_glob I hg gC ?_ hdb)⟩
  refine callWith_KW0 (h₀ := X.base) I.ok.mod.kin kC (by rfl) (wpAny_evalAll_nil ⟨I.kIn, ?_⟩) (by rfl)
  show wpAny _ _ (call (.ref C) []) _ _ _
  obtain ⟨bm, N, nm, qn, bs, hdct, sn, sub, ab, col, dd, k0, k1, k2, k3, k5, mN, hC, hN, hni, T⟩ := exc_obj I.kIn q
  refine wpAny_call_exc_subT F.excBase_ValueError T hC hN hni (fun h' a hm => ?_) (Nat.zero_le _)
  obtain ⟨t, ht, _, _⟩ := hm.there
  have hn : H a = none := I.hok.gone hm.new
  exact ⟨.ref a, upd H a (exo a C none), I.laidN hm.keeps hm.new hn (exo_ok ht), rfl, h a hn⟩
end Sh
set_option Elab.async false
set_option linter.all false
set_option maxRecDepth 100000
set_option maxHeartbeats 4000000
namespace Sh
open PySem PySem.Spec PySem.W PyProof.Rows L2 NdefX
/-! ### the facts of an own exception class, bundled -/
abbrev veTail : List Value := [.type "ValueError", .type "Exception", .type "BaseException", .type "object"]
/-- the class at C, right below the class at S, which is right below ValueError -/
structure XCls (K : Frag) (S C : Addr) : Prop where
  r : ExR K C
  sub : ∀ b : Value, mroIn K C b = some ((Value.ref C :: .ref S :: veTail).contains b)
  ty : typeIn K (.ref C) = some (.type "type")
  isC : (clsIn K C).isSome = true
theorem xcls_mk {K : Frag} {S C N : Addr} {nm q : Str} {bs : List Value} {sn : List Str} {sub : List Value} {ab : Bool} {col : Option Bool} {dd : Option Addr} {k0 k1 k2 k3 k5 : Option Value}
    (xL : K.lookup C = some (excClassObj nm q C N bs [.ref S, .type "ValueError", .type "Exception", .type "BaseException", .type "object"] true sn sub ab col dd k0 k1 k2 k3 k5 "ValueError.__new__"))
    (sa : findIn K (.ref C) "__setattr__" = some (some (.builtin "object.__setattr__"))) (ga : findIn K (.ref C) "__getattribute__" = some (some (.builtin "BaseException.__getattribute__"))) (gg : findIn K (.ref C) "__getattr__" = some none)
    (cl : findIn K (.ref C) "__class__" = some (some (.builtin "object.__class__"))) (kC : keepIn K (.ref C) = true) : XCls K S C := by
  have hcl : clsIn K C = some { name := nm, bases := bs, mro := .ref C :: [.ref S, .type "ValueError", .type "Exception", .type "BaseException", .type "object"], ns := N, qualname := q, hasDict := true, slotNames := sn, subclasses := sub, abstract := ab, collection := col, hasDel := false } := by
    unfold clsIn
    rw [xL]
  have hm : ∀ b : Value, mroIn K C b = some ((Value.ref C :: .ref S :: veTail).contains b) := fun b => by
    unfold mroIn
    rw [hcl]
    rfl
  have hty : typeIn K (.ref C) = some (.type "type") := by
    show (K.lookup C).map (·.cls) = _
    rw [xL]
    rfl
  have hin : ∀ T : String, veTail.contains (.type T) = true → (Value.ref C :: .ref S :: veTail).contains (.type T) = true := fun T z => by
    rw [List.contains_cons, List.contains_cons, z]
    simp
  refine ⟨⟨⟨⟨nm, q, N, bs, _, sn, sub, ab, col, dd, k0, k1, k2, k3, k5, xL, rfl⟩, sa, ?_, hty, kC⟩, ga, gg, ?_, cl, ?_⟩, hm, hty, by rw [hcl]; rfl⟩
  · show mroIn K C _ = _
    rw [hm, hin "BaseException" (by decide +kernel)]
  · unfold hasDictIn
    rw [hcl]
    rfl
  · rw [hm, hin "object" (by decide +kernel)]
/-- isinstance of an instance of C, asked of another such class -/
theorem XCls.own {K : Frag} {S C D : Addr} (x : XCls K S C) (y : XCls K S D) (h : D ≠ S) : kitOne K (.ref C) (.ref D) = some (decide (C = D)) := by
  unfold kitOne
  by_cases e : C = D
  · subst e
    rw [if_pos (by simp), decide_eq_true rfl]
  · rw [if_neg (by simp [e]), decide_eq_false e]
    unfold kitCls
    simp only [y.isC, y.ty, beq_self_eq_true, Bool.and_self, if_true]
    show mroIn K C (.ref D) = some false
    rw [x.sub]
    have e1 : (Value.ref D == Value.ref C) = false := by simp [Ne.symm e]
    have e2 : (Value.ref D == Value.ref S) = false := by simp [h]
    simp only [List.contains_cons, e1, e2, Bool.false_or]
    have e3 : ∀ T : String, (Value.ref D == Value.type T) = false := fun T => by simp
    simp [e3]
theorem XCls.base {K : Frag} {S C : Addr} (x : XCls K S C) (y : XCls K S C) (hS : (clsIn K S).isSome = true) (tS : typeIn K (.ref S) = some (.type "type")) : kitOne K (.ref C) (.ref S) = some true := by
  unfold kitOne
  split
  · rfl
  · unfold kitCls
    simp only [hS, tS, beq_self_eq_true, Bool.and_self, if_true]
    show mroIn K C (.ref S) = some true
    rw [x.sub]
    simp
theorem XCls.blt {K : Frag} {S C : Addr} (x : XCls K S C) (T : String) (hm : kitMeta T = true) : kitOne K (.ref C) (.type T) = some (veTail.contains (.type T)) := by
  unfold kitOne
  rw [if_neg (by simp)]
  unfold kitCls
  simp only [hm, if_true]
  show mroIn K C (.type T) = _
  rw [x.sub]
  simp [List.contains_cons]
/-- its __init__ -/
structure XInit (P : Program) (K : Frag) (mg : Str → Option Value) (C f : Addr) (qual : Str) (st : Stmt) (fd : FuncData) : Prop where
  m : ExM K C f
  sc : SupC K C C
  fn : ∃ oc od kV doc pm an ct osl cc cda, fd = fnX "__init__" qual (defArgs st) (defBody st) (defScope st) [("__class__", cc)] .none kV doc pm an (.ref cda) ct ∧ K.lookup f = some ⟨oc, od, .func fd, osl⟩ ∧ codeIn K (.ref cda) qual = true ∧ SupF P K mg cc cda C (defArgs st) (defScope st) "self"
theorem xinit_mk {P : Program} {K : Frag} {mg : Str → Option Value} {S C f cc cda : Addr} {qual file : Str} {st : Stmt} {oc kV doc pm ct ccl cl : Value} {od an cdd cld : Option Addr} {osl ccs csl : Array (Option Value)} {vs : Array Value} {tf : Tok} (x : XCls K S C)
    (iC : findIn K (.ref C) "__init__" = some (some (.ref f))) (tI : typeIn K (.ref f) = some (.type "function")) (lf : K.lookup f = some ⟨oc, od, .func (fnX "__init__" qual (defArgs st) (defBody st) (defScope st) [("__class__", cc)] .none kV doc pm an (.ref cda) ct), osl⟩)
    (c : codeIn K (.ref cda) qual = true) (lc : K.lookup cda = some ⟨ccl, cdd, .fields vs, ccs⟩) (hv : vs[2]? = some (.str file tf)) (hf : ((P.main.file : Str) == file) = true) (lx : K.lookup cc = some ⟨cl, cld, .cell (some (.ref C)), csl⟩)
    (sup : ks_superIn K C C "__init__" = some (some (.builtin "ValueError.__init__"))) (mgs : mg "super" = none) (opq : nsIn K cStatics "thirdparty.any" = some none) (top : (P.main.scope.names.lookup ("super" : Str)).isSome = false)
    (hh : ∃ ar : Arg, ((defArgs st).posonlyargs ++ (defArgs st).args).head? = some ar ∧ ar.arg = "self") (ks : (defScope st).names.lookup ("super" : Str) = some .globalImplicit) (kc : (defScope st).names.lookup ("__class__" : Str) = some .free) (ka : (defScope st).names.lookup ("self" : Str) = some .local) :
    XInit P K mg C f qual st (fnX "__init__" qual (defArgs st) (defBody st) (defScope st) [("__class__", cc)] .none kV doc pm an (.ref cda) ct) := by
  obtain ⟨cd, hcd⟩ := Option.isSome_iff_exists.mp x.isC
  refine ⟨⟨x.r.ox, iC, tI⟩, ⟨x.r.ox, ?_, sup, ?_⟩, oc, od, kV, doc, pm, an, ct, osl, cc, cda, rfl, lf, c, ⟨hh, ⟨ccl, cdd, vs, ccs, file, tf, lc, hv, hf⟩, ⟨cl, cld, csl, lx⟩, ⟨cd, hcd⟩, ks, kc, ka, top, mgs, opq⟩⟩
  · rw [x.sub]
    simp
  · show mroIn K C _ = _
    rw [x.sub]
    simp
/-- the arguments as they are bound: behind the positional ones the keywords', the first one last -/
def rotV (vs zs : List V) : List V := vs ++ (zs.drop 1 ++ zs.take 1)
def rotU (us ws : List Value) : List Value := us ++ (ws.drop 1 ++ ws.take 1)
theorem vals_take : ∀ {vs : List V} {us : List Value} (n : Nat), Vals vs us → Vals (vs.take n) (us.take n)
  | _, _, 0, _ => .nil
  | _, _, _ + 1, .nil => .nil
  | _, _, n + 1, .cons r t => .cons r (vals_take n t)
theorem vals_drop : ∀ {vs : List V} {us : List Value} (n : Nat), Vals vs us → Vals (vs.drop n) (us.drop n)
  | _, _, 0, h => h
  | _, _, _ + 1, .nil => .nil
  | _, _, n + 1, .cons _ t => vals_drop n t
theorem kbn_rot {K : Frag} {fd : FuncData} {ps ks : List Str} {n : Nat} (h : ∀ us ws : List Value, us.length = n → ws.length = ks.length → bindArgs fd ⟨us, ks.zip ws⟩ = pure (ps.zip (rotU us ws))) : KBn K fd ps n ks rotU rotV :=
  ⟨fun s us ws _ l1 l2 => .of_eq (h us ws l1 l2), fun r1 r2 => r1.append ((vals_drop 1 r2).append (vals_take 1 r2))⟩
theorem kbn_x {P : Program} {K : Frag} {mg : Str → Option Value} {C f : Addr} {qual : Str} {st : Stmt} {fd : FuncData} {ps ks : List Str} {n : Nat} (i : XInit P K mg C f qual st fd)
    (h : ∀ (cc : Addr) (kV doc pm : Value) (an : Option Addr) (cda : Addr) (ct : Value) (us ws : List Value), us.length = n → ws.length = ks.length → bindArgs (fnX "__init__" qual (defArgs st) (defBody st) (defScope st) [("__class__", cc)] .none kV doc pm an (.ref cda) ct) ⟨us, ks.zip ws⟩ = pure (ps.zip (rotU us ws))) : KBn K fd ps n ks rotU rotV := by
  obtain ⟨oc, od, kV, doc, pm, an, ct, osl, cc, cda, rfl, _⟩ := i.fn
  exact kbn_rot (h cc kV doc pm an cda ct)
/-- what is left of a new exception: its dict holds the fields -/
def spXI (C : Addr) (fs : List Str) : Sp := fun vs H Q _ => ∃ (a : Addr) (ws : List V), vs = .ref a :: ws ∧ ws.length = fs.length ∧ H a = some (exo a C none) ∧
  ∀ (H' : Hp) (d : Addr), Kp a H H' → H d = none → d ≠ a → H' a = some (exo a C (some d)) → H' d = some (exd d (fs.zip ws).reverse) → Q .non H'
/-- an exception that is held: of the class at C, with these fields -/
def ErrAt (H : Hp) (a C : Addr) (fs : List (Str × V)) : Prop := ∃ d, H a = some (exo a C (some d)) ∧ H d = some (exd d fs)
theorem ErrAt.same {H H' : Hp} {a C : Addr} {fs : List (Str × V)} (e : Same H H') (h : ErrAt H a C fs) : ErrAt H' a C fs := let ⟨d, h1, h2⟩ := h; ⟨d, e _ _ h1, e _ _ h2⟩
theorem mk_err {C : Addr} {n m : Nat} {fs : List Str} {t tk : TA} {σ : L2.St} {H : Hp} {Q : VK} {vs zs : List V}
    (h1 : ∀ R : List V → Hp → Prop, R vs H → t σ H R) (h2 : ∀ R : List V → Hp → Prop, R zs H → tk σ H R) (l1 : vs.length = n) (l2 : zs.length = m) (l3 : n + m = fs.length)
    (q : ∀ H' a, Same H H' → ErrAt H' a C (fs.zip (rotV vs zs)).reverse → Q (.ref a) H') : tOex C n m (spXI C fs) rotV t tk σ H Q := by
  refine h1 _ (h2 _ ⟨l1, l2, fun a ha => ⟨a, rotV vs zs, rfl, ?_, upd_same, fun H' d kp hd hne ea ed => ⟨rfl, q H' a (fun b o e => ?_) ⟨d, ea, ed⟩⟩⟩⟩)
  · unfold rotV
    rw [List.length_append, List.length_append, List.length_drop, List.length_take, l1, l2]
    omega
  · exact kp b o (by rw [upd_ne (ne_of_none e ha)]; exact e) (ne_of_none e ha)
end Sh
set_option Elab.async false
set_option linter.all false
set_option maxRecDepth 100000
set_option maxHeartbeats 4000000
namespace Sh
open PySem PySem.Spec PyProof.Rows
/-! ### repr of data, where no repr is under way -/
section
variable {prog : Program} {w : World} {A : Around} {E : Value → Shared → Prop} {s : Shared}
theorem repr_reads {v : Value} {d : PyData} {as : List Addr} {Q : Value → Shared → Prop} (r : Reads s.heap v d as) (hs : d.showable = true) (hsm : d.hasDict = true → sysModules ∉ as) (hz : d.shown.length ≤ sizeLine) (hg : A.guards = some []) (hu : A.units + 3 + d.depth < cLine)
    (hQ : ∀ h' u tk, (∀ b o, s.heap.get? b = some o → h'.get? b = some o) → Q (.str d.shown u) { s with heap := h', toks := tk }) : wpAny (model prog w) A (call (.builtin "repr") [v]) Q E s := by
  have here : ∀ {u : Nat} {x : Str}, x = d.shown → Q (.str x u) { s with toks := s.toks + 1 } := fun {u x} e => by
    rw [e]
    exact hQ s.heap u (s.toks + 1) fun _ _ z => z
  have keep : ∀ b o, s.heap.get? b = some o → s.heap.get? b = some o := fun _ _ z => z
  cases r with
  | none => exact P.repr_of_none (here (by simp only [PyData.shown]))
  | bool b => exact P.repr_of_bool (here (by simp only [PyData.shown]))
  | int i t => exact P.repr_of_int (by simpa [PyData.showable] using hs) (here (by simp only [PyData.shown]))
  | str x t => exact P.repr_of_str (here (by simp only [PyData.shown])) (by simpa only [PyData.shown] using hz)
  | @list a o vs n xs as h1 h2 h3 h4 =>
    have hz' : (listText (PyData.shownAll xs)).length ≤ sizeLine := by simpa only [PyData.shown] using hz
    obtain ⟨bs, hb, hk⟩ := ReprAllK.of_readsAll (prog := prog) (w := w) h4 (by simpa [PyData.showable] using hs) (fun hx hm => hsm (by simpa [PyData.hasDict] using hx) (List.mem_cons_of_mem _ hm)) (fun t ht => Nat.le_trans (listText_mem_le ht) hz')
    have hna : a ∉ bs := not_mem_of_deeper (.list h1 h2 h3 h4) (by simp only [PyData.depth]; omega) hb
    simp only [PyData.depth] at hu
    simp only [PyData.shown] at hQ
    refine call_repr_slot (by omega) ⟨o, h1, h2⟩ F.slot_list_repr.toG ?_
    obtain ⟨l⟩ := vs
    cases l with
    | nil =>
      have h4' : ReadsAll s.heap [] xs _ := h4
      cases h4'
      simp only [PyData.shownAll, listText_nil] at hQ
      exact call_list_repr_empty ⟨o, h1, h2⟩ h1 h3 ⟨_, _, rfl, hQ s.heap _ _ keep⟩
    | cons x l => exact call_list_reprK h1 h2 h3 hna (by simpa using hk.length_eq) (fun i y e => hk.item i y (by simpa using e)) hg (fun b _ => Clear.nil b) (by show A.units + 1 + _ < cLine; omega) keep (fun h' u tk hk' => ⟨_, _, rfl, hQ h' u tk hk'⟩) hz'
  | @tuple a o vs n xs as h1 h2 h3 h4 =>
    have hz' : (tupleText (PyData.shownAll xs)).length ≤ sizeLine := by simpa only [PyData.shown] using hz
    obtain ⟨bs, hb, hk⟩ := ReprAllK.of_readsAll (prog := prog) (w := w) h4 (by simpa [PyData.showable] using hs) (fun hx => hsm (by simpa [PyData.hasDict] using hx)) (fun t ht => Nat.le_trans (tupleText_mem_le ht) hz')
    have hna : a ∉ bs := not_mem_of_deeper (.tuple h1 h2 h3 h4) (by simp only [PyData.depth]; omega) hb
    simp only [PyData.depth] at hu
    simp only [PyData.shown] at hQ
    exact call_repr_slot (by omega) ⟨o, h1, h2⟩ F.slot_tuple_repr (call_tuple_reprK h1 h2 h3 hna hk hg (fun b _ => Clear.nil b) (by show A.units + 1 + _ < cLine; omega) keep (fun h' u tk hk' => ⟨_, _, rfl, hQ h' u tk hk'⟩) hz')
  | @dict a o es n kvs as bs h1 h2 h3 h4 h5 =>
    have hz' : (dictText (PyData.shownKv kvs)).length ≤ sizeLine := by simpa only [PyData.shown] using hz
    have hno : sysModules ∉ a :: as ++ bs := hsm (by simp only [PyData.hasDict])
    obtain ⟨hs1, hs2⟩ := PyData.showableKv_split kvs (by simpa [PyData.showable] using hs)
    obtain ⟨b1, hb1, k1⟩ := ReprAllK.of_readsAll (prog := prog) (w := w) h4 hs1 (fun _ hm => hno (List.mem_cons_of_mem _ (List.mem_append_left _ hm))) (fun t ht => let ⟨p, hp, hl⟩ := PyData.shownKv_key_le kvs t ht; Nat.le_trans hl (Nat.le_trans (dictText_mem_le hp) hz'))
    obtain ⟨b2, hb2, k2⟩ := ReprAllK.of_readsAll (prog := prog) (w := w) h5 hs2 (fun _ hm => hno (List.mem_cons_of_mem _ (List.mem_append_right _ hm))) (fun t ht => let ⟨p, hp, hl⟩ := PyData.shownKv_val_le kvs t ht; Nat.le_trans hl (Nat.le_trans (dictText_mem_le hp) hz'))
    have hb : ReadAtMost s.heap (PyData.depthKv kvs) (b1 ++ b2) := (hb1.mono (PyData.depthAll_keys_le kvs)).append (hb2.mono (PyData.depthAll_vals_le kvs))
    have hna : a ∉ b1 ++ b2 := not_mem_of_deeper (.dict h1 h2 h3 h4 h5) (by simp only [PyData.depth]; omega) hb
    have hsys : (a == sysModules) = false := beq_eq_false_iff_ne.mpr fun e => hno (e ▸ List.mem_cons_self ..)
    simp only [PyData.depth] at hu
    simp only [PyData.shown, PyData.shownKv_eq] at hQ
    exact call_repr_slot (by omega) ⟨o, h1, h2⟩ F.slot_dict_repr (call_dict_reprK h1 h2 h3 hsys hna (ReprEntriesK.of_two es.toList _ _
      (k1.more_le (fun b hb => List.mem_append_left _ hb) (PyData.depthAll_keys_le kvs)) (k2.more_le (fun b hb => List.mem_append_right _ hb) (PyData.depthAll_vals_le kvs)))
      hg (fun b _ => Clear.nil b) (by show A.units + 1 + _ < cLine; omega) keep (fun h' u tk hk' => ⟨_, _, rfl, hQ h' u tk hk'⟩) (by rw [← PyData.shownKv_eq]; exact hz'))
end
/-! ### the values that are told -/
open L2 in
/-- a value of any kind -/
inductive Thing (H : Hp) : V → PyData → Prop
  | non : Thing H .non .none
  | bl (b : Bool) : Thing H (.bl b) (.bool b)
  | int (i : Int) (h : i.natAbs < 10 ^ 31) : Thing H (.int i) (.int i)
  | str (x : Str) (h : (reprText x).length ≤ 40) : Thing H (.str x) (.str x)
  | tupS {a : Addr} (x : Str) (h : (reprText x).length ≤ 40) : H a = some (.tup [.str x]) → Thing H (.ref a) (.tuple [.str x])
  | tupN {a b : Addr} (i : Int) (h : i.natAbs < 10 ^ 31) : H a = some (.tup [.int 1, .ref b]) → H b = some (.tup [.int i]) → Thing H (.ref a) (.tuple [.int 1, .tuple [.int i]])
  | lst0 {a : Addr} : H a = some (.lst []) → (a == sysModules) = false → Thing H (.ref a) (.list [])
  | lst1 {a : Addr} (i : Int) (h : i.natAbs < 10 ^ 31) : H a = some (.lst [.int i]) → (a == sysModules) = false → Thing H (.ref a) (.list [.int i])
  | dic0 {a : Addr} : H a = some (.dK []) → Thing H (.ref a) (.dict [])
  | dic1 {a : Addr} (i : Int) (h : i.natAbs < 10 ^ 31) : H a = some (.dK [(Sum.inr "a", .int i)]) → Thing H (.ref a) (.dict [(.str "a", .int i)])
open L2 in
theorem Thing.same {H H' : Hp} {v : V} {d : PyData} (s : Same H H') (h : Thing H v d) : Thing H' v d := by
  cases h with
  | non => exact .non
  | bl b => exact .bl b
  | int i h => exact .int i h
  | str x h => exact .str x h
  | tupS x h e => exact .tupS x h (s _ _ e)
  | tupN i h e1 e2 => exact .tupN i h (s _ _ e1) (s _ _ e2)
  | lst0 e z => exact .lst0 (s _ _ e) z
  | lst1 i h e z => exact .lst1 i h (s _ _ e) z
  | dic0 e => exact .dic0 (s _ _ e)
  | dic1 i h e => exact .dic1 i h (s _ _ e)
theorem int_show {i : Int} (h : i.natAbs < 10 ^ 31) : (Str.ofString (toString i)).length ≤ 32 ∧ i.natAbs.log2 < 1920 := by
  have e := int_text_length_le10 (k := 31) (by decide) h
  refine ⟨by rw [PySem.ofString_length]; omega, ?_⟩
  by_cases h0 : i.natAbs = 0
  · rw [h0]
    decide
  · refine (Nat.log2_lt h0).mpr (Nat.lt_of_lt_of_le h (Nat.le_trans (by decide : 10 ^ 31 ≤ 2 ^ 104) (Nat.pow_le_pow_right (by decide) (by decide))))
theorem tupText_le (ts : List Str) : (tupleText ts).length ≤ 4 + piled ts := by
  unfold tupleText
  rw [strLen_append, strLen_append]
  have e1 : (("(" : Str)).length = 1 := by decide +kernel
  have e2 : ∀ b : Bool, (((if b = true then ",)" else ")" : String) : Str)).length ≤ 2 := by decide +kernel
  have e3 := e2 (ts.length == 1)
  by_cases h : ts = []
  · subst h
    have e4 : (Str.join ", " []).length = 0 := by decide +kernel
    omega
  · have e4 := join_length_add ts h
    omega
theorem dicText_le (ts : List Str) : (dictText ts).length ≤ 4 + piled ts := by
  unfold dictText
  rw [strLen_append, strLen_append]
  have e1 : (("{" : Str)).length = 1 := by decide +kernel
  have e2 : (("}" : Str)).length = 1 := by decide +kernel
  by_cases h : ts = []
  · subst h
    have e4 : (Str.join ", " []).length = 0 := by decide +kernel
    omega
  · have e4 := join_length_add ts h
    omega
open L2 in
theorem Thing.show {H : Hp} {v : V} {d : PyData} (h : Thing H v d) : d.showable = true ∧ d.shown.length ≤ 200 ∧ d.depth ≤ 2 := by
  cases h with
  | non => exact ⟨by simp [PyData.showable], by simp only [PyData.shown]; decide +kernel, by simp [PyData.depth]⟩
  | bl b => exact ⟨by simp [PyData.showable], by simp only [PyData.shown]; cases b <;> decide +kernel, by simp [PyData.depth]⟩
  | int i h => 
    have := int_show h
    exact ⟨by simp [PyData.showable, this.2], by simp only [PyData.shown]; exact Nat.le_trans this.1 (by decide), by simp [PyData.depth]⟩
  | str x h => exact ⟨by simp [PyData.showable], by simp only [PyData.shown]; omega, by simp [PyData.depth]⟩
  | tupS x h e =>
    refine ⟨by simp [PyData.showable, PyData.showableAll], ?_, by simp [PyData.depth, PyData.depthAll]⟩
    simp only [PyData.shown, PyData.shownAll]
    have := tupText_le [reprText x]
    simp only [piled_cons, piled_nil] at this
    omega
  | tupN i h e1 e2 =>
    have q := int_show h
    refine ⟨by simp [PyData.showable, PyData.showableAll, q.2]; decide, ?_, by simp [PyData.depth, PyData.depthAll]⟩
    simp only [PyData.shown, PyData.shownAll]
    have t1 := tupText_le [Str.ofString (toString i)]
    have t2 := tupText_le [Str.ofString (toString (1 : Int)), tupleText [Str.ofString (toString i)]]
    have t3 : (Str.ofString (toString (1 : Int))).length ≤ 2 := by decide +kernel
    simp only [piled_cons, piled_nil] at t1 t2
    omega
  | lst0 e z => exact ⟨by simp [PyData.showable, PyData.showableAll], by simp only [PyData.shown, PyData.shownAll]; decide +kernel, by simp [PyData.depth, PyData.depthAll]⟩
  | lst1 i h e z =>
    have q := int_show h
    refine ⟨by simp [PyData.showable, PyData.showableAll, q.2], ?_, by simp [PyData.depth, PyData.depthAll]⟩
    simp only [PyData.shown, PyData.shownAll]
    have e1 : listText [Str.ofString (toString i)] = ("[" : Str) ++ ("" : String) ++ Str.ofString (toString i) ++ "]" := rfl
    rw [e1, strLen_append, strLen_append, strLen_append]
    have e2 : (("[" : Str)).length = 1 := by decide +kernel
    have e3 : (("]" : Str)).length = 1 := by decide +kernel
    have e4 : ((("" : String) : Str)).length = 0 := by decide +kernel
    omega
  | dic0 e => exact ⟨by simp [PyData.showable, PyData.showableKv], by simp only [PyData.shown, PyData.shownKv]; decide +kernel, by simp [PyData.depth, PyData.depthKv]⟩
  | dic1 i h e =>
    have q := int_show h
    refine ⟨by simp [PyData.showable, PyData.showableKv, q.2], ?_, by simp [PyData.depth, PyData.depthKv]⟩
    simp only [PyData.shown, PyData.shownKv]
    have t1 := dicText_le [reprText "a" ++ ": " ++ Str.ofString (toString i)]
    simp only [piled_cons, piled_nil] at t1
    rw [strLen_append, strLen_append] at t1
    have t2 : (reprText "a").length ≤ 10 := by decide +kernel
    have t3 : ((": " : Str)).length = 2 := by decide +kernel
    omega
open L2
section
variable {X : Cx} {pins : List (Addr × Obj)} {σ : L2.St} {H : Hp} {s : Shared}
theorem Thing.reads {v : V} {d : PyData} {u : Value} (I : Inv X pins σ H s) (h : Thing H v d) (r : RelV v u) : ∃ as, Reads s.heap u d as ∧ sysModules ∉ as := by
  have nosys : ∀ {a : Addr}, (a == sysModules) = false → sysModules ∉ [a] := fun z m => by
    rw [List.mem_singleton.mp m] at z
    simp at z
  cases h with
  | non => cases r; exact ⟨_, .none, List.not_mem_nil⟩
  | bl b => cases r; exact ⟨_, .bool b, List.not_mem_nil⟩
  | int i h => obtain ⟨t, rfl⟩ := r; exact ⟨_, .int i t, List.not_mem_nil⟩
  | str x h => obtain ⟨t, rfl⟩ := r; exact ⟨_, .str x t, List.not_mem_nil⟩
  | @tupS a x h e =>
    obtain rfl : u = Value.ref a := r
    obtain ⟨its, rv, ⟨o, h1, h2, n, h3⟩, _⟩ := I.tuple (SqT.of (K := X.K) e)
    cases rv with
    | cons r1 rn =>
      cases rn
      obtain ⟨t, rfl⟩ := r1
      exact ⟨_, .tuple h1 h2 h3 (.cons (.str x t) .nil), List.not_mem_nil⟩
  | @tupN a b i h e1 e2 =>
    obtain rfl : u = Value.ref a := r
    obtain ⟨its, rv, ⟨o, h1, h2, n, h3⟩, _⟩ := I.tuple (SqT.of (K := X.K) e1)
    obtain ⟨its2, rv2, ⟨o2, g1, g2, n2, g3⟩, _⟩ := I.tuple (SqT.of (K := X.K) e2)
    cases rv2 with
    | cons r2 rn2 =>
      cases rn2
      obtain ⟨t2, rfl⟩ := r2
      cases rv with
      | cons r1 rn =>
        obtain ⟨t1, rfl⟩ := r1
        cases rn with
        | @cons _ u3 _ _ r3 rn3 =>
          obtain rfl : u3 = Value.ref b := r3
          cases rn3
          exact ⟨_, .tuple h1 h2 h3 (.cons (.int 1 t1) (.cons (.tuple g1 g2 g3 (.cons (.int i t2) .nil)) .nil)), List.not_mem_nil⟩
  | @lst0 a e z =>
    obtain rfl : u = Value.ref a := r
    obtain ⟨its, rv, ⟨o, n, h1, h2, _, h3⟩, _⟩ := I.list (SqL.of (K := X.K) e)
    cases rv
    exact ⟨_, .list h1 h2 h3 .nil, nosys z⟩
  | @lst1 a i h e z =>
    obtain rfl : u = Value.ref a := r
    obtain ⟨its, rv, ⟨o, n, h1, h2, _, h3⟩, _⟩ := I.list (SqL.of (K := X.K) e)
    cases rv with
    | cons r1 rn =>
      cases rn
      obtain ⟨t, rfl⟩ := r1
      exact ⟨_, .list h1 h2 h3 (.cons (.int i t) .nil), nosys z⟩
  | @dic0 a e =>
    obtain rfl : u = Value.ref a := r
    obtain ⟨_, z, vs, kv, o, es, ep, h1, h2, h3, _, hp, _⟩ := (show ObjOk X.prog X.w H s.heap a (.dK []) from I.hok a _ e)
    cases kv
    cases hes : es.toList with
    | cons e1 r1 => rw [hes] at hp; cases hp
    | nil => exact ⟨_, .dict (kvs := []) h1 h2.1 h3 (by rw [hes]; exact .nil) (by rw [hes]; exact .nil), nosys z⟩
  | @dic1 a i h e =>
    obtain rfl : u = Value.ref a := r
    obtain ⟨_, z, vs, kv, o, es, ep, h1, h2, h3, _, hp, _⟩ := (show ObjOk X.prog X.w H s.heap a (.dK [(Sum.inr "a", .int i)]) from I.hok a _ e)
    cases kv with
    | @cons _ q _ _ r1 rn =>
      cases rn
      obtain ⟨qk, qv⟩ := q
      obtain ⟨rfl, t, rfl⟩ := r1
      cases hes : es.toList with
      | nil => rw [hes] at hp; cases hp
      | cons e1 rest =>
        rw [hes] at hp
        cases hp with
        | cons k1 v1 hr =>
          cases hr
          rcases keyIs_shape (show keyIs (Sum.inr ("a" : Str)) e1.key = true from k1) with ⟨j, t', e2, _⟩ | ⟨y, t', e2, e3⟩
          · cases e2
          · cases e2
            exact ⟨_, .dict (kvs := [(.str "a", .int i)]) h1 h2.1 h3 (by rw [hes]; show ReadsAll _ [e1.key] _ _; rw [e3]; exact .cons (.str _ t') .nil) (by rw [hes]; show ReadsAll _ [e1.val] _ _; rw [v1]; exact .cons (.int i t) .nil), nosys z⟩
/-- things, one by one -/
inductive Things (H : Hp) : List V → List PyData → Prop
  | nil : Things H [] []
  | cons {v : V} {vs : List V} {d : PyData} {ds : List PyData} : Thing H v d → Things H vs ds → Things H (v :: vs) (d :: ds)
theorem Things.same {H H' : Hp} (e : Same H H') : ∀ {vs : List V} {ds : List PyData}, Things H vs ds → Things H' vs ds
  | _, _, .nil => .nil
  | _, _, .cons h t => .cons (h.same e) (Things.same e t)
theorem Things.reads (I : Inv X pins σ H s) : ∀ {vs : List V} {ds : List PyData} {us : List Value}, Things H vs ds → Vals vs us → ∃ as, ReadsAll s.heap us ds as ∧ sysModules ∉ as
  | _, _, _, .nil, .nil => ⟨_, .nil, List.not_mem_nil⟩
  | _, _, _, .cons h t, .cons r rs => by
    obtain ⟨as, q1, n1⟩ := h.reads I r
    obtain ⟨bs, q2, n2⟩ := Things.reads I t rs
    exact ⟨_, .cons q1 q2, fun z => (List.mem_append.mp z).elim n1 n2⟩
theorem Things.show {H : Hp} : ∀ {vs : List V} {ds : List PyData}, Things H vs ds → PyData.showableAll ds = true ∧ piled (PyData.shownAll ds) ≤ 202 * ds.length ∧ PyData.depthAll ds ≤ 2
  | _, _, .nil => ⟨rfl, by simp only [PyData.shownAll]; exact Nat.zero_le _, by simp [PyData.depthAll]⟩
  | _, d :: ds, .cons h t => by
    obtain ⟨a1, a2, a3⟩ := h.show
    obtain ⟨b1, b2, b3⟩ := Things.show t
    refine ⟨by simp [PyData.showableAll, a1, b1], ?_, by simp only [PyData.depthAll]; omega⟩
    simp only [PyData.shownAll, piled_cons, List.length_cons]
    omega
end
section
variable {X : Cx}
/-- repr(x), x a thing or a tuple of a few of them -/
def rRepr (xs : List V) (H : Hp) (Q : VK) : Prop := ∃ v, xs = [v] ∧ ((∃ d, Thing H v d ∧ Q (.str d.shown) H) ∨ ∃ (a : Addr) (vs : List V) (ds : List PyData), v = .ref a ∧ H a = some (.tup vs) ∧ Things H vs ds ∧ ds.length ≤ 10 ∧ Q (.str (PyData.tuple ds).shown) H)
theorem call_repr (hg : X.A.guards = some []) (hu : X.A.units + 65 < cLine) : CallR X (.builtin "repr") rRepr := by
  intro pins s σ H xs us Q I r h
  obtain ⟨v, rfl, h⟩ := h
  cases r with
  | @cons _ u _ _ r1 rn =>
    cases rn
    rcases h with ⟨d, hd, q⟩ | ⟨a, vs, ds, rfl, ha, hd, hl, q⟩
    · obtain ⟨as, rd, ns⟩ := hd.reads I r1
      obtain ⟨s1, s2, s3⟩ := hd.show
      exact repr_reads rd s1 (fun _ => ns) (by rw [sizeLine_eq]; omega) hg (by omega) fun h' u tk k => ⟨.str _, H, I.kept (t' := tk) k, ⟨u, rfl⟩, q⟩
    · obtain rfl : u = Value.ref a := r1
      obtain ⟨its, rv, ⟨o, h1, h2, n, h3⟩, _⟩ := I.tuple (SqT.of (K := X.K) ha)
      obtain ⟨as, rd, ns⟩ := Things.reads I hd rv
      obtain ⟨s1, s2, s3⟩ := Things.show hd
      have hz : (PyData.tuple ds).shown.length ≤ sizeLine := by
        simp only [PyData.shown]
        have := tupText_le (PyData.shownAll ds)
        rw [sizeLine_eq]
        omega
      exact repr_reads (.tuple h1 h2 h3 rd) (by simp [PyData.showable, s1]) (fun _ => ns) hz hg (by simp only [PyData.depth]; omega) fun h' u tk k => ⟨.str _, H, I.kept (t' := tk) k, ⟨u, rfl⟩, q⟩
/-- [e, ..]: the new list is not the modules' own dict -/
def tLstB (t : TA) : TE := fun σ H Q => t σ H fun xs H1 => xs.length ≤ sizeLine ∧ ∀ p, H1 p = none → (p == sysModules) = false → Q (.ref p) (upd H1 p (.lst xs))
theorem pe_lstB {es : List Expr} {t : TA} {pos : Pos} (h : PA X es t) : PE X (.List es pos) (tLstB t) := by
  refine ⟨fun pins s σ H Q I hq => wpAny_List_spliced (thn (h.run pos pins s σ H _ I hq) fun us s1 ⟨xs, H1, I1, r, z, q⟩ => ⟨by rw [← r.length]; exact z, ?_⟩)⟩
  have hf : H1 s1.heap.objs.size = none := I1.hok.fresh (Nat.le_refl _)
  have hne : (s1.heap.objs.size == sysModules) = false := beq_eq_false_iff_ne.mpr (Nat.ne_of_gt I1.big)
  exact ⟨.ref s1.heap.objs.size, upd H1 s1.heap.objs.size (.lst xs), I1.laid (t' := s1.toks) (fun b u e => Heap.get?_push_of_some _ e) (Nat.le_refl _) ⟨z, us, 0, r, Heap.get?_push_size _ rfl⟩, rfl, q _ hf hne⟩
end
end Sh
set_option Elab.async false
set_option linter.all false
set_option maxRecDepth 100000
set_option maxHeartbeats 4000000
namespace Sh
open PySem PySem.Spec PyProof.Rows L2
/-! ### a law that asks for a repr: its promise where no repr is under way -/
structure FnG (P : Program) (w : World) (K : PySem.W.Frag) (mg : Str → Option Value) (base : Heap) (CX : CXT) (k : Nat) (f : Addr) (fd : FuncData) (ps : List Str) (sp : Sp) : Prop where
  run : ∀ (A : Around) (outer : List Env) (s : Shared) (H : Hp) (args : Args) (us : List Value) (vs : List V) (Q : VK) (E : XK), A.guards = some [] → Room k A → Env0 P w K mg base A outer s H → BindsTo s fd args (ps.zip us) → Vals vs us → sp vs H Q E →
    codeAny (model P w) A (.call (.ref f) args) (CR CX outer P w H s Q E) s
section
variable {P : Program} {w : World} {K : PySem.W.Frag} {mg : Str → Option Value} {base : Heap}
/-- a promise at one place in the stack, from the promise over all of them that the body keeps -/
theorem okG {x qual : Str} {st : Stmt} {f : Addr} {fd : FuncData} {N ps : List Str} {k : Nat} {sp : Sp} (F : Fun K x qual st f fd) (S : FnScope N ps (defScope st)) (len : ∀ vs H Q E, sp vs H Q E → vs.length = ps.length)
    (hbody : ∀ (cdv : Value) (A : Around) (outer : List Env) (s : Shared) (H : Hp) (vs : List V) (Q : VK) (E : XK), (A.deeper (envOfC qual (defScope st) s.heap.objs.size f cdv)).guards = some [] → Room k (A.deeper (envOfC qual (defScope st) s.heap.objs.size f cdv)) → sp vs H Q E →
      ∃ t, PSs (cxOf CX0 P w K mg base N qual (defScope st) f cdv A outer s H E).nox (defBody st) t ∧ t { nx := fun _ H' => Q .non H', rt := Q } (start N vs) H) : FnG P w K mg base CX0 (k + 1) f fd ps sp := by
  refine ⟨fun A outer s H args us vs Q E hgd hr e0 hb r hsp => ?_⟩
  obtain ⟨oc, od, kV, doc, pm, an, cdv, ct, osl, rfl, lk, hcd⟩ := F.ex
  have hl := len _ _ _ _ hsp
  have KX : K.In s.heap := e0.mod.kin.keeps fun b o z => (e0.bs b o z).1
  have hkind : ∀ y ∈ ps.zip us, (defScope st).names.lookup y.1 = some .local ∨ ((defScope st).names.lookup y.1 = some .cell ∧ ((cellsFrom (s.heap.objs.size + 1) (defScope st).names []).lookup y.1).isSome = true) := fun y hy =>
    (S.par y.1 (List.of_mem_zip (a := y.1) (b := y.2) hy).1).imp id fun z => ⟨z, PySem.W.cellsFrom_some _ _ _ (.inl z)⟩
  refine codeAny_call_function hr.depth (KX _ _ lk) rfl S.co S.gen rfl (PySem.W.codeRec_of KX hcd) (hb _ _ _ _ (wpAny_newFunctionEnv_cells S.kind hkind fun env he s1 y => ?_))
  subst he
  refine ⟨(e0.mod.nolimit.keeps fun b o z => (e0.bs b o z).1).keeps y.toInCall.keep, codeAny_func ?_⟩
  obtain ⟨t, ht, hq⟩ := hbody cdv A outer s H vs Q E hgd (hr.deeper _) hsp
  have I : Inv (cxOf CX0 P w K mg base N qual (defScope st) f cdv A outer s H E) [] (start N vs) H s1 := inv_start S hr.hd e0 hl r y
  refine wpAny_mono (ht.nox.run [] s1 (start N vs) H _ I hq) (fun fl s' hs => ?_) fun e s' hs => hs
  cases fl with
  | ret u =>
    obtain ⟨v, _, H', J, rv, q⟩ := hs
    exact ⟨v, H', J.os, J.bare, J.base, J.hok, rv, q⟩
  | next =>
    obtain ⟨_, H', J, q⟩ := hs
    exact ⟨V.non, H', J.os, J.bare, J.base, J.hok, rfl, q⟩
  | brk => exact False.elim hs.choose_spec.choose_spec.2
  | cont => exact False.elim hs.choose_spec.choose_spec.2
end
section
variable {P : Program} {w : World} {K : PySem.W.Frag} {mg mb : Str → Option Value} {k : Nat} {fa a : Addr} {fd : FuncData} {x : Str} {sp : Sp} {t : Shared} {vs : List Value} {ns : List Int}
abbrev Told (t : Shared) (r : Result) (t' : Shared) : Prop := r = .ok (.ret (.bool true)) ∧ OldK t.heap t'.heap ∧ t'.os = t.os ∧ AllBare t'.gens
/-- the call, over an abstract heap in which at most the script is tracked -/
theorem call_over {H : Hp} (KX : K.In t.heap) (hns : t.heap.Ns mainGlobals mg) (hb : t.heap.Ns builtinsNs mb) (hbb : ∀ x : Str, x ≠ "__name__" → mb x = bootBuiltins x) (hlim : t.heap.NoLimit) (hg : t.gens = #[])
    (ha : t.heap.get? a = some { cls := .type "list", data := .seq vs.toArray }) (hr : Room k callerA)
    (G : ∀ base : Heap, K.In base → base.Ns mainGlobals mg → FnG P w K mg base CX0 k fa fd [x] sp) (hbind : ∀ (s : Shared) (u : Value), BindsTo s fd ⟨[u], []⟩ [(x, u)])
    (hO : Only H) (hsp : sp [.ref a] H (fun v _ => v = .bl true) fun _ _ _ => False) (hok : HOk P w H t.heap) (hA : ∀ b, H b ≠ none → b = a) (hK : H a ≠ none → K.lookup a = none) :
    codeAny (model P w) callerA (.call (.ref fa) ⟨[.ref a], []⟩) (Told t) t := by
  have free : ∀ {b : Addr}, b ≠ a → H b = none := fun {b} hb' => Classical.byContradiction fun z => hb' (hA b z)
  have nsK : ∀ {b : Addr} {m : Str → Option Value}, t.heap.Ns b m → (hidT t.heap H).Ns b m := fun {b m} ⟨o, es, ep, e, d, r⟩ => by
    refine ⟨o, es, ep, hidT_get e (free fun z => ?_), d, r⟩
    subst z
    rw [ha] at e
    cases e
    cases d
  have hKb : K.In (hidT t.heap H) := fun b o e => hidT_get (KX b o e) (Classical.byContradiction fun z => by
    have hba := hA b z
    subst hba
    rw [hK z] at e
    cases e)
  obtain ⟨mc, l1, l2⟩ := hlim
  have e0 : Env0 P w K mg (hidT t.heap H) callerA [] t H := ⟨rfl, ⟨hKb, nsK hns, ⟨mb, nsK hb, hbb⟩, mc, nsK l1, l2⟩, fun b o e => of_hidT e, Nat.le_of_eq (hidT_size _ _), trivial, fun b z => (nomatch z), hok, .of_eq hg⟩
  refine codeAny_mono ((G _ hKb (nsK hns)).run callerA [] t H ⟨[.ref a], []⟩ [.ref a] [.ref a] _ _ rfl hr e0 (hbind t (.ref a)) (.cons rfl .nil) hsp) fun r t' hres => ?_
  match r, hres with
  | .ok (.ret u), hres =>
    obtain ⟨v, H', ho, hbare, un, hok', r', q⟩ := hres
    obtain rfl : v = .bl true := q
    obtain rfl : u = Value.bool true := r'
    refine ⟨rfl, OldK.of_keep fun b o e => ?_, ho, hbare⟩
    cases hb' : H b with
    | none => exact un.keep b o e hb' (fun z => nomatch (show b ∈ ([] : List Addr) from z)) (fun z => nomatch z)
    | some y =>
      rcases hO b with z | ⟨ob, xs, z⟩
      · rw [hb'] at z
        cases z
      · obtain ⟨e1, _⟩ := hok b _ z
        obtain ⟨e2, _⟩ := hok' b _ (un.frzs b ob _ z)
        rw [e] at e1
        cases e1
        exact e2
  | .ok .next, hres => exact False.elim hres
  | .ok .brk, hres => exact False.elim hres
  | .ok .cont, hres => exact False.elim hres
  | .error e, hres => exact False.elim hres
theorem law_callG (KX : K.In t.heap) (hns : t.heap.Ns mainGlobals mg) (hb : t.heap.Ns builtinsNs mb) (hbb : ∀ x : Str, x ≠ "__name__" → mb x = bootBuiltins x) (hlim : t.heap.NoLimit) (hg : t.gens = #[])
    (ha : t.heap.get? a = some { cls := .type "list", data := .seq vs.toArray }) (hi : IntsAre vs ns) (hl : ns.length ≤ sizeLine) (hr : Room k callerA)
    (G : ∀ base : Heap, K.In base → base.Ns mainGlobals mg → FnG P w K mg base CX0 k fa fd [x] sp) (hbind : ∀ (s : Shared) (u : Value), BindsTo s fd ⟨[u], []⟩ [(x, u)])
    (hsp : ∀ H : Hp, Only H → SqL K H a (ns.map V.int) → sp [.ref a] H (fun v _ => v = .bl true) fun _ _ _ => False) : codeAny (model P w) callerA (.call (.ref fa) ⟨[.ref a], []⟩) (Told t) t := by
  have rv := vals_ints hi
  have lenV := hi.length
  cases hk : K.lookup a with
  | some o =>
    have e := KX a o hk
    rw [ha] at e
    cases e
    have hO : Only (fun _ => none) := fun _ => .inl rfl
    refine call_over KX hns hb hbb hlim hg ha hr G hbind hO (hsp _ hO (.inr ⟨_, vs.toArray, _, hk, rfl, rfl, rfl, by rw [List.size_toArray, lenV]; exact hl, by simpa using rv⟩)) (fun b u z => nomatch z) (fun b z => absurd rfl z) fun z => absurd rfl z
  | none =>
    have hO : Only (upd (fun _ => none) a (.frz { cls := .type "list", data := .seq vs.toArray } (.lst (ns.map V.int)))) := fun b => by
      by_cases hb' : b = a
      · subst hb'
        exact .inr ⟨_, _, upd_same⟩
      · exact .inl (upd_ne hb')
    refine call_over KX hns hb hbb hlim hg ha hr G hbind hO (hsp _ hO (.inl (.inr ⟨_, upd_same⟩))) (fun b u z => ?_) (fun b z => ?_) fun _ => hk
    · by_cases hb' : b = a
      · subst hb'
        rw [upd_same] at z
        cases z
        exact ⟨ha, by rw [List.length_map]; exact hl, vs, _, rv, ha⟩
      · rw [upd_ne hb'] at z
        cases z
    · by_cases hb' : b = a
      · exact hb'
      · exact absurd (upd_ne hb') z
end
theorem walk_ofG {l : PySem.W.OpenLaw} {n k : Nat} {q : Program} {loose : List Str} {XP : (Str → Option Value) → Heap → Prop} {YP : World → Heap → Prop} {d : DefRec} {K : Params → PySem.W.Frag} {sp : PySem.W.Frag → Sp} {x : Str}
    (hn : l.most = some n) (hn2 : n ≤ sizeLine) (hdf : d.params.defaults = []) (hr : Room k callerA) (hY : ∀ (w : World) (h : Heap), YP w h → (K w.params).In h)
    (G : ∀ (w : World) (mg : Str → Option Value) (fa : Addr) (h : Heap), (K w.params).In h → h.Ns mainGlobals mg → mg d.name = some (.ref fa) →
      ∃ fd : FuncData, (∀ (s : Shared) (u : Value), BindsTo s fd ⟨[u], []⟩ [(x, u)]) ∧ ∀ base : Heap, (K w.params).In base → base.Ns mainGlobals mg → FnG l.prog w (K w.params) mg base CX0 k fa fd [x] (sp (K w.params)))
    (hsp : ∀ (K : PySem.W.Frag) (H : Hp) (a : Addr) (ns : List Int), ns.length ≤ n → SqL K H a (ns.map V.int) → sp K [.ref a] H (fun v _ => v = .bl true) fun _ _ _ => False) :
    PySem.W.WalkO q loose XP YP l.row.toRowW d [] (fun f vs => PySem.call f vs) := by
  refine Att.attach_call hn hdf fun w s₀ t mg mb fa o pm cd doc a vs ns Gr Y ho hd hcd hmg hobj hints hlen hg => ?_
  have KX := hY w _ Y
  obtain ⟨fd, hb, hF⟩ := G w mg fa _ KX Gr.T.g hmg
  exact law_callG KX Gr.T.g Gr.T.b Gr.T.builtins Gr.T.nolimit hg hobj hints (Nat.le_trans hlen hn2) hr hF hb fun H _ hS => hsp (K w.params) H a ns hlen hS
end Sh
set_option Elab.async false
set_option linter.all false
set_option maxRecDepth 100000
set_option maxHeartbeats 4000000
namespace Sh
open PySem PySem.Spec PySem.W PyProof.Rows L2 NdefX
/-! ### a head by facts, own exceptions among them -/
theorem andB {a b : Bool} (h : (a && b) = true) : a = true ∧ b = true := Bool.and_eq_true_iff.mp h
/-- the cells that functions hold -/
def cellsG (g : Addr → Option Obj) (as : List Addr) : List Addr := as.flatMap fun a => match g a with
  | some ⟨_, _, .func fd, _⟩ => fd.closure.map (·.2)
  | _ => []
def asX (g : Addr → Option Obj) (n : Nat) : List Addr := cStatics :: (He.asD g n ++ cellsG g (He.asD g n))
/-- an own exception class right below S -/
def xclsB (K : Frag) (S C : Addr) : Bool := (match K.lookup C with
  | some ⟨.type t, _, .cls cd, sl⟩ => decide (t = "type") && (decide (cd.mro = [.ref C, .ref S, .type "ValueError", .type "Exception", .type "BaseException", .type "object"]) && (cd.hasDict && (!cd.hasDel && (match sl.toList with
    | [_, _, _, _, some (.builtin n), _] => decide (n = "ValueError.__new__")
    | _ => false))))
  | _ => false) && (decide (findIn K (.ref C) "__setattr__" = some (some (.builtin "object.__setattr__"))) && (decide (findIn K (.ref C) "__getattribute__" = some (some (.builtin "BaseException.__getattribute__"))) && (decide (findIn K (.ref C) "__getattr__" = some none) &&
    (decide (findIn K (.ref C) "__class__" = some (some (.builtin "object.__class__"))) && keepIn K (.ref C)))))
theorem xclsB_ok {K : Frag} {S C : Addr} (h : xclsB K S C = true) : XCls K S C := by
  obtain ⟨h1, h⟩ := andB h
  obtain ⟨h2, h⟩ := andB h
  obtain ⟨h3, h⟩ := andB h
  obtain ⟨h4, h⟩ := andB h
  obtain ⟨h5, h6⟩ := andB h
  cases q : K.lookup C with
  | none => rw [q] at h1; cases h1
  | some o =>
    obtain ⟨oc, dd, dt, sl⟩ := o
    rw [q] at h1
    cases oc with
    | type t =>
      cases dt with
      | cls cd =>
        obtain ⟨nm, bs, mro, ns, qn, hd, sn, sb, ab, col, del⟩ := cd
        obtain ⟨a1, h1⟩ := andB h1
        obtain ⟨a2, h1⟩ := andB h1
        obtain ⟨a3, h1⟩ := andB h1
        obtain ⟨a4, a5⟩ := andB h1
        have e1 : t = "type" := of_decide_eq_true a1
        have e2 : mro = _ := of_decide_eq_true a2
        have e3 : hd = true := a3
        have e4 : del = false := by
          cases del
          · rfl
          · cases a4
        subst e1 e2 e3 e4
        have es : ∃ k0 k1 k2 k3 k5, sl = #[k0, k1, k2, k3, some (.builtin "ValueError.__new__"), k5] := by
          obtain ⟨l⟩ := sl
          match l, a5 with
          | [k0, k1, k2, k3, some (.builtin n), k5], a5 =>
            have e5 : n = "ValueError.__new__" := of_decide_eq_true a5
            subst e5
            exact ⟨k0, k1, k2, k3, k5, rfl⟩
        obtain ⟨k0, k1, k2, k3, k5, rfl⟩ := es
        exact xcls_mk q (of_decide_eq_true h2) (of_decide_eq_true h3) (of_decide_eq_true h4) (of_decide_eq_true h5) h6
      | _ => cases h1
    | _ => cases h1
def fileB (file : Str) (vs : Array Value) : Bool := match vs[2]? with
  | some (Value.str fl _) => file == fl
  | _ => false
theorem fileB_ok {file : Str} {vs : Array Value} (h : fileB file vs = true) : ∃ fl tf, vs[2]? = some (.str fl tf) ∧ (file == fl) = true := by
  unfold fileB at h
  cases q : vs[2]? with
  | none => rw [q] at h; cases h
  | some v =>
    rw [q] at h
    cases v with
    | str fl tf => exact ⟨fl, tf, rfl, h⟩
    | _ => cases h
/-- its __init__: what it holds beside its text -/
def xinitB (file : Str) (K : Frag) (C f : Addr) (qual : Str) : Bool := decide (findIn K (.ref C) "__init__" = some (some (.ref f))) && (decide (typeIn K (.ref f) = some (.type "function")) &&
  ((match K.lookup f with
    | some ⟨_, _, .func fd, _⟩ => (match fd.code, fd.closure with
      | .ref cd, [(_, cc)] => codeIn K (.ref cd) qual && ((match K.lookup cd with
          | some ⟨_, _, .fields vs, _⟩ => fileB file vs
          | _ => false) && (match K.lookup cc with
          | some ⟨_, _, .cell (some (.ref D)), _⟩ => decide (D = C)
          | _ => false))
      | _, _ => false)
    | _ => false) && decide (ks_superIn K C C "__init__" = some (some (.builtin "ValueError.__init__")))))
abbrev XV : Type := Option (Str × Str × Arguments × FuncBody × Scope × Addr × List Str × Value × Addr)
def xvOf (K : Frag) (f : Addr) : XV := match K.lookup f with
  | some ⟨_, _, .func fd, _⟩ => some (fd.name, fd.qualname, fd.params, fd.body, fd.scope, fd.globals, fd.closure.map (·.1), fd.defaults, fd.builtins)
  | _ => none
structure XD where
  cls : Str
  qual : Str
  st : Stmt
def XD.val (d : XD) : XV := some ("__init__", d.qual, defArgs d.st, .stmts (defBody d.st), defScope d.st, mainGlobals, ["__class__"], .none, builtinsNs)
def XD.fn (K : Frag) (d : XD) : Addr := He.ma K (He.ga K d.cls) "__init__"
theorem xinit_of {P : Program} {K : Frag} {mg : Str → Option Value} {S C f : Addr} {d : XD} (x : XCls K S C) (e : xvOf K f = d.val) (b : xinitB P.main.file K C f d.qual = true) (mgs : mg "super" = none) (opq : nsIn K cStatics "thirdparty.any" = some none)
    (top : (P.main.scope.names.lookup ("super" : Str)).isSome = false) (hh : ∃ ar : Arg, ((defArgs d.st).posonlyargs ++ (defArgs d.st).args).head? = some ar ∧ ar.arg = "self") (ks : (defScope d.st).names.lookup ("super" : Str) = some .globalImplicit)
    (kc : (defScope d.st).names.lookup ("__class__" : Str) = some .free) (ka : (defScope d.st).names.lookup ("self" : Str) = some .local) : ∃ fd, XInit P K mg C f d.qual d.st fd := by
  obtain ⟨b1, b⟩ := andB b
  obtain ⟨b2, b⟩ := andB b
  obtain ⟨b3, b4⟩ := andB b
  unfold xvOf at e
  cases q : K.lookup f with
  | none => rw [q] at b3; cases b3
  | some o =>
    obtain ⟨oc, od, dt, osl⟩ := o
    rw [q] at b3 e
    cases dt with
    | func fd =>
      obtain ⟨n1, n2, n3, n4, n5, n6, n7, n8, n9, n10, n11, n12, n13, n14, n15⟩ := fd
      have e2 : (some (n1, n2, n3, n4, n5, n6, n7.map (·.1), n8, n15) : XV) = (some (("__init__" : Str), d.qual, defArgs d.st, .stmts (defBody d.st), defScope d.st, mainGlobals, ["__class__"], .none, builtinsNs) : XV) := e
      simp only [Option.some.injEq, Prod.mk.injEq] at e2
      obtain ⟨h1, h2, h3, h4, h5, h6, h7, h8, h9⟩ := e2
      subst h1 h2 h3 h4 h5 h6 h8 h9
      cases n7 with
      | nil => cases h7
      | cons p r =>
        cases r with
        | cons p2 r2 => exact nomatch (List.cons.inj h7).2
        | nil =>
          obtain ⟨nn, cc⟩ := p
          have en : nn = "__class__" := (List.cons.inj h7).1
          subst en
          cases n13 with
          | ref cd =>
            obtain ⟨c1, c2⟩ := andB b3
            obtain ⟨c2, c3⟩ := andB c2
            cases q2 : K.lookup cd with
            | none => rw [q2] at c2; cases c2
            | some o2 =>
              obtain ⟨oc2, od2, dt2, osl2⟩ := o2
              rw [q2] at c2
              cases dt2 with
              | fields vs =>
                obtain ⟨fl, tf, hv1, hv2⟩ := fileB_ok c2
                cases q3 : K.lookup cc with
                | none => rw [q3] at c3; cases c3
                | some o3 =>
                  obtain ⟨oc3, od3, dt3, osl3⟩ := o3
                  rw [q3] at c3
                  cases dt3 with
                  | cell co =>
                    cases co with
                    | none => cases c3
                    | some v =>
                      cases v with
                      | ref D =>
                        have eD : D = C := of_decide_eq_true c3
                        subst eD
                        exact ⟨_, xinit_mk (st := d.st) x (of_decide_eq_true b1) (of_decide_eq_true b2) q c1 q2 hv1 hv2 q3 (of_decide_eq_true b4) mgs opq top hh ks kc ka⟩
                      | _ => cases c3
                  | _ => cases c3
              | _ => cases c2
          | _ => cases b3
    | _ => cases b3
/-! the Hook -/
abbrev AlX : Type := He.AlD × Bool × List XV
def obsX (fa : List He.Fa) (fn : List He.DefD) (ex : List (Frag → Bool)) (xs : List XD) (K : Frag) : AlX := (He.obsD fa fn K, ex.all (fun f => f K), xs.map fun d => xvOf K (d.fn K))
def valX (fn : List He.DefD) (xs : List XD) : AlX := (He.valD fn, true, xs.map XD.val)
structure SaysX (fa : List He.Fa) (fn : List He.DefD) (ex : List (Frag → Bool)) (xs : List XD) (K : Frag) : Prop where
  d : He.SaysD fa fn K
  e : ∀ (i : Nat) {f : Frag → Bool}, ex[i]? = some f → f K = true
  x : ∀ (i : Nat) {d : XD}, xs[i]? = some d → xvOf K (d.fn K) = d.val
theorem says_of {fa : List He.Fa} {fn : List He.DefD} {ex : List (Frag → Bool)} {xs : List XD} {K : Frag} (h : obsX fa fn ex xs K = valX fn xs) : SaysX fa fn ex xs K := by
  have h1 : He.obsD fa fn K = He.valD fn := congrArg (fun z : AlX => z.1) h
  have h2 : ex.all (fun f => f K) = true := congrArg (fun z : AlX => z.2.1) h
  have h3 : xs.map (fun d => xvOf K (d.fn K)) = xs.map XD.val := congrArg (fun z : AlX => z.2.2) h
  refine ⟨h1, fun i f e => List.all_eq_true.mp h2 f (List.mem_of_getElem? e), fun i d e => ?_⟩
  have e2 : (xs.map fun d => xvOf K (d.fn K))[i]? = (xs.map XD.val)[i]? := by rw [h3]
  rw [List.getElem?_map, List.getElem?_map, e] at e2
  exact Option.some.inj e2
def obsXG (n : Nat) (fa : List He.Fa) (fn : List He.DefD) (ex : List (Frag → Bool)) (xs : List XD) (g : Addr → Option Obj) : AlX := obsX fa fn ex xs (He.frG g (asX g n))
def hookX (n : Nat) (fa : List He.Fa) (fn : List He.DefD) (ex : List (Frag → Bool)) (xs : List XD) : PySem.W.Hook where
  α := AlX
  obs := fun s => obsXG n fa fn ex xs s.heap.get?
  val := fun _ => valX fn xs
  says := fun _ h => ∃ K : Frag, K.In h ∧ SaysX fa fn ex xs K
  of := fun _ _ e => ⟨_, He.frG_in, says_of e⟩
  keeps := fun _ _ _ ⟨K, hK, c⟩ k => ⟨K, Frag.In.keeps hK k, c⟩
theorem obsXG_eq {n : Nat} {fa : List He.Fa} {fn : List He.DefD} {ex : List (Frag → Bool)} {xs : List XD} {g : Addr → Option Obj} {s : Shared} (h : ∀ a, g a = s.heap.get? a) : obsXG n fa fn ex xs g = (hookX n fa fn ex xs).obs s := by
  have e : g = s.heap.get? := funext h
  rw [e] <;> rfl
/-- a def without defaults -/
theorem fun_of {K : Frag} {x qual : Str} {st : Stmt} {f : Addr} {fd : FuncData} (F : FunD K x qual (defArgs st) (defBody st) (defScope st) [] [] f fd) : Fun K x qual st f fd := by
  obtain ⟨oc, od, dV, kV, doc, pm, an, cdv, ct, osl, rfl, lk, hcd, hD, hK⟩ := F.ex
  rcases hD with ⟨_, rfl⟩ | ⟨z, _⟩
  · exact ⟨⟨oc, od, kV, doc, pm, an, cdv, ct, osl, rfl, lk, hcd⟩, F.kp⟩
  · exact absurd rfl z
theorem walk_ofEG {l : PySem.W.OpenLaw} {n k : Nat} {q : Program} {loose : List Str} {XP : (Str → Option Value) → Heap → Prop} {YP : World → Heap → Prop} {d : DefRec} {x : Str}
    (hn : l.most = some n) (hn2 : n ≤ sizeLine) (hdf : d.params.defaults = []) (hr : Room k callerA)
    (G : ∀ (w : World) (mg : Str → Option Value) (fa : Addr) (h : Heap), YP w h → h.Ns mainGlobals mg → mg d.name = some (.ref fa) →
      ∃ (K : Frag) (fd : FuncData) (sp : Sp), K.In h ∧ (∀ (s : Shared) (u : Value), BindsTo s fd ⟨[u], []⟩ [(x, u)]) ∧
        (∀ (H : Hp) (a : Addr) (ns : List Int), ns.length ≤ n → SqL K H a (ns.map V.int) → sp [.ref a] H (fun v _ => v = .bl true) fun _ _ _ => False) ∧
        ∀ base : Heap, K.In base → base.Ns mainGlobals mg → FnG l.prog w K mg base CX0 k fa fd [x] sp) :
    WalkO q loose XP YP l.row.toRowW d [] (fun f vs => PySem.call f vs) := by
  refine Att.attach_call hn hdf fun w s₀ t mg mb fa o pm cd doc a vs ns Gr Y ho hd hcd hmg hobj hints hlen hg => ?_
  obtain ⟨K, fd, sp, KX, hb, hsp, hF⟩ := G w mg fa _ Y Gr.T.g hmg
  exact law_callG KX Gr.T.g Gr.T.b Gr.T.builtins Gr.T.nolimit hg hobj hints (Nat.le_trans hlen hn2) hr hF hb fun H _ hS => hsp H a ns hlen hS
end Sh
set_option Elab.async false
set_option linter.all false
set_option maxRecDepth 100000
set_option maxHeartbeats 4000000
namespace Sh
open PySem PySem.Spec PySem.W PyProof.Rows L2
/-! ### raise X(..), X an own exception with super().__init__(..) -/
section
variable {X : Cx}
theorem pmk_x {e : Expr} {te : TE} (hx : X.ex = []) (he : PE X e te) :
    PMk X e (fun σ H Q => te σ H fun x H1 => ∃ (a C dx : Addr) (fs : List (Str × V)), x = .ref a ∧ H1 a = some (exo a C (some dx)) ∧ H1 dx = some (exd dx fs) ∧ Fr0 X.H_0 a ∧ Raises X (.ref C) ∧ Q (.ref C) (some dx) (delH H1 a)) := by
  intro pins s σ H Q I h
  refine thn (he.run pins s σ H _ I h) fun u s1 hu => ?_
  obtain ⟨v, H1, I1, r1, a, C, dx, fs, rfl, ha, hd, h0, hr, q⟩ := hu
  cases r1
  obtain ⟨t1, ho⟩ := exo_at I1.hok ha
  obtain ⟨G, gs, ga, J⟩ := I1.untrack ha h0 hx
  exact ⟨a, _, _, { s1 with heap := G }, delH H1 a, .ref C, some dx, rfl, J, gs, ga, ho, ⟨rfl, rfl⟩, rfl, rfl, delH_same, rfl, I1.bare, hr, q⟩
theorem pmk_x0 {e : Expr} {te : TE} (hx : X.ex = []) (he : PE X e te) :
    PMk X e (fun σ H Q => te σ H fun x H1 => ∃ (a C : Addr), x = .ref a ∧ H1 a = some (exo a C none) ∧ Fr0 X.H_0 a ∧ Raises X (.ref C) ∧ Q (.ref C) none (delH H1 a)) := by
  intro pins s σ H Q I h
  refine thn (he.run pins s σ H _ I h) fun u s1 hu => ?_
  obtain ⟨v, H1, I1, r1, a, C, rfl, ha, h0, hr, q⟩ := hu
  cases r1
  obtain ⟨t1, ho⟩ := exo_at I1.hok ha
  obtain ⟨G, gs, ga, J⟩ := I1.untrack ha h0 hx
  exact ⟨a, _, _, { s1 with heap := G }, delH H1 a, .ref C, none, rfl, J, gs, ga, ho, ⟨rfl, rfl⟩, rfl, rfl, delH_same, rfl, I1.bare, hr, q⟩
def tRaiseX (X : Cx) (W : WX) (te : TE) : TS := fun _ σ H => te σ H fun x H1 => ∃ (a C dx : Addr) (fs : List (Str × V)), x = .ref a ∧ H1 a = some (exo a C (some dx)) ∧ H1 dx = some (exd dx fs) ∧ Fr0 X.H_0 a ∧ Raises X (.ref C) ∧ W (.ref C) (some dx) σ (delH H1 a)
theorem ps_raiseX {W : WX} {e : Expr} {te : TE} {pos : Pos} (hc : X.calm = true) (hx : X.ex = []) (tk : Takes X W) (he : PE X e te) : PS X (.Raise (some e) none pos) (tRaiseX X W te) := ps_raise hc tk (pmk_x hx he)
def tRaiseX0 (X : Cx) (W : WX) (te : TE) : TS := fun _ σ H => te σ H fun x H1 => ∃ (a C : Addr), x = .ref a ∧ H1 a = some (exo a C none) ∧ Fr0 X.H_0 a ∧ Raises X (.ref C) ∧ W (.ref C) none σ (delH H1 a)
theorem ps_raiseX0 {W : WX} {e : Expr} {te : TE} {pos : Pos} (hc : X.calm = true) (hx : X.ex = []) (tk : Takes X W) (he : PE X e te) : PS X (.Raise (some e) none pos) (tRaiseX0 X W te) := ps_raise hc tk (pmk_x0 hx he)
/-- what a raise asks, when the exception is made of its arguments -/
theorem mk_raise {C : Addr} {n m : Nat} {fs : List Str} {t tk : TA} {σ : L2.St} {H : Hp} {W : WX} {D : Ends} {vs zs : List V} (h0 : ∀ a, H a = none → Fr0 X.H_0 a) (R : Raises X (.ref C))
    (h1 : ∀ R : List V → Hp → Prop, R vs H → t σ H R) (h2 : ∀ R : List V → Hp → Prop, R zs H → tk σ H R) (l1 : vs.length = n) (l2 : zs.length = m) (l3 : n + m = fs.length)
    (q : ∀ H' d, Same H H' → H d = none → H' d = some (exd d (fs.zip (rotV vs zs)).reverse) → W (.ref C) (some d) σ H') : tRaiseX X W (tOex C n m (spXI C fs) rotV t tk) D σ H := by
  refine h1 _ (h2 _ ⟨l1, l2, fun a ha => ⟨a, rotV vs zs, rfl, ?_, upd_same, fun H' d kp hd hne ea ed => ⟨rfl, a, C, d, _, rfl, ea, ed, h0 a ha, R, q _ d (fun b o e => ?_) ?_ ?_⟩⟩⟩)
  · unfold rotV
    rw [List.length_append, List.length_append, List.length_drop, List.length_take, l1, l2]
    omega
  · have ne := ne_of_none e ha
    rw [delH_ne ne]
    exact kp b o (by rw [upd_ne ne]; exact e) ne
  · rw [upd_ne hne] at hd
    exact hd
  · rw [delH_ne hne]
    exact ed
theorem XCls.raises {S C : Addr} (x : XCls X.K S C) : Raises X (.ref C) := raises_own (by show mroIn X.K C _ = some true; rw [x.sub]; simp [List.contains_cons]) x.ty
/-- e.f of the exception that a suite holds -/
def tXBy (K : Frag) (f : Str) (a : Addr) (cls : Value) (d : Option Addr) (te : TE) : TE := fun σ H Q => te σ H fun x H1 => x = .ref a ∧ ∃ (C dx : Addr) (fs : List (Str × V)) (v : V), cls = .ref C ∧ d = some dx ∧ ExR K C ∧ findIn K (.ref C) f = some none ∧ H1 dx = some (exd dx fs) ∧ fs.lookup f = some v ∧ Q v H1
theorem pe_xby {a : Addr} {oe : Obj} {cls : Value} {d : Option Addr} {pn : List (Addr × Obj)} {e : Expr} {te : TE} {f : Str} {pos : Pos} (hz : Zc cls d oe) (hf : ∃ vs, oe.data = .fields vs) (he : PE (X.suite a ((a, oe) :: pn)) e te)
    (hb : attributeBase e f X.env (eval e X.env) = eval e X.env := by rfl) : PE (X.suite a ((a, oe) :: pn)) (.Attribute e f pos) (tXBy X.K f a cls d te) := by
  refine ⟨fun pins s σ H Q I h => attr_of hb (thn (he.run pins s σ H _ I h) fun u s1 hh => ?_)⟩
  obtain ⟨x, H1, I1, rx, rfl, C, dx, fs, v, rfl, rfl, R, hno, ed, hl, q⟩ := hh
  obtain rfl : u = Value.ref a := rx
  have hp := (I1.pin (a, oe) (List.mem_append_left _ List.mem_cons_self)).1
  obtain ⟨vs, hd⟩ := hf
  obtain ⟨mA, hns, hr⟩ := exd_at I1.hok ed
  obtain ⟨od, hod, hlk⟩ := lookIn_ns hns
  obtain ⟨u, hu, ru⟩ := RelO.some_of (v := v) (o := mA f) (by rw [← hl]; exact hr f)
  have J : InstAt s1.heap a oe C (some od) := ⟨hp, hz.1, (by unfold notCls; rw [hd] <;> rfl), (by rw [hz.2]; exact hod)⟩
  exact HandSPX.exc_get I1.kIn J R.ga R.gg R.ox.exC (findObj_own R.hd hno rfl (by rw [hlk, hu])) (handed_of ru) ⟨v, H1, I1.tok _, ru, q⟩
/-- isinstance(e, C) of the exception that a suite holds -/
def rIsXBy (K : Frag) (a : Addr) (cls : Value) (d : Option Addr) : List V → Hp → VK → Prop := fun xs H Q => ∃ (C dx : Addr) (fs : List (Str × V)) (c : V) (u : Value) (b : Bool), xs = [.ref a, c] ∧ ClsV c u ∧ cls = .ref C ∧ d = some dx ∧ ExR K C ∧ H dx = some (exd dx fs) ∧ kitOne K (.ref C) u = some b ∧ Q (.bl b) H
theorem call_isXBy {a : Addr} {oe : Obj} {cls : Value} {d : Option Addr} {pn : List (Addr × Obj)} (hz : Zc cls d oe) (hf : ∃ vs, oe.data = .fields vs) (hn : specialIn X.K (.builtin "object.__class__") "__get__" = some (some (.builtin "getset_descriptor.__get__"))) (htk : takesIn X.K (.builtin "object.__class__") = some true) :
    CallR (X.suite a ((a, oe) :: pn)) (.builtin "isinstance") (rIsXBy X.K a cls d) := by
  intro pins s σ H xs us Q I r h
  obtain ⟨C, dx, fs, c, u, b, rfl, k, rfl, rfl, R, ed, e, q⟩ := h
  obtain ⟨u1, u2, rfl, r1, r2⟩ := vals2 r
  obtain rfl := k.eq r2
  obtain rfl : u1 = Value.ref a := r1
  have hp := (I.pin (a, oe) (List.mem_append_left _ List.mem_cons_self)).1
  obtain ⟨vs, hd⟩ := hf
  obtain ⟨mA, hns, hr⟩ := exd_at I.hok ed
  obtain ⟨od, hod, hlk⟩ := lookIn_ns hns
  have J : InstAt s.heap a oe C (some od) := ⟨hp, hz.1, (by unfold notCls; rw [hd] <;> rfl), (by rw [hz.2]; exact hod)⟩
  exact kia_one (kitx_exc R.isCls R.ga R.gg R.ox.exC R.cl hn htk R.ob) I.kIn J e (fun z => nomatch z) fun tk => ⟨.bl b, H, I.tok tk, rfl, q⟩
end
/-! ### which clause takes it -/
theorem XCls.subBE {K : Frag} {S C : Addr} (x : XCls K S C) : subIn K (.ref C) (.type "BaseException") = some true := by
  show mroIn K C _ = some true
  rw [x.sub]
  simp [List.contains_cons]
theorem exmOne_of {K : Frag} {cls c : Value} {b : Bool} (h : subIn K c (.type "BaseException") = some true) (k : kitCls K cls c = some b) : exmOne K cls c = some b := by
  unfold exmOne
  rw [h]
  simpa using k
theorem XCls.kit {K : Frag} {S C D : Addr} (x : XCls K S C) (y : XCls K S D) (h : D ≠ S) : kitCls K (.ref C) (.ref D) = some (decide (C = D)) := by
  unfold kitCls
  simp only [y.isC, y.ty, beq_self_eq_true, Bool.and_self, if_true]
  show mroIn K C (.ref D) = _
  rw [x.sub]
  by_cases e : C = D
  · subst e
    simp
  · have e1 : (Value.ref D == Value.ref C) = false := by simp [Ne.symm e]
    have e2 : (Value.ref D == Value.ref S) = false := by simp [h]
    have e3 : ∀ T : String, (Value.ref D == Value.type T) = false := fun T => by simp
    simp [List.contains_cons, e1, e2, e3, e]
    exact ⟨Ne.symm e, h⟩
theorem XCls.exm {K : Frag} {S C D : Addr} (x : XCls K S C) (y : XCls K S D) (h : D ≠ S) : exmOne K (.ref C) (.ref D) = some (decide (C = D)) := exmOne_of y.subBE (x.kit y h)
end Sh
set_option Elab.async false
set_option linter.all false
set_option maxRecDepth 100000
set_option maxHeartbeats 4000000
namespace ShL
open PySem PySem.W PySem.Calls PyProof.Rows
/-! ### sorted(xs, key=f), f's keys lists that are new -/
/-- h's objects stand in g; those of F may have other slots -/
def KB (F : List Addr) (h g : Heap) : Prop := ∀ b o, h.get? b = some o → (∃ sl, g.get? b = some { o with slots := sl }) ∧ (b ∉ F → g.get? b = some o)
/-- .. all but the one at l -/
def KBx (l : Addr) (F : List Addr) (h g : Heap) : Prop := ∀ b o, b ≠ l → h.get? b = some o → (∃ sl, g.get? b = some { o with slots := sl }) ∧ (b ∉ F → g.get? b = some o)
theorem KB.of {F : List Addr} {h g : Heap} (k : ∀ b o, h.get? b = some o → g.get? b = some o) : KB F h g := fun b o q => ⟨⟨o.slots, k b o q⟩, fun _ => k b o q⟩
theorem KB.trans {F : List Addr} {h g k : Heap} (x : KB F h g) (y : KB F g k) : KB F h k := fun b o q => by
  obtain ⟨⟨sl, q1⟩, q2⟩ := x b o q
  obtain ⟨⟨sl', r1⟩, r2⟩ := y b _ q1
  exact ⟨⟨sl', r1⟩, fun n => (y b o (q2 n)).2 n⟩
theorem KBx.trans {l : Addr} {F : List Addr} {h g k : Heap} (x : KBx l F h g) (y : KB F g k) : KBx l F h k := fun b o hb q => by
  obtain ⟨⟨sl, q1⟩, q2⟩ := x b o hb q
  obtain ⟨⟨sl', r1⟩, r2⟩ := y b _ q1
  exact ⟨⟨sl', r1⟩, fun n => (y b o (q2 n)).2 n⟩
theorem KBx.same {l c : Addr} {F : List Addr} {h g k : Heap} (x : KBx l F h g) (hc : h.get? c = none) (y : ∀ b, b ≠ c → k.get? b = g.get? b) : KBx l F h k := fun b o hb q => by
  have ne : b ≠ c := fun z => by rw [z, hc] at q; cases q
  obtain ⟨⟨sl, q1⟩, q2⟩ := x b o hb q
  exact ⟨⟨sl, (y b ne).trans q1⟩, fun n => (y b ne).trans (q2 n)⟩
section
variable {prog : Program} {w : World} {A : Around} {E : Value → Shared → Prop} {s : Shared} {l st : Addr} {its : List Value} {e1 : Nat} {Z : PySem.Fin → Shared → Prop} {ks : List PyData} {J : Shared → Prop} {F : List Addr}
/-- a call of f on x keeps what was there; its key is a new object -/
def KeyNew (J : Shared → Prop) (F : List Addr) (d : PyData) (s₁ : Shared) (v : Value) (s₂ : Shared) : Prop := J s₂ ∧ KB F s₁.heap s₂.heap ∧ ∃ a o, v = .ref a ∧ s₁.heap.get? a = none ∧ a ∉ F ∧ s₂.heap.get? a = some o ∧ ∀ g : Heap, g.get? a = some o → ∃ as, Reads g (.ref a) d as
theorem kn_rest {f : Value} {h0 : Heap} (hJ : ∀ s g tk, J s → J { s with heap := g, toks := tk }) (j0 : J s) (kb : KBx l F h0 s.heap) (hst : h0.get? st = none) (ns : s.heap.get? st = some (seqObj "list" #[] 0)) (nl : s.heap.get? l = some (seqObj "list" #[] e1)) (hne : st ≠ l) (hsF : st ∉ F) (hlF : l ∉ F)
    (hlen : ks.length = its.length) (hZ : its.length ≤ sizeLine) (hal : AllAlike ks) (hsk : Sortable ks) (hu : ∀ d ∈ ks, A.units + d.depth < cLine)
    (one : ∀ (i : Nat) (v : Value) (d : PyData), its[i]? = some v → ks[i]? = some d → ∀ (s₁ : Shared), J s₁ → KBx l F h0 s₁.heap → wpAny (model prog w) A (call f [v]) (KeyNew J F d s₁) (fun _ _ => False) s₁)
    (fin : ∀ s₁ out c, J s₁ → KBx l F h0 s₁.heap → s₁.heap.get? l = some (seqObj "list" (List.toArray out) c) → KeyedOut false ks its out → Z (.done (.ret .none)) s₁) :
    wpAny (model prog w) A (ksk_rest l f false its.toArray e1 (.ref st)) Z E s := by
  unfold ksk_rest; refine wpAny_bind (wpAny_rule ?_)
  first
    | rw [List.forIn_toArray]
    | (rw [← Array.forIn_toList]; simp only [List.toList_toArray])
    | rw [← Array.forIn_toList]
  let R : Heap → Value → PyData → Prop := fun g v d => ∃ a o, v = .ref a ∧ a ≠ st ∧ a ∉ F ∧ g.get? a = some o ∧ ∀ g' : Heap, g'.get? a = some o → ∃ as, Reads g' (.ref a) d as
  refine wpAny_bind (ksk_fold (fun i s₁ => ∃ kA e, J s₁ ∧ KBx l F h0 s₁.heap ∧ s₁.heap.get? st = some (seqObj "list" kA e) ∧ s₁.heap.get? l = some (seqObj "list" #[] e1) ∧ EachIs (R s₁.heap) kA.toList (ks.take i)) its 0 s
    ⟨#[], 0, j0, kb, ns, nl, by rw [List.take_zero]; exact EachIs.nil⟩ ?step ?done)
  case step =>
    rintro j x s₁ hx ⟨kA, e, j1, kg, ns', nl', hk⟩
    simp only [Nat.zero_add] at hk ⊢
    have hj : j < its.length := (List.getElem?_eq_some_iff.mp hx).1
    obtain ⟨d, hd⟩ : ∃ d, ks[j]? = some d := ⟨_, List.getElem?_eq_getElem (by omega)⟩
    have hz : kA.size ≤ its.length := by
      have q := hk.length
      rw [Array.length_toList, List.length_take] at q; omega
    refine wpAny_bind (wpAny_attempt (wpAny_mono (one j x d hx hd s₁ j1 kg) (fun v s₂ he => ?_) fun _ _ z => z.elim))
    obtain ⟨j2, up, a, o, rfl, hn, haF, hao, hr⟩ := he; try dsimp only
    have has : a ≠ st := fun z => by rw [z, ns'] at hn; cases hn
    have ns2 : s₂.heap.get? st = some (seqObj "list" kA e) := (up _ _ ns').2 hsF
    have nl2 : s₂.heap.get? l = some (seqObj "list" #[] e1) := (up _ _ nl').2 hlF
    have sb := Heap.SameBut.update s₂.heap st (Obj.mapSeq (·.push (.ref a)))
    obtain ⟨c2, hc2⟩ : ∃ c2, (s₂.heap.update st (Obj.mapSeq (·.push (.ref a)))).get? st = some (seqObj "list" (kA.push (.ref a)) c2) := ⟨_, get?_update_seq ns2 (·.push (.ref a))⟩
    refine wpAny_bind (listUpdate_at ns2 rfl ?_ (Nat.le_trans hz hZ) (by rw [Array.size_push]; omega))
    refine wpAny_pure ⟨rfl, kA.push (.ref a), c2, hJ s₂ _ s₂.toks j2, (kg.trans up).same hst sb.2, hc2, (sb.2 l hne.symm).trans nl2, ?_⟩
    rw [show (kA.push (Value.ref a)).toList = kA.toList ++ [.ref a] by simp, show ks.take (j + 1) = ks.take j ++ [d] by rw [List.take_add_one, hd]; rfl]
    refine each_snoc (R := R (s₂.heap.update st (Obj.mapSeq (·.push (.ref a))))) ⟨a, o, rfl, has, haF, (sb.2 a has).trans hao, hr⟩ (hk.mono ?_)
    rintro u d' ⟨b, ob, rfl, hb1, hb2, hb3, hb4⟩
    exact ⟨b, ob, rfl, hb1, hb2, (sb.2 b hb1).trans ((up _ _ hb3).2 hb2), hb4⟩
  case done =>
    rintro s₁ ⟨kA, e, j1, kg, ns', nl', hk⟩
    have hk' : EachIs (fun v d => ∃ as, Reads s₁.heap v d as) kA.toList ks := by
      rw [show ks.take (0 + its.length) = ks from List.take_of_length_le (by omega)] at hk
      refine hk.mono ?_
      rintro u d ⟨b, ob, rfl, _, _, hb3, hb4⟩
      exact hb4 _ hb3
    have hsz : kA.size = its.length := by
      have q := hk'.length
      rw [Array.length_toList] at q; omega
    try dsimp only
    refine wpAny_bind (listItems_at ns' rfl ?_)
    obtain ⟨G, g1, g2⟩ := L2.restrict s₁.heap fun b => decide (b ≠ st)
    have kG : KeepsBut l G s₁.heap := fun b o _ q => by
      by_cases z : b = st
      · rw [g2 b (decide_eq_false (by simpa using z))] at q; cases q
      · rw [g1 b (decide_eq_true z)] at q; exact q
    refine keyH_end (κ := dataKind s₁.heap ks) (h₁ := G) kG (g2 st (by simp)) ns' nl' hne (SortsAt.data (s := s₁) hk' hal hsk hu) hsz hZ fun g3 tk3 c k3 n3 => fin _ _ c (hJ s₁ g3 tk3 j1) ?_ n3 ⟨s₁.heap, kA.toList, hal, rfl, hk'⟩
    intro b o hb q
    have ne : b ≠ st := fun z => by rw [z, hst] at q; cases q
    obtain ⟨⟨sl, q1⟩, q2⟩ := kg b o hb q
    exact ⟨⟨sl, k3 b _ hb ((g1 b (decide_eq_true ne)).trans q1)⟩, fun n => k3 b _ hb ((g1 b (decide_eq_true ne)).trans (q2 n))⟩
theorem kn_tree {f : Value} {n : Nat} (hJ : ∀ s g tk, J s → J { s with heap := g, toks := tk }) (j0 : J s) (hF : ∀ b ∈ F, b < s.heap.objs.size ∧ b ≠ l) (ho : s.heap.get? l = some (seqObj "list" its.toArray n)) (hlen : ks.length = its.length) (hZ : its.length ≤ sizeLine) (hal : AllAlike ks) (hsk : Sortable ks) (hu : ∀ d ∈ ks, A.units + d.depth < cLine)
    (one : ∀ (i : Nat) (v : Value) (d : PyData), its[i]? = some v → ks[i]? = some d → ∀ (s₁ : Shared), J s₁ → KBx l F s.heap s₁.heap → wpAny (model prog w) A (call f [v]) (KeyNew J F d s₁) (fun _ _ => False) s₁)
    (fin : ∀ s₁ out c, J s₁ → KBx l F s.heap s₁.heap → s₁.heap.get? l = some (seqObj "list" (List.toArray out) c) → KeyedOut false ks its out → Z (.done (.ret .none)) s₁) :
    wpAny (model prog w) A (ksk_tree l f false) Z E s := by
  have hl : l < s.heap.objs.size := Heap.lt_size ho
  obtain ⟨e1, q1⟩ : ∃ e1, (s.heap.update l (Obj.mapSeq fun _ => (#[] : Array Value))).get? l = some (seqObj "list" #[] e1) := ⟨_, get?_update_seq ho fun _ => #[]⟩
  have zS : ((s.heap.update l (Obj.mapSeq fun _ => (#[] : Array Value))).push (seqObj "tuple" its.toArray 0)).objs.size = s.heap.objs.size + 1 := by rw [size_push', Heap.size_update]
  unfold ksk_tree; refine wpAny_bind (listItems_at ho rfl ?_)
  refine wpAny_bind (listUpdate_at ho rfl ?_ (by rw [List.size_toArray]; exact hZ) (Nat.zero_le _)); refine wpAny_bind (seqEpoch_at q1 rfl ?_)
  refine wpAny_bind (wpAny_newTuple ?_ (by show its.length ≤ _; exact hZ)); refine wpAny_bind (wpAny_newList ?_ (Nat.zero_le _))
  refine wpAny_holding ?_
  refine kn_rest (ks := ks) (F := F) (h0 := s.heap) (s := { s with heap := ((s.heap.update l (Obj.mapSeq fun _ => (#[] : Array Value))).push (seqObj "tuple" its.toArray 0)).push (seqObj "list" #[] 0) }) (st := ((s.heap.update l (Obj.mapSeq fun _ => (#[] : Array Value))).push (seqObj "tuple" its.toArray 0)).objs.size)
    hJ (hJ s _ s.toks j0) (fun b o hb q => ⟨⟨o.slots, sortingHeap_old hb q⟩, fun _ => sortingHeap_old hb q⟩) (Heap.get?_none_of_le (by rw [zS]; exact Nat.le_succ _)) (Heap.get?_push_size _ rfl) (Heap.get?_push_of_some _ (Heap.get?_push_of_some _ q1)) (by rw [zS]; exact Nat.ne_of_gt (Nat.lt_succ_of_lt hl)) ?_ (fun z => (hF l z).2 rfl) hlen hZ hal hsk hu one fin
  rw [zS]
  exact fun z => Nat.lt_irrefl _ (Nat.lt_trans (Nat.lt_succ_self _) (hF _ z).1)
end
section
variable {prog : Program} {w : World} {A : Around} {E : Value → Shared → Prop} {s : Shared} {β : Type} {its : List Value} {bs : List β} {R : Value → β → Prop} {J : Shared → Prop} {F : List Addr}
theorem kn_turns {l : Addr} {f : Value} {k : β → PyData} {h0 : Heap} (e : EachIs R its bs)
    (one : ∀ (v : Value) (x : β), R v x → x ∈ bs → ∀ (s₁ : Shared), J s₁ → KBx l F h0 s₁.heap → wpAny (model prog w) A (call f [v]) (KeyNew J F (k x) s₁) (fun _ _ => False) s₁) :
    ∀ (i : Nat) (v : Value) (d : PyData), its[i]? = some v → (bs.map k)[i]? = some d → ∀ (s₁ : Shared), J s₁ → KBx l F h0 s₁.heap → wpAny (model prog w) A (call f [v]) (KeyNew J F d s₁) (fun _ _ => False) s₁ := by
  intro i v d hv hd s₁ j1 kb
  rw [List.getElem?_map] at hd
  obtain ⟨x, q, rfl⟩ := Option.map_eq_some_iff.mp hd
  have m : (v, x) ∈ its.zip bs := List.mem_of_getElem? (i := i) (by rw [List.getElem?_zip_eq_some]; exact ⟨hv, q⟩)
  exact one v x (e.zip _ m) (List.mem_of_getElem? q) s₁ j1 kb
/-- sorted(xs, key=f) -/
theorem sorted_key_new {a q : Addr} {Q : Value → Shared → Prop} (k : β → PyData) (hJ : ∀ s g tk, J s → J { s with heap := g, toks := tk }) (j0 : J s) (hF : ∀ b ∈ F, b < s.heap.objs.size) (hl : s.heap.IsList a its.toArray) (e : EachIs R its bs) (hal : AllAlike (bs.map k)) (hk : Sortable (bs.map k)) (hL : bs.length ≤ sizeLine) (hu : ∀ x ∈ bs, A.units + 2 + (k x).depth < cLine)
    (one : ∀ (v : Value) (x : β), R v x → x ∈ bs → ∀ (s₁ : Shared), J s₁ → KB F s.heap s₁.heap → wpAny (model prog w) A.in1.in1 (call (.ref q) [v]) (KeyNew J F (k x) s₁) (fun _ _ => False) s₁)
    (fin : ∀ s₁ out c, J s₁ → KB F s.heap s₁.heap → s₁.heap.get? (s.heap.objs.size + 1) = some (seqObj "list" (List.toArray out) c) → out.length = bs.length → EachIs R out (bs.mergeSort (dataLe false k)) → Q (.ref (s.heap.objs.size + 1)) s₁) :
    wpAny (model prog w) A (call (.builtin "sorted") [.ref a] [(Str.ofString "key", .ref q)]) Q E s := by
  have lb : (bs.map k).length = its.length := by rw [List.length_map]; exact e.length.symm
  have up : ∀ {g : Heap}, KBx (s.heap.objs.size + 1) F (copyHeap s.heap its) g → KB F s.heap g := fun {g} kb b o z => kb b o (Nat.ne_of_lt (Nat.lt_succ_of_lt (Heap.lt_size z))) (copyHeap_old z)
  have zc : s.heap.objs.size ≤ (copyHeap s.heap its).objs.size := Nat.le_of_lt (Nat.lt_of_succ_lt (Heap.lt_size (copyHeap_at s.heap its)))
  refine sorted_of_sort hl (by rw [e.length]; exact hL) (ksk_s1 _ _) (fun _ => ksk_l1 _ _) fun E' => ?_
  rw [ksk_t1]
  refine kn_tree (ks := bs.map k) (F := F) (s := { s with heap := copyHeap s.heap its }) hJ (hJ s _ s.toks j0) (fun b z => ⟨Nat.lt_of_lt_of_le (hF b z) zc, Nat.ne_of_lt (Nat.lt_succ_of_lt (hF b z))⟩) (copyHeap_at s.heap its) lb (by rw [e.length]; exact hL) hal hk (bound_map (A := A.in1.in1) hu) (kn_turns e fun v x hR hx s₁ j1 kb => one v x hR hx s₁ j1 (up kb)) fun s₁ out c j1 kb hD ko => ⟨rfl, ?_⟩
  exact fin s₁ out c j1 (up kb) hD ((ko.length lb).trans e.length) (keyedOut_each k ko e)
end
/-! ### the lambda handed to sorted -/
open PySem.Spec L2 LamX NdefX
abbrev lamF (X : Cx) (params : Arguments) (scope : Scope) (c' : Addr) : NF := ⟨"<lambda>", X.env.qual ++ "<lambda>", params, [], scope, cloFrom X.env.cells scope.names [], c'⟩
abbrev keyD (key : Str → List Int) (z : Str) : PyData := .list ((key z).map .int)
/-- sorted(xs, key=lambda y: body): xs texts, the keys lists of ints -/
def tSL (K : PySem.W.Frag) (T : List (Addr × Str)) (N : List Str) (js : List Nat) (ta : TA) (tb : TE) : TE := fun σ H Q => ta σ H fun vs H1 => ∃ (a : Addr) (xs : List Str) (key : Str → List Int), vs = [.ref a] ∧ SqL K H1 a (xs.map V.str) ∧ Tabs T H1 ∧
  (∀ z ∈ xs, tb (startF N [.str z] (js.map (slotAt σ))) (fun _ => none) fun v H' => ∃ l, v = .ref l ∧ H' l = some (.lst ((key z).map V.int))) ∧
  ∀ H2 p, ExtN H1 H2 → Tabs T H2 → H2 p = none → Q (.ref p) (upd H2 p (.lst ((xs.mergeSort (dataLe false (keyD key))).map V.str)))
theorem sqL_extN {K : PySem.W.Frag} {H H' : Hp} {a : Addr} {xs : List V} (h : SqL K H a xs) (e : ExtN H H') : SqL K H' a xs := by
  rcases h with (h | ⟨o, h⟩) | h
  · exact .inl (.inl (e _ _ h fun ps z => by cases z))
  · exact .inl (.inr ⟨o, e _ _ h fun ps z => by cases z⟩)
  · exact .inr h
theorem vals_strs : ∀ {xs : List Str} {its : List Value}, Vals (xs.map V.str) its → EachIs (fun v z => ∃ t, v = Value.str z t) its xs
  | [], _, .nil => .nil
  | x :: xs, _, .cons r t => .cons r (vals_strs t)
theorem strs_vals : ∀ {xs : List Str} {its : List Value}, EachIs (fun v z => ∃ t, v = Value.str z t) its xs → Vals (xs.map V.str) its
  | [], _, .nil => .nil
  | x :: xs, _, .cons r t => .cons r (strs_vals t)
theorem reads_ints {h : Heap} : ∀ {ns : List Int} {its : List Value}, Vals (ns.map V.int) its → ReadsAll h its (ns.map PyData.int) []
  | [], _, .nil => .nil
  | n :: ns, _, .cons ⟨t, rfl⟩ r => by
    have q := ReadsAll.cons (Reads.int (h := h) n t) (reads_ints r)
    exact q
section
variable {X : Cx}
theorem pe_sortLam {T : List (Addr × Str)} {c P : Addr} {k : Nat} {x y : Str} {e : Expr} {ta : TA} {tb : TE} {params : Arguments} {body : Expr} {scope : Scope} {lpos kpos p pos : Pos} {N fr : List Str} {js : List Nat}
    (hg : Gl X x) (hm : X.mg x = none) (hv : bootBuiltins x = some (.builtin "sorted")) (hA : PA X [e] ta) (TB : TabB X.base X.mg c P) (hcode : X.env.code = .ref c) (hmT : (P, X.env.qual ++ "<lambda>") ∈ T) (huT : ∀ p ∈ T, p.1 = P → p.2 = X.env.qual ++ "<lambda>")
    (hr : Room (k + 3) X.A) (hdef : defaultsOf params X.env = ([], [])) (S : NScope N [y] fr scope) (hfree : ndefB X.env.scope scope fr = true) (hjs : js.map (fun j => X.N[j]?) = fr.map some)
    (hbind : ∀ (q : Str) (cl : List (Str × Addr)) (pm cv ctv u : Value), bindArgs (PySem.W.kla_fn "<lambda>" q params body scope cl pm cv ctv) ⟨[u], []⟩ = pure [(y, u)])
    (hbody : ∀ (A : Around) (outer : List Env) (s : Shared) (H : Hp) (E : XK) (f c' : Addr), Room k (A.deeper (envF (lamF X params scope c') f s.heap.objs.size)) → PE (ncx C8.CX0 X.prog X.w X.K X.mg X.base N (lamF X params scope c') f A outer s H E) body tb)
    (hn : x ≠ "__name__" := by decide) (hdb : (x == ("__debug__" : Str)) = false := by decide)
    (hpl : (backTo pos (starEach [e] X.env)).any (·.1) = false := by rfl) (hsa : backTo pos (starEach [e] X.env) = (false, eval e X.env) :: backTo pos (starEach [] X.env) := by rfl) :
    PE X (.Call (.Name x p) [e] [⟨some "key", .Lambda params body scope lpos, kpos⟩] pos) (tSL X.K T N js ta tb) := by
  refine ⟨fun pins s σ H Q I h => ?_⟩
  refine wpAny_Call_Name_kw (ld_blt I hg hm hv ?_ hn hdb)
  refine PyProof.Rows.callWith_kw (thn (hA.run pos pins s σ H _ I h) fun us s1 ⟨vs, H1, I1, r1, q1⟩ => ?_) hsa hpl rfl rfl
  obtain ⟨a, xs, key, rfl, hs, hT, hk, q⟩ := q1
  obtain rfl := Vals.ref1 r1
  show wpAny _ _ (evalAll ((do let v ← eval (.Lambda params body scope lpos) X.env; standAt pos; pure v) :: [])) _ _ s1
  refine wpAny_evalAll_cons (wpAny_bind (lam_make2 I1 TB hcode hmT huT hT hdef (fun y hy e => (ndef_free hfree y hy e).elim (fun z => I1.ok.has _ (.inl z)) fun z => I1.ok.has _ (.inr z)) fun f c' pm ctv H2 s2 I2 eN T2 hf hfn hfr hco => wpAny_bind (wpAny_standAt (wpAny_pure ?_))))
  refine wpAny_evalAll_nil ?_
  show wpAny _ _ (call (.builtin "sorted") [.ref a] [(Str.ofString "key", .ref f)]) _ _ s2
  have hs2 := sqL_extN hs eN
  obtain ⟨its, rv, hl, hz⟩ := I2.list hs2
  have ev := vals_strs rv
  have zl : xs.length ≤ sizeLine := by rw [List.length_map] at hz; exact hz
  have cp : Caps X (cloFrom X.env.cells scope.names []) fr js := Caps.made I2.ok (ndef_free hfree) (ndef_fr hfree) hjs
  have hr2 : Room (k + 1) X.A.in1.in1 := (Room.in1 (k := k + 2) hr).in1
  have un := hr.un
  have fl : ∀ b ∈ frs X.stack, ∃ o, s2.heap.get? b = some o ∧ ∀ vs, o.data ≠ .fields vs := fun b z => (I2.env0.funs.mem z).2
  refine sorted_key_new (R := fun v z => ∃ t, v = Value.str z t) (F := frs X.stack) (keyD key) (J := fun s' => s'.os = s2.os ∧ AllBare s'.gens) (fun s g tk j => j) ⟨rfl, I2.bare⟩ (fun b z => let ⟨o, q, _⟩ := fl b z; Heap.lt_size q) hl.isList ev (AllAlike.of fun z z' => by unfold keyD; rw [alike]; exact alike_ints _ _) (Sortable.others fun z => ⟨(fun q => (by cases q)), (fun xs q => (by cases q))⟩) zl (fun z _ => ?_) (fun v z hv hz s₁ j1 up => ?_) fun s₁ out ce j1 up hat hlen ho => ?_
  · have e : (keyD key z).depth = 1 := by unfold keyD; rw [PyData.depth, depth_ints]
    rw [e]
    omega
  · obtain ⟨t, rfl⟩ := hv
    have kg : ∀ b o, H2 b = some o → ∀ u, s2.heap.get? b = some u → s₁.heap.get? b = some u := fun b o q u r => (up b u r).2 fun z => by rw [I2.stkFree b z] at q; cases q
    have u3 : Un (frs X.stack) [] H2 H2 s2.heap s₁.heap := ⟨fun b ob q _ n _ => (up b ob q).2 n, fun b ob q _ _ _ => (up b ob q).1, fun _ _ _ n _ => n, fun b ob q _ => let ⟨sl, r⟩ := (up b ob q).1; ⟨_, r⟩, fun _ _ q => q, fun _ _ _ q => q, fun _ ps q => ⟨#[], by rw [q]; simp⟩⟩
    have k3 : HOk X.prog X.w H2 s₁.heap := fun b o q => (I2.hok b o q).stay (fun d u hd r => hd.elim (fun z => kg d o (by rw [z]; exact q) u r) fun z => kg d _ z u r) (fun _ q => q) fun _ _ q => q
    have I3 : L2.Inv X pins σ H2 s₁ := I2.call' j1.1 u3 k3 j1.2 (fun b z => absurd z (by simp))
    have e3 := I3.env0
    have e4 : Env0 X.prog X.w X.K X.mg X.base X.A.in1.in1 X.stack s₁ (fun _ => none) := ⟨e3.in1.in1.frames, e3.mod, fun b o q => ⟨(e3.bs b o q).1, rfl⟩, e3.bsz, e3.funs, fun _ _ => rfl, (fun b o q => (by cases q)), e3.bare⟩
    have of1 : s₁.heap.get? f = some (PySem.W.kla_obj "<lambda>" (X.env.qual ++ "<lambda>") params body scope (cloFrom X.env.cells scope.names []) pm c' ctv) := (up _ _ hf).2 hfr
    obtain ⟨⟨oc, us', tc, hoc, hdc, hvc⟩, _, _⟩ := I3.hok c' _ hco
    have C3 := cells_of I3 cp
    have rc : codeAny (model X.prog X.w) X.A.in1.in1 (.call (.ref f) ⟨[.str z t], []⟩) (CR C8.CX0 X.stack X.prog X.w (fun _ => none) s₁ (fun v H' => ∃ l, v = .ref l ∧ H' l = some (.lst ((key z).map V.int))) C8.E0) s₁ := by
      refine PySem.W.kla_callFunE hr2.depth of1 rfl S.co S.gen rfl ⟨c', oc, us', tc, rfl, hoc, hdc, hvc⟩ ?_
      rw [hbind]
      refine wpAny_pure (wpAny_newFunctionEnv S.nocell (fun yy hy => by
        rw [List.mem_singleton] at hy
        rw [hy]
        exact S.par y List.mem_cons_self) (fun h₁ hns hsb => ⟨I3.nolimit.fresh _ hsb, ?_⟩) S.kind)
      show codeAny _ _ (.expr body (envF (lamF X params scope c') f s₁.heap.objs.size)) _ _
      have kp : ∀ b o, s₁.heap.get? b = some o → h₁.get? b = some o := fun b o e => hsb.extBut b o (Nat.ne_of_lt (Heap.lt_size e)) (Heap.get?_push_of_some _ e)
      have J := inv_startN (CX := C8.CX0) (E := C8.E0) (F := lamF X params scope c') (f := f) (tk := s₁.toks + 1) S hr2.hd e4 (vs := [.str z]) (us := [.str z t]) rfl (.cons ⟨t, rfl⟩ .nil) ⟨C3.len, fun y c q => ⟨rfl, (C3.all y c q).2⟩, C3.inj, C3.has⟩ hns kp
      refine PySem.W.kla_codeExpr (wpAny_mono ((hbody _ X.stack s₁ _ C8.E0 f c' (hr2.deeper _)).run [] _ _ _ _ J (hk z hz)) (fun v s' hq => ?_) fun e s' hq => hq)
      obtain ⟨w', H', J', rv, q⟩ := hq
      exact ⟨w', H', J'.os, J'.bare, J'.base, J'.hok, rv, q⟩
    refine wpAny_call (codeAny_mono rc fun r s' hq => ?_)
    cases r with
    | error e => exact (show False from hq).elim
    | ok fl =>
      cases fl with
      | next => exact False.elim hq
      | brk => exact False.elim hq
      | cont => exact False.elim hq
      | ret u =>
        obtain ⟨v, H', os, bare, un', hok, rv', l, rfl, hl'⟩ := hq
        obtain rfl : u = Value.ref l := rv'
        obtain ⟨zl', its', n', rvl, hob⟩ := hok l _ hl'
        have hn : s₁.heap.get? l = none := by
          cases q : s₁.heap.get? l with
          | none => rfl
          | some o =>
            have := un'.free l o q rfl (by simp)
            rw [hl'] at this
            cases this
        refine ⟨⟨os.trans j1.1, bare⟩, fun b o q => ⟨un'.any q rfl (by simp), fun n => un'.keep b o q rfl n (by simp)⟩, l, _, rfl, hn, fun z => ?_, hob, fun g hg => ?_⟩
        · obtain ⟨o, q, _⟩ := (e3.funs.mem z).2
          rw [hn] at q
          cases q
        · exact ⟨_, Reads.list hg rfl rfl (by simpa using reads_ints rvl)⟩
  · have nP : H2 (s2.heap.objs.size + 1) = none := I2.hok.fresh (Nat.le_succ _)
    have kg : ∀ b o, H2 b = some o → ∀ u, s2.heap.get? b = some u → s₁.heap.get? b = some u := fun b o q u r => (up b u r).2 fun z => by rw [I2.stkFree b z] at q; cases q
    have at_ : ∀ b o, H2 b = some o → upd H2 (s2.heap.objs.size + 1) (.lst ((xs.mergeSort (dataLe false (keyD key))).map V.str)) b = some o := fun b o q => by rw [upd_ne (ne_of_none q nP)]; exact q
    have u3 : Un (frs X.stack) [] H2 (upd H2 (s2.heap.objs.size + 1) (.lst ((xs.mergeSort (dataLe false (keyD key))).map V.str))) s2.heap s₁.heap :=
      ⟨fun b ob q _ n _ => (up b ob q).2 n, fun b ob q _ _ _ => (up b ob q).1, fun b ob q n _ => by rw [upd_ne (Nat.ne_of_lt (Nat.lt_succ_of_lt (Heap.lt_size q)))]; exact n, fun b ob q _ => let ⟨sl, r⟩ := (up b ob q).1; ⟨_, r⟩, fun _ _ q => at_ _ _ q, fun _ _ _ q => at_ _ _ q, fun b ps q => ⟨#[], by rw [at_ _ _ q]; simp⟩⟩
    have k3 : HOk X.prog X.w (upd H2 (s2.heap.objs.size + 1) (.lst ((xs.mergeSort (dataLe false (keyD key))).map V.str))) s₁.heap := fun b o q => by
      by_cases hb : b = s2.heap.objs.size + 1
      · rw [hb, upd_same] at q
        cases q
        rw [hb]
        exact ⟨by rw [List.length_map, ← ho.length, hlen]; exact zl, out, ce, strs_vals ho, hat⟩
      · rw [upd_ne hb] at q
        exact (I2.hok b o q).stay (fun d u hd r => hd.elim (fun z => kg d o (by rw [z]; exact q) u r) fun z => kg d _ z u r) (fun _ q => at_ _ _ q) fun _ _ q => at_ _ _ q
    exact ⟨.ref _, _, I2.call' j1.1 u3 k3 j1.2 (fun b z => absurd z (by simp)), rfl, q _ _ eN T2 nP⟩
end
end ShL
set_option Elab.async false
set_option linter.all false
set_option maxRecDepth 100000
set_option maxHeartbeats 4000000
namespace Sh
open PySem PySem.Spec PyProof.Rows L2
/-! ### own == and != -/
/-- a class of the text's own with an __eq__ at f and no __ne__ -/
structure EqC (K : PySem.W.Frag) (C f : Addr) : Prop where
  eq : PySem.W.findIn K (.ref C) "__eq__" = some (some (.ref f))
  fn : PySem.W.isFn K (.ref f) = true
  ne : PySem.W.findIn K (.ref C) "__ne__" = some (some (.builtin "object.__ne__"))
  ob : PySem.W.mroIn K C (.type "object") = some true
  nl : PySem.W.mroIn K C (.type "list") = some false
  nt : PySem.W.mroIn K C (.type "tuple") = some false
section
variable {prog : Program} {w : World} {A : Around} {E : Value → Shared → Prop} {s : Shared} {K : PySem.W.Frag} {x C f : Addr} {ox : Obj} {od : Option Obj} {b : Value}
theorem ne_entry {Q : Fin → Shared → Prop} (e : EqC K C f) (X : K.In s.heap) (I : PySem.W.InstAt s.heap x ox C od) (hu : A.units < cLine)
    (h : wpAny (model prog w) A (call (.ref f) [.ref x, b]) (fun v s' => ∃ k, v = .bool k ∧ Q (.done (.ret (.bool (!k)))) s') E s) : wpAny (model prog w) A (Builtin.«object.__ne__» ⟨[.ref x, b], []⟩) Q E s := by
  unfold Builtin.«object.__ne__»
  repeat (first
    | with_reducible refine wpAny_cRoomFor hu ?_
    | (refine wpAny_bind (m := callSpecialIfBound? (.ref x) (Str.ofString "__eq__") [b]) (PySem.W.ifBound_K X I e.eq e.fn (wpAny_mono h (fun r s' hr => by
          obtain ⟨k, rfl, hq⟩ := hr
          repeat (first | exact hq | exact wpAny_pure hq | exact wpAny_truthy_bool hq | (refine wpAny_bind (m := truthy (.bool _)) (wpAny_truthy_bool ?_)) | wp_step)) fun _ _ e => e)))
    | wp_step)
theorem rc_ne {Q : Value → Shared → Prop} {tb : Value} (e : EqC K C f) (X : K.In s.heap) (I : PySem.W.InstAt s.heap x ox C od) (hu : A.units + 1 < cLine) (hb : PySem.W.Looks (model prog w) s.heap (typeOf b) tb) (hn : PySem.W.notFirst K C tb = true)
    (h : wpAny (model prog w) A.in1 (call (.ref f) [.ref x, b]) (fun v s' => ∃ k, v = .bool k ∧ Q (.bool (!k)) s') E s) : wpAny (model prog w) A (richCompare .NotEq (.ref x) b) Q E s := by
  have one : wpAny (model prog w) A (tryCompare (.ref x) "__ne__" b) (fun r s' => ∃ v, r = some v ∧ Q v s') E s := by
    unfold tryCompare
    refine wpAny_bind (NtL.csib (I.type.andThen (PySem.W.looks_findIn X e.ne)) (F.cmp_object.ne.bind _) (wpAny_call (codeAny_call_builtin F.cmp_object.ne.plain F.cmpEntry_ne
      (PySem.W.check_slot F.cmpKind_ne F.cmpSplit_ne (I.type.andThen (PySem.W.looks_mroIn X e.ob)) (F.cmpArgs_ne _ _) (ne_entry (A := A.in1) e X I hu (wpAny_mono h (fun v s' hv => ?_) fun _ _ e => e))))))
    obtain ⟨k, rfl, hq⟩ := hv
    exact ⟨k, rfl, wpAny_pure ⟨_, rfl, hq⟩⟩
  simp only [richCompare, cmpInfo_NotEq, oneThing_ref]
  refine wpAny_holding (wpAny_bind (wpAny_cRoomFor (Nat.lt_of_succ_lt hu) ?_))
  refine wpAny_bind (I.type.here (wpAny_bind (hb.here ?_)))
  have fin : wpAny (model prog w) A (tryCompare (.ref x) "__ne__" b) (fun r s' => ∃ v, r = some v ∧ Q v s') E s := one
  split
  · rename_i q
    have e2 : PySem.W.subIn K tb (.ref C) = some false := by
      rcases Bool.or_eq_true_iff.mp hn with e | e
      · rw [beq_iff_eq.mp e] at q; simp at q
      · exact beq_iff_eq.mp e
    refine wpAny_bind ((PySem.W.looks_subIn X e2).here ?_)
    simp only [Bool.false_eq_true, if_false]
    refine wpAny_bind (wpAny_mono one (fun r s' z => ?_) fun _ _ e => e)
    obtain ⟨v, rfl, hq⟩ := z
    exact wpAny_pure hq
  · refine wpAny_bind (wpAny_pure ?_)
    simp only [Bool.false_eq_true, if_false]
    refine wpAny_bind (wpAny_mono one (fun r s' z => ?_) fun _ _ e => e)
    obtain ⟨v, rfl, hq⟩ := z
    exact wpAny_pure hq
end
section
variable {X : Cx} {CX : CXT} {k : Nat} {C f : Addr} {fd : FuncData} {ps : List Str} {sp : Sp}
def rEqO (C : Addr) (sp : Sp) : R2 := fun x y H Q => ∃ a b dx dy fs gs, x = .ref a ∧ y = .ref b ∧ H a = some (.ins C dx fs) ∧ H b = some (.ins C dy gs) ∧ sp [.ref a, .ref b] H (fun v H' => ∃ k, v = .bl k ∧ Q (.bl k) H') (fun _ _ _ => False)
def rNeO (C : Addr) (sp : Sp) : R2 := fun x y H Q => ∃ a b dx dy fs gs, x = .ref a ∧ y = .ref b ∧ H a = some (.ins C dx fs) ∧ H b = some (.ins C dy gs) ∧ sp [.ref a, .ref b] H (fun v H' => ∃ k, v = .bl k ∧ Q (.bl (!k)) H') (fun _ _ _ => False)
theorem run_eqO {A : Around} {pins : List (Addr × Obj)} {σ : L2.St} {H : Hp} {s : Shared} {a b : Addr} {R : Bool → Hp → Prop} (F : FnOk X.prog X.w X.K X.mg X.base CX k f fd ps sp) (hb : Binds X.K fd ps []) (hx : Passes CX X (fun _ _ _ => False)) (hr : Room k A) (hf : A.frames = X.A.frames) (I : L2.Inv X pins σ H s)
    (h : sp [.ref a, .ref b] H (fun v H' => ∃ k, v = .bl k ∧ R k H') (fun _ _ _ => False)) : wpAny (model X.prog X.w) A (call (.ref f) [.ref a, .ref b]) (fun v s' => ∃ k, v = .bool k ∧ ∃ H', L2.Inv X pins σ H' s' ∧ R k H') X.xe s := by
  have e := I.env0
  have e0 : Env0 X.prog X.w X.K X.mg X.base A X.stack s H := ⟨by rw [hf]; exact e.frames, e.mod, e.bs, e.bsz, e.funs, e.frf, e.hok, e.bare⟩
  have hl := F.len _ _ _ _ h
  refine wpAny_call (codeAny_mono (F.run A X.stack s H ⟨[.ref a, .ref b], []⟩ [.ref a, .ref b] [.ref a, .ref b] _ _ hr e0 (by
    have := hb s [.ref a, .ref b] I.kIn (by simpa using hl)
    simpa using this) (.cons rfl (.cons rfl .nil)) h) fun r s' hq => ?_)
  cases r with
  | error e => exact hx pins σ H s e s' I hq
  | ok fl =>
    cases fl with
    | ret w =>
      obtain ⟨z, H', I', rz, k, ez, q⟩ := I.after hq
      subst ez
      cases rz
      exact ⟨k, rfl, H', I', q⟩
    | next => exact False.elim hq
    | brk => exact False.elim hq
    | cont => exact False.elim hq
theorem op_eqO (e : EqC X.K C f) (F : FnOk X.prog X.w X.K X.mg X.base CX k f fd ps sp) (hb : Binds X.K fd ps []) (hx : Passes CX X (fun _ _ _ => False)) (hr : Room k X.A) : OpR X (compareOp .Eq) (rEqO C sp) := by
  intro pins s σ H x y v u Q I rx ry h
  obtain ⟨a, b, dx, dy, fs, gs, rfl, rfl, ha, hb', hs⟩ := h
  cases rx
  cases ry
  obtain ⟨mA, J, _⟩ := ins_get I.hok ha
  obtain ⟨mB, J', _⟩ := ins_get I.hok hb'
  obtain ⟨od, J, _⟩ := J.look
  obtain ⟨od', J', _⟩ := J'.look
  obtain ⟨m, hF⟩ := I.fr
  show wpAny (model X.prog X.w) X.A (richCompare .Eq (.ref a) (.ref b)) (EP X pins σ Q) X.xe s
  refine PySem.W.cmp_K (op := .Eq) (tb := .ref C) hr.units0 hF I.ok.mod.kin J J'.type (by simp [PySem.W.notFirst]) e.eq e.fn (wpAny_mono (run_eqO F hb hx hr rfl I hs) (fun v s' q => ?_) fun _ _ z => z)
  obtain ⟨k, rfl, H', I', q⟩ := q
  exact ⟨.bl k, H', I', rfl, q⟩
theorem op_neO (e : EqC X.K C f) (F : FnOk X.prog X.w X.K X.mg X.base CX k f fd ps sp) (hb : Binds X.K fd ps []) (hx : Passes CX X (fun _ _ _ => False)) (hr : Room (k + 1) X.A) : OpR X (compareOp .NotEq) (rNeO C sp) := by
  intro pins s σ H x y v u Q I rx ry h
  obtain ⟨a, b, dx, dy, fs, gs, rfl, rfl, ha, hb', hs⟩ := h
  cases rx
  cases ry
  obtain ⟨mA, J, _⟩ := ins_get I.hok ha
  obtain ⟨mB, J', _⟩ := ins_get I.hok hb'
  obtain ⟨od, J, _⟩ := J.look
  obtain ⟨od', J', _⟩ := J'.look
  have un := hr.un
  show wpAny (model X.prog X.w) X.A (richCompare .NotEq (.ref a) (.ref b)) (EP X pins σ Q) X.xe s
  refine rc_ne (tb := .ref C) e I.kIn J (by omega) J'.type (by simp [PySem.W.notFirst]) (wpAny_mono (run_eqO F hb hx hr.in1 rfl I hs) (fun v s' q => ?_) fun _ _ z => z)
  obtain ⟨k, rfl, H', I', q⟩ := q
  exact ⟨k, rfl, .bl (!k), H', I', rfl, q⟩
end
/-! ### an own == that returns NotImplemented: of a list -/
section
variable {X : Cx} {C f : Addr} {fd : FuncData}
theorem run_ni {P : Program} {w : World} {K : PySem.W.Frag} {mg : Str → Option Value} {base : Heap} {qual : Str} {st : Stmt} {N : List Str} {c : Expr} {rest : List Stmt} {p p2 p3 : Pos} {tt : TT} {A : Around} {outer : List Env} {s : Shared} {H : Hp} {us : List Value} {vs : List V} {R : Hp → Prop}
    (F : Fun K "__eq__" qual st f fd) (S : FnScope N ["self", "other"] (defScope st)) (hbd : defBody st = .If c [.Return (some (.Name "NotImplemented" p)) p2] [] p3 :: rest) (hbi : Binds K fd ["self", "other"] [])
    (hg : (defScope st).names.lookup ("NotImplemented" : Str) = some .globalImplicit) (hm : mg "NotImplemented" = none)
    (ht : ∀ (cdv : Value) (A : Around) (outer : List Env) (s : Shared) (H : Hp) (E : XK), Room 0 A → PT (cxOf CX0 P w K mg base N qual (defScope st) f cdv A outer s H E) c tt)
    (hr : Room 1 A) (e0 : Env0 P w K mg base A outer s H) (r : Vals vs us) (hl : vs.length = 2) (q : tt (L2.start N vs) H (fun b H' => b = true ∧ R H')) :
    wpAny (model P w) A (call (.ref f) us) (fun v s' => v = .notImplemented ∧ ∃ H', s'.os = s.os ∧ AllBare s'.gens ∧ Un (frs outer) [] H H' s.heap s'.heap ∧ HOk P w H' s'.heap ∧ R H') (fun _ _ => False) s := by
  have KX : K.In s.heap := e0.mod.kin.keeps fun b o z => (e0.bs b o z).1
  have hb := hbi s us KX (by rw [List.append_nil, ← r.length, hl]; rfl)
  obtain ⟨oc, od, kV, doc, pm, an, cdv, ct, osl, rfl, lk, hcd⟩ := F.ex
  have hl2 : vs.length = (["self", "other"] : List Str).length := hl
  have hkind : ∀ y ∈ (["self", "other"] : List Str).zip us, (defScope st).names.lookup y.1 = some .local ∨ ((defScope st).names.lookup y.1 = some .cell ∧ ((cellsFrom (s.heap.objs.size + 1) (defScope st).names []).lookup y.1).isSome = true) := fun y hy =>
    (S.par y.1 (List.of_mem_zip (a := y.1) (b := y.2) hy).1).imp id fun z => ⟨z, PySem.W.cellsFrom_some _ _ _ (.inl z)⟩
  rw [List.append_nil] at hb
  refine wpAny_call (codeAny_call_function hr.depth (KX _ _ lk) rfl S.co S.gen rfl (PySem.W.codeRec_of KX hcd) (hb _ _ _ _ (wpAny_newFunctionEnv_cells S.kind hkind fun env he s1 y => ?_)))
  subst he
  refine ⟨(e0.mod.nolimit.keeps fun b o z => (e0.bs b o z).1).keeps y.toInCall.keep, codeAny_func ?_⟩
  have I := inv_start (CX := CX0) (E := fun _ _ _ => False) S hr.hd e0 hl2 r y
  rw [hbd]
  refine wpAny_mono (wpAny_execs_cons (wpAny_If (thn ((ht cdv A outer s H (fun _ _ _ => False) (hr.mono (by decide))).run [] s1 _ H _ I q) fun d s2 ⟨H1, I1, ed, qn⟩ => ?_))) (fun fl s' hs => hs) fun e s' hs => hs
  subst ed
  refine wpAny_execs_cons (wpAny_Return_some (ld_blt I1 hg hm rfl ?_))
  exact ⟨rfl, H1, I1.os, I1.bare, I1.base, I1.hok, qn⟩
theorem sub_list {K : PySem.W.Frag} {C : Addr} : PySem.W.subIn K (.type "list") (.ref C) = some false := by
  have e : fastBuiltinMro "list" = some [.type "list", .type "object"] := by decide +kernel
  show (fastBuiltinMro "list").map (·.contains (.ref C)) = some false
  rw [e]
  first
    | rfl
    | simp
theorem list_eq_ins {prog : Program} {w : World} {A : Around} {E : Value → Shared → Prop} {s : Shared} {K : PySem.W.Frag} {x b C : Addr} {ox ob : Obj} {od : Option Obj} {Q : Option Value → Shared → Prop} (X : K.In s.heap) (I : PySem.W.InstAt s.heap x ox C od) (nl : PySem.W.mroIn K C (.type "list") = some false)
    (hb : s.heap.get? b = some ob) (hc : ob.cls = .type "list") (h : Q none s) : wpAny (model prog w) A (tryCompare (.ref b) "__eq__" (.ref x)) Q E s := by
  refine wpAny_tryCompare_declines (show s.TypeIs (.ref b) "list" from ⟨ob, hb, hc⟩) F.slot_list_eq (GQ.call_here F.slot_list_eq ⟨ob, hb, hc⟩ F.entry_list_eq (F.args_list_eq_2 _ _) ?_)
  have L : PySem.W.Looks (model prog w) s.heap (isInstance (.ref x) (.type "list")) false := I.type.andThen (PySem.W.looks_mroIn X nl)
  unfold Builtin.«list.__eq__»
  repeat (first | with_reducible refine wpAny_bind (L.here ?_) | wp_step)
  exact ⟨rfl, h⟩
/-- o == xs, where o's own == gives NotImplemented: False -/
def rEqNL (N : List Str) (C : Addr) (tt : TT) : R2 := fun x y H Q => ∃ a b dx fs xs, x = .ref a ∧ y = .ref b ∧ H a = some (.ins C dx fs) ∧ H b = some (.lst xs) ∧
  tt (L2.start N [x, y]) H (fun k H' => k = true ∧ H' a = some (.ins C dx fs) ∧ H' b = some (.lst xs) ∧ Q (.bl false) H')
theorem op_eqNL {qual : Str} {st : Stmt} {N : List Str} {c : Expr} {rest : List Stmt} {p p2 p3 : Pos} {tt : TT} (e : EqC X.K C f)
    (F : Fun X.K "__eq__" qual st f fd) (S : FnScope N ["self", "other"] (defScope st)) (hbd : defBody st = .If c [.Return (some (.Name "NotImplemented" p)) p2] [] p3 :: rest) (hbi : Binds X.K fd ["self", "other"] [])
    (hg : (defScope st).names.lookup ("NotImplemented" : Str) = some .globalImplicit) (hm : X.mg "NotImplemented" = none)
    (ht : ∀ (cdv : Value) (A : Around) (outer : List Env) (s : Shared) (H : Hp) (E : XK), Room 0 A → PT (cxOf CX0 X.prog X.w X.K X.mg X.base N qual (defScope st) f cdv A outer s H E) c tt) (hr : Room 1 X.A) : OpR X (compareOp .Eq) (rEqNL N C tt) := by
  intro pins s σ H x y v u Q I rx ry h
  obtain ⟨a, b, dx, fs, xs, rfl, rfl, ha, hb, hq⟩ := h
  cases rx
  cases ry
  have hab : a ≠ b := ne_of ha hb (by intro z; cases z)
  obtain ⟨mA, J, _⟩ := ins_get I.hok ha
  obtain ⟨od, J, _⟩ := J.look
  obtain ⟨_, its, n, _, hob⟩ := I.hok b _ hb
  have un := hr.un
  have one : wpAny (model X.prog X.w) X.A (tryCompare (.ref a) "__eq__" (.ref b)) (fun r s' => r = none ∧ ∃ H', L2.Inv X pins σ H' s' ∧ H' a = some (.ins C dx fs) ∧ H' b = some (.lst xs) ∧ Q (.bl false) H') X.xe s := by
    unfold tryCompare
    refine wpAny_bind (PySem.W.ifBound_K I.kIn J e.eq e.fn (wpAny_mono (run_ni F S hbd hbi hg hm ht hr I.env0 (us := [.ref a, .ref b]) (vs := [.ref a, .ref b]) (.cons rfl (.cons rfl .nil)) rfl hq) (fun v s' z => ?_) fun _ _ z => z.elim))
    obtain ⟨rfl, H', os, bare, un, hok, q1, q2, q3⟩ := z
    exact wpAny_pure ⟨rfl, H', I.call' os un hok bare (fun b z => absurd z (by simp)), q1, q2, q3⟩
  show wpAny (model X.prog X.w) X.A (richCompare .Eq (.ref a) (.ref b)) (EP X pins σ Q) X.xe s
  simp only [richCompare, cmpInfo_Eq, oneThing_ref]
  refine wpAny_holding (wpAny_bind (wpAny_cRoomFor (by omega) ?_))
  refine wpAny_bind (J.type.here ?_)
  refine wpAny_bind (wpAny_typeOf (show s.TypeIs (.ref b) "list" from ⟨_, hob, rfl⟩) ?_)
  have tail : ∀ s1, (∃ H', L2.Inv X pins σ H' s1 ∧ H' a = some (.ins C dx fs) ∧ H' b = some (.lst xs) ∧ Q (.bl false) H') → wpAny (model X.prog X.w) X.A (tryCompare (.ref b) "__eq__" (.ref a)) (fun r s' => r = none ∧ s' = s1) X.xe s1 ∧ wpAny (model X.prog X.w) X.A (isSame (.ref a) (.ref b)) (fun r s' => r = false ∧ s' = s1) X.xe s1 := by
    rintro s1 ⟨H', I1, q1, q2, _⟩
    obtain ⟨mB, J1, _⟩ := ins_get I1.hok q1
    obtain ⟨od1, J1, _⟩ := J1.look
    obtain ⟨_, its1, n1, _, hob1⟩ := I1.hok b _ q2
    exact ⟨list_eq_ins I1.kIn J1 e.nl hob1 rfl ⟨rfl, rfl⟩, PySem.SeqAt.wpAny_isSame_ref_other' hab J1.at_ hob1 (by intro z; injection z with z; exact absurd z (by decide)) ⟨rfl, rfl⟩⟩
  split
  · refine wpAny_bind ((PySem.W.looks_subIn I.kIn sub_list).here ?_)
    simp only [Bool.false_eq_true, if_false, Bool.not_false, if_true]
    refine wpAny_bind (m := tryCompare (.ref a) _ (.ref b)) (wpAny_mono one (fun r s1 z => ?_) fun _ _ e => e)
    obtain ⟨rfl, z⟩ := z
    refine wpAny_bind (m := tryCompare (.ref b) _ (.ref a)) (wpAny_mono (tail s1 z).1 (fun r s2 y => ?_) fun _ _ e => e)
    obtain ⟨rfl, rfl⟩ := y
    refine wpAny_bind (wpAny_rule (wpAny_bind (wpAny_mono (tail s2 z).2 (fun r s3 y => ?_) fun _ _ e => e)))
    obtain ⟨rfl, rfl⟩ := y
    obtain ⟨H', I1, _, _, q⟩ := z
    exact wpAny_pure ⟨.bl false, H', I1, rfl, q⟩
  · refine wpAny_bind (wpAny_pure ?_)
    simp only [Bool.false_eq_true, if_false, Bool.not_false, if_true]
    refine wpAny_bind (m := tryCompare (.ref a) _ (.ref b)) (wpAny_mono one (fun r s1 z => ?_) fun _ _ e => e)
    obtain ⟨rfl, z⟩ := z
    refine wpAny_bind (m := tryCompare (.ref b) _ (.ref a)) (wpAny_mono (tail s1 z).1 (fun r s2 y => ?_) fun _ _ e => e)
    obtain ⟨rfl, rfl⟩ := y
    refine wpAny_bind (wpAny_rule (wpAny_bind (wpAny_mono (tail s2 z).2 (fun r s3 y => ?_) fun _ _ e => e)))
    obtain ⟨rfl, rfl⟩ := y
    obtain ⟨H', I1, _, _, q⟩ := z
    exact wpAny_pure ⟨.bl false, H', I1, rfl, q⟩
end
end Sh
set_option Elab.async false
set_option linter.all false
set_option maxRecDepth 100000
set_option maxHeartbeats 4000000
namespace Sh
open PySem PySem.Spec PyProof.Rows L2
/-! ### (a, b, ..) = a list or tuple -/
section
variable {X : Cx} {pos : Pos}
def gUnE (K : PySem.W.Frag) (n : Nat) (t : TGs) : TG := fun v σ H Q => ∃ a xs, v = .ref a ∧ (SqL K H a xs ∨ SqT K H a xs) ∧ xs.length = n ∧ t xs σ H Q
theorem pg_unE {es : List Expr} {k : Nat} {t : TGs} {n : Nat} (hc : X.calm = true) (h : PGs X es t)
    (hn : (assignEach es X.env).length = n := by rfl) (hst : (assignEach es X.env).findIdx? (·.1) = none := by rfl) : PG X (.Tuple es k pos) (gUnE X.K n t) := by
  refine ⟨fun pins s σ H v u Q I r hw => ?_⟩
  obtain ⟨a, xs, e1, hq | hq, hl, hw⟩ := hw
  · exact (pg_unl hc h hn hst).run pins s σ H v u Q I r ⟨a, xs, e1, hq, hl, hw⟩
  · exact (pg_tup hc h hn hst).run pins s σ H v u Q I r ⟨a, xs, e1, hq, hl, hw⟩
/-! ### s * n -/
def repS (z : Str) (n : Nat) : Str := ⟨(List.replicate n z.cps.toList).flatten.toArray⟩
theorem fold_app (xs : List Nat) : ∀ (n : Nat) (acc : Array Nat), ((List.replicate n xs.toArray).foldl (· ++ ·) acc) = acc ++ (List.replicate n xs).flatten.toArray
  | 0, acc => by simp
  | n + 1, acc => by
    rw [List.replicate_succ, List.foldl_cons, fold_app xs n, List.replicate_succ, List.flatten_cons]
    apply Array.ext'
    simp
theorem repS_fold (z : Str) (n : Nat) : (⟨(List.replicate n z.cps).foldl (· ++ ·) #[]⟩ : Str) = repS z n := by
  have e := fold_app z.cps.toList n #[]
  rw [Array.toArray_toList] at e
  unfold repS
  rw [e]
  simp
theorem repS_len (z : Str) (n : Nat) : (repS z n).length = n * z.length := by
  show (List.replicate n z.cps.toList).flatten.toArray.size = n * z.cps.size
  simp
theorem op_mulS : OpR X (binaryOp .Mult) (fun x y H Q => ∃ (z : Str) (n : Nat), x = .str z ∧ y = .int (n : Int) ∧ n ≤ 1000 ∧ z.length ≤ 1000 ∧ Q (.str (repS z n)) H) := by
  intro pins s σ H x y v u Q I rx ry h
  obtain ⟨z, n, rfl, rfl, hn, hz, q⟩ := h
  obtain ⟨t, rfl⟩ := rx
  obtain ⟨k, rfl⟩ := ry
  have hle : n * z.length ≤ 1000 * 1000 := Nat.mul_le_mul hn hz
  refine P.mul_str (by rw [Bool.or_eq_false_iff]; exact ⟨decide_eq_false (by omega), decide_eq_false (by omega)⟩) (fun h1 _ h2 => ?_) (fun _ _ => ?_) ?_
  · have h3 : ((z.length : Nat) : Int) ≤ 1000 := by omega
    have h4 : (2 ^ 63 - 1 : Int) / (n : Int) ≥ 1000 := by
      have : (1000 : Int) * (n : Int) ≤ 2 ^ 63 - 1 := by omega
      exact (Int.le_ediv_iff_mul_le (by omega)).mpr this
    omega
  · have : ¬ z.length * ((n : Int)).toNat > 16777216 := by
      rw [Int.toNat_natCast, Nat.mul_comm]
      omega
    unfold Builtin.Str.tooLong
    exact decide_eq_false this
  · have el : (repS z n).length ≤ sizeLine := by rw [repS_len, sizeLine_eq]; omega
    split
    · rename_i h1
      have e0 : n = 0 := by omega
      subst e0
      have e : repS z 0 = Str.empty := rfl
      rw [← e]
      exact ⟨by rw [e]; decide, .str (repS z 0), H, I.tok _, ⟨_, rfl⟩, q⟩
    · split
      · rename_i h1 h2
        have e : repS z n = z := by
          rcases Bool.or_eq_true_iff.mp h2 with h3 | h3
          · have e1 : n = 1 := by
              have := beq_iff_eq.mp h3
              omega
            subst e1
            unfold repS
            simp
          · have e1 : z.length = 0 := beq_iff_eq.mp h3
            have e2 : z.cps.toList = [] := by
              apply List.eq_nil_of_length_eq_zero
              rw [Array.length_toList]
              exact e1
            have e3 : z = ⟨#[]⟩ := by
              obtain ⟨c⟩ := z
              obtain ⟨c⟩ := c
              cases e2
              rfl
            rw [e3]
            unfold repS
            simp
        exact ⟨.str z, H, I, ⟨_, rfl⟩, e ▸ q⟩
      · rw [repS_fold, Int.toNat_natCast]
        exact ⟨el, .str (repS z n), H, I.tok _, ⟨_, rfl⟩, q⟩
/-! ### s[::-1] -/
def revS (z : Str) : Str := ⟨z.cps.toList.reverse.toArray⟩
def tRevS (te : TE) : TE := fun σ H Q => te σ H fun x H1 => ∃ z, x = .str z ∧ z.length ≤ sizeLine ∧ Q (.str (revS z)) H1
theorem rev_indices (n : Nat) : Builtin.Str.strSliceIndices none none (-1) n = (List.range n).reverse := by
  unfold Builtin.Str.strSliceIndices
  show sliceRange ((n : Int) - 1) (-1) (-1) = _
  rw [PySem.W.krv_sliceRange, PySem.W.krv_range]
theorem pe_revS {e : Expr} {te : TE} {k : Nat} {p1 p2 p3 pos : Pos} (he : PE X e te) : PE X (.Subscript e (.Slice none none (some (.UnaryOp .USub (.Constant (.int 1) k p1) p2)) p3) pos) (tRevS te) := by
  refine ⟨fun pins s σ H Q I h => ?_⟩
  refine Subscript_ (thn (he.run pins s σ H _ I h) fun v s1 ⟨x, H1, I1, r1, q1⟩ => ?_)
  obtain ⟨z, rfl, hz, q⟩ := q1
  obtain ⟨t, rfl⟩ := r1
  have hst : PO X (some (.UnaryOp .USub (.Constant (.int 1) k p1) p2)) (tPart (tUn (rU fun i => .int (-i)) (tC (.int 1)))) := po_some (pe_un un_neg pe_int)
  refine wpAny_Slice (thn (po_none.run pins s1 σ H1 (fun o H2 => o = none ∧ H2 = H1) I1 ⟨rfl, rfl⟩) fun vl s2 ⟨l, H2, I2, pl, el, e2⟩ => ?_)
  subst el e2
  refine thn (po_none.run pins s2 σ H2 (fun o H3 => o = none ∧ H3 = H2) I2 ⟨rfl, rfl⟩) fun vu s3 ⟨u, H3, I3, pu, eu, e3⟩ => ?_
  subst eu e3
  refine thn (hst.run pins s3 σ H3 (fun o H4 => o = some (-1) ∧ H4 = H3) I3 ⟨1, rfl, -1, rfl, rfl, rfl⟩) fun vs s4 ⟨o, H4, I4, ps, eo, e4⟩ => ?_
  subst eo e4
  obtain ⟨lo, rfl, e5⟩ := IsPart.raw pl
  obtain ⟨hi, rfl, e6⟩ := IsPart.raw pu
  obtain ⟨sp, rfl, e7⟩ := IsPart.raw ps
  have I5 : L2.Inv X pins σ H4 { s4 with heap := s4.heap.push { cls := .type "slice", data := .fields #[partValue lo, partValue hi, partValue sp] } } := I4.kept (t' := s4.toks) fun b ob q => Heap.get?_push_of_some _ q
  show wpAny (model X.prog X.w) X.A (subscriptTail e (.Slice none none (some (.UnaryOp .USub (.Constant (.int 1) k p1) p2)) p3) (.str z t) (.ref s4.heap.objs.size)) (EP X pins σ Q) X.xe { s4 with heap := s4.heap.push { cls := .type "slice", data := .fields #[partValue lo, partValue hi, partValue sp] } }
  refine tail_any (ops := [.ref s4.heap.objs.size]) (typeIs_str _ z t) (PySem.F.slot_str_getitem.lookup) ?_ (by with_unfolding_all rfl)
  refine wpAny_getItem_str_slice (l := lo) (u := hi) (st := sp) ⟨_, Heap.get?_push_size _ rfl, rfl, rfl⟩ (by rw [e7]; rfl) ?_
  have hp : ((slicePicked z lo hi sp).filterMap (z.cps[·]?)).toArray = z.cps.toList.reverse.toArray := by
    unfold slicePicked
    rw [e5, e6, e7]
    show ((Builtin.Str.strSliceIndices none none (-1) z.cps.size).filterMap (z.cps[·]?)).toArray = _
    rw [rev_indices, List.filterMap_reverse, PySem.W.krv_all]
  unfold sliceMade
  rw [hp, if_neg (by rw [e7]; simp)]
  have el : (revS z).length ≤ sizeLine := by
    have e : z.cps.toList.reverse.toArray.size = z.cps.size := by simp
    show z.cps.toList.reverse.toArray.size ≤ _
    rw [e]
    exact hz
  exact ⟨el, .str (revS z), H4, I5.tok _, ⟨_, rfl⟩, q⟩
/-! ### cls(..), cls a name of the def that holds a class -/
def tMakeL (i : Nat) (C : Addr) (sp : Sp) (E : XK) (t : TA) : TE := fun σ H Q => σ[i]? = some (some (.ref C)) ∧ tMake C sp [] E t σ H Q
theorem pe_makeL {CX : CXT} {k i : Nat} {C f : Addr} {fd : FuncData} {ps : List Str} {sp : Sp} {E : XK} {x : Str} {p : Pos} {e : Expr} {es : List Expr} {t : TA} (M : Mk X.K C f) (F : FnOk X.prog X.w X.K X.mg X.base CX k f fd ps sp) (hr : Room (k + 1) X.A) (hN : X.N[i]? = some x) (hv : Vis X.env.scope x)
    (hb : Binds X.K fd ps []) (hx : Passes CX X E) (ha : PA X (e :: es) t) (hdb : (x == ("__debug__" : Str)) = false := by decide) (hcd : (x == ("__classdict__" : Str)) = false := by decide)
    (he : starEach (e :: es) X.env = (false, eval e X.env) :: starEach es X.env := by rfl) (hpl : (backTo pos (starEach es X.env)).any (·.1) = false := by rfl) :
    PE X (.Call (.Name x p) (e :: es) [] pos) (tMakeL i C sp E t) := by
  refine ⟨fun pins s σ H Q I h => ?_⟩
  obtain ⟨hs, h⟩ := h
  refine wpAny_Call_Name_kw (thn ((pe_var (pos := p) (i := i) hN hv hdb hcd).run pins s σ H (fun v H1 => v = .ref C ∧ H1 = H) I ⟨.ref C, hs, rfl, rfl⟩) fun u s1 ⟨v, H1, I1, r1, q1⟩ => ?_)
  obtain ⟨rfl, rfl⟩ := q1
  cases r1
  refine PySem.W.callWith_K (h₀ := X.base) I1.ok.mod.kin M.kp (thn (ha.run pos pins s1 σ _ _ I1 h) fun us s2 ⟨vs, H2, I2, r, q⟩ => ⟨I2.kIn, ?_⟩) he hpl
  exact run_make M F hr hb .nil hx I2 r q
end
end Sh
set_option Elab.async false
set_option linter.all false
set_option maxRecDepth 100000
set_option maxHeartbeats 4000000
namespace Sh
open PySem PySem.Spec PyProof.Rows L2
/-! ### list(s), s a text -/
section
variable {prog : Program} {w : World} {A : Around} {E : Value → Shared → Prop} {s : Shared} {x : Str} {t : Tok}
theorem hint_str {Q : Bool → Shared → Prop} (h : Q false s) : wpAny (model prog w) A (Builtin.List.listLengthHint (.str x t)) Q E s := by
  have hT : s.TypeIs (.str x t) "str" := typeIs_str s x t
  unfold Builtin.List.listLengthHint; refine wpAny_bind (wpAny_specialOf hT PySem.F.slot_str_len.lookup ?_)
  generalize hid : ("str.__len__" : String) = i0
  wp_delta
  rw [show splitId i0 = some ("str", "__len__") from by subst hid; decide +kernel]
  subst hid
  refine wpAny_bind (wpAny_isInstance (T := "str") (b := true) hT (by rw [isSubtype_type]; kernel_rfl) ?_)
  refine wpAny_ite_split (fun z => absurd z (by decide)) (fun _ => wpAny_ite_split (fun _ => ?_) (fun z => absurd (by decide +kernel) z))
  exact wpAny_bind (wpAny_typeOf hT (wpAny_pure h))
/-- what is left of the signs, laid into the list at S -/
abbrev LaidS (x : Str) (S : Addr) (s : Shared) (R : Heap → Nat → Prop) : Prop := ∀ h' tk acc c, (∀ b o, b ≠ S → s.heap.get? b = some o → h'.get? b = some o) → h'.get? S = some { cls := .type "list", dict := none, data := .seq acc c, slots := #[] } → ItemsOf (SignAt x) acc x.cps.size → R h' tk
theorem extend_str {R : Result → Shared → Prop} (hh : A.handled = none) (S : Addr) (c0 : Nat) (hS : s.heap.get? S = some { cls := .type "list", data := .seq #[] c0 }) (hn : x.cps.size ≤ sizeLine)
    (hR : LaidS x S s fun h' tk => R (.ok (.ret .none)) { s with heap := h', toks := tk }) :
    wpAny (model prog w) A.in1 (Builtin.List.listExtendWith (.ref S) (.str x t) .none) (fun fin s' => match fin with | .done f => R (.ok f) s' | .again c' => c'.quiet = true ∧ codeAny (model prog w) A c' R s') (fun e s' => R (.error e) s') s := by
  have hSI : S ≠ s.heap.objs.size := Nat.ne_of_lt (Heap.lt_size hS)
  have hSf : S ∉ [s.heap.objs.size] := by simpa using hSI
  unfold Builtin.List.listExtendWith; refine wpAny_bind (wpAny_typeOf (T := "str") (typeIs_str s x t) ?_)
  have e1 : Builtin.List.listSameRef (.ref S) (.str x t) = false := rfl
  have e2 : (Value.type "str" == Value.type "list") = false := by decide
  have e3 : (Value.type "str" == Value.type "tuple") = false := by decide
  simp only [e1, e2, e3, Bool.or_false, Bool.false_eq_true, if_false]
  refine wpAny_bind (wpAny_pyIter_str fun oI St W st => ?_)
  have Wk := W A.in1 hh
  have key : ∀ (h : Heap) (c1 tk : Nat), St 0 h → (∀ b o, b ≠ S → s.heap.get? b = some o → h.get? b = some o) → h.get? S = some { cls := .type "list", data := .seq #[] c1 } →
      codeAny (model prog w) A (.builtin "list.extend.loop" ⟨[.ref S, .ref s.heap.objs.size, .none], []⟩) R { s with heap := h, toks := tk } := by
    intro h c1 tk hst hk hS1
    refine codeAny_extend_loopS Wk.toS hn S hSf .none x.cps.size 0 _ #[] c1 rfl (Nat.zero_le _) hst hS1 (ItemsOf.nil _) fun s2 acc c hm hS2 hacc => ?_
    rw [Moved.eq_with hm]
    refine hR s2.heap s2.toks acc c (fun b o hb q => hm.heap b o (fun z => ?_) (hk b o hb q)) hS2 hacc
    rcases List.mem_cons.mp z with z | z
    · exact hb z
    · exact absurd (Heap.lt_size q) (by rw [List.mem_singleton.mp z]; exact Nat.lt_irrefl _)
  have hS1 := Heap.get?_push_of_some oI hS
  refine wpAny_bind (wpAny_holding (hint_str ?_)); refine wpAny_ite_split (fun _ => ?_) (fun _ => wpAny_pure ⟨plainId_quiet PySem.F.plain_extend_loop _, key _ c0 _ st (fun b o _ q => Heap.get?_push_of_some _ q) hS1⟩)
  refine wpAny_bind (wpAny_rule (wpAny_bind ?_))
  show wpAny _ _ (updateSeq S (·.push .none) >>= fun _ => updateSeq S (·.pop)) _ _ _
  refine wpAny_bind (wpAny_updateSeq hS1 rfl ?_)
  have hS2 := Heap.get?_update_self (Obj.mapSeq (·.push Value.none)) hS1 rfl
  refine wpAny_updateSeq (hz := by seq_fits) hS2 rfl ?_
  have hS3 := Heap.get?_update_self (Obj.mapSeq (·.pop)) hS2 rfl
  have up : ∀ b o, b ≠ S → (s.heap.push oI).get? b = some o → (((s.heap.push oI).update S (Obj.mapSeq (·.push Value.none))).update S (Obj.mapSeq (·.pop))).get? b = some o := fun b o hb q =>
    (Heap.get?_update_other _ _ (Ne.symm hb)).trans ((Heap.get?_update_other _ _ (Ne.symm hb)).trans q)
  exact wpAny_pure ⟨plainId_quiet PySem.F.plain_extend_loop _, key _ _ _ (Wk.frame 0 _ _ st fun b hb o q => up b o (fun z => hSf (z ▸ hb)) q) (fun b o hb q => up b o hb (Heap.get?_push_of_some _ q)) hS3⟩
theorem init_str {R : Result → Shared → Prop} (hh : A.handled = none) (S : Addr) (hS : s.heap.get? S = some { cls := .type "list", data := .seq #[] }) (hn : x.cps.size ≤ sizeLine)
    (hR : LaidS x S s fun h' tk => R (.ok (.ret .none)) { s with heap := h', toks := tk }) :
    wpAny (model prog w) A.in1 (Builtin.«list.__init__» ⟨[.ref S, .str x t], []⟩) (fun fin s' => match fin with | .done f => R (.ok f) s' | .again c' => c'.quiet = true ∧ codeAny (model prog w) A c' R s') (fun e s' => R (.error e) s') s := by
  show wpAny _ _ (do let old ← Builtin.List.listItems (.ref S); Builtin.List.listUpdate (.ref S) (fun _ => #[]); letGo old.toList.reverse; Builtin.List.listExtendWith (.ref S) (.str x t) .none) _ _ s
  refine wpAny_bind ?_; unfold Builtin.List.listItems
  refine wpAny_bind (wpAny_seqItems hS rfl (wpAny_pure ?_))
  show wpAny _ _ (updateSeq S (fun _ => #[]) >>= fun _ => letGo (#[] : Array Value).toList.reverse >>= fun _ => Builtin.List.listExtendWith (.ref S) (.str x t) .none) _ _ s
  refine wpAny_bind (wpAny_updateSeq hS rfl (wpAny_bind (wpAny_letGo ?_)))
  refine extend_str hh S _ (Heap.get?_update_self (Obj.mapSeq (fun _ => (#[] : Array Value))) hS rfl) hn fun h' tk acc c hk hS' hacc => hR h' tk acc c (fun b o hb q => hk b o hb ?_) hS' hacc
  exact (Heap.get?_update_other _ _ (Ne.symm hb)).trans q
theorem call_list_text {Q : Value → Shared → Prop} (hh : A.handled = none) (hn : x.cps.size ≤ sizeLine)
    (hQ : ∀ h' tk acc c, (∀ b o, s.heap.get? b = some o → h'.get? b = some o) → h'.get? s.heap.objs.size = some { cls := .type "list", dict := none, data := .seq acc c, slots := #[] } → ItemsOf (SignAt x) acc x.cps.size → Q (.ref s.heap.objs.size) { s with heap := h', toks := tk }) :
    wpAny (model prog w) A (call (.type "list") [.str x t]) Q E s := by
  refine callType_codes (Q₁ := fun obj s₁ => obj = .ref s.heap.objs.size ∧ s₁ = { s with heap := s.heap.push { cls := .type "list", data := .seq #[] } }) PySem.F.called_list (PySem.F.typeCall_list_1 _) PySem.F.entry_list_init (code_list_new _ ⟨rfl, rfl⟩) fun obj s₁ z => ?_
  obtain ⟨rfl, rfl⟩ := z
  have hS : (s.heap.push { cls := .type "list", data := .seq #[] }).get? s.heap.objs.size = some { cls := .type "list", data := .seq #[] } := Heap.get?_push_size _ rfl
  exact ⟨⟨_, hS, rfl⟩, PySem.F.args_list_init_2 _ _, init_str (A := A.in1) hh _ hS hn fun h' tk acc c hk hS' hacc => ⟨rfl, hQ h' tk acc c (fun b o q => hk b o (Nat.ne_of_lt (Heap.lt_size q)) (Heap.get?_push_of_some _ q)) hS' hacc⟩⟩
end
def signs (z : Str) : List Str := z.cps.toList.map fun c => (⟨#[c]⟩ : Str)
theorem call_list_str {X : Cx} (hc : X.calm = true) : CallR X (.type "list") (fun xs H Q => ∃ z, xs = [.str z] ∧ z.length ≤ sizeLine ∧ ∀ p, H p = none → Q (.ref p) (upd H p (.lst ((signs z).map V.str)))) := by
  intro pins s σ H xs us Q I r h
  obtain ⟨z, rfl, hz, q⟩ := h
  obtain ⟨u, rfl, t, rfl⟩ := vals1 r
  have el : ((signs z).map V.str).length = z.cps.size := by unfold signs; simp
  refine call_list_text (I.ok.hd hc) hz fun h' tk acc c keep hS hacc => ?_
  refine ⟨.ref s.heap.objs.size, upd H s.heap.objs.size (.lst ((signs z).map V.str)), I.laid keep (Nat.le_refl _) (show ObjOk X.prog X.w _ _ _ (.lst ((signs z).map V.str)) from ⟨by rw [el]; exact hz, acc.toList, c, ?_, by rw [Array.toArray_toList]; exact hS⟩), rfl, q _ (I.hok.fresh (Nat.le_refl _))⟩
  refine vals_of_at (by rw [el, Array.length_toList]; exact hacc.1.symm) fun j x y h1 h2 => ?_
  obtain ⟨cc, uu, hcc, rfl⟩ := hacc.2 j y (by rw [← Array.getElem?_toList]; exact h2)
  have e2 : ((signs z).map V.str)[j]? = some (V.str ⟨#[cc]⟩) := by
    unfold signs
    rw [List.getElem?_map, List.getElem?_map, Array.getElem?_toList, hcc]
    rfl
  rw [e2] at h1
  cases h1
  exact ⟨uu, rfl⟩
end Sh
set_option Elab.async false
set_option linter.all false
set_option maxRecDepth 100000
set_option maxHeartbeats 4000000
namespace ShL
theorem tab_uniq {α β : Type} {T : List (α × β)} (h : (T.map (·.1)).Nodup) {P : α} {q : β} (m : (P, q) ∈ T) : ∀ p ∈ T, p.1 = P → p.2 = q := by
  induction T with
  | nil => exact fun p hp => nomatch hp
  | cons a T ih =>
    rw [List.map_cons, List.nodup_cons] at h
    intro p hp e
    rcases List.mem_cons.mp hp with rfl | hp
    · rcases List.mem_cons.mp m with z | z
      · rw [← z]
      · exact absurd (List.mem_map.mpr ⟨_, z, e.symm⟩) h.1
    · rcases List.mem_cons.mp m with z | z
      · rw [← z] at h
        exact absurd (List.mem_map.mpr ⟨_, hp, e⟩) h.1
      · exact ih h.2 z p hp e
end ShL
namespace Sh
open PySem PySem.Spec PyProof.Rows L2 LamX
section
variable {P : Program} {w : World} {K : PySem.W.Frag} {mg : Str → Option Value} {base : Heap}
/-- as Fun.ok, the def's code object told -/
theorem okT {x qual : Str} {st : Stmt} {f : Addr} {fd : FuncData} {N ps : List Str} {k : Nat} {sp : Sp} (F : Fun K x qual st f fd) (S : FnScope N ps (defScope st)) (len : ∀ vs H Q E, sp vs H Q E → vs.length = ps.length)
    (hbody : ∀ (cdv : Value) (A : Around) (outer : List Env) (s : Shared) (H : Hp) (vs : List V) (Q : VK) (E : XK), fd.code = cdv → Room k (A.deeper (envOfC qual (defScope st) s.heap.objs.size f cdv)) → sp vs H Q E →
      ∃ t, PSs (cxOf CX0 P w K mg base N qual (defScope st) f cdv A outer s H E).nox (defBody st) t ∧ t { nx := fun _ H' => Q .non H', rt := Q } (start N vs) H) : FnOk P w K mg base CX0 (k + 1) f fd ps sp := by
  obtain ⟨oc, od, kV, doc, pm, an, cdv, ct, osl, rfl, lk, hc⟩ := F.ex
  refine fn_of lk hc S len fun A outer s H vs Q E hr hsp => ?_
  obtain ⟨t, h, q⟩ := hbody cdv A outer s H vs Q E rfl hr hsp
  exact ⟨t, h.nox, q⟩
theorem fnR_of {CX : CXT} {k : Nat} {f : Addr} {fd : FuncData} {ps : List Str} {sp : Sp} (F : FnOk P w K mg base CX k f fd ps sp) (hb : Binds K fd ps []) : FnR P w K mg base CX k f sp := by
  have q := F.raw hb .nil
  exact q.imp fun vs H Q E h => by rw [List.append_nil]; exact h
end
/-- all but the tables is kept, and the tables still tell what they told -/
def Sm (T : List (Addr × Str)) (H H' : Hp) : Prop := ExtN H H' ∧ Tabs T H'
section
variable {T : List (Addr × Str)} {H H1 H2 : Hp}
theorem Sm.refl (t : Tabs T H) : Sm T H H := ⟨ExtN.refl H, t⟩
theorem Sm.trans (a : Sm T H H1) (b : Sm T H1 H2) : Sm T H H2 := ⟨a.1.trans b.1, b.2⟩
theorem Sm.of (t : Tabs T H) (s : Same H H1) : Sm T H H1 := ⟨ExtN.of s, t.ext s⟩
theorem Sm.ext (a : Sm T H H1) (s : Same H1 H2) : Sm T H H2 := a.trans (Sm.of a.2 s)
theorem Sm.new (a : Sm T H H1) {p : Addr} {o : HO} (h : H1 p = none) : Sm T H (upd H1 p o) := a.ext (same_upd h)
theorem Sm.get (a : Sm T H H1) {b : Addr} {o : HO} (h : H b = some o) (n : ∀ ps, o ≠ .tbl ps := by intro ps z; cases z) : H1 b = some o := a.1 b o h n
theorem extN_seqT {K : PySem.W.Frag} {a : Addr} {xs : List V} (e : ExtN H H1) (h : SqT K H a xs) : SqT K H1 a xs := by
  rcases h with (h | ⟨o, h⟩) | h
  · exact .inl (.inl (e _ _ h fun ps z => by cases z))
  · exact .inl (.inr ⟨o, e _ _ h fun ps z => by cases z⟩)
  · exact .inr h
/-- what a pen's draw leaves -/
theorem Tabs.kp {d : Addr} {kvs : List (Key × V)} (t : Tabs T H) (hd : H d = some (.dK kvs)) (s : Kp d H H1) : Tabs T H1 := fun p hp => by
  obtain ⟨ps, h1, h2, h3⟩ := t p hp
  have ne : ∀ {b : Addr} {o : HO}, H b = some o → o ≠ .dK kvs → H1 b = some o := fun {b o} q n => s b o q fun z => n (by rw [z, hd] at q; exact (Option.some.inj q).symm)
  refine ⟨ps, ne h1 (by intro z; cases z), h2, fun pos cv hc => ?_⟩
  obtain ⟨c, e1, e2⟩ := h3 pos cv hc
  exact ⟨c, e1, ne e2 (by intro z; unfold CodeO at z; cases z)⟩
end
end Sh
set_option Elab.async false
set_option linter.all false
set_option maxRecDepth 100000
set_option maxHeartbeats 4000000
namespace Sh
open PySem PySem.Spec PyProof.Rows L2
section
variable {X : Cx}
/-- name = {..} on one line, the name a local -/
theorem ps_setDc {i : Nat} {y : Str} {py : Pos} {kx vx tg iter : Expr} {ifs : List Expr} {scope : Scope} {own : List (Str × Nat)} {pos spos : Pos} {wi : TI} {g : TG} {tt : TT} {tk tv : TE} (hc : X.calm = true) (hN : X.N.Nodup) (hy : X.N[i]? = some y) (hyl : X.env.scope.names.lookup y = some .local)
    (hsw : swapsWith (.DictComp kx vx [⟨tg, iter, ifs, 0⟩] scope pos) (some (.Name y py)) spos.line X.env = pure true) (hi : PI X tg iter wi) (ok : BlkOk X.N X.env.scope scope own)
    (hg : ∀ (s : Shared) (H : Hp) (C : Addr) (cl : List (Str × Addr)) (fp : List Addr), PG (X.blk s H scope (compEnvC scope cl C X.env) fp) tg g)
    (ht : ∀ (s : Shared) (H : Hp) (C : Addr) (cl : List (Str × Addr)) (fp : List Addr), PTs (X.blk s H scope (compEnvC scope cl C X.env) fp) ifs tt) (hk : ∀ (s : Shared) (H : Hp) (C : Addr) (cl : List (Str × Addr)) (fp : List Addr), PE (X.blk s H scope (compEnvC scope cl C X.env) fp) kx tk)
    (he : ∀ (s : Shared) (H : Hp) (C : Addr) (cl : List (Str × Addr)) (fp : List Addr), PE (X.blk s H scope (compEnvC scope cl C X.env) fp) vx tv) (hs : ∀ z, foldedSetIterable iter X.env z = pure z := by intro _; rfl) :
    PS X (.Assign [.Name y py] (.DictComp kx vx [⟨tg, iter, ifs, 0⟩] scope pos) spos) (tAsg (tDc wi g tt tk tv (own.map (·.2))) (gName i)) := by
  refine ⟨fun pins s σ H D I h => ?_⟩
  rw [exec_Assign_Name_used _ _ _ _ hsw]
  refine wpAny_bind (wpAny_standAt (wpAny_bind ?_))
  show wpAny _ X.A (do let _ ← comprehension (.DictComp kx vx [⟨tg, iter, ifs, 0⟩] scope pos) scope X.env (firstIterPos [⟨tg, iter, ifs, 0⟩] pos) newDict false (eval iter X.env) (some (assign (.Name y py) X.env))) _ _ s
  have h : tDc wi g tt tk tv (own.map (·.2)) σ H (fun x H1 => gName i x σ H1 D.nx) := h
  refine wpAny_bind (thn (dc_core (Qf := fun _ s' => SP X pins D .next s') hc hN I hi ok hg ht hk he hs h fun L C s' m H' I' q hn f => ?_) fun _ s' hq => wpAny_pure (wpAny_pure hq))
  show wpAny _ _ (assign (.Name y py) X.env (.ref L)) _ _ _
  refine wpAny_assign_Name (store_ok2 (v := V.ref L) I' hN hy (.inl hyl) rfl (fun s2 I2 ⟨a, sb, ha⟩ => ?_) (.inr hyl))
  obtain ⟨f0, f1, f2, f3, f4, f5⟩ := f
  have haC : C ≠ a := ha.elim (fun z => z ▸ f1) fun z e => f4 y a z e.symm
  exact ⟨m, hn.sameBut sb haC, fun h3 sb3 => ⟨_, H', I2.turned (t' := s2.toks) (fun b o hb e => (sb3.2 b hb).trans e) f0 f1 f3 f4 f5, q⟩⟩
theorem sw_trueD {kx vx : Expr} {gs : List Comprehension} {scope : Scope} {pos py : Pos} {y : Str} {l : Nat} {env : Env} (hk : env.scope.kind = .function) (hy : env.scope.names.lookup y = some .local) (hl : (py.line == pos.line) = true)
    (hn : (scope.names.any fun (n, k) => n == y && (k == .local || k == .cell)) = false) : swapsWith (.DictComp kx vx gs scope pos) (some (.Name y py)) l env = pure true := by
  have ky : env.kindOf y = some .local := hy
  have hb : env.blockKind = .function := by unfold Env.blockKind; rw [hk]; rfl
  unfold swapsWith; simp only [hb, ky, hn, Expr.pos, hl]; rfl
end
/-- over a list that stays -/
theorem dc_list {K : PySem.W.Frag} {a : Addr} {xs : List V} {g : TG} {tt : TT} {tk tv : TE} {vs : List Nat} {σ : L2.St} {H1 : Hp} {D : Addr} {Qd : Hp → Prop} (Pv : Nat → Hp → Prop) (h0 : Pv 0 (upd H1 D (.dK []))) (hl : ∀ i H, i ≤ xs.length → Pv i H → SqL K H a xs)
    (hs : ∀ i x H, xs[i]? = some x → Pv i H → g x (wipe σ vs) H fun σ2 H2 => wipe σ2 vs = wipe σ vs ∧ tt σ2 H2 fun b H3 => if b = true then tk σ2 H3 fun y H4 => tv σ2 H4 fun z H5 => ∃ kvs k, y = kV k ∧ H5 D = some (.dK kvs) ∧ kvs.length < sizeLine ∧ Pv (i + 1) (upd H5 D (.dK (putK kvs k z))) else Pv (i + 1) H3)
    (hd : ∀ H, Pv xs.length H → Qd H) :
    ∃ W : Nat → Nat → Hp → Prop, (∃ m, W 0 m (upd H1 D (.dK []))) ∧ ∀ i m H, W i m H → ((Itl K a).stop i H ∧ Qd H) ∨ ((Itl K a).go i H ∧ ∃ Nx : Hp → Prop, (∀ H', Nx H' → ∃ m', m' < m ∧ W (i + 1) m' H') ∧ ∀ x H', (Itl K a).yld i H x H' → g x (wipe σ vs) H' fun σ2 H2 => wipe σ2 vs = wipe σ vs ∧ tt σ2 H2 fun b H3 =>
        if b = true then tk σ2 H3 fun y H4 => tv σ2 H4 fun z H5 => ∃ kvs k, y = kV k ∧ H5 D = some (.dK kvs) ∧ kvs.length < sizeLine ∧ Nx (upd H5 D (.dK (putK kvs k z))) else Nx H3) := by
  refine ⟨fun i m H => m = xs.length - i ∧ i ≤ xs.length ∧ Pv i H, ⟨xs.length, by simp, Nat.zero_le _, h0⟩, ?_⟩
  rintro i m H ⟨rfl, hi, p⟩
  by_cases hlt : i < xs.length
  · refine .inr ⟨⟨xs, xs[i], hl i H hi p, by simp [hlt]⟩, Pv (i + 1), fun H' p' => ⟨xs.length - (i + 1), by omega, rfl, hlt, p'⟩, fun x H' y => ?_⟩
    obtain ⟨rfl, y⟩ := y
    exact hs i x _ (y xs (hl i _ hi p)) p
  · obtain rfl : i = xs.length := by omega
    exact .inl ⟨⟨xs, hl _ H hi p, Nat.le_refl _⟩, hd H p⟩
end Sh
set_option Elab.async false
set_option linter.all false
set_option maxRecDepth 100000
set_option maxHeartbeats 4000000
namespace Sh
open PySem PySem.Spec PyProof.Rows L2
theorem ht_line {o : Expr} {m : Str} {apos pos : Pos} {es : List Expr} {env : Env} (hb : attributeBase o m env (eval o env) = eval o env) (hf : methodCallForm (es.length + ([] : List Keyword).length) (backTo pos (starEach es env)) (backToKw pos (keywordEach [] env)) = true) (hl : (apos.endLine == pos.line) = true) :
    eval (.Call (.Attribute o m apos) es [] pos) env = (do
      let ov ← eval o env
      standAt apos.atName
      let (f, first) ← holding [ov] (getMethod ov m (plainOf o env))
      callWith pos f first (backTo pos (starEach es env)) (backToKw pos (keywordEach [] env))) := by
  have e : ∀ ov, methodCall o m apos pos env ov (es.length + ([] : List Keyword).length) (backTo pos (starEach es env)) (backToKw pos (keywordEach [] env)) = (do
      let (f, first) ← holding [ov] (getMethod ov m (plainOf o env))
      callWith pos f first (backTo pos (starEach es env)) (backToKw pos (keywordEach [] env))) := fun ov => mcall_line hf hl
  have e0 : eval (.Call (.Attribute o m apos) es [] pos) env = (attributeBase o m env (eval o env) >>= fun ov => standAt apos.atName >>= fun _ => methodCall o m apos pos env ov (es.length + ([] : List Keyword).length) (backTo pos (starEach es env)) (backToKw pos (keywordEach [] env))) := by
    first
      | rfl
      | (rw [eval])
      | (unfold eval; rfl)
  rw [e0, hb]
  simp only [e]
end Sh
set_option Elab.async false
set_option linter.all false
set_option maxRecDepth 100000
set_option maxHeartbeats 4000000
namespace Sh
open PySem PySem.Spec PyProof.Rows L2
/-- an expression with two readings: either may be taken -/
def tAlt (t u : TE) : TE := fun σ H Q => t σ H Q ∨ u σ H Q
theorem pe_alt {X : Cx} {e : Expr} {t u : TE} (h : PE X e t) (k : PE X e u) : PE X e (tAlt t u) :=
  ⟨fun pins s σ H Q I q => q.elim (h.run pins s σ H Q I) (k.run pins s σ H Q I)⟩
/-- two promises of one def -/
theorem fn_alt {P : Program} {w : World} {K : PySem.W.Frag} {mg : Str → Option Value} {base : Heap} {CX : CXT} {k : Nat} {f : Addr} {fd : FuncData} {ps : List Str} {sp sp' : Sp}
    (F : FnOk P w K mg base CX k f fd ps sp) (F' : FnOk P w K mg base CX k f fd ps sp') : FnOk P w K mg base CX k f fd ps (fun vs H Q E => sp vs H Q E ∨ sp' vs H Q E) :=
  ⟨fun vs H Q E h => h.elim (F.len vs H Q E) (F'.len vs H Q E),
   fun A outer s H args us vs Q E hr e0 hb hv h => h.elim (F.run A outer s H args us vs Q E hr e0 hb hv) (F'.run A outer s H args us vs Q E hr e0 hb hv)⟩
end Sh
set_option Elab.async false
set_option linter.all false
set_option maxRecDepth 100000
set_option maxHeartbeats 4000000
namespace Sh
open PySem PySem.Spec PyProof.Rows L2
/-- the same values: flat ones, or the same objects -/
def plainV : V → Bool
  | .ref _ => true
  | x => flatB x
theorem eqAt_plain {A : Around} {s : Shared} {x : V} {u v : Value} (f : plainV x = true) (r1 : RelV x u) (r2 : RelV x v) : SeqAt.EqAt A s u v true := by
  cases x with
  | ref a =>
    cases (show u = Value.ref a from r1)
    cases (show v = Value.ref a from r2)
    exact SeqAt.EqAt.same _
  | _ => exact eqAt_same r1 r2 f
/-- (a, ..) == (a, ..), item for item the same -/
def rSameT (K : PySem.W.Frag) (b : Bool) : R2 := fun x y H Q => ∃ p q xs, x = .ref p ∧ y = .ref q ∧ SqT K H p xs ∧ SqT K H q xs ∧ xs.all plainV = true ∧ Q (.bl b) H
section
variable {X : Cx}
theorem items_same {A : Around} {s : Shared} {xs : List V} {us ws : List Value} (f : xs.all plainV = true) (r1 : Vals xs us) (r2 : Vals xs ws) : ∀ j (h1 : j < us.toArray.size) (h2 : j < ws.toArray.size), SeqAt.EqAt A s us.toArray[j] ws.toArray[j] ((fun _ => true) j) := by
  intro j h1 h2
  have h1' : j < us.length := by simpa using h1
  have h2' : j < ws.length := by simpa using h2
  have k : j < xs.length := by rw [r1.length]; exact h1'
  obtain ⟨u, hu, ru⟩ := r1.get (List.getElem?_eq_getElem k)
  obtain ⟨v, hv, rv⟩ := r2.get (List.getElem?_eq_getElem k)
  rw [List.getElem?_eq_getElem h1'] at hu
  rw [List.getElem?_eq_getElem h2'] at hv
  have e1 : us.toArray[j] = u := by rw [← Option.some.inj hu]; simp
  have e2 : ws.toArray[j] = v := by rw [← Option.some.inj hv]; simp
  rw [e1, e2]
  exact eqAt_plain (List.all_eq_true.mp f _ (List.getElem_mem k)) ru rv
theorem op_neSameT (hu : X.A.units < cLine) : OpR X (compareOp .NotEq) (rSameT X.K false) := by
  intro pins s σ H x y v u Q I rx ry h
  obtain ⟨p, q, xs, rfl, rfl, hp, hq, f, z⟩ := h
  cases rx
  cases ry
  obtain ⟨its, r, e, _⟩ := I.tuple hp
  obtain ⟨its2, r2, e2, _⟩ := I.tuple hq
  have key := SeqAt.RcNeAt.tuples (A := X.A) e e2 hu (items_same f r r2)
  have hl : its.toArray.size = its2.toArray.size := by rw [List.size_toArray, List.size_toArray, ← r.length, ← r2.length]
  have e3 : (!((List.range (min its.toArray.size its2.toArray.size)).all (fun _ => true) && its.toArray.size == its2.toArray.size)) = false := by
    rw [show ((List.range (min its.toArray.size its2.toArray.size)).all fun _ => true) = true from List.all_eq_true.mpr fun _ _ => rfl, hl]
    simp
  rw [e3] at key
  exact key X.prog X.w X.xe _ ⟨.bl false, H, I, rfl, z⟩
theorem op_eqSameT (hu : X.A.units < cLine) : OpR X (compareOp .Eq) (rSameT X.K true) := by
  intro pins s σ H x y v u Q I rx ry h
  obtain ⟨p, q, xs, rfl, rfl, hp, hq, f, z⟩ := h
  cases rx
  cases ry
  obtain ⟨its, r, e, _⟩ := I.tuple hp
  obtain ⟨its2, r2, e2, _⟩ := I.tuple hq
  have key := SeqAt.RcAt.tuples (A := X.A) e e2 hu (items_same f r r2)
  have hl : its.toArray.size = its2.toArray.size := by rw [List.size_toArray, List.size_toArray, ← r.length, ← r2.length]
  have e3 : ((List.range (min its.toArray.size its2.toArray.size)).all (fun _ => true) && its.toArray.size == its2.toArray.size) = true := by
    rw [show ((List.range (min its.toArray.size its2.toArray.size)).all fun _ => true) = true from List.all_eq_true.mpr fun _ _ => rfl, hl]
    simp
  rw [e3] at key
  exact key X.prog X.w X.xe _ ⟨.bl true, H, I, rfl, z⟩
end
end Sh
set_option Elab.async false
set_option linter.all false
set_option maxRecDepth 100000
set_option maxHeartbeats 4000000
namespace Sh
open PySem PySem.Spec PySem.W PyProof.Rows L2 NdefX
theorem ec_of {K : Frag} {p : He.Defn} {x q : Str} {st : Stmt} {fd : FuncData} (F : Fun K x q st (He.fAd K p) fd) : fd.code = .ref (He.codeOf K p) := by
  obtain ⟨oc, od, kV, doc, pm, an, cdv, ct, osl, rfl, lk, hcd⟩ := F.ex
  obtain ⟨c, rfl⟩ := He.codeIn_ref hcd
  rw [He.codeOf_eq lk rfl]
/-! ### a head by facts: own exceptions, and tables of defs that make lambdas -/
/-- what classmethods hold -/
def recsG (g : Addr → Option Obj) (as : List Addr) : List Addr := as.flatMap fun a => match g a with
  | some ⟨.type t, _, .fields vs, _⟩ => if t = "classmethod" then vs.toList.filterMap (fun v => match v with | .ref b => some b | _ => none) else []
  | some ⟨.type t, _, .seq vs _, _⟩ => if t = "classmethod" then vs.toList.filterMap (fun v => match v with | .ref b => some b | _ => none) else []
  | _ => []
def asXT (g : Addr → Option Obj) (n : Nat) : List Addr :=
  let a1 := He.asD g n
  let a2 := He.growD g (a1 ++ recsG g a1)
  cStatics :: (a2 ++ cellsG g a2)
/-- a classmethod's def: held by its record -/
structure CD where
  cls : Str
  name : Str
  qual : Str
  st : Stmt
def CD.rcd (K : Frag) (d : CD) : Addr := He.ma K (He.ga K d.cls) d.name
def CD.fn (K : Frag) (d : CD) : Addr := match recIn K (d.rcd K) "classmethod" with
  | some (.ref g :: _) => g
  | _ => 0
def CD.val (d : CD) : XV := some (d.name, d.qual, defArgs d.st, .stmts (defBody d.st), defScope d.st, mainGlobals, [], .none, builtinsNs)
def CD.ok (K : Frag) (d : CD) : Bool := (match recIn K (d.rcd K) "classmethod" with
  | some (.ref _ :: _) => true
  | _ => false) && (fnIn K (d.fn K) && (keepIn K (.ref (d.fn K)) && (readsIn K (He.ga K d.cls) (.type "type") && (decide (specialIn K (.ref (He.ga K d.cls)) "__getattribute__" = some (some (.builtin "type.__getattribute__"))) && ((match findCls K (.ref (He.ga K d.cls)) (.type "type") d.name with
  | some (.get a b c e) => decide (a = .builtin "classmethod.__get__") && (decide (b = .ref (d.rcd K)) && (decide (c = .none) && decide (e = .ref (He.ga K d.cls))))
  | _ => false) && (match K.lookup (d.fn K) with
  | some ⟨_, _, .func fd, _⟩ => codeIn K fd.code d.qual
  | _ => false))))))
theorem CD.read {K : Frag} {d : CD} (h : d.ok K = true) : ClX.CRead K (He.ga K d.cls) (.type "type") := by
  obtain ⟨_, h⟩ := andB h
  obtain ⟨_, h⟩ := andB h
  obtain ⟨_, h⟩ := andB h
  obtain ⟨h1, h⟩ := andB h
  obtain ⟨h2, _⟩ := andB h
  exact ⟨h1, of_decide_eq_true h2⟩
theorem CD.met {K : Frag} {d : CD} (h : d.ok K = true) : ClX.CMet K (He.ga K d.cls) (.type "type") d.name (d.rcd K) (d.fn K) := by
  obtain ⟨h0, h⟩ := andB h
  obtain ⟨hf, h⟩ := andB h
  obtain ⟨_, h⟩ := andB h
  obtain ⟨_, h⟩ := andB h
  obtain ⟨_, h⟩ := andB h
  obtain ⟨h3, _⟩ := andB h
  refine ⟨?_, ?_, hf⟩
  · cases q : findCls K (.ref (He.ga K d.cls)) (.type "type") d.name with
    | none => rw [q] at h3; cases h3
    | some r =>
      rw [q] at h3
      cases r with
      | get a b c e =>
        obtain ⟨e1, h3⟩ := andB h3
        obtain ⟨e2, h3⟩ := andB h3
        obtain ⟨e3, e4⟩ := andB h3
        rw [of_decide_eq_true e1, of_decide_eq_true e2, of_decide_eq_true e3, of_decide_eq_true e4]
      | _ => cases h3
  · unfold CD.fn
    cases q : recIn K (d.rcd K) "classmethod" with
    | none => rw [q] at h0; cases h0
    | some l =>
      rw [q] at h0
      match l, h0 with
      | .ref g :: rest, _ => exact ⟨rest, rfl⟩
theorem CD.fun_ {K : Frag} {d : CD} (h : d.ok K = true) (e : xvOf K (d.fn K) = d.val) : ∃ fd, Fun K d.name d.qual d.st (d.fn K) fd := by
  obtain ⟨_, h⟩ := andB h
  obtain ⟨_, h⟩ := andB h
  obtain ⟨hk, h⟩ := andB h
  obtain ⟨_, h⟩ := andB h
  obtain ⟨_, h⟩ := andB h
  obtain ⟨_, h4⟩ := andB h
  unfold xvOf at e
  cases q : K.lookup (d.fn K) with
  | none => rw [q] at h4; cases h4
  | some o =>
    obtain ⟨oc, od, dt, osl⟩ := o
    rw [q] at h4 e
    cases dt with
    | func fd =>
      obtain ⟨n1, n2, n3, n4, n5, n6, n7, n8, n9, n10, n11, n12, n13, n14, n15⟩ := fd
      have e2 : (some (n1, n2, n3, n4, n5, n6, n7.map (·.1), n8, n15) : XV) = (some (d.name, d.qual, defArgs d.st, .stmts (defBody d.st), defScope d.st, mainGlobals, [], .none, builtinsNs) : XV) := e
      simp only [Option.some.injEq, Prod.mk.injEq] at e2
      obtain ⟨h1, h2, h3, h4', h5, h6, h7, h8, h9⟩ := e2
      cases n7 with
      | cons p r => cases h7
      | nil =>
        subst h1 h2 h3 h4' h5 h6 h8 h9
        exact ⟨_, ⟨_, _, _, _, _, _, _, _, _, rfl, q, h4⟩, hk⟩
    | _ => cases h4
abbrev AlXT : Type := AlX × Bool × List XV
structure SaysXT (fa : List He.Fa) (fn : List He.DefD) (ex : List (Frag → Bool)) (xs : List XD) (tf : List He.Defn) (cm : List CD) (h : Heap) (K : Frag) : Prop where
  s : SaysX fa fn ex xs K
  hd : ∀ p ∈ tf, codeHdIn K (He.cT K p).1 (He.cT K p).2 = true
  out : ∀ p ∈ tf, K.lookup (He.cT K p).2 = none
  empty : ∀ p ∈ tf, h.get? (He.cT K p).2 = some { cls := .none, data := .fields #[] }
  cmo : ∀ (i : Nat) {d : CD}, cm[i]? = some d → d.ok K = true
  cmv : ∀ (i : Nat) {d : CD}, cm[i]? = some d → xvOf K (d.fn K) = d.val
def obsXT (fa : List He.Fa) (fn : List He.DefD) (ex : List (Frag → Bool)) (xs : List XD) (tf : List He.Defn) (cm : List CD) (n : Nat) (g : Addr → Option Obj) : AlXT :=
  (obsX fa fn ex xs (He.frT g (asXT g n)), He.tabsB g tf (He.frT g (asXT g n)) && cm.all (fun d => d.ok (He.frT g (asXT g n))), cm.map fun d => xvOf (He.frT g (asXT g n)) (d.fn (He.frT g (asXT g n))))
def valXT (fn : List He.DefD) (xs : List XD) (cm : List CD) : AlXT := (valX fn xs, true, cm.map CD.val)
theorem saysXT_of {n : Nat} {fa : List He.Fa} {fn : List He.DefD} {ex : List (Frag → Bool)} {xs : List XD} {tf : List He.Defn} {cm : List CD} {h : Heap} (e : obsXT fa fn ex xs tf cm n h.get? = valXT fn xs cm) : SaysXT fa fn ex xs tf cm h (He.frT h.get? (asXT h.get? n)) := by
  have e1 : obsX fa fn ex xs (He.frT h.get? (asXT h.get? n)) = valX fn xs := congrArg (fun z : AlXT => z.1) e
  have e0 : (He.tabsB h.get? tf (He.frT h.get? (asXT h.get? n)) && cm.all (fun d => d.ok (He.frT h.get? (asXT h.get? n)))) = true := congrArg (fun z : AlXT => z.2.1) e
  have e3 : cm.map (fun d => xvOf (He.frT h.get? (asXT h.get? n)) (d.fn (He.frT h.get? (asXT h.get? n)))) = cm.map CD.val := congrArg (fun z : AlXT => z.2.2) e
  obtain ⟨e2, e4⟩ := andB e0
  have key : ∀ p ∈ tf, codeHdIn (He.frT h.get? (asXT h.get? n)) (He.cT (He.frT h.get? (asXT h.get? n)) p).1 (He.cT (He.frT h.get? (asXT h.get? n)) p).2 = true ∧ ∃ o, h.get? (He.cT (He.frT h.get? (asXT h.get? n)) p).2 = some o ∧ He.emptyTab o = true := fun p hp => by
    obtain ⟨h3, h4⟩ := andB (List.all_eq_true.mp e2 p hp)
    refine ⟨h3, ?_⟩
    cases q : h.get? (He.cT (He.frT h.get? (asXT h.get? n)) p).2 with
    | none =>
      rw [q] at h4
      cases h4
    | some o =>
      rw [q] at h4
      exact ⟨o, rfl, h4⟩
  refine ⟨says_of e1, fun p hp => (key p hp).1, fun p hp => ?_, fun p hp => ?_, fun i d hd => List.all_eq_true.mp e4 d (List.mem_of_getElem? hd), fun i d hd => ?_⟩
  · obtain ⟨_, o, q, z⟩ := key p hp
    exact He.frT_none q z
  · obtain ⟨_, o, q, z⟩ := key p hp
    rw [q, He.emptyTab_eq z]
  · have e5 : (cm.map fun d => xvOf (He.frT h.get? (asXT h.get? n)) (d.fn (He.frT h.get? (asXT h.get? n))))[i]? = (cm.map CD.val)[i]? := by rw [e3]
    rw [List.getElem?_map, List.getElem?_map, hd] at e5
    exact Option.some.inj e5
def hookXT (n : Nat) (fa : List He.Fa) (fn : List He.DefD) (ex : List (Frag → Bool)) (xs : List XD) (tf : List He.Defn) (cm : List CD) : PySem.W.Hook where
  α := AlXT
  obs := fun s => obsXT fa fn ex xs tf cm n s.heap.get?
  val := fun _ => valXT fn xs cm
  says := fun _ h => ∃ K : Frag, K.In h ∧ SaysXT fa fn ex xs tf cm h K
  of := fun _ _ e => ⟨_, He.frT_in, saysXT_of e⟩
  keeps := fun _ _ _ ⟨K, hK, c⟩ k => ⟨K, Frag.In.keeps hK k, ⟨c.s, c.hd, c.out, fun p hp => k _ _ (c.empty p hp), c.cmo, c.cmv⟩⟩
theorem obsXT_eq {n : Nat} {fa : List He.Fa} {fn : List He.DefD} {ex : List (Frag → Bool)} {xs : List XD} {tf : List He.Defn} {cm : List CD} {g : Addr → Option Obj} {s : Shared} (h : ∀ a, g a = s.heap.get? a) : obsXT fa fn ex xs tf cm n g = (hookXT n fa fn ex xs tf cm).obs s := by
  have e : g = s.heap.get? := funext h
  rw [e] <;> rfl
end Sh
set_option Elab.async false
set_option linter.all false
set_option maxRecDepth 100000
set_option maxHeartbeats 4000000
namespace Sh
open PySem PySem.Spec PyProof.Rows L2
/-! ### list comprehensions of any number of clauses -/
/-- what a clause asks: its source, its target, its tests, the slots of its own and all later targets -/
structure ClR where
  wi : TI
  g : TG
  tt : TT
  vs : List Nat
/-- the clauses that are left, inside; Nx is to be reached behind them -/
def tIn (D : Addr) (te : TE) : List ClR → L2.St → Hp → (Hp → Prop) → Prop
  | [], σ, H, Nx => te σ H fun y H1 => ∃ acc, H1 D = some (.lst acc) ∧ acc.length < sizeLine ∧ Nx (upd H1 D (.lst (acc ++ [y])))
  | c :: r, σ, H, Nx => c.wi σ H fun J H1 => ∃ W : Nat → Nat → Hp → Prop, (∃ m, W 0 m H1) ∧ ∀ i m H, W i m H →
      (J.stop i H ∧ Nx H) ∨ (J.go i H ∧ ∃ N : Hp → Prop, (∀ H', N H' → ∃ m', m' < m ∧ W (i + 1) m' H') ∧ ∀ x H', J.yld i H x H' → c.g x (wipe σ c.vs) H' fun σ2 H2 => wipe σ2 c.vs = wipe σ c.vs ∧ c.tt σ2 H2 fun b H3 => if b = true then tIn D te r σ2 H3 N else N H3)
/-- the whole: the new list stands at D -/
def tLcN (c : ClR) (r : List ClR) (te : TE) : TE := fun σ H Q => c.wi σ H fun J H1 => ∀ D, H1 D = none → ∃ W : Nat → Nat → Hp → Prop, (∃ m, W 0 m (upd H1 D (.lst []))) ∧ ∀ i m H, W i m H →
      (J.stop i H ∧ Q (.ref D) H) ∨ (J.go i H ∧ ∃ N : Hp → Prop, (∀ H', N H' → ∃ m', m' < m ∧ W (i + 1) m' H') ∧ ∀ x H', J.yld i H x H' → c.g x (wipe σ c.vs) H' fun σ2 H2 => wipe σ2 c.vs = wipe σ c.vs ∧ c.tt σ2 H2 fun b H3 => if b = true then tIn D te r σ2 H3 N else N H3)
/-- the clauses behind the first, in the block's context -/
inductive ClOk (B : Cx) : List Comprehension → List ClR → List Nat → Prop
  | nil {vs : List Nat} : ClOk B [] [] vs
  | cons {tg iter : Expr} {ifs : List Expr} {wi : TI} {g : TG} {tt : TT} {vs vs1 : List Nat} {gs : List Comprehension} {cs : List ClR} (hi : PI B tg iter wi) (hg : PG B tg g) (ht : PTs B ifs tt)
      (hs : ∀ x, foldedSetIterable iter B.env x = pure x) (hv : ∀ i ∈ vs1, i ∈ vs) (r : ClOk B gs cs vs1) : ClOk B (⟨tg, iter, ifs, 0⟩ :: gs) (⟨wi, g, tt, vs1⟩ :: cs) vs
section
variable {prog : Program} {w : World} {A : Around} {s : Shared} {elt : Expr} {gens : List Comprehension} {scope : Scope} {pos : Pos} {it acc : Value} {env : Env}
abbrev NB (prog : Program) (w : World) (A : Around) (env : Env) (R : Result → Shared → Prop) : Value → Shared → Prop := notedBy (model prog w) A env fun e s' => R (.error e) s'
/-- one turn of the loop of clause k: next, store, tests, then what is inside -/
theorem turn_last {k : Nat} {t i : Expr} {ifs : List Expr} {R : Result → Shared → Prop} {V : Fin → Shared → Prop} (h : gens[k]? = some ⟨t, i, ifs, 0⟩) (h' : gens[k + 1]? = none)
    (turn : wpAny (model prog w) A (pyNext it) (fun r s₁ => match r with
      | none => V (.done .next) s₁
      | some v => wpAny (model prog w) A (letOwnedTupleGo t it v) (fun _ s₂ => wpAny (model prog w) A (assign t env v) (fun _ s₃ =>
          wpAny (model prog w) A (forIn ifs true fun c r => if r = true then do let ok ← isTrue c env (eval c env); pure (ForInStep.yield ok) else pure (ForInStep.yield r)) (fun ok s₄ =>
            if ok = true then wpAny (model prog w) A (eval elt env) (fun x s₅ => wpAny (model prog w) A (call (.builtin "list.append") [acc, x]) (fun _ s₆ => V (.again (.compLoop (.ListComp elt gens scope pos) k it acc env)) s₆) (NB prog w A env R) s₅) (NB prog w A env R) s₄
            else V (.again (.compLoop (.ListComp elt gens scope pos) k it acc env)) s₄) (NB prog w A env R) s₃) (NB prog w A env R) s₂) (NB prog w A env R) s₁) (NB prog w A env R) s) :
    wpAny (model prog w) A (compTurn (.ListComp elt gens scope pos) k it acc env) V (NB prog w A env R) s := by
  unfold compTurn
  simp only [h, h']
  refine wpAny_bind (wpAny_standAt (wpAny_bind (wpAny_mono (show wpAny (model prog w) A (pyNext it) _ _ s from turn) (fun r s₁ h₁ => ?_) fun _ _ h' => h')))
  cases r with
  | none => exact wpAny_pure h₁
  | some v =>
    refine wpAny_bind (wpAny_mono h₁ (fun _ s₂ h₂ => ?_) fun _ _ h' => h')
    refine wpAny_bind (wpAny_mono h₂ (fun _ s₃ h₃ => wpAny_bind (wpAny_mono h₃ (fun ok s₄ h₄ => ?_) fun _ _ h' => h')) fun _ _ h' => h')
    cases ok with
    | false => exact wpAny_pure h₄
    | true =>
      exact wpAny_bind (wpAny_bind (wpAny_mono h₄ (fun x s₅ h₅ => wpAny_bind (wpAny_mono h₅ (fun _ s₆ h₆ => wpAny_pure (wpAny_pure h₆)) fun _ _ h' => h')) fun _ _ h' => h'))
theorem turn_more {k : Nat} {t i : Expr} {ifs : List Expr} {R : Result → Shared → Prop} {V : Fin → Shared → Prop} {t1 i1 : Expr} {ifs1 : List Expr} (h : gens[k]? = some ⟨t, i, ifs, 0⟩) (h' : gens[k + 1]? = some ⟨t1, i1, ifs1, 0⟩) (hs : ∀ x, foldedSetIterable i1 env x = pure x)
    (turn : wpAny (model prog w) A (pyNext it) (fun r s₁ => match r with
      | none => V (.done .next) s₁
      | some v => wpAny (model prog w) A (letOwnedTupleGo t it v) (fun _ s₂ => wpAny (model prog w) A (assign t env v) (fun _ s₃ =>
          wpAny (model prog w) A (forIn ifs true fun c r => if r = true then do let ok ← isTrue c env (eval c env); pure (ForInStep.yield ok) else pure (ForInStep.yield r)) (fun ok s₄ =>
            if ok = true then wpAny (model prog w) A (eval i1 env) (fun x s₅ => wpAny (model prog w) A (pyIter x) (fun it1 s₆ => codeAny (model prog w) A (.compStart (.ListComp elt gens scope pos) (k + 1) it1 acc env) (fun r s' => match r with | .ok _ => V (.again (.compLoop (.ListComp elt gens scope pos) k it acc env)) s' | .error _ => False) s₆) (NB prog w A env R) s₅) (NB prog w A env R) s₄
            else V (.again (.compLoop (.ListComp elt gens scope pos) k it acc env)) s₄) (NB prog w A env R) s₃) (NB prog w A env R) s₂) (NB prog w A env R) s₁) (NB prog w A env R) s) :
    wpAny (model prog w) A (compTurn (.ListComp elt gens scope pos) k it acc env) V (NB prog w A env R) s := by
  unfold compTurn
  simp only [h, h']
  refine wpAny_bind (wpAny_standAt (wpAny_bind (wpAny_mono (show wpAny (model prog w) A (pyNext it) _ _ s from turn) (fun r s₁ h₁ => ?_) fun _ _ h' => h')))
  cases r with
  | none => exact wpAny_pure h₁
  | some v =>
    refine wpAny_bind (wpAny_mono h₁ (fun _ s₂ h₂ => ?_) fun _ _ h' => h')
    refine wpAny_bind (wpAny_mono h₂ (fun _ s₃ h₃ => wpAny_bind (wpAny_mono h₃ (fun ok s₄ h₄ => ?_) fun _ _ h' => h')) fun _ _ h' => h')
    cases ok with
    | false => exact wpAny_pure h₄
    | true =>
      refine wpAny_bind (wpAny_mono h₄ (fun x s₅ h₅ => ?_) fun _ _ h' => h')
      refine wpAny_bind (wpAny_standAt (wpAny_bind (wpAny_of_eq (hs x) (wpAny_bind (wpAny_holding (wpAny_mono h₅ (fun it1 s₆ h₆ => ?_) fun _ _ h' => h'))))))
      refine wpAny_bind (wpAny_runOwn ?_)
      rw [Around.mark_none]
      refine codeAny_mono h₆ fun r s' hr => ?_
      cases r with
      | error e => exact hr.elim
      | ok f =>
        first
          | exact wpAny_pure hr
          | exact wpAny_bind (wpAny_pure (wpAny_pure hr))
/-- a later clause's start -/
theorem startN {k : Nat} {c : Comprehension} {R : Result → Shared → Prop} (h : gens[k]? = some c) (hc : c.is_async = 0) (h0 : codeAny (model prog w) A (.compLoop (.ListComp elt gens scope pos) k it acc env) R s)
    (h1 : wpAny (model prog w) A (pyIter it) (fun it' s' => codeAny (model prog w) A (.compLoop (.ListComp elt gens scope pos) k it' acc env) R s') (NB prog w A env R) s) :
    codeAny (model prog w) A (.compStart (.ListComp elt gens scope pos) k it acc env) R s := by
  refine codeAny_of_tree ?_
  show wpAny _ _ ((compStart (.ListComp elt gens scope pos) k it acc env).onRaise (fun x => do noteFrame x env; standAt theWindowsPlace)) _ _ s
  refine wpAny_notedAt ?_
  have hg : (clausesOf (.ListComp elt gens scope pos))[k]? = some c := h
  unfold compStart
  simp only [hg, Option.elim, hc]
  refine wpAny_bind (wpAny_askSetting (wpAny_ite ?_))
  split
  · first
      | exact wpAny_bind (wpAny_pure (wpAny_pure (And.intro rfl h0)))
      | exact wpAny_pure (And.intro rfl h0)
  · have h2 : wpAny (model prog w) A (pyIter it >>= fun x => again (.compLoop (.ListComp elt gens scope pos) k x acc env)) (fun fin s' => match fin with
        | .done f => R (.ok f) s'
        | .again c' => c'.quiet = true ∧ codeAny (model prog w) A c' R s') (NB prog w A env R) s :=
      wpAny_bind (wpAny_mono h1 (fun it' s' h' => wpAny_pure (And.intro rfl h')) fun _ _ x => x)
    first
      | exact wpAny_bind (wpAny_rule (wpAny_bind (wpAny_standAt h2)))
      | exact wpAny_bind (wpAny_rule (wpAny_bind (wpAny_bind (wpAny_standAt (wpAny_pure h2)))))
end
section
variable {B : Cx} {elt : Expr} {te : TE} {gens : List Comprehension} {scope : Scope} {pos : Pos} {D : Addr}
theorem drop_ix {α : Type} {xs ys : List α} {x : α} {k : Nat} (h : xs.drop k = x :: ys) : xs[k]? = some x ∧ xs.drop (k + 1) = ys := by
  refine ⟨?_, ?_⟩
  · have := List.getElem?_drop (xs := xs) (i := k) (j := 0)
    rw [h] at this
    simpa using this.symm
  · rw [← List.drop_drop, h]
    rfl
theorem drop_no {α : Type} {xs : List α} {k : Nat} (h : xs.drop k = []) : xs[k]? = none := by
  rw [List.getElem?_eq_none_iff]
  exact List.drop_eq_nil_iff.mp h
theorem thnX {α : Type} {t : Sem α} {Q Q' : α → Shared → Prop} {M : Model} {A : Around} {E E' : Value → Shared → Prop} {s : Shared} (hE : E = fun _ _ => False) (h : wpAny M A t Q E s) (hQ : ∀ a s, Q a s → Q' a s) : wpAny M A t Q' E' s := by
  subst hE
  exact thnF h hQ
/-- the loop of clause k -/
theorem levelN (hc : B.calm = true) (hx : B.xe = fun _ _ => False) (pe : PE B elt te) {gs : List Comprehension} {cs : List ClR} {vs : List Nat} (C : ClOk B gs cs vs) : ∀ {k : Nat} {tg iter : Expr} {ifs : List Expr} {g : TG} {tt : TT} {J : It} {fp : List Addr} {it : Addr} {tn : Nat → Heap → Prop}
    {pins : List (Addr × Obj)} {σ : L2.St} {H : Hp} {s : Shared} {W : Nat → Nat → Hp → Prop} {m0 : Nat} {R : Result → Shared → Prop} {Nx : Hp → Prop} (hk : gens.drop k = ⟨tg, iter, ifs, 0⟩ :: gs) (pg : PG B tg g) (pt : PTs B ifs tt) (T : Turn B.prog B.w B.K tg J fp it tn)
    (I : L2.Inv B pins (wipe σ vs) H s) (st : tn 0 s.heap) (fpok : ∀ {H' : Hp} {s' : Shared}, L2.Inv B pins (wipe σ vs) H' s' → (∀ b ∈ fp, H' b = none) → ∀ b ∈ fp, FpOk B pins H' b) (fn : ∀ b ∈ fp, H b = none) (w0 : W 0 m0 H)
    (turn : ∀ i m H, W i m H → (J.stop i H ∧ Nx H) ∨ (J.go i H ∧ ∃ N : Hp → Prop, (∀ H', N H' → ∃ m', m' < m ∧ W (i + 1) m' H') ∧ ∀ x H', J.yld i H x H' → g x (wipe σ vs) H' fun σ2 H2 => wipe σ2 vs = wipe σ vs ∧ tt σ2 H2 fun b H3 => if b = true then tIn D te cs σ2 H3 N else N H3))
    (fin : ∀ s' H', L2.Inv B pins (wipe σ vs) H' s' → Nx H' → R (.ok .next) s'), codeAny (model B.prog B.w) B.A (.compLoop (.ListComp elt gens scope pos) k (.ref it) (.ref D) B.env) R s := by
  induction C with
  | nil =>
    intro k tg iter ifs g tt J fp it tn pins σ H s W m0 R Nx hk pg pt T I st fpok fn w0 turn fin
    rename_i vs
    obtain ⟨h1, h2⟩ := drop_ix hk
    refine codeAny_loop rfl (fun n s' => ∃ i H', L2.Inv B pins (wipe σ vs) H' s' ∧ tn i s'.heap ∧ (∀ b ∈ fp, H' b = none) ∧ W i n H') (fun n s5 hI => ?_) m0 ⟨0, H, I, st, fn, w0⟩
    obtain ⟨i, H5, I5, st5, n5, w5⟩ := hI
    show wpAny _ B.A ((compTurn (.ListComp elt gens scope pos) k (.ref it) (.ref D) B.env).onRaise (fun x => do noteFrame x B.env; theTreesLotGoes x)) _ _ s5
    refine wpAny_noted (turn_last (R := R) h1 (drop_no h2) ?_)
    rcases turn i n H5 w5 with ⟨stop, qq⟩ | ⟨go, N, hN, step⟩
    · refine thnF (T.done B rfl rfl rfl hc i pins s5 _ H5 (fun _ _ => False) I5 (fpok I5 n5) st5 stop) fun r s6 ⟨hr, I6⟩ => ?_
      subst hr
      exact fin s6 H5 I6 qq
    · refine thnF (T.item B rfl rfl rfl hc i pins s5 _ H5 (fun _ _ => False) I5 (fpok I5 n5) st5 go) fun r s6 ⟨u, hr, h6⟩ => ?_
      subst hr
      refine thnF h6 fun _ s7 ⟨x, H7, I7, r7, y7, st7, n7⟩ => ?_
      have I7' := I7.pinned (fpok I7 n7) (T.obj _ _ st7)
      refine thnX hx (pg.run _ s7 _ H7 x u _ I7' r7 (step x H7 y7)) fun _ s8 ⟨σ8, H8, I8, hw8, q8⟩ => ?_
      refine thnX hx (pt.run _ s8 σ8 H8 _ I8 q8) fun b s9 ⟨H9, I9, q9⟩ => ?_
      have back : ∀ {s' : Shared} {H' : Hp}, L2.Inv B (pins ++ pinsAt fp s7.heap) σ8 H' s' → N H' → ∃ m, m < n ∧ ∃ i H', L2.Inv B pins (wipe σ vs) H' s' ∧ tn i s'.heap ∧ (∀ b ∈ fp, H' b = none) ∧ W i m H' := fun {s' H'} I' nx => by
        obtain ⟨m', hm, w'⟩ := hN H' nx
        have pin : ∀ b ∈ fp, ∀ o, s7.heap.get? b = some o → s'.heap.get? b = some o ∧ H' b = none := fun b hb o e =>
          let z := I'.pin (b, o) (List.mem_append_right _ (List.mem_append_right _ (mem_pinsAt hb e)))
          ⟨z.1, z.2.1⟩
        refine ⟨m', hm, i + 1, H', I'.unpinned.weak (by rw [← hw8, wipe_length]) (fun j v e => by rw [← hw8] at e; exact (wipe_some e).1), T.keep _ _ _ st7 fun b hb o e => (pin b hb o e).1, fun b hb => ?_, w'⟩
        obtain ⟨o, e, _⟩ := T.obj _ _ st7 b hb
        exact (pin b hb o e).2
      cases b with
      | false =>
        simp only [Bool.false_eq_true, if_false] at q9 ⊢
        exact ⟨by first | trivial | rfl, back I9 q9⟩
      | true =>
        simp only [if_true] at q9 ⊢
        refine thnX hx (pe.run _ s9 σ8 H9 _ I9 q9) fun z s10 ⟨yv, H10, I10, r10, acc, hD, hz, nx⟩ => ?_
        exact app_ok (X := B) I10 hD hz r10 fun s11 I11 => ⟨by first | trivial | rfl, back I11 nx⟩
  | @cons tg1 iter1 ifs1 wi1 g1 tt1 vs vs1 gs cs hi1 hg1 ht1 hs1 hv1 r1 ih =>
    intro k tg iter ifs g tt J fp it tn pins σ H s W m0 R Nx hk pg pt T I st fpok fn w0 turn fin
    obtain ⟨h1, h2⟩ := drop_ix hk
    obtain ⟨h3, _⟩ := drop_ix h2
    refine codeAny_loop rfl (fun n s' => ∃ i H', L2.Inv B pins (wipe σ vs) H' s' ∧ tn i s'.heap ∧ (∀ b ∈ fp, H' b = none) ∧ W i n H') (fun n s5 hI => ?_) m0 ⟨0, H, I, st, fn, w0⟩
    obtain ⟨i, H5, I5, st5, n5, w5⟩ := hI
    show wpAny _ B.A ((compTurn (.ListComp elt gens scope pos) k (.ref it) (.ref D) B.env).onRaise (fun x => do noteFrame x B.env; theTreesLotGoes x)) _ _ s5
    refine wpAny_noted (turn_more (R := R) h1 h3 hs1 ?_)
    rcases turn i n H5 w5 with ⟨stop, qq⟩ | ⟨go, N, hN, step⟩
    · refine thnF (T.done B rfl rfl rfl hc i pins s5 _ H5 (fun _ _ => False) I5 (fpok I5 n5) st5 stop) fun r s6 ⟨hr, I6⟩ => ?_
      subst hr
      exact fin s6 H5 I6 qq
    · refine thnF (T.item B rfl rfl rfl hc i pins s5 _ H5 (fun _ _ => False) I5 (fpok I5 n5) st5 go) fun r s6 ⟨u, hr, h6⟩ => ?_
      subst hr
      refine thnF h6 fun _ s7 ⟨x, H7, I7, r7, y7, st7, n7⟩ => ?_
      have I7' := I7.pinned (fpok I7 n7) (T.obj _ _ st7)
      refine thnX hx (pg.run _ s7 _ H7 x u _ I7' r7 (step x H7 y7)) fun _ s8 ⟨σ8, H8, I8, hw8, q8⟩ => ?_
      refine thnX hx (pt.run _ s8 σ8 H8 _ I8 q8) fun b s9 ⟨H9, I9, q9⟩ => ?_
      have hl8 : (wipe σ vs).length = σ8.length := by rw [← hw8, wipe_length]
      have back : ∀ {σ9 : L2.St} {s' : Shared} {H' : Hp}, L2.Inv B (pins ++ pinsAt fp s7.heap) σ9 H' s' → σ8.length = σ9.length → (∀ (j : Nat) v, (wipe σ vs)[j]? = some (some v) → σ9[j]? = some (some v)) → N H' →
          ∃ m, m < n ∧ ∃ i H', L2.Inv B pins (wipe σ vs) H' s' ∧ tn i s'.heap ∧ (∀ b ∈ fp, H' b = none) ∧ W i m H' := fun {σ9 s' H'} I' hl hkp nx => by
        obtain ⟨m', hm, w'⟩ := hN H' nx
        have pin : ∀ b ∈ fp, ∀ o, s7.heap.get? b = some o → s'.heap.get? b = some o ∧ H' b = none := fun b hb o e =>
          let z := I'.pin (b, o) (List.mem_append_right _ (List.mem_append_right _ (mem_pinsAt hb e)))
          ⟨z.1, z.2.1⟩
        refine ⟨m', hm, i + 1, H', I'.unpinned.weak (hl8.trans hl) hkp, T.keep _ _ _ st7 fun b hb o e => (pin b hb o e).1, fun b hb => ?_, w'⟩
        obtain ⟨o, e, _⟩ := T.obj _ _ st7 b hb
        exact (pin b hb o e).2
      have k8 : ∀ (j : Nat) v, (wipe σ vs)[j]? = some (some v) → σ8[j]? = some (some v) := fun j v e => by
        rw [← hw8] at e
        exact (wipe_some e).1
      have k9 : ∀ (j : Nat) v, (wipe σ vs)[j]? = some (some v) → (wipe σ8 vs1)[j]? = some (some v) := fun j v e => by
        rw [← hw8] at e
        obtain ⟨e1, e2⟩ := wipe_some e
        rw [wipe_out fun z => e2 (hv1 j z)]
        exact e1
      cases b with
      | false =>
        simp only [Bool.false_eq_true, if_false] at q9 ⊢
        exact ⟨by first | trivial | rfl, back I9 rfl k8 q9⟩
      | true =>
        simp only [if_true] at q9 ⊢
        refine thnX hx (hi1.run _ s9 σ8 H9 _ I9 q9) fun xv s10 hx0 => thnX hx hx0 fun itv s11 h11 => ?_
        obtain ⟨it1, fp1, tn1, J1, H11, e1, I11, T1, st11, f11, W1, ⟨m1, w1⟩, turn1⟩ := h11
        subst e1
        have lp : codeAny (model B.prog B.w) B.A (.compLoop (.ListComp elt gens scope pos) (k + 1) (.ref it1) (.ref D) B.env) (fun r s' => match r with
            | .ok _ => ∃ m, m < n ∧ ∃ i H', L2.Inv B pins (wipe σ vs) H' s' ∧ tn i s'.heap ∧ (∀ b ∈ fp, H' b = none) ∧ W i m H'
            | .error _ => False) s11 :=
          ih h2 hg1 ht1 T1 (I11.weak (wipe_length _ _) fun j v e => (wipe_some e).1) st11 (fun {H' s'} I' hn b hb => ⟨hn b hb, (f11 b hb).2⟩) (fun b hb => (f11 b hb).1) w1 turn1 fun s' H' I' nx => back I' (wipe_length σ8 vs1).symm k9 nx
        exact codeAny_mono (startN h3 rfl lp (T1.self B.A 0 _ _ _ st11 lp)) fun r s' hr => by
          cases r with
          | ok f => exact ⟨by first | trivial | rfl, hr⟩
          | error e => exact hr.elim
end
section
variable {X : Cx} {elt tg iter : Expr} {ifs : List Expr} {gs : List Comprehension} {cs : List ClR} {scope : Scope} {own : List (Str × Nat)} {pos : Pos} {wi : TI} {g : TG} {tt : TT} {te : TE}
abbrev blkC (X : Cx) (scope : Scope) (s : Shared) (H : Hp) (C : Addr) (cl : List (Str × Addr)) (fp : List Addr) : Cx := X.blk s H scope (compEnvC scope cl C X.env) fp
theorem lcN_core {pins : List (Addr × Obj)} {s : Shared} {σ : L2.St} {H : Hp} {Q : VK} {pos' : Pos} {use : Option (Value → Sem Unit)} {Qf : Value → Shared → Prop}
    (hc : X.calm = true) (hN : X.N.Nodup) (I : L2.Inv X pins σ H s) (hi : PI X tg iter wi) (ok : BlkOk X.N X.env.scope scope own)
    (hg : ∀ s H C cl fp, PG (blkC X scope s H C cl fp) tg g) (ht : ∀ s H C cl fp, PTs (blkC X scope s H C cl fp) ifs tt) (hC : ∀ s H C cl fp, ClOk (blkC X scope s H C cl fp) gs cs (own.map (·.2))) (he : ∀ s H C cl fp, PE (blkC X scope s H C cl fp) elt te)
    (hs : ∀ x, foldedSetIterable iter X.env x = pure x) (h : tLcN ⟨wi, g, tt, own.map (·.2)⟩ cs te σ H Q)
    (hRR : ∀ D C s' m H', L2.Inv X pins σ H' s' → Q (.ref D) H' → s'.heap.Ns C m → FpOk X pins H' C → compPost (model X.prog X.w) X.A X.xe use Qf (.ref D) C (.ok .next) s') :
    wpAny (model X.prog X.w) X.A (comprehension (.ListComp elt (⟨tg, iter, ifs, 0⟩ :: gs) scope pos) scope X.env pos' (newList []) false (eval iter X.env) use) Qf X.xe s := by
  have fr : ∀ y ∈ scope.names, y.2 = .free → ∃ c, X.env.cells.lookup y.1 = some c := fun y hy e => (ok.free y hy e).elim (fun k => I.ok.has _ (.inl k)) fun k => I.ok.has _ (.inr k)
  refine wpAny_comprehension_free (use := use) rfl hs (closure_ok fr) ok.kind (fun y hy e => by rw [ok.uniq y hy, e]) (thn (hi.run pins s σ H _ I h) fun xv s1 hx => thn hx fun itv s2 ⟨it, fp, tn, J, H2, e, I2, T, st2, f2, q⟩ => ?_)
  subst e
  refine wpAny_newObj_type (newEnv_comp ?_) (by show 0 ≤ sizeLine; decide)
  have hDn : H2 s2.heap.objs.size = none := I2.hok.fresh (Nat.le_refl _)
  obtain ⟨W, ⟨m0, w0⟩, turn⟩ := q _ hDn
  -- behind the making of the list
  generalize hs3 : ({ s2 with heap := s2.heap.push { cls := .type "list", data := .seq ([] : List Value).toArray } } : Shared) = s3
  have h3 : s3.heap = s2.heap.push { cls := .type "list", data := .seq ([] : List Value).toArray } := by rw [← hs3]
  have I3 : L2.Inv X pins σ (upd H2 s2.heap.objs.size (.lst [])) s3 := by
    rw [← hs3]
    exact I2.laid (t' := s2.toks) (fun b o e => Heap.get?_push_of_some _ e) (Nat.le_refl _) ⟨Nat.zero_le _, [], 0, .nil, Heap.get?_push_size _ rfl⟩
  have lt2 : ∀ b ∈ fp, b < s2.heap.objs.size := fun b hb => let ⟨o, e, _⟩ := T.obj _ _ st2 b hb; Heap.lt_size e
  have f3 : ∀ b ∈ fp, FpOk X pins (upd H2 s2.heap.objs.size (.lst [])) b ∧ b < s3.heap.objs.size := fun b hb => by
    refine ⟨⟨?_, (f2 b hb).2⟩, by rw [h3, Heap.size_push]; exact Nat.lt_succ_of_lt (lt2 b hb)⟩
    rw [upd_ne (Nat.ne_of_lt (lt2 b hb))]
    exact (f2 b hb).1
  have st3 : tn 0 s3.heap := T.keep _ _ _ st2 fun b _ o e => by rw [h3]; exact Heap.get?_push_of_some _ e
  have I4 := block_start I3 ok hN f3
  generalize hcl : cellsFrom (s3.heap.objs.size + 1) scope.names (cloFrom X.env.cells scope.names []) = cl at I4
  generalize hH3 : upd H2 s2.heap.objs.size (.lst []) = H3 at I3 I4 w0 f3
  have st4 : tn 0 (pushCells (s3.heap.push { cls := .type "dict", data := .dict #[] }) scope.names) := T.keep _ _ _ st3 fun b _ o e => pushCells_keeps _ _ _ _ (Heap.get?_push_of_some _ e)
  show codeAny _ _ (.compStart (.ListComp elt (⟨tg, iter, ifs, 0⟩ :: gs) scope pos) 0 (.ref it) (.ref s2.heap.objs.size) (compEnvC scope cl s3.heap.objs.size X.env)) (compPost (model X.prog X.w) X.A X.xe use Qf (.ref s2.heap.objs.size) s3.heap.objs.size) { s3 with heap := pushCells (s3.heap.push { cls := .type "dict", data := .dict #[] }) scope.names }
  have loop := levelN (B := blkC X scope s3 H3 s3.heap.objs.size cl fp) (gens := ⟨tg, iter, ifs, 0⟩ :: gs) (scope := scope) (pos := pos) (D := s2.heap.objs.size) (k := 0) (R := compPost (model X.prog X.w) X.A X.xe use Qf (.ref s2.heap.objs.size) s3.heap.objs.size) (Nx := fun H' => Q (.ref s2.heap.objs.size) H') hc rfl (he s3 H3 s3.heap.objs.size cl fp) (hC s3 H3 s3.heap.objs.size cl fp) rfl
    (hg s3 H3 s3.heap.objs.size cl fp) (ht s3 H3 s3.heap.objs.size cl fp) T I4 st4 (fun {H' s'} I' hn b hb => ⟨hn b hb, (I'.ok.exf b hb).1, I'.ok.exfs b hb, .inl hb, fun x c e => (I'.ok.exf b hb).2 x c e, fun p hp => absurd (show p ∈ ([] : List (Addr × Obj)) ++ [] from hp) (by simp)⟩)
    (fun b hb => (f3 b hb).1.1) w0 turn fun s' H' I' qq => ?_
  · exact codeAny_compStart_list loop (T.self X.A 0 _ _ _ st4 loop)
  · have J7 : L2.Inv X pins σ H' s' := I3.call' (ch := fp) I'.os I'.base I'.hok I'.bare fun b hb => ⟨(f3 b hb).1.2.2.2.1, (f3 b hb).1.2.1, (f3 b hb).1.2.2.2.2.1, (f3 b hb).1.2.2.2.2.2⟩
    obtain ⟨m, hn, _⟩ := I'.loc
    exact hRR _ _ s' m H' J7 qq (show s'.heap.Ns s3.heap.objs.size m from hn) (I3.fpOk (Nat.le_refl _) (show H' s3.heap.objs.size = none from I'.free))
/-- as a value -/
theorem pe_lcN (hc : X.calm = true) (hN : X.N.Nodup) (hi : PI X tg iter wi) (ok : BlkOk X.N X.env.scope scope own)
    (hg : ∀ s H C cl fp, PG (blkC X scope s H C cl fp) tg g) (ht : ∀ s H C cl fp, PTs (blkC X scope s H C cl fp) ifs tt) (hC : ∀ s H C cl fp, ClOk (blkC X scope s H C cl fp) gs cs (own.map (·.2))) (he : ∀ s H C cl fp, PE (blkC X scope s H C cl fp) elt te)
    (hs : ∀ x, foldedSetIterable iter X.env x = pure x := by intro _; rfl) : PE X (.ListComp elt (⟨tg, iter, ifs, 0⟩ :: gs) scope pos) (tLcN ⟨wi, g, tt, own.map (·.2)⟩ cs te) := by
  refine ⟨fun pins s σ H Q I h => ?_⟩
  rw [eval_ListComp]
  refine lcN_core hc hN I hi ok hg ht hC he hs h fun D C s' m H' I' q hn f => ⟨m, hn, fun h'' sb => ?_⟩
  exact ⟨.ref D, H', I'.turned (t' := s'.toks) (fun b o hb e => (sb.2 b hb).trans e) f.1 f.2.1 f.2.2.2.1 f.2.2.2.2.1 f.2.2.2.2.2, rfl, q⟩
/-- stored in a name -/
theorem ps_setLcN {i : Nat} {y : Str} {py spos : Pos} (hc : X.calm = true) (hN : X.N.Nodup) (hy : X.N[i]? = some y) (hyl : X.env.scope.names.lookup y = some .local) (hsw : swapsWith (.ListComp elt (⟨tg, iter, ifs, 0⟩ :: gs) scope pos) (some (.Name y py)) spos.line X.env = pure true)
    (hi : PI X tg iter wi) (ok : BlkOk X.N X.env.scope scope own)
    (hg : ∀ s H C cl fp, PG (blkC X scope s H C cl fp) tg g) (ht : ∀ s H C cl fp, PTs (blkC X scope s H C cl fp) ifs tt) (hC : ∀ s H C cl fp, ClOk (blkC X scope s H C cl fp) gs cs (own.map (·.2))) (he : ∀ s H C cl fp, PE (blkC X scope s H C cl fp) elt te)
    (hs : ∀ x, foldedSetIterable iter X.env x = pure x := by intro _; rfl) : PS X (.Assign [.Name y py] (.ListComp elt (⟨tg, iter, ifs, 0⟩ :: gs) scope pos) spos) (tAsg (tLcN ⟨wi, g, tt, own.map (·.2)⟩ cs te) (gName i)) := by
  refine ⟨fun pins s σ H D I h => ?_⟩
  rw [exec_Assign_Name_used _ _ _ _ hsw]
  refine wpAny_bind (wpAny_standAt (wpAny_bind ?_))
  have h' : tLcN ⟨wi, g, tt, own.map (·.2)⟩ cs te σ H (fun x H1 => gName i x σ H1 D.nx) := h
  refine wpAny_bind (thn (lcN_core (Qf := fun _ s' => SP X pins D .next s') (use := some (assign (.Name y py) X.env)) hc hN I hi ok hg ht hC he hs h' fun L C s' m H' I' q hn f => ?_) fun _ s' hq => wpAny_pure (wpAny_pure hq))
  show wpAny _ _ (assign (.Name y py) X.env (.ref L)) _ _ _
  obtain ⟨f0, f1, f2, f3, f4, f5⟩ := f
  refine wpAny_assign_Name (store_ok2 (v := V.ref L) I' hN hy (.inl hyl) rfl (fun s2 I2 ⟨a, sb, ha⟩ => ?_) (.inr hyl))
  have ne : C ≠ a := by
    rcases ha with z | z
    · rw [z]; exact f1
    · exact fun e => f4 y a z e.symm
  exact ⟨m, hn.sameBut sb ne, fun h3 sb3 => ⟨_, H', I2.turned (t' := s2.toks) (fun b o hb e => (sb3.2 b hb).trans e) f0 f1 f3 f4 f5, q⟩⟩
end
end Sh
set_option Elab.async false
set_option linter.all false
set_option maxRecDepth 100000
set_option maxHeartbeats 4000000
namespace Sh
open PySem PySem.Spec PyProof.Rows L2
/-! ### try: .. except X as e: .. except Y as e: .. (the same name e, slot i) -/
/-- behind a suite: the name is gone -/
def gone (i : Nat) (D : Ends) : Ends := { nx := fun σ' H' => D.nx (σ'.set i none) H', rt := D.rt, bk := fun σ' H' => D.bk (σ'.set i none) H', ct := fun σ' H' => D.ct (σ'.set i none) H' }
abbrev HdR := Value × (Addr → Value → Option Addr → TS)
def wAll (K : PySem.W.Frag) (i : Nat) (Wout : WX) (D : Ends) : List HdR → WX
  | [] => Wout
  | (c, ts) :: r => fun cls d σ H => ∃ b, PySem.W.exmOne K cls c = some b ∧ (b = true → ∀ a, H a = none → ts a cls d (gone i D) (σ.set i (some (.ref a))) H) ∧ (b = false → wAll K i Wout D r cls d σ H)
inductive AsOk (X : Cx) (n : Str) : List ExceptHandler → List HdR → Prop
  | nil : AsOk X n [] []
  | cons {x : Str} {c : Value} {ts : Addr → Value → Option Addr → TS} {b₀ : Stmt} {suite : List Stmt} {np pos' : Pos} {hds : List ExceptHandler} {l : List HdR} (hc : Names X x c)
      (hsu : ∀ (a : Addr) (oe : Obj) (cls : Value) (d : Option Addr) (pn : List (Addr × Obj)), Zc cls d oe → (∃ vs, oe.data = .fields vs) → PSs (X.suite a ((a, oe) :: pn)) (b₀ :: suite) (ts a cls d)) (r : AsOk X n hds l) :
      AsOk X n (.ExceptHandler (some (.Name x np)) (some n) (b₀ :: suite) pos' :: hds) ((c, ts) :: l)
section
variable {X : Cx} {n : Str} {i : Nat} {body : List Stmt} {h₀ : ExceptHandler} {hds : List ExceptHandler} {l : List HdR} {pos : Pos} {tb : WX → TS} {Wout : WX}
theorem ps_try_manyAs (hs : X.stack = X.env :: X.outer) (hf : X.env.frame = some X.env.locals) (hN : X.N.Nodup) (hi : X.N[i]? = some n) (hln : X.env.kindOf n = some .local) (tk : Takes X Wout)
    (hb : ∀ (W : WX) (pn : List (Addr × Obj)) (xe : Value → Shared → Prop), Takes (X.tr pn xe) W → PassesOwn (model X.prog X.w) X.A X.env xe → PSs (X.tr pn xe) body (tb W))
    (hh : AsOk X n (h₀ :: hds) l) : PS X (.Try body (h₀ :: hds) [] [] pos) (fun D σ H => tb (wAll X.K i Wout D l) D σ H) := by
  refine ⟨fun pins s σ H D I h => wpAny_Try_except ?_⟩
  have ok := I.ok
  have fr : X.A.frames = some (X.env :: X.outer) := by rw [ok.frames, hs]
  let after : Value → Shared → Prop := fun e s₁ => wpAny (model X.prog X.w) X.A (noteFrame e X.env) (fun _ s₂ => wpAny (model X.prog X.w) X.A (setFlight e none) (fun _ s₃ => wpAny (model X.prog X.w) X.A (handleBy e X.env (h₀ :: hds)) (SP X pins D) X.xe s₃) X.xe s₂) X.xe s₁
  have caught : Takes (X.tr (X.pn ++ pins) after) (wAll X.K i Wout D l) := by
    rintro u s' ⟨a, B, sI, pins', σ', H', cls, d, rfl, J', nb, up, sky, na, os, ag, w⟩
    have J : L2.Inv X pins σ' H' sI := J'.ofTry ok
    have sk : Sky B (X.env :: X.outer) a (Zc cls d) X.env.locals s'.heap := hs ▸ sky
    show wpAny (model X.prog X.w) X.A (noteFrame (.ref a) X.env) _ _ _
    refine Sky.land Zc.steady fr hf sk fun g fl ug => ?_
    have J3 : L2.Inv X pins σ' H' { s' with heap := g } := J.landed nb fl.1 (up.trans ug) os ag
    obtain ⟨oe, vs, ge, hz, gd⟩ := fl.there
    have aside : a ∉ frs (X.env :: X.outer) := fun m => by
      obtain ⟨_, o', q, nf⟩ := fl.2.2.1.mem m
      rw [ge] at q
      cases q
      exact nf _ gd
    have nL : a ≠ X.env.locals := fun z => aside (List.mem_filterMap.mpr ⟨X.env, List.mem_cons_self, by rw [hf, z]⟩)
    have nF : a ∉ X.fs := fun m => let ⟨e, he, q⟩ := List.mem_filterMap.mp m; aside (List.mem_filterMap.mpr ⟨e, List.mem_cons_of_mem _ he, q⟩)
    have S3 := J3.suite ge gd na nL nF
    have look : PySem.W.Looks (model X.prog X.w) g (typeOf (.ref a)) cls := fun A Q E s k q => wpAny_typeOf_ref (k _ _ ge) (by rw [hz.1]; exact q)
    suffices key : ∀ {hs' : List ExceptHandler} {l' : List HdR}, AsOk X n hs' l' → wAll X.K i Wout D l' cls d σ' H' → wpAny (model X.prog X.w) X.A (handleBy (.ref a) X.env hs') (SP X pins D) X.xe { s' with heap := g } from key hh w
    intro hs' l' hk
    induction hk with
    | nil =>
      intro w
      refine wpAny_handleBy_nil ?_
      obtain ⟨_, _, _, o1, vs1, T, _, _, e1, _, d1, f1, _⟩ := id fl
      unfold PySem.passOn
      refine wpAny_bind (wpAny_field e1 d1 f1 ?_)
      rw [if_neg (show ¬ ((Value.ref T == Value.none) = true) from by simp)]
      have out : wpAny (model X.prog X.w) X.A (setFlight (.ref a) X.env.frame) (fun _ s4 => wpAny (model X.prog X.w) X.A (throw (.ref a) : Sem Flow) (SP X pins D) X.xe s4) X.xe { s' with heap := g } := by
        rw [hf]
        exact HandSPX.setFlight_upZ fl fun h4 sk4 up4 => wpAny_throw (tk _ _ ⟨a, B, sI, pins, σ', H', cls, d, rfl, J, nb, (up.trans ug).trans up4, .inr (.inr (by rw [hs]; exact sk4)), na, os, ag, w⟩)
      first
        | exact wpAny_bind (wpAny_pure (wpAny_bind out))
        | exact wpAny_bind out
    | @cons x c ts b₀ suite np pos' hds2 l2 hc hsu r ih =>
      rintro ⟨b, eb, yes, no⟩
      refine wpAny_handleBy_cons (codeAny_handlers_test ?_) (by intro q; cases q)
      have named : ∀ {Q : Value → Shared → Prop} {E : Value → Shared → Prop}, Q c { s' with heap := g } → wpAny (model X.prog X.w) (X.A.mark (some (.ref a))) (eval (.Name x np) X.env) Q E { s' with heap := g } := fun {Q E} q => by
        obtain ⟨k1, k2, k3 | ⟨k3, k4, k5⟩⟩ := hc
        · exact ld_glob (X := X.suite a ((a, oe) :: (X.pn ++ pins))) S3 k1 k3 q k2
        · exact ld_blt (X := X.suite a ((a, oe) :: (X.pn ++ pins))) S3 k1 k3 k4 q k5 k2
      refine named ((PySem.W.exm_one (M := model X.prog X.w) J3.kIn look eb).here ?_)
      cases b with
      | false => exact ih (no rfl)
      | true =>
        refine codeAny_handlers_suite_as (HandSPX.lands_againZ fl fun h4 fl4 up4 => ?_)
        have J4 : L2.Inv X pins σ' H' { s' with heap := h4 } := J.landed nb fl4.1 ((up.trans ug).trans up4) os ag
        obtain ⟨o4, vs4, g4, z4, d4⟩ := fl4.there
        refine store_ok (X := X.suite a ((a, o4) :: (X.pn ++ pins))) (v := .ref a) (J4.suite g4 d4 na nL nF) hN hi (.inl hln) rfl (fun s5 S5 => ?_) (.inr hln)
        refine wpAny_mono ((hsu a o4 cls d (X.pn ++ pins) z4 ⟨_, d4⟩).run [] s5 _ H' _ S5 (yes rfl a na)) (fun f s6 hq => ?_) (fun _ _ z => False.elim z)
        have bye : ∀ {σ6 : L2.St} {H6 : Hp} {Q : Shared → Prop}, L2.Inv (X.suite a ((a, o4) :: (X.pn ++ pins))) [] σ6 H6 s6 → (∀ s7, L2.Inv X pins (σ6.set i none) H6 s7 → Q s7) →
            wpAny (model X.prog X.w) X.A (do bindName X.env n .none; unbindBehindTheSuite X.env n pos') (fun _ s7 => Q s7) X.xe s6 := fun S6 hq => gone_ok (S6.unsuite ok) hN hi hln hq
        cases f with
        | ret u => obtain ⟨v, _, _, S6, r6, q⟩ := hq; exact bye S6 fun s7 J7 => ⟨v, _, _, J7, r6, q⟩
        | next => obtain ⟨_, _, S6, q⟩ := hq; exact bye S6 fun s7 J7 => ⟨_, _, J7, q⟩
        | brk => obtain ⟨_, _, S6, q⟩ := hq; exact bye S6 fun s7 J7 => ⟨_, _, J7, q⟩
        | cont => obtain ⟨_, _, S6, q⟩ := hq; exact bye S6 fun s7 J7 => ⟨_, _, J7, q⟩
  refine wpAny_mono ((hb _ (X.pn ++ pins) after caught PassesOwn.looking).run [] s σ H D (I.toTry _) h) (fun f s1 hq => ?_) (fun e s1 he => he)
  cases f with
  | ret u => obtain ⟨v, _, _, J, r, q⟩ := hq; exact ⟨v, _, _, J.ofTry ok, r, q⟩
  | next => obtain ⟨_, _, J, q⟩ := hq; exact wpAny_execs_nil ⟨_, _, J.ofTry ok, q⟩
  | brk => obtain ⟨_, _, J, q⟩ := hq; exact ⟨_, _, J.ofTry ok, q⟩
  | cont => obtain ⟨_, _, J, q⟩ := hq; exact ⟨_, _, J.ofTry ok, q⟩
end
end Sh
set_option Elab.async false
set_option linter.all false
set_option maxRecDepth 100000
set_option maxHeartbeats 4000000
namespace Sh
open PySem PySem.Spec PyProof.Rows L2
/-! ### o == t, t a tuple, where o's own == gives NotImplemented -/
theorem same_left {M : Model} {A : Around} {E : Value → Shared → Prop} {s : Shared} {x y : Addr} {ox oy : Obj} {R : Bool → Shared → Prop} (hxy : x ≠ y) (hx : s.heap.get? x = some ox) (hy : s.heap.get? y = some oy) (nt : ox.cls ≠ .type "tuple") (h : R false s) : wpAny M A (isSame (.ref x) (.ref y)) R E s := by
  show wpAny M A (if (x == y) = true then pure true else _) R E s
  rw [if_neg (by simpa using hxy)]
  refine wpAny_bind (wpAny_load hx (wpAny_bind (wpAny_load hy ?_)))
  split
  · rename_i h1 _ _ _
    exact absurd h1 nt
  · exact wpAny_pure h
section
variable {X : Cx} {C f : Addr} {fd : FuncData}
theorem sub_tup {K : PySem.W.Frag} {C : Addr} : PySem.W.subIn K (.type "tuple") (.ref C) = some false := by
  have e : fastBuiltinMro "tuple" = some [.type "tuple", .type "object"] := by decide +kernel
  show (fastBuiltinMro "tuple").map (·.contains (.ref C)) = some false
  rw [e]
  first
    | rfl
    | simp
theorem tup_eq_ins {prog : Program} {w : World} {A : Around} {E : Value → Shared → Prop} {s : Shared} {K : PySem.W.Frag} {x b C : Addr} {ox ob : Obj} {od : Option Obj} {Q : Option Value → Shared → Prop} (X : K.In s.heap) (I : PySem.W.InstAt s.heap x ox C od) (nt : PySem.W.mroIn K C (.type "tuple") = some false)
    (hb : s.heap.get? b = some ob) (hc : ob.cls = .type "tuple") (h : Q none s) : wpAny (model prog w) A (tryCompare (.ref b) "__eq__" (.ref x)) Q E s := by
  refine wpAny_tryCompare_declines (show s.TypeIs (.ref b) "tuple" from ⟨ob, hb, hc⟩) F.slot_tuple_eq (GQ.call_here F.slot_tuple_eq ⟨ob, hb, hc⟩ F.entry_tuple_eq (F.args_tuple_eq_2 _ _) ?_)
  have L : PySem.W.Looks (model prog w) s.heap (isInstance (.ref x) (.type "tuple")) false := I.type.andThen (PySem.W.looks_mroIn X nt)
  unfold Builtin.«tuple.__eq__»
  repeat (first | with_reducible refine wpAny_bind (L.here ?_) | wp_step)
  exact ⟨rfl, h⟩
/-- o == xs, where o's own == gives NotImplemented: False -/
def rEqNT (N : List Str) (C : Addr) (tt : TT) : R2 := fun x y H Q => ∃ a b dx fs xs, x = .ref a ∧ y = .ref b ∧ H a = some (.ins C dx fs) ∧ H b = some (.tup xs) ∧
  tt (L2.start N [x, y]) H (fun k H' => k = true ∧ H' a = some (.ins C dx fs) ∧ H' b = some (.tup xs) ∧ Q (.bl false) H')
theorem op_eqNT {qual : Str} {st : Stmt} {N : List Str} {c : Expr} {rest : List Stmt} {p p2 p3 : Pos} {tt : TT} (e : EqC X.K C f)
    (F : Fun X.K "__eq__" qual st f fd) (S : FnScope N ["self", "other"] (defScope st)) (hbd : defBody st = .If c [.Return (some (.Name "NotImplemented" p)) p2] [] p3 :: rest) (hbi : Binds X.K fd ["self", "other"] [])
    (hg : (defScope st).names.lookup ("NotImplemented" : Str) = some .globalImplicit) (hm : X.mg "NotImplemented" = none)
    (ht : ∀ (cdv : Value) (A : Around) (outer : List Env) (s : Shared) (H : Hp) (E : XK), Room 0 A → PT (cxOf CX0 X.prog X.w X.K X.mg X.base N qual (defScope st) f cdv A outer s H E) c tt) (hr : Room 1 X.A) : OpR X (compareOp .Eq) (rEqNT N C tt) := by
  intro pins s σ H x y v u Q I rx ry h
  obtain ⟨a, b, dx, fs, xs, rfl, rfl, ha, hb, hq⟩ := h
  cases rx
  cases ry
  have hab : a ≠ b := ne_of ha hb (by intro z; cases z)
  obtain ⟨mA, J, _⟩ := ins_get I.hok ha
  obtain ⟨od, J, _⟩ := J.look
  obtain ⟨_, its, _, ot, hob, hcl, n, _⟩ := I.hok b _ hb
  have un := hr.un
  have one : wpAny (model X.prog X.w) X.A (tryCompare (.ref a) "__eq__" (.ref b)) (fun r s' => r = none ∧ ∃ H', L2.Inv X pins σ H' s' ∧ H' a = some (.ins C dx fs) ∧ H' b = some (.tup xs) ∧ Q (.bl false) H') X.xe s := by
    unfold tryCompare
    refine wpAny_bind (PySem.W.ifBound_K I.kIn J e.eq e.fn (wpAny_mono (run_ni F S hbd hbi hg hm ht hr I.env0 (us := [.ref a, .ref b]) (vs := [.ref a, .ref b]) (.cons rfl (.cons rfl .nil)) rfl hq) (fun v s' z => ?_) fun _ _ z => z.elim))
    obtain ⟨rfl, H', os, bare, un, hok, q1, q2, q3⟩ := z
    exact wpAny_pure ⟨rfl, H', I.call' os un hok bare (fun b z => absurd z (by simp)), q1, q2, q3⟩
  show wpAny (model X.prog X.w) X.A (richCompare .Eq (.ref a) (.ref b)) (EP X pins σ Q) X.xe s
  simp only [richCompare, cmpInfo_Eq, oneThing_ref]
  refine wpAny_holding (wpAny_bind (wpAny_cRoomFor (by omega) ?_))
  refine wpAny_bind (J.type.here ?_)
  refine wpAny_bind (wpAny_typeOf (show s.TypeIs (.ref b) "tuple" from ⟨_, hob, hcl⟩) ?_)
  have tail : ∀ s1, (∃ H', L2.Inv X pins σ H' s1 ∧ H' a = some (.ins C dx fs) ∧ H' b = some (.tup xs) ∧ Q (.bl false) H') → wpAny (model X.prog X.w) X.A (tryCompare (.ref b) "__eq__" (.ref a)) (fun r s' => r = none ∧ s' = s1) X.xe s1 ∧ wpAny (model X.prog X.w) X.A (isSame (.ref a) (.ref b)) (fun r s' => r = false ∧ s' = s1) X.xe s1 := by
    rintro s1 ⟨H', I1, q1, q2, _⟩
    obtain ⟨mB, J1, _⟩ := ins_get I1.hok q1
    obtain ⟨od1, J1, _⟩ := J1.look
    obtain ⟨_, its1, _, ot1, hob1, hcl1, n1, _⟩ := I1.hok b _ q2
    exact ⟨tup_eq_ins I1.kIn J1 e.nt hob1 hcl1 ⟨rfl, rfl⟩, same_left hab J1.at_ hob1 (by intro z; cases z) ⟨rfl, rfl⟩⟩
  split
  · refine wpAny_bind ((PySem.W.looks_subIn I.kIn sub_tup).here ?_)
    simp only [Bool.false_eq_true, if_false, Bool.not_false, if_true]
    refine wpAny_bind (m := tryCompare (.ref a) _ (.ref b)) (wpAny_mono one (fun r s1 z => ?_) fun _ _ e => e)
    obtain ⟨rfl, z⟩ := z
    refine wpAny_bind (m := tryCompare (.ref b) _ (.ref a)) (wpAny_mono (tail s1 z).1 (fun r s2 y => ?_) fun _ _ e => e)
    obtain ⟨rfl, rfl⟩ := y
    refine wpAny_bind (wpAny_rule (wpAny_bind (wpAny_mono (tail s2 z).2 (fun r s3 y => ?_) fun _ _ e => e)))
    obtain ⟨rfl, rfl⟩ := y
    obtain ⟨H', I1, _, _, q⟩ := z
    exact wpAny_pure ⟨.bl false, H', I1, rfl, q⟩
  · refine wpAny_bind (wpAny_pure ?_)
    simp only [Bool.false_eq_true, if_false, Bool.not_false, if_true]
    refine wpAny_bind (m := tryCompare (.ref a) _ (.ref b)) (wpAny_mono one (fun r s1 z => ?_) fun _ _ e => e)
    obtain ⟨rfl, z⟩ := z
    refine wpAny_bind (m := tryCompare (.ref b) _ (.ref a)) (wpAny_mono (tail s1 z).1 (fun r s2 y => ?_) fun _ _ e => e)
    obtain ⟨rfl, rfl⟩ := y
    refine wpAny_bind (wpAny_rule (wpAny_bind (wpAny_mono (tail s2 z).2 (fun r s3 y => ?_) fun _ _ e => e)))
    obtain ⟨rfl, rfl⟩ := y
    obtain ⟨H', I1, _, _, q⟩ := z
    exact wpAny_pure ⟨.bl false, H', I1, rfl, q⟩
end
end Sh
set_option Elab.async false
set_option linter.all false
set_option maxRecDepth 100000
set_option maxHeartbeats 4000000
namespace Sh
open PySem PySem.Spec PyProof.Rows L2
open AutoSeq1 (wpAny_loadPart')
/-! ### for i, x in enumerate(t), t a tuple -/
abbrev itT (t : Addr) : Obj := { cls := .type "tuple_iterator", data := .fields #[.ref t, .int 0 0] }
abbrev enO (it : Addr) : Obj := { cls := .type "enumerate", data := .fields #[.none, .bool false, .ref it, rawInt 0, .none, .none] }
theorem enumT_new (l : Addr) (items : Array Value) (n : Nat) (dct : Option Addr) (sl : Array (Option Value)) :
    Meets (Builtin.«enumerate.__new__» ⟨[.type "enumerate", .ref l], []⟩) (fun _ R s => s.heap.get? l = some { cls := .type "tuple", dict := dct, data := .seq items n, slots := sl } ∧
      R (.ok (.ret (.ref (s.heap.push (itT l)).objs.size))) { s with heap := (s.heap.push (itT l)).push (enO s.heap.objs.size) }) :=
  .of_wp fun prog w A R s h => by
    obtain ⟨hp, g, d, tk, os⟩ := s
    obtain ⟨hl, h⟩ := h
    have sub := sub_enumerate
    have tup : Heap.IsTuple (Shared.heap ⟨hp, g, d, tk, os⟩) l items := ⟨_, hl, rfl, n, rfl⟩
    wp_walk using wpAny_loadPart' hl
    refine wpAny_stack_any fun st => wpAny_pure ?_
    split
    · rename_i c _ _ _ _ _
      cases (c == Value.type "enumerate") <;>
      · wp_walk using wpAny_loadPart' hl, wpAny_pyIter_tuple tup
        exact ⟨_, rfl, h⟩
    · wp_walk using wpAny_loadPart' hl, wpAny_pyIter_tuple tup
      exact ⟨_, rfl, h⟩
theorem call_enumT {prog : Program} {w : World} {A : Around} {E : Value → Shared → Prop} {s : Shared} {t : Addr} {items : Array Value} {Q : Value → Shared → Prop} (hT : s.heap.IsTuple t items)
    (h : ∀ h', IsEnum h' (s.heap.objs.size + 1) s.heap.objs.size 0 .none → h'.IsTupleIter s.heap.objs.size t 0 → (∀ b o, s.heap.get? b = some o → h'.get? b = some o) → Q (.ref (s.heap.objs.size + 1)) { s with heap := h' }) :
    wpAny (model prog w) A (call (.type "enumerate") [.ref t]) Q E s := by
  obtain ⟨⟨c, dct, dt, sl⟩, hl, hc, n, hd⟩ := hT
  have ec : c = .type "tuple" := hc
  have ed : dt = .seq items n := hd
  subst ec ed
  refine callType_new F.called_enumerate (by decide) (F.typeCall_enumerate_1 _) (F.newCall_enumerate_1 _) (fun obj => F.args_object_init_2 obj _) F.entry_enumerate_new (enumT_new t items n dct sl) ⟨hl, ?_⟩
  have sz : (s.heap.push (itT t)).objs.size = s.heap.objs.size + 1 := Heap.size_push ..
  show _ ∧ _
  rw [sz]
  have ae : ((s.heap.push (itT t)).push (enO s.heap.objs.size)).get? (s.heap.objs.size + 1) = some (enO s.heap.objs.size) := by
    have := Heap.get?_push_size (s.heap.push (itT t)) (o := enO s.heap.objs.size) rfl
    rw [sz] at this
    exact this
  exact ⟨⟨_, ae, rfl⟩, h _ ae ⟨_, Heap.get?_push_of_some _ (Heap.get?_push_size _ rfl), rfl, rfl⟩ fun b o x => Heap.get?_push_of_some _ (Heap.get?_push_of_some _ x)⟩
theorem endT {prog : Program} {w : World} {A : Around} {E : Value → Shared → Prop} {s : Shared} {e it a : Addr} {i : Nat} {items : Array Value} {old : Value} {Q : Option Value → Shared → Prop} (hh : A.handled = none) (he : IsEnum s.heap e it (i : Int) old) (hit : s.heap.IsTupleIter it a i) (ht : s.heap.IsTuple a items)
    (hx : items[i]? = none) (hQ : ∀ h', Heap.ExtBut it s.heap h' → Q none { s with heap := h' }) : wpAny (model prog w) A (pyNext (.ref e)) Q E s := by
  have hT : s.TypeIs (.ref e) "enumerate" := ⟨_, he, rfl⟩
  unfold pyNext
  refine wpAny_bind (wpAny_attempt (wpAny_callSpecial?_slot (name := Str.ofString "__next__") hT F.slot_enumerate_next (wpAny_call_entry F.slot_enumerate_next hT F.entry_enumerate_next ?_ (F.args_enumerate_next_1 _))))
  show wpAny _ _ (field (.ref e) 2 >>= _) _ _ _
  refine wpAny_bind (wpAny_field he rfl (x := .ref it) rfl ?_)
  refine wpAny_bind (PySem.wpAny_nextOf_tuple_end hh hit ht hx fun h' x eb hx' => ?_)
  obtain ⟨o, ho, hc⟩ := hx'
  exact wpAny_bind (wpAny_isInstance (T := "StopIteration") (b := true) ⟨o, ho, hc⟩ isSubtype_stop (wpAny_pure (hQ _ eb)))
/-- the tuple at a, its items in new pairs with their number -/
def ItET (K : PySem.W.Frag) (a : Addr) : It :=
  ⟨fun i H => ∃ (xs : List V) (x : V), SqT K H a xs ∧ xs[i]? = some x, fun i H v H' => ∃ T x, v = .ref T ∧ H T = none ∧ H' = upd H T (.tup [.int (i : Nat), x]) ∧ ∀ xs, SqT K H a xs → xs[i]? = some x, fun i H => ∃ xs : List V, SqT K H a xs ∧ xs.length ≤ i⟩
theorem tup_ne {h : Heap} {a b : Addr} {items : Array Value} {o : Obj} (t : h.IsTuple a items) (hb : h.get? b = some o) (n : o.cls ≠ .type "tuple") : a ≠ b := fun z => by
  obtain ⟨o', h1, h2, _⟩ := t
  rw [z, hb] at h1
  cases h1
  exact n h2
theorem turn_enumT {P : Program} {w : World} {K : PySem.W.Frag} {elts : List Expr} {kk : Nat} {tpos : Pos} (a e it : Addr) :
    Turn P w K (.Tuple elts kk tpos) (ItET K a) [e, it] e (fun i h => (∃ old, IsEnum h e it ((i : Nat) : Int) old) ∧ h.IsTupleIter it a i ∧ e ≠ it) where
  mem := by simp
  obj := fun i h st b hb => by
    obtain ⟨⟨old, he⟩, ⟨o, ho, hc, hd⟩, _⟩ := st
    rcases (show b = e ∨ b = it by simpa using hb) with rfl | rfl
    · exact ⟨_, he, fun v q => nomatch q⟩
    · exact ⟨o, ho, fun v q => by rw [hd] at q; cases q⟩
  keep := fun i h h' st k => let ⟨⟨old, he⟩, hi, hne⟩ := st; ⟨⟨old, k e (by simp) _ he⟩, hi.at fun o q => k it (by simp) o q, hne⟩
  item := by
    intro X hP hw hK hc i pins s σ H E I hf st hg
    subst hP hw hK
    obtain ⟨⟨old, he⟩, hit, hne⟩ := st
    obtain ⟨xs, x, hq, hx⟩ := hg
    obtain ⟨its, rv, p, hz⟩ := I.tuple hq
    obtain ⟨u, hu, ru⟩ := rv.get hx
    have le : e < s.heap.objs.size := Heap.lt_size he
    have li : it < s.heap.objs.size := let ⟨_, q, _⟩ := hit; Heap.lt_size q
    have tp : s.heap.IsTuple a its.toArray := p
    have ae : a ≠ e := tup_ne tp he (fun z => absurd (Value.type.inj z) (by decide))
    have ai : a ≠ it := let ⟨o, q, c, _⟩ := hit; tup_ne tp q (by rw [c]; decide)
    have hil : i < its.toArray.size := by
      have := (List.getElem?_eq_some_iff.mp hu).1
      simpa using this
    refine wpAny_pyNext_enum_itemD (PySem.Draws.tuple (prog := X.prog) (w := X.w) (A := X.A.in1) (I.ok.hd hc) it a ai its.toArray) he ⟨hit, tp⟩ hil hne (by simp [hne, ae.symm]) fun x' h' tk px ho st' hT hsz hk => ?_
    have ex : x' = u := by
      have px' : its.toArray[i]? = some x' := px
      rw [show its.toArray[i]? = its[i]? by simp, hu] at px'
      exact (Option.some.inj px').symm
    subst ex
    refine ⟨_, rfl, wpAny_letOwnedTupleGo_enum (s := { s with heap := h', toks := tk + 1 }) ho fun h'' he' sb => ?_⟩
    have hT2 : h''.get? s.heap.objs.size = some { cls := .type "tuple", data := .seq #[.int i tk, x'] } := (sb.2 _ (Nat.ne_of_gt le)).trans hT
    have new : ObjOk X.prog X.w (upd H s.heap.objs.size (.tup [.int (i : Nat), x])) h'' s.heap.objs.size (.tup [.int (i : Nat), x]) :=
      ⟨by show 2 ≤ sizeLine; decide, [.int i tk, x'], .cons ⟨_, rfl⟩ (.cons ru .nil), ⟨_, hT2, rfl, _, rfl⟩⟩
    have I1 : L2.Inv X pins σ (upd H s.heap.objs.size (.tup [.int (i : Nat), x])) { s with heap := h'', toks := tk + 1 } :=
      I.turnedNew (ch := [e, it]) (fun b ob hb q => (sb.2 b (fun z => hb (by simp [z]))).trans (hk b ob (fun z => hb (by simp [z])) (fun z => hb (by simp [z])) q)) hf (Nat.le_refl _) new
    refine ⟨.ref s.heap.objs.size, _, I1, rfl, ⟨_, x, rfl, I.hok.fresh (Nat.le_refl _), rfl, fun ys hy => by rw [I.tuple_inj hy hq]; exact hx⟩, ⟨⟨x', ?_⟩, st'.1.at fun o q => (sb.2 it (Ne.symm hne)).trans q, hne⟩, fun b hb => ?_⟩
    · rw [show ((i + 1 : Nat) : Int) = (i : Int) + 1 by omega]
      exact he'
    · have lb : b < s.heap.objs.size := by
        rcases (show b = e ∨ b = it by simpa using hb) with rfl | rfl
        · exact le
        · exact li
      rw [upd_ne (Nat.ne_of_lt lb)]
      exact (hf b hb).1
  done := by
    intro X hP hw hK hc i pins s σ H E I hf st hg
    subst hP hw hK
    obtain ⟨⟨old, he⟩, hit, hne⟩ := st
    obtain ⟨xs, hq, hx⟩ := hg
    obtain ⟨its, rv, p, hz⟩ := I.tuple hq
    obtain ⟨f0, f1, f2, f3, f4, f5⟩ := hf it (by simp)
    have hl := rv.length
    have tp : s.heap.IsTuple a its.toArray := p
    have ai : a ≠ it := let ⟨o, q, c, _⟩ := hit; tup_ne tp q (by rw [c]; decide)
    exact endT (I.ok.hd hc) he hit tp (by simp; omega) fun h' eb => ⟨rfl, I.turned (t' := s.toks) (fun b o hb q => eb b o hb q) f0 f1 f3 f4 f5⟩
  self := fun A i s Q E st h => let ⟨⟨_, he⟩, _⟩ := st; wpAny_pyIter_enum he h
def iEnumT (K : PySem.W.Frag) (ta : TA) : TI := fun σ H R => ta σ H fun vs H1 => ∃ a xs, vs = [.ref a] ∧ SqT K H1 a xs ∧ R (ItET K a) H1
theorem pi_enumT {X : Cx} {e : Expr} {ta : TA} {p pos tpos : Pos} {elts : List Expr} {kk : Nat} (hg : Gl X "enumerate") (hm : X.mg "enumerate" = none) (ha : PA X [e] ta) (hs : starEach [e] X.env = [(false, eval e X.env)] := by rfl) :
    PI X (.Tuple elts kk tpos) (.Call (.Name "enumerate" p) [e] [] pos) (iEnumT X.K ta) := by
  refine ⟨fun pins s σ H R I h => ?_⟩
  refine Call_ (ld_blt I hg hm boot_enumerate (PyProof.Rows.callWith_type1 (thn (ha.run pos pins s σ H _ I h) fun us s1 ⟨vs, H1, I1, r1, a, xs, ex, hq, q⟩ => ?_) hs rfl))
  subst ex
  rw [Vals.ref1 r1]
  obtain ⟨its, rv, tp, hz⟩ := I1.tuple hq
  refine call_enumT (show s1.heap.IsTuple a its.toArray from tp) fun h' he hit hk => wpAny_pyIter_enum he ?_
  refine ⟨s1.heap.objs.size + 1, [s1.heap.objs.size + 1, s1.heap.objs.size], _, _, H1, rfl, I1.kept (t' := s1.toks) hk, turn_enumT a (s1.heap.objs.size + 1) s1.heap.objs.size, ⟨⟨.none, he⟩, hit, Nat.succ_ne_self _⟩, fun b hb => ?_, q⟩
  have le : s1.heap.objs.size ≤ b := by
    rcases (show b = s1.heap.objs.size + 1 ∨ b = s1.heap.objs.size by simpa using hb) with z | z
    · rw [z]; exact Nat.le_add_right _ _
    · rw [z]; exact Nat.le_refl _
  exact I1.fpOk le (I1.hok.fresh le)
/-- two readings of what is walked -/
theorem pi_alt {X : Cx} {tg iter : Expr} {w1 w2 : TI} (h1 : PI X tg iter w1) (h2 : PI X tg iter w2) : PI X tg iter (fun σ H R => w1 σ H R ∨ w2 σ H R) :=
  ⟨fun pins s σ H R I h => h.elim (h1.run pins s σ H R I) (h2.run pins s σ H R I)⟩
theorem for_enumT {K : PySem.W.Frag} {a : Addr} {xs : List V} {g : TG} {tb : TS} {D : Ends} {σ : L2.St} {H : Hp} (Pv : Nat → L2.St → Hp → Prop) (h0 : Pv 0 σ H) (hl : ∀ i σ H, i ≤ xs.length → Pv i σ H → SqT K H a xs)
    (hs : ∀ (i : Nat) (x : V) (σ : L2.St) (H : Hp) (T : Addr), xs[i]? = some x → H T = none → Pv i σ H → g (.ref T) σ (upd H T (.tup [.int (i : Nat), x])) fun σ2 H2 => tb { D with nx := Pv (i + 1), ct := Pv (i + 1), bk := D.nx } σ2 H2) (hd : ∀ σ H, Pv xs.length σ H → D.nx σ H) :
    ∃ W : Nat → Nat → L2.St → Hp → Prop, (∃ m, W 0 m σ H) ∧ ∀ i m σ H, W i m σ H →
      ((ItET K a).stop i H ∧ D.nx σ H) ∨ ((ItET K a).go i H ∧ ∃ N : L2.St → Hp → Prop, (∀ σ' H', N σ' H' → ∃ m', m' < m ∧ W (i + 1) m' σ' H') ∧ ∀ x H', (ItET K a).yld i H x H' → g x σ H' fun σ2 H2 => tb { D with nx := N, ct := N, bk := D.nx } σ2 H2) := by
  refine ⟨fun i m σ H => m = xs.length - i ∧ i ≤ xs.length ∧ Pv i σ H, ⟨xs.length, by simp, Nat.zero_le _, h0⟩, ?_⟩
  rintro i m σ H ⟨rfl, hi, p⟩
  have q := hl i σ H hi p
  by_cases hlt : i < xs.length
  · refine .inr ⟨⟨xs, xs[i], q, by simp [hlt]⟩, Pv (i + 1), fun σ' H' p' => ⟨xs.length - (i + 1), by omega, rfl, hlt, p'⟩, fun x H' y => ?_⟩
    obtain ⟨T, x, rfl, nT, rfl, y⟩ := y
    exact hs i x σ _ T (y xs q) nT p
  · have e : i = xs.length := by omega
    subst e
    exact .inl ⟨⟨xs, q, Nat.le_refl _⟩, hd σ H p⟩
end Sh
set_option Elab.async false
set_option linter.all false
set_option maxRecDepth 100000
set_option maxHeartbeats 4000000
namespace Toy
open PySem L2 Sh ShL LamX NdefX
def top (i : Nat) : Stmt := PySem.Challenge.pw_treeshed_k02_rules_and_kinds.main.body.getD i (.Pass ⟨0, 0, 0, 0⟩)
abbrev s_x_NoPlace : Stmt := inClass (top 7) 0
theorem sc_x_NoPlace : NdefX.NScope ["self", "place", "__class__"] ["self", "place"] ["__class__"] (defScope s_x_NoPlace) := NdefX.nscope_by (by decide +kernel)
abbrev s_x_BadKind : Stmt := inClass (top 9) 0
theorem sc_x_BadKind : NdefX.NScope ["self", "side", "number", "__class__"] ["self", "side", "number"] ["__class__"] (defScope s_x_BadKind) := NdefX.nscope_by (by decide +kernel)
abbrev s_x_BadName : Stmt := inClass (top 10) 0
theorem sc_x_BadName : NdefX.NScope ["self", "name", "__class__"] ["self", "name"] ["__class__"] (defScope s_x_BadName) := NdefX.nscope_by (by decide +kernel)
abbrev s_is_letters : Stmt := top 16
abbrev N_is_letters : List Str := ["letters", "letter"]
theorem sc_is_letters : FnScope ["letters", "letter"] ["letters"] (defScope s_is_letters) := ⟨rfl, rfl, rfl, by decide +kernel, rfl, by decide +kernel, by decide +kernel⟩
abbrev s_is_word : Stmt := top 17
abbrev N_is_word : List Str := ["letters", "word", "letter"]
theorem sc_is_word : FnScope ["letters", "word", "letter"] ["letters", "word"] (defScope s_is_word) := ⟨rfl, rfl, rfl, by decide +kernel, rfl, by decide +kernel, by decide +kernel⟩
abbrev s_is_value : Stmt := top 18
abbrev N_is_value : List Str := ["value"]
theorem sc_is_value : FnScope ["value"] ["value"] (defScope s_is_value) := ⟨rfl, rfl, rfl, by decide +kernel, rfl, by decide +kernel, by decide +kernel⟩
abbrev s_is_row : Stmt := top 19
abbrev N_is_row : List Str := ["letters", "row", "place", "value", "flag"]
theorem sc_is_row : FnScope ["letters", "row", "place", "value", "flag"] ["letters", "row"] (defScope s_is_row) := ⟨rfl, rfl, rfl, by decide +kernel, rfl, by decide +kernel, by decide +kernel⟩
abbrev s_in_order : Stmt := top 20
abbrev N_in_order : List Str := ["letters", "places", "letter"]
theorem sc_in_order : FnScope ["letters", "places", "letter"] ["letters", "places"] (defScope s_in_order) := ⟨rfl, rfl, rfl, by decide +kernel, rfl, by decide +kernel, by decide +kernel⟩
abbrev s_Tree_init : Stmt := inClass (top 23) 0
abbrev N_Tree_init : List Str := ["self", "letters", "rows", "found", "number", "row", "children", "place"]
theorem sc_Tree_init : FnScope ["self", "letters", "rows", "found", "number", "row", "children", "place"] ["self", "letters", "rows"] (defScope s_Tree_init) := ⟨rfl, rfl, rfl, by decide +kernel, rfl, by decide +kernel, by decide +kernel⟩
abbrev s_Tree_has : Stmt := inClass (top 23) 2
abbrev N_Tree_has : List Str := ["self", "place"]
theorem sc_Tree_has : FnScope ["self", "place"] ["self", "place"] (defScope s_Tree_has) := ⟨rfl, rfl, rfl, by decide +kernel, rfl, by decide +kernel, by decide +kernel⟩
abbrev s_Tree_row : Stmt := inClass (top 23) 3
abbrev N_Tree_row : List Str := ["self", "place"]
theorem sc_Tree_row : FnScope ["self", "place"] ["self", "place"] (defScope s_Tree_row) := ⟨rfl, rfl, rfl, by decide +kernel, rfl, by decide +kernel, by decide +kernel⟩
abbrev s_Tree_below : Stmt := inClass (top 23) 4
abbrev N_Tree_below : List Str := ["self", "place"]
theorem sc_Tree_below : FnScope ["self", "place"] ["self", "place"] (defScope s_Tree_below) := ⟨rfl, rfl, rfl, by decide +kernel, rfl, by decide +kernel, by decide +kernel⟩
abbrev s_is_kind : Stmt := top 25
abbrev N_is_kind : List Str := ["kind", "kept", "flag", "children"]
theorem sc_is_kind : FnScope ["kind", "kept", "flag", "children"] ["kind"] (defScope s_is_kind) := ⟨rfl, rfl, rfl, by decide +kernel, rfl, by decide +kernel, by decide +kernel⟩
abbrev s_kinds_of : Stmt := top 26
abbrev N_kinds_of : List Str := ["side", "kinds", "found", "number", "kind"]
theorem sc_kinds_of : FnScope ["side", "kinds", "found", "number", "kind"] ["side", "kinds"] (defScope s_kinds_of) := ⟨rfl, rfl, rfl, by decide +kernel, rfl, by decide +kernel, by decide +kernel⟩
abbrev s_kind_of : Stmt := top 27
abbrev N_kind_of : List Str := ["tree", "place", "row"]
theorem sc_kind_of : FnScope ["tree", "place", "row"] ["tree", "place"] (defScope s_kind_of) := ⟨rfl, rfl, rfl, by decide +kernel, rfl, by decide +kernel, by decide +kernel⟩
abbrev s_Rule_init : Stmt := inClass (top 28) 0
abbrev N_Rule_init : List Str := ["self", "root", "others"]
theorem sc_Rule_init : FnScope ["self", "root", "others"] ["self", "root", "others"] (defScope s_Rule_init) := ⟨rfl, rfl, rfl, by decide +kernel, rfl, by decide +kernel, by decide +kernel⟩
abbrev s_Rule_eq : Stmt := inClass (top 28) 1
abbrev N_Rule_eq : List Str := ["self", "other"]
theorem sc_Rule_eq : FnScope ["self", "other"] ["self", "other"] (defScope s_Rule_eq) := ⟨rfl, rfl, rfl, by decide +kernel, rfl, by decide +kernel, by decide +kernel⟩
abbrev s_Rule_broken_at : Stmt := inClass (top 28) 2
abbrev N_Rule_broken_at : List Str := ["self", "tree", "place", "value", "flag", "kind"]
theorem sc_Rule_broken_at : FnScope ["self", "tree", "place", "value", "flag", "kind"] ["self", "tree"] (defScope s_Rule_broken_at) := ⟨rfl, rfl, rfl, by decide +kernel, rfl, by decide +kernel, by decide +kernel⟩
abbrev s_Rule_keeps : Stmt := inClass (top 28) 3
abbrev N_Rule_keeps : List Str := ["self", "tree"]
theorem sc_Rule_keeps : FnScope ["self", "tree"] ["self", "tree"] (defScope s_Rule_keeps) := ⟨rfl, rfl, rfl, by decide +kernel, rfl, by decide +kernel, by decide +kernel⟩
abbrev s_least_part : Stmt := top 29
abbrev N_least_part : List Str := ["rule", "kind"]
theorem sc_least_part : FnScope ["rule", "kind"] ["rule"] (defScope s_least_part) := ⟨rfl, rfl, rfl, by decide +kernel, rfl, by decide +kernel, by decide +kernel⟩
abbrev s_known_rule : Stmt := top 30
abbrev N_known_rule : List Str := ["name", "every", "root", "others", "kept", "flag", "children", "kind"]
theorem sc_known_rule : FnScope ["name", "every", "root", "others", "kept", "flag", "children", "kind"] ["name"] (defScope s_known_rule) := ⟨rfl, rfl, rfl, by decide +kernel, rfl, by decide +kernel, by decide +kernel⟩
abbrev s_l_pen : Stmt := top 32
abbrev N_l_pen : List Str := ["_law_script"]
theorem sc_l_pen : FnScope ["_law_script"] ["_law_script"] (defScope s_l_pen) := ⟨rfl, rfl, rfl, by decide +kernel, rfl, by decide +kernel, by decide +kernel⟩
abbrev s_l_draw : Stmt := top 33
abbrev N_l_draw : List Str := ["_law_pen_here", "_law_many", "_law_digit", "_law_k", "_law_told", "_law_cell", "_law_mix"]
theorem sc_l_draw : FnScope ["_law_pen_here", "_law_many", "_law_digit", "_law_k", "_law_told", "_law_cell", "_law_mix"] ["_law_pen_here", "_law_many"] (defScope s_l_draw) := ⟨rfl, rfl, rfl, by decide +kernel, rfl, by decide +kernel, by decide +kernel⟩
abbrev s_l_pick : Stmt := top 34
abbrev N_l_pick : List Str := ["_law_pen_here", "_law_some"]
theorem sc_l_pick : FnScope ["_law_pen_here", "_law_some"] ["_law_pen_here", "_law_some"] (defScope s_l_pick) := ⟨rfl, rfl, rfl, by decide +kernel, rfl, by decide +kernel, by decide +kernel⟩
abbrev s_l_letters : Stmt := top 35
abbrev N_l_letters : List Str := ["_law_pen_here", "_law_most", "_law_pool", "_law_found", "_law_k"]
theorem sc_l_letters : FnScope ["_law_pen_here", "_law_most", "_law_pool", "_law_found", "_law_k"] ["_law_pen_here", "_law_most"] (defScope s_l_letters) := ⟨rfl, rfl, rfl, by decide +kernel, rfl, by decide +kernel, by decide +kernel⟩
abbrev s_l_places : Stmt := top 36
abbrev N_l_places : List Str := ["_law_pen_here", "_law_letters_here", "_law_many", "_law_places_here", "_law_k", "_law_place"]
theorem sc_l_places : FnScope ["_law_pen_here", "_law_letters_here", "_law_many", "_law_places_here", "_law_k", "_law_place"] ["_law_pen_here", "_law_letters_here", "_law_many"] (defScope s_l_places) := ⟨rfl, rfl, rfl, by decide +kernel, rfl, by decide +kernel, by decide +kernel⟩
abbrev s_l_row : Stmt := top 37
abbrev N_l_row : List Str := ["_law_pen_here", "_law_place", "_law_value"]
theorem sc_l_row : FnScope ["_law_pen_here", "_law_place", "_law_value"] ["_law_pen_here", "_law_place"] (defScope s_l_row) := ⟨rfl, rfl, rfl, by decide +kernel, rfl, by decide +kernel, by decide +kernel⟩
abbrev s_l_shuffled : Stmt := top 38
abbrev N_l_shuffled : List Str := ["_law_pen_here", "_law_some", "_law_found", "_law_thing"]
theorem sc_l_shuffled : FnScope ["_law_pen_here", "_law_some", "_law_found", "_law_thing"] ["_law_pen_here", "_law_some"] (defScope s_l_shuffled) := ⟨rfl, rfl, rfl, by decide +kernel, rfl, by decide +kernel, by decide +kernel⟩
abbrev s_l_ordered : Stmt := top 39
abbrev N_l_ordered : List Str := ["_law_letters_here", "_law_words", "_law_sign"]
theorem sc_l_ordered : FnScope ["_law_letters_here", "_law_words", "_law_sign"] ["_law_letters_here", "_law_words"] (defScope s_l_ordered) := ⟨rfl, rfl, rfl, by decide +kernel, rfl, by decide +kernel, by decide +kernel⟩
abbrev s_l_caught : Stmt := top 40
abbrev N_l_caught : List Str := ["_law_function", "_law_told", "e"]
theorem sc_l_caught : FnScope ["_law_function", "_law_told", "e"] ["_law_function"] (defScope s_l_caught) := ⟨rfl, rfl, rfl, by decide +kernel, rfl, by decide +kernel, by decide +kernel⟩
abbrev s_l_every : Stmt := top 41
abbrev N_l_every : List Str := ["_law_k"]
theorem sc_l_every : FnScope ["_law_k"] [] (defScope s_l_every) := ⟨rfl, rfl, rfl, by decide +kernel, rfl, by decide +kernel, by decide +kernel⟩
abbrev s_l_kinds : Stmt := top 42
abbrev N_l_kinds : List Str := ["_law_pen_here", "_law_way", "_law_kind_here"]
theorem sc_l_kinds : FnScope ["_law_pen_here", "_law_way", "_law_kind_here"] ["_law_pen_here"] (defScope s_l_kinds) := ⟨rfl, rfl, rfl, by decide +kernel, rfl, by decide +kernel, by decide +kernel⟩
abbrev s_l_shape : Stmt := top 43
abbrev N_l_shape : List Str := ["_law_pen_here", "_law_kinds_here", "_law_kind_here"]
theorem sc_l_shape : FnScope ["_law_pen_here", "_law_kinds_here", "_law_kind_here"] ["_law_pen_here", "_law_kinds_here"] (defScope s_l_shape) := ⟨rfl, rfl, rfl, by decide +kernel, rfl, by decide +kernel, by decide +kernel⟩
abbrev s_l_refused_right : Stmt := top 44
abbrev N_l_refused_right : List Str := ["_law_pen_here", "_law_root", "_law_others", "_law_odd", "_law_wrong", "_law_beside", "_law_spot", "_law_first", "_law_later", "_law_again"]
theorem sc_l_refused_right : FnScope ["_law_pen_here", "_law_root", "_law_others", "_law_odd", "_law_wrong", "_law_beside", "_law_spot", "_law_first", "_law_later", "_law_again"] ["_law_pen_here", "_law_root", "_law_others"] (defScope s_l_refused_right) := ⟨rfl, rfl, rfl, by decide +kernel, rfl, by decide +kernel, by decide +kernel⟩
abbrev s_l_told_right : Stmt := top 45
abbrev N_l_told_right : List Str := ["_law_rule", "_law_root", "_law_others", "_law_told", "_law_due", "_law_kind_here"]
theorem sc_l_told_right : FnScope ["_law_rule", "_law_root", "_law_others", "_law_told", "_law_due", "_law_kind_here"] ["_law_rule", "_law_root", "_law_others"] (defScope s_l_told_right) := ⟨rfl, rfl, rfl, by decide +kernel, rfl, by decide +kernel, by decide +kernel⟩
abbrev s_l_kind : Stmt := top 46
abbrev N_l_kind : List Str := ["_law_rows", "_law_letters_here", "_law_place", "_law_there", "_law_row_here", "_law_children", "_law_letter"]
theorem sc_l_kind : FnScope ["_law_rows", "_law_letters_here", "_law_place", "_law_there", "_law_row_here", "_law_children", "_law_letter"] ["_law_rows", "_law_letters_here", "_law_place"] (defScope s_l_kind) := ⟨rfl, rfl, rfl, by decide +kernel, rfl, by decide +kernel, by decide +kernel⟩
abbrev s_l_tree_right : Stmt := top 47
abbrev N_l_tree_right : List Str := ["_law_letters_here", "_law_tree", "_law_rows", "_law_rule", "_law_root", "_law_others", "_law_broken", "_law_place", "_law_value", "_law_flag", "_law_kind_here", "_law_told", "_law_keeps"]
theorem sc_l_tree_right : FnScope ["_law_letters_here", "_law_tree", "_law_rows", "_law_rule", "_law_root", "_law_others", "_law_broken", "_law_place", "_law_value", "_law_flag", "_law_kind_here", "_law_told", "_law_keeps"] ["_law_letters_here", "_law_tree", "_law_rows", "_law_rule", "_law_root", "_law_others"] (defScope s_l_tree_right) := ⟨rfl, rfl, rfl, by decide +kernel, rfl, by decide +kernel, by decide +kernel⟩
abbrev s_l_known_right : Stmt := top 48
abbrev N_l_known_right : List Str := ["_law_name", "_law_root", "_law_others", "_law_kind_here", "_law_kept", "_law_flag", "_law_children", "_law_rule"]
theorem sc_l_known_right : FnScope ["_law_name", "_law_root", "_law_others", "_law_kind_here", "_law_kept", "_law_flag", "_law_children", "_law_rule"] ["_law_name"] (defScope s_l_known_right) := ⟨rfl, rfl, rfl, by decide +kernel, rfl, by decide +kernel, by decide +kernel⟩
abbrev s_law : Stmt := top 49
abbrev N_law : List Str := ["_law_script", "_law_pen_here", "_law_root", "_law_others", "_law_told", "_law_beside", "_law_rule", "_law_lacking", "_law_ends", "_law_letters_here", "_law_k", "_law_places_here", "_law_rows", "_law_tree", "_law_bare", "_law_odd", "_law_kind_here", "_law_place", "_law_row_here"]
theorem sc_law : FnScope ["_law_script", "_law_pen_here", "_law_root", "_law_others", "_law_told", "_law_beside", "_law_rule", "_law_lacking", "_law_ends", "_law_letters_here", "_law_k", "_law_places_here", "_law_rows", "_law_tree", "_law_bare", "_law_odd", "_law_kind_here", "_law_place", "_law_row_here"] ["_law_script"] (defScope s_law) := ⟨rfl, rfl, rfl, by decide +kernel, rfl, by decide +kernel, by decide +kernel⟩
structure Tx (P : Program) (K : PySem.W.Frag) (mg : Str → Option Value) where
  b_super : mg "super" = none
  c_ShedError : Addr
  m_ShedError : mg "ShedError" = some (.ref c_ShedError)
  iS : (PySem.W.clsIn K c_ShedError).isSome = true
  tS : PySem.W.typeIn K (.ref c_ShedError) = some (.type "type")
  o_get : PySem.W.specialIn K (.builtin "object.__class__") "__get__" = some (some (.builtin "getset_descriptor.__get__"))
  o_tk : PySem.W.takesIn K (.builtin "object.__class__") = some true
  c_NoPlace : Addr
  m_NoPlace : mg "NoPlace" = some (.ref c_NoPlace)
  x_NoPlace : XCls K c_ShedError c_NoPlace
  c_BadKind : Addr
  m_BadKind : mg "BadKind" = some (.ref c_BadKind)
  x_BadKind : XCls K c_ShedError c_BadKind
  c_BadName : Addr
  m_BadName : mg "BadName" = some (.ref c_BadName)
  x_BadName : XCls K c_ShedError c_BadName
  a_x_NoPlace : Addr
  fd_x_NoPlace : FuncData
  i_NoPlace : XInit P K mg c_NoPlace a_x_NoPlace "NoPlace.__init__" s_x_NoPlace fd_x_NoPlace
  nf_NoPlace_place : PySem.W.findIn K (.ref c_NoPlace) "place" = some none
  a_x_BadKind : Addr
  fd_x_BadKind : FuncData
  i_BadKind : XInit P K mg c_BadKind a_x_BadKind "BadKind.__init__" s_x_BadKind fd_x_BadKind
  nf_BadKind_side : PySem.W.findIn K (.ref c_BadKind) "side" = some none
  nf_BadKind_number : PySem.W.findIn K (.ref c_BadKind) "number" = some none
  a_x_BadName : Addr
  fd_x_BadName : FuncData
  i_BadName : XInit P K mg c_BadName a_x_BadName "BadName.__init__" s_x_BadName fd_x_BadName
  nf_BadName_name : PySem.W.findIn K (.ref c_BadName) "name" = some none
  kb_NoPlace_1 : KBn K fd_x_NoPlace ["self", "place"] 2 [] rotU rotV
  kb_BadKind_2 : KBn K fd_x_BadKind ["self", "side", "number"] 3 [] rotU rotV
  kb_BadName_1 : KBn K fd_x_BadName ["self", "name"] 2 [] rotU rotV
  xnd : [c_NoPlace, c_BadKind, c_BadName, c_ShedError].Nodup
  b_len : mg "len" = none
  b_isinstance : mg "isinstance" = none
  b_int : mg "int" = none
  b_list : mg "list" = none
  b_sorted : mg "sorted" = none
  b_abs : mg "abs" = none
  b_range : mg "range" = none
  b_tuple : mg "tuple" = none
  b_max : mg "max" = none
  b_min : mg "min" = none
  b_all : mg "all" = none
  b_any : mg "any" = none
  b_enumerate : mg "enumerate" = none
  b_str : mg "str" = none
  b_bool : mg "bool" = none
  b_NotImplemented : mg "NotImplemented" = none
  b_dict : mg "dict" = none
  c_Tree : Addr
  m_Tree : mg "Tree" = some (.ref c_Tree)
  cl_Tree : Cls K c_Tree
  na_Tree_letters : NoAttr K c_Tree "letters"
  na_Tree_rows : NoAttr K c_Tree "rows"
  na_Tree_size : NoAttr K c_Tree "size"
  na_Tree_height : NoAttr K c_Tree "height"
  na_Tree_triples : NoAttr K c_Tree "triples"
  na_Tree_ways : NoAttr K c_Tree "ways"
  c_Rule : Addr
  m_Rule : mg "Rule" = some (.ref c_Rule)
  cl_Rule : Cls K c_Rule
  na_Rule_root : NoAttr K c_Rule "root"
  na_Rule_others : NoAttr K c_Rule "others"
  m_SMALL : ∃ t, mg "SMALL" = some (.str "abcdefghijklmnopqrstuvwxyz" t)
  m_MOST_LETTERS : ∃ t, mg "MOST_LETTERS" = some (.int 200 t)
  m_MOST_PLACES : ∃ t, mg "MOST_PLACES" = some (.int 2000 t)
  m_MOST_VALUE : ∃ t, mg "MOST_VALUE" = some (.int 9 t)
  a_is_letters : Addr
  fd_is_letters : FuncData
  F_is_letters : Fun K "is_letters" "is_letters" s_is_letters a_is_letters fd_is_letters
  bi_is_letters : Binds K fd_is_letters ["letters"] []
  m_is_letters : mg "is_letters" = some (.ref a_is_letters)
  a_is_word : Addr
  fd_is_word : FuncData
  F_is_word : Fun K "is_word" "is_word" s_is_word a_is_word fd_is_word
  bi_is_word : Binds K fd_is_word ["letters", "word"] []
  m_is_word : mg "is_word" = some (.ref a_is_word)
  a_is_value : Addr
  fd_is_value : FuncData
  F_is_value : Fun K "is_value" "is_value" s_is_value a_is_value fd_is_value
  bi_is_value : Binds K fd_is_value ["value"] []
  m_is_value : mg "is_value" = some (.ref a_is_value)
  a_is_row : Addr
  fd_is_row : FuncData
  F_is_row : Fun K "is_row" "is_row" s_is_row a_is_row fd_is_row
  bi_is_row : Binds K fd_is_row ["letters", "row"] []
  m_is_row : mg "is_row" = some (.ref a_is_row)
  a_in_order : Addr
  fd_in_order : FuncData
  F_in_order : Fun K "in_order" "in_order" s_in_order a_in_order fd_in_order
  bi_in_order : Binds K fd_in_order ["letters", "places"] []
  m_in_order : mg "in_order" = some (.ref a_in_order)
  a_Tree_init : Addr
  fd_Tree_init : FuncData
  F_Tree_init : Fun K "__init__" "Tree.__init__" s_Tree_init a_Tree_init fd_Tree_init
  bi_Tree_init : Binds K fd_Tree_init ["self", "letters", "rows"] []
  mk_Tree : Mk K c_Tree a_Tree_init
  a_Tree_has : Addr
  fd_Tree_has : FuncData
  F_Tree_has : Fun K "has" "Tree.has" s_Tree_has a_Tree_has fd_Tree_has
  bi_Tree_has : Binds K fd_Tree_has ["self", "place"] []
  me_Tree_has : Meth K c_Tree "has" a_Tree_has
  a_Tree_row : Addr
  fd_Tree_row : FuncData
  F_Tree_row : Fun K "row" "Tree.row" s_Tree_row a_Tree_row fd_Tree_row
  bi_Tree_row : Binds K fd_Tree_row ["self", "place"] []
  me_Tree_row : Meth K c_Tree "row" a_Tree_row
  a_Tree_below : Addr
  fd_Tree_below : FuncData
  F_Tree_below : Fun K "below" "Tree.below" s_Tree_below a_Tree_below fd_Tree_below
  bi_Tree_below : Binds K fd_Tree_below ["self", "place"] []
  me_Tree_below : Meth K c_Tree "below" a_Tree_below
  a_is_kind : Addr
  fd_is_kind : FuncData
  F_is_kind : Fun K "is_kind" "is_kind" s_is_kind a_is_kind fd_is_kind
  bi_is_kind : Binds K fd_is_kind ["kind"] []
  m_is_kind : mg "is_kind" = some (.ref a_is_kind)
  a_kinds_of : Addr
  fd_kinds_of : FuncData
  F_kinds_of : Fun K "kinds_of" "kinds_of" s_kinds_of a_kinds_of fd_kinds_of
  bi_kinds_of : Binds K fd_kinds_of ["side", "kinds"] []
  m_kinds_of : mg "kinds_of" = some (.ref a_kinds_of)
  a_kind_of : Addr
  fd_kind_of : FuncData
  F_kind_of : Fun K "kind_of" "kind_of" s_kind_of a_kind_of fd_kind_of
  bi_kind_of : Binds K fd_kind_of ["tree", "place"] []
  m_kind_of : mg "kind_of" = some (.ref a_kind_of)
  a_Rule_init : Addr
  fd_Rule_init : FuncData
  F_Rule_init : Fun K "__init__" "Rule.__init__" s_Rule_init a_Rule_init fd_Rule_init
  bi_Rule_init : Binds K fd_Rule_init ["self", "root", "others"] []
  mk_Rule : Mk K c_Rule a_Rule_init
  a_Rule_eq : Addr
  fd_Rule_eq : FuncData
  F_Rule_eq : Fun K "__eq__" "Rule.__eq__" s_Rule_eq a_Rule_eq fd_Rule_eq
  bi_Rule_eq : Binds K fd_Rule_eq ["self", "other"] []
  me_Rule_eq : Meth K c_Rule "__eq__" a_Rule_eq
  a_Rule_broken_at : Addr
  fd_Rule_broken_at : FuncData
  F_Rule_broken_at : Fun K "broken_at" "Rule.broken_at" s_Rule_broken_at a_Rule_broken_at fd_Rule_broken_at
  bi_Rule_broken_at : Binds K fd_Rule_broken_at ["self", "tree"] []
  me_Rule_broken_at : Meth K c_Rule "broken_at" a_Rule_broken_at
  a_Rule_keeps : Addr
  fd_Rule_keeps : FuncData
  F_Rule_keeps : Fun K "keeps" "Rule.keeps" s_Rule_keeps a_Rule_keeps fd_Rule_keeps
  bi_Rule_keeps : Binds K fd_Rule_keeps ["self", "tree"] []
  me_Rule_keeps : Meth K c_Rule "keeps" a_Rule_keeps
  a_least_part : Addr
  fd_least_part : FuncData
  F_least_part : Fun K "least_part" "least_part" s_least_part a_least_part fd_least_part
  bi_least_part : Binds K fd_least_part ["rule"] []
  m_least_part : mg "least_part" = some (.ref a_least_part)
  a_known_rule : Addr
  fd_known_rule : FuncData
  F_known_rule : Fun K "known_rule" "known_rule" s_known_rule a_known_rule fd_known_rule
  bi_known_rule : Binds K fd_known_rule ["name"] []
  m_known_rule : mg "known_rule" = some (.ref a_known_rule)
  a_l_pen : Addr
  fd_l_pen : FuncData
  F_l_pen : Fun K "_law_pen" "_law_pen" s_l_pen a_l_pen fd_l_pen
  bi_l_pen : Binds K fd_l_pen ["_law_script"] []
  m_l_pen : mg "_law_pen" = some (.ref a_l_pen)
  a_l_draw : Addr
  fd_l_draw : FuncData
  F_l_draw : Fun K "_law_draw" "_law_draw" s_l_draw a_l_draw fd_l_draw
  bi_l_draw : Binds K fd_l_draw ["_law_pen_here", "_law_many"] []
  m_l_draw : mg "_law_draw" = some (.ref a_l_draw)
  a_l_pick : Addr
  fd_l_pick : FuncData
  F_l_pick : Fun K "_law_pick" "_law_pick" s_l_pick a_l_pick fd_l_pick
  bi_l_pick : Binds K fd_l_pick ["_law_pen_here", "_law_some"] []
  m_l_pick : mg "_law_pick" = some (.ref a_l_pick)
  a_l_letters : Addr
  fd_l_letters : FuncData
  F_l_letters : Fun K "_law_letters" "_law_letters" s_l_letters a_l_letters fd_l_letters
  bi_l_letters : Binds K fd_l_letters ["_law_pen_here", "_law_most"] []
  m_l_letters : mg "_law_letters" = some (.ref a_l_letters)
  a_l_places : Addr
  fd_l_places : FuncData
  F_l_places : Fun K "_law_places" "_law_places" s_l_places a_l_places fd_l_places
  bi_l_places : Binds K fd_l_places ["_law_pen_here", "_law_letters_here", "_law_many"] []
  m_l_places : mg "_law_places" = some (.ref a_l_places)
  a_l_row : Addr
  fd_l_row : FuncData
  F_l_row : Fun K "_law_row" "_law_row" s_l_row a_l_row fd_l_row
  bi_l_row : Binds K fd_l_row ["_law_pen_here", "_law_place"] []
  m_l_row : mg "_law_row" = some (.ref a_l_row)
  a_l_shuffled : Addr
  fd_l_shuffled : FuncData
  F_l_shuffled : Fun K "_law_shuffled" "_law_shuffled" s_l_shuffled a_l_shuffled fd_l_shuffled
  bi_l_shuffled : Binds K fd_l_shuffled ["_law_pen_here", "_law_some"] []
  m_l_shuffled : mg "_law_shuffled" = some (.ref a_l_shuffled)
  a_l_ordered : Addr
  fd_l_ordered : FuncData
  F_l_ordered : Fun K "_law_ordered" "_law_ordered" s_l_ordered a_l_ordered fd_l_ordered
  bi_l_ordered : Binds K fd_l_ordered ["_law_letters_here", "_law_words"] []
  m_l_ordered : mg "_law_ordered" = some (.ref a_l_ordered)
  a_l_caught : Addr
  fd_l_caught : FuncData
  F_l_caught : Fun K "_law_caught" "_law_caught" s_l_caught a_l_caught fd_l_caught
  bi_l_caught : Binds K fd_l_caught ["_law_function"] []
  m_l_caught : mg "_law_caught" = some (.ref a_l_caught)
  a_l_every : Addr
  fd_l_every : FuncData
  F_l_every : Fun K "_law_every" "_law_every" s_l_every a_l_every fd_l_every
  bi_l_every : Binds K fd_l_every [] []
  m_l_every : mg "_law_every" = some (.ref a_l_every)
  a_l_kinds : Addr
  fd_l_kinds : FuncData
  F_l_kinds : Fun K "_law_kinds" "_law_kinds" s_l_kinds a_l_kinds fd_l_kinds
  bi_l_kinds : Binds K fd_l_kinds ["_law_pen_here"] []
  m_l_kinds : mg "_law_kinds" = some (.ref a_l_kinds)
  a_l_shape : Addr
  fd_l_shape : FuncData
  F_l_shape : Fun K "_law_shape" "_law_shape" s_l_shape a_l_shape fd_l_shape
  bi_l_shape : Binds K fd_l_shape ["_law_pen_here", "_law_kinds_here"] []
  m_l_shape : mg "_law_shape" = some (.ref a_l_shape)
  a_l_refused_right : Addr
  fd_l_refused_right : FuncData
  F_l_refused_right : Fun K "_law_refused_right" "_law_refused_right" s_l_refused_right a_l_refused_right fd_l_refused_right
  bi_l_refused_right : Binds K fd_l_refused_right ["_law_pen_here", "_law_root", "_law_others"] []
  m_l_refused_right : mg "_law_refused_right" = some (.ref a_l_refused_right)
  a_l_told_right : Addr
  fd_l_told_right : FuncData
  F_l_told_right : Fun K "_law_told_right" "_law_told_right" s_l_told_right a_l_told_right fd_l_told_right
  bi_l_told_right : Binds K fd_l_told_right ["_law_rule", "_law_root", "_law_others"] []
  m_l_told_right : mg "_law_told_right" = some (.ref a_l_told_right)
  a_l_kind : Addr
  fd_l_kind : FuncData
  F_l_kind : Fun K "_law_kind" "_law_kind" s_l_kind a_l_kind fd_l_kind
  bi_l_kind : Binds K fd_l_kind ["_law_rows", "_law_letters_here", "_law_place"] []
  m_l_kind : mg "_law_kind" = some (.ref a_l_kind)
  a_l_tree_right : Addr
  fd_l_tree_right : FuncData
  F_l_tree_right : Fun K "_law_tree_right" "_law_tree_right" s_l_tree_right a_l_tree_right fd_l_tree_right
  bi_l_tree_right : Binds K fd_l_tree_right ["_law_letters_here", "_law_tree", "_law_rows", "_law_rule", "_law_root", "_law_others"] []
  m_l_tree_right : mg "_law_tree_right" = some (.ref a_l_tree_right)
  a_l_known_right : Addr
  fd_l_known_right : FuncData
  F_l_known_right : Fun K "_law_known_right" "_law_known_right" s_l_known_right a_l_known_right fd_l_known_right
  bi_l_known_right : Binds K fd_l_known_right ["_law_name"] []
  m_l_known_right : mg "_law_known_right" = some (.ref a_l_known_right)
  a_law : Addr
  fd_law : FuncData
  F_law : Fun K "law" "law" s_law a_law fd_law
  bi_law : Binds K fd_law ["_law_script"] []
  m_law : mg "law" = some (.ref a_law)
  eq_Rule : EqC K c_Rule a_Rule_eq
  ca_Rule : PySem.W.findIn K (.ref c_Rule) "__class__" = some (some (.builtin "object.__class__"))
  kl_Rule : PySem.W.kitOne K (.type "list") (.ref c_Rule) = some false
  kc_in_order : Addr
  tb_in_order : Addr
  ec_in_order : fd_in_order.code = .ref kc_in_order
  kc_l_ordered : Addr
  tb_l_ordered : Addr
  ec_l_ordered : fd_l_ordered.code = .ref kc_l_ordered
  kc_l_refused_right : Addr
  tb_l_refused_right : Addr
  ec_l_refused_right : fd_l_refused_right.code = .ref kc_l_refused_right
  kc_law : Addr
  tb_law : Addr
  ec_law : fd_law.code = .ref kc_law
  tnd : [tb_in_order, tb_l_ordered, tb_l_refused_right, tb_law].Nodup
section
variable {P : Program} {K : PySem.W.Frag} {mg : Str → Option Value}
def tabs (T : Tx P K mg) : List (Addr × Str) := [(T.tb_in_order, (PyProof.Rows.envOfC "in_order" (defScope s_in_order) 0 0 .none).qual ++ "<lambda>"), (T.tb_l_ordered, (PyProof.Rows.envOfC "_law_ordered" (defScope s_l_ordered) 0 0 .none).qual ++ "<lambda>"), (T.tb_l_refused_right, (PyProof.Rows.envOfC "_law_refused_right" (defScope s_l_refused_right) 0 0 .none).qual ++ "<lambda>"), (T.tb_law, (PyProof.Rows.envOfC "law" (defScope s_law) 0 0 .none).qual ++ "<lambda>")]
theorem mem_in_order (T : Tx P K mg) : (T.tb_in_order, (PyProof.Rows.envOfC "in_order" (defScope s_in_order) 0 0 .none).qual ++ "<lambda>") ∈ tabs T := .head _
theorem uniq_in_order (T : Tx P K mg) : ∀ p ∈ tabs T, p.1 = T.tb_in_order → p.2 = (PyProof.Rows.envOfC "in_order" (defScope s_in_order) 0 0 .none).qual ++ "<lambda>" := ShL.tab_uniq (T := tabs T) T.tnd (mem_in_order T)
theorem mem_l_ordered (T : Tx P K mg) : (T.tb_l_ordered, (PyProof.Rows.envOfC "_law_ordered" (defScope s_l_ordered) 0 0 .none).qual ++ "<lambda>") ∈ tabs T := .tail _ (.head _)
theorem uniq_l_ordered (T : Tx P K mg) : ∀ p ∈ tabs T, p.1 = T.tb_l_ordered → p.2 = (PyProof.Rows.envOfC "_law_ordered" (defScope s_l_ordered) 0 0 .none).qual ++ "<lambda>" := ShL.tab_uniq (T := tabs T) T.tnd (mem_l_ordered T)
theorem mem_l_refused_right (T : Tx P K mg) : (T.tb_l_refused_right, (PyProof.Rows.envOfC "_law_refused_right" (defScope s_l_refused_right) 0 0 .none).qual ++ "<lambda>") ∈ tabs T := .tail _ (.tail _ (.head _))
theorem uniq_l_refused_right (T : Tx P K mg) : ∀ p ∈ tabs T, p.1 = T.tb_l_refused_right → p.2 = (PyProof.Rows.envOfC "_law_refused_right" (defScope s_l_refused_right) 0 0 .none).qual ++ "<lambda>" := ShL.tab_uniq (T := tabs T) T.tnd (mem_l_refused_right T)
theorem mem_law (T : Tx P K mg) : (T.tb_law, (PyProof.Rows.envOfC "law" (defScope s_law) 0 0 .none).qual ++ "<lambda>") ∈ tabs T := .tail _ (.tail _ (.tail _ (.head _)))
theorem uniq_law (T : Tx P K mg) : ∀ p ∈ tabs T, p.1 = T.tb_law → p.2 = (PyProof.Rows.envOfC "law" (defScope s_law) 0 0 .none).qual ++ "<lambda>" := ShL.tab_uniq (T := tabs T) T.tnd (mem_law T)
structure Bx (T : Tx P K mg) (base : Heap) : Prop where
  tb_in_order : LamX.TabB base mg T.kc_in_order T.tb_in_order
  tb_l_ordered : LamX.TabB base mg T.kc_l_ordered T.tb_l_ordered
  tb_l_refused_right : LamX.TabB base mg T.kc_l_refused_right T.tb_l_refused_right
  tb_law : LamX.TabB base mg T.kc_law T.tb_law
end
theorem hu65_of {A : Around} {k : Nat} (hr : Room k A) : A.units + 65 < cLine := by have := hr.un; omega
end Toy
set_option Elab.async false
set_option linter.all false
set_option maxRecDepth 100000
set_option maxHeartbeats 4000000
namespace Toy
open PySem L2 Sh ShL LamX NdefX
/-! ### the exceptions are made -/
theorem kp_two {H : Hp} {a dx : Addr} {o1 o2 : HO} (hd : H dx = none) : Kp a H (upd (upd H dx o1) a o2) := fun b o e nb => by
  rw [upd_ne nb, upd_ne (ne_of_none e hd)]
  exact e
theorem kp_more {H H1 : Hp} {a dx : Addr} {o1 : HO} (k : Kp a H H1) (hd : H dx = none) : Kp a H (upd H1 dx o1) := fun b o e nb => by
  rw [upd_ne (ne_of_none e hd)]
  exact k b o e nb
section
variable {P : Program} {w : World} {K : PySem.W.Frag} {mg : Str → Option Value} {base : Heap}
theorem ok_x_NoPlace (T : Tx P K mg) : FnOk P w K mg base CX0 1 T.a_x_NoPlace T.fd_x_NoPlace ["self", "place"] (spXI T.c_NoPlace ["place"]) := by
  obtain ⟨oc, od, kV, doc, pm, an, ct, osl, cc, cda, hfd, lk, hcd, SF⟩ := T.i_NoPlace.fn
  rw [hfd] at lk ⊢
  refine fn_super (k := 0) lk hcd sc_x_NoPlace rfl SF rfl (fun vs H Q E h => ?_) (fun A outer s H vs Q E hr h => ?_)
  · obtain ⟨a, ws, rfl, hl, _⟩ := h
    rw [List.length_cons, hl]
    rfl
  obtain ⟨a, ws, rfl, hl, ha, q⟩ := h
  match ws, hl, q with
  | [v1], _, q =>
  refine ⟨a, T.c_NoPlace, _, _, rfl, ha, T.i_NoPlace.sc, (pa_cons (pv 1) pa_nil), (pss_one (ps_ost (pv 0) (pv 1))), ?_⟩
  refine ⟨_, rfl, by show 1 ≤ 1000; decide, ha, ?_⟩
  refine ⟨_, rfl, _, rfl, a, T.c_NoPlace, rfl, T.i_NoPlace.m.ox, T.nf_NoPlace_place, .inl ⟨ha, fun dx hd hne => ?_⟩⟩
  exact q _ dx (kp_two hd) hd hne upd_same (by rw [upd_ne hne, upd_same]; rfl)
theorem ok_x_BadKind (T : Tx P K mg) : FnOk P w K mg base CX0 1 T.a_x_BadKind T.fd_x_BadKind ["self", "side", "number"] (spXI T.c_BadKind ["side", "number"]) := by
  obtain ⟨oc, od, kV, doc, pm, an, ct, osl, cc, cda, hfd, lk, hcd, SF⟩ := T.i_BadKind.fn
  rw [hfd] at lk ⊢
  refine fn_super (k := 0) lk hcd sc_x_BadKind rfl SF rfl (fun vs H Q E h => ?_) (fun A outer s H vs Q E hr h => ?_)
  · obtain ⟨a, ws, rfl, hl, _⟩ := h
    rw [List.length_cons, hl]
    rfl
  obtain ⟨a, ws, rfl, hl, ha, q⟩ := h
  match ws, hl, q with
  | [v1, v2], _, q =>
  refine ⟨a, T.c_BadKind, _, _, rfl, ha, T.i_BadKind.sc, (pa_cons (pv 1) (pa_cons (pv 2) pa_nil)), (pss_cons (ps_ost (pv 0) (pv 1)) (pss_one (ps_ost (pv 0) (pv 2)))), ?_⟩
  refine ⟨_, rfl, _, rfl, by show 2 ≤ 1000; decide, ha, ?_⟩
  refine ⟨_, rfl, _, rfl, a, T.c_BadKind, rfl, T.i_BadKind.m.ox, T.nf_BadKind_side, .inl ⟨ha, fun dx hd hne => ?_⟩⟩
  have ea := (upd_same : upd (upd H dx (exd dx [("side", v1)])) a (exo a T.c_BadKind (some dx)) a = _)
  have ed : upd (upd H dx (exd dx [("side", v1)])) a (exo a T.c_BadKind (some dx)) dx = some (exd dx [("side", v1)]) := by rw [upd_ne hne, upd_same]
  have k0 := (kp_two hd : Kp a H (upd (upd H dx (exd dx [("side", v1)])) a (exo a T.c_BadKind (some dx))))
  generalize upd (upd H dx (exd dx [("side", v1)])) a (exo a T.c_BadKind (some dx)) = H1 at ea ed k0 ⊢
  refine ⟨_, rfl, _, rfl, a, T.c_BadKind, rfl, T.i_BadKind.m.ox, T.nf_BadKind_number, .inr ⟨dx, _, ea, ed, by show 1 ≤ 900; decide, ?_⟩⟩
  exact q _ dx (kp_more k0 hd) hd hne (by rw [upd_ne hne.symm]; exact ea) upd_same
theorem ok_x_BadName (T : Tx P K mg) : FnOk P w K mg base CX0 1 T.a_x_BadName T.fd_x_BadName ["self", "name"] (spXI T.c_BadName ["name"]) := by
  obtain ⟨oc, od, kV, doc, pm, an, ct, osl, cc, cda, hfd, lk, hcd, SF⟩ := T.i_BadName.fn
  rw [hfd] at lk ⊢
  refine fn_super (k := 0) lk hcd sc_x_BadName rfl SF rfl (fun vs H Q E h => ?_) (fun A outer s H vs Q E hr h => ?_)
  · obtain ⟨a, ws, rfl, hl, _⟩ := h
    rw [List.length_cons, hl]
    rfl
  obtain ⟨a, ws, rfl, hl, ha, q⟩ := h
  match ws, hl, q with
  | [v1], _, q =>
  refine ⟨a, T.c_BadName, _, _, rfl, ha, T.i_BadName.sc, (pa_cons (pv 1) pa_nil), (pss_one (ps_ost (pv 0) (pv 1))), ?_⟩
  refine ⟨_, rfl, by show 1 ≤ 1000; decide, ha, ?_⟩
  refine ⟨_, rfl, _, rfl, a, T.c_BadName, rfl, T.i_BadName.m.ox, T.nf_BadName_name, .inl ⟨ha, fun dx hd hne => ?_⟩⟩
  exact q _ dx (kp_two hd) hd hne upd_same (by rw [upd_ne hne, upd_same]; rfl)
end
end Toy
set_option Elab.async false
set_option linter.all false
set_option maxRecDepth 100000
set_option maxHeartbeats 4000000
namespace Toy
open PySem L2 Sh ShL LamX NdefX
theorem ints_dp {K : PySem.W.Frag} {H : Hp} : ∀ ns : List Int, DpAll K H (ns.map V.int) (ns.map PyData.int)
  | [] => .nil
  | n :: ns => .cons (.int n) (ints_dp ns)
theorem ints_lay : ∀ ns : List Int, PyData.canLayAll0 (ns.map PyData.int) = true ∧ PyData.depthAll (ns.map PyData.int) ≤ 1
  | [] => ⟨rfl, by simp [PyData.depthAll]⟩
  | n :: ns => by
    obtain ⟨h1, h2⟩ := ints_lay ns
    refine ⟨by simp only [List.map_cons, PyData.canLayAll0, PyData.canLay0, h1]; rfl, ?_⟩
    simp only [List.map_cons, PyData.depthAll, PyData.depth]
    omega
theorem ints_shaped (ns : List Int) : SeqAt.shaped (.list (ns.map PyData.int)) = true := by
  obtain ⟨h1, h2⟩ := ints_lay ns
  show (PyData.canLay0 (.list (ns.map PyData.int)) && decide (PyData.depth (.list (ns.map PyData.int)) ≤ 64)) = true
  rw [Bool.and_eq_true]
  exact ⟨by simp only [PyData.canLay0]; exact h1, decide_eq_true (by simp only [PyData.depth]; omega)⟩
theorem ints_eqv (ns : List Int) : PyData.eqv (.list (ns.map PyData.int)) (.list []) = decide (ns.length = 0) := by
  cases ns <;> simp [PyData.eqv, PyData.eqvAll]
theorem posI {n : Nat} [NeZero n] : (0 : Int) < (OfNat.ofNat n : Int) := by
  have := Nat.pos_of_ne_zero (NeZero.ne n)
  exact Int.ofNat_lt.mpr this
/-! ### the pen -/
def penL (c : Addr) (b l : Int) : List (Key × V) := [(.inr "cells", .ref c), (.inr "opened", .int b), (.inr "left", .int l)]
theorem k12 : ¬ (("cells" : Str) = "opened") := by decide +kernel
theorem k13 : ¬ (("cells" : Str) = "left") := by decide +kernel
theorem k23 : ¬ (("opened" : Str) = "left") := by decide +kernel
theorem ki {a b : Str} (h : ¬ a = b) : ¬ (Sum.inr a : Key) = Sum.inr b := fun e => h (Sum.inr.inj e)
theorem pen_cells (c : Addr) (b l : Int) : valV (penL c b l) (.inr "cells") = some (.ref c) := valV_pos rfl
theorem pen_next (c : Addr) (b l : Int) : valV (penL c b l) (.inr "opened") = some (.int b) := (valV_neg (ki k12)).trans (valV_pos rfl)
theorem pen_left (c : Addr) (b l : Int) : valV (penL c b l) (.inr "left") = some (.int l) := (valV_neg (ki k13)).trans ((valV_neg (ki k23)).trans (valV_pos rfl))
theorem put2 {a b c : Str} {x y z v : V} (h12 : ¬ a = b) (h23 : ¬ b = c) : putK ([(.inr a, x), (.inr b, y), (.inr c, z)] : List (Key × V)) (.inr b) v = [(.inr a, x), (.inr b, v), (.inr c, z)] := by
  have h32 : ¬ c = b := fun e => h23 e.symm
  unfold putK
  simp [h12, h32]
theorem put3 {a b c : Str} {x y z v : V} (h13 : ¬ a = c) (h23 : ¬ b = c) : putK ([(.inr a, x), (.inr b, y), (.inr c, z)] : List (Key × V)) (.inr c) v = [(.inr a, x), (.inr b, y), (.inr c, v)] := by
  unfold putK
  simp [h13, h23]
theorem pen_put_next (c : Addr) (b l : Int) (v : Int) : putK (penL c b l) (.inr "opened") (.int v) = penL c v l := by
  unfold penL
  rw [put2 k12 k23]
theorem pen_put_left (c : Addr) (b l : Int) (v : Int) : putK (penL c b l) (.inr "left") (.int v) = penL c b v := by
  unfold penL
  rw [put3 k13 k23]
theorem at_mod {ns : List Int} {b : Int} (h : 0 < (ns.length : Int)) : ∃ v, atI (ns.map V.int) (b % (ns.length : Int)) = some (.int v) := by
  have h1 := Int.emod_nonneg b (show (ns.length : Int) ≠ 0 by omega)
  have h2 := Int.emod_lt_of_pos b h
  have h3 : (b % (ns.length : Int)).toNat < ns.length := by omega
  refine ⟨ns[(b % (ns.length : Int)).toNat], at_of (j := (b % (ns.length : Int)).toNat) (by omega) ?_⟩
  rw [List.getElem?_map, List.getElem?_eq_getElem h3]
  rfl
/-- a pen stands at d, n numbers were drawn from it at most -/
def Pen (H : Hp) (d c : Addr) (n : Nat) : Prop := ∃ (ns : List Int) (b l : Int), H d = some (.dK (penL c b l)) ∧ H c = some (.lst (ns.map V.int)) ∧ 0 ≤ b ∧ b ≤ (n : Int) ∧ 0 ≤ l
theorem Pen.mono {H : Hp} {d c : Addr} {n m : Nat} (p : Pen H d c n) (h : n ≤ m) : Pen H d c m := by
  obtain ⟨ns, b, l, h1, h2, h3, h4, h5⟩ := p
  exact ⟨ns, b, l, h1, h2, h3, by omega, h5⟩
theorem Pen.at {H : Hp} {d c : Addr} {n : Nat} (p : Pen H d c n) : ∃ kvs, H d = some (.dK kvs) := by
  obtain ⟨ns, b, l, h1, _⟩ := p
  exact ⟨_, h1⟩
theorem Pen.same {H H' : Hp} {d c : Addr} {n : Nat} (p : Pen H d c n) (s : Same H H') : Pen H' d c n := by
  obtain ⟨ns, b, l, h1, h2, h3⟩ := p
  exact ⟨ns, b, l, s _ _ h1, s _ _ h2, h3⟩
def spDraw : Sp := fun vs H Q _ => ∃ (d c : Addr) (n : Nat) (m : Int), vs = [.ref d, .int m] ∧ Pen H d c n ∧ n ≤ 100000 ∧ 0 < m ∧ m < 1000000000 ∧
  ∀ (H' : Hp) (r : Int), 0 ≤ r → r < m → Kp d H H' → Pen H' d c (n + 1) → Q (.int r) H'
section
variable {P : Program} {w : World} {K : PySem.W.Frag} {mg : Str → Option Value} {base : Heap}
theorem ok_l_draw (T : Tx P K mg) (B : Bx T base) : FnOk P w K mg base CX0 1 T.a_l_draw T.fd_l_draw ["_law_pen_here", "_law_many"] spDraw := by
  refine T.F_l_draw.ok sc_l_draw (fun vs H Q E h => ?_) (fun cdv A outer s H vs Q E hr h => ?_)
  · obtain ⟨d, c, n, m, rfl, _⟩ := h
    rfl
  have hu := hu_of hr
  obtain ⟨d, c, n, m, rfl, ⟨ns, b, l, hd, hc, hb0, hbn, hl⟩, hn, hm, hm2, q⟩ := h
  have ncd : c ≠ d := ne_of hc hd (by intro z; cases z)
  have gl : ∀ {H' : Hp} {c b l}, H' d = some (.dK (penL c b l)) → DGet H' d (.str "left") (some (.int l)) := fun h => by
    have := DGet.k (k := Sum.inr "left") h
    rw [pen_left] at this
    exact this
  have gb : ∀ {H' : Hp} {c b l}, H' d = some (.dK (penL c b l)) → DGet H' d (.str "opened") (some (.int b)) := fun h => by
    have := DGet.k (k := Sum.inr "opened") h
    rw [pen_next] at this
    exact this
  have gc : ∀ {H' : Hp} {c b l}, H' d = some (.dK (penL c b l)) → DGet H' d (.str "cells") (some (.ref c)) := fun h => by
    have := DGet.k (k := Sum.inr "cells") h
    rw [pen_cells] at this
    exact this
  have pb : ∀ {H' : Hp} {c b l} (v : Int), H' d = some (.dK (penL c b l)) → DPut H' d (.str "opened") (.int v) (upd H' d (.dK (penL c v l))) := fun v h => by
    have := DPut.k (k := Sum.inr "opened") (v := .int v) h (by show 3 < sizeLine; decide)
    rw [pen_put_next] at this
    exact this
  have pl : ∀ {H' : Hp} {c b l} (v : Int), H' d = some (.dK (penL c b l)) → DPut H' d (.str "left") (.int v) (upd H' d (.dK (penL c b v))) := fun v h => by
    have := DPut.k (k := Sum.inr "left") (v := .int v) h (by show 3 < sizeLine; decide)
    rw [pen_put_left] at this
    exact this
  refine ⟨_, (pss_cons (ps_if (pt_cmpR op_gt (pe_dget hu (pv 0) pe_str (fun _ _ => rfl)) pe_int (nomark _))
 (pss_cons (ps_set (i := 2) sc_l_draw.nd rfl (by first | exact Or.inl rfl | exact Or.inr rfl) (pe_op op_mod (pe_callTy call_int1 (by rfl) T.b_int (by decide +kernel) (pa_cons (pe_dget hu (pv 0) pe_str (fun _ _ => rfl)) pa_nil)) (pv 1)))
 (pss_cons (ps_dput hu (pv 0) pe_str (pe_op op_fdivN (pe_dget hu (pv 0) pe_str (fun _ _ => rfl)) (pv 1)) rfl)
 (pss_one (ps_ret (pv 2)))))
 pss_nil)
 (pss_cons (ps_par (i := 3) (j := 4) (by rfl) sc_l_draw.nd rfl rfl (by decide) rfl rfl (pa_cons (pe_dget hu (pv 0) pe_str (fun _ _ => rfl)) (pa_cons (pe_dget hu (pv 0) pe_str (fun _ _ => rfl)) pa_nil)) (by rfl))
 (pss_cons (ps_dput hu (pv 0) pe_str (pe_op op_add (pv 3) pe_int) rfl)
 (pss_cons (ps_if (pt_cmpR (op_eqD hr.units) (pv 4) (pe_lst pa_nil) (nomark _))
 (pss_one (ps_ret (pe_op op_mod (pe_callTy call_int1 (by rfl) T.b_int (by decide +kernel) (pa_cons (pe_op op_add (pe_op op_mul pe_int (pv 3)) pe_int) pa_nil)) (pv 1))))
 pss_nil)
 (pss_cons (ps_set (i := 5) sc_l_draw.nd rfl (by first | exact Or.inl rfl | exact Or.inr rfl) (pe_ix ix_list (pv 4) (pe_op op_mod (pe_callTy call_int1 (by rfl) T.b_int (by decide +kernel) (pa_cons (pv 3) pa_nil)) (pe_callB call_len_seq (by rfl) T.b_len (by decide +kernel) (pa_cons (pv 4) pa_nil))) (fun _ _ => rfl)))
 (pss_cons (ps_if (PW.pt (pw_and (pt_cmpR op_lt (pv 3) (pe_callB call_len_seq (by rfl) T.b_len (by decide +kernel) (pa_cons (pv 4) pa_nil)) (nomark _)) (pw_and1 (pt_cmpR op_ge (pe_callB call_abs (by rfl) T.b_abs (by decide +kernel) (pa_cons (pv 5) pa_nil)) (pe_op op_pow pe_int pe_int) (nomark _)))))
 (pss_cons (ps_dput hu (pv 0) pe_str (pe_op op_fdivN (pe_op op_sub (pe_callB call_abs (by rfl) T.b_abs (by decide +kernel) (pa_cons (pv 5) pa_nil)) (pe_op op_pow pe_int pe_int)) (pv 1)) rfl)
 (pss_one (ps_ret (pe_op op_mod (pe_callTy call_int1 (by rfl) T.b_int (by decide +kernel) (pa_cons (pe_op op_sub (pe_callB call_abs (by rfl) T.b_abs (by decide +kernel) (pa_cons (pv 5) pa_nil)) (pe_op op_pow pe_int pe_int)) pa_nil)) (pv 1)))))
 pss_nil)
 (pss_cons (ps_set (i := 6) sc_l_draw.nd rfl (by first | exact Or.inl rfl | exact Or.inr rfl) (pe_op op_mod (pe_callTy call_int1 (by rfl) T.b_int (by decide +kernel) (pa_cons (pe_op op_add (pe_op op_add (pe_op op_add (pe_op op_mul (pe_op op_mod (pe_callTy call_int1 (by rfl) T.b_int (by decide +kernel) (pa_cons (pv 5) pa_nil)) pe_int) pe_int) (pe_op op_mul (pe_op op_mul pe_int (pv 3)) (pv 3))) (pe_op op_mul pe_int (pv 3))) pe_int) pa_nil)) pe_int))
 (pss_cons (ps_set (i := 6) sc_l_draw.nd rfl (by first | exact Or.inl rfl | exact Or.inr rfl) (pe_op op_mod (pe_callTy call_int1 (by rfl) T.b_int (by decide +kernel) (pa_cons (pe_op op_add (pe_op op_add (pe_op op_mul (pv 6) (pv 6)) (pe_op op_mul pe_int (pv 6))) (pe_op op_mul pe_int (pv 3))) pa_nil)) pe_int))
 (pss_one (ps_ret (pe_op op_mod (pe_callTy call_int1 (by rfl) T.b_int (by decide +kernel) (pa_cons (pe_op op_fdivN (pe_op op_mod (pe_callTy call_int1 (by rfl) T.b_int (by decide +kernel) (pa_cons (pe_op op_mul (pv 6) (pe_op op_add (pv 6) pe_int)) pa_nil)) pe_int) pe_int) pa_nil)) (pv 1)))))))))))), ?_⟩
  -- if pen['left'] > 0
  refine ⟨_, rfl, d, _, rfl, gl hd, _, _, rfl, rfl, _, rfl, ?_⟩
  refine ite2 (fun h1 => ?_) (fun h1 => ?_)
  · refine ⟨_, rfl, d, _, rfl, gl hd, .inl ⟨_, rfl, _, rfl, _, _, rfl, rfl, hm, ?_⟩⟩
    refine ⟨_, rfl, d, _, rfl, gl hd, _, rfl, _, _, rfl, rfl, ⟨by omega, by omega⟩, _, rfl, d, _, rfl, pl _ hd, ?_⟩
    refine ⟨_, rfl, q _ _ (Int.emod_nonneg _ (by omega)) (Int.emod_lt_of_pos _ hm) kp_put ?_⟩
    refine ⟨ns, b, _, upd_same, by rw [upd_ne ncd]; exact hc, hb0, by omega, Int.fdiv_nonneg (by omega) (by omega)⟩
  -- k, told = (pen['opened'], pen['cells']); pen['opened'] = k + 1
  refine ⟨_, rfl, d, _, rfl, gb hd, _, rfl, d, _, rfl, gc hd, _, _, rfl, ?_⟩
  refine ⟨_, rfl, _, _, rfl, rfl, _, rfl, d, _, rfl, pb _ hd, ?_⟩
  have hd2 : (upd H d (.dK (penL c (b + 1) l))) d = some (.dK (penL c (b + 1) l)) := upd_same
  have hc2 : (upd H d (.dK (penL c (b + 1) l))) c = some (.lst (ns.map V.int)) := by rw [upd_ne ncd]; exact hc
  have kp2 : Kp d H (upd H d (.dK (penL c (b + 1) l))) := kp_put
  generalize upd H d (.dK (penL c (b + 1) l)) = H2 at hd2 hc2 kp2 ⊢
  -- if told == []
  refine ⟨_, rfl, Nat.zero_le _, fun e he => ?_⟩
  have s3 := same_upd (o := .lst []) he
  refine ⟨_, _, .lst (SqL.of (s3 _ _ hc2)) (ints_dp ns), .lst (SqL.of upd_same) .nil, ints_shaped ns, by decide +kernel, _, rfl, ?_⟩
  have hd3 := s3 _ _ hd2
  have hc3 := s3 _ _ hc2
  have kp3 : Kp d H (upd H2 e (.lst [])) := kp2.trans (Same.kp s3)
  generalize upd H2 e (.lst []) = H3 at hd3 hc3 kp3 ⊢
  rw [ints_eqv]
  refine ite2 (fun h2 => ?_) (fun h2 => ?_)
  · refine ⟨_, rfl, _, _, rfl, rfl, .inl ⟨by decide, by decide⟩, _, _, rfl, rfl, .inl ⟨_, rfl, _, rfl, _, _, rfl, rfl, hm, ?_⟩⟩
    exact q _ _ (Int.emod_nonneg _ (by omega)) (Int.emod_lt_of_pos _ hm) kp3 ⟨ns, b + 1, l, hd3, hc3, by omega, by omega, hl⟩
  have h3 : 0 < (ns.length : Int) := by
    have h4 : ¬ ns.length = 0 := fun z => h2 (decide_eq_true z)
    omega
  obtain ⟨z, hz⟩ := at_mod (b := b) h3
  have hlen : ((ns.map V.int).length : Int) = (ns.length : Int) := by rw [List.length_map]
  refine ⟨_, rfl, _, rfl, .inl ⟨_, rfl, _, rfl, c, _, rfl, .inl (SqL.of hc3), _, _, rfl, rfl, by rw [hlen]; exact h3, c, ns.map V.int, _, V.int z, rfl, rfl, SqL.of hc3, by rw [hlen]; exact hz, ?_⟩⟩
  -- if k < len(told) and abs(cell) >= 10 ** 18
  refine ⟨_, rfl, _, rfl, c, _, rfl, .inl (SqL.of hc3), _, _, rfl, rfl, _, rfl, ?_⟩
  have m1 := Int.emod_nonneg z (show (2147483629 : Int) ≠ 0 by decide)
  have m2 := Int.emod_lt_of_pos z (show (0 : Int) < 2147483629 by decide)
  have fin : ∀ X : Int, Q (.int (X % m)) H3 := fun X => q _ _ (Int.emod_nonneg _ (by omega)) (Int.emod_lt_of_pos _ hm) kp3 ⟨ns, b + 1, l, hd3, hc3, by omega, by omega, hl⟩
  refine ite2 (fun h4 => ?_) (fun h4 => ?_)
  · refine ⟨_, rfl, _, rfl, _, _, rfl, rfl, ⟨by decide, by decide, by decide⟩, _, _, rfl, rfl, _, rfl, ?_⟩
    refine ite2 (fun h5 => ?_) (fun h5 => ?_)
    · have h6 := of_decide_eq_true h5
      refine ⟨_, rfl, _, rfl, _, _, rfl, rfl, ⟨by decide, by decide, by decide⟩, _, _, rfl, rfl, _, rfl, _, _, rfl, rfl, ⟨by omega, by omega⟩, _, rfl, d, _, rfl, pl _ hd3, ?_⟩
      refine ⟨_, rfl, _, rfl, _, _, rfl, rfl, ⟨by decide, by decide, by decide⟩, _, _, rfl, rfl, .inl ⟨_, rfl, _, rfl, _, _, rfl, rfl, hm, ?_⟩⟩
      exact q _ _ (Int.emod_nonneg _ (by omega)) (Int.emod_lt_of_pos _ hm) (kp3.trans kp_put) ⟨ns, b + 1, _, upd_same, by rw [upd_ne ncd]; exact hc3, by omega, by omega, Int.fdiv_nonneg (by omega) (by omega)⟩
    · show tSeq _ _ _ _ _
      refine ⟨_, rfl, .inl ⟨_, rfl, _, _, rfl, rfl, posI, _, _, rfl, rfl, .inl ⟨by omega, by omega⟩, _, rfl, _, _, rfl, rfl, .inl ⟨by decide, by decide⟩, _, rfl, _, _, rfl, rfl, .inl ⟨by omega, by omega⟩, _, _, rfl, rfl, _, rfl, _, _, rfl, rfl, .inl ⟨by decide, by decide⟩, _, _, rfl, rfl, _, _, rfl, rfl, .inl ⟨_, rfl, _, _, rfl, rfl, posI, ?_⟩⟩⟩
      refine ⟨_, rfl, _, rfl, _, _, rfl, rfl, .inl ⟨by omega, by omega⟩, _, rfl, _, _, rfl, rfl, .inl ⟨by decide, by decide⟩, _, _, rfl, rfl, _, rfl, _, _, rfl, rfl, .inl ⟨by decide, by decide⟩, _, _, rfl, rfl, .inl ⟨_, rfl, _, _, rfl, rfl, posI, ?_⟩⟩
      exact ⟨_, rfl, _, rfl, _, _, rfl, rfl, _, _, rfl, rfl, .inl ⟨by omega, by omega⟩, .inl ⟨_, rfl, _, _, rfl, rfl, posI, _, _, rfl, rfl, ⟨by decide, by decide⟩, .inl ⟨_, rfl, _, rfl, _, _, rfl, rfl, hm, fin _⟩⟩⟩
  · refine iteF ?_
    show tSeq _ _ _ _ _
    refine ⟨_, rfl, .inl ⟨_, rfl, _, _, rfl, rfl, posI, _, _, rfl, rfl, .inl ⟨by omega, by omega⟩, _, rfl, _, _, rfl, rfl, .inl ⟨by decide, by decide⟩, _, rfl, _, _, rfl, rfl, .inl ⟨by omega, by omega⟩, _, _, rfl, rfl, _, rfl, _, _, rfl, rfl, .inl ⟨by decide, by decide⟩, _, _, rfl, rfl, _, _, rfl, rfl, .inl ⟨_, rfl, _, _, rfl, rfl, posI, ?_⟩⟩⟩
    refine ⟨_, rfl, _, rfl, _, _, rfl, rfl, .inl ⟨by omega, by omega⟩, _, rfl, _, _, rfl, rfl, .inl ⟨by decide, by decide⟩, _, _, rfl, rfl, _, rfl, _, _, rfl, rfl, .inl ⟨by decide, by decide⟩, _, _, rfl, rfl, .inl ⟨_, rfl, _, _, rfl, rfl, posI, ?_⟩⟩
    exact ⟨_, rfl, _, rfl, _, _, rfl, rfl, _, _, rfl, rfl, .inl ⟨by omega, by omega⟩, .inl ⟨_, rfl, _, _, rfl, rfl, posI, _, _, rfl, rfl, ⟨by decide, by decide⟩, .inl ⟨_, rfl, _, rfl, _, _, rfl, rfl, hm, fin _⟩⟩⟩
end
theorem cut_drop (xs : List V) (c : Nat) : cutV xs (some (c : Int)) none = xs.drop c := by
  unfold cutV
  rw [HT.sIx_nat, HT.sIx_none]
  by_cases h : c ≤ xs.length
  · rw [Nat.min_eq_left h]
    apply List.take_of_length_le
    rw [List.length_drop]
    exact Nat.le_refl _
  · rw [Nat.min_eq_right (by omega), List.drop_of_length_le (Nat.le_refl _), List.drop_of_length_le (by omega)]
    simp
theorem cut_take (xs : List V) (c : Nat) : cutV xs none (some (c : Int)) = xs.take c := by
  unfold cutV
  rw [HT.sIx_nat, HT.sIx_none]
  show (xs.drop 0).take (min c xs.length - 0) = xs.take c
  rw [List.drop_zero, Nat.sub_zero]
  by_cases h : c ≤ xs.length
  · rw [Nat.min_eq_left h]
  · rw [Nat.min_eq_right (by omega), List.take_of_length_le (Nat.le_refl _), List.take_of_length_le (by omega)]
theorem kp_upd {d p : Addr} {H H' : Hp} {o : HO} (h : Kp d H H') (n : H p = none) : Kp d H (upd H' p o) := fun b u e nb => by
  rw [upd_ne (ne_of_none e n)]
  exact h b u e nb
def spPenOf (K : PySem.W.Frag) : Sp := fun vs H Q _ => ∃ (a : Addr) (ns : List Int), vs = [.ref a] ∧ SqL K H a (ns.map V.int) ∧ ∀ (H' : Hp) (d c : Addr), Same H H' → Pen H' d c 0 → Q (.ref d) H'
section
variable {P : Program} {w : World} {K : PySem.W.Frag} {mg : Str → Option Value} {base : Heap}
theorem ok_l_pen (T : Tx P K mg) (B : Bx T base) : FnOk P w K mg base CX0 1 T.a_l_pen T.fd_l_pen ["_law_script"] (spPenOf K) := by
  refine T.F_l_pen.ok sc_l_pen (fun vs H Q E h => ?_) (fun cdv A outer s H vs Q E hr h => ?_)
  · obtain ⟨a, ns, rfl, _⟩ := h
    rfl
  obtain ⟨a, ns, rfl, hS, q⟩ := h
  refine ⟨_, (pss_one (ps_ret (pe_disp (pps_cons pe_str (pe_callTy call_list_of (by rfl) T.b_list (by decide +kernel) (pa_cons (pe_slice sl_list (pv 0) po_none (po_some pe_int)) pa_nil)) (pps_cons pe_str pe_int (pps_cons pe_str pe_int pps_nil))) (by rfl) (by rfl) (fun z => by cases z) (by decide)))), ?_⟩
  intro p hp
  have s1 : Same H (upd H p (.dK [])) := same_upd hp
  refine ⟨_, rfl, _, rfl, a, _, rfl, s1.seq hS, fun c hc => ?_⟩
  have s2 : Same (upd H p (.dK [])) _ := same_upd (o := .lst (cutV (ns.map V.int) none (some 63))) hc
  refine ⟨c, _, rfl, .inl (SqL.of upd_same), fun l hl => ?_⟩
  have s3 : Same (upd (upd H p (.dK [])) c (.lst (cutV (ns.map V.int) none (some 63)))) _ := same_upd (o := .lst (cutV (ns.map V.int) none (some 63))) hl
  have sA := (s1.trans s2).trans s3
  refine ⟨s3 _ _ (s2 _ _ upd_same), penL l 0 0, rfl, by show 3 ≤ 15; decide, ?_⟩
  have e : mergeK [] (penL l 0 0) = penL l 0 0 := by
    show putK (putK (putK ([] : List (Key × V)) (.inr "cells") (.ref l)) (.inr "opened") (.int 0)) (.inr "left") (.int 0) = _
    rw [show putK ([] : List (Key × V)) (.inr "cells") (.ref l) = [(.inr "cells", .ref l)] from rfl, putK_new _ ((valV_neg (ki k12)).trans valV_nil)]
    exact putK_new _ (show valV ([(.inr "cells", .ref l), (.inr "opened", .int 0)] : List (Key × V)) (.inr "left") = none from (valV_neg (ki k13)).trans ((valV_neg (ki k23)).trans valV_nil))
  rw [e]
  have npl : p ≠ l := fun z => by
    subst z
    rw [s2 _ _ upd_same] at hl
    cases hl
  refine q _ p l (fun b o hb => ?_) ⟨ns.take 63, 0, 0, upd_same, ?_, Int.le_refl _, Int.le_refl _, Int.le_refl _⟩
  · rw [upd_ne (ne_of_none hb hp)]
    exact sA _ _ hb
  · rw [upd_ne npl.symm, upd_same, show cutV (ns.map V.int) none (some 63) = (ns.map V.int).take 63 from cut_take _ 63, List.map_take]
def spPickL (K : PySem.W.Frag) : Sp := fun vs H Q _ => ∃ (d c a : Addr) (n : Nat) (xs : List V), vs = [.ref d, .ref a] ∧ Pen H d c n ∧ n ≤ 100000 ∧ SqL K H a xs ∧ 0 < xs.length ∧ xs.length ≤ 1000 ∧ a ≠ d ∧
  ∀ (H' : Hp) (x : V), x ∈ xs → Kp d H H' → Pen H' d c (n + 1) → Q x H'
def spPickS : Sp := fun vs H Q _ => ∃ (d c : Addr) (n : Nat) (z : Str), vs = [.ref d, .str z] ∧ Pen H d c n ∧ n ≤ 100000 ∧ 0 < z.length ∧ z.length ≤ 1000 ∧
  ∀ (H' : Hp) (x : Nat), x ∈ z.cps.toList → Kp d H H' → Pen H' d c (n + 1) → Q (.str ⟨#[x]⟩) H'
abbrev spPick (K : PySem.W.Frag) : Sp := fun vs H Q E => spPickL K vs H Q E ∨ spPickS vs H Q E
theorem at_mem {α : Type} {xs : List α} {r : Int} (h0 : 0 ≤ r) (h1 : r < (xs.length : Int)) : ∃ x, atI xs r = some x ∧ x ∈ xs := by
  have h3 : r.toNat < xs.length := by omega
  refine ⟨xs[r.toNat], ?_, List.getElem_mem h3⟩
  have e : ixN xs.length r = some r.toNat := by
    unfold ixN
    rw [if_pos h0]
    rw [if_pos h1]
  unfold atI
  rw [e]
  exact List.getElem?_eq_getElem h3
theorem ok_l_pickL (T : Tx P K mg) (B : Bx T base) : FnOk P w K mg base CX0 2 T.a_l_pick T.fd_l_pick ["_law_pen_here", "_law_some"] (spPickL K) := by
  refine T.F_l_pick.ok sc_l_pick (fun vs H Q E h => ?_) (fun cdv A outer s H vs Q E hr h => ?_)
  · obtain ⟨d, c, a, n, xs, rfl, _⟩ := h
    rfl
  obtain ⟨d, c, a, n, xs, rfl, hp, hn, ha, hx, hx2, had, q⟩ := h
  refine ⟨_, (pss_one (ps_ret (pe_ix ix_list (pv 1) (pe_call (ok_l_draw T B) (hr.mono (by decide)) (by rfl) T.m_l_draw T.F_l_draw.kp T.bi_l_draw .nil pass0 (pa_cons (pv 0) (pa_cons (pe_callB call_len_seq (by rfl) T.b_len (by decide +kernel) (pa_cons (pv 1) pa_nil)) pa_nil))) (fun _ _ => rfl)))), ?_⟩
  refine ⟨_, rfl, _, rfl, _, rfl, a, xs, rfl, .inl ha, d, c, n, (xs.length : Int), rfl, hp, hn, by omega, by omega, fun H1 r r0 r1 kp p1 => ?_⟩
  obtain ⟨x, e, hm⟩ := at_mem r0 r1
  refine ⟨a, xs, r, x, rfl, rfl, ?_, e, q _ x hm kp p1⟩
  rcases ha with (ha | ⟨o, ha⟩) | ha
  · exact .inl (.inl (kp _ _ ha had))
  · exact .inl (.inr ⟨o, kp _ _ ha had⟩)
  · exact .inr ha
theorem ok_l_pickS (T : Tx P K mg) (B : Bx T base) : FnOk P w K mg base CX0 2 T.a_l_pick T.fd_l_pick ["_law_pen_here", "_law_some"] spPickS := by
  refine T.F_l_pick.ok sc_l_pick (fun vs H Q E h => ?_) (fun cdv A outer s H vs Q E hr h => ?_)
  · obtain ⟨d, c, n, z, rfl, _⟩ := h
    rfl
  obtain ⟨d, c, n, z, rfl, hp, hn, hx, hx2, q⟩ := h
  have hz : z.length ≤ sizeLine := Nat.le_trans hx2 (by decide)
  refine ⟨_, (pss_one (ps_ret (pe_ix ix_str (pv 1) (pe_call (ok_l_draw T B) (hr.mono (by decide)) (by rfl) T.m_l_draw T.F_l_draw.kp T.bi_l_draw .nil pass0 (pa_cons (pv 0) (pa_cons (pe_callB call_len_str (by rfl) T.b_len (by decide +kernel) (pa_cons (pv 1) pa_nil)) pa_nil))) (fun _ _ => rfl)))), ?_⟩
  refine ⟨_, rfl, _, rfl, _, rfl, z, rfl, hz, d, c, n, (z.length : Int), rfl, hp, hn, by omega, by omega, fun H1 r r0 r1 kp p1 => ?_⟩
  obtain ⟨x, e, hm⟩ := at_mem (xs := z.cps.toList) r0 (by rw [Array.length_toList]; exact r1)
  exact ⟨z, r, x, rfl, rfl, hz, e, q _ x hm kp p1⟩
theorem ok_l_pick (T : Tx P K mg) (B : Bx T base) : FnOk P w K mg base CX0 2 T.a_l_pick T.fd_l_pick ["_law_pen_here", "_law_some"] (spPick K) :=
  fn_alt (ok_l_pickL T B) (ok_l_pickS T B)
end
end Toy
set_option Elab.async false
set_option linter.all false
set_option maxRecDepth 100000
set_option maxHeartbeats 4000000
namespace Toy
open PySem L2 Sh ShL LamX NdefX
/-! ### words -/
abbrev Wd := List Nat
def sw (l : Wd) : Str := ⟨l.toArray⟩
theorem sw_list (a : Wd) : (sw a).cps.toList = a := rfl
theorem sw_inj {a b : Wd} (h : sw a = sw b) : a = b := by
  have := congrArg (fun s : Str => s.cps.toList) h
  exact this
theorem sw_of (s : Str) : s = sw s.cps.toList := by
  cases s
  rfl
theorem sw_app (a b : Wd) : sw a ++ sw b = sw (a ++ b) := by
  show (⟨a.toArray ++ b.toArray⟩ : Str) = ⟨(a ++ b).toArray⟩
  simp
theorem sw_one (c : Nat) : (⟨#[c]⟩ : Str) = sw [c] := rfl
theorem sw_len (a : Wd) : (sw a).length = a.length := by
  show a.toArray.size = a.length
  simp
theorem sw_dec (a b : Wd) : decide (V.str (sw a) = V.str (sw b)) = decide (a = b) := by
  apply decide_eq_decide.mpr
  exact ⟨fun h => sw_inj (V.str.inj h), fun h => by rw [h]⟩
theorem cut_init (a : Wd) : cutS (sw a) none (some (-1)) = sw a.dropLast := by
  have e1 : HT.sIx (sw a).length (sw a).length (some (-1)) = (sw a).length - 1 := by
    unfold HT.sIx
    simp
    omega
  unfold cutS
  rw [e1, HT.sIx_none, sw_list, sw_len]
  show (⟨((a.drop 0).take (a.length - 1 - 0)).toArray⟩ : Str) = ⟨a.dropLast.toArray⟩
  rw [List.drop_zero, Nat.sub_zero, List.dropLast_eq_take]
theorem cut_to (a : Wd) (k : Nat) : cutS (sw a) none (some (k : Int)) = sw (a.take k) := by
  unfold cutS
  rw [HT.sIx_nat, HT.sIx_none, sw_list, sw_len]
  show (⟨((a.drop 0).take (min k a.length - 0)).toArray⟩ : Str) = ⟨(a.take k).toArray⟩
  rw [List.drop_zero, Nat.sub_zero]
  by_cases h : k ≤ a.length
  · rw [Nat.min_eq_left h]
  · rw [Nat.min_eq_right (by omega), List.take_of_length_le (Nat.le_refl _), List.take_of_length_le (by omega)]
theorem cut_from (a : Wd) (k : Nat) : cutS (sw a) (some (k : Int)) none = sw (a.drop k) := by
  unfold cutS
  rw [HT.sIx_nat, HT.sIx_none, sw_list, sw_len]
  show (⟨((a.drop (min k a.length)).take (a.length - min k a.length)).toArray⟩ : Str) = ⟨(a.drop k).toArray⟩
  by_cases h : k ≤ a.length
  · rw [Nat.min_eq_left h, List.take_of_length_le (by simp)]
  · rw [Nat.min_eq_right (by omega), List.drop_of_length_le (Nat.le_refl _), List.drop_of_length_le (by omega), List.take_nil]
theorem atW_zero {a : Wd} {c : Nat} (h : a[0]? = some c) : atI (sw a).cps.toList 0 = some c := by
  rw [sw_list]
  unfold atI ixN
  obtain ⟨h1, _⟩ := List.getElem?_eq_some_iff.mp h
  rw [if_pos (Int.le_refl 0), if_pos (by omega)]
  exact h
theorem atW_last {a : Wd} {c : Nat} (h : a.getLast? = some c) : atI (sw a).cps.toList (-1) = some c := by
  rw [sw_list]
  unfold atI ixN
  have h1 : 0 < a.length := by
    cases a with
    | nil => cases h
    | cons x r => simp
  rw [if_neg (by decide), if_pos (by omega)]
  show a[(-1 + (a.length : Int)).toNat]? = some c
  rw [show (-1 + (a.length : Int)).toNat = a.length - 1 by omega, ← List.getLast?_eq_getElem?]
  exact h
/-! ### the order of places -/
def kW (z p : Wd) : List Int := p.map fun c => ((z.idxOf c : Nat) : Int)
def ordW (z : Wd) (ws : List Wd) : List Wd := ws.mergeSort fun p q => decide (kW z p ≤ kW z q)
theorem ordW_perm (z : Wd) (ws : List Wd) : (ordW z ws).Perm ws := List.mergeSort_perm ws _
theorem ordW_mem {z : Wd} {ws : List Wd} {p : Wd} : p ∈ ordW z ws ↔ p ∈ ws := (ordW_perm z ws).mem_iff
theorem ordW_len (z : Wd) (ws : List Wd) : (ordW z ws).length = ws.length := (ordW_perm z ws).length_eq
theorem ordW_nodup {z : Wd} {ws : List Wd} (h : ws.Nodup) : (ordW z ws).Nodup := (ordW_perm z ws).nodup_iff.mpr h
theorem ordW_sorted (z : Wd) (ws : List Wd) : (ordW z ws).Pairwise fun p q => kW z p ≤ kW z q := by
  have := List.pairwise_mergeSort (le := fun p q => decide (kW z p ≤ kW z q)) (fun a b c h1 h2 => decide_eq_true (List.le_trans (of_decide_eq_true h1) (of_decide_eq_true h2)))
    (fun a b => by
      rcases List.le_total (kW z a) (kW z b) with h | h
      · simp [h]
      · simp [h]) ws
  exact this.imp fun h => of_decide_eq_true h
theorem kW_inj {z : Wd} : ∀ {p q : Wd}, (∀ c ∈ p, c ∈ z) → (∀ c ∈ q, c ∈ z) → kW z p = kW z q → p = q
  | [], [], _, _, _ => rfl
  | [], _ :: _, _, _, h => by cases h
  | _ :: _, [], _, _, h => by cases h
  | c :: p, d :: q, h1, h2, h => by
    unfold kW at h
    rw [List.map_cons, List.map_cons, List.cons.injEq] at h
    have e : z.idxOf c = z.idxOf d := Int.ofNat.inj h.1
    have e1 := List.getElem_idxOf (List.idxOf_lt_length_of_mem (h1 c List.mem_cons_self))
    have e2 := List.getElem_idxOf (List.idxOf_lt_length_of_mem (h2 d List.mem_cons_self))
    have e3 : c = d := by
      rw [← e1, ← e2]
      simp only [e]
    rw [e3, kW_inj (fun c h => h1 c (List.mem_cons_of_mem _ h)) (fun c h => h2 c (List.mem_cons_of_mem _ h)) h.2]
theorem ordW_uniq {z : Wd} {ws us : List Wd} (hp : ws.Perm us) (hz : ∀ p ∈ ws, ∀ c ∈ p, c ∈ z) : ordW z ws = ordW z us := by
  refine List.Perm.eq_of_pairwise (le := fun p q => kW z p ≤ kW z q) (fun a b ha hb h1 h2 => ?_) (ordW_sorted z ws) (ordW_sorted z us) (((ordW_perm z ws).trans hp).trans (ordW_perm z us).symm)
  exact kW_inj (hz a (ordW_mem.mp ha)) (hz b (hp.mem_iff.mpr (ordW_mem.mp hb))) (List.le_antisymm h1 h2)
theorem ordW_idem {z : Wd} {ws : List Wd} (hz : ∀ p ∈ ws, ∀ c ∈ p, c ∈ z) : ordW z (ordW z ws) = ordW z ws := ordW_uniq (ordW_perm z ws) fun p h => hz p (ordW_mem.mp h)
theorem ordW_sub {z : Wd} {ws us : List Wd} (hs : us.Sublist (ordW z ws)) (hz : ∀ p ∈ ws, ∀ c ∈ p, c ∈ z) : ordW z us = us := by
  have hm : ∀ p ∈ us, ∀ c ∈ p, c ∈ z := fun p h => hz p (ordW_mem.mp (hs.subset h))
  refine List.Perm.eq_of_pairwise (le := fun p q => kW z p ≤ kW z q) (fun a b ha hb h1 h2 => ?_) (ordW_sorted z us) ((ordW_sorted z ws).sublist hs) (ordW_perm z us)
  exact kW_inj (hm a (ordW_mem.mp ha)) (hm b hb) (List.le_antisymm h1 h2)
theorem ordW_head {z : Wd} {ws : List Wd} (h : ([] : Wd) ∈ ws) : (ordW z ws)[0]? = some [] := by
  have hm := ordW_mem (z := z).mpr h
  have hs := ordW_sorted z ws
  cases e : ordW z ws with
  | nil =>
    rw [e] at hm
    cases hm
  | cons a r =>
    rw [e] at hm hs
    rcases List.mem_cons.mp hm with e | e
    · rw [← e]
      rfl
    · have := (List.pairwise_cons.mp hs).1 _ e
      have e2 : kW z a = [] := by
        have h3 : kW z a ≤ [] := this
        cases e4 : kW z a with
        | nil => rfl
        | cons x y =>
          rw [e4] at h3
          exact absurd h3 (by simp)
      cases a with
      | nil => rfl
      | cons x y => cases e2
abbrev keyS (z : Wd) (s : Str) : List Int := kW z s.cps.toList
theorem sort_sw (z : Wd) (ws : List Wd) : (ws.map sw).mergeSort (PySem.W.dataLe false (keyD (keyS z))) = (ordW z ws).map sw := by
  have e : PySem.W.dataLe false (keyD (keyS z)) = fun p q => decide (keyS z p ≤ keyS z q) := PySem.W.dataLe_rows (keyS z)
  rw [e]
  exact (List.map_mergeSort (f := sw) (l := ws) fun a _ b _ => rfl).symm
/-! ### Paired -/
theorem paired_mono {α β : Type} {R S : α → β → Prop} (f : ∀ a b, R a b → S a b) : ∀ {xs : List α} {ys : List β}, Paired R xs ys → Paired S xs ys
  | _, _, .nil => .nil
  | _, _, .cons h t => .cons (f _ _ h) (paired_mono f t)
theorem paired_ix {α β : Type} {R : α → β → Prop} : ∀ {xs : List α} {ys : List β} {n : Nat} {x : α}, Paired R xs ys → xs[n]? = some x → ∃ y, ys[n]? = some y ∧ R x y
  | _, _, _, _, .nil, h => by cases h
  | _, _, 0, _, .cons h t, e => by cases e; exact ⟨_, rfl, h⟩
  | _ :: _, _ :: _, n + 1, _, .cons h t, e => by
    obtain ⟨y, h1, h2⟩ := paired_ix (n := n) t (by simpa using e)
    exact ⟨y, by simpa using h1, h2⟩
theorem paired_ix' {α β : Type} {R : α → β → Prop} : ∀ {xs : List α} {ys : List β} {n : Nat} {y : β}, Paired R xs ys → ys[n]? = some y → ∃ x, xs[n]? = some x ∧ R x y
  | _, _, _, _, .nil, h => by cases h
  | _, _, 0, _, .cons h t, e => by cases e; exact ⟨_, rfl, h⟩
  | _ :: _, _ :: _, n + 1, _, .cons h t, e => by
    obtain ⟨y, h1, h2⟩ := paired_ix' (n := n) t (by simpa using e)
    exact ⟨y, by simpa using h1, h2⟩
theorem paired_app {α β : Type} {R : α → β → Prop} : ∀ {xs xs' : List α} {ys ys' : List β}, Paired R xs ys → Paired R xs' ys' → Paired R (xs ++ xs') (ys ++ ys')
  | _, _, _, _, .nil, h => h
  | _, _, _, _, .cons h t, k => .cons h (paired_app t k)
theorem paired_take {α β : Type} {R : α → β → Prop} : ∀ {xs : List α} {ys : List β} (n : Nat), Paired R xs ys → Paired R (xs.take n) (ys.take n)
  | _, _, 0, _ => by rw [List.take_zero, List.take_zero]; exact .nil
  | _, _, _ + 1, .nil => .nil
  | _, _, n + 1, .cons h t => .cons h (paired_take n t)
theorem paired_drop {α β : Type} {R : α → β → Prop} : ∀ {xs : List α} {ys : List β} (n : Nat), Paired R xs ys → Paired R (xs.drop n) (ys.drop n)
  | _, _, 0, h => h
  | _, _, _ + 1, .nil => .nil
  | _, _, n + 1, .cons h t => paired_drop n t
theorem paired_self {α β : Type} {f : β → α} : ∀ us : List β, Paired (fun x u => x = f u) (us.map f) us
  | [] => .nil
  | _ :: us => .cons rfl (paired_self us)
theorem paired_eq {α β : Type} {f : β → α} : ∀ {xs : List α} {us : List β}, Paired (fun x u => x = f u) xs us → xs = us.map f
  | _, _, .nil => rfl
  | _, _, .cons h t => by rw [List.map_cons, h, paired_eq t]
theorem paired_left {α β : Type} {R : α → β → Prop} : ∀ {xs : List α} {ys : List β} {x : α}, Paired R xs ys → x ∈ xs → ∃ y ∈ ys, R x y
  | _, _, _, .cons h t, m => by
    rcases List.mem_cons.mp m with rfl | m
    · exact ⟨_, List.mem_cons_self, h⟩
    · obtain ⟨y, h1, h2⟩ := paired_left t m
      exact ⟨y, List.mem_cons_of_mem _ h1, h2⟩
theorem paired_map {α β γ : Type} {R : α → β → Prop} {S : α → γ → Prop} {f : β → γ} (h : ∀ a b, R a b → S a (f b)) : ∀ {xs : List α} {ys : List β}, Paired R xs ys → Paired S xs (ys.map f)
  | _, _, .nil => .nil
  | _, _, .cons r t => .cons (h _ _ r) (paired_map h t)
/-! ### a comprehension, turn by turn -/
theorem lcG {α : Type} {J : It} {us : List α} {xs : List V} {R0 : V → α → Prop} {G : Hp → Prop} {Y : Nat → Hp → V → Hp → Prop} (w : Walk J xs.length G Y) (hY : ∀ i H x H', Y i H x H' → H' = H ∧ xs[i]? = some x) (pr : Paired R0 xs us)
    {g : TG} {tt : TT} {te : TE} {vs : List Nat} {σ : L2.St} {H1 : Hp} {D : Addr} {Qd : Hp → Prop} (C : Nat → Hp → Prop) (hC0 : C 0 (upd H1 D (.lst []))) (hC : ∀ i H acc, C i H → C i (upd H D (.lst acc))) (hG : ∀ i H, i ≤ xs.length → C i H → G H) (hl : us.length ≤ 40000)
    (keep : α → Bool) (S : Hp → V → α → Prop) (hS : ∀ H acc acc' v u, H D = some (.lst acc) → S H v u → S (upd H D (.lst acc')) v u)
    (hs : ∀ i x u H acc (R : VK) (N : Hp → Prop), us[i]? = some u → R0 x u → C i H → H D = some (.lst acc) → (keep u = true → ∀ y H', C (i + 1) H' → H' D = some (.lst acc) → (∀ v u, S H v u → S H' v u) → S H' y u → R y H') →
      (keep u = false → ∀ H', C (i + 1) H' → H' D = some (.lst acc) → (∀ v u, S H v u → S H' v u) → N H') → g x (wipe σ vs) H fun σ2 H2 => wipe σ2 vs = wipe σ vs ∧ tt σ2 H2 fun b H3 => if b = true then te σ2 H3 R else N H3)
    (hd : ∀ H acc, C xs.length H → H D = some (.lst acc) → Paired (S H) acc (us.filter keep) → Qd H) :
    ∃ W : Nat → Nat → Hp → Prop, (∃ m, W 0 m (upd H1 D (.lst []))) ∧ ∀ i m H, W i m H →
      (J.stop i H ∧ Qd H) ∨ (J.go i H ∧ ∃ Nx : Hp → Prop, (∀ H', Nx H' → ∃ m', m' < m ∧ W (i + 1) m' H') ∧ ∀ x H', J.yld i H x H' → g x (wipe σ vs) H' fun σ2 H2 => wipe σ2 vs = wipe σ vs ∧ tt σ2 H2 fun b H3 =>
        if b = true then te σ2 H3 fun y H4 => ∃ acc, H4 D = some (.lst acc) ∧ acc.length < sizeLine ∧ Nx (upd H4 D (.lst (acc ++ [y]))) else Nx H3) := by
  have hlen := pr.length
  refine lc_it w (fun i H => ∃ acc, H D = some (.lst acc) ∧ C i H ∧ Paired (S H) acc ((us.take i).filter keep)) ⟨[], upd_same, hC0, by rw [List.take_zero]; exact .nil⟩ (fun i H hi ⟨_, _, c, _⟩ => hG i H hi c) (fun i x H H' hi ⟨acc, hD, c, p⟩ y => ?_)
    fun H ⟨acc, hD, c, p⟩ => hd H acc c hD (by rw [hlen, List.take_of_length_le (Nat.le_refl _)] at p; exact p)
  obtain ⟨rfl, hx⟩ := hY _ _ _ _ y
  obtain ⟨u, hu, r⟩ := paired_ix pr hx
  have e : (us.take (i + 1)) = us.take i ++ [u] := by rw [List.take_add_one, hu]; rfl
  refine hs i x u _ acc _ _ hu r c hD (fun k z H2 c2 hD2 m sy => ?_) fun k H2 c2 hD2 m => ?_
  · refine ⟨acc, hD2, ?_, acc ++ [z], upd_same, hC _ _ _ c2, ?_⟩
    · rw [p.length, sizeLine_eq]
      have h1 := List.length_filter_le keep (us.take i)
      rw [List.length_take] at h1
      omega
    · rw [e, List.filter_append, List.filter_cons_of_pos k, List.filter_nil]
      exact paired_app (paired_mono (fun a b q => hS _ _ _ _ _ hD2 (m a b q)) p) (.cons (hS _ _ _ _ _ hD2 sy) .nil)
  · refine ⟨acc, hD2, c2, ?_⟩
    rw [e, List.filter_append, List.filter_cons_of_neg (by rw [k]; decide), List.filter_nil, List.append_nil]
    exact paired_mono m p
/-- the items are told by f; all that was stands -/
theorem lcF {α : Type} {J : It} {us : List α} {xs : List V} {R0 : V → α → Prop} {G : Hp → Prop} {Y : Nat → Hp → V → Hp → Prop} (w : Walk J xs.length G Y) (hY : ∀ i H x H', Y i H x H' → H' = H ∧ xs[i]? = some x) (pr : Paired R0 xs us)
    {g : TG} {tt : TT} {te : TE} {vs : List Nat} {σ : L2.St} {H1 : Hp} {D : Addr} {Qd : Hp → Prop} (hD : H1 D = none) (hG : ∀ H, Same H1 H → G H) (hl : us.length ≤ 40000)
    (keep : α → Bool) (f : α → V)
    (hs : ∀ x u H (R : VK) (N : Hp → Prop), u ∈ us → R0 x u → Same H1 H → (keep u = true → R (f u) H) → (keep u = false → N H) → g x (wipe σ vs) H fun σ2 H2 => wipe σ2 vs = wipe σ vs ∧ tt σ2 H2 fun b H3 => if b = true then te σ2 H3 R else N H3)
    (hd : ∀ H, Same H1 H → H D = some (.lst ((us.filter keep).map f)) → Qd H) :
    ∃ W : Nat → Nat → Hp → Prop, (∃ m, W 0 m (upd H1 D (.lst []))) ∧ ∀ i m H, W i m H →
      (J.stop i H ∧ Qd H) ∨ (J.go i H ∧ ∃ Nx : Hp → Prop, (∀ H', Nx H' → ∃ m', m' < m ∧ W (i + 1) m' H') ∧ ∀ x H', J.yld i H x H' → g x (wipe σ vs) H' fun σ2 H2 => wipe σ2 vs = wipe σ vs ∧ tt σ2 H2 fun b H3 =>
        if b = true then te σ2 H3 fun y H4 => ∃ acc, H4 D = some (.lst acc) ∧ acc.length < sizeLine ∧ Nx (upd H4 D (.lst (acc ++ [y]))) else Nx H3) := by
  refine lcG w hY pr (fun _ H => Same H1 H) (same_upd hD) (fun _ H acc s b o h => ?_) (fun i H _ s => hG H s) hl keep (fun _ v u => v = f u) (fun _ _ _ _ _ _ h => h) (fun i x u H acc R N hu r s hDH k1 k2 => ?_) fun H acc s hDH p => ?_
  · rw [upd_ne (ne_of_none h hD)]
    exact s _ _ h
  · exact hs x u H R N (List.mem_of_getElem? hu) r s (fun k => k1 k _ _ s hDH (fun _ _ h => h) rfl) fun k => k2 k _ s hDH fun _ _ h => h
  · rw [paired_eq p] at hDH
    exact hd H s hDH
theorem yat {xs : List V} : ∀ i H x H', YAt xs i H x H' → H' = H ∧ xs[i]? = some x := fun _ _ _ _ h => h
/-- the signs of a text -/
abbrev sgs (z : Wd) : List V := z.map fun c => V.str (sw [c])
theorem walk_sgs (z : Wd) : Walk (Its (sw z)) (sgs z).length (fun _ => True) (YAt (sgs z)) := by
  have := walk_str (z := sw z)
  rw [show (sw z).cps.size = (sgs z).length by rw [List.length_map]; show z.toArray.size = z.length; simp] at this
  refine this.mono (fun _ h => h) fun i H x H' hi _ ⟨e, c, h1, h2⟩ => ⟨e, ?_⟩
  have h3 : z[i]? = some c := by
    rw [← h1]
    show z[i]? = z.toArray[i]?
    simp
  rw [List.getElem?_map, h3, h2]
  rfl
theorem pr_sgs (z : Wd) : Paired (fun (x : V) c => x = V.str (sw [c])) (sgs z) z := paired_self z
/-- membership among texts -/
abbrev wsV (ps : List Wd) : List V := ps.map fun p => V.str (sw p)
theorem wsV_flat (ps : List Wd) : (wsV ps).all flatV = true := by
  rw [List.all_eq_true]
  intro x h
  obtain ⟨p, _, rfl⟩ := List.mem_map.mp h
  rfl
theorem wsV_in (p : Wd) (ps : List Wd) : inV (.str (sw p)) (wsV ps) = decide (p ∈ ps) := by
  induction ps with
  | nil => rfl
  | cons q ps ih =>
    show (eqV (.str (sw q)) (.str (sw p)) || inV (.str (sw p)) (wsV ps)) = _
    rw [ih]
    have e : eqV (.str (sw q)) (.str (sw p)) = decide (q = p) := by
      show ((sw q) == (sw p)) = _
      by_cases h : q = p
      · rw [h]; simp
      · rw [decide_eq_false h]
        exact beq_eq_false_iff_ne.mpr fun z => h (sw_inj z)
    rw [e]
    by_cases h : q = p
    · simp [h]
    · simp [h, Ne.symm h]
end Toy
set_option Elab.async false
set_option linter.all false
set_option maxRecDepth 100000
set_option maxHeartbeats 4000000
namespace Toy
open PySem L2 Sh ShL LamX NdefX
def small : Wd := [97, 98, 99, 100, 101, 102, 103, 104, 105, 106, 107, 108, 109, 110, 111, 112, 113, 114, 115, 116, 117, 118, 119, 120, 121, 122]
theorem small_eq : (("abcdefghijklmnopqrstuvwxyz" : Str)) = sw small := by decide +kernel
theorem mt_eq : (("" : Str)) = sw [] := by decide +kernel
structure LetOk (z : Wd) : Prop where
  l2 : 2 ≤ z.length
  l26 : z.length ≤ 26
  nd : z.Nodup
  sm : ∀ c ∈ z, c ∈ small
theorem count_sw (z : Wd) (c : Nat) : Txt.count (sw z) ⟨#[c]⟩ = ((z.count c : Nat) : Int) := by
  rw [PyProof.Rows.count_is, sw_list]
  show PyProof.Rows.cnt c z = _
  induction z with
  | nil => rfl
  | cons n r ih =>
    rw [PyProof.Rows.cnt_cons, ih, List.count_cons]
    by_cases h : n = c <;> simp [h] <;> omega
theorem idx_le : ∀ {z : Wd} {c i : Nat}, z[i]? = some c → z.idxOf c ≤ i
  | [], _, _, h => by cases h
  | a :: z, c, 0, h => by
    cases h
    simp
  | a :: z, c, i + 1, h => by
    have := idx_le (z := z) (c := c) (i := i) (by simpa using h)
    rw [List.idxOf_cons]
    by_cases e : a = c
    · simp [e]
    · rw [beq_eq_false_iff_ne.mpr e]
      exact Nat.succ_le_succ this
theorem cnt_one : ∀ {z : Wd} {c : Nat}, z.Nodup → c ∈ z → z.count c = 1
  | a :: z, c, nd, h => by
    rw [List.nodup_cons] at nd
    rw [List.count_cons]
    by_cases e : a = c
    · subst e
      rw [List.count_eq_zero.mpr nd.1]
      simp
    · rcases List.mem_cons.mp h with h | h
      · exact absurd h.symm e
      · rw [cnt_one nd.2 h]
        simp [e]
theorem occ_sw {z : Wd} {c : Nat} (h : c ∈ z) : ∃ rest, Builtin.Str.occurrences (sw z) ⟨#[c]⟩ 0 (sw z).length 1 = z.idxOf c :: rest := by
  rcases StrLaws.occ_head (sw z) ⟨#[c]⟩ 1 (Nat.le_refl 1) with ⟨_, hn⟩ | ⟨i, r, e, ha, hn⟩
  · obtain ⟨j, hj⟩ := List.getElem?_of_mem h
    exact absurd ((StrLaws.subAt_one (sw z) c j).mpr hj) (hn j)
  · have h1 : z[i]? = some c := (StrLaws.subAt_one (sw z) c i).mp ha
    refine ⟨r, ?_⟩
    rw [e]
    congr 1
    obtain ⟨h2, h3⟩ := List.getElem?_eq_some_iff.mp h1
    have h4 := List.idxOf_lt_length_of_mem h
    have h5 := List.getElem_idxOf h4
    by_cases h6 : z.idxOf c < i
    · exact absurd ((StrLaws.subAt_one (sw z) c _).mpr (by rw [sw_list, List.getElem?_eq_getElem h4, h5])) (hn _ h6)
    · by_cases h7 : i < z.idxOf c
      · have := idx_le h1
        omega
      · omega
theorem isi_s {K : PySem.W.Frag} : PySem.W.kitOne K (.type "str") (.type "str") = some true := kit_ty (by decide +kernel)
theorem isi_i {K : PySem.W.Frag} : PySem.W.kitOne K (.type "int") (.type "int") = some true := kit_ty (by decide +kernel)
theorem isi_ib {K : PySem.W.Frag} : PySem.W.kitOne K (.type "int") (.type "bool") = some false := kit_ty (by decide +kernel)
theorem isi_nb {K : PySem.W.Frag} : PySem.W.kitOne K (.type "NoneType") (.type "bool") = some false := kit_ty (by decide +kernel)
theorem isi_bb {K : PySem.W.Frag} : PySem.W.kitOne K (.type "bool") (.type "bool") = some true := kit_ty (by decide +kernel)
theorem isi_tt {K : PySem.W.Frag} : PySem.W.kitOne K (.type "tuple") (.type "tuple") = some true := kit_ty (by decide +kernel)
theorem kit_lt {K : PySem.W.Frag} {t : String} (h : t = "list" ∨ t = "tuple") : PySem.W.kitAny K (.type t) [.type "list", .type "tuple"] = some true := by
  rcases h with rfl | rfl
  · exact kitAny_cons (b := true) (kit_ty (by decide +kernel)) (fun z => nomatch z) fun _ => rfl
  · exact kitAny_cons (b := false) (kit_ty (by decide +kernel)) (fun _ => kitAny_cons (b := true) (kit_ty (by decide +kernel)) (fun z => nomatch z) fun _ => rfl) fun z => nomatch z
theorem all_true : ∀ {n : Nat}, (List.replicate n true).all id = true
  | 0 => rfl
  | n + 1 => by rw [List.replicate_succ, List.all_cons, all_true]; rfl
theorem map_bl {α : Type} (us : List α) : us.map (fun _ => V.bl true) = (List.replicate us.length true).map V.bl := by
  induction us with
  | nil => rfl
  | cons u us ih => rw [List.map_cons, ih, List.length_cons, List.replicate_succ, List.map_cons]
theorem filter_tt {α : Type} (us : List α) : us.filter (fun _ => true) = us := by simp
def spLetters : Sp := fun vs H Q _ => ∃ z, vs = [.str (sw z)] ∧ LetOk z ∧ ∀ H', Same H H' → Q (.bl true) H'
def spWord : Sp := fun vs H Q _ => ∃ z p, vs = [.str (sw z), .str (sw p)] ∧ p.length ≤ 200 ∧ (∀ c ∈ p, c ∈ z) ∧ ∀ H', Same H H' → Q (.bl true) H'
def spValue : Sp := fun vs H Q _ => ∃ i : Int, vs = [.int i] ∧ 1 ≤ i ∧ i ≤ 9 ∧ Q (.bl true) H
section
variable {P : Program} {w : World} {K : PySem.W.Frag} {mg : Str → Option Value} {base : Heap}
theorem ok_is_letters (T : Tx P K mg) (B : Bx T base) : FnOk P w K mg base CX0 1 T.a_is_letters T.fd_is_letters ["letters"] spLetters := by
  refine okT T.F_is_letters sc_is_letters (fun vs H Q E h => ?_) (fun cdv A outer s H vs Q E hcd hr h => ?_)
  · obtain ⟨z, rfl, _⟩ := h
    rfl
  have hu := hu_of hr
  have hu65 := hu65_of hr
  obtain ⟨z, rfl, hz, q⟩ := h
  have hl : (sw z).length ≤ sizeLine := by rw [sw_len, sizeLine_eq]; have := hz.l26; omega
  refine ⟨_, (pss_cons (ps_if (PW.pt (pw_or (pt_not (pt_val (pe_callB call_isi (by rfl) T.b_isinstance (by decide +kernel) (pa_cons (pv 0) (pa_cons (pe_bltn (v := .ty "str") (by rfl) T.b_str (by decide +kernel) rfl) pa_nil))))) (pw_or1 (pt_not (pt_chain op_le op_le pe_int (pe_callB call_len_str (by rfl) T.b_len (by decide +kernel) (pa_cons (pv 0) pa_nil)) (pe_callB call_len_str (by rfl) T.b_len (by decide +kernel) (pa_cons (pe_glob (v := .str "abcdefghijklmnopqrstuvwxyz") (by rfl) T.m_SMALL.choose_spec ⟨_, rfl⟩) pa_nil)))))))
 (pss_one (ps_ret pe_bl))
 pss_nil)
 (pss_one (ps_ret (pe_callB (cr_all rfl) (by rfl) T.b_all (by decide +kernel) (pa_cons (pe_lc (own := [("letter", 1)]) (g := gName 1) rfl sc_is_letters.nd (pi_str (pv 0)) (blkOk_by (own := [("letter", 1)]) (N := N_is_letters) (sc := defScope s_is_letters) (by decide +kernel)) (fun _ _ _ _ _ => (pg_name (i := 1) sc_is_letters.nd rfl (by first | exact Or.inl rfl | exact Or.inr rfl))) (fun _ _ _ _ _ => pts_nil) (fun _ _ _ _ _ => (pe_and (pe_cmpR op_in_sign (pv 1) (pe_glob (v := .str "abcdefghijklmnopqrstuvwxyz") (by rfl) T.m_SMALL.choose_spec ⟨_, rfl⟩) (by rfl)) (pe_one (pe_cmpR op_eq (pe_m1 PySem.F.slot_str_count PySem.F.type_str_count mt_count (pv 0) (pv 1)) pe_int (nomark _)))))) pa_nil))))), ?_⟩
  refine ⟨_, rfl, _, _, _, _, _, rfl, .ty _, .base (.str _), isi_s, _, rfl, ?_⟩
  refine iteF ?_
  have h2 := hz.l2
  have h26 := hz.l26
  refine ⟨_, rfl, _, rfl, hl, _, _, rfl, rfl, _, rfl, ?_⟩
  rw [sw_len]
  rw [decide_eq_true (show (2 : Int) ≤ (z.length : Int) by omega)]
  refine iteT ?_
  refine ⟨_, rfl, by decide +kernel, _, _, rfl, rfl, _, rfl, ?_⟩
  rw [show ((("abcdefghijklmnopqrstuvwxyz" : Str)).length : Int) = 26 by decide +kernel]
  rw [decide_eq_true (show (z.length : Int) ≤ 26 by omega)]
  refine iteF ?_
  refine ⟨_, rfl, _, rfl, fun D hD => ?_⟩
  refine lcF (walk_sgs z) yat (pr_sgs z) hD (fun _ _ => trivial) (by omega) (fun _ => true) (fun _ => .bl true) (fun x c H' R N hc e s k1 _ => ?_) (fun H' s hl => ?_)
  · subst e
    refine ⟨rfl, yes_ite ?_⟩
    refine ⟨_, rfl, c, _, rfl, rfl, _, rfl, ?_⟩
    rw [small_eq, sw_list, decide_eq_true (hz.sm c hc)]
    refine iteT ?_
    refine ⟨_, rfl, ⟨_, rfl⟩, _, rfl, _, _, rfl, rfl, rfl, ?_⟩
    rw [show Txt.count (sw z) (sw [c]) = 1 by rw [← sw_one, count_sw, cnt_one hz.nd hc]; rfl]
    exact k1 rfl
  · rw [filter_tt, map_bl] at hl
    refine ⟨D, _, rfl, SqL.of hl, ?_⟩
    rw [all_true]
    exact q _ s
theorem ok_is_word (T : Tx P K mg) (B : Bx T base) : FnOk P w K mg base CX0 1 T.a_is_word T.fd_is_word ["letters", "word"] spWord := by
  refine okT T.F_is_word sc_is_word (fun vs H Q E h => ?_) (fun cdv A outer s H vs Q E hcd hr h => ?_)
  · obtain ⟨z, p, rfl, _⟩ := h
    rfl
  have hu := hu_of hr
  have hu65 := hu65_of hr
  obtain ⟨z, p, rfl, hp, hz, q⟩ := h
  have hl : (sw p).length ≤ sizeLine := by rw [sw_len, sizeLine_eq]; omega
  refine ⟨_, (pss_cons (ps_if (PW.pt (pw_or (pt_not (pt_val (pe_callB call_isi (by rfl) T.b_isinstance (by decide +kernel) (pa_cons (pv 1) (pa_cons (pe_bltn (v := .ty "str") (by rfl) T.b_str (by decide +kernel) rfl) pa_nil))))) (pw_or1 (pt_cmpR op_gt (pe_callB call_len_str (by rfl) T.b_len (by decide +kernel) (pa_cons (pv 1) pa_nil)) (pe_glob (v := .int 200) (by rfl) T.m_MOST_LETTERS.choose_spec ⟨_, rfl⟩) (nomark _)))))
 (pss_one (ps_ret pe_bl))
 pss_nil)
 (pss_one (ps_ret (pe_callB (cr_all rfl) (by rfl) T.b_all (by decide +kernel) (pa_cons (pe_lc (own := [("letter", 2)]) (g := gName 2) rfl sc_is_word.nd (pi_str (pv 1)) (blkOk_by (own := [("letter", 2)]) (N := N_is_word) (sc := defScope s_is_word) (by decide +kernel)) (fun _ _ _ _ _ => (pg_name (i := 2) sc_is_word.nd rfl (by first | exact Or.inl rfl | exact Or.inr rfl))) (fun _ _ _ _ _ => pts_nil) (fun _ _ _ _ _ => (pe_cmpR op_in_sign (pv 2) (pv 0) (by rfl)))) pa_nil))))), ?_⟩
  refine ⟨_, rfl, _, _, _, _, _, rfl, .ty _, .base (.str _), isi_s, _, rfl, ?_⟩
  refine iteF ?_
  refine ⟨_, rfl, _, rfl, hl, _, _, rfl, rfl, _, rfl, ?_⟩
  rw [sw_len, decide_eq_false (show ¬ (200 : Int) < (p.length : Int) by omega)]
  refine iteF ?_
  refine ⟨_, rfl, _, rfl, fun D hD => ?_⟩
  refine lcF (walk_sgs p) yat (pr_sgs p) hD (fun _ _ => trivial) (by omega) (fun _ => true) (fun _ => .bl true) (fun x c H' R N hc e s k1 _ => ?_) (fun H' s hl => ?_)
  · subst e
    refine ⟨rfl, yes_ite ?_⟩
    refine ⟨_, rfl, _, rfl, c, _, rfl, rfl, ?_⟩
    rw [sw_list, decide_eq_true (hz c hc)]
    exact k1 rfl
  · rw [filter_tt, map_bl] at hl
    refine ⟨D, _, rfl, SqL.of hl, ?_⟩
    rw [all_true]
    exact q _ s
theorem ok_is_value (T : Tx P K mg) (B : Bx T base) : FnOk P w K mg base CX0 1 T.a_is_value T.fd_is_value ["value"] spValue := by
  refine okT T.F_is_value sc_is_value (fun vs H Q E h => ?_) (fun cdv A outer s H vs Q E hcd hr h => ?_)
  · obtain ⟨i, rfl, _⟩ := h
    rfl
  have hu := hu_of hr
  have hu65 := hu65_of hr
  obtain ⟨i, rfl, h1, h9, q⟩ := h
  refine ⟨_, (pss_one (ps_ret (pe_and (pe_callB call_isi (by rfl) T.b_isinstance (by decide +kernel) (pa_cons (pv 0) (pa_cons (pe_bltn (v := .ty "int") (by rfl) T.b_int (by decide +kernel) rfl) pa_nil))) (pe_and (pe_not (pe_callB call_isi (by rfl) T.b_isinstance (by decide +kernel) (pa_cons (pv 0) (pa_cons (pe_bltn (v := .ty "bool") (by rfl) T.b_bool (by decide +kernel) rfl) pa_nil)))) (pe_one (pe_chain op_le op_le pe_int (pv 0) (pe_glob (v := .int 9) (by rfl) T.m_MOST_VALUE.choose_spec ⟨_, rfl⟩))))))), ?_⟩
  refine ⟨_, rfl, _, _, _, _, _, rfl, .ty _, .base (.int _), isi_i, _, rfl, ?_⟩
  refine iteT ?_
  refine ⟨_, rfl, _, _, _, _, _, rfl, .ty _, .base (.int _), isi_ib, _, rfl, _, rfl, ?_⟩
  refine iteT ?_
  refine ⟨_, rfl, _, _, rfl, rfl, _, rfl, ?_⟩
  rw [decide_eq_true h1]
  refine iteT ?_
  refine ⟨_, _, rfl, rfl, ?_⟩
  show Q (.bl (decide (i ≤ 9))) H
  rw [decide_eq_true h9]
  exact q
end
end Toy
set_option Elab.async false
set_option linter.all false
set_option maxRecDepth 100000
set_option maxHeartbeats 4000000
namespace Toy
open PySem L2 Sh ShL LamX NdefX
/-! ### dicts with texts as keys -/
def kdl (l : List (Wd × V)) : List (Key × V) := l.map fun q => (.inr (sw q.1), q.2)
theorem kdl_len (l : List (Wd × V)) : (kdl l).length = l.length := List.length_map _
theorem kdl_none : ∀ {l : List (Wd × V)} {p : Wd}, p ∉ l.map (·.1) → valV (kdl l) (.inr (sw p)) = none
  | [], _, _ => rfl
  | q :: l, p, h => by
    rw [List.map_cons, List.mem_cons] at h
    refine (valV_neg (fun e => h (.inl (sw_inj (Sum.inr.inj e)).symm))).trans (kdl_none (l := l) fun m => h (.inr m))
theorem kdl_some : ∀ {l : List (Wd × V)} {p : Wd} {v : V}, (l.map (·.1)).Nodup → (p, v) ∈ l → valV (kdl l) (.inr (sw p)) = some v
  | q :: l, p, v, nd, h => by
    rw [List.map_cons, List.nodup_cons] at nd
    rcases List.mem_cons.mp h with h | h
    · subst h
      exact valV_pos rfl
    · have hm : p ∈ l.map (·.1) := List.mem_map.mpr ⟨_, h, rfl⟩
      exact (valV_neg (fun e => nd.1 (by have := sw_inj (Sum.inr.inj e); rw [this]; exact hm))).trans (kdl_some nd.2 h)
theorem kdl_is {l : List (Wd × V)} (nd : (l.map (·.1)).Nodup) (p : Wd) : (valV (kdl l) (.inr (sw p))).isSome = decide (p ∈ l.map (·.1)) := by
  by_cases h : p ∈ l.map (·.1)
  · obtain ⟨q, hq, rfl⟩ := List.mem_map.mp h
    rw [kdl_some nd (v := q.2) hq, decide_eq_true h]
    rfl
  · rw [kdl_none h, decide_eq_false h]
    rfl
theorem kdl_new {l : List (Wd × V)} {p : Wd} (v : V) (h : p ∉ l.map (·.1)) : putK (kdl l) (.inr (sw p)) v = kdl (l ++ [(p, v)]) := by
  rw [putK_new v (kdl_none h)]
  unfold kdl
  rw [List.map_append]
  rfl
theorem kdl_old {l : List (Wd × V)} {p : Wd} (v : V) (h : p ∈ l.map (·.1)) : putK (kdl l) (.inr (sw p)) v = kdl (l.map fun q => if q.1 = p then (q.1, v) else q) := by
  have e : ((kdl l).any fun kv => decide (kv.1 = (.inr (sw p) : Key))) = true := by
    obtain ⟨q, hq, e⟩ := List.mem_map.mp h
    rw [List.any_eq_true]
    refine ⟨(.inr (sw q.1), q.2), List.mem_map.mpr ⟨q, hq, rfl⟩, ?_⟩
    rw [← e]
    exact decide_eq_true rfl
  unfold putK
  rw [if_pos e]
  unfold kdl
  rw [List.map_map, List.map_map]
  refine List.map_congr_left fun q _ => ?_
  show (if (.inr (sw q.1) : Key) = .inr (sw p) then _ else _) = _
  by_cases h : q.1 = p
  · rw [if_pos (by rw [h]), Function.comp_apply, if_pos h]
  · rw [if_neg (fun e => h (sw_inj (Sum.inr.inj e))), Function.comp_apply, if_neg h]
theorem dget_kdl {H : Hp} {d : Addr} {l : List (Wd × V)} (h : H d = some (.dK (kdl l))) (p : Wd) : DGet H d (.str (sw p)) (valV (kdl l) (.inr (sw p))) := DGet.k (k := .inr (sw p)) h
theorem dput_kdl {H : Hp} {d : Addr} {l : List (Wd × V)} (h : H d = some (.dK (kdl l))) (p : Wd) (v : V) (hl : l.length ≤ 40000) : DPut H d (.str (sw p)) v (upd H d (.dK (putK (kdl l) (.inr (sw p)) v))) :=
  DPut.k (k := .inr (sw p)) h (by rw [kdl_len, sizeLine_eq]; omega)
/-! ### rows -/
abbrev Rw := Wd × Option Int × Bool
def oV : Option Int → V
  | none => .non
  | some i => .int i
abbrev rwVs (r : Rw) : List V := [.str (sw r.1), oV r.2.1, .bl r.2.2]
def RwT (H : Hp) (v : V) (r : Rw) : Prop := ∃ a, v = .ref a ∧ H a = some (.tup (rwVs r))
def RwE (H : Hp) (v : V) (r : Rw) : Prop := ∃ a, v = .ref a ∧ (H a = some (.lst (rwVs r)) ∨ H a = some (.tup (rwVs r)))
theorem RwT.e {H : Hp} {v : V} {r : Rw} (h : RwT H v r) : RwE H v r := let ⟨a, e, h⟩ := h; ⟨a, e, .inr h⟩
theorem RwT.sm {T : List (Addr × Str)} {H H' : Hp} {v : V} {r : Rw} (s : Sm T H H') (h : RwT H v r) : RwT H' v r := let ⟨a, e, h⟩ := h; ⟨a, e, s.get h⟩
theorem RwE.sm {T : List (Addr × Str)} {H H' : Hp} {v : V} {r : Rw} (s : Sm T H H') (h : RwE H v r) : RwE H' v r := let ⟨a, e, h⟩ := h; ⟨a, e, h.imp (fun h => s.get h) fun h => s.get h⟩
theorem RwT.same {H H' : Hp} {v : V} {r : Rw} (s : Same H H') (h : RwT H v r) : RwT H' v r := let ⟨a, e, h⟩ := h; ⟨a, e, s _ _ h⟩
theorem RwE.same {H H' : Hp} {v : V} {r : Rw} (s : Same H H') (h : RwE H v r) : RwE H' v r := let ⟨a, e, h⟩ := h; ⟨a, e, h.imp (s _ _) (s _ _)⟩
theorem RwT.kp {H H' : Hp} {v : V} {r : Rw} {d : Addr} {kvs : List (Key × V)} (hd : H d = some (.dK kvs)) (s : Kp d H H') (h : RwT H v r) : RwT H' v r :=
  let ⟨a, e, h⟩ := h; ⟨a, e, s _ _ h (ne_of h hd (by intro z; cases z))⟩
theorem RwE.kp {H H' : Hp} {v : V} {r : Rw} {d : Addr} {kvs : List (Key × V)} (hd : H d = some (.dK kvs)) (s : Kp d H H') (h : RwE H v r) : RwE H' v r :=
  let ⟨a, e, h⟩ := h; ⟨a, e, h.imp (fun h => s _ _ h (ne_of h hd (by intro z; cases z))) fun h => s _ _ h (ne_of h hd (by intro z; cases z))⟩
structure RwOk (z : Wd) (r : Rw) : Prop where
  wd : ∀ c ∈ r.1, c ∈ z
  l200 : r.1.length ≤ 200
  vl : ∀ i, r.2.1 = some i → 1 ≤ i ∧ i ≤ 9
theorem RwE.sq {K : PySem.W.Frag} {H : Hp} {a : Addr} {xs : List V} (h : H a = some (.lst xs) ∨ H a = some (.tup xs)) : SqL K H a xs ∨ SqT K H a xs := h.imp SqL.of SqT.of
theorem lt_ty {K : PySem.W.Frag} {H : Hp} {a : Addr} {xs : List V} (h : H a = some (.lst xs) ∨ H a = some (.tup xs)) : ∃ t : String, (t = "list" ∨ t = "tuple") ∧ TyX K H (.ref a) (.type t) :=
  h.elim (fun h => ⟨_, .inl rfl, .base (.lst h)⟩) fun h => ⟨_, .inr rfl, .base (.tup h)⟩
def spRow : Sp := fun vs H Q _ => ∃ z v r, vs = [.str (sw z), v] ∧ RwE H v r ∧ RwOk z r ∧ ∀ H', Same H H' → Q (.bl true) H'
def spOrder (T : List (Addr × Str)) : Sp := fun vs H Q _ => ∃ z d kvs ws, vs = [.str (sw z), .ref d] ∧ H d = some (.dK kvs) ∧ kvs.map (fun kv => kV kv.1) = wsV ws ∧ (∀ p ∈ ws, p.length ≤ 200 ∧ ∀ c ∈ p, c ∈ z) ∧ Tabs T H ∧
  ∀ H' a, Sm T H H' → H' a = some (.lst (wsV (ordW z ws))) → Q (.ref a) H'
def spOrdered (K : PySem.W.Frag) (T : List (Addr × Str)) : Sp := fun vs H Q _ => ∃ z a ws, vs = [.str (sw z), .ref a] ∧ SqL K H a (wsV ws) ∧ (∀ p ∈ ws, p.length ≤ 200 ∧ ∀ c ∈ p, c ∈ z) ∧ Tabs T H ∧
  ∀ H' a, Sm T H H' → H' a = some (.lst (wsV (ordW z ws))) → Q (.ref a) H'
section
variable {P : Program} {w : World} {K : PySem.W.Frag} {mg : Str → Option Value} {base : Heap}
theorem ok_is_row (T : Tx P K mg) (B : Bx T base) : FnOk P w K mg base CX0 2 T.a_is_row T.fd_is_row ["letters", "row"] spRow := by
  refine okT T.F_is_row sc_is_row (fun vs H Q E h => ?_) (fun cdv A outer s H vs Q E hcd hr h => ?_)
  · obtain ⟨z, v, r, rfl, _⟩ := h
    rfl
  have hu := hu_of hr
  have hu65 := hu65_of hr
  obtain ⟨z, v, ⟨p, vl, fl⟩, rfl, ⟨a, rfl, ha⟩, ro, q⟩ := h
  refine ⟨_, (pss_cons (ps_if (PW.pt (pw_or (pt_not (pt_val (pe_callB call_isiT (by rfl) T.b_isinstance (by decide +kernel) (pa_cons (pv 1) (pa_cons (pe_tup (pa_cons (pe_bltn (v := .ty "list") (by rfl) T.b_list (by decide +kernel) rfl) (pa_cons (pe_bltn (v := .ty "tuple") (by rfl) T.b_tuple (by decide +kernel) rfl) pa_nil))) pa_nil))))) (pw_or1 (pt_cmpR op_ne (pe_callB call_len_seq (by rfl) T.b_len (by decide +kernel) (pa_cons (pv 1) pa_nil)) pe_int (nomark _)))))
 (pss_one (ps_ret pe_bl))
 pss_nil)
 (pss_cons (ps_asg (pv 1) (pg_unE rfl (pgs_cons (pg_name (i := 2) sc_is_row.nd rfl (by first | exact Or.inl rfl | exact Or.inr rfl)) (pgs_cons (pg_name (i := 3) sc_is_row.nd rfl (by first | exact Or.inl rfl | exact Or.inr rfl)) (pgs_cons (pg_name (i := 4) sc_is_row.nd rfl (by first | exact Or.inl rfl | exact Or.inr rfl)) pgs_nil)))))
 (pss_one (ps_ret (pe_and (pe_call (ok_is_word T B) (hr.mono (by decide)) (by rfl) T.m_is_word T.F_is_word.kp T.bi_is_word .nil pass0 (pa_cons (pv 0) (pa_cons (pv 2) pa_nil))) (pe_and (pe_or (pe_cmpR op_isN (pv 3) pe_non (nomark _)) (pe_one (pe_call (ok_is_value T B) (hr.mono (by decide)) (by rfl) T.m_is_value T.F_is_value.kp T.bi_is_value .nil pass0 (pa_cons (pv 3) pa_nil)))) (pe_one (pe_callB call_isi (by rfl) T.b_isinstance (by decide +kernel) (pa_cons (pv 4) (pa_cons (pe_bltn (v := .ty "bool") (by rfl) T.b_bool (by decide +kernel) rfl) pa_nil)))))))))), ?_⟩
  refine ⟨_, rfl, by decide, fun tp htp => ?_⟩
  have s1 := same_upd (o := .tup [V.ty "list", V.ty "tuple"]) htp
  have ha1 := ha.imp (s1 _ _) (s1 _ _)
  obtain ⟨t, ht, ty⟩ := lt_ty (K := K) ha1
  refine ⟨_, tp, _, _, [.type "list", .type "tuple"], true, rfl, upd_same, .cons (.ty _) (.cons (.ty _) .nil), ty, kit_lt ht, _, rfl, ?_⟩
  refine iteF ?_
  refine ⟨_, rfl, a, _, rfl, RwE.sq ha1, rfl, _, rfl, ?_⟩
  refine iteF ?_
  refine ⟨_, rfl, a, _, rfl, RwE.sq ha1, rfl, _, _, rfl, _, _, rfl, _, _, rfl, rfl, ?_⟩
  refine ⟨_, rfl, _, rfl, z, p, rfl, ro.l200, ro.wd, fun H2 s2 => ⟨_, rfl, iteT ?_⟩⟩
  have fin : ∀ σ : L2.St, σ[4]? = some (some (.bl fl)) → (tCB (rIsi K) (tCons (tVar 4) (tCons (tC (.ty "bool")) tNil))) σ H2 Q := fun σ h => ⟨_, h, _, _, _, _, _, rfl, .ty _, .base (.bl _), isi_bb, q _ (s1.trans s2)⟩
  cases vl with
  | none =>
    refine ⟨_, rfl, rfl, _, rfl, ?_⟩
    refine ite2 (fun _ => ?_) (fun h => absurd (decide_eq_true rfl) h)
    exact ⟨_, rfl, iteT (fin _ rfl)⟩
  | some i =>
    obtain ⟨h1, h2⟩ := ro.vl i rfl
    refine ⟨_, rfl, rfl, _, rfl, ?_⟩
    refine ite2 (fun h => by cases of_decide_eq_true h) (fun _ => ?_)
    refine ⟨_, rfl, i, rfl, h1, h2, ?_⟩
    exact ⟨_, rfl, iteT (fin _ rfl)⟩
theorem key_lc {σ : L2.St} {z p : Wd} (h0 : σ[0]? = some (some (.str (sw p)))) (h1 : σ[1]? = some (some (.str (sw z)))) (hl : σ.length = 3) (hp : p.length ≤ 200) (hz : ∀ c ∈ p, c ∈ z) :
    tLc (iStr (tVar 0)) (gName 2) tYes (tM1 (fun x xs H Q => ∃ a b i rest, x = V.str a ∧ xs = [V.str b] ∧ Builtin.Str.occurrences a b 0 a.length 1 = i :: rest ∧ Q (V.int ↑i) H) (tVar 1) (tVar 2)) [2] σ (fun _ => none)
      fun v H' => ∃ l, v = .ref l ∧ H' l = some (.lst ((keyS z (sw p)).map V.int)) := by
  obtain ⟨v0, v1, v2, rfl⟩ : ∃ v0 v1 v2, σ = [v0, v1, v2] := by
    match σ, hl with
    | [v0, v1, v2], _ => exact ⟨v0, v1, v2, rfl⟩
  simp only [List.getElem?_cons_zero, List.getElem?_cons_succ, Option.some.injEq] at h0 h1
  subst h0
  subst h1
  refine ⟨_, rfl, _, rfl, fun D hD => ?_⟩
  refine lcF (walk_sgs p) yat (pr_sgs p) hD (fun _ _ => trivial) (by omega) (fun _ => true) (fun c => .int ((z.idxOf c : Nat) : Int)) (fun x c H' R N hc e s k1 _ => ?_) (fun H' s hl => ?_)
  · subst e
    refine ⟨rfl, yes_ite ?_⟩
    obtain ⟨rest, hr⟩ := occ_sw (hz c hc)
    exact ⟨_, rfl, ⟨_, rfl⟩, _, rfl, _, _, _, rest, rfl, rfl, hr, k1 rfl⟩
  · rw [filter_tt] at hl
    refine ⟨D, rfl, ?_⟩
    rw [hl]
    unfold keyS kW
    rw [sw_list, List.map_map]
    rfl
theorem ok_in_order (T : Tx P K mg) (B : Bx T base) : FnOk P w K mg base CX0 4 T.a_in_order T.fd_in_order ["letters", "places"] (spOrder (tabs T)) := by
  refine okT T.F_in_order sc_in_order (fun vs H Q E h => ?_) (fun cdv A outer s H vs Q E hcd hr h => ?_)
  · obtain ⟨z, d, kvs, ws, rfl, _⟩ := h
    rfl
  have hcd : cdv = .ref T.kc_in_order := hcd.symm.trans T.ec_in_order
  have hu := hu_of hr
  have hu65 := hu65_of hr
  obtain ⟨z, d, kvs, ws, rfl, hd, hk, hw, tb, q⟩ := h
  refine ⟨_, (pss_one (ps_ret (pe_sortLam (k := 0) (N := ["place", "letters", "letter"]) (fr := ["letters"]) (js := [0]) (by rfl) T.b_sorted (by decide +kernel) (pa_cons (pe_callTy (call_list_dK rfl) (by rfl) T.b_list (by decide +kernel) (pa_cons (pv 1) pa_nil)) pa_nil) B.tb_in_order hcd (mem_in_order T) (uniq_in_order T) (hr.mono (by decide)) rfl (NdefX.nscope_by (by decide +kernel)) (by kernel_rfl) rfl (fun _ _ _ _ _ _ => rfl) (fun _ _ _ _ _ _ _ hr => (pe_lc (own := [("letter", 2)]) (g := gName 2) rfl (show List.Nodup (["place", "letters", "letter"] : List Str) by decide +kernel) (pi_str (pv 0)) (blkOk_by (own := [("letter", 2)]) (N := ["place", "letters", "letter"]) (by kernel_rfl)) (fun _ _ _ _ _ => (pg_name (i := 2) (show List.Nodup (["place", "letters", "letter"] : List Str) by decide +kernel) rfl (by first | exact Or.inl rfl | exact Or.inr rfl))) (fun _ _ _ _ _ => pts_nil) (fun _ _ _ _ _ => (pe_m1 PySem.F.slot_str_index PySem.F.type_str_index mt_sindex (pv 1) (pv 2)))))))), ?_⟩
  refine ⟨_, rfl, d, kvs, rfl, hd, fun p hp => ?_⟩
  have s1 := same_upd (o := .lst (kvs.map fun kv => kV kv.1)) hp
  have sm1 := Sm.of tb s1
  refine ⟨p, ws.map sw, keyS z, rfl, ?_, sm1.2, fun y hy => ?_, fun H2 p2 ex tb2 n2 => ?_⟩
  · rw [List.map_map]
    refine SqL.of ?_
    rw [upd_same, hk]
    rfl
  · obtain ⟨x, hx, rfl⟩ := List.mem_map.mp hy
    exact key_lc rfl rfl rfl (hw x hx).1 (hw x hx).2
  · rw [sort_sw, List.map_map]
    have sm2 : Sm (tabs T) H H2 := sm1.trans ⟨ex, tb2⟩
    exact q _ p2 (sm2.new n2) upd_same
theorem ok_l_ordered (T : Tx P K mg) (B : Bx T base) : FnOk P w K mg base CX0 4 T.a_l_ordered T.fd_l_ordered ["_law_letters_here", "_law_words"] (spOrdered K (tabs T)) := by
  refine okT T.F_l_ordered sc_l_ordered (fun vs H Q E h => ?_) (fun cdv A outer s H vs Q E hcd hr h => ?_)
  · obtain ⟨z, a, ws, rfl, _⟩ := h
    rfl
  have hcd : cdv = .ref T.kc_l_ordered := hcd.symm.trans T.ec_l_ordered
  have hu := hu_of hr
  have hu65 := hu65_of hr
  obtain ⟨z, a, ws, rfl, ha, hw, tb, q⟩ := h
  refine ⟨_, (pss_one (ps_ret (pe_sortLam (k := 0) (N := ["_law_word", "_law_letters_here", "_law_sign"]) (fr := ["_law_letters_here"]) (js := [0]) (by rfl) T.b_sorted (by decide +kernel) (pa_cons (pv 1) pa_nil) B.tb_l_ordered hcd (mem_l_ordered T) (uniq_l_ordered T) (hr.mono (by decide)) rfl (NdefX.nscope_by (by decide +kernel)) (by kernel_rfl) rfl (fun _ _ _ _ _ _ => rfl) (fun _ _ _ _ _ _ _ hr => (pe_lc (own := [("_law_sign", 2)]) (g := gName 2) rfl (show List.Nodup (["_law_word", "_law_letters_here", "_law_sign"] : List Str) by decide +kernel) (pi_str (pv 0)) (blkOk_by (own := [("_law_sign", 2)]) (N := ["_law_word", "_law_letters_here", "_law_sign"]) (by kernel_rfl)) (fun _ _ _ _ _ => (pg_name (i := 2) (show List.Nodup (["_law_word", "_law_letters_here", "_law_sign"] : List Str) by decide +kernel) rfl (by first | exact Or.inl rfl | exact Or.inr rfl))) (fun _ _ _ _ _ => pts_nil) (fun _ _ _ _ _ => (pe_m1 PySem.F.slot_str_index PySem.F.type_str_index mt_sindex (pv 1) (pv 2)))))))), ?_⟩
  refine ⟨_, rfl, a, ws.map sw, keyS z, rfl, ?_, tb, fun y hy => ?_, fun H2 p2 ex tb2 n2 => ?_⟩
  · rw [List.map_map]
    exact ha
  · obtain ⟨x, hx, rfl⟩ := List.mem_map.mp hy
    exact key_lc rfl rfl rfl (hw x hx).1 (hw x hx).2
  · rw [sort_sw, List.map_map]
    have sm2 : Sm (tabs T) H H2 := ⟨ex, tb2⟩
    exact q _ p2 (sm2.new n2) upd_same
end
end Toy
set_option Elab.async false
set_option linter.all false
set_option maxRecDepth 100000
set_option maxHeartbeats 4000000
namespace Toy
open PySem L2 Sh ShL LamX NdefX
theorem nd_len {α : Type} [DecidableEq α] : ∀ {xs ys : List α}, xs.Nodup → (∀ x ∈ xs, x ∈ ys) → xs.length ≤ ys.length
  | [], _, _, _ => Nat.zero_le _
  | x :: xs, ys, nd, h => by
    rw [List.nodup_cons] at nd
    have hx := h x List.mem_cons_self
    have := nd_len (xs := xs) (ys := ys.erase x) nd.2 fun y hy => (List.mem_erase_of_ne (fun e => nd.1 (by rw [← e]; exact hy))).mpr (h y (List.mem_cons_of_mem _ hy))
    rw [List.length_erase_of_mem hx] at this
    have h2 := List.length_pos_of_mem hx
    rw [List.length_cons]
    omega
/-! ### beginnings -/
def addW (fs : List Wd) (p : Wd) : Nat → List Wd
  | 0 => fs
  | n + 1 => if p.take (n + 1) ∈ fs then fs else addW (fs ++ [p.take (n + 1)]) p n
theorem addW_succ (fs : List Wd) (p : Wd) (n : Nat) : addW fs p (n + 1) = if p.take (n + 1) ∈ fs then fs else addW (fs ++ [p.take (n + 1)]) p n := rfl
def begs (ws : List Wd) : List Wd := ws.foldl (fun fs p => addW fs p p.length) [[]]
theorem addW_nd {p : Wd} : ∀ {n : Nat} {fs : List Wd}, fs.Nodup → (addW fs p n).Nodup
  | 0, _, h => h
  | n + 1, fs, h => by
    unfold addW
    by_cases e : p.take (n + 1) ∈ fs
    · rw [if_pos e]; exact h
    · rw [if_neg e]
      refine addW_nd (List.nodup_append.mpr ⟨h, by simp, fun a ha b hb => ?_⟩)
      rw [List.mem_singleton] at hb
      rw [hb]
      exact fun z => e (by rw [← z]; exact ha)
theorem addW_sub {p q : Wd} : ∀ {n : Nat} {fs : List Wd}, q ∈ addW fs p n → q ∈ fs ∨ ∃ m, q = p.take m
  | 0, _, h => .inl h
  | n + 1, fs, h => by
    unfold addW at h
    by_cases e : p.take (n + 1) ∈ fs
    · rw [if_pos e] at h; exact .inl h
    · rw [if_neg e] at h
      rcases addW_sub h with h | h
      · rcases List.mem_append.mp h with h | h
        · exact .inl h
        · exact .inr ⟨_, List.mem_singleton.mp h⟩
      · exact .inr h
theorem addW_keep {p q : Wd} : ∀ {n : Nat} {fs : List Wd}, q ∈ fs → q ∈ addW fs p n
  | 0, _, h => h
  | n + 1, fs, h => by
    unfold addW
    by_cases e : p.take (n + 1) ∈ fs
    · rw [if_pos e]; exact h
    · rw [if_neg e]
      exact addW_keep (List.mem_append_left _ h)
theorem addW_all {p : Wd} : ∀ {n : Nat} {fs : List Wd}, n ≤ p.length → [] ∈ fs → (∀ m, m ≤ n → p.take m ∈ fs → ∀ j, j ≤ m → p.take j ∈ fs) → ∀ j, j ≤ n → p.take j ∈ addW fs p n
  | 0, fs, _, h0, _, j, hj => by
    rw [show j = 0 by omega, List.take_zero]
    exact h0
  | n + 1, fs, hn, h0, h, j, hj => by
    unfold addW
    by_cases e : p.take (n + 1) ∈ fs
    · rw [if_pos e]
      exact h (n + 1) (Nat.le_refl _) e j hj
    · rw [if_neg e]
      by_cases hj2 : j = n + 1
      · rw [hj2]
        exact addW_keep (List.mem_append_right _ List.mem_cons_self)
      · refine addW_all (by omega) (List.mem_append_left _ h0) (fun m hm hin i hi => ?_) j (by omega)
        rcases List.mem_append.mp hin with hin | hin
        · exact List.mem_append_left _ (h m (by omega) hin i hi)
        · have := congrArg List.length (List.mem_singleton.mp hin)
          rw [List.length_take, List.length_take] at this
          omega
/-- all beginnings of its members are in it -/
def Clo (fs : List Wd) : Prop := [] ∈ fs ∧ ∀ p ∈ fs, ∀ n, p.take n ∈ fs
theorem Clo.addW {fs : List Wd} (h : Clo fs) (p : Wd) : Clo (addW fs p p.length) := by
  have all := addW_all (p := p) (Nat.le_refl _) h.1 (fun m _ hin j hj => by
    have := h.2 _ hin j
    rw [List.take_take, Nat.min_eq_left hj] at this
    exact this)
  refine ⟨addW_keep h.1, fun q hq n => ?_⟩
  rcases addW_sub hq with hq | ⟨m, rfl⟩
  · exact addW_keep (h.2 _ hq n)
  · rw [List.take_take]
    by_cases hm : min n m ≤ p.length
    · exact all _ hm
    · have := all p.length (Nat.le_refl _)
      rw [List.take_of_length_le (Nat.le_refl _)] at this
      rw [List.take_of_length_le (by omega)]
      exact this
theorem addW_mem {fs : List Wd} (h : Clo fs) {p q : Wd} : q ∈ addW fs p p.length ↔ q ∈ fs ∨ ∃ m, q = p.take m := by
  refine ⟨addW_sub, fun hq => ?_⟩
  rcases hq with hq | ⟨m, rfl⟩
  · exact addW_keep hq
  · have hp : p ∈ addW fs p p.length := by
      have := addW_all (p := p) (fs := fs) (Nat.le_refl _) h.1 (fun m _ hin j hj => by
        have := h.2 _ hin j
        rw [List.take_take, Nat.min_eq_left hj] at this
        exact this) p.length (Nat.le_refl _)
      rw [List.take_of_length_le (Nat.le_refl _)] at this
      exact this
    exact (h.addW p).2 _ hp m
theorem clo0 : Clo [[]] := ⟨List.mem_cons_self, fun p hp n => by rw [List.mem_singleton.mp hp, List.take_nil]; exact List.mem_cons_self⟩
theorem begs_all (ws : List Wd) : ∀ fs, Clo fs → fs.Nodup → Clo (ws.foldl (fun fs p => addW fs p p.length) fs) ∧ (ws.foldl (fun fs p => addW fs p p.length) fs).Nodup ∧ ∀ q, q ∈ ws.foldl (fun fs p => addW fs p p.length) fs ↔ q ∈ fs ∨ ∃ p ∈ ws, ∃ m, q = p.take m := by
  induction ws with
  | nil => exact fun fs h n => ⟨h, n, fun q => by simp⟩
  | cons p ws ih =>
    intro fs h n
    obtain ⟨h1, h2, h3⟩ := ih _ (h.addW p) (addW_nd n)
    refine ⟨h1, h2, fun q => ?_⟩
    rw [List.foldl_cons, h3, addW_mem h]
    constructor
    · rintro ((h | h) | ⟨w, hw, h⟩)
      · exact .inl h
      · exact .inr ⟨p, List.mem_cons_self, h⟩
      · exact .inr ⟨w, List.mem_cons_of_mem _ hw, h⟩
    · rintro (h | ⟨w, hw, h⟩)
      · exact .inl (.inl h)
      · rcases List.mem_cons.mp hw with rfl | hw
        · exact .inl (.inr h)
        · exact .inr ⟨w, hw, h⟩
theorem begs_clo (ws : List Wd) : Clo (begs ws) := (begs_all ws _ clo0 (by simp)).1
theorem begs_nd (ws : List Wd) : (begs ws).Nodup := (begs_all ws _ clo0 (by simp)).2.1
theorem begs_mem {ws : List Wd} {q : Wd} : q ∈ begs ws ↔ q = [] ∨ ∃ p ∈ ws, ∃ m, q = p.take m := by
  have := (begs_all ws _ clo0 (by simp)).2.2 q
  rw [List.mem_singleton] at this
  exact this
theorem begs_perm {ws us : List Wd} (h : ∀ p, p ∈ ws ↔ p ∈ us) : (begs ws).Perm (begs us) := by
  rw [List.perm_ext_iff_of_nodup (begs_nd ws) (begs_nd us)]
  intro q
  rw [begs_mem, begs_mem]
  constructor
  · rintro (e | ⟨p, hp, m, e⟩)
    · exact .inl e
    · exact .inr ⟨p, (h p).mp hp, m, e⟩
  · rintro (e | ⟨p, hp, m, e⟩)
    · exact .inl e
    · exact .inr ⟨p, (h p).mpr hp, m, e⟩
/-- the words' beginnings lie in ps -/
def InPs (ps ws : List Wd) : Prop := ps.length ≤ 30000 ∧ Clo ps ∧ ∀ w ∈ ws, w ∈ ps
abbrev begK (fs : List Wd) : List (Wd × V) := fs.map fun p => (p, V.bl true)
theorem begK_fst (fs : List Wd) : (begK fs).map (·.1) = fs := by
  rw [List.map_map]
  exact List.map_id _
def spBegs (K : PySem.W.Frag) : Sp := fun vs H Q _ => ∃ a ws ps, vs = [.ref a] ∧ SqL K H a (wsV ws) ∧ InPs ps ws ∧ (∀ w ∈ ws, w.length ≤ 200) ∧ ws.length ≤ 30000 ∧
  ∀ H' b, Same H H' → H' b = some (.lst (wsV (begs ws))) → Q (.ref b) H'
def ItE (H : Hp) (v : V) (it : Wd × Int) : Prop := ∃ b, v = .ref b ∧ H b = some (.lst [.str (sw it.1), .int it.2])
theorem ItE.same {H H' : Hp} {v : V} {it : Wd × Int} (s : Same H H') (h : ItE H v it) : ItE H' v it := let ⟨b, e, h⟩ := h; ⟨b, e, s _ _ h⟩
abbrev valK (its : List (Wd × Int)) : List (Wd × V) := its.map fun it => (it.1, V.int it.2)
theorem valK_fst (its : List (Wd × Int)) : (valK its).map (·.1) = its.map (·.1) := by
  rw [List.map_map]
  rfl
def spValues : Sp := fun vs H Q _ => ∃ z a xs its, vs = [.str (sw z), .ref a] ∧ H a = some (.lst xs) ∧ Paired (ItE H) xs its ∧ (∀ it ∈ its, it.1.length ≤ 200 ∧ (∀ c ∈ it.1, c ∈ z) ∧ 1 ≤ it.2 ∧ it.2 ≤ 9) ∧ (its.map (·.1)).Nodup ∧ its.length ≤ 30000 ∧
  ∀ H' d, Same H H' → H' d = some (.dK (kdl (valK its))) → Q (.ref d) H'
theorem same_of_new {H H1 : Hp} {d : Addr} {o : HO} (s : Same H H1) (n : H d = none) : Same H (upd H1 d o) := fun b u h => by
  rw [upd_ne (ne_of_none h n)]
  exact s _ _ h
section
variable {P : Program} {w : World} {K : PySem.W.Frag} {mg : Str → Option Value} {base : Heap}
end
theorem isi2_lt {K : PySem.W.Frag} {H : Hp} {σ : L2.St} {j : Nat} {a : Addr} {xs : List V} {Q : VK} (hσ : σ[j]? = some (some (.ref a))) (ha : H a = some (.lst xs) ∨ H a = some (.tup xs)) (q : ∀ H', Same H H' → Q (.bl true) H') :
    tCB (rIsiT K) (tCons (tVar j) (tCons (tTup (tCons (tC (V.ty "list")) (tCons (tC (V.ty "tuple")) tNil))) tNil)) σ H Q := by
  refine ⟨_, hσ, by decide, fun tp htp => ?_⟩
  have s1 := same_upd (o := .tup [V.ty "list", V.ty "tuple"]) htp
  obtain ⟨t, ht, ty⟩ := lt_ty (K := K) (ha.imp (s1 _ _) (s1 _ _))
  exact ⟨_, tp, _, _, [.type "list", .type "tuple"], true, rfl, upd_same, .cons (.ty _) (.cons (.ty _) .nil), ty, kit_lt ht, q _ s1⟩
theorem kdl_app {l : List (Wd × V)} {p : Wd} {v : V} : kdl (l ++ [(p, v)]) = kdl l ++ [(.inr (sw p), v)] := by
  unfold kdl
  rw [List.map_append]
  rfl
theorem nd_take {α : Type} {xs : List α} {i : Nat} {x : α} (nd : xs.Nodup) (h : xs[i]? = some x) : x ∉ xs.take i := by
  intro hm
  obtain ⟨j, hj⟩ := List.getElem?_of_mem hm
  rw [List.getElem?_take] at hj
  by_cases hlt : j < i
  · rw [if_pos hlt] at hj
    exact absurd (nd_ix nd hj h) (by omega)
  · rw [if_neg hlt] at hj
    cases hj
end Toy
set_option Elab.async false
set_option linter.all false
set_option maxRecDepth 100000
set_option maxHeartbeats 4000000
namespace Toy
open PySem L2 Sh ShL LamX NdefX
/-! ### children -/
def kids (z : Wd) (os : List Wd) (p : Wd) : Wd := z.filter fun c => decide (p ++ [c] ∈ os)
def kidF (p q : Wd) : Option Nat := if q ≠ [] ∧ q.dropLast = p then q.getLast? else none
def kidS (qs : List Wd) (p : Wd) : Wd := qs.filterMap (kidF p)
theorem kidF_some {p q : Wd} {c : Nat} : kidF p q = some c ↔ q = p ++ [c] := by
  unfold kidF
  constructor
  · intro h
    by_cases e : q ≠ [] ∧ q.dropLast = p
    · rw [if_pos e] at h
      have e1 := List.dropLast_concat_getLast e.1
      have e2 : q.getLast? = some (q.getLast e.1) := List.getLast?_eq_some_getLast e.1
      rw [e2] at h
      have e3 := Option.some.inj h
      rw [e3, e.2] at e1
      exact e1.symm
    · rw [if_neg e] at h
      cases h
  · rintro rfl
    rw [if_pos ⟨by simp, by simp⟩]
    simp
theorem le_app {a b : Int} : ∀ {l : List Int}, l ++ [a] ≤ l ++ [b] → a ≤ b
  | [], h => by
    rcases List.cons_le_cons_iff.mp h with h | h
    · exact Int.le_of_lt h
    · exact Int.le_of_eq h.1
  | x :: l, h => by
    rcases List.cons_le_cons_iff.mp (h : x :: (l ++ [a]) ≤ x :: (l ++ [b])) with h | h
    · exact absurd h (Int.lt_irrefl _)
    · exact le_app h.2
theorem kidS_eq {z : Wd} {os : List Wd} (hz : z.Nodup) (hw : ∀ q ∈ os, ∀ c ∈ q, c ∈ z) (nd : os.Nodup) (srt : os.Pairwise fun p q => kW z p ≤ kW z q) (p : Wd) : kidS os p = kids z os p := by
  have hm : ∀ c, c ∈ kidS os p ↔ p ++ [c] ∈ os := fun c => by
    unfold kidS
    rw [List.mem_filterMap]
    constructor
    · rintro ⟨q, hq, e⟩
      rw [← kidF_some.mp e]
      exact hq
    · exact fun h => ⟨_, h, kidF_some.mpr rfl⟩
  have hk : ∀ c, c ∈ kids z os p ↔ p ++ [c] ∈ os := fun c => by
    unfold kids
    rw [List.mem_filter]
    constructor
    · exact fun h => of_decide_eq_true h.2
    · exact fun h => ⟨hw _ h c (by simp), decide_eq_true h⟩
  refine List.Perm.eq_of_pairwise (le := fun c d => z.idxOf c ≤ z.idxOf d) (fun c d hc hd h1 h2 => ?_) ?_ ?_ ?_
  · have h3 := hw _ ((hm c).mp hc) c (by simp)
    have h4 := hw _ ((hk d).mp hd) d (by simp)
    have e1 := List.getElem_idxOf (List.idxOf_lt_length_of_mem h3)
    have e2 := List.getElem_idxOf (List.idxOf_lt_length_of_mem h4)
    have e : z.idxOf c = z.idxOf d := Nat.le_antisymm h1 h2
    rw [← e1, ← e2]
    simp only [e]
  · unfold kidS
    rw [List.pairwise_filterMap]
    refine srt.imp fun {a b} h c hc d hd => ?_
    rw [kidF_some.mp hc, kidF_some.mp hd] at h
    unfold kW at h
    rw [List.map_append, List.map_append] at h
    exact Int.ofNat_le.mp (le_app h)
  · unfold kids
    refine List.Pairwise.filter _ ?_
    rw [List.pairwise_iff_getElem]
    intro i j hi hj hij
    rw [List.Nodup.idxOf_getElem hz, List.Nodup.idxOf_getElem hz]
    exact Nat.le_of_lt hij
  · refine (List.perm_ext_iff_of_nodup ?_ (show (kids z os p).Nodup from List.Pairwise.filter _ hz)).mpr fun c => (hm c).trans (hk c).symm
    · unfold kidS
      unfold List.Nodup
      rw [List.pairwise_filterMap]
      refine List.Pairwise.imp (fun {a b} h c hc d hd e => h ?_) nd
      rw [kidF_some.mp hc, kidF_some.mp hd, e]
theorem kidS_step (qs : List Wd) (q p : Wd) : kidS (qs ++ [q]) p = if q ≠ [] ∧ q.dropLast = p then kidS qs p ++ (q.getLast?).toList else kidS qs p := by
  unfold kidS
  rw [List.filterMap_append]
  by_cases h : q ≠ [] ∧ q.dropLast = p
  · rw [if_pos h]
    have e : kidF p q = q.getLast? := by unfold kidF; rw [if_pos h]
    cases e2 : q.getLast? with
    | none => rw [e2] at e; simp [e]
    | some c => rw [e2] at e; simp [e]
  · rw [if_neg h]
    have e : kidF p q = none := by unfold kidF; rw [if_neg h]
    simp [e]
theorem kidS_len (qs : List Wd) (p : Wd) : (kidS qs p).length ≤ qs.length := List.length_filterMap_le _ _
/-! ### the tree -/
def treeFs (z : Wd) (t d e : Addr) (n m : Int) : List (Str × V) :=
  putF "ways" (.ref e) (putF "triples" (.ref d) (putF "height" (.int m) (putF "size" (.int n) (putF "rows" (.ref t) (putF "letters" (.str (sw z)) [])))))
section
variable {z : Wd} {t d e : Addr} {n m : Int}
theorem tf_letters : List.lookup ("letters" : Str) (treeFs z t d e n m) = some (V.str (sw z)) := by
  unfold treeFs
  rw [lookup_putF, if_neg (by decide +kernel), lookup_putF, if_neg (by decide +kernel), lookup_putF, if_neg (by decide +kernel), lookup_putF, if_neg (by decide +kernel), lookup_putF, if_neg (by decide +kernel), lookup_putF, if_pos rfl]
theorem tf_rows : List.lookup ("rows" : Str) (treeFs z t d e n m) = some (V.ref t) := by
  unfold treeFs
  rw [lookup_putF, if_neg (by decide +kernel), lookup_putF, if_neg (by decide +kernel), lookup_putF, if_neg (by decide +kernel), lookup_putF, if_neg (by decide +kernel), lookup_putF, if_pos rfl]
theorem tf_size : List.lookup ("size" : Str) (treeFs z t d e n m) = some (V.int n) := by
  unfold treeFs
  rw [lookup_putF, if_neg (by decide +kernel), lookup_putF, if_neg (by decide +kernel), lookup_putF, if_neg (by decide +kernel), lookup_putF, if_pos rfl]
theorem tf_height : List.lookup ("height" : Str) (treeFs z t d e n m) = some (V.int m) := by
  unfold treeFs
  rw [lookup_putF, if_neg (by decide +kernel), lookup_putF, if_neg (by decide +kernel), lookup_putF, if_pos rfl]
theorem tf_triples : List.lookup ("triples" : Str) (treeFs z t d e n m) = some (V.ref d) := by
  unfold treeFs
  rw [lookup_putF, if_neg (by decide +kernel), lookup_putF, if_pos rfl]
theorem tf_ways : List.lookup ("ways" : Str) (treeFs z t d e n m) = some (V.ref e) := by
  unfold treeFs
  rw [lookup_putF, if_pos rfl]
theorem tf_no {x : Str} (h : ¬ x = ("letters" : Str) ∧ ¬ x = ("rows" : Str) ∧ ¬ x = ("size" : Str) ∧ ¬ x = ("height" : Str) ∧ ¬ x = ("triples" : Str) ∧ ¬ x = ("ways" : Str)) : List.lookup x (treeFs z t d e n m) = none := by
  obtain ⟨h1, h2, h3, h4, h5, h6⟩ := h
  unfold treeFs
  rw [lookup_putF, if_neg h6, lookup_putF, if_neg h5, lookup_putF, if_neg h4, lookup_putF, if_neg h3, lookup_putF, if_neg h2, lookup_putF, if_neg h1]
  rfl
end
/-- the dict of triples: us in any order -/
def TriAt (H : Hp) (d : Addr) (us : List Rw) : Prop := ∃ l, H d = some (.dK (kdl l)) ∧ Paired (fun (q : Wd × V) r => q.1 = r.1 ∧ RwT H q.2 r) l us
abbrev wayl (z : Wd) (os : List Wd) : List (Wd × V) := os.map fun p => (p, V.str (sw (kids z os p)))
theorem wayl_fst (z : Wd) (os : List Wd) : (wayl z os).map (·.1) = os := by
  rw [List.map_map]
  exact List.map_id _
structure TreeAt (C : Addr) (H : Hp) (o : Addr) (z : Wd) (rs : List Rw) : Prop where
  root : [] ∈ rs.map (·.1)
  low : ∀ r ∈ rs, ∀ c ∈ r.1, c < 200
  ex : ∃ (dx t d e : Addr) (m : Int) (vs : List V) (us : List Rw), H o = some (.ins C dx (treeFs z t d e (rs.length : Int) m)) ∧ H t = some (.tup vs) ∧ Paired (RwT H) vs rs ∧ TriAt H d us ∧ us.Perm rs ∧
    H e = some (.dK (kdl (wayl z (rs.map (·.1))))) ∧ m ∈ rs.map (fun r => (r.1.length : Int)) ∧ ∀ y ∈ rs.map (fun r => (r.1.length : Int)), y ≤ m
theorem tri_fst {H : Hp} : ∀ {l : List (Wd × V)} {us : List Rw}, Paired (fun (q : Wd × V) r => q.1 = r.1 ∧ RwT H q.2 r) l us → l.map (·.1) = us.map (·.1)
  | _, _, .nil => rfl
  | _, _, .cons h t => by rw [List.map_cons, List.map_cons, h.1, tri_fst t]
theorem tri_mono {H H' : Hp} {d : Addr} {us : List Rw} (hr : [] ∈ us.map (·.1)) (hd : ∀ l, [] ∈ l.map (·.1) → H d = some (.dK (kdl l)) → H' d = some (.dK (kdl l))) (f : ∀ v r, RwT H v r → RwT H' v r) (h : TriAt H d us) : TriAt H' d us :=
  let ⟨l, h1, h2⟩ := h; ⟨l, hd _ (by rw [tri_fst h2]; exact hr) h1, paired_mono (fun a b q => ⟨q.1, f _ _ q.2⟩) h2⟩
/-- a tree stands where instances, tuples and dicts with a root stand -/
theorem TreeAt.mono {C : Addr} {H H' : Hp} {o : Addr} {z : Wd} {rs : List Rw} (h : TreeAt C H o z rs) (k1 : ∀ b C dx fs, H b = some (.ins C dx fs) → H' b = some (.ins C dx fs)) (k2 : ∀ b xs, H b = some (.tup xs) → H' b = some (.tup xs))
    (k3 : ∀ b l, [] ∈ l.map (·.1) → H b = some (.dK (kdl l)) → H' b = some (.dK (kdl l))) : TreeAt C H' o z rs := by
  obtain ⟨dx, t, d, e, m, vs, us, h1, h2, h3, h4, h5, h6, h7⟩ := h.ex
  have f : ∀ v r, RwT H v r → RwT H' v r := fun v r ⟨a, e, q⟩ => ⟨a, e, k2 _ _ q⟩
  exact ⟨h.root, h.low, dx, t, d, e, m, vs, us, k1 _ _ _ _ h1, k2 _ _ h2, paired_mono f h3, tri_mono ((h5.map _).mem_iff.mpr h.root) (k3 d) f h4, h5, k3 _ _ (by rw [wayl_fst]; exact h.root) h6, h7⟩
theorem TreeAt.sm {T : List (Addr × Str)} {C : Addr} {H H' : Hp} {o : Addr} {z : Wd} {rs : List Rw} (h : TreeAt C H o z rs) (s : Sm T H H') : TreeAt C H' o z rs :=
  h.mono (fun _ _ _ _ q => s.get q) (fun _ _ q => s.get q) fun _ _ _ q => s.get q
theorem TreeAt.same {C : Addr} {H H' : Hp} {o : Addr} {z : Wd} {rs : List Rw} (h : TreeAt C H o z rs) (s : Same H H') : TreeAt C H' o z rs :=
  h.mono (fun _ _ _ _ q => s _ _ q) (fun _ _ q => s _ _ q) fun _ _ _ q => s _ _ q
/-- the pen's dict is none whose keys are places -/
theorem pen_kdl {c : Addr} {b l : Int} {k : List (Wd × V)} (hk : [] ∈ k.map (·.1)) : penL c b l ≠ kdl k := by
  intro h
  have h1 : (Sum.inr (sw []) : Key) ∈ (kdl k).map (·.1) := by
    obtain ⟨q, hq, e⟩ := List.mem_map.mp hk
    rw [← e]
    exact List.mem_map.mpr ⟨(.inr (sw q.1), q.2), List.mem_map.mpr ⟨q, hq, rfl⟩, rfl⟩
  rw [← h] at h1
  have h2 : (Sum.inr (sw []) : Key) ∈ [(Sum.inr ("cells" : Str) : Key), .inr "opened", .inr "left"] := h1
  have h3 : ¬ (sw [] = ("cells" : Str)) ∧ ¬ (sw [] = ("opened" : Str)) ∧ ¬ (sw [] = ("left" : Str)) := by decide +kernel
  rcases List.mem_cons.mp h2 with e | h2
  · exact h3.1 (Sum.inr.inj e)
  rcases List.mem_cons.mp h2 with e | h2
  · exact h3.2.1 (Sum.inr.inj e)
  exact h3.2.2 (Sum.inr.inj (List.mem_singleton.mp h2))
theorem TreeAt.kp {C : Addr} {H H' : Hp} {o d c : Addr} {n : Nat} {z : Wd} {rs : List Rw} (h : TreeAt C H o z rs) (hp : Pen H d c n) (s : Kp d H H') : TreeAt C H' o z rs := by
  obtain ⟨ns, b, l, hd, _⟩ := hp
  refine h.mono (fun _ _ _ _ q => s _ _ q (ne_of q hd (by intro z; cases z))) (fun _ _ q => s _ _ q (ne_of q hd (by intro z; cases z))) fun _ k hk q => s _ _ q (ne_of q hd fun z => pen_kdl hk (HO.dK.inj z).symm)
end Toy
set_option Elab.async false
set_option linter.all false
set_option maxRecDepth 100000
set_option maxHeartbeats 4000000
namespace Toy
open PySem L2 Sh ShL LamX NdefX
/-! ### heaps: all stands but tables and one object -/
def SmK (T : List (Addr × Str)) (o : Addr) (H H' : Hp) : Prop := (∀ b u, H b = some u → (∀ ps, u ≠ .tbl ps) → b ≠ o → H' b = some u) ∧ Tabs T H'
/-- e is none of the old ones -/
def Fr (o : Addr) (H : Hp) (e : Addr) : Prop := ∀ b u, H b = some u → (∀ ps, u ≠ .tbl ps) → b ≠ o → b ≠ e
theorem tabs_put {T : List (Addr × Str)} {H : Hp} {d : Addr} {u v : HO} (t : Tabs T H) (hd : H d = some u) (nt : ∀ ps, u ≠ .tbl ps) (nc : ∀ c q, u ≠ CodeO c q) : Tabs T (upd H d v) := fun p hp => by
  obtain ⟨ps, h1, h2, h3⟩ := t p hp
  refine ⟨ps, by rw [upd_ne (ne_of h1 hd fun z => nt _ z.symm)]; exact h1, h2, fun pos cv hc => ?_⟩
  obtain ⟨c, e1, e2⟩ := h3 pos cv hc
  exact ⟨c, e1, by rw [upd_ne (ne_of e2 hd fun z => nc _ _ z.symm)]; exact e2⟩
section
variable {T : List (Addr × Str)} {o e : Addr} {H H1 H2 : Hp}
theorem SmK.of (s : Sm T H H1) : SmK T o H H1 := ⟨fun b u h n _ => s.get h n, s.2⟩
theorem SmK.sm (k : SmK T o H H1) (s : Sm T H1 H2) : SmK T o H H2 := ⟨fun b u h n ne => s.get (k.1 b u h n ne) n, s.2⟩
theorem SmK.same (k : SmK T o H H1) (s : Same H1 H2) : SmK T o H H2 := k.sm (Sm.of k.2 s)
theorem SmK.fresh (k : SmK T o H H1) (n : H1 e = none) : Fr o H e := fun b u h nt ne => ne_of_none (k.1 b u h nt ne) n
theorem SmK.putD {kvs kvs' : List (Key × V)} (k : SmK T o H H1) (f : Fr o H e) (h : H1 e = some (.dK kvs)) : SmK T o H (upd H1 e (.dK kvs')) :=
  ⟨fun b u hb nt ne => by rw [upd_ne (f b u hb nt ne)]; exact k.1 b u hb nt ne, tabs_put k.2 h (by intro ps z; cases z) (by intro c q z; unfold CodeO at z; cases z)⟩
theorem SmK.putO {C dx : Addr} {fs fs' : List (Str × V)} (k : SmK T o H H1) (h : H1 o = some (.ins C dx fs)) : SmK T o H (upd H1 o (.ins C dx fs')) :=
  ⟨fun b u hb nt ne => by rw [upd_ne ne]; exact k.1 b u hb nt ne, tabs_put k.2 h (by intro ps z; cases z) (by intro c q z; unfold CodeO at z; cases z)⟩
end
theorem unlock {H : Hp} {e : Addr} {u v : HO} (h : H e = some u) : Same H (upd (upd H e v) e u) := fun b x hb => by
  by_cases z : b = e
  · rw [z, upd_same, ← h, ← z]; exact hb
  · rw [upd_ne z, upd_ne z]; exact hb
theorem walk_wkeys {e : Addr} {od : Obj} (l : List (Wd × V)) : Walk (Itk e od (kdl l)) (wsV (l.map (·.1))).length (fun H => H e = some (.frz od (.dK (kdl l)))) (YAt (wsV (l.map (·.1)))) := by
  have := walk_keys (d := e) (o := od) (kvs := kdl l)
  rw [show (kdl l).length = (wsV (l.map (·.1))).length by rw [kdl_len, List.length_map, List.length_map]] at this
  refine this.mono (fun _ h => h) fun i H x H' hi _ ⟨e1, k, v, h1, h2⟩ => ⟨e1, ?_⟩
  unfold kdl at h1
  rw [List.getElem?_map] at h1
  obtain ⟨q, hq, e2⟩ := Option.map_eq_some_iff.mp h1
  cases e2
  rw [List.getElem?_map, List.getElem?_map, hq, h2]
  rfl
/-- [f(p) for p in dict] -/
theorem lc_lock {H : Hp} {e : Addr} {l : List (Wd × V)} {k j : Nat} {te : TE} {σ : L2.St} {Q : VK} (he : H e = some (.dK (kdl l))) (hσ : σ[k]? = some (some (.ref e))) (hl : l.length ≤ 40000) (f : Wd → V)
    (hw : ∀ x, wipe ((wipe σ [j]).set j x) [j] = wipe σ [j])
    (hs : ∀ p ∈ l.map (·.1), ∀ H' (R : VK), (∀ b u, H b = some u → b ≠ e → H' b = some u) → R (f p) H' → te ((wipe σ [j]).set j (some (.str (sw p)))) H' R)
    (q : ∀ H' D, Same H H' → H D = none → H' D = some (.lst ((l.map (·.1)).map f)) → Q (.ref D) H') : tLockE (tLc (iKeys (tVar k)) (gName j) tYes te [j]) σ H Q := by
  refine ⟨e, _, he, trivial, fun od => ?_⟩
  refine ⟨_, hσ, e, od, rfl, .inl ⟨_, upd_same, fun D hD => ?_⟩⟩
  have hDe : D ≠ e := fun z => by rw [z, upd_same] at hD; cases hD
  have hD0 : H D = none := by rw [upd_ne hDe] at hD; exact hD
  refine lcF (walk_wkeys l) yat (paired_self (l.map (·.1))) hD (fun H' s => s _ _ upd_same) (by rw [List.length_map]; exact hl) (fun _ => true) f (fun x p H' R N hp ex s k1 _ => ?_) (fun H' s hD2 => ?_)
  · subst ex
    refine ⟨hw _, yes_ite ?_⟩
    exact hs p hp H' R (fun b u hb ne => s _ _ (by rw [upd_ne ne]; exact hb)) (k1 rfl)
  · rw [filter_tt] at hD2
    refine ⟨s _ _ upd_same, q _ D (fun b u hb => ?_) hD0 ?_⟩
    · by_cases z : b = e
      · rw [z, upd_same, ← he, ← z]; exact hb
      · rw [upd_ne z]; exact s _ _ (by rw [upd_ne z]; exact hb)
    · rw [upd_ne hDe]; exact hD2
structure GoodUs (z : Wd) (us : List Rw) : Prop where
  ok : ∀ r ∈ us, RwOk z r
  nd : (us.map (·.1)).Nodup
  root : [] ∈ us.map (·.1)
  par : ∀ p ∈ us.map (·.1), p.dropLast ∈ us.map (·.1)
  len : us.length ≤ 2000
def spInit (T : List (Addr × Str)) (C : Addr) : Sp := fun vs H Q _ => ∃ (o dx a : Addr) (z : Wd) (xs : List V) (us rs : List Rw), vs = [.ref o, .str (sw z), .ref a] ∧ H o = some (.ins C dx []) ∧ LetOk z ∧ H a = some (.lst xs) ∧ Paired (RwE H) xs us ∧ GoodUs z us ∧
  us.Perm rs ∧ rs.map (·.1) = ordW z (us.map (·.1)) ∧ Tabs T H ∧ ∀ H', SmK T o H H' → TreeAt C H' o z rs → Q .non H'
theorem tri_get {H : Hp} : ∀ {l : List (Wd × V)} {us : List Rw} {r : Rw}, Paired (fun (q : Wd × V) r => q.1 = r.1 ∧ RwT H q.2 r) l us → r ∈ us → ∃ v, (r.1, v) ∈ l ∧ RwT H v r
  | _, _, r, .cons (a := q) h t, m => by
    rcases List.mem_cons.mp m with rfl | m
    · exact ⟨q.2, by rw [← h.1]; exact List.mem_cons_self, h.2⟩
    · obtain ⟨v, h1, h2⟩ := tri_get t m
      exact ⟨v, List.mem_cons_of_mem _ h1, h2⟩
end Toy
set_option Elab.async false
set_option linter.all false
set_option maxRecDepth 100000
set_option maxHeartbeats 4000000
namespace Toy
open PySem L2 Sh ShL LamX NdefX
theorem kd_map (os : List Wd) (f : Wd → V) : (os.map fun p => (p, f p)).map (·.1) = os := by
  rw [List.map_map]
  exact List.map_id _
theorem kdl_keys (l : List (Wd × V)) : (kdl l).map (fun kv => kV kv.1) = wsV (l.map (·.1)) := by
  unfold kdl
  show _ = (l.map (·.1)).map _
  rw [List.map_map, List.map_map]
  rfl
theorem way_put {os : List Wd} {q : Wd} {f g : Wd → V} {v : V} (h : q ∈ os) (hg : ∀ p, g p = if p = q then v else f p) : putK (kdl (os.map fun p => (p, f p))) (.inr (sw q)) v = kdl (os.map fun p => (p, g p)) := by
  rw [kdl_old v (by rw [kd_map]; exact h), List.map_map]
  congr 1
  refine List.map_congr_left fun p _ => ?_
  show (if p = q then (p, v) else (p, f p)) = (p, g p)
  rw [hg]
  by_cases e : p = q
  · rw [if_pos e, if_pos e]
  · rw [if_neg e, if_neg e]
theorem small_lt {c : Nat} (h : c ∈ small) : c < 200 := by
  revert c
  decide +kernel
abbrev TriP (H : Hp) : Wd × V → Rw → Prop := fun q r => q.1 = r.1 ∧ RwT H q.2 r
theorem triP_same {H H' : Hp} {l : List (Wd × V)} {us : List Rw} (s : Same H H') (h : Paired (TriP H) l us) : Paired (TriP H') l us := paired_mono (fun _ _ h => ⟨h.1, h.2.same s⟩) h
structure Bnd (T : List (Addr × Str)) (C o dx d e : Addr) (l : List (Wd × V)) (us : List Rw) (el : List (Wd × V)) (H0 : Hp) (fs : List (Str × V)) (H : Hp) : Prop where
  smk : SmK T o H0 H
  ins : H o = some (.ins C dx fs)
  dd : H d = some (.dK (kdl l))
  tri : Paired (TriP H) l us
  ee : H e = some (.dK (kdl el))
section
variable {T : List (Addr × Str)} {C o dx d e : Addr} {l : List (Wd × V)} {us : List Rw} {el : List (Wd × V)} {H0 H H' : Hp} {fs : List (Str × V)}
theorem Bnd.same (b : Bnd T C o dx d e l us el H0 fs H) (s : Same H H') : Bnd T C o dx d e l us el H0 fs H' := ⟨b.smk.same s, s _ _ b.ins, s _ _ b.dd, triP_same s b.tri, s _ _ b.ee⟩
theorem Bnd.put (b : Bnd T C o dx d e l us el H0 fs H) (fs' : List (Str × V)) : Bnd T C o dx d e l us el H0 fs' (upd H o (.ins C dx fs')) :=
  ⟨b.smk.putO b.ins, upd_same, by rw [upd_ne (ne_of b.dd b.ins (by intro z; cases z))]; exact b.dd,
   paired_mono (fun q r ⟨h, a, e1, h2⟩ => ⟨h, a, e1, by rw [upd_ne (ne_of h2 b.ins (by intro z; cases z))]; exact h2⟩) b.tri, by rw [upd_ne (ne_of b.ee b.ins (by intro z; cases z))]; exact b.ee⟩
theorem Bnd.putE (b : Bnd T C o dx d e l us el H0 fs H) (f : Fr o H0 e) (nd : d ≠ e) (el' : List (Wd × V)) : Bnd T C o dx d e l us el' H0 fs (upd H e (.dK (kdl el'))) :=
  ⟨b.smk.putD f b.ee, by rw [upd_ne (ne_of b.ins b.ee (by intro z; cases z))]; exact b.ins, by rw [upd_ne nd]; exact b.dd,
   paired_mono (fun q r ⟨h, a, e1, h2⟩ => ⟨h, a, e1, by rw [upd_ne (ne_of h2 b.ee (by intro z; cases z))]; exact h2⟩) b.tri, upd_same⟩
/-- the rows in their order -/
theorem rows_pr {f : Wd → V} : ∀ {rs : List Rw}, (∀ r ∈ rs, RwT H (f r.1) r) → Paired (RwT H) ((rs.map (·.1)).map f) rs
  | [], _ => .nil
  | r :: rs, h => .cons (h r List.mem_cons_self) (rows_pr fun x hx => h x (List.mem_cons_of_mem _ hx))
end
section
variable {P : Program} {w : World} {K : PySem.W.Frag} {mg : Str → Option Value} {base : Heap}
theorem ok_Tree_init (T : Tx P K mg) (B : Bx T base) : FnOk P w K mg base CX0 5 T.a_Tree_init T.fd_Tree_init ["self", "letters", "rows"] (spInit (tabs T) T.c_Tree) := by
  refine okT T.F_Tree_init sc_Tree_init (fun vs H Q E h => ?_) (fun cdv A outer s H vs Q E hcd hr h => ?_)
  · obtain ⟨o, dx, a, z, xs, us, rs, rfl, _⟩ := h
    rfl
  have hu := hu_of hr
  have hu65 := hu65_of hr
  obtain ⟨o, dx, a, z, xs, us, rs, rfl, ho, hz, ha, pr, gu, pm, od, tb, q⟩ := h
  have hxl : xs.length = us.length := pr.length
  have hu1 : 1 ≤ us.length := by
    obtain ⟨r, hr, _⟩ := List.mem_map.mp gu.root
    exact List.length_pos_of_mem hr
  have hul := gu.len
  refine ⟨_, (pss_cons (ps_if (pt_not (pt_val (pe_call (ok_is_letters T B) (hr.mono (by decide)) (by rfl) T.m_is_letters T.F_is_letters.kp T.bi_is_letters .nil pass0 (pa_cons (pv 1) pa_nil))))
 (pss_one ps_never)
 pss_nil)
 (pss_cons (ps_if (pt_not (pt_chain op_le op_le pe_int (pe_callB call_len_seq (by rfl) T.b_len (by decide +kernel) (pa_cons (pv 2) pa_nil)) (pe_glob (v := .int 2000) (by rfl) T.m_MOST_PLACES.choose_spec ⟨_, rfl⟩)))
 (pss_one ps_never)
 pss_nil)
 (pss_cons (ps_set (i := 3) sc_Tree_init.nd rfl (by first | exact Or.inl rfl | exact Or.inr rfl) pe_dnewK)
 (pss_cons (ps_for PassesOwn.never rfl (pi_enum (by rfl) T.b_enumerate (pa_cons (pv 2) pa_nil)) (pg_tup rfl (pgs_cons (pg_name (i := 4) sc_Tree_init.nd rfl (by first | exact Or.inl rfl | exact Or.inr rfl)) (pgs_cons (pg_name (i := 5) sc_Tree_init.nd rfl (by first | exact Or.inl rfl | exact Or.inr rfl)) pgs_nil)))
 (pss_cons (ps_if (PW.pt (pw_or (pt_not (pt_val (pe_call (ok_is_row T B) (hr.mono (by decide)) (by rfl) T.m_is_row T.F_is_row.kp T.bi_is_row .nil pass0 (pa_cons (pv 1) (pa_cons (pv 5) pa_nil))))) (pw_or1 (pt_cmp (pc_din hu (pe_alt (pe_ix ix_list (pv 5) pe_int (fun _ _ => rfl)) (pe_ix ix_tup (pv 5) pe_int (fun _ _ => rfl))) (pv 3))))))
 (pss_one ps_never)
 pss_nil)
 (pss_one (ps_dput hu (pv 3) (pe_alt (pe_ix ix_list (pv 5) pe_int (fun _ _ => rfl)) (pe_ix ix_tup (pv 5) pe_int (fun _ _ => rfl))) (pe_tup (pa_cons (pe_alt (pe_ix ix_list (pv 5) pe_int (fun _ _ => rfl)) (pe_ix ix_tup (pv 5) pe_int (fun _ _ => rfl))) (pa_cons (pe_alt (pe_ix ix_list (pv 5) pe_int (fun _ _ => rfl)) (pe_ix ix_tup (pv 5) pe_int (fun _ _ => rfl))) (pa_cons (pe_alt (pe_ix ix_list (pv 5) pe_int (fun _ _ => rfl)) (pe_ix ix_tup (pv 5) pe_int (fun _ _ => rfl))) pa_nil)))) rfl))))
 (pss_cons (ps_setDc (i := 6) (own := [("place", 7)]) (g := gName 7) rfl sc_Tree_init.nd rfl rfl (sw_trueD rfl rfl rfl (by decide +kernel)) (pi_list (pe_call (ok_in_order T B) (hr.mono (by decide)) (by rfl) T.m_in_order T.F_in_order.kp T.bi_in_order .nil pass0 (pa_cons (pv 1) (pa_cons (pv 3) pa_nil)))) (blkOk_by (own := [("place", 7)]) (N := N_Tree_init) (sc := defScope s_Tree_init) (by decide +kernel)) (fun _ _ _ _ _ => (pg_name (i := 7) sc_Tree_init.nd rfl (by first | exact Or.inl rfl | exact Or.inr rfl))) (fun _ _ _ _ _ => pts_nil) (fun _ _ _ _ _ => (pv 7)) (fun _ _ _ _ _ => pe_str))
 (pss_cons (ps_lock (ps_for PassesOwn.never rfl (pi_keys (pv 6)) (pg_name (i := 7) sc_Tree_init.nd rfl (by first | exact Or.inl rfl | exact Or.inr rfl))
 (pss_one (ps_if (PW.pt (pw_and (pt_cmpR op_ne (pv 7) pe_str (nomark _)) (pw_and1 (pt_cmp (pc_dnotin hu (pe_slice sl_str (pv 7) po_none (po_some (pe_un un_neg pe_int))) (pv 3))))))
 (pss_one ps_never)
 pss_nil))))
 (pss_cons (ps_for PassesOwn.never rfl (pi_list (pe_callTy (call_list_dK rfl) (by rfl) T.b_list (by decide +kernel) (pa_cons (pv 6) pa_nil))) (pg_name (i := 7) sc_Tree_init.nd rfl (by first | exact Or.inl rfl | exact Or.inr rfl))
 (pss_one (ps_if (pt_cmpR op_ne (pv 7) pe_str (nomark _))
 (pss_one (ps_daug hu (pv 6) (pe_slice sl_str (pv 7) po_none (po_some (pe_un un_neg pe_int))) (pe_ix ix_str (pv 7) (pe_un un_neg pe_int) (fun _ _ => rfl)) in_addS (fun _ _ _ => rfl)))
 pss_nil)))
 (pss_cons (ps_fld (pv 0) (pv 1) rfl)
 (pss_cons (ps_fld (pv 0) (pe_callTy call_tuple_of (by rfl) T.b_tuple (by decide +kernel) (pa_cons (pe_lock (pe_lc (own := [("place", 7)]) (g := gName 7) rfl sc_Tree_init.nd (pi_keys (pv 6)) (blkOk_by (own := [("place", 7)]) (N := N_Tree_init) (sc := defScope s_Tree_init) (by decide +kernel)) (fun _ _ _ _ _ => (pg_name (i := 7) sc_Tree_init.nd rfl (by first | exact Or.inl rfl | exact Or.inr rfl))) (fun _ _ _ _ _ => pts_nil) (fun _ _ _ _ _ => (pe_dget hu (pv 3) (pv 7) (fun _ _ => rfl))))) pa_nil)) rfl)
 (pss_cons (ps_fld (pv 0) (pe_callB call_len_seq (by rfl) T.b_len (by decide +kernel) (pa_cons (pv 2) pa_nil)) rfl)
 (pss_cons (ps_fld (pv 0) (pe_callB (cr_max rfl) (by rfl) T.b_max (by decide +kernel) (pa_cons (pe_lock (pe_lc (own := [("place", 7)]) (g := gName 7) rfl sc_Tree_init.nd (pi_keys (pv 6)) (blkOk_by (own := [("place", 7)]) (N := N_Tree_init) (sc := defScope s_Tree_init) (by decide +kernel)) (fun _ _ _ _ _ => (pg_name (i := 7) sc_Tree_init.nd rfl (by first | exact Or.inl rfl | exact Or.inr rfl))) (fun _ _ _ _ _ => pts_nil) (fun _ _ _ _ _ => (pe_callB call_len_str (by rfl) T.b_len (by decide +kernel) (pa_cons (pv 7) pa_nil))))) pa_nil)) rfl)
 (pss_cons (ps_fld (pv 0) (pv 3) rfl)
 (pss_one (ps_fld (pv 0) (pv 6) rfl)))))))))))))), ?_⟩
  refine ⟨_, rfl, z, rfl, hz, fun H1 s1 => ⟨_, rfl, iteF ?_⟩⟩
  have ha1 := s1 _ _ ha
  refine ⟨_, rfl, a, xs, rfl, .inl (SqL.of ha1), _, _, rfl, rfl, _, rfl, ?_⟩
  rw [decide_eq_true (show (1 : Int) ≤ (xs.length : Int) by omega)]
  refine iteT ?_
  refine ⟨_, _, rfl, rfl, _, rfl, ?_⟩
  rw [decide_eq_true (show (xs.length : Int) ≤ 2000 by omega)]
  refine iteF ?_
  intro d hd
  have s2 := s1.trans (same_upd (o := .dK []) hd)
  have hd0 : (upd H1 d (.dK [])) d = some (.dK (kdl [])) := upd_same
  have dn : H d = none := by
    cases e : H d with
    | none => rfl
    | some u => rw [s1 _ _ e] at hd; cases hd
  generalize upd H1 d (.dK []) = H2 at s2 hd0
  refine ⟨_, rfl, a, xs, rfl, SqL.of (s2 _ _ ha), ?_⟩
  refine for_enum (K := K) (a := a) (xs := xs) (fun i σ H3 => ∃ v4 v5 l, σ = [some (.ref o), some (.str (sw z)), some (.ref a), some (.ref d), v4, v5, none, none] ∧ Same H H3 ∧ H3 d = some (.dK (kdl l)) ∧ Paired (TriP H3) l (us.take i))
    ⟨_, _, [], rfl, s2, hd0, by rw [List.take_zero]; exact .nil⟩ (fun i σ H3 _ ⟨_, _, _, _, s, _⟩ => SqL.of (s _ _ ha)) (fun i x σ H3 U hx hU ⟨v4, v5, l, e, s, hd3, pl⟩ => ?_) (fun σ H3 ⟨v4, v5, l, e, s, hd3, pl⟩ => ?_)
  · subst e
    obtain ⟨r, hr2, hrE⟩ := paired_ix pr hx
    have rok := gu.ok r (List.mem_of_getElem? hr2)
    have sU := same_upd (o := .tup [.int (i : Nat), x]) hU
    have hE := hrE.same (s.trans sU)
    obtain ⟨b, rfl, hb⟩ := hE
    refine ⟨U, _, rfl, SqT.of upd_same, rfl, _, _, rfl, _, _, rfl, rfl, ?_⟩
    have pl3 := triP_same sU pl
    have hd4 := sU _ _ hd3
    have s4 := s.trans sU
    generalize upd H3 U (.tup [.int (i : Nat), .ref b]) = H4 at hb s4 pl3 hd4
    refine ⟨_, rfl, _, rfl, z, .ref b, r, rfl, ⟨b, rfl, hb⟩, rok, fun H5 s5 => ⟨_, rfl, iteF ?_⟩⟩
    have hb5 := hb.imp (s5 _ _) (s5 _ _)
    have hd5 := s5 _ _ hd4
    have ix : ∀ (j : Nat) (v : V) (H' : Hp) (σ : L2.St) (Q : VK), σ[5]? = some (some (.ref b)) → (H' b = some (.lst (rwVs r)) ∨ H' b = some (.tup (rwVs r))) → (rwVs r)[j]? = some v → Q v H' → tAlt (tOp (rIxL K) (tVar 5) (tC (.int (j : Int)))) (tOp (rIxT K) (tVar 5) (tC (.int (j : Int)))) σ H' Q := fun j v H' σ Q e hb hv q =>
      hb.elim (fun hb => .inl ⟨_, e, b, _, _, _, rfl, rfl, SqL.of hb, atI_nat hv, q⟩) fun hb => .inr ⟨_, e, b, _, _, _, rfl, rfl, SqT.of hb, atI_nat hv, q⟩
    have hfst : (us.map (·.1))[i]? = some r.1 := by rw [List.getElem?_map, hr2]; rfl
    have hnew : r.1 ∉ l.map (·.1) := by
      rw [tri_fst pl, List.map_take]
      exact nd_take gu.nd hfst
    refine ix 0 (.str (sw r.1)) _ _ _ rfl hb5 rfl ?_
    refine ⟨_, rfl, d, valV (kdl l) (.inr (sw r.1)), rfl, dget_kdl hd5 r.1, _, rfl, ?_⟩
    rw [kdl_none hnew]
    refine iteF ?_
    refine ix 0 (.str (sw r.1)) _ _ _ rfl hb5 rfl ?_
    refine ix 1 (oV r.2.1) _ _ _ rfl hb5 rfl ?_
    refine ix 2 (.bl r.2.2) _ _ _ rfl hb5 rfl ?_
    refine ⟨by show 3 ≤ sizeLine; decide, fun p hp => ?_⟩
    have s6 := same_upd (o := .tup (rwVs r)) hp
    have hp6 : (upd H5 p (.tup (rwVs r))) p = some (.tup (rwVs r)) := upd_same
    have hb6 := hb5.imp (s6 _ _) (s6 _ _)
    have hd6 := s6 _ _ hd5
    have pl6 := triP_same (s5.trans s6) pl3
    have s7 := (s4.trans s5).trans s6
    refine ⟨_, rfl, ?_⟩
    refine ix 0 (.str (sw r.1)) _ _ _ rfl hb6 rfl ?_
    have hll : l.length = i := by
      have := pl.length
      rw [List.length_take] at this
      have h1 := (List.getElem?_eq_some_iff.mp hr2).1
      omega
    have hil := (List.getElem?_eq_some_iff.mp hr2).1
    refine ⟨d, _, rfl, dput_kdl hd6 r.1 _ (by omega), ?_⟩
    refine ⟨_, _, l ++ [(r.1, .ref p)], rfl, same_of_new s7 dn, ?_, ?_⟩
    · rw [upd_same, kdl_new _ hnew]
    · rw [List.take_add_one, hr2]
      refine paired_app (paired_mono (fun q r h => ⟨h.1, h.2.kp hd6 kp_put⟩) pl6) (.cons ⟨rfl, p, rfl, ?_⟩ .nil)
      rw [upd_ne (ne_of hp6 hd6 (by intro z; cases z))]
      exact hp6
  · subst e
    rw [hxl, List.take_of_length_le (Nat.le_refl _)] at pl
    have hfst : l.map (·.1) = us.map (·.1) := tri_fst pl
    have hdn : ∀ p, (valV (kdl l) (.inr (sw p))).isSome = decide (p ∈ us.map (·.1)) := fun p => by rw [kdl_is (by rw [hfst]; exact gu.nd), hfst]
    have wdl : ∀ p ∈ us.map (·.1), p.length ≤ 200 ∧ ∀ c ∈ p, c ∈ z := fun p hp => by
      obtain ⟨r, hr, rfl⟩ := List.mem_map.mp hp
      exact ⟨(gu.ok r hr).l200, (gu.ok r hr).wd⟩
    refine ⟨_, rfl, _, rfl, z, d, kdl l, us.map (·.1), rfl, hd3, ?_, wdl, tb.ext s, fun H4 a4 sm4 h4 => ⟨a4, rfl, ⟨_, SqL.of h4⟩, fun e he => ?_⟩⟩
    · rw [← hfst]
      exact kdl_keys l
    rw [← od] at h4
    generalize hos : rs.map (·.1) = os at od h4
    have hosm : ∀ p, p ∈ os ↔ p ∈ us.map (·.1) := fun p => by rw [od]; exact ordW_mem
    have hosl : os.length = us.length := by rw [od, ordW_len, List.length_map]
    have hosn : os.Nodup := by rw [od]; exact ordW_nodup gu.nd
    refine dc_list (K := K) (a := a4) (xs := wsV os) (fun i H5 => Same H4 H5 ∧ H5 e = some (.dK (kdl ((os.take i).map fun p => (p, V.str (sw [])))))) ⟨same_upd he, upd_same⟩ (fun i H5 _ ⟨s5, _⟩ => SqL.of (s5 _ _ h4)) (fun i x H5 hx ⟨s5, h5⟩ => ?_) (fun H5 ⟨s5, h5⟩ => ?_)
    · rw [List.getElem?_map] at hx
      obtain ⟨p, hp, rfl⟩ := Option.map_eq_some_iff.mp hx
      have hpn : p ∉ ((os.take i).map fun p => (p, V.str (sw []))).map (·.1) := by rw [kd_map]; exact nd_take hosn hp
      refine ⟨rfl, yes_ite ⟨_, rfl, kdl ((os.take i).map fun p => (p, V.str (sw []))), .inr (sw p), rfl, h5, ?_, same_of_new s5 he, ?_⟩⟩
      · rw [kdl_len, List.length_map, List.length_take, sizeLine_eq]
        omega
      · rw [upd_same, mt_eq, kdl_new _ hpn, List.take_add_one, hp]
        show _ = some (HO.dK (kdl ((os.take i ++ [p]).map fun p => (p, V.str (sw [])))))
        rw [List.map_append]
        rfl
    rw [List.length_map, List.take_of_length_le (Nat.le_refl _)] at h5
    have hde : d ≠ e := ne_of_none (sm4.get hd3) he
    have fe : Fr o H e := ((SmK.of (Sm.of tb s)).sm sm4).fresh he
    have b5 : Bnd (tabs T) T.c_Tree o dx d e l us (os.map fun p => (p, V.str (sw []))) H [] H5 :=
      ⟨((SmK.of (Sm.of tb s)).sm sm4).same s5, s5 _ _ (sm4.get (s _ _ ho)), s5 _ _ (sm4.get hd3), paired_mono (fun q r h => ⟨h.1, (h.2.sm sm4).same s5⟩) pl, h5⟩
    clear he h4 s5 sm4 h5
    -- no place without the one above it
    refine ⟨e, _, b5.ee, trivial, fun ob => ?_⟩
    refine ⟨_, rfl, e, ob, rfl, .inl ⟨_, upd_same, ?_⟩⟩
    refine for_it (walk_wkeys (os.map fun p => (p, V.str (sw [])))) (fun i σ H6 => (∃ v7, σ = [some (.ref o), some (.str (sw z)), some (.ref a), some (.ref d), v4, v5, some (.ref e), v7]) ∧ H6 = upd H5 e (.frz ob (.dK (kdl (os.map fun p => (p, V.str (sw [])))))))
      ⟨⟨_, rfl⟩, rfl⟩ (fun i σ H6 _ ⟨_, h⟩ => by rw [h]; exact upd_same) (fun i x σ H6 H7 hi ⟨⟨v7, e1⟩, e2⟩ y => ?_) (fun σ H6 ⟨⟨v7, e1⟩, e2⟩ => ?_)
    · obtain ⟨rfl, hx⟩ := y
      subst e1
      rw [List.getElem?_map, kd_map] at hx
      obtain ⟨p, hp, rfl⟩ := Option.map_eq_some_iff.mp hx
      have hpm := (hosm p).mp (List.mem_of_getElem? hp)
      have hl : (sw p).length ≤ sizeLine := by rw [sw_len, sizeLine_eq]; have := (wdl p hpm).1; omega
      refine ⟨_, rfl, rfl, _, rfl, ?_⟩
      rw [mt_eq, sw_dec]
      refine ite2 (fun _ => ?_) (fun _ => ?_)
      · refine ⟨_, rfl, _, rfl, _, rfl, _, rfl, hl, _, rfl, d, valV (kdl l) (.inr (sw p.dropLast)), rfl, ?_, _, rfl, ?_⟩
        · show DGet _ d (.str (cutS (sw p) none (some (-1)))) _
          rw [cut_init]
          exact dget_kdl (by rw [e2, upd_ne hde]; exact b5.dd) _
        · rw [hdn, decide_eq_true (gu.par p hpm)]
          exact iteF ⟨⟨_, rfl⟩, e2⟩
      · exact iteF ⟨⟨_, rfl⟩, e2⟩
    subst e1
    refine ⟨by rw [e2]; exact upd_same, ?_⟩
    have b6 := b5.same (unlock (v := .frz ob (.dK (kdl (os.map fun p => (p, V.str (sw []))))))  b5.ee)
    rw [← e2] at b6
    generalize upd H6 e (.dK (kdl (os.map fun p => (p, V.str (sw []))))) = H7 at b6
    -- the ways
    refine ⟨_, rfl, e, _, rfl, b6.ee, fun bl hbl => ⟨bl, rfl, ⟨_, SqL.of upd_same⟩, ?_⟩⟩
    have b7 := b6.same (same_upd (o := .lst ((kdl (os.map fun p => (p, V.str (sw [])))).map fun kv => kV kv.1)) hbl)
    have hbl7 : (upd H7 bl (.lst ((kdl (os.map fun p => (p, V.str (sw [])))).map fun kv => kV kv.1))) bl = some (.lst (wsV os)) := by rw [upd_same, kdl_keys, kd_map]
    generalize upd H7 bl (.lst ((kdl (os.map fun p => (p, V.str (sw [])))).map fun kv => kV kv.1)) = H8 at b7 hbl7
    have hble : bl ≠ e := ne_of hbl7 b7.ee (by intro z; cases z)
    refine for_it (walk_list (K := K) (a := bl) (xs := wsV os)) (fun i σ H9 => (∃ v7, σ = [some (.ref o), some (.str (sw z)), some (.ref a), some (.ref d), v4, v5, some (.ref e), v7]) ∧ H9 bl = some (.lst (wsV os)) ∧
        Bnd (tabs T) T.c_Tree o dx d e l us (os.map fun p => (p, V.str (sw (kidS (os.take i) p)))) H [] H9)
      ⟨⟨_, rfl⟩, hbl7, b7⟩ (fun i σ H9 _ ⟨_, h, _⟩ => SqL.of h) (fun i x σ H9 H10 hi ⟨⟨v7, e1⟩, hb9, b9⟩ y => ?_) (fun σ H9 ⟨⟨v7, e1⟩, hb9, b9⟩ => ?_)
    · obtain ⟨rfl, hx⟩ := y
      subst e1
      rw [List.getElem?_map] at hx
      obtain ⟨p, hp, rfl⟩ := Option.map_eq_some_iff.mp hx
      have hpm := (hosm p).mp (List.mem_of_getElem? hp)
      have hil := (List.getElem?_eq_some_iff.mp hp).1
      have hl : (sw p).length ≤ sizeLine := by rw [sw_len, sizeLine_eq]; have := (wdl p hpm).1; omega
      have htk : os.take (i + 1) = os.take i ++ [p] := by rw [List.take_add_one, hp]; rfl
      refine ⟨_, rfl, rfl, _, rfl, ?_⟩
      rw [mt_eq, sw_dec]
      by_cases hpe : p = []
      · rw [decide_eq_true hpe]
        refine iteF ⟨⟨_, rfl⟩, hb9, ?_⟩
        have : (os.map fun q => (q, V.str (sw (kidS (os.take (i + 1)) q)))) = os.map fun q => (q, V.str (sw (kidS (os.take i) q))) := List.map_congr_left fun q _ => by
          rw [htk, kidS_step, if_neg (fun h => h.1 hpe)]
        rw [this]
        exact b9
      · rw [decide_eq_false hpe]
        refine iteT ?_
        obtain ⟨c, hc⟩ : ∃ c, p.getLast? = some c := ⟨_, List.getLast?_eq_some_getLast hpe⟩
        have hpar : p.dropLast ∈ os := (hosm _).mpr (gu.par p hpm)
        refine ⟨_, rfl, _, rfl, _, rfl, _, rfl, _, rfl, hl, e, .str (sw (kidS (os.take i) p.dropLast)), rfl, ?_, ?_⟩
        · show DGet _ e (.str (cutS (sw p) none (some (-1)))) _
          rw [cut_init]
          have := dget_kdl b9.ee p.dropLast
          rw [kdl_some (by rw [kd_map]; exact hosn) (List.mem_map.mpr ⟨_, hpar, rfl⟩)] at this
          exact this
        refine ⟨_, rfl, _, rfl, sw p, _, c, rfl, rfl, hl, atW_last hc, _, _, rfl, rfl, ?_, ?_⟩
        · have h1 := kidS_len (os.take i) p.dropLast
          rw [List.length_take] at h1
          rw [sw_len, sizeLine_eq]
          show _ + 1 ≤ _
          omega
        show ∃ H5, DPut _ e (.str (cutS (sw p) none (some (-1)))) _ H5 ∧ _
        rw [cut_init]
        refine ⟨_, dput_kdl b9.ee p.dropLast _ (by rw [List.length_map]; omega), ⟨_, rfl⟩, by rw [upd_ne hble]; exact hb9, ?_⟩
        rw [way_put (g := fun q => .str (sw (kidS (os.take (i + 1)) q))) hpar (fun q => ?_)]
        · exact b9.putE fe hde _
        · show V.str (sw (kidS (os.take (i + 1)) q)) = _
          rw [htk, kidS_step]
          by_cases hq : q = p.dropLast
          · rw [if_pos ⟨hpe, hq.symm⟩, if_pos hq, hc, hq, sw_one, sw_app]
            rfl
          · rw [if_neg (fun h => hq h.2.symm), if_neg hq]
    subst e1
    rw [List.length_map, List.take_of_length_le (Nat.le_refl _)] at b9
    have hway : (os.map fun p => (p, V.str (sw (kidS os p)))) = wayl z os := List.map_congr_left fun p _ => by
      rw [kidS_eq hz.nd (fun q hq => (wdl q ((hosm q).mp hq)).2) hosn (by rw [od]; exact ordW_sorted _ _)]
    rw [hway] at b9
    -- the fields
    refine ⟨_, rfl, _, rfl, o, T.c_Tree, dx, [], rfl, b9.ins, T.cl_Tree, T.na_Tree_letters, (by show 0 < 1000; decide), ?_⟩
    have b10 := b9.put (putF "letters" (.str (sw z)) [])
    generalize upd H9 o _ = H10 at b10
    have hval : ∀ p ∈ os, ∃ v, valV (kdl l) (.inr (sw p)) = some v := fun p hp => by
      have := hdn p
      rw [decide_eq_true ((hosm p).mp hp)] at this
      exact Option.isSome_iff_exists.mp this
    have hwl : (wayl z os).length ≤ 40000 := by rw [List.length_map]; omega
    refine lc_lock (k := 6) (j := 7) (l := wayl z os) b10.ee rfl hwl (fun p => (valV (kdl l) (.inr (sw p))).getD .non) (fun _ => rfl) (fun p hp H11 R kp k1 => ?_) fun H11 D1 s11 hD1n hD1 => ?_
    · rw [wayl_fst] at hp
      obtain ⟨v, hv⟩ := hval p hp
      rw [hv] at k1
      have := dget_kdl (kp _ _ b10.dd hde) p
      rw [hv] at this
      exact ⟨_, rfl, _, rfl, d, v, rfl, this, k1⟩
    rw [wayl_fst] at hD1
    have b11 := b10.same s11
    refine ⟨D1, _, rfl, .inl ⟨SqL.of hD1, fun t ht => ?_⟩⟩
    have s12 := same_upd (o := .tup (os.map fun p => (valV (kdl l) (.inr (sw p))).getD .non)) ht
    have b12 := b11.same s12
    have ht12 : (upd H11 t (.tup (os.map fun p => (valV (kdl l) (.inr (sw p))).getD .non))) t = some (.tup (os.map fun p => (valV (kdl l) (.inr (sw p))).getD .non)) := upd_same
    generalize upd H11 t (.tup (os.map fun p => (valV (kdl l) (.inr (sw p))).getD .non)) = H12 at b12 ht12
    refine ⟨_, rfl, o, T.c_Tree, dx, _, rfl, b12.ins, T.cl_Tree, T.na_Tree_rows, (by show 1 < 1000; decide), ?_⟩
    have b13 := b12.put (putF "rows" (.ref t) (putF "letters" (.str (sw z)) []))
    have ht13 : (upd H12 o (.ins T.c_Tree dx (putF "rows" (.ref t) (putF "letters" (.str (sw z)) [])))) t = some (.tup (os.map fun p => (valV (kdl l) (.inr (sw p))).getD .non)) := by
      rw [upd_ne (ne_of ht12 b12.ins (by intro z; cases z))]; exact ht12
    generalize upd H12 o (.ins T.c_Tree dx (putF "rows" (.ref t) (putF "letters" (.str (sw z)) []))) = H13 at b13 ht13
    have hrl : (xs.length : Int) = (rs.length : Int) := by rw [hxl, pm.length_eq]
    have hao : a ≠ o := ne_of ha ho (by intro z; cases z)
    refine ⟨_, rfl, a, xs, rfl, .inl (SqL.of (b13.smk.1 _ _ ha (by intro ps z; cases z) hao)), _, rfl, o, T.c_Tree, dx, _, rfl, b13.ins, T.cl_Tree, T.na_Tree_size, (by show 2 < 1000; decide), ?_⟩
    rw [hrl]
    have b14 := b13.put (putF "size" (.int (rs.length : Int)) (putF "rows" (.ref t) (putF "letters" (.str (sw z)) [])))
    have ht14 : (upd H13 o (.ins T.c_Tree dx (putF "size" (.int (rs.length : Int)) (putF "rows" (.ref t) (putF "letters" (.str (sw z)) []))))) t = some (.tup (os.map fun p => (valV (kdl l) (.inr (sw p))).getD .non)) := by
      rw [upd_ne (ne_of ht13 b13.ins (by intro z; cases z))]; exact ht13
    generalize upd H13 o (.ins T.c_Tree dx (putF "size" (.int (rs.length : Int)) (putF "rows" (.ref t) (putF "letters" (.str (sw z)) [])))) = H14 at b14 ht14
    refine lc_lock (k := 6) (j := 7) (l := wayl z os) b14.ee rfl hwl (fun p => .int (p.length : Int)) (fun _ => rfl) (fun p hp H15 R kp k1 => ?_) fun H15 D2 s15 hD2n hD2 => ?_
    · rw [wayl_fst] at hp
      have h200 := (wdl p ((hosm p).mp hp)).1
      refine ⟨_, rfl, _, rfl, by rw [sw_len, sizeLine_eq]; omega, ?_⟩
      rw [sw_len]
      exact k1
    rw [wayl_fst] at hD2
    have b15 := b14.same s15
    have ht15 := s15 _ _ ht14
    have hlens : os.map (fun p => V.int (p.length : Int)) = (os.map fun p => (p.length : Int)).map V.int := by rw [List.map_map]; rfl
    rw [hlens] at hD2
    refine ⟨D2, _, rfl, SqL.of hD2, by rw [List.length_map]; omega, fun m hm hmx => ?_⟩
    refine ⟨_, rfl, o, T.c_Tree, dx, _, rfl, b15.ins, T.cl_Tree, T.na_Tree_height, (by show 3 < 1000; decide), ?_⟩
    have b16 := b15.put (putF "height" (.int m) (putF "size" (.int (rs.length : Int)) (putF "rows" (.ref t) (putF "letters" (.str (sw z)) []))))
    have ht16 : (upd H15 o (.ins T.c_Tree dx (putF "height" (.int m) (putF "size" (.int (rs.length : Int)) (putF "rows" (.ref t) (putF "letters" (.str (sw z)) [])))))) t = some (.tup (os.map fun p => (valV (kdl l) (.inr (sw p))).getD .non)) := by
      rw [upd_ne (ne_of ht15 b15.ins (by intro z; cases z))]; exact ht15
    generalize upd H15 o (.ins T.c_Tree dx (putF "height" (.int m) (putF "size" (.int (rs.length : Int)) (putF "rows" (.ref t) (putF "letters" (.str (sw z)) []))))) = H16 at b16 ht16
    refine ⟨_, rfl, _, rfl, o, T.c_Tree, dx, _, rfl, b16.ins, T.cl_Tree, T.na_Tree_triples, (by show 4 < 1000; decide), ?_⟩
    have b17 := b16.put (putF "triples" (.ref d) (putF "height" (.int m) (putF "size" (.int (rs.length : Int)) (putF "rows" (.ref t) (putF "letters" (.str (sw z)) [])))))
    have ht17 : (upd H16 o (.ins T.c_Tree dx (putF "triples" (.ref d) (putF "height" (.int m) (putF "size" (.int (rs.length : Int)) (putF "rows" (.ref t) (putF "letters" (.str (sw z)) []))))))) t = some (.tup (os.map fun p => (valV (kdl l) (.inr (sw p))).getD .non)) := by
      rw [upd_ne (ne_of ht16 b16.ins (by intro z; cases z))]; exact ht16
    generalize upd H16 o (.ins T.c_Tree dx (putF "triples" (.ref d) (putF "height" (.int m) (putF "size" (.int (rs.length : Int)) (putF "rows" (.ref t) (putF "letters" (.str (sw z)) [])))))) = H17 at b17 ht17
    refine ⟨_, rfl, _, rfl, o, T.c_Tree, dx, _, rfl, b17.ins, T.cl_Tree, T.na_Tree_ways, (by show 5 < 1000; decide), ?_⟩
    have b18 := b17.put (treeFs z t d e (rs.length : Int) m)
    have ht18 : (upd H17 o (.ins T.c_Tree dx (treeFs z t d e (rs.length : Int) m))) t = some (.tup (os.map fun p => (valV (kdl l) (.inr (sw p))).getD .non)) := by
      rw [upd_ne (ne_of ht17 b17.ins (by intro z; cases z))]; exact ht17
    show Q .non (upd H17 o (.ins T.c_Tree dx (treeFs z t d e (rs.length : Int) m)))
    generalize upd H17 o (.ins T.c_Tree dx (treeFs z t d e (rs.length : Int) m)) = H18 at b18 ht18
    have hln : rs.map (fun r => (r.1.length : Int)) = os.map fun p => (p.length : Int) := by rw [← hos, List.map_map]; rfl
    refine q _ b18.smk ⟨?_, fun r hr c hc => small_lt (hz.sm c ((gu.ok r (pm.mem_iff.mpr hr)).wd c hc)), dx, t, d, e, m, _, us, b18.ins, ht18, ?_, ⟨l, b18.dd, b18.tri⟩, pm, ?_, by rw [hln]; exact hm, by rw [hln]; exact hmx⟩
    · rw [hos]
      exact (hosm _).mpr gu.root
    · rw [← hos]
      refine rows_pr fun r hr => ?_
      obtain ⟨v, h1, h2⟩ := tri_get b18.tri (pm.mem_iff.mpr hr)
      rw [kdl_some (by rw [hfst]; exact gu.nd) h1]
      exact h2
    · rw [hos]
      exact b18.ee
end
end Toy
set_option Elab.async false
set_option linter.all false
set_option maxRecDepth 100000
set_option maxHeartbeats 4000000
namespace Toy
open PySem L2 Sh ShL LamX NdefX
/-! ### rows as data -/
def oD : Option Int → PyData
  | none => .none
  | some i => .int i
def rwD (r : Rw) : PyData := .tuple [.str (sw r.1), oD r.2.1, .bool r.2.2]
theorem oV_dp {K : PySem.W.Frag} {H : Hp} (o : Option Int) : Dp K H (oV o) (oD o) := by
  cases o
  · exact .non
  · exact .int _
theorem RwT.dp {K : PySem.W.Frag} {H : Hp} {v : V} {r : Rw} (h : RwT H v r) : Dp K H v (rwD r) := by
  obtain ⟨a, rfl, h⟩ := h
  exact .tup (SqT.of h) (.cons (.str _) (.cons (oV_dp _) (.cons (.bl _) .nil)))
theorem rws_dp {K : PySem.W.Frag} {H : Hp} : ∀ {vs : List V} {rs : List Rw}, Paired (RwT H) vs rs → DpAll K H vs (rs.map rwD)
  | _, _, .nil => .nil
  | _, _, .cons h t => .cons h.dp (rws_dp t)
theorem sw_beq (a b : Wd) : (sw a == sw b) = decide (a = b) := by
  by_cases h : a = b
  · rw [h]; simp
  · rw [decide_eq_false h]
    exact beq_eq_false_iff_ne.mpr fun z => h (sw_inj z)
theorem oD_eqv (o o' : Option Int) : PyData.eqv (oD o) (oD o') = decide (o = o') := by
  cases o <;> cases o' <;> simp [oD, PyData.eqv] <;> first | rfl | exact Bool.eq_iff_iff.mpr (by simp)
theorem rwD_eqv (r r' : Rw) : PyData.eqv (rwD r) (rwD r') = decide (r = r') := by
  obtain ⟨p, o, f⟩ := r
  obtain ⟨p', o', f'⟩ := r'
  unfold rwD
  simp only [PyData.eqv, PyData.eqvAll, oD_eqv, sw_beq]
  rw [Bool.eq_iff_iff]
  simp [Prod.mk.injEq]
theorem rws_eqv : ∀ rs rs' : List Rw, PyData.eqvAll (rs.map rwD) (rs'.map rwD) = decide (rs = rs')
  | [], [] => by simp [PyData.eqvAll]
  | [], _ :: _ => by simp [PyData.eqvAll]
  | _ :: _, [] => by simp [PyData.eqvAll]
  | r :: rs, r' :: rs' => by
    simp only [List.map_cons, PyData.eqvAll, rwD_eqv, rws_eqv rs rs']
    rw [Bool.eq_iff_iff]
    simp
theorem oD_lay (o : Option Int) : PyData.canLay0 (oD o) = true ∧ PyData.depth (oD o) = 0 := by
  cases o <;> exact ⟨rfl, rfl⟩
theorem str_ok {p : Wd} (h : ∀ c ∈ p, c < 200) : PyData.strOk (sw p) = true := by
  show p.toArray.all (· < 0x110000) = true
  rw [← Array.all_toList, List.all_eq_true]
  exact fun c hc => decide_eq_true (Nat.lt_trans (h c hc) (by decide))
theorem rwD_lay (r : Rw) (hr : ∀ c ∈ r.1, c < 200) : PyData.canLay0 (rwD r) = true ∧ PyData.depth (rwD r) ≤ 1 := by
  unfold rwD
  constructor
  · simp only [PyData.canLay0, PyData.canLayAll0, (oD_lay r.2.1).1, str_ok hr]
    rfl
  · simp only [PyData.depth, PyData.depthAll, (oD_lay r.2.1).2]
    omega
theorem rws_lay : ∀ rs : List Rw, (∀ r ∈ rs, ∀ c ∈ r.1, c < 200) → PyData.canLayAll0 (rs.map rwD) = true ∧ PyData.depthAll (rs.map rwD) ≤ 2
  | [], _ => ⟨rfl, by simp [PyData.depthAll]⟩
  | r :: rs, h => by
    obtain ⟨h1, h2⟩ := rws_lay rs fun x hx => h x (List.mem_cons_of_mem _ hx)
    obtain ⟨h3, h4⟩ := rwD_lay r (h r List.mem_cons_self)
    refine ⟨by simp only [List.map_cons, PyData.canLayAll0, h1, h3]; rfl, ?_⟩
    simp only [List.map_cons, PyData.depthAll]
    omega
theorem shaped_of {d : PyData} (h1 : PyData.canLay0 d = true) (h2 : PyData.depth d ≤ 64) : SeqAt.shaped d = true := by
  show (PyData.canLay0 d && decide (PyData.depth d ≤ 64)) = true
  rw [Bool.and_eq_true]
  exact ⟨h1, decide_eq_true h2⟩
theorem rws_shaped {rs : List Rw} (h : ∀ r ∈ rs, ∀ c ∈ r.1, c < 200) : SeqAt.shaped (.tuple (rs.map rwD)) = true := by
  obtain ⟨h1, h2⟩ := rws_lay rs h
  exact shaped_of (by simp only [PyData.canLay0]; exact h1) (by simp only [PyData.depth]; omega)
theorem rwD_shaped {r : Rw} (h : ∀ c ∈ r.1, c < 200) : SeqAt.shaped (rwD r) = true := shaped_of (rwD_lay r h).1 (by have := (rwD_lay r h).2; omega)
/-! ### what is looked for -/
/-- v is the text p, or no text -/
def PlV (K : PySem.W.Frag) (H : Hp) (v : V) : Option Wd → Prop
  | some p => v = .str (sw p)
  | none => ∃ t, TyX K H v t ∧ PySem.W.kitOne K t (.type "str") = some false
def inR (p : Option Wd) (rs : List Rw) : Bool := match p with
  | some p => decide (p ∈ rs.map (·.1))
  | none => false
def spEq (C : Addr) : Sp := fun vs H Q _ => ∃ x y z z' rs rs', vs = [.ref x, .ref y] ∧ TreeAt C H x z rs ∧ TreeAt C H y z' rs' ∧ Q (.bl (decide (z = z' ∧ rs = rs'))) H
def spHas (K : PySem.W.Frag) (C : Addr) : Sp := fun vs H Q _ => ∃ x z rs v p, vs = [.ref x, v] ∧ TreeAt C H x z rs ∧ (rs.map (·.1)).Nodup ∧ PlV K H v p ∧ Q (.bl (inR p rs)) H
def spRowOf (K : PySem.W.Frag) (C N : Addr) : Sp := fun vs H Q E => ∃ x z rs v p, vs = [.ref x, v] ∧ TreeAt C H x z rs ∧ (rs.map (·.1)).Nodup ∧ PlV K H v p ∧ (∀ r ∈ rs, p = some r.1 → ∀ u, RwT H u r → Q u H) ∧
  (inR p rs = false → ∀ H' d, Same H H' → H d = none → H' d = some (exd d [("place", v)]) → E (.ref N) (some d) H')
def spBelow (K : PySem.W.Frag) (C N : Addr) : Sp := fun vs H Q E => ∃ x z rs v p, vs = [.ref x, v] ∧ TreeAt C H x z rs ∧ (rs.map (·.1)).Nodup ∧ PlV K H v p ∧ (∀ q ∈ rs.map (·.1), p = some q → Q (.str (sw (kids z (rs.map (·.1)) q))) H) ∧
  (inR p rs = false → ∀ H' d, Same H H' → H d = none → H' d = some (exd d [("place", v)]) → E (.ref N) (some d) H')
def spValueOf (K : PySem.W.Frag) (C : Addr) : Sp := fun vs H Q _ => ∃ x z rs v p, vs = [.ref x, v] ∧ TreeAt C H x z rs ∧ (rs.map (·.1)).Nodup ∧ PlV K H v p ∧ (∀ r ∈ rs, p = some r.1 → Q (oV r.2.1) H) ∧ (inR p rs = false → Q .non H)
def kept (rs : List Rw) : List Rw := rs.filter fun r => r.2.1.isSome
def KvT (H : Hp) (v : V) (r : Rw) : Prop := ∃ b, v = .ref b ∧ H b = some (.tup [.str (sw r.1), oV r.2.1])
theorem KvT.same {H H' : Hp} {v : V} {r : Rw} (s : Same H H') (h : KvT H v r) : KvT H' v r := let ⟨a, e, h⟩ := h; ⟨a, e, s _ _ h⟩
def spItems (C : Addr) : Sp := fun vs H Q _ => ∃ x z rs, vs = [.ref x] ∧ TreeAt C H x z rs ∧ rs.length ≤ 2000 ∧ ∀ H' t vs, Same H H' → H' t = some (.tup vs) → Paired (KvT H') vs (kept rs) → Q (.ref t) H'
section
variable {P : Program} {w : World} {K : PySem.W.Frag} {mg : Str → Option Value} {base : Heap}
theorem ok_Tree_has (T : Tx P K mg) (B : Bx T base) : FnOk P w K mg base CX0 1 T.a_Tree_has T.fd_Tree_has ["self", "place"] (spHas K T.c_Tree) := by
  refine okT T.F_Tree_has sc_Tree_has (fun vs H Q E h => ?_) (fun cdv A outer s H vs Q E hcd hr h => ?_)
  · obtain ⟨x, z, rs, v, p, rfl, _⟩ := h
    rfl
  have hu := hu_of hr
  have hu65 := hu65_of hr
  obtain ⟨x, z, rs, v, p, rfl, hx, nd, hv, q⟩ := h
  obtain ⟨dx, t, d, e, m, ws, us, x1, x2, x3, ⟨l, l1, l2⟩, x5, _⟩ := hx.ex
  refine ⟨_, (pss_one (ps_ret (pe_and (pe_callB call_isi (by rfl) T.b_isinstance (by decide +kernel) (pa_cons (pv 1) (pa_cons (pe_bltn (v := .ty "str") (by rfl) T.b_str (by decide +kernel) rfl) pa_nil))) (pe_one (pe_cmp (pc_din hu (pv 1) (pe_fld (pv 0) rfl))))))), ?_⟩
  have nl : (l.map (·.1)).Nodup := by rw [tri_fst l2]; exact (x5.map _).nodup_iff.mpr nd
  cases p with
  | none =>
    obtain ⟨ty, h1, h2⟩ := hv
    exact ⟨_, rfl, _, _, _, _, _, rfl, .ty _, h1, h2, _, rfl, iteF q⟩
  | some p =>
    cases (show v = .str (sw p) from hv)
    refine ⟨_, rfl, _, _, _, _, _, rfl, .ty _, .base (.str _), isi_s, _, rfl, iteT ?_⟩
    refine ⟨_, rfl, _, rfl, x, _, dx, _, _, rfl, x1, T.cl_Tree, T.na_Tree_triples, tf_triples, d, valV (kdl l) (.inr (sw p)), rfl, dget_kdl l1 p, ?_⟩
    rw [kdl_is nl, tri_fst l2]
    have e1 : decide (p ∈ us.map (·.1)) = inR (some p) rs := decide_eq_decide.mpr (x5.map _).mem_iff
    rw [e1]
    exact q
end
end Toy
set_option Elab.async false
set_option linter.all false
set_option maxRecDepth 100000
set_option maxHeartbeats 4000000
namespace Toy
open PySem L2 Sh ShL LamX NdefX
theorem tri_row {H : Hp} {l : List (Wd × V)} {us : List Rw} {r : Rw} (nd : (us.map (·.1)).Nodup) (h : Paired (fun (q : Wd × V) r => q.1 = r.1 ∧ RwT H q.2 r) l us) (m : r ∈ us) : ∃ v, valV (kdl l) (.inr (sw r.1)) = some v ∧ RwT H v r := by
  obtain ⟨v, h1, h2⟩ := tri_get h m
  exact ⟨v, kdl_some (by rw [tri_fst h]; exact nd) h1, h2⟩
theorem inR_of {p : Wd} {rs : List Rw} (h : inR (some p) rs = true) : ∃ r ∈ rs, p = r.1 := by
  obtain ⟨r, hr, e⟩ := List.mem_map.mp (of_decide_eq_true h)
  exact ⟨r, hr, e.symm⟩
section
variable {P : Program} {w : World} {K : PySem.W.Frag} {mg : Str → Option Value} {base : Heap}
theorem ok_Tree_row (T : Tx P K mg) (B : Bx T base) : FnOk P w K mg base (L2.CX P w) 3 T.a_Tree_row T.fd_Tree_row ["self", "place"] (spRowOf K T.c_Tree T.c_NoPlace) := by
  refine T.F_Tree_row.okX sc_Tree_row (fun vs H Q E h => ?_) (fun cdv A outer s H vs Q E hr h => ?_)
  · obtain ⟨x, z, rs, v, p, rfl, _⟩ := h
    rfl
  have hu := hu_of hr
  have hu65 := hu65_of hr
  obtain ⟨x, z, rs, v, p, rfl, hx, nd, hv, q1, q2⟩ := h
  obtain ⟨dx, t, d, e, m, ws, us, x1, x2, x3, ⟨l, l1, l2⟩, x5, _⟩ := hx.ex
  refine ⟨_, (pss_cons (ps_if (pt_not (pt_val (pe_meth (pv 0) T.cl_Tree T.me_Tree_has (ok_Tree_has T B) (hr.mono (by decide)) T.bi_Tree_has .nil pass0 (pa_cons (pv 1) pa_nil))))
 (pss_one (ps_raiseX rfl rfl (takes_of rfl rfl rfl rfl) (pe_oexN T.i_NoPlace.m (ok_x_NoPlace T) (hr.mono (by decide)) (by rfl) T.m_NoPlace T.kb_NoPlace_1 pass0 (pa_cons (pv 1) pa_nil) pk_nil)))
 pss_nil)
 (pss_one (ps_ret (pe_dget hu (pe_fld (pv 0) rfl) (pv 1) (fun _ _ => rfl))))), ?_⟩
  refine ⟨_, rfl, x, dx, _, rfl, x1, tf_no (by decide +kernel), _, rfl, x, z, rs, v, p, rfl, hx, nd, hv, _, rfl, ?_⟩
  cases hb : inR p rs with
  | false =>
    refine iteT ?_
    exact mk_raise (vs := [v]) (zs := []) (fun a ha => fr0_none ha) T.x_NoPlace.raises (fun R h => ⟨_, rfl, h⟩) (fun R h => h) rfl rfl rfl fun H' d' s n e => q2 hb _ _ s n e
  | true =>
    refine iteF ?_
    cases p with
    | none => cases hb
    | some p =>
      obtain ⟨r, hr, rfl⟩ := inR_of hb
      cases (show v = .str (sw r.1) from hv)
      have nu : (us.map (·.1)).Nodup := (x5.map _).nodup_iff.mpr nd
      obtain ⟨u, h1, h2⟩ := tri_row nu l2 (x5.mem_iff.mpr hr)
      have g := dget_kdl l1 r.1
      rw [h1] at g
      exact ⟨_, rfl, x, _, dx, _, _, rfl, x1, T.cl_Tree, T.na_Tree_triples, tf_triples, _, rfl, d, u, rfl, g, q1 r hr rfl u h2⟩
theorem ok_Tree_below (T : Tx P K mg) (B : Bx T base) : FnOk P w K mg base (L2.CX P w) 3 T.a_Tree_below T.fd_Tree_below ["self", "place"] (spBelow K T.c_Tree T.c_NoPlace) := by
  refine T.F_Tree_below.okX sc_Tree_below (fun vs H Q E h => ?_) (fun cdv A outer s H vs Q E hr h => ?_)
  · obtain ⟨x, z, rs, v, p, rfl, _⟩ := h
    rfl
  have hu := hu_of hr
  have hu65 := hu65_of hr
  obtain ⟨x, z, rs, v, p, rfl, hx, nd, hv, q1, q2⟩ := h
  obtain ⟨dx, t, d, e, m, ws, us, x1, x2, x3, x4, x5, x6, _⟩ := hx.ex
  refine ⟨_, (pss_cons (ps_if (pt_not (pt_val (pe_meth (pv 0) T.cl_Tree T.me_Tree_has (ok_Tree_has T B) (hr.mono (by decide)) T.bi_Tree_has .nil pass0 (pa_cons (pv 1) pa_nil))))
 (pss_one (ps_raiseX rfl rfl (takes_of rfl rfl rfl rfl) (pe_oexN T.i_NoPlace.m (ok_x_NoPlace T) (hr.mono (by decide)) (by rfl) T.m_NoPlace T.kb_NoPlace_1 pass0 (pa_cons (pv 1) pa_nil) pk_nil)))
 pss_nil)
 (pss_one (ps_ret (pe_dget hu (pe_fld (pv 0) rfl) (pv 1) (fun _ _ => rfl))))), ?_⟩
  refine ⟨_, rfl, x, dx, _, rfl, x1, tf_no (by decide +kernel), _, rfl, x, z, rs, v, p, rfl, hx, nd, hv, _, rfl, ?_⟩
  cases hb : inR p rs with
  | false =>
    refine iteT ?_
    exact mk_raise (vs := [v]) (zs := []) (fun a ha => fr0_none ha) T.x_NoPlace.raises (fun R h => ⟨_, rfl, h⟩) (fun R h => h) rfl rfl rfl fun H' d' s n e => q2 hb _ _ s n e
  | true =>
    refine iteF ?_
    cases p with
    | none => cases hb
    | some p =>
      cases (show v = .str (sw p) from hv)
      have hp : p ∈ rs.map (·.1) := of_decide_eq_true hb
      have g := dget_kdl x6 p
      rw [kdl_some (by rw [wayl_fst]; exact nd) (List.mem_map.mpr ⟨p, hp, rfl⟩)] at g
      exact ⟨_, rfl, x, _, dx, _, _, rfl, x1, T.cl_Tree, T.na_Tree_ways, tf_ways, _, rfl, e, _, rfl, g, q1 p hp rfl⟩
end
end Toy
set_option Elab.async false
set_option linter.all false
set_option maxRecDepth 100000
set_option maxHeartbeats 4000000
namespace Toy
open PySem L2 Sh ShL LamX NdefX
theorem Pen.ne_free {H : Hp} {d c p : Addr} {n : Nat} (h : Pen H d c n) (hp : H p = none) : p ≠ d := by
  obtain ⟨kvs, e⟩ := h.at
  exact (ne_of_none e hp).symm
/-- the pen stays where an object changes that was not there ahead of H0 -/
theorem Pen.put {H0 H : Hp} {d c D : Addr} {n m : Nat} {o : HO} (h0 : Pen H0 d c m) (nD : H0 D = none) (h : Pen H d c n) : Pen (upd H D o) d c n := by
  obtain ⟨ns, b, l, a1, a2, a3⟩ := h
  obtain ⟨ns0, b0, l0, a01, a02, _⟩ := h0
  exact ⟨ns, b, l, by rw [upd_ne (ne_of_none a01 nD)]; exact a1, by rw [upd_ne (ne_of_none a02 nD)]; exact a2, a3⟩
theorem kp_put0 {d p : Addr} {H0 H : Hp} {o : HO} (h : Kp d H0 H) (n : H0 p = none) : Kp d H0 (upd H p o) := fun b u e nb => by
  rw [upd_ne (ne_of_none e n)]
  exact h b u e nb
/-- a word's signs that were drawn, and those that are left -/
structure Drawn (fs rem : Wd) : Prop where
  pm : (fs ++ rem).Perm small
theorem small_nd : small.Nodup := by decide +kernel
theorem Drawn.ok {fs rem : Wd} (h : Drawn fs rem) (h2 : 2 ≤ fs.length) : LetOk fs := by
  have nd : (fs ++ rem).Nodup := h.pm.nodup_iff.mpr small_nd
  have l : (fs ++ rem).length = 26 := h.pm.length_eq
  rw [List.length_append] at l
  exact ⟨h2, by omega, (List.nodup_append.mp nd).1, fun c hc => h.pm.mem_iff.mp (List.mem_append_left _ hc)⟩
theorem erase_perm {α : Type} : ∀ {rem : List α} {k : Nat} {c : α}, rem[k]? = some c → (c :: rem.eraseIdx k).Perm rem
  | [], _, _, h => by cases h
  | x :: rem, 0, c, h => by
    cases h
    exact List.Perm.refl _
  | x :: rem, k + 1, c, h => by
    rw [List.eraseIdx_cons_succ]
    exact (List.Perm.swap x c _).trans ((erase_perm (rem := rem) (k := k) (by simpa using h)).cons x)
theorem erase_map {α β : Type} (f : α → β) : ∀ (xs : List α) (k : Nat), (xs.map f).eraseIdx k = (xs.eraseIdx k).map f
  | [], _ => rfl
  | x :: xs, 0 => rfl
  | x :: xs, k + 1 => by
    rw [List.map_cons, List.eraseIdx_cons_succ, List.eraseIdx_cons_succ, List.map_cons, erase_map f xs k]
theorem seq_ix {r : Int} {n : Nat} (h0 : 0 ≤ r) (h1 : r < (n : Int)) : seqIndex? r n = some r.toNat := by
  unfold seqIndex?
  simp only [show ¬ (r < 0) by omega, if_false]
  simp [h0, h1]
theorem Drawn.step {fs rem : Wd} {k c : Nat} (h : Drawn fs rem) (hc : rem[k]? = some c) : Drawn (fs ++ [c]) (rem.eraseIdx k) := by
  refine ⟨List.Perm.trans ?_ h.pm⟩
  rw [List.append_assoc]
  refine List.Perm.append_left fs ?_
  show (c :: rem.eraseIdx k).Perm rem
  exact erase_perm hc
def spLettersD : Sp := fun vs H Q _ => ∃ (d c : Addr) (n : Nat), vs = [.ref d, .int 5] ∧ Pen H d c n ∧ n ≤ 50000 ∧ ∀ (H' : Hp) (z : Wd), LetOk z → z.length ≤ 5 → Kp d H H' → Pen H' d c (n + 6) → Q (.str (sw z)) H'
structure PlOk (z : Wd) (ps : List Wd) (n : Nat) : Prop where
  clo : Clo ps
  nd : ps.Nodup
  wd : ∀ p ∈ ps, ∀ c ∈ p, c ∈ z
  l : ∀ p ∈ ps, p.length ≤ n
  len : ps.length ≤ n + 1
theorem plok0 {z : Wd} : PlOk z [[]] 0 := by
  refine ⟨clo0, by simp, fun p hp x hx => ?_, fun p hp => ?_, by simp⟩
  · rw [List.mem_singleton.mp hp] at hx
    cases hx
  · rw [List.mem_singleton.mp hp]
    simp
theorem PlOk.up {z : Wd} {ps : List Wd} {n m : Nat} (h : PlOk z ps n) (k : n ≤ m) : PlOk z ps m := ⟨h.clo, h.nd, h.wd, fun p hp => Nat.le_trans (h.l p hp) k, by have := h.len; omega⟩
theorem PlOk.add {z : Wd} {ps : List Wd} {n : Nat} {p : Wd} {c : Nat} (h : PlOk z ps n) (hp : p ∈ ps) (hc : c ∈ z) (hn : p ++ [c] ∉ ps) : PlOk z (ps ++ [p ++ [c]]) (n + 1) := by
  refine ⟨⟨List.mem_append_left _ h.clo.1, fun q hq k => ?_⟩, ?_, fun q hq x hx => ?_, fun q hq => ?_, ?_⟩
  · rcases List.mem_append.mp hq with hq | hq
    · exact List.mem_append_left _ (h.clo.2 q hq k)
    · rw [List.mem_singleton.mp hq, List.take_append]
      by_cases hk : k ≤ p.length
      · rw [show k - p.length = 0 by omega, List.take_zero, List.append_nil]
        exact List.mem_append_left _ (h.clo.2 p hp k)
      · refine List.mem_append_right _ ?_
        rw [List.take_of_length_le (by omega), List.take_of_length_le (by show 1 ≤ _; omega)]
        exact List.mem_singleton.mpr rfl
  · refine List.nodup_append.mpr ⟨h.nd, by simp, fun a ha b hb => ?_⟩
    rw [List.mem_singleton.mp hb]
    exact fun e => hn (by rw [← e]; exact ha)
  · rcases List.mem_append.mp hq with hq | hq
    · exact h.wd q hq x hx
    · rw [List.mem_singleton.mp hq] at hx
      rcases List.mem_append.mp hx with hx | hx
      · exact h.wd p hp x hx
      · rw [List.mem_singleton.mp hx]; exact hc
  · rcases List.mem_append.mp hq with hq | hq
    · exact Nat.le_succ_of_le (h.l q hq)
    · rw [List.mem_singleton.mp hq, List.length_append]
      have := h.l p hp
      show _ + 1 ≤ _
      omega
  · rw [List.length_append]
    have := h.len
    show _ + 1 ≤ _
    omega
def spPlaces : Sp := fun vs H Q _ => ∃ (d c : Addr) (n : Nat) (z : Wd), vs = [.ref d, .str (sw z), .int 8] ∧ Pen H d c n ∧ n ≤ 50000 ∧ LetOk z ∧ ∀ (H' : Hp) (a : Addr) (ps : List Wd), PlOk z ps 8 → H' a = some (.lst (wsV ps)) → Kp d H H' → Pen H' d c (n + 16) → Q (.ref a) H'
def spRowD : Sp := fun vs H Q _ => ∃ (d c : Addr) (n : Nat) (p : Wd), vs = [.ref d, .str (sw p)] ∧ Pen H d c n ∧ n ≤ 50000 ∧ ∀ (H' : Hp) (v : V) (o : Option Int) (f : Bool), (∀ i, o = some i → 1 ≤ i ∧ i ≤ 9) → RwT H' v (p, o, f) → Kp d H H' → Pen H' d c (n + 3) → Q v H'
def spShuf (K : PySem.W.Frag) : Sp := fun vs H Q _ => ∃ (d c a : Addr) (n : Nat) (xs : List V), vs = [.ref d, .ref a] ∧ Pen H d c n ∧ n ≤ 50000 ∧ H a = some (.lst xs) ∧ xs.length ≤ 1000 ∧
  ∀ (H' : Hp) (b : Addr) (ys : List V), ys.Perm xs → H' b = some (.lst ys) → Kp d H H' → Pen H' d c (n + xs.length) → Q (.ref b) H'
section
variable {P : Program} {w : World} {K : PySem.W.Frag} {mg : Str → Option Value} {base : Heap}
theorem ok_l_letters (T : Tx P K mg) (B : Bx T base) : FnOk P w K mg base CX0 2 T.a_l_letters T.fd_l_letters ["_law_pen_here", "_law_most"] spLettersD := by
  refine okT T.F_l_letters sc_l_letters (fun vs H Q E h => ?_) (fun cdv A outer s H vs Q E hcd hr h => ?_)
  · obtain ⟨d, c, n, rfl, _⟩ := h
    rfl
  have hu := hu_of hr
  have hu65 := hu65_of hr
  obtain ⟨d, c, n, rfl, hp, hn, q⟩ := h
  refine ⟨_, (pss_cons (ps_par (i := 2) (j := 3) (by rfl) sc_l_letters.nd rfl rfl (by decide) rfl rfl (pa_cons (pe_callTy (Sh.call_list_str rfl) (by rfl) T.b_list (by decide +kernel) (pa_cons pe_str pa_nil)) (pa_cons pe_str pa_nil)) (by rfl))
 (pss_cons (ps_for PassesOwn.never rfl (pi_range1 (by rfl) T.b_range (pa_cons (pe_op op_add pe_int (pe_call (ok_l_draw T B) (hr.mono (by decide)) (by rfl) T.m_l_draw T.F_l_draw.kp T.bi_l_draw .nil pass0 (pa_cons (pv 0) (pa_cons (pe_op op_sub (pv 1) pe_int) pa_nil)))) pa_nil)) (pg_name (i := 4) sc_l_letters.nd rfl (by first | exact Or.inl rfl | exact Or.inr rfl))
 (pss_one (ps_set (i := 3) sc_l_letters.nd rfl (by first | exact Or.inl rfl | exact Or.inr rfl) (pe_op op_add_str (pv 3) (pe_bm PySem.F.plainAttrs_list PySem.F.slot_list_pop PySem.F.type_list_pop mt_popAt (pv 2) (pa_cons (pe_call (ok_l_draw T B) (hr.mono (by decide)) (by rfl) T.m_l_draw T.F_l_draw.kp T.bi_l_draw .nil pass0 (pa_cons (pv 0) (pa_cons (pe_callB call_len_seq (by rfl) T.b_len (by decide +kernel) (pa_cons (pv 2) pa_nil)) pa_nil))) pa_nil))))))
 (pss_one (ps_ret (pv 3))))), ?_⟩
  refine ⟨_, rfl, by decide +kernel, fun pl hpl => ?_⟩
  have e1 : (signs ("abcdefghijklmnopqrstuvwxyz" : Str)).map V.str = small.map fun c => V.str (sw [c]) := by
    unfold signs
    rw [small_eq, sw_list, List.map_map]
    rfl
  rw [e1]
  have p1 := hp.same (same_upd (o := .lst (small.map fun c => V.str (sw [c]))) hpl)
  have kp1 : Kp d H (upd H pl (.lst (small.map fun c => V.str (sw [c])))) := kp_new hpl
  have hl1 : (upd H pl (.lst (small.map fun c => V.str (sw [c])))) pl = some (.lst (small.map fun c => V.str (sw [c]))) := upd_same
  generalize upd H pl (.lst (small.map fun c => V.str (sw [c]))) = H1 at p1 kp1 hl1
  refine ⟨_, _, rfl, ?_⟩
  have npl := hp.ne_free hpl
  refine ⟨_, rfl, _, rfl, _, _, rfl, rfl, d, c, n, 4, rfl, p1, by omega, by decide, by decide, fun H2 r r0 r1 kp p2 => ?_⟩
  refine ⟨_, _, rfl, rfl, _, rfl, by omega, by omega, ?_⟩
  have hl2 := kp _ _ hl1 npl
  have kp2 := kp1.trans kp
  refine for_range (fun i σ H3 => ∃ v4 fs rem, σ = [some (.ref d), some (.int 5), some (.ref pl), some (.str (sw fs)), v4] ∧ Kp d H H3 ∧ Pen H3 d c (n + 1 + i) ∧ H3 pl = some (.lst (rem.map fun c => V.str (sw [c]))) ∧ Drawn fs rem ∧ fs.length = i)
    ⟨_, [], small, by rw [← mt_eq]; rfl, kp2, p2, hl2, ⟨List.Perm.refl _⟩, rfl⟩ (fun i σ H3 hi ⟨v4, fs, rem, e, k3, p3, hl3, dr, hf⟩ => ?_) (fun σ H3 ⟨v4, fs, rem, e, k3, p3, hl3, dr, hf⟩ => ?_)
  · subst e
    have l26 : (fs ++ rem).length = 26 := dr.pm.length_eq
    rw [List.length_append] at l26
    have hrem : (rem.map fun c => V.str (sw [c])).length = rem.length := List.length_map _
    refine ⟨_, rfl, _, rfl, .inl ⟨rfl, _, SqL.of hl3⟩, ?_⟩
    refine ⟨_, rfl, _, rfl, pl, _, rfl, .inl (SqL.of hl3), d, c, n + 1 + i, _, rfl, p3, by omega, by rw [hrem]; omega, by rw [hrem]; omega, fun H4 r r0 r1 kp4 p4 => ?_⟩
    have hl4 := kp4 _ _ hl3 npl
    rw [hrem] at r1
    obtain ⟨x, hx⟩ : ∃ x, rem[r.toNat]? = some x := ⟨_, List.getElem?_eq_getElem (by omega)⟩
    refine ⟨pl, _, r, r.toNat, V.str (sw [x]), rfl, rfl, hl4, by omega, by omega, ?_, by rw [List.getElem?_map, hx]; rfl, ?_⟩
    · exact seq_ix r0 (by rw [hrem]; exact r1)
    refine ⟨_, _, rfl, rfl, by rw [sw_len, sw_len, sizeLine_eq]; show _ + 1 ≤ _; omega, ?_⟩
    rw [sw_app]
    refine ⟨_, fs ++ [x], rem.eraseIdx r.toNat, rfl, kp_put0 (k3.trans kp4) hpl, ?_, ?_, dr.step hx, by rw [List.length_append, hf]; rfl⟩
    · exact Pen.put hp hpl p4
    · rw [upd_same, erase_map]
  · subst e
    exact ⟨_, rfl, q _ fs (dr.ok (by omega)) (by omega) k3 (p3.mono (by omega))⟩
theorem ok_l_places (T : Tx P K mg) (B : Bx T base) : FnOk P w K mg base CX0 3 T.a_l_places T.fd_l_places ["_law_pen_here", "_law_letters_here", "_law_many"] spPlaces := by
  refine okT T.F_l_places sc_l_places (fun vs H Q E h => ?_) (fun cdv A outer s H vs Q E hcd hr h => ?_)
  · obtain ⟨d, c, n, z, rfl, _⟩ := h
    rfl
  have hu := hu_of hr
  have hu65 := hu65_of hr
  obtain ⟨d, c, n, z, rfl, hp, hn, hz, q⟩ := h
  have h2 := hz.l2
  have h26 := hz.l26
  refine ⟨_, (pss_cons (ps_set (i := 3) sc_l_places.nd rfl (by first | exact Or.inl rfl | exact Or.inr rfl) (pe_lst (pa_cons pe_str pa_nil)))
 (pss_cons (ps_for PassesOwn.never rfl (pi_range1 (by rfl) T.b_range (pa_cons (pv 2) pa_nil)) (pg_name (i := 4) sc_l_places.nd rfl (by first | exact Or.inl rfl | exact Or.inr rfl))
 (pss_cons (ps_set (i := 5) sc_l_places.nd rfl (by first | exact Or.inl rfl | exact Or.inr rfl) (pe_op op_add_str (pe_call (ok_l_pick T B) (hr.mono (by decide)) (by rfl) T.m_l_pick T.F_l_pick.kp T.bi_l_pick .nil pass0 (pa_cons (pv 0) (pa_cons (pv 3) pa_nil))) (pe_call (ok_l_pick T B) (hr.mono (by decide)) (by rfl) T.m_l_pick T.F_l_pick.kp T.bi_l_pick .nil pass0 (pa_cons (pv 0) (pa_cons (pv 1) pa_nil)))))
 (pss_one (ps_if (pt_cmpR op_notIn_seq (pv 5) (pv 3) (by rfl))
 (pss_one (ps_expr (pe_bm PySem.F.plainAttrs_list PySem.F.slot_list_append PySem.F.type_list_append mt_append (pv 3) (pa_cons (pv 5) pa_nil))))
 pss_nil))))
 (pss_one (ps_ret (pv 3))))), ?_⟩
  refine ⟨by show 1 ≤ sizeLine; decide, fun a ha => ?_⟩
  have p1 := hp.same (same_upd (o := .lst [V.str ("" : Str)]) ha)
  have kp1 : Kp d H (upd H a (.lst [V.str ("" : Str)])) := kp_new ha
  have hl1 : (upd H a (.lst [V.str ("" : Str)])) a = some (.lst (wsV [[]])) := by rw [upd_same, mt_eq]; rfl
  generalize upd H a (.lst [V.str ("" : Str)]) = H1 at p1 kp1 hl1
  have nad := hp.ne_free ha
  refine ⟨_, rfl, _, rfl, by decide, by decide, ?_⟩
  refine for_range (fun i σ H3 => ∃ v4 v5 ps, σ = [some (.ref d), some (.str (sw z)), some (.int 8), some (.ref a), v4, v5] ∧ Kp d H H3 ∧ Pen H3 d c (n + 2 * i) ∧ H3 a = some (.lst (wsV ps)) ∧ PlOk z ps i)
    ⟨_, _, [[]], rfl, kp1, p1, hl1, plok0⟩ (fun i σ H3 hi ⟨v4, v5, ps, e, k3, p3, hl3, pk⟩ => ?_) (fun σ H3 ⟨v4, v5, ps, e, k3, p3, hl3, pk⟩ => ?_)
  · subst e
    have hil : i < 8 := hi
    have hpl := pk.len
    have hp0 : 0 < ps.length := List.length_pos_of_mem pk.clo.1
    have hwl : (wsV ps).length = ps.length := List.length_map _
    refine ⟨_, rfl, _, rfl, .inl ⟨d, c, a, n + 2 * i, wsV ps, rfl, p3, by omega, SqL.of hl3, by rw [hwl]; exact hp0, by rw [hwl]; omega, nad, fun H4 x hx kp4 p4 => ?_⟩⟩
    obtain ⟨p, hpm, rfl⟩ := List.mem_map.mp hx
    refine ⟨_, rfl, _, rfl, .inr ⟨d, c, n + 2 * i + 1, sw z, rfl, p4, by omega, by rw [sw_len]; omega, by rw [sw_len]; omega, fun H5 y hy kp5 p5 => ?_⟩⟩
    have hyz : y ∈ z := hy
    have hl5 := kp5 _ _ (kp4 _ _ hl3 nad) nad
    have hpl12 := pk.l p hpm
    refine ⟨_, _, rfl, rfl, by rw [sw_len, sizeLine_eq]; show _ + 1 ≤ _; omega, ?_⟩
    rw [sw_one, sw_app]
    have k5 := (k3.trans kp4).trans kp5
    refine ⟨_, rfl, _, rfl, a, _, rfl, .inl (SqL.of hl5), rfl, wsV_flat ps, _, rfl, ?_⟩
    rw [wsV_in]
    refine ite2 (fun h => ?_) (fun h => ?_)
    · have hn' : p ++ [y] ∉ ps := by
        intro m
        simp [m] at h
      refine ⟨_, rfl, .inl ⟨rfl, _, SqL.of hl5⟩, _, rfl, a, _, _, rfl, rfl, hl5, by rw [hwl, sizeLine_eq]; omega, ?_⟩
      refine ⟨_, _, ps ++ [p ++ [y]], rfl, kp_put0 k5 ha, Pen.put hp ha (p5.mono (by omega)), ?_, pk.add hpm hyz hn'⟩
      rw [upd_same]
      unfold wsV
      rw [List.map_append]
      rfl
    · exact ⟨_, _, ps, rfl, k5, p5.mono (by omega), hl5, pk.up (Nat.le_succ _)⟩
  · subst e
    exact ⟨_, rfl, q _ a ps pk hl3 k3 p3⟩
theorem ok_l_row (T : Tx P K mg) (B : Bx T base) : FnOk P w K mg base CX0 2 T.a_l_row T.fd_l_row ["_law_pen_here", "_law_place"] spRowD := by
  refine okT T.F_l_row sc_l_row (fun vs H Q E h => ?_) (fun cdv A outer s H vs Q E hcd hr h => ?_)
  · obtain ⟨d, c, n, p, rfl, _⟩ := h
    rfl
  have hu := hu_of hr
  have hu65 := hu65_of hr
  obtain ⟨d, c, n, p, rfl, hp, hn, q⟩ := h
  refine ⟨_, (pss_cons (ps_set (i := 2) sc_l_row.nd rfl (by first | exact Or.inl rfl | exact Or.inr rfl) (pe_ifExp (pt_cmpR op_eq (pe_call (ok_l_draw T B) (hr.mono (by decide)) (by rfl) T.m_l_draw T.F_l_draw.kp T.bi_l_draw .nil pass0 (pa_cons (pv 0) (pa_cons pe_int pa_nil))) pe_int (nomark _)) pe_non (pe_op op_add pe_int (pe_call (ok_l_draw T B) (hr.mono (by decide)) (by rfl) T.m_l_draw T.F_l_draw.kp T.bi_l_draw .nil pass0 (pa_cons (pv 0) (pa_cons pe_int pa_nil))))))
 (pss_one (ps_ret (pe_tup (pa_cons (pv 1) (pa_cons (pv 2) (pa_cons (pe_cmpR op_eq (pe_call (ok_l_draw T B) (hr.mono (by decide)) (by rfl) T.m_l_draw T.F_l_draw.kp T.bi_l_draw .nil pass0 (pa_cons (pv 0) (pa_cons pe_int pa_nil))) pe_int (nomark _)) pa_nil))))))), ?_⟩
  refine asgS (fun v H2 => ∃ o : Option Int, v = oV o ∧ (∀ i, o = some i → 1 ≤ i ∧ i ≤ 9) ∧ Kp d H H2 ∧ Pen H2 d c (n + 2)) (fun R hR => ?_) (fun v H2 ⟨o, e, ho, k2, p2⟩ => ?_)
  · refine ⟨_, rfl, d, c, n, 2, rfl, hp, by omega, by decide, by decide, fun H1 r r0 r1 k1 p1 => ⟨rfl, _, rfl, ?_⟩⟩
    refine ite2 (fun h => ?_) (fun h => ?_)
    · exact hR _ _ ⟨none, rfl, (fun i h => by cases h), k1, p1.mono (by omega)⟩
    · refine ⟨_, rfl, d, c, n + 1, 9, rfl, p1, by omega, by decide, by decide, fun H2 r' r0' r1' k2 p2 => ⟨_, _, rfl, rfl, ?_⟩⟩
      exact hR _ _ ⟨some (1 + r'), rfl, (fun i h => by cases h; omega), k1.trans k2, p2⟩
  · subst e
    refine ⟨_, rfl, _, rfl, _, rfl, d, c, n + 2, 3, rfl, p2, by omega, by decide, by decide, fun H3 r r0 r1 k3 p3 => ⟨rfl, by show 3 ≤ sizeLine; decide, fun b hb => ?_⟩⟩
    exact q _ _ o _ ho ⟨b, rfl, upd_same⟩ ((k2.trans k3).trans (kp_new hb)) (p3.same (same_upd hb))
theorem ok_l_shuffled (T : Tx P K mg) (B : Bx T base) : FnOk P w K mg base CX0 2 T.a_l_shuffled T.fd_l_shuffled ["_law_pen_here", "_law_some"] (spShuf K) := by
  refine okT T.F_l_shuffled sc_l_shuffled (fun vs H Q E h => ?_) (fun cdv A outer s H vs Q E hcd hr h => ?_)
  · obtain ⟨d, c, a, n, xs, rfl, _⟩ := h
    rfl
  have hu := hu_of hr
  have hu65 := hu65_of hr
  obtain ⟨d, c, a, n, xs, rfl, hp, hn, ha, hx, q⟩ := h
  obtain ⟨kvs, hd⟩ := hp.at
  have nad : a ≠ d := ne_of ha hd (by intro z; cases z)
  refine ⟨_, (pss_cons (ps_set (i := 2) sc_l_shuffled.nd rfl (by first | exact Or.inl rfl | exact Or.inr rfl) (pe_lst pa_nil))
 (pss_cons (ps_for PassesOwn.never rfl (pi_list (pv 1)) (pg_name (i := 3) sc_l_shuffled.nd rfl (by first | exact Or.inl rfl | exact Or.inr rfl))
 (pss_one (ps_expr (pe_bm PySem.F.plainAttrs_list PySem.F.slot_list_insert PySem.F.type_list_insert mt_insert (pv 2) (pa_cons (pe_call (ok_l_draw T B) (hr.mono (by decide)) (by rfl) T.m_l_draw T.F_l_draw.kp T.bi_l_draw .nil pass0 (pa_cons (pv 0) (pa_cons (pe_op op_add (pe_callB call_len_seq (by rfl) T.b_len (by decide +kernel) (pa_cons (pv 2) pa_nil)) pe_int) pa_nil))) (pa_cons (pv 3) pa_nil))))))
 (pss_one (ps_ret (pv 2))))), ?_⟩
  refine ⟨Nat.zero_le _, fun b hb => ?_⟩
  have p1 := hp.same (same_upd (o := .lst []) hb)
  have kp1 : Kp d H (upd H b (.lst [])) := kp_new hb
  have hl1 : (upd H b (.lst [])) b = some (.lst []) := upd_same
  generalize upd H b (.lst []) = H1 at p1 kp1 hl1
  have nbd := hp.ne_free hb
  refine ⟨_, rfl, a, rfl, ⟨_, SqL.of (kp1 _ _ ha nad)⟩, ?_⟩
  refine for_it (walk_list (K := K) (a := a) (xs := xs)) (fun i σ H3 => ∃ v3 ys, σ = [some (.ref d), some (.ref a), some (.ref b), v3] ∧ Kp d H H3 ∧ Pen H3 d c (n + i) ∧ H3 b = some (.lst ys) ∧ ys.Perm (xs.take i))
    ⟨_, [], rfl, kp1, p1, hl1, by rw [List.take_zero]⟩ (fun i σ H3 _ ⟨_, _, _, k3, _⟩ => SqL.of (k3 _ _ ha nad)) (fun i x σ H3 H4 hi ⟨v3, ys, e, k3, p3, hl3, pm⟩ y => ?_) (fun σ H3 ⟨v3, ys, e, k3, p3, hl3, pm⟩ => ?_)
  · obtain ⟨rfl, hx2⟩ := y
    subst e
    have hyl : ys.length = i := by
      have := pm.length_eq
      rw [List.length_take] at this
      omega
    refine ⟨_, rfl, .inl ⟨rfl, _, SqL.of hl3⟩, ?_⟩
    refine ⟨_, rfl, _, rfl, b, _, rfl, .inl (SqL.of hl3), _, _, rfl, rfl, d, c, n + i, _, rfl, p3, by omega, by omega, by omega, fun H5 r r0 r1 k5 p5 => ?_⟩
    have hl5 := k5 _ _ hl3 nbd
    refine ⟨_, rfl, b, _, r, x, rfl, rfl, hl5, by rw [sizeLine_eq]; omega, r0, by omega, ?_⟩
    refine ⟨_, _, rfl, kp_put0 (k3.trans k5) hb, Pen.put hp hb (p5.mono (by omega)), upd_same, ?_⟩
    rw [List.take_add_one, hx2]
    refine List.Perm.trans ?_ (pm.append_right [x])
    rw [List.append_assoc]
    have : (ys.take r.toNat ++ ([x] ++ ys.drop r.toNat)).Perm ((ys.take r.toNat ++ ys.drop r.toNat) ++ [x]) := by
      rw [List.append_assoc]
      exact (List.perm_append_comm).append_left _
    rw [List.take_append_drop] at this
    exact this
  · subst e
    rw [List.take_of_length_le (Nat.le_refl _)] at pm
    exact ⟨_, rfl, q _ b ys pm hl3 k3 p3⟩
end
end Toy
set_option Elab.async false
set_option linter.all false
set_option maxRecDepth 100000
set_option maxHeartbeats 4000000
namespace Toy
open PySem L2 Sh ShL LamX NdefX
/-- a value that is looked for: a text, or none -/
def OddV (H : Hp) (v : V) : Prop := v = .non ∨ (∃ i, v = .int i) ∨ (∃ b, v = .bl b) ∨ ∃ b, v = .ref b ∧ ((∃ xs, H b = some (.lst xs)) ∨ (∃ xs, H b = some (.tup xs)) ∨ ∃ k x, H b = some (.dK [(k, x)]))
def PlN (H : Hp) (v : V) : Prop := (∃ p, v = .str (sw p)) ∨ OddV H v
theorem PlN.mono {H H' : Hp} {v : V} (k1 : ∀ b xs, H b = some (.lst xs) → H' b = some (.lst xs)) (k2 : ∀ b xs, H b = some (.tup xs) → H' b = some (.tup xs)) (k3 : ∀ b k x, H b = some (.dK [(k, x)]) → H' b = some (.dK [(k, x)])) (h : PlN H v) : PlN H' v := by
  rcases h with h | h | h | h | ⟨b, e, ⟨xs, h⟩ | ⟨xs, h⟩ | ⟨k, x, h⟩⟩
  · exact .inl h
  · exact .inr (.inl h)
  · exact .inr (.inr (.inl h))
  · exact .inr (.inr (.inr (.inl h)))
  · exact .inr (.inr (.inr (.inr ⟨b, e, .inl ⟨xs, k1 _ _ h⟩⟩)))
  · exact .inr (.inr (.inr (.inr ⟨b, e, .inr (.inl ⟨xs, k2 _ _ h⟩)⟩)))
  · exact .inr (.inr (.inr (.inr ⟨b, e, .inr (.inr ⟨k, x, k3 _ _ _ h⟩)⟩)))
theorem PlN.same {H H' : Hp} {v : V} (s : Same H H') (h : PlN H v) : PlN H' v := h.mono (fun _ _ => s _ _) (fun _ _ => s _ _) fun _ _ _ => s _ _
theorem PlN.sm {T : List (Addr × Str)} {H H' : Hp} {v : V} (s : Sm T H H') (h : PlN H v) : PlN H' v := h.mono (fun _ _ q => s.get q) (fun _ _ q => s.get q) fun _ _ _ q => s.get q
theorem PlN.kp {H H' : Hp} {d c : Addr} {n : Nat} {v : V} (hp : Pen H d c n) (s : Kp d H H') (h : PlN H v) : PlN H' v := by
  obtain ⟨ns, b, l, hd, _⟩ := hp
  exact h.mono (fun _ _ q => s _ _ q (ne_of q hd (by intro z; cases z))) (fun _ _ q => s _ _ q (ne_of q hd (by intro z; cases z))) fun _ _ _ q => s _ _ q (ne_of q hd (by intro z; have := HO.dK.inj z; unfold penL at this; cases this))
theorem PlN.pl {K : PySem.W.Frag} {H : Hp} {v : V} (h : PlN H v) : ∃ p, PlV K H v p := by
  have no : ∀ t, PySem.W.kitOne K (.type t) (.type "str") = some false → TyX K H v (.type t) → ∃ p, PlV K H v p := fun t h1 h2 => ⟨none, _, h2, h1⟩
  rcases h with ⟨p, h⟩ | rfl | ⟨i, rfl⟩ | ⟨b, rfl⟩ | ⟨b, rfl, ⟨xs, h⟩ | ⟨xs, h⟩ | ⟨k, x, h⟩⟩
  · exact ⟨some p, h⟩
  · exact no _ (kit_ty (by decide +kernel)) (.base .non)
  · exact no _ (kit_ty (by decide +kernel)) (.base (.int _))
  · exact no _ (kit_ty (by decide +kernel)) (.base (.bl _))
  · exact no _ (kit_ty (by decide +kernel)) (.base (.lst h))
  · exact no _ (kit_ty (by decide +kernel)) (.base (.tup h))
  · exact no _ (kit_ty (by decide +kernel)) (.base (.dK h))
theorem PlN.str {H : Hp} (s : Str) : PlN H (.str s) := .inl ⟨s.cps.toList, by rw [← sw_of]⟩
end Toy
set_option Elab.async false
set_option linter.all false
set_option maxRecDepth 100000
set_option maxHeartbeats 4000000
namespace Toy
open PySem L2 Sh ShL LamX NdefX
/-! ### kinds -/
abbrev Kd := Bool × Bool × Int
def kdD (k : Kd) : PyData := .tuple [.bool k.1, .bool k.2.1, .int k.2.2]
def IsK (H : Hp) (v : V) (k : Kd) : Prop := ∃ t, v = .ref t ∧ H t = some (.tup [.bl k.1, .bl k.2.1, .int k.2.2])
abbrev AllK (H : Hp) : List V → List Kd → Prop := Paired (IsK H)
theorem IsK.dp {K : PySem.W.Frag} {H : Hp} {v : V} {k : Kd} (h : IsK H v k) : Dp K H v (kdD k) := by
  obtain ⟨t, rfl, e⟩ := h
  exact .tup (SqT.of e) (.cons (.bl _) (.cons (.bl _) (.cons (.int _) .nil)))
theorem AllK.dp {K : PySem.W.Frag} {H : Hp} : ∀ {vs : List V} {ks : List Kd}, AllK H vs ks → DpAll K H vs (ks.map kdD)
  | _, _, .nil => .nil
  | _, _, .cons r t => .cons r.dp (AllK.dp t)
theorem IsK.same {H H' : Hp} {v : V} {k : Kd} (s : Same H H') (h : IsK H v k) : IsK H' v k := by
  obtain ⟨t, rfl, e⟩ := h
  exact ⟨t, rfl, s _ _ e⟩
theorem IsK.kp {H H' : Hp} {d : Addr} {v : V} {k : Kd} (s : Kp d H H') (hd : ∃ kvs, H d = some (.dK kvs)) (h : IsK H v k) : IsK H' v k := by
  obtain ⟨t, rfl, e⟩ := h
  obtain ⟨kvs, hd⟩ := hd
  exact ⟨t, rfl, s _ _ e (ne_of e hd (by intro z; cases z))⟩
theorem AllK.mono {H H' : Hp} (f : ∀ v k, IsK H v k → IsK H' v k) : ∀ {vs : List V} {ks : List Kd}, AllK H vs ks → AllK H' vs ks
  | _, _, .nil => .nil
  | _, _, .cons r t => .cons (f _ _ r) (AllK.mono f t)
theorem AllK.same {H H' : Hp} {vs : List V} {ks : List Kd} (s : Same H H') (h : AllK H vs ks) : AllK H' vs ks := AllK.mono (fun _ _ => IsK.same s) h
theorem AllK.len {H : Hp} : ∀ {vs : List V} {ks : List Kd}, AllK H vs ks → vs.length = ks.length
  | _, _, .nil => rfl
  | _, _, .cons _ t => congrArg (· + 1) (AllK.len t)
theorem AllK.get {H : Hp} : ∀ {vs : List V} {ks : List Kd} {i : Nat} {v : V}, AllK H vs ks → vs[i]? = some v → ∃ k, ks[i]? = some k ∧ IsK H v k
  | _, _, _, _, .nil, e => by simp at e
  | _, _, 0, _, .cons r _, e => by simp at e; subst e; exact ⟨_, rfl, r⟩
  | _, _, i + 1, v, .cons _ t, e => by
    obtain ⟨k, h1, h2⟩ := AllK.get (i := i) (v := v) t (by simpa using e)
    exact ⟨k, by simpa using h1, h2⟩
theorem AllK.append {H : Hp} : ∀ {vs ws : List V} {ks js : List Kd}, AllK H vs ks → AllK H ws js → AllK H (vs ++ ws) (ks ++ js)
  | _, _, _, _, .nil, s => s
  | _, _, _, _, .cons r t, s => .cons r (AllK.append t s)
theorem AllK.take {H : Hp} : ∀ {vs : List V} {ks : List Kd} (n : Nat), AllK H vs ks → AllK H (vs.take n) (ks.take n)
  | _, _, 0, _ => .nil
  | _, _, _ + 1, .nil => .nil
  | _, _, n + 1, .cons r t => .cons r (AllK.take n t)
theorem AllK.drop {H : Hp} : ∀ {vs : List V} {ks : List Kd} (n : Nat), AllK H vs ks → AllK H (vs.drop n) (ks.drop n)
  | _, _, 0, r => r
  | _, _, _ + 1, .nil => .nil
  | _, _, n + 1, .cons _ t => AllK.drop n t
theorem kd_eqv (a b : Kd) : PyData.eqv (kdD a) (kdD b) = decide (a = b) := by
  obtain ⟨a1, a2, a3⟩ := a
  obtain ⟨b1, b2, b3⟩ := b
  simp only [kdD, PyData.eqv, PyData.eqvAll]
  cases a1 <;> cases a2 <;> cases b1 <;> cases b2 <;> simp [Bool.beq_eq_decide_eq]
theorem kd_any (k : Kd) : ∀ ks : List Kd, ((ks.map kdD).any fun z => PyData.eqv z (kdD k)) = decide (k ∈ ks)
  | [] => by simp
  | a :: ks => by
    rw [List.map_cons, List.any_cons, kd_any k ks, kd_eqv]
    by_cases h : a = k
    · subst h; simp
    · have h' : ¬ k = a := fun e => h e.symm
      simp [h, h']
theorem kd_depth (k : Kd) : (kdD k).depth = 1 := by simp [kdD, PyData.depth, PyData.depthAll]
theorem kd_lay (k : Kd) : (kdD k).canLay0 = true := by simp [kdD, PyData.canLay0, PyData.canLayAll0]
theorem kds_lay : ∀ ks : List Kd, PyData.canLayAll0 (ks.map kdD) = true
  | [] => by simp [PyData.canLayAll0]
  | z :: zs => by simp [PyData.canLayAll0, kd_lay z, kds_lay zs]
theorem kds_depth : ∀ ks : List Kd, PyData.depthAll (ks.map kdD) ≤ 1
  | [] => by simp [PyData.depthAll]
  | z :: zs => by
    have h1 := kds_depth zs
    have h2 := kd_depth z
    simp only [List.map_cons, PyData.depthAll]
    omega
theorem kd_shaped (k : Kd) : SeqAt.shaped (kdD k) = true := by
  have h := kd_depth k
  show ((kdD k).canLay0 && decide ((kdD k).depth ≤ 64)) = true
  rw [Bool.and_eq_true]
  exact ⟨kd_lay k, decide_eq_true (by omega)⟩
theorem kds_shapedL (ks : List Kd) : SeqAt.shaped (.list (ks.map kdD)) = true := by
  have h1 := kds_depth ks
  have h2 : PyData.depth (.list (ks.map kdD)) ≤ 64 := by
    simp only [PyData.depth]
    omega
  show (PyData.canLay0 (.list (ks.map kdD)) && decide (PyData.depth (.list (ks.map kdD)) ≤ 64)) = true
  rw [Bool.and_eq_true]
  exact ⟨by simp only [PyData.canLay0]; exact kds_lay ks, decide_eq_true h2⟩
theorem kds_shapedT (ks : List Kd) : SeqAt.shaped (.tuple (ks.map kdD)) = true := by
  have h1 := kds_depth ks
  have h2 : PyData.depth (.tuple (ks.map kdD)) ≤ 64 := by
    simp only [PyData.depth]
    omega
  show (PyData.canLay0 (.tuple (ks.map kdD)) && decide (PyData.depth (.tuple (ks.map kdD)) ≤ 64)) = true
  rw [Bool.and_eq_true]
  exact ⟨by simp only [PyData.canLay0]; exact kds_lay ks, decide_eq_true h2⟩
theorem kd_alike (a b : Kd) : PySem.W.alike (kdD a) (kdD b) = true := by simp [kdD, PySem.W.alike, PySem.W.alikeAll]
theorem AllK.dpa {K : PySem.W.Frag} {H : Hp} {vs : List V} {ks : List Kd} (h : AllK H vs ks) : DpAll K H vs (ks.map kdD) := AllK.dp h
theorem kdD_inj {a b : Kd} (h : kdD a = kdD b) : a = b := by
  obtain ⟨a1, a2, a3⟩ := a
  obtain ⟨b1, b2, b3⟩ := b
  simp only [kdD, PyData.tuple.injEq, List.cons.injEq, PyData.bool.injEq, PyData.int.injEq] at h
  obtain ⟨h1, h2, h3, _⟩ := h
  rw [h1, h2, h3]
theorem kds_eqv : ∀ ks js : List Kd, PyData.eqvAll (ks.map kdD) (js.map kdD) = decide (ks = js)
  | [], [] => by simp [PyData.eqvAll]
  | [], _ :: _ => by simp [PyData.eqvAll]
  | _ :: _, [] => by simp [PyData.eqvAll]
  | k :: ks, j :: js => by
    simp only [List.map_cons, PyData.eqvAll, kd_eqv, kds_eqv ks js]
    rw [Bool.eq_iff_iff]
    simp
/-! the order of kinds -/
def leK (a b : Kd) : Bool := PySem.W.dataLe false kdD a b
theorem leK_total : PySem.W.TotalLe leK := PySem.W.sortLe_total (PyProof.Rows.listOrd PyProof.Rows.itemOrd) false fun k => PySem.W.keyToks (kdD k)
theorem toks_inj {a b : Kd} (h : PySem.W.keyToks (kdD a) = PySem.W.keyToks (kdD b)) : a = b := by
  obtain ⟨a1, a2, a3⟩ := a
  obtain ⟨b1, b2, b3⟩ := b
  simp only [kdD, PySem.W.keyToks, PySem.W.keyToksAll, List.cons_append, List.nil_append, List.cons.injEq, Sum.inl.injEq, true_and, and_true] at h
  obtain ⟨h1, h2, h3⟩ := h
  subst h3
  cases a1 <;> cases b1 <;> cases a2 <;> cases b2 <;> simp_all
theorem leK_anti {a b : Kd} (h1 : leK a b = true) (h2 : leK b a = true) : a = b := by
  have e1 : (!(PyProof.Rows.listOrd PyProof.Rows.itemOrd).blt (PySem.W.keyToks (kdD b)) (PySem.W.keyToks (kdD a))) = true := h1
  have e2 : (!(PyProof.Rows.listOrd PyProof.Rows.itemOrd).blt (PySem.W.keyToks (kdD a)) (PySem.W.keyToks (kdD b))) = true := h2
  rw [Bool.not_eq_true'] at e1 e2
  exact toks_inj ((PyProof.Rows.listOrd PyProof.Rows.itemOrd).total _ _ e2 e1)
/-- ascending -/
abbrev SrtK (ks : List Kd) : Prop := ks.Pairwise fun a b => leK a b = true
theorem srt_uniq {ks js : List Kd} (h1 : SrtK ks) (h2 : SrtK js) (p : ks.Perm js) : ks = js :=
  List.Perm.eq_of_pairwise (le := fun a b => leK a b = true) (fun a b _ _ x y => leK_anti x y) h1 h2 p
theorem pairs_k {H : Hp} : ∀ (L : List (V × PyData)), (∀ p ∈ L, ∃ k, p.2 = kdD k ∧ IsK H p.1 k) → ∃ js, AllK H (L.map Prod.fst) js ∧ L.map Prod.snd = js.map kdD
  | [], _ => ⟨[], .nil, rfl⟩
  | p :: L, h => by
    obtain ⟨js, h1, h2⟩ := pairs_k L fun p hp => h p (List.mem_cons_of_mem _ hp)
    obtain ⟨k, e, hk⟩ := h p List.mem_cons_self
    exact ⟨k :: js, .cons hk h1, by rw [List.map_cons, List.map_cons, h2, e]⟩
theorem zip_k {H : Hp} : ∀ {xs : List V} {ks : List Kd}, AllK H xs ks → ∀ p ∈ xs.zip (ks.map kdD), ∃ k, p.2 = kdD k ∧ IsK H p.1 k
  | _, _, .nil, p, hp => by simp at hp
  | _, _, .cons r t, p, hp => by
    rw [List.map_cons, List.zip_cons_cons, List.mem_cons] at hp
    rcases hp with rfl | hp
    · exact ⟨_, rfl, r⟩
    · exact zip_k t p hp
theorem map_perm {js ks : List Kd} (h : (js.map kdD).Perm (ks.map kdD)) : js.Perm ks := by
  have : ((js.map kdD).map fun d => match d with | .tuple [.bool a, .bool b, .int c] => ((a, b, c) : Kd) | _ => (false, false, 0)).Perm ((ks.map kdD).map fun d => match d with | .tuple [.bool a, .bool b, .int c] => ((a, b, c) : Kd) | _ => (false, false, 0)) := h.map _
  rw [List.map_map, List.map_map] at this
  have e : ∀ l : List Kd, l.map ((fun d => match d with | .tuple [.bool a, .bool b, .int c] => ((a, b, c) : Kd) | _ => (false, false, 0)) ∘ kdD) = l := fun l => by
    conv => rhs; rw [← List.map_id l]
    exact List.map_congr_left fun k _ => rfl
  rw [e, e] at this
  exact this
theorem sort_k {H : Hp} {xs : List V} {ks : List Kd} (h : AllK H xs ks) : ∃ js, AllK H ((sortPairs xs (ks.map kdD)).map Prod.fst) js ∧ js.Perm ks ∧ SrtK js := by
  have hp : (sortPairs xs (ks.map kdD)).Perm (xs.zip (ks.map kdD)) := List.mergeSort_perm _ _
  obtain ⟨js, h1, h2⟩ := pairs_k (H := H) (sortPairs xs (ks.map kdD)) fun p hp' => zip_k h p (hp.mem_iff.mp hp')
  have h3 : (js.map kdD).Perm (ks.map kdD) := by
    rw [← h2]
    have := hp.map Prod.snd
    rw [zip_snd (by rw [List.length_map]; exact AllK.len h)] at this
    exact this
  refine ⟨js, h1, map_perm h3, ?_⟩
  have tl : PySem.W.TotalLe (PySem.W.dataLe false (Prod.snd : V × PyData → PyData)) := PySem.W.sortLe_total _ _ _
  have h4 := List.pairwise_mergeSort (le := PySem.W.dataLe false (Prod.snd : V × PyData → PyData)) tl.trans (fun a b => by
    rcases tl.total a b with z | z <;> simp [z]) (xs.zip (ks.map kdD))
  have h5 : ((sortPairs xs (ks.map kdD)).map Prod.snd).Pairwise fun a b => PySem.W.dataLe false id a b = true := List.pairwise_map.mpr h4
  rw [h2, List.pairwise_map] at h5
  exact h5
theorem alike_k (ks : List Kd) : PySem.W.AllAlike (ks.map kdD) := PySem.W.AllAlike.of kd_alike
theorem sortable_k (ks : List Kd) : PySem.W.Sortable (ks.map kdD) := PySem.W.Sortable.tuples fun b => ⟨_, _, rfl⟩
theorem depth_k (ks : List Kd) : ∀ d ∈ ks.map kdD, d.depth ≤ 60 := fun d hd => by
  obtain ⟨k, _, rfl⟩ := List.mem_map.mp hd
  rw [kd_depth]
  decide
/-! ### values of some type -/
def TyN (H : Hp) : V → String → Prop
  | .non, t => t = "NoneType"
  | .bl _, t => t = "bool"
  | .int _, t => t = "int"
  | .str _, t => t = "str"
  | .ref p, t => (t = "list" ∧ ∃ xs, H p = some (.lst xs)) ∨ (t = "tuple" ∧ ∃ xs, H p = some (.tup xs)) ∨ (t = "dict" ∧ ∃ kvs, H p = some (.dK kvs))
  | _, _ => False
theorem TyN.ty {K : PySem.W.Frag} {H : Hp} : ∀ {x : V} {t : String}, TyN H x t → TyX K H x (.type t)
  | .non, _, rfl => .base .non
  | .bl b, _, rfl => .base (.bl b)
  | .int i, _, rfl => .base (.int i)
  | .str s, _, rfl => .base (.str s)
  | .ref p, _, .inl ⟨rfl, xs, h⟩ => .base (.lst h)
  | .ref p, _, .inr (.inl ⟨rfl, xs, h⟩) => .base (.tup h)
  | .ref p, _, .inr (.inr ⟨rfl, xs, h⟩) => .base (.dK h)
abbrev tyNs : List String := ["NoneType", "bool", "int", "str", "list", "tuple", "dict"]
theorem TyN.mem {H : Hp} : ∀ {x : V} {t : String}, TyN H x t → t ∈ tyNs
  | .non, _, rfl => by decide
  | .bl b, _, rfl => by decide
  | .int i, _, rfl => by decide
  | .str s, _, rfl => by decide
  | .ref p, _, .inl ⟨rfl, xs, h⟩ => by decide
  | .ref p, _, .inr (.inl ⟨rfl, xs, h⟩) => by decide
  | .ref p, _, .inr (.inr ⟨rfl, xs, h⟩) => by decide
/-- what keeps the types: lists, tuples, dicts stay such -/
def KpT (H H' : Hp) : Prop := (∀ b xs, H b = some (.lst xs) → ∃ ys, H' b = some (.lst ys)) ∧ (∀ b xs, H b = some (.tup xs) → H' b = some (.tup xs)) ∧ ∀ b kvs, H b = some (.dK kvs) → ∃ kvs', H' b = some (.dK kvs')
theorem TyN.kp {H H' : Hp} (k : KpT H H') : ∀ {x : V} {t : String}, TyN H x t → TyN H' x t
  | .non, _, h => h
  | .bl b, _, h => h
  | .int i, _, h => h
  | .str s, _, h => h
  | .ref p, _, .inl ⟨e, xs, h⟩ => .inl ⟨e, k.1 _ _ h⟩
  | .ref p, _, .inr (.inl ⟨e, xs, h⟩) => .inr (.inl ⟨e, xs, k.2.1 _ _ h⟩)
  | .ref p, _, .inr (.inr ⟨e, xs, h⟩) => .inr (.inr ⟨e, k.2.2 _ _ h⟩)
theorem kpT_same {H H' : Hp} (s : Same H H') : KpT H H' := ⟨fun _ _ h => ⟨_, s _ _ h⟩, fun _ _ h => s _ _ h, fun _ _ h => ⟨_, s _ _ h⟩⟩
theorem kpT_sm {T : List (Addr × Str)} {H H' : Hp} (s : Sm T H H') : KpT H H' := ⟨fun _ _ h => ⟨_, s.get h⟩, fun _ _ h => s.get h, fun _ _ h => ⟨_, s.get h⟩⟩
theorem kpT_pen {H H' : Hp} {d c : Addr} {n m : Nat} (p : Pen H d c n) (s : Kp d H H') (p' : Pen H' d c m) : KpT H H' := by
  obtain ⟨kvs, hd⟩ := p.at
  obtain ⟨kvs', hd'⟩ := p'.at
  refine ⟨fun b xs h => ⟨_, s _ _ h (ne_of h hd (by intro z; cases z))⟩, fun b xs h => s _ _ h (ne_of h hd (by intro z; cases z)), fun b kvs h => ?_⟩
  by_cases e : b = d
  · exact ⟨_, by rw [e]; exact hd'⟩
  · exact ⟨_, s _ _ h e⟩
theorem KpT.trans {H H1 H2 : Hp} (a : KpT H H1) (b : KpT H1 H2) : KpT H H2 := ⟨fun x xs h => let ⟨_, h⟩ := a.1 x xs h; b.1 _ _ h, fun x xs h => b.2.1 _ _ (a.2.1 x xs h), fun x xs h => let ⟨_, h⟩ := a.2.2 x xs h; b.2.2 _ _ h⟩
theorem kit_bool {K : PySem.W.Frag} {t : String} (h : t ∈ tyNs) : PySem.W.kitOne K (.type t) (.type "bool") = some (decide (t = "bool")) := by
  simp only [List.mem_cons, List.not_mem_nil, or_false] at h
  rcases h with rfl | rfl | rfl | rfl | rfl | rfl | rfl <;> exact kit_ty (by decide +kernel)
theorem kit_int {K : PySem.W.Frag} {t : String} (h : t ∈ tyNs) : PySem.W.kitOne K (.type t) (.type "int") = some (decide (t = "int" ∨ t = "bool")) := by
  simp only [List.mem_cons, List.not_mem_nil, or_false] at h
  rcases h with rfl | rfl | rfl | rfl | rfl | rfl | rfl <;> exact kit_ty (by decide +kernel)
theorem kit_str {K : PySem.W.Frag} {t : String} (h : t ∈ tyNs) : PySem.W.kitOne K (.type t) (.type "str") = some (decide (t = "str")) := by
  simp only [List.mem_cons, List.not_mem_nil, or_false] at h
  rcases h with rfl | rfl | rfl | rfl | rfl | rfl | rfl <;> exact kit_ty (by decide +kernel)
theorem kit_lot {K : PySem.W.Frag} {t : String} (h : t ∈ tyNs) : PySem.W.kitAny K (.type t) [.type "list", .type "tuple"] = some (decide (t = "list" ∨ t = "tuple")) := by
  simp only [List.mem_cons, List.not_mem_nil, or_false] at h
  rcases h with rfl | rfl | rfl | rfl | rfl | rfl | rfl
  all_goals first
    | exact kitAny_cons (b := true) (kit_ty (by decide +kernel)) (fun z => nomatch z) fun _ => rfl
    | exact kitAny_cons (b := false) (kit_ty (by decide +kernel)) (fun _ => kitAny_cons (b := true) (kit_ty (by decide +kernel)) (fun z => nomatch z) fun _ => rfl) fun z => nomatch z
    | exact kitAny_cons (b := false) (kit_ty (by decide +kernel)) (fun _ => kitAny_cons (b := false) (kit_ty (by decide +kernel)) (fun _ => rfl) fun z => nomatch z) fun z => nomatch z
end Toy
set_option Elab.async false
set_option linter.all false
set_option maxRecDepth 100000
set_option maxHeartbeats 4000000
namespace Toy
open PySem L2 Sh ShL LamX NdefX
/-! ### is_kind, kinds_of -/
abbrev kdVs (k : Kd) : List V := [.bl k.1, .bl k.2.1, .int k.2.2]
/-- a kind, told by a list or a tuple -/
def KiE (H : Hp) (v : V) (k : Kd) : Prop := ∃ t, v = .ref t ∧ (H t = some (.lst (kdVs k)) ∨ H t = some (.tup (kdVs k)))
def Bad3 (H : Hp) (x y z : V) : Prop := (∃ t, TyN H x t ∧ t ≠ "bool") ∨ ((∃ b, x = .bl b) ∧ ((∃ t, TyN H y t ∧ t ≠ "bool") ∨ ((∃ c, y = .bl c) ∧ ((∃ t, TyN H z t ∧ t ≠ "int") ∨ ∃ i : Int, z = .int i ∧ (i < 0 ∨ 2 < i)))))
/-- none -/
def NoK (H : Hp) (v : V) : Prop := (∃ t, TyN H v t ∧ t ≠ "list" ∧ t ≠ "tuple") ∨ ∃ p xs, v = .ref p ∧ (H p = some (.lst xs) ∨ H p = some (.tup xs)) ∧ (xs.length ≠ 3 ∨ ∃ x y z, xs = [x, y, z] ∧ Bad3 H x y z)
def KV (H : Hp) (v : V) : Option Kd → Prop
  | some k => KiE H v k ∧ 0 ≤ k.2.2 ∧ k.2.2 ≤ 2
  | none => NoK H v
/-- lists and tuples stay, dicts stay dicts -/
def KpS (H H' : Hp) : Prop := (∀ b xs, H b = some (.lst xs) → H' b = some (.lst xs)) ∧ (∀ b xs, H b = some (.tup xs) → H' b = some (.tup xs)) ∧ ∀ b kvs, H b = some (.dK kvs) → ∃ kvs', H' b = some (.dK kvs')
theorem KpS.t {H H' : Hp} (k : KpS H H') : KpT H H' := ⟨fun b xs h => ⟨_, k.1 b xs h⟩, k.2.1, k.2.2⟩
theorem kpS_same {H H' : Hp} (s : Same H H') : KpS H H' := ⟨fun _ _ h => s _ _ h, fun _ _ h => s _ _ h, fun _ _ h => ⟨_, s _ _ h⟩⟩
theorem kpS_sm {T : List (Addr × Str)} {H H' : Hp} (s : Sm T H H') : KpS H H' := ⟨fun _ _ h => s.get h, fun _ _ h => s.get h, fun _ _ h => ⟨_, s.get h⟩⟩
theorem kpS_pen {H H' : Hp} {d c : Addr} {n m : Nat} (p : Pen H d c n) (s : Kp d H H') (p' : Pen H' d c m) : KpS H H' := by
  obtain ⟨kvs, hd⟩ := p.at
  exact ⟨fun b xs h => s _ _ h (ne_of h hd (by intro z; cases z)), fun b xs h => s _ _ h (ne_of h hd (by intro z; cases z)), (kpT_pen p s p').2.2⟩
theorem kpS_ins {H H' : Hp} {o C dx : Addr} {fs : List (Str × V)} (h : H o = some (.ins C dx fs)) (s : Kp o H H') : KpS H H' :=
  ⟨fun b xs q => s _ _ q (ne_of q h (by intro z; cases z)), fun b xs q => s _ _ q (ne_of q h (by intro z; cases z)), fun b xs q => ⟨_, s _ _ q (ne_of q h (by intro z; cases z))⟩⟩
theorem KpS.trans {H H1 H2 : Hp} (a : KpS H H1) (b : KpS H1 H2) : KpS H H2 := ⟨fun x xs h => b.1 _ _ (a.1 x xs h), fun x xs h => b.2.1 _ _ (a.2.1 x xs h), fun x xs h => let ⟨_, h⟩ := a.2.2 x xs h; b.2.2 _ _ h⟩
theorem KpS.refl (H : Hp) : KpS H H := ⟨fun _ _ h => h, fun _ _ h => h, fun _ _ h => ⟨_, h⟩⟩
theorem KiE.kp {H H' : Hp} {v : V} {k : Kd} (s : KpS H H') (h : KiE H v k) : KiE H' v k := let ⟨t, e, h⟩ := h; ⟨t, e, h.imp (s.1 _ _) (s.2.1 _ _)⟩
theorem IsK.kpS {H H' : Hp} {v : V} {k : Kd} (s : KpS H H') (h : IsK H v k) : IsK H' v k := let ⟨t, e, h⟩ := h; ⟨t, e, s.2.1 _ _ h⟩
theorem IsK.e {H : Hp} {v : V} {k : Kd} (h : IsK H v k) : KiE H v k := let ⟨t, e, h⟩ := h; ⟨t, e, .inr h⟩
theorem Bad3.kp {H H' : Hp} {x y z : V} (s : KpS H H') (h : Bad3 H x y z) : Bad3 H' x y z := by
  rcases h with ⟨t, h, n⟩ | ⟨b, ⟨t, h, n⟩ | ⟨c, ⟨t, h, n⟩ | h⟩⟩
  · exact .inl ⟨t, h.kp s.t, n⟩
  · exact .inr ⟨b, .inl ⟨t, h.kp s.t, n⟩⟩
  · exact .inr ⟨b, .inr ⟨c, .inl ⟨t, h.kp s.t, n⟩⟩⟩
  · exact .inr ⟨b, .inr ⟨c, .inr h⟩⟩
theorem NoK.kp {H H' : Hp} {v : V} (s : KpS H H') (h : NoK H v) : NoK H' v := by
  rcases h with ⟨t, h, n⟩ | ⟨p, xs, e, h, n | ⟨x, y, z, e2, n⟩⟩
  · exact .inl ⟨t, h.kp s.t, n⟩
  · exact .inr ⟨p, xs, e, h.imp (s.1 _ _) (s.2.1 _ _), .inl n⟩
  · exact .inr ⟨p, xs, e, h.imp (s.1 _ _) (s.2.1 _ _), .inr ⟨x, y, z, e2, n.kp s⟩⟩
theorem KV.kp {H H' : Hp} {v : V} : ∀ {o : Option Kd}, KpS H H' → KV H v o → KV H' v o
  | some _, s, ⟨h, r⟩ => ⟨h.kp s, r⟩
  | none, s, h => NoK.kp s h
abbrev AllV (H : Hp) : List V → List (Option Kd) → Prop := Paired (KV H)
theorem AllV.kp {H H' : Hp} {vs : List V} {os : List (Option Kd)} (s : KpS H H') (h : AllV H vs os) : AllV H' vs os := paired_mono (fun _ _ q => KV.kp s q) h
theorem AllK.kpS {H H' : Hp} {vs : List V} {ks : List Kd} (s : KpS H H') (h : AllK H vs ks) : AllK H' vs ks := paired_mono (fun _ _ q => IsK.kpS s q) h
def spIsKind : Sp := fun vs H Q _ => ∃ (v : V) (o : Option Kd), vs = [v] ∧ KV H v o ∧ ∀ H', Same H H' → Q (.bl o.isSome) H'
def SqA (H : Hp) (a : Addr) (xs : List V) : Prop := H a = some (.lst xs) ∨ H a = some (.tup xs)
theorem SqA.kp {H H' : Hp} {a : Addr} {xs : List V} (s : KpS H H') (h : SqA H a xs) : SqA H' a xs := h.imp (s.1 _ _) (s.2.1 _ _)
/-- the list's kinds, all of them right and none twice -/
def Fine (os : List (Option Kd)) (ks : List Kd) : Prop := os = ks.map some ∧ ks.Nodup
/-- at i the first that is wrong -/
def Wrong (os : List (Option Kd)) (i : Nat) : Prop := ∃ o ks, os[i]? = some o ∧ Fine (os.take i) ks ∧ (o = none ∨ ∃ k ∈ ks, o = some k)
def spKinds (C : Addr) : Sp := fun vs H Q E => ∃ (z : Str) (a : Addr) (xs : List V) (os : List (Option Kd)), vs = [.str z, .ref a] ∧ SqA H a xs ∧ AllV H xs os ∧ os.length ≤ 40 ∧
  (∀ ks, Fine os ks → ∀ H' p ys js, Same H H' → H p = none → H' p = some (.tup ys) → AllK H' ys js → js.Perm ks → SrtK js → Q (.ref p) H') ∧
  (∀ i, Wrong os i → ∀ H' d, Same H H' → H d = none → H' d = some (exd d [("number", .int (i : Nat)), ("side", .str z)]) → E (.ref C) (some d) H')
theorem fine_nil : Fine [] [] := ⟨rfl, List.nodup_nil⟩
theorem fine_add {os : List (Option Kd)} {ks : List Kd} {k : Kd} (h : Fine os ks) (n : k ∉ ks) : Fine (os ++ [some k]) (ks ++ [k]) := by
  refine ⟨by rw [h.1, List.map_append]; rfl, List.nodup_append.mpr ⟨h.2, by simp, fun a ha b hb => ?_⟩⟩
  rw [List.mem_singleton.mp hb]
  exact fun e => n (by rw [← e]; exact ha)
section
variable {P : Program} {w : World} {K : PySem.W.Frag} {mg : Str → Option Value} {base : Heap}
theorem ok_is_kind (T : Tx P K mg) (B : Bx T base) : FnOk P w K mg base CX0 1 T.a_is_kind T.fd_is_kind ["kind"] spIsKind := by
  refine okT T.F_is_kind sc_is_kind (fun vs H Q E h => ?_) (fun cdv A outer s H vs Q E hcd hr h => ?_)
  · obtain ⟨v, o, rfl, _⟩ := h
    rfl
  have hu := hu_of hr
  have hu65 := hu65_of hr
  obtain ⟨v, o, rfl, hv, q⟩ := h
  refine ⟨_, (pss_cons (ps_if (PW.pt (pw_or (pt_not (pt_val (pe_callB call_isiT (by rfl) T.b_isinstance (by decide +kernel) (pa_cons (pv 0) (pa_cons (pe_tup (pa_cons (pe_bltn (v := .ty "list") (by rfl) T.b_list (by decide +kernel) rfl) (pa_cons (pe_bltn (v := .ty "tuple") (by rfl) T.b_tuple (by decide +kernel) rfl) pa_nil))) pa_nil))))) (pw_or1 (pt_cmpR op_ne (pe_callB call_len_seq (by rfl) T.b_len (by decide +kernel) (pa_cons (pv 0) pa_nil)) pe_int (nomark _)))))
 (pss_one (ps_ret pe_bl))
 pss_nil)
 (pss_cons (ps_asg (pv 0) (pg_unE rfl (pgs_cons (pg_name (i := 1) sc_is_kind.nd rfl (by first | exact Or.inl rfl | exact Or.inr rfl)) (pgs_cons (pg_name (i := 2) sc_is_kind.nd rfl (by first | exact Or.inl rfl | exact Or.inr rfl)) (pgs_cons (pg_name (i := 3) sc_is_kind.nd rfl (by first | exact Or.inl rfl | exact Or.inr rfl)) pgs_nil)))))
 (pss_cons (ps_if (PW.pt (pw_or (pt_not (pt_val (pe_callB call_isi (by rfl) T.b_isinstance (by decide +kernel) (pa_cons (pv 1) (pa_cons (pe_bltn (v := .ty "bool") (by rfl) T.b_bool (by decide +kernel) rfl) pa_nil))))) (pw_or1 (pt_not (pt_val (pe_callB call_isi (by rfl) T.b_isinstance (by decide +kernel) (pa_cons (pv 2) (pa_cons (pe_bltn (v := .ty "bool") (by rfl) T.b_bool (by decide +kernel) rfl) pa_nil))))))))
 (pss_one (ps_ret pe_bl))
 pss_nil)
 (pss_one (ps_ret (pe_and (pe_callB call_isi (by rfl) T.b_isinstance (by decide +kernel) (pa_cons (pv 3) (pa_cons (pe_bltn (v := .ty "int") (by rfl) T.b_int (by decide +kernel) rfl) pa_nil))) (pe_and (pe_not (pe_callB call_isi (by rfl) T.b_isinstance (by decide +kernel) (pa_cons (pv 3) (pa_cons (pe_bltn (v := .ty "bool") (by rfl) T.b_bool (by decide +kernel) rfl) pa_nil)))) (pe_one (pe_chain op_le op_le pe_int (pv 3) pe_int))))))))), ?_⟩
  refine ⟨_, rfl, by decide, fun tp htp => ?_⟩
  have s1 := same_upd (o := .tup [V.ty "list", V.ty "tuple"]) htp
  have hv1 := KV.kp (kpS_same s1) hv
  have ht1 : (upd H tp (.tup [V.ty "list", V.ty "tuple"])) tp = some (.tup [V.ty "list", V.ty "tuple"]) := upd_same
  generalize upd H tp (.tup [V.ty "list", V.ty "tuple"]) = H1 at s1 hv1 ht1
  -- the tests behind: the three items
  have items : ∀ {x y z : V} (σ : L2.St), σ[1]? = some (some x) → σ[2]? = some (some y) → σ[3]? = some (some z) → σ.length = 4 →
      ((∃ b c i, x = .bl b ∧ y = .bl c ∧ z = .int i ∧ 0 ≤ i ∧ i ≤ 2 ∧ o.isSome = true) ∨ (Bad3 H1 x y z ∧ o.isSome = false)) →
      tSeq (tIfS (tOr (tNot (tB (tCB (rIsi K) (tCons (tVar 1) (tCons (tC (V.ty "bool")) tNil))))) (tNot (tB (tCB (rIsi K) (tCons (tVar 2) (tCons (tC (V.ty "bool")) tNil)))))) (tRet (tC (V.bl false))) tNext) (tRet (tAndV (tCB (rIsi K) (tCons (tVar 3) (tCons (tC (V.ty "int")) tNil))) (tAndV (tNotV (tCB (rIsi K) (tCons (tVar 3) (tCons (tC (V.ty "bool")) tNil)))) (tChain (rI0 fun i j => V.bl (decide (i ≤ j))) (rI0 fun i j => V.bl (decide (i ≤ j))) (tC (V.int 0)) (tVar 3) (tC (V.int 2)))))) { nx := fun _ H' => Q .non H', rt := Q } σ H1 := by
    intro x y z σ e1 e2 e3 el hb
    have isb : ∀ {u : V} {t : String} {i : Nat} (σ : L2.St) (R : VK), σ[i]? = some (some u) → TyN H1 u t → R (.bl (decide (t = "bool"))) H1 → tCB (rIsi K) (tCons (tVar i) (tCons (tC (V.ty "bool")) tNil)) σ H1 R := fun σ R e h q => ⟨_, e, _, _, _, _, _, rfl, .ty _, h.ty, kit_bool h.mem, q⟩
    have isn : ∀ {u : V} {t : String} {i : Nat} (σ : L2.St) (R : VK), σ[i]? = some (some u) → TyN H1 u t → R (.bl (decide (t = "int" ∨ t = "bool"))) H1 → tCB (rIsi K) (tCons (tVar i) (tCons (tC (V.ty "int")) tNil)) σ H1 R := fun σ R e h q => ⟨_, e, _, _, _, _, _, rfl, .ty _, h.ty, kit_int h.mem, q⟩
    have qq := q H1 s1
    rcases hb with ⟨b, c, i, rfl, rfl, rfl, h0, h2, ho⟩ | ⟨hb, ho⟩
    · rw [ho] at qq
      refine isb (t := "bool") _ _ e1 rfl ⟨_, rfl, iteF ?_⟩
      refine isb (t := "bool") _ _ e2 rfl ⟨_, rfl, iteF ?_⟩
      refine isn (t := "int") _ _ e3 rfl ⟨_, rfl, iteT ?_⟩
      refine isb (t := "int") _ _ e3 rfl ⟨_, rfl, _, rfl, iteT ?_⟩
      refine ⟨_, e3, _, _, rfl, rfl, _, rfl, ?_⟩
      rw [decide_eq_true h0]
      refine iteT ⟨_, _, rfl, rfl, ?_⟩
      show Q (.bl (decide (i ≤ 2))) _
      rw [decide_eq_true h2]
      exact qq
    · rw [ho] at qq
      rcases hb with ⟨t, h, n⟩ | ⟨⟨b, rfl⟩, hb⟩
      · refine isb _ _ e1 h ⟨_, rfl, ?_⟩
        rw [decide_eq_false n]
        exact iteT (iteT qq)
      refine isb (t := "bool") _ _ e1 rfl ⟨_, rfl, iteF ?_⟩
      rcases hb with ⟨t, h, n⟩ | ⟨⟨c, rfl⟩, hb⟩
      · refine isb _ _ e2 h ⟨_, rfl, ?_⟩
        rw [decide_eq_false n]
        exact iteT qq
      refine isb (t := "bool") _ _ e2 rfl ⟨_, rfl, iteF ?_⟩
      rcases hb with ⟨t, h, n⟩ | ⟨i, rfl, hi⟩
      · by_cases tb : t = "bool"
        · subst tb
          refine isn _ _ e3 h ⟨_, rfl, iteT ?_⟩
          refine isb _ _ e3 h ⟨_, rfl, _, rfl, iteF qq⟩
        · refine isn _ _ e3 h ⟨_, rfl, ?_⟩
          rw [decide_eq_false (by rintro (z | z); exact n z; exact tb z)]
          exact iteF qq
      · refine isn (t := "int") _ _ e3 rfl ⟨_, rfl, iteT ?_⟩
        refine isb (t := "int") _ _ e3 rfl ⟨_, rfl, _, rfl, iteT ?_⟩
        refine ⟨_, e3, _, _, rfl, rfl, _, rfl, ?_⟩
        refine ite2 (fun h => ?_) (fun h => ?_)
        · have h0 := of_decide_eq_true h
          refine ⟨_, _, rfl, rfl, ?_⟩
          show Q (.bl (decide (i ≤ 2))) _
          rw [decide_eq_false (by omega)]
          exact qq
        · exact qq
  rcases o with _ | k
  · rcases (show NoK H1 v from hv1) with ⟨t, h, n1, n2⟩ | ⟨p, xs, rfl, hp, hb⟩
    · refine ⟨_, tp, _, _, [.type "list", .type "tuple"], _, rfl, ht1, .cons (.ty _) (.cons (.ty _) .nil), h.ty, kit_lot h.mem, ?_⟩
      refine ⟨_, rfl, ?_⟩
      rw [decide_eq_false (by rintro (z | z); exact n1 z; exact n2 z)]
      exact iteT (iteT (q _ s1))
    · obtain ⟨t, ht, ty⟩ : ∃ t, TyN H1 (.ref p) t ∧ (t = "list" ∨ t = "tuple") := hp.elim (fun h => ⟨"list", .inl ⟨rfl, _, h⟩, .inl rfl⟩) fun h => ⟨"tuple", .inr (.inl ⟨rfl, _, h⟩), .inr rfl⟩
      refine ⟨_, tp, _, _, [.type "list", .type "tuple"], _, rfl, ht1, .cons (.ty _) (.cons (.ty _) .nil), ht.ty, kit_lot ht.mem, ?_⟩
      refine ⟨_, rfl, ?_⟩
      rw [decide_eq_true ty]
      refine iteF ⟨_, rfl, p, xs, rfl, RwE.sq hp, rfl, _, rfl, ?_⟩
      rcases hb with hb | ⟨x, y, z, rfl, hb⟩
      · have e : decide (V.int ((xs.length : Nat) : Int) = V.int 3) = false := decide_eq_false fun z => hb (by have := V.int.inj z; omega)
        rw [e]
        exact iteT (q _ s1)
      · refine iteF ⟨_, rfl, p, _, rfl, RwE.sq hp, rfl, _, _, rfl, _, _, rfl, _, _, rfl, rfl, ?_⟩
        exact items _ rfl rfl rfl rfl (.inr ⟨hb, rfl⟩)
  · obtain ⟨⟨p, rfl, hp⟩, h0, h2⟩ := hv1
    obtain ⟨t, ht, ty⟩ : ∃ t, TyN H1 (.ref p) t ∧ (t = "list" ∨ t = "tuple") := hp.elim (fun h => ⟨"list", .inl ⟨rfl, _, h⟩, .inl rfl⟩) fun h => ⟨"tuple", .inr (.inl ⟨rfl, _, h⟩), .inr rfl⟩
    refine ⟨_, tp, _, _, [.type "list", .type "tuple"], _, rfl, ht1, .cons (.ty _) (.cons (.ty _) .nil), ht.ty, kit_lot ht.mem, ?_⟩
    refine ⟨_, rfl, ?_⟩
    rw [decide_eq_true ty]
    refine iteF ⟨_, rfl, p, _, rfl, RwE.sq hp, rfl, _, rfl, ?_⟩
    refine iteF ⟨_, rfl, p, _, rfl, RwE.sq hp, rfl, _, _, rfl, _, _, rfl, _, _, rfl, rfl, ?_⟩
    exact items _ rfl rfl rfl rfl (.inl ⟨_, _, _, rfl, rfl, rfl, h0, h2, rfl⟩)
end
end Toy
set_option Elab.async false
set_option linter.all false
set_option maxRecDepth 100000
set_option maxHeartbeats 4000000
namespace Toy
open PySem L2 Sh ShL LamX NdefX
theorem for_enumE {K : PySem.W.Frag} {a : Addr} {j : Nat} {xs : List V} {u : HO} {g : TG} {tb : TS} {D : Ends} {σ : L2.St} {H : Hp} (hj : σ[j]? = some (some (.ref a))) (sq : u = .lst xs ∨ u = .tup xs) (Pv : Nat → L2.St → Hp → Prop) (h0 : Pv 0 σ H) (hl : ∀ i σ H', Pv i σ H' → H' a = some u)
    (hs : ∀ (i : Nat) (x : V) (σ : L2.St) (H : Hp) (T : Addr), xs[i]? = some x → H T = none → Pv i σ H → g (.ref T) σ (upd H T (.tup [.int (i : Nat), x])) fun σ2 H2 => tb { D with nx := Pv (i + 1), ct := Pv (i + 1), bk := D.nx } σ2 H2) (hd : ∀ σ H, Pv xs.length σ H → D.nx σ H) :
    tFor (fun σ H R => iEnum K (tCons (tVar j) tNil) σ H R ∨ iEnumT K (tCons (tVar j) tNil) σ H R) g tb D σ H := by
  rcases sq with rfl | rfl
  · exact .inl ⟨_, hj, a, xs, rfl, SqL.of (hl _ _ _ h0), for_enum (K := K) Pv h0 (fun i σ H' _ p => SqL.of (hl i σ H' p)) hs hd⟩
  · exact .inr ⟨_, hj, a, xs, rfl, SqT.of (hl _ _ _ h0), for_enumT (K := K) Pv h0 (fun i σ H' _ p => SqT.of (hl i σ H' p)) hs hd⟩
theorem IsK.put {H : Hp} {D : Addr} {xs ys : List V} {v : V} {k : Kd} (h : H D = some (.lst xs)) (hk : IsK H v k) : IsK (upd H D (.lst ys)) v k := by
  obtain ⟨t, rfl, e⟩ := hk
  exact ⟨t, rfl, by rw [upd_ne (ne_of e h (by intro z; cases z))]; exact e⟩
theorem AllK.put {H : Hp} {D : Addr} {xs ys : List V} {vs : List V} {ks : List Kd} (h : H D = some (.lst xs)) (a : AllK H vs ks) : AllK (upd H D (.lst ys)) vs ks := AllK.mono (fun _ _ => IsK.put h) a
theorem fine_wrong_take {os : List (Option Kd)} {i : Nat} {o : Option Kd} (h : os[i]? = some o) : os.take (i + 1) = os.take i ++ [o] := by
  rw [List.take_add_one, h]
  rfl
section
variable {P : Program} {w : World} {K : PySem.W.Frag} {mg : Str → Option Value} {base : Heap}
theorem ok_kinds_of (T : Tx P K mg) (B : Bx T base) : FnOk P w K mg base (L2.CX P w) 3 T.a_kinds_of T.fd_kinds_of ["side", "kinds"] (spKinds T.c_BadKind) := by
  refine T.F_kinds_of.okX sc_kinds_of (fun vs H Q E h => ?_) (fun cdv A outer s H vs Q E hr h => ?_)
  · obtain ⟨z, a, xs, os, rfl, _⟩ := h
    rfl
  have hu := hu_of hr
  have hu65 := hu65_of hr
  obtain ⟨z, a, xs, os, rfl, ha, hv, hl, q1, q2⟩ := h
  have hxl : xs.length = os.length := hv.length
  refine ⟨_, (pss_cons (ps_set (i := 2) sc_kinds_of.nd rfl (by first | exact Or.inl rfl | exact Or.inr rfl) (pe_lst pa_nil))
 (pss_cons (ps_for (passes_of rfl) rfl (pi_alt (pi_enum (by rfl) T.b_enumerate (pa_cons (pv 1) pa_nil)) (pi_enumT (by rfl) T.b_enumerate (pa_cons (pv 1) pa_nil))) (pg_tup rfl (pgs_cons (pg_name (i := 3) sc_kinds_of.nd rfl (by first | exact Or.inl rfl | exact Or.inr rfl)) (pgs_cons (pg_name (i := 4) sc_kinds_of.nd rfl (by first | exact Or.inl rfl | exact Or.inr rfl)) pgs_nil)))
 (pss_cons (ps_if (PW.pt (pw_or (pt_not (pt_val (pe_call (ok_is_kind T B) (hr.mono (by decide)) (by rfl) T.m_is_kind T.F_is_kind.kp T.bi_is_kind .nil pass0 (pa_cons (pv 4) pa_nil)))) (pw_or1 (pt_cmpR (op_inD hu65) (pe_callTy call_tuple_of (by rfl) T.b_tuple (by decide +kernel) (pa_cons (pv 4) pa_nil)) (pv 2) (by rfl)))))
 (pss_one (ps_raiseX rfl rfl (takes_of rfl rfl rfl rfl) (pe_oexN T.i_BadKind.m (ok_x_BadKind T) (hr.mono (by decide)) (by rfl) T.m_BadKind T.kb_BadKind_2 pass0 (pa_cons (pv 0) (pa_cons (pv 3) pa_nil)) pk_nil)))
 pss_nil)
 (pss_one (ps_expr (pe_bm PySem.F.plainAttrs_list PySem.F.slot_list_append PySem.F.type_list_append mt_append (pv 2) (pa_cons (pe_callTy call_tuple_of (by rfl) T.b_tuple (by decide +kernel) (pa_cons (pv 4) pa_nil)) pa_nil))))))
 (pss_one (ps_ret (pe_callTy call_tuple_of (by rfl) T.b_tuple (by decide +kernel) (pa_cons (pe_callB (cr_sortedDD hu65) (by rfl) T.b_sorted (by decide +kernel) (pa_cons (pv 2) pa_nil)) pa_nil)))))), ?_⟩
  refine ⟨Nat.zero_le _, fun o ho => ?_⟩
  have s1 := same_upd (o := .lst []) ho
  obtain ⟨u, hu1, hu2⟩ : ∃ u, H a = some u ∧ (u = .lst xs ∨ u = .tup xs) := ha.elim (fun h => ⟨_, h, .inl rfl⟩) fun h => ⟨_, h, .inr rfl⟩
  refine for_enumE (K := K) (a := a) (j := 1) (xs := xs) (u := u) rfl hu2 (fun i σ H3 => ∃ v3 v4 ys ks, σ = [some (.str z), some (.ref a), some (.ref o), v3, v4] ∧ Same H H3 ∧ H3 o = some (.lst ys) ∧ AllK H3 ys ks ∧ Fine (os.take i) ks)
    ⟨_, _, [], [], rfl, s1, upd_same, .nil, by rw [List.take_zero]; exact fine_nil⟩ (fun i σ H3 ⟨v3, v4, ys, ks, e, s3, h3, k3, fi⟩ => s3 _ _ hu1) (fun i x σ H3 U hx hU ⟨v3, v4, ys, ks, e, s3, h3, k3, fi⟩ => ?_) (fun σ H3 ⟨v3, v4, ys, ks, e, s3, h3, k3, fi⟩ => ?_)
  · subst e
    obtain ⟨ov, hov, kv⟩ := paired_ix hv hx
    have sU := same_upd (o := .tup [.int (i : Nat), x]) hU
    refine ⟨U, _, rfl, SqT.of upd_same, rfl, _, _, rfl, _, _, rfl, rfl, ?_⟩
    have s4 := s3.trans sU
    have h4 := sU _ _ h3
    have k4 := AllK.same sU k3
    generalize upd H3 U (.tup [.int (i : Nat), x]) = H4 at s4 h4 k4
    have hil := (List.getElem?_eq_some_iff.mp hov).1
    have hlen : ks.length = i := by
      have e1 := congrArg List.length fi.1
      rw [List.length_take, List.length_map] at e1
      omega
    have raise : Wrong os i → ∀ H5, Same H H5 → ∀ (D : Ends), tRaiseX (cxOf (L2.CX P w) P w K mg base N_kinds_of "kinds_of" (defScope s_kinds_of) T.a_kinds_of cdv A outer s H E) (fun cls d _ H => E cls d H) (tOex T.c_BadKind 2 0 (spXI T.c_BadKind ["side", "number"]) rotV (tCons (tVar 0) (tCons (tVar 3) tNil)) tNil) D [some (.str z), some (.ref a), some (.ref o), some (.int (i : Nat)), some x] H5 := fun hw H5 s5 D =>
      mk_raise (vs := [.str z, .int (i : Nat)]) (zs := []) (fun b hb => fr0_none (s5.free hb)) T.x_BadKind.raises (fun R h => ⟨_, rfl, _, rfl, h⟩) (fun R h => h) rfl rfl rfl fun H' d s' n e => q2 i hw H' d (s5.trans s') (s5.free n) e
    refine ⟨_, rfl, x, ov, rfl, KV.kp (kpS_same s4) kv, fun H5 s5 => ⟨_, rfl, ?_⟩⟩
    have s6 := s4.trans s5
    rcases ov with _ | k
    · exact iteT (raise ⟨none, ks, hov, fi, .inl rfl⟩ H5 s6 { nx := fun _ _ => True, rt := fun _ _ => True })
    refine iteF ?_
    have h5 := s5 _ _ h4
    have k5 := AllK.same s5 k4
    obtain ⟨⟨t, rfl, ht⟩, kr⟩ := kv
    have ht5 := ht.imp (s6 _ _) (s6 _ _)
    -- tuple(kind): in any case a tuple
    have tupOf : ∀ (H6 : Hp) (σ : L2.St) (R : VK), σ[4]? = some (some (.ref t)) → (H6 t = some (.lst (kdVs k)) ∨ H6 t = some (.tup (kdVs k))) → (∀ H7 p, Same H6 H7 → H7 p = some (.tup (kdVs k)) → R (.ref p) H7) →
        tCB (fun xs H_1 Q => ∃ p ys, xs = [V.ref p] ∧ ((SqL K H_1 p ys ∧ ∀ (l : Addr), H_1 l = none → Q (V.ref l) (upd H_1 l (HO.tup ys))) ∨ SqT K H_1 p ys ∧ Q (V.ref p) H_1)) (tCons (tVar 4) tNil) σ H6 R := fun H6 σ R e h k => by
      rcases h with h | h
      · exact ⟨_, e, t, _, rfl, .inl ⟨SqL.of h, fun l hl => k _ l (same_upd hl) upd_same⟩⟩
      · exact ⟨_, e, t, _, rfl, .inr ⟨SqT.of h, k _ t (fun _ _ h => h) h⟩⟩
    have inF : ∀ (Z : Bool → Hp → Prop), (∀ H6, Same H5 H6 → Z (decide (k ∈ ks)) H6) → tTest (tOp (rInD K) (tCB (fun xs H_1 Q => ∃ p ys, xs = [V.ref p] ∧ ((SqL K H_1 p ys ∧ ∀ (l : Addr), H_1 l = none → Q (V.ref l) (upd H_1 l (HO.tup ys))) ∨ SqT K H_1 p ys ∧ Q (V.ref p) H_1)) (tCons (tVar 4) tNil)) (tVar 2)) [some (.str z), some (.ref a), some (.ref o), some (.int (i : Nat)), some (.ref t)] H5 Z := fun Z hZ => by
      refine tupOf H5 [some (.str z), some (.ref a), some (.ref o), some (.int (i : Nat)), some (.ref t)] (fun x H1 => tVar 2 [some (.str z), some (.ref a), some (.ref o), some (.int (i : Nat)), some (.ref t)] H1 fun y H2 => rInD K x y H2 fun v H3 => ∃ c, v = .bl c ∧ Z c H3) rfl ht5 fun H6 p s56 hp6 => ?_
      refine ⟨_, rfl, kdD k, ks.map kdD, IsK.dp ⟨p, rfl, hp6⟩, .lst (SqL.of (s56 _ _ h5)) (AllK.dp (AllK.same s56 k5)), kd_shaped k, kds_shapedL ks, _, rfl, ?_⟩
      rw [kd_any]
      exact hZ H6 s56
    refine inF _ fun H6 s56 => ?_
    have s7 := s6.trans s56
    have h6 := s56 _ _ h5
    have k6 := AllK.same s56 k5
    by_cases hk : k ∈ ks
    · rw [decide_eq_true hk]
      exact iteT (raise ⟨some k, ks, hov, fi, .inr ⟨k, hk, rfl⟩⟩ H6 s7 { nx := fun _ _ => True, rt := fun _ _ => True })
    · rw [decide_eq_false hk]
      refine iteF ?_
      refine ⟨_, rfl, .inl ⟨rfl, _, SqL.of h6⟩, ?_⟩
      refine tupOf H6 [some (.str z), some (.ref a), some (.ref o), some (.int (i : Nat)), some (.ref t)] _ rfl (ht5.imp (s56 _ _) (s56 _ _)) fun H7 p7 s67 hp7 => ?_
      have h7 := s67 _ _ h6
      have k7 := AllK.same s67 k6
      have yl := AllK.len k7
      refine ⟨o, _, _, rfl, rfl, h7, by rw [sizeLine_eq]; omega, ?_⟩
      refine ⟨_, _, ys ++ [.ref p7], ks ++ [k], rfl, same_of_new (s7.trans s67) ho, upd_same, ?_, ?_⟩
      · exact paired_app (AllK.put h7 k7) (.cons (IsK.put h7 ⟨p7, rfl, hp7⟩) .nil)
      · rw [fine_wrong_take hov]
        exact fine_add fi hk
  · subst e
    rw [hxl, List.take_of_length_le (Nat.le_refl _)] at fi
    refine ⟨_, rfl, o, ys, ks.map kdD, rfl, SqL.of h3, AllK.dp k3, alike_k ks, sortable_k ks, depth_k ks, fun p hp => ⟨p, _, rfl, .inl ⟨SqL.of upd_same, fun l hl => ?_⟩⟩⟩
    obtain ⟨js, j1, j2, j3⟩ := sort_k k3
    have s4 := same_upd (o := .lst ((sortPairs ys (ks.map kdD)).map Prod.fst)) hp
    have s5 := same_upd (o := .tup ((sortPairs ys (ks.map kdD)).map Prod.fst)) hl
    have ss := (s3.trans s4).trans s5
    exact q1 ks fi _ l _ js ss (s3.free (s4.free hl)) upd_same (AllK.same s5 (AllK.same s4 j1)) j2 j3
end
end Toy
set_option Elab.async false
set_option linter.all false
set_option maxRecDepth 100000
set_option maxHeartbeats 4000000
namespace Toy
open PySem L2 Sh ShL LamX NdefX
/-! ### Rule -/
theorem ro : ¬ (("root" : Str) = "others") := by decide +kernel
def flds (p1 p2 : Addr) : List (Str × V) := putF "others" (.ref p2) (putF "root" (.ref p1) [])
theorem flds_root (p1 p2 : Addr) : (flds p1 p2).lookup ("root" : Str) = some (.ref p1) := by
  unfold flds
  rw [lookup_putF, if_neg ro, lookup_putF, if_pos rfl]
theorem flds_others (p1 p2 : Addr) : (flds p1 p2).lookup ("others" : Str) = some (.ref p2) := by
  unfold flds
  rw [lookup_putF, if_pos rfl]
theorem flds_no {p1 p2 : Addr} {x : Str} (h1 : ¬ x = ("root" : Str)) (h2 : ¬ x = ("others" : Str)) : (flds p1 p2).lookup x = none := by
  unfold flds
  rw [lookup_putF, if_neg (fun e => h2 e), lookup_putF, if_neg (fun e => h1 e)]
  rfl
def RuleAt (C : Addr) (H : Hp) (p : Addr) (js1 js2 : List Kd) : Prop := ∃ (dx p1 p2 : Addr) (ys1 ys2 : List V), H p = some (.ins C dx (flds p1 p2)) ∧ H p1 = some (.tup ys1) ∧ H p2 = some (.tup ys2) ∧ AllK H ys1 js1 ∧ AllK H ys2 js2
theorem RuleAt.mono {C : Addr} {H H' : Hp} {p : Addr} {js1 js2 : List Kd} (k1 : ∀ b C dx fs, H b = some (.ins C dx fs) → H' b = some (.ins C dx fs)) (k2 : ∀ b xs, H b = some (.tup xs) → H' b = some (.tup xs)) (h : RuleAt C H p js1 js2) : RuleAt C H' p js1 js2 := by
  obtain ⟨dx, p1, p2, ys1, ys2, h1, h2, h3, h4, h5⟩ := h
  have f : ∀ v k, IsK H v k → IsK H' v k := fun v k ⟨t, e, h⟩ => ⟨t, e, k2 _ _ h⟩
  exact ⟨dx, p1, p2, ys1, ys2, k1 _ _ _ _ h1, k2 _ _ h2, k2 _ _ h3, AllK.mono f h4, AllK.mono f h5⟩
theorem RuleAt.same {C : Addr} {H H' : Hp} {p : Addr} {js1 js2 : List Kd} (s : Same H H') (h : RuleAt C H p js1 js2) : RuleAt C H' p js1 js2 := h.mono (fun _ _ _ _ => s _ _) fun _ _ => s _ _
theorem RuleAt.sm {T : List (Addr × Str)} {C : Addr} {H H' : Hp} {p : Addr} {js1 js2 : List Kd} (s : Sm T H H') (h : RuleAt C H p js1 js2) : RuleAt C H' p js1 js2 := h.mono (fun _ _ _ _ q => s.get q) fun _ _ q => s.get q
theorem RuleAt.kp {C : Addr} {H H' : Hp} {p d c : Addr} {n : Nat} {js1 js2 : List Kd} (hp : Pen H d c n) (s : Kp d H H') (h : RuleAt C H p js1 js2) : RuleAt C H' p js1 js2 := by
  obtain ⟨kvs, hd⟩ := hp.at
  exact h.mono (fun _ _ _ _ q => s _ _ q (ne_of q hd (by intro z; cases z))) fun _ _ q => s _ _ q (ne_of q hd (by intro z; cases z))
abbrev kErr (z : Str) (i : Nat) (d : Addr) : HO := exd d [("number", .int (i : Nat)), ("side", .str z)]
def spInitR (C N : Addr) : Sp := fun vs H Q E => ∃ (p dx a b : Addr) (xs zs : List V) (os us : List (Option Kd)), vs = [.ref p, .ref a, .ref b] ∧ H p = some (.ins C dx []) ∧ SqA H a xs ∧ SqA H b zs ∧ AllV H xs os ∧ AllV H zs us ∧ os.length ≤ 40 ∧ us.length ≤ 40 ∧
  (∀ ks ls, Fine os ks → Fine us ls → ∀ H' j1 j2, Kp p H H' → RuleAt C H' p j1 j2 → j1.Perm ks → SrtK j1 → j2.Perm ls → SrtK j2 → Q .non H') ∧
  (∀ i, Wrong os i → ∀ H' d, Kp p H H' → H d = none → H' d = some (kErr "root" i d) → E (.ref N) (some d) H') ∧
  (∀ ks i, Fine os ks → Wrong us i → ∀ H' d, Kp p H H' → H d = none → H' d = some (kErr "others" i d) → E (.ref N) (some d) H')
section
variable {P : Program} {w : World} {K : PySem.W.Frag} {mg : Str → Option Value} {base : Heap}
theorem ok_Rule_init (T : Tx P K mg) (B : Bx T base) : FnOk P w K mg base (L2.CX P w) 4 T.a_Rule_init T.fd_Rule_init ["self", "root", "others"] (spInitR T.c_Rule T.c_BadKind) := by
  refine T.F_Rule_init.okX sc_Rule_init (fun vs H Q E h => ?_) (fun cdv A outer s H vs Q E hr h => ?_)
  · obtain ⟨p, dx, a, b, xs, zs, os, us, rfl, _⟩ := h
    rfl
  have hu := hu_of hr
  have hu65 := hu65_of hr
  obtain ⟨p, dx, a, b, xs, zs, os, us, rfl, hp, hx, hz, vx, vz, l1, l2, q1, q2, q3⟩ := h
  refine ⟨_, (pss_cons (ps_fld (pv 0) (pe_call (ok_kinds_of T B) (hr.mono (by decide)) (by rfl) T.m_kinds_of T.F_kinds_of.kp T.bi_kinds_of .nil (passes_call (takes_of rfl rfl rfl rfl) (fun _ _ _ _ h => h)) (pa_cons pe_str (pa_cons (pv 1) pa_nil))) rfl)
 (pss_one (ps_fld (pv 0) (pe_call (ok_kinds_of T B) (hr.mono (by decide)) (by rfl) T.m_kinds_of T.F_kinds_of.kp T.bi_kinds_of .nil (passes_call (takes_of rfl rfl rfl rfl) (fun _ _ _ _ h => h)) (pa_cons pe_str (pa_cons (pv 2) pa_nil))) rfl))), ?_⟩
  refine ⟨_, rfl, _, a, xs, os, rfl, hx, vx, l1, fun ks fk H1 p1 ys1 j1 s1 n1 h1 k1 m1 o1 => ?_, fun i wi H' d s n e => q2 i wi H' d (Same.kp s) n e⟩
  have hp1 := s1 _ _ hp
  refine ⟨_, rfl, p, T.c_Rule, dx, [], rfl, hp1, T.cl_Rule, T.na_Rule_root, (by show 0 < 1000; decide), ?_⟩
  have kp1 : Kp p H1 (upd H1 p (.ins T.c_Rule dx (putF "root" (.ref p1) []))) := kp_put
  have hp2 : (upd H1 p (.ins T.c_Rule dx (putF "root" (.ref p1) []))) p = some (.ins T.c_Rule dx (putF "root" (.ref p1) [])) := upd_same
  have kS := (kpS_same s1).trans (kpS_ins hp1 kp1)
  have ne1 : p1 ≠ p := ne_of h1 hp1 (by intro z; cases z)
  have ka := (Same.kp s1).trans kp1
  have h12 := kp1 _ _ h1 ne1
  have k12 := AllK.kpS (kpS_ins hp1 kp1) k1
  generalize upd H1 p (.ins T.c_Rule dx (putF "root" (.ref p1) [])) = H2 at kp1 hp2 kS ka h12 k12 ⊢
  have fr : ∀ {H3 : Hp} {d : Addr}, Same H2 H3 → H2 d = none → H d = none := fun {H3 d} s n => by
    cases q : H d with
    | none => rfl
    | some u =>
      by_cases e : d = p
      · rw [e, hp2] at n
        cases n
      · rw [ka _ _ q e] at n
        cases n
  refine ⟨_, rfl, _, b, zs, us, rfl, hz.kp kS, AllV.kp kS vz, l2, fun ls fl H3 p2 ys2 j2 s3 n3 h3 k3 m3 o3 => ?_, fun i wi H' d s n e => q3 ks i fk wi H' d (ka.trans (Same.kp s)) (fr s n) e⟩
  have hp3 := s3 _ _ hp2
  refine ⟨_, rfl, p, T.c_Rule, dx, _, rfl, hp3, T.cl_Rule, T.na_Rule_others, (by show 1 < 1000; decide), ?_⟩
  have kp3 : Kp p H3 (upd H3 p (.ins T.c_Rule dx (flds p1 p2))) := kp_put
  have ne2 : p2 ≠ p := ne_of h3 hp3 (by intro z; cases z)
  have kS3 := kpS_ins hp3 kp3
  refine q1 ks ls fk fl _ j1 j2 (ka.trans ((Same.kp s3).trans kp3)) ⟨dx, p1, p2, ys1, ys2, upd_same, ?_, ?_, ?_, ?_⟩ m1 o1 m3 o3
  · exact kp3 _ _ (s3 _ _ h12) ne1
  · exact kp3 _ _ h3 ne2
  · exact AllK.kpS kS3 (AllK.same s3 k12)
  · exact AllK.kpS kS3 k3
end
/-! ### == of rules -/
def spEqR (C : Addr) : Sp := fun vs H Q _ => ∃ x y j1 j2 i1 i2, vs = [.ref x, .ref y] ∧ RuleAt C H x j1 j2 ∧ RuleAt C H y i1 i2 ∧ Q (.bl (decide (j1 = i1 ∧ j2 = i2))) H
section
variable {P : Program} {w : World} {K : PySem.W.Frag} {mg : Str → Option Value} {base : Heap}
theorem rule_ty (T : Tx P K mg) {H : Hp} {x dx : Addr} {fs : List (Str × V)} (h : H x = some (.ins T.c_Rule dx fs)) : TyX K H (.ref x) (.ref T.c_Rule) := .base (.ins h T.cl_Rule T.ca_Rule T.o_get T.o_tk T.eq_Rule.ob)
theorem rule_kit (T : Tx P K mg) : PySem.W.kitOne K (.ref T.c_Rule) (.ref T.c_Rule) = some true := by
  unfold PySem.W.kitOne
  rw [if_pos (by simp)]
theorem ok_Rule_eq (T : Tx P K mg) (B : Bx T base) : FnOk P w K mg base CX0 1 T.a_Rule_eq T.fd_Rule_eq ["self", "other"] (spEqR T.c_Rule) := by
  refine okT T.F_Rule_eq sc_Rule_eq (fun vs H Q E h => ?_) (fun cdv A outer s H vs Q E hcd hr h => ?_)
  · obtain ⟨x, y, j1, j2, i1, i2, rfl, _⟩ := h
    rfl
  have hu := hu_of hr
  have hu65 := hu65_of hr
  obtain ⟨x, y, j1, j2, i1, i2, rfl, ⟨dx, p1, p2, ys1, ys2, x1, x2, x3, x4, x5⟩, ⟨dy, r1, r2, zs1, zs2, y1, y2, y3, y4, y5⟩, q⟩ := h
  refine ⟨_, (pss_cons (ps_if (pt_not (pt_val (pe_callB call_isi (by rfl) T.b_isinstance (by decide +kernel) (pa_cons (pv 1) (pa_cons (pe_glob (v := .ref T.c_Rule) (by rfl) T.m_Rule rfl) pa_nil)))))
 (pss_one ps_never)
 pss_nil)
 (pss_one (ps_ret (pe_and (pe_cmpR (op_eqD hr.units) (pe_fld (pv 0) rfl) (pe_fld (pv 1) rfl) (nomark _)) (pe_one (pe_cmpR (op_eqD hr.units) (pe_fld (pv 0) rfl) (pe_fld (pv 1) rfl) (nomark _))))))), ?_⟩
  refine ⟨_, rfl, _, _, _, _, _, rfl, .own _, rule_ty T y1, rule_kit T, _, rfl, iteF ?_⟩
  refine ⟨_, rfl, x, _, dx, _, _, rfl, x1, T.cl_Rule, T.na_Rule_root, flds_root _ _, _, rfl, y, _, dy, _, _, rfl, y1, T.cl_Rule, T.na_Rule_root, flds_root _ _, ?_⟩
  refine ⟨_, _, .tup (SqT.of x2) (AllK.dp x4), .tup (SqT.of y2) (AllK.dp y4), kds_shapedT _, kds_shapedT _, _, rfl, ?_⟩
  have e1 : PyData.eqv (.tuple (j1.map kdD)) (.tuple (i1.map kdD)) = decide (j1 = i1) := by simp only [PyData.eqv, kds_eqv]
  have e2 : PyData.eqv (.tuple (j2.map kdD)) (.tuple (i2.map kdD)) = decide (j2 = i2) := by simp only [PyData.eqv, kds_eqv]
  rw [e1]
  refine ite2 (fun h => ?_) (fun h => ?_)
  · refine ⟨_, rfl, x, _, dx, _, _, rfl, x1, T.cl_Rule, T.na_Rule_others, flds_others _ _, _, rfl, y, _, dy, _, _, rfl, y1, T.cl_Rule, T.na_Rule_others, flds_others _ _, ?_⟩
    refine ⟨_, _, .tup (SqT.of x3) (AllK.dp x5), .tup (SqT.of y3) (AllK.dp y5), kds_shapedT _, kds_shapedT _, ?_⟩
    rw [e2]
    have e3 : decide (j1 = i1 ∧ j2 = i2) = decide (j2 = i2) := by rw [decide_eq_decide]; exact ⟨fun k => k.2, fun k => ⟨of_decide_eq_true h, k⟩⟩
    rw [e3] at q
    exact q
  · have e3 : decide (j1 = i1 ∧ j2 = i2) = false := decide_eq_false fun k => h (decide_eq_true k.1)
    rw [e3] at q
    exact q
end
end Toy
set_option Elab.async false
set_option linter.all false
set_option maxRecDepth 100000
set_option maxHeartbeats 4000000
namespace Toy
open PySem L2 Sh ShL LamX NdefX
/-! ### the kind of a place -/
def kdOf (z : Wd) (os : List Wd) (r : Rw) : Kd := (r.2.1.isSome, r.2.2, min 2 ((kids z os r.1).length : Int))
theorem isN_o (o : Option Int) : (!decide (oV o = V.non)) = o.isSome := by
  cases o <;> simp [oV]
theorem min_if (n : Nat) : (if ((n : Nat) : Int) < 2 then ((n : Nat) : Int) else 2) = min 2 (n : Int) := by
  split <;> omega
theorem kids_len {z : Wd} {os : List Wd} {p : Wd} (h : z.length ≤ 26) : (sw (kids z os p)).length ≤ sizeLine := by
  rw [sw_len, sizeLine_eq]
  have := List.length_filter_le (fun c => decide (p ++ [c] ∈ os)) z
  unfold kids
  omega
def spKindOf (K : PySem.W.Frag) (C N : Addr) : Sp := fun vs H Q E => ∃ x z rs v p, vs = [.ref x, v] ∧ TreeAt C H x z rs ∧ (rs.map (·.1)).Nodup ∧ z.length ≤ 26 ∧ PlV K H v p ∧ (∀ r ∈ rs, p = some r.1 → ∀ H' u, Same H H' → IsK H' u (kdOf z (rs.map (·.1)) r) → Q u H') ∧
  (inR p rs = false → ∀ H' d, Same H H' → H d = none → H' d = some (exd d [("place", v)]) → E (.ref N) (some d) H')
theorem nd_row {rs : List Rw} {r r' : Rw} (nd : (rs.map (·.1)).Nodup) (h : r ∈ rs) (h' : r' ∈ rs) (e : r.1 = r'.1) : r' = r := by
  obtain ⟨i, hi⟩ := List.getElem?_of_mem h
  obtain ⟨j, hj⟩ := List.getElem?_of_mem h'
  have h1 : (rs.map (·.1))[i]? = some r.1 := by rw [List.getElem?_map, hi]; rfl
  have h2 : (rs.map (·.1))[j]? = some r.1 := by rw [List.getElem?_map, hj, e]; rfl
  have := nd_ix nd h1 h2
  subst this
  rw [hi] at hj
  exact (Option.some.inj hj).symm
/-- the first row whose kind is not let -/
def badR (z : Wd) (rs : List Rw) (j1 j2 : List Kd) : Option Rw := rs.find? fun r => decide (kdOf z (rs.map (·.1)) r ∉ (if r.1 = [] then j1 else j2))
def brV : Option Rw → V
  | none => .non
  | some r => .str (sw r.1)
def spBroken (C D : Addr) : Sp := fun vs H Q _ => ∃ x y z rs j1 j2, vs = [.ref x, .ref y] ∧ RuleAt D H x j1 j2 ∧ TreeAt C H y z rs ∧ (rs.map (·.1)).Nodup ∧ z.length ≤ 26 ∧ rs.length ≤ 2000 ∧ ∀ H', Same H H' → Q (brV (badR z rs j1 j2)) H'
def spKeeps (C D : Addr) : Sp := fun vs H Q _ => ∃ x y z rs j1 j2, vs = [.ref x, .ref y] ∧ RuleAt D H x j1 j2 ∧ TreeAt C H y z rs ∧ (rs.map (·.1)).Nodup ∧ z.length ≤ 26 ∧ rs.length ≤ 2000 ∧ ∀ H', Same H H' → Q (.bl (badR z rs j1 j2).isNone) H'
def leastV (js : List Kd) : V := if js.any (fun k => decide (k.2.2 = 0)) then .int 1 else .non
def spLeast (D : Addr) : Sp := fun vs H Q _ => ∃ x j1 j2, vs = [.ref x] ∧ RuleAt D H x j1 j2 ∧ j2.length ≤ 40 ∧ ∀ H', Same H H' → Q (leastV j2) H'
section
variable {P : Program} {w : World} {K : PySem.W.Frag} {mg : Str → Option Value} {base : Heap}
theorem ok_kind_of (T : Tx P K mg) (B : Bx T base) : FnOk P w K mg base (L2.CX P w) 4 T.a_kind_of T.fd_kind_of ["tree", "place"] (spKindOf K T.c_Tree T.c_NoPlace) := by
  refine T.F_kind_of.okX sc_kind_of (fun vs H Q E h => ?_) (fun cdv A outer s H vs Q E hr h => ?_)
  · obtain ⟨x, z, rs, v, p, rfl, _⟩ := h
    rfl
  have hu := hu_of hr
  have hu65 := hu65_of hr
  obtain ⟨x, z, rs, v, p, rfl, hx, nd, hz, hv, q1, q2⟩ := h
  obtain ⟨dx, t, d, e, m, ws, us, x1, x2, x3, x4, x5, x6, x7, x8⟩ := hx.ex
  refine ⟨_, (pss_cons (ps_set (i := 2) sc_kind_of.nd rfl (by first | exact Or.inl rfl | exact Or.inr rfl) (pe_meth (pv 0) T.cl_Tree T.me_Tree_row (ok_Tree_row T B) (hr.mono (by decide)) T.bi_Tree_row .nil (passes_call (takes_of rfl rfl rfl rfl) (fun _ _ _ _ h => h)) (pa_cons (pv 1) pa_nil)))
 (pss_one (ps_ret (pe_tup (pa_cons (pe_cmpR op_notN (pe_ix ix_tup (pv 2) pe_int (fun _ _ => rfl)) pe_non (nomark _)) (pa_cons (pe_ix ix_tup (pv 2) pe_int (fun _ _ => rfl)) (pa_cons (pe_callB (call_min2 rfl) (by rfl) T.b_min (by decide +kernel) (pa_cons pe_int (pa_cons (pe_callB call_len_str (by rfl) T.b_len (by decide +kernel) (pa_cons (pe_meth (pv 0) T.cl_Tree T.me_Tree_below (ok_Tree_below T B) (hr.mono (by decide)) T.bi_Tree_below .nil (passes_call (takes_of rfl rfl rfl rfl) (fun _ _ _ _ h => h)) (pa_cons (pv 1) pa_nil)) pa_nil)) pa_nil))) pa_nil))))))), ?_⟩
  refine ⟨_, rfl, x, dx, _, rfl, x1, tf_no (by decide +kernel), _, rfl, x, z, rs, v, p, rfl, hx, nd, hv, fun r hr e u hu => ?_, q2⟩
  obtain ⟨b, rfl, hb⟩ := hu
  subst e
  cases (show v = .str (sw r.1) from hv)
  refine ⟨_, rfl, b, _, _, _, rfl, rfl, SqT.of hb, atI_nat (j := 1) rfl, rfl, ?_⟩
  refine ⟨_, rfl, b, _, _, _, rfl, rfl, SqT.of hb, atI_nat (j := 2) rfl, ?_⟩
  refine ⟨_, rfl, x, dx, _, rfl, x1, tf_no (by decide +kernel), _, rfl, x, z, rs, _, some r.1, rfl, hx, nd, rfl, fun q' hq' e => ?_, fun h => ?_⟩
  · cases Option.some.inj e
    refine ⟨_, rfl, kids_len hz, _, _, rfl, ?_⟩
    rw [sw_len, min_if, isN_o]
    refine ⟨by show 3 ≤ sizeLine; decide, fun l hl => ?_⟩
    exact q1 r hr rfl _ _ (same_upd hl) ⟨l, rfl, upd_same⟩
  · rw [show inR (some r.1) rs = true from decide_eq_true (List.mem_map.mpr ⟨r, hr, rfl⟩)] at h
    cases h
theorem ok_Rule_broken_at (T : Tx P K mg) (B : Bx T base) : FnOk P w K mg base CX0 4 T.a_Rule_broken_at T.fd_Rule_broken_at ["self", "tree"] (spBroken T.c_Tree T.c_Rule) := by
  refine okT T.F_Rule_broken_at sc_Rule_broken_at (fun vs H Q E h => ?_) (fun cdv A outer s H vs Q E hcd hr h => ?_)
  · obtain ⟨x, y, z, rs, j1, j2, rfl, _⟩ := h
    rfl
  have hu := hu_of hr
  have hu65 := hu65_of hr
  obtain ⟨x, y, z, rs, j1, j2, rfl, hx, hy, nd, hz, hl, q⟩ := h
  obtain ⟨dx, p1, p2, ys1, ys2, r1, r2, r3, r4, r5⟩ := hx
  obtain ⟨dy, t, d, e, m, ws, us, x1, x2, x3, x4, x5, x6, x7, x8⟩ := hy.ex
  refine ⟨_, (pss_cons (ps_for PassesOwn.never rfl (pi_tup (pe_fld (pv 1) rfl)) (pg_tup rfl (pgs_cons (pg_name (i := 2) sc_Rule_broken_at.nd rfl (by first | exact Or.inl rfl | exact Or.inr rfl)) (pgs_cons (pg_name (i := 3) sc_Rule_broken_at.nd rfl (by first | exact Or.inl rfl | exact Or.inr rfl)) (pgs_cons (pg_name (i := 4) sc_Rule_broken_at.nd rfl (by first | exact Or.inl rfl | exact Or.inr rfl)) pgs_nil))))
 (pss_cons (ps_set (i := 5) sc_Rule_broken_at.nd rfl (by first | exact Or.inl rfl | exact Or.inr rfl) (pe_tup (pa_cons (pe_cmpR op_notN (pv 3) pe_non (nomark _)) (pa_cons (pv 4) (pa_cons (pe_callB (call_min2 rfl) (by rfl) T.b_min (by decide +kernel) (pa_cons pe_int (pa_cons (pe_callB call_len_str (by rfl) T.b_len (by decide +kernel) (pa_cons (pe_meth (E := fun _ _ _ => False) (pv 1) T.cl_Tree T.me_Tree_below (ok_Tree_below T B) (hr.mono (by decide)) T.bi_Tree_below .nil (passes_call LamX.takes0 (fun _ _ _ _ h => h)) (pa_cons (pv 2) pa_nil)) pa_nil)) pa_nil))) pa_nil)))))
 (pss_one (ps_if (pt_cmpR (op_notInDT hu65) (pv 5) (pe_ifExp (pt_cmpR op_eq (pv 2) pe_str (nomark _)) (pe_fld (pv 0) rfl) (pe_fld (pv 0) rfl)) (by rfl))
 (pss_one (ps_ret (pv 2)))
 pss_nil))))
 (pss_one (ps_ret pe_non))), ?_⟩
  refine ⟨_, rfl, y, _, dy, _, _, rfl, x1, T.cl_Tree, T.na_Tree_rows, tf_rows, t, rfl, ⟨_, SqT.of x2⟩, ?_⟩
  have hwl : ws.length = rs.length := x3.length
  refine for_it (walk_tup (K := K) (a := t) (xs := ws)) (fun i σ H3 => (∃ v2 v3 v4 v5, σ = [some (.ref x), some (.ref y), v2, v3, v4, v5]) ∧ Same H H3 ∧ ∀ r ∈ rs.take i, kdOf z (rs.map (·.1)) r ∈ (if r.1 = [] then j1 else j2))
    ⟨⟨_, _, _, _, rfl⟩, fun _ _ h => h, by simp⟩ (fun i σ H3 _ ⟨_, s, _⟩ => SqT.of (s _ _ x2)) (fun i u σ H3 H4 hi ⟨⟨v2, v3, v4, v5, e1⟩, s, al⟩ yl => ?_) (fun σ H3 ⟨⟨v2, v3, v4, v5, e1⟩, s, al⟩ => ?_)
  · obtain ⟨rfl, hu'⟩ := yl
    subst e1
    obtain ⟨r, hr2, a, rfl, ha⟩ := paired_ix x3 hu'
    have hrm := List.mem_of_getElem? hr2
    refine ⟨a, _, rfl, SqT.of (s _ _ ha), rfl, _, _, rfl, _, _, rfl, _, _, rfl, rfl, ?_⟩
    refine ⟨_, rfl, rfl, _, rfl, ?_⟩
    have hy' := hy.same s
    refine ⟨_, rfl, y, dy, _, rfl, s _ _ x1, tf_no (by decide +kernel), _, rfl, y, z, rs, _, some r.1, rfl, hy', nd, rfl, fun q' hq' e => ?_, fun h => ?_⟩
    · cases Option.some.inj e
      refine ⟨_, rfl, kids_len hz, _, _, rfl, ?_⟩
      rw [sw_len, min_if, isN_o]
      refine ⟨by show 3 ≤ sizeLine; decide, fun l hl2 => ?_⟩
      have s2 := s.trans (same_upd (o := .tup [.bl r.2.1.isSome, .bl r.2.2, .int (min 2 ((kids z (rs.map (·.1)) r.1).length : Int))]) hl2)
      have hk : IsK (upd H4 l (.tup [.bl r.2.1.isSome, .bl r.2.2, .int (min 2 ((kids z (rs.map (·.1)) r.1).length : Int))])) (.ref l) (kdOf z (rs.map (·.1)) r) := ⟨l, rfl, upd_same⟩
      generalize upd H4 l (.tup [.bl r.2.1.isSome, .bl r.2.2, .int (min 2 ((kids z (rs.map (·.1)) r.1).length : Int))]) = H5 at s2 hk
      refine ⟨_, rfl, _, rfl, rfl, _, rfl, ?_⟩
      rw [mt_eq, sw_dec]
      have step : ∀ js : List Kd, js = (if r.1 = [] then j1 else j2) → kdOf z (rs.map (·.1)) r ∈ js → ∀ r' ∈ rs.take (i + 1), kdOf z (rs.map (·.1)) r' ∈ (if r'.1 = [] then j1 else j2) := fun js e hm r' hr' => by
        rw [List.take_add_one, hr2] at hr'
        rcases List.mem_append.mp hr' with h | h
        · exact al r' h
        · rw [List.mem_singleton.mp (show r' ∈ [r] from h), ← e]
          exact hm
      have out : ∀ js : List Kd, js = (if r.1 = [] then j1 else j2) → kdOf z (rs.map (·.1)) r ∉ js → badR z rs j1 j2 = some r := fun js e hm => by
        unfold badR
        have hsplit : rs = rs.take i ++ r :: rs.drop (i + 1) := by
          have h1 := (List.getElem?_eq_some_iff.mp hr2)
          obtain ⟨h1, h2⟩ := h1
          rw [← h2, List.getElem_cons_drop, List.take_append_drop]
        have hd : ∀ os : List Wd, ∀ l : List Rw, (∀ r' ∈ l, kdOf z os r' ∈ (if r'.1 = [] then j1 else j2)) → l.find? (fun r => decide (kdOf z os r ∉ (if r.1 = [] then j1 else j2))) = none := fun os l hl' => by
          rw [List.find?_eq_none]
          intro r' hr'
          simp [hl' r' hr']
        rw [show rs.find? (fun r => decide (kdOf z (rs.map (·.1)) r ∉ (if r.1 = [] then j1 else j2))) = (rs.take i ++ r :: rs.drop (i + 1)).find? (fun r => decide (kdOf z (rs.map (·.1)) r ∉ (if r.1 = [] then j1 else j2))) by rw [← hsplit]]
        rw [List.find?_append, hd _ _ al, Option.none_or, List.find?_cons_of_pos]
        simp only [decide_eq_true_eq]
        rw [← e]
        exact hm
      refine ite2 (fun h => ?_) (fun h => ?_)
      · have hr0 := of_decide_eq_true h
        refine ⟨_, rfl, x, _, dx, _, _, rfl, s2 _ _ r1, T.cl_Rule, T.na_Rule_root, flds_root _ _, _, _, hk.dp, .tup (SqT.of (s2 _ _ r2)) (AllK.dp (AllK.same s2 r4)), kd_shaped _, kds_shapedT _, _, rfl, ?_⟩
        rw [kd_any]
        refine ite2 (fun h => ?_) (fun h => ?_)
        · have hn : kdOf z (rs.map (·.1)) r ∉ j1 := by simpa using h
          refine ⟨_, rfl, ?_⟩
          have := q _ s2
          rw [out j1 (by rw [if_pos hr0]) hn] at this
          exact this
        · have hm : kdOf z (rs.map (·.1)) r ∈ j1 := by simpa using h
          exact ⟨⟨_, _, _, _, rfl⟩, s2, step j1 (by rw [if_pos hr0]) hm⟩
      · have hr0 : ¬ r.1 = [] := fun z => h (decide_eq_true z)
        refine ⟨_, rfl, x, _, dx, _, _, rfl, s2 _ _ r1, T.cl_Rule, T.na_Rule_others, flds_others _ _, _, _, hk.dp, .tup (SqT.of (s2 _ _ r3)) (AllK.dp (AllK.same s2 r5)), kd_shaped _, kds_shapedT _, _, rfl, ?_⟩
        rw [kd_any]
        refine ite2 (fun h => ?_) (fun h => ?_)
        · have hn : kdOf z (rs.map (·.1)) r ∉ j2 := by simpa using h
          refine ⟨_, rfl, ?_⟩
          have := q _ s2
          rw [out j2 (by rw [if_neg hr0]) hn] at this
          exact this
        · have hm : kdOf z (rs.map (·.1)) r ∈ j2 := by simpa using h
          exact ⟨⟨_, _, _, _, rfl⟩, s2, step j2 (by rw [if_neg hr0]) hm⟩
    · rw [show inR (some r.1) rs = true from decide_eq_true (List.mem_map.mpr ⟨r, hrm, rfl⟩)] at h
      cases h
  · subst e1
    rw [hwl, List.take_of_length_le (Nat.le_refl _)] at al
    have := q _ s
    have e0 : badR z rs j1 j2 = none := by
      unfold badR
      rw [List.find?_eq_none]
      intro r' hr'
      simp [al r' hr']
    rw [e0] at this
    exact this
theorem ok_Rule_keeps (T : Tx P K mg) (B : Bx T base) : FnOk P w K mg base CX0 5 T.a_Rule_keeps T.fd_Rule_keeps ["self", "tree"] (spKeeps T.c_Tree T.c_Rule) := by
  refine okT T.F_Rule_keeps sc_Rule_keeps (fun vs H Q E h => ?_) (fun cdv A outer s H vs Q E hcd hr h => ?_)
  · obtain ⟨x, y, z, rs, j1, j2, rfl, _⟩ := h
    rfl
  have hu := hu_of hr
  have hu65 := hu65_of hr
  obtain ⟨x, y, z, rs, j1, j2, rfl, hx, hy, nd, hz, hl, q⟩ := h
  have hx0 := hx
  obtain ⟨dx, p1, p2, ys1, ys2, r1, r2, r3, r4, r5⟩ := hx
  refine ⟨_, (pss_one (ps_ret (pe_cmpR op_isN (pe_meth (pv 0) T.cl_Rule T.me_Rule_broken_at (ok_Rule_broken_at T B) (hr.mono (by decide)) T.bi_Rule_broken_at .nil pass0 (pa_cons (pv 1) pa_nil)) pe_non (nomark _)))), ?_⟩
  refine ⟨_, rfl, x, dx, _, rfl, r1, flds_no (by decide +kernel) (by decide +kernel), _, rfl, x, y, z, rs, j1, j2, rfl, hx0, hy, nd, hz, hl, fun H' s => ⟨rfl, ?_⟩⟩
  have := q _ s
  cases e : badR z rs j1 j2 with
  | none => rw [e] at this; exact this
  | some r => rw [e] at this; exact this
theorem ok_least_part (T : Tx P K mg) (B : Bx T base) : FnOk P w K mg base CX0 1 T.a_least_part T.fd_least_part ["rule"] (spLeast T.c_Rule) := by
  refine okT T.F_least_part sc_least_part (fun vs H Q E h => ?_) (fun cdv A outer s H vs Q E hcd hr h => ?_)
  · obtain ⟨x, j1, j2, rfl, _⟩ := h
    rfl
  have hu := hu_of hr
  have hu65 := hu65_of hr
  obtain ⟨x, j1, j2, rfl, ⟨dx, p1, p2, ys1, ys2, r1, r2, r3, r4, r5⟩, hl, q⟩ := h
  refine ⟨_, (pss_one (ps_ret (pe_ifExp (pt_val (pe_callB (cr_any rfl) (by rfl) T.b_any (by decide +kernel) (pa_cons (pe_lc (own := [("kind", 1)]) (g := gName 1) rfl sc_least_part.nd (pi_tup (pe_fld (pv 0) rfl)) (blkOk_by (own := [("kind", 1)]) (N := N_least_part) (sc := defScope s_least_part) (by decide +kernel)) (fun _ _ _ _ _ => (pg_name (i := 1) sc_least_part.nd rfl (by first | exact Or.inl rfl | exact Or.inr rfl))) (fun _ _ _ _ _ => pts_nil) (fun _ _ _ _ _ => (pe_cmpR op_eq (pe_ix (by exact ix_tup : IxR _ (rIxT K)) (pv 1) pe_int (fun _ _ => rfl)) pe_int (nomark _)))) pa_nil))) pe_int pe_non))), ?_⟩
  refine ⟨_, rfl, x, _, dx, _, _, rfl, r1, T.cl_Rule, T.na_Rule_others, flds_others _ _, p2, rfl, ⟨_, SqT.of r3⟩, fun D hD => ?_⟩
  refine lcF (walk_tup (K := K) (a := p2) (xs := ys2)) yat r5 hD (fun H' s => SqT.of (s _ _ r3)) (by omega) (fun _ => true) (fun k => .bl (decide (k.2.2 = 0))) (fun v k H' R N hk e s k1 _ => ?_) (fun H' s hl2 => ?_)
  · obtain ⟨t, rfl, ht⟩ := e
    refine ⟨rfl, yes_ite ?_⟩
    refine ⟨_, rfl, t, _, _, _, rfl, rfl, SqT.of (s _ _ ht), atI_nat (j := 2) rfl, rfl, ?_⟩
    have e1 : decide (V.int k.2.2 = V.int 0) = decide (k.2.2 = 0) := decide_eq_decide.mpr ⟨fun h => V.int.inj h, fun h => by rw [h]⟩
    rw [e1]
    exact k1 rfl
  · rw [filter_tt] at hl2
    refine ⟨D, j2.map fun k => decide (k.2.2 = 0), rfl, ?_, _, rfl, ?_⟩
    · rw [List.map_map]
      exact SqL.of hl2
    · have := q _ s
      unfold leastV at this
      rw [List.any_map]
      split at this
      · rename_i hc
        rw [show (j2.any (id ∘ fun k => decide (k.2.2 = 0))) = true from hc]
        exact iteT this
      · rename_i hc
        rw [show (j2.any (id ∘ fun k => decide (k.2.2 = 0))) = false from Bool.eq_false_iff.mpr hc]
        exact iteF this
end
end Toy
set_option Elab.async false
set_option linter.all false
set_option maxRecDepth 100000
set_option maxHeartbeats 4000000
namespace Toy
open PySem L2 Sh ShL LamX NdefX
/-! ### the known rules -/
def E12 : List Kd := [(false, false, 0), (false, false, 1), (false, false, 2), (false, true, 0), (false, true, 1), (false, true, 2), (true, false, 0), (true, false, 1), (true, false, 2), (true, true, 0), (true, true, 1), (true, true, 2)]
theorem E12_nd : E12.Nodup := by decide +kernel
theorem leK_dec (ks : List Kd) (h : (ks.all fun a => ks.all fun b => leK a b || leK b a) = true) : True := trivial
theorem E12_srt : SrtK E12 := by
  unfold SrtK E12
  decide +kernel
theorem srt_sub {ks js : List Kd} (h : SrtK ks) (s : js.Sublist ks) : SrtK js := h.sublist s
theorem srt_filter {ks : List Kd} (h : SrtK ks) (f : Kd → Bool) : SrtK (ks.filter f) := h.sublist List.filter_sublist
theorem each_it {J : It} {n : Nat} {G : Hp → Prop} {Y : Nat → Hp → V → Hp → Prop} {F : V → Hp → (Hp → Prop) → Prop} {Qd : Hp → Prop} {H0 : Hp} (w : Walk J n G Y) (Pv : Nat → Hp → Prop) (h0 : Pv 0 H0) (hG : ∀ i H, i ≤ n → Pv i H → G H)
    (hs : ∀ i x H H', i < n → Pv i H → Y i H x H' → F x H' (Pv (i + 1))) (hd : ∀ H, Pv n H → Qd H) :
    ∃ W : Nat → Nat → Hp → Prop, (∃ m, W 0 m H0) ∧ ∀ i m H, W i m H → (J.stop i H ∧ Qd H) ∨ (J.go i H ∧ ∃ N : Hp → Prop, (∀ H', N H' → ∃ m', m' < m ∧ W (i + 1) m' H') ∧ ∀ x H', J.yld i H x H' → F x H' N) := by
  refine ⟨fun i m H => m = n - i ∧ i ≤ n ∧ Pv i H, ⟨n, by simp, Nat.zero_le _, h0⟩, ?_⟩
  rintro i m H ⟨rfl, hi, p⟩
  have q := hG i H hi p
  by_cases hlt : i < n
  · exact .inr ⟨w.goes i H hlt q, Pv (i + 1), fun H' p' => ⟨n - (i + 1), by omega, rfl, hlt, p'⟩, fun x H' y => hs i x H H' hlt p (w.yields i H x H' hlt q y)⟩
  · have e : i = n := by omega
    subst e
    exact .inl ⟨w.stops H q, hd H p⟩
def kNames : List Str := ["plain", "joined", "bare", "free"]
def rootK (n : Str) : List Kd := if n = "free" then E12 else E12.filter fun k => !k.2.1
def plainK : List Kd := (E12.filter fun k => !k.2.1).filter fun k => decide (k ≠ (false, false, 0))
def joinK : List Kd := plainK.filter (fun k => decide (k ≠ (false, false, 1))) ++ [(false, true, 1)]
def othersK (n : Str) : List Kd := if n = "free" then E12 else if n = "bare" then E12.filter fun k => !k.2.1 else if n = "joined" then joinK else plainK
/-- as the rule holds them -/
def knR (n : Str) : List Kd := rootK n
def knO (n : Str) : List Kd := if n = "joined" then [(false, false, 2), (false, true, 1), (true, false, 0), (true, false, 1), (true, false, 2)] else othersK n
def OddN (H : Hp) (v : V) : Prop := (∃ s, v = .str s ∧ s ∉ kNames) ∨ ∃ t, TyN H v t ∧ t ≠ "str"
def spKnown (C N : Addr) : Sp := fun vs H Q E => ∃ v, vs = [v] ∧ ((∃ s, v = .str s ∧ s ∈ kNames) ∨ OddN H v) ∧ (∀ s, v = .str s → s ∈ kNames → ∀ H' p, Same H H' → H p = none → RuleAt C H' p (knR s) (knO s) → Q (.ref p) H') ∧
  (OddN H v → ∀ H' d, Same H H' → H d = none → H' d = some (exd d [("name", v)]) → E (.ref N) (some d) H')
theorem fine_map {ks : List Kd} (h : ks.Nodup) : Fine (ks.map some) ks := ⟨rfl, h⟩
theorem fine_inj {ks js : List Kd} (h : Fine (ks.map some) js) : js = ks := by
  have := congrArg (List.map fun o : Option Kd => o.getD (false, false, 0)) h.1
  rw [List.map_map, List.map_map] at this
  have e : ∀ l : List Kd, l.map ((fun o : Option Kd => o.getD (false, false, 0)) ∘ some) = l := fun l => by
    conv => rhs; rw [← List.map_id l]
    rfl
  rw [e, e] at this
  exact this.symm
theorem wrong_no {ks : List Kd} (nd : ks.Nodup) {i : Nat} (h : Wrong (ks.map some) i) : False := by
  obtain ⟨o, js, h1, h2, h3⟩ := h
  rw [List.getElem?_map] at h1
  obtain ⟨k, hk, rfl⟩ := Option.map_eq_some_iff.mp h1
  rcases h3 with h3 | ⟨k', hk', h3⟩
  · cases h3
  · cases h3
    rw [← List.map_take] at h2
    rw [fine_inj h2] at hk'
    exact nd_take nd hk hk'
theorem allV_of {H : Hp} {vs : List V} {ks : List Kd} (h : AllK H vs ks) (hk : ∀ k ∈ ks, 0 ≤ k.2.2 ∧ k.2.2 ≤ 2) : AllV H vs (ks.map some) := by
  induction h with
  | nil => exact .nil
  | cons r t ih => exact .cons ⟨r.e, hk _ List.mem_cons_self⟩ (ih fun k h => hk k (List.mem_cons_of_mem _ h))
theorem E12_ok : ∀ k ∈ E12, 0 ≤ k.2.2 ∧ k.2.2 ≤ 2 := by decide +kernel
theorem filter_ok {f : Kd → Bool} {ks : List Kd} (h : ∀ k ∈ ks, 0 ≤ k.2.2 ∧ k.2.2 ≤ 2) : ∀ k ∈ ks.filter f, 0 ≤ k.2.2 ∧ k.2.2 ≤ 2 := fun k hk => h k (List.mem_filter.mp hk).1
/-- [kind for kind in ks if ..] -/
theorem lcK {K : PySem.W.Frag} {H1 : Hp} {a : Addr} {xs : List V} {ks : List Kd} {σ : L2.St} {j i : Nat} {tt : TT} {Qd : VK} (hσ : σ[j]? = some (some (.ref a))) (ha : H1 a = some (.lst xs)) (hx : AllK H1 xs ks) (hl : ks.length ≤ 40) (keep : Kd → Bool)
    (hw : ∀ x, wipe ((wipe σ [i]).set i x) [i] = wipe σ [i]) (hg : ∀ x, ((wipe σ [i]).set i (some x))[i]? = some (some x))
    (hs : ∀ t k H' (Z : Bool → Hp → Prop), k ∈ ks → H' t = some (.tup (kdVs k)) → Same H1 H' → (∀ H2, Same H' H2 → Z (keep k) H2) → tt ((wipe σ [i]).set i (some (.ref t))) H' Z)
    (hd : ∀ H' D ys, Same H1 H' → H1 D = none → H' D = some (.lst ys) → AllK H' ys (ks.filter keep) → Qd (.ref D) H') : tLc (iList K (tVar j)) (gName i) tt (tVar i) [i] σ H1 Qd := by
  refine ⟨_, hσ, a, rfl, ⟨_, SqL.of ha⟩, fun D hD => ?_⟩
  refine lcG (walk_list (K := K) (a := a) (xs := xs)) yat hx (fun _ H => Same H1 H) (same_upd hD) (fun _ H acc s b o h => ?_) (fun m H _ s => SqL.of (s _ _ ha)) (by omega) keep IsK (fun H acc acc' v k hDl hk => IsK.put hDl hk) (fun m x k H acc R N hk ex s hDH k1 k2 => ?_) (fun H acc s hDH p => ?_)
  · rw [upd_ne (ne_of_none h hD)]
    exact s _ _ h
  · have ex' := IsK.same s ex
    obtain ⟨t, rfl, ht⟩ := ex'
    refine ⟨hw _, ?_⟩
    refine hs t k H _ (List.mem_of_getElem? hk) ht s fun H2 s2 => ?_
    refine ite2 (fun h => ?_) (fun h => ?_)
    · exact ⟨_, hg _, k1 h _ _ (s.trans s2) (s2 _ _ hDH) (fun v u q => IsK.same s2 q) ⟨t, rfl, s2 _ _ ht⟩⟩
    · exact k2 (by simpa using h) _ (s.trans s2) (s2 _ _ hDH) fun v u q => IsK.same s2 q
  · exact hd H D acc s hD hDH p
end Toy
set_option Elab.async false
set_option linter.all false
set_option maxRecDepth 100000
set_option maxHeartbeats 4000000
namespace Toy
open PySem L2 Sh ShL LamX NdefX
theorem bl2 {i : Nat} {x : V} (h : ([V.bl false, V.bl true] : List V)[i]? = some x) : i < 2 ∧ x = .bl (decide (i = 1)) := by
  match i, h with
  | 0, h => cases h; exact ⟨by decide, rfl⟩
  | 1, h => cases h; exact ⟨by decide, rfl⟩
  | n + 2, h => cases h
theorem in3 {i : Nat} {x : V} (h : ([V.int 0, V.int 1, V.int 2] : List V)[i]? = some x) : i < 3 ∧ x = .int (i : Nat) := by
  match i, h with
  | 0, h => cases h; exact ⟨by decide, rfl⟩
  | 1, h => cases h; exact ⟨by decide, rfl⟩
  | 2, h => cases h; exact ⟨by decide, rfl⟩
  | n + 3, h => cases h
theorem E12_at : ∀ i j k : Nat, i < 2 → j < 2 → k < 3 → E12[6 * i + 3 * j + k]? = some (decide (i = 1), decide (j = 1), (k : Int))
  | 0, 0, 0, _, _, _ => rfl
  | 0, 0, 1, _, _, _ => rfl
  | 0, 0, 2, _, _, _ => rfl
  | 0, 1, 0, _, _, _ => rfl
  | 0, 1, 1, _, _, _ => rfl
  | 0, 1, 2, _, _, _ => rfl
  | 1, 0, 0, _, _, _ => rfl
  | 1, 0, 1, _, _, _ => rfl
  | 1, 0, 2, _, _, _ => rfl
  | 1, 1, 0, _, _, _ => rfl
  | 1, 1, 1, _, _, _ => rfl
  | 1, 1, 2, _, _, _ => rfl
  | _ + 2, _, _, h, _, _ => absurd h (by omega)
  | _, _ + 2, _, _, h, _ => absurd h (by omega)
  | _, _, _ + 3, _, _, h => absurd h (by omega)
/-- all twelve kinds, by three clauses -/
theorem lcE12 {K : PySem.W.Frag} {H : Hp} {v0 r1 r2 r3 r4 : Option V} {Qd : VK}
    (hd : ∀ H' D ys, Same H H' → H D = none → H' D = some (.lst ys) → AllK H' ys E12 → Qd (.ref D) H') :
    tLcN { wi := iTup K (tTup (tCons (tC (V.bl false)) (tCons (tC (V.bl true)) tNil))), g := gName 4, tt := tYes, vs := [4, 5, 6] }
      [{ wi := iTup K (tTup (tCons (tC (V.bl false)) (tCons (tC (V.bl true)) tNil))), g := gName 5, tt := tYes, vs := [5, 6] }, { wi := iTup K (tTup (tCons (tC (V.int 0)) (tCons (tC (V.int 1)) (tCons (tC (V.int 2)) tNil)))), g := gName 6, tt := tYes, vs := [6] }]
      (tTup (tCons (tVar 4) (tCons (tVar 5) (tCons (tVar 6) tNil)))) [v0, r1, r2, r3, none, none, none, r4] H Qd := by
  refine ⟨by show 2 ≤ sizeLine; decide, fun t ht => ⟨t, rfl, ⟨_, SqT.of upd_same⟩, fun D hD => ?_⟩⟩
  have s1 := same_upd (o := .tup [V.bl false, V.bl true]) ht
  have ht1 : (upd H t (.tup [V.bl false, V.bl true])) t = some (.tup [V.bl false, V.bl true]) := upd_same
  generalize upd H t (.tup [V.bl false, V.bl true]) = H1 at s1 ht1 hD
  have hDH : H D = none := s1.free hD
  let St : Nat → Hp → Prop := fun n H' => Same H1 H' ∧ ∃ acc, H' D = some (.lst acc) ∧ AllK H' acc (E12.take n)
  have st0 : St 0 (upd H1 D (.lst [])) := ⟨same_upd hD, [], upd_same, by rw [List.take_zero]; exact .nil⟩
  refine each_it (walk_tup (K := K) (a := t) (xs := [V.bl false, V.bl true])) (fun i H' => St (6 * i) H') st0 (fun i H' _ s => SqT.of (s.1 _ _ ht1)) (fun i x H2 H3 hi st y => ?_) (fun H' ⟨s, acc, h1, h2⟩ => ?_)
  · obtain ⟨rfl, hx⟩ := y
    obtain ⟨hi2, rfl⟩ := bl2 hx
    refine ⟨rfl, ?_⟩
    dsimp only
    refine yes_ite ?_
    refine ⟨by show 2 ≤ sizeLine; decide, fun t2 ht2 => ⟨t2, rfl, ⟨_, SqT.of upd_same⟩, ?_⟩⟩
    have put : ∀ {n : Nat} {H' : Hp} {p : Addr} {xs : List V}, St n H' → H' p = none → St n (upd H' p (.tup xs)) := fun {n H' p xs} ⟨s, acc, h1, h2⟩ hp => ⟨s.trans (same_upd hp), acc, same_upd hp _ _ h1, AllK.same (same_upd hp) h2⟩
    have st2 := put (xs := [V.bl false, V.bl true]) st ht2
    have g2 : (upd H3 t2 (.tup [V.bl false, V.bl true])) t2 = some (.tup [V.bl false, V.bl true]) := upd_same
    generalize upd H3 t2 (.tup [V.bl false, V.bl true]) = H4 at st2 g2
    refine each_it (walk_tup (K := K) (a := t2) (xs := [V.bl false, V.bl true])) (fun j H' => St (6 * i + 3 * j) H' ∧ H' t2 = some (.tup [V.bl false, V.bl true])) ⟨st2, g2⟩ (fun j H' _ s => SqT.of s.2) (fun j x2 H5 H6 hj ⟨stj, gj⟩ y2 => ?_) (fun H' ⟨s, _⟩ => ?_)
    · obtain ⟨rfl, hx2⟩ := y2
      obtain ⟨hj2, rfl⟩ := bl2 hx2
      refine ⟨rfl, ?_⟩
      dsimp only
      refine yes_ite ?_
      refine ⟨by show 3 ≤ sizeLine; decide, fun t3 ht3 => ⟨t3, rfl, ⟨_, SqT.of upd_same⟩, ?_⟩⟩
      have st3 := put (xs := [V.int 0, V.int 1, V.int 2]) stj ht3
      have gj3 := same_upd (o := .tup [V.int 0, V.int 1, V.int 2]) ht3 _ _ gj
      have g3 : (upd H6 t3 (.tup [V.int 0, V.int 1, V.int 2])) t3 = some (.tup [V.int 0, V.int 1, V.int 2]) := upd_same
      generalize upd H6 t3 (.tup [V.int 0, V.int 1, V.int 2]) = H7 at st3 g3 gj3
      refine each_it (walk_tup (K := K) (a := t3) (xs := [V.int 0, V.int 1, V.int 2])) (fun k H' => (St (6 * i + 3 * j + k) H' ∧ H' t2 = some (.tup [V.bl false, V.bl true])) ∧ H' t3 = some (.tup [V.int 0, V.int 1, V.int 2])) ⟨⟨st3, gj3⟩, g3⟩ (fun j H' _ s => SqT.of s.2) (fun k x3 H8 H9 hk ⟨⟨stk, gk⟩, gk3⟩ y3 => ?_) (fun H' ⟨⟨s, g⟩, _⟩ => ?_)
      · obtain ⟨rfl, hx3⟩ := y3
        obtain ⟨hk2, rfl⟩ := in3 hx3
        refine ⟨rfl, ?_⟩
        dsimp only
        refine yes_ite ?_
        refine ⟨_, rfl, _, rfl, _, rfl, by show 3 ≤ sizeLine; decide, fun l hl => ?_⟩
        obtain ⟨s, acc, h1, h2⟩ := stk
        have sl := same_upd (o := .tup [V.bl (decide (i = 1)), V.bl (decide (j = 1)), V.int (k : Nat)]) hl
        have hlen := AllK.len h2
        have hl12 : (E12.take (6 * i + 3 * j + k)).length ≤ 12 := by rw [List.length_take]; exact Nat.min_le_right _ _
        refine ⟨acc, sl _ _ h1, by rw [sizeLine_eq]; omega, ⟨⟨fun b o hb => ?_, acc ++ [.ref l], upd_same, ?_⟩, ?_⟩, ?_⟩
        · rw [upd_ne (ne_of_none hb hD)]
          exact sl _ _ (s _ _ hb)
        · rw [show 6 * i + 3 * j + (k + 1) = (6 * i + 3 * j + k) + 1 by omega, List.take_add_one, E12_at i j k hi2 hj2 hk2]
          exact paired_app (AllK.put (sl _ _ h1) (AllK.same sl h2)) (.cons (IsK.put (sl _ _ h1) ⟨l, rfl, upd_same⟩) .nil)
        · rw [upd_ne (ne_of gk h1 (by intro z; cases z))]
          exact sl _ _ gk
        · rw [upd_ne (ne_of gk3 h1 (by intro z; cases z))]
          exact sl _ _ gk3
      · rw [show 6 * i + 3 * (j + 1) = 6 * i + 3 * j + [V.int 0, V.int 1, V.int 2].length by show _ = _ + 3; omega]
        exact ⟨s, g⟩
    · rw [show 6 * (i + 1) = 6 * i + 3 * [V.bl false, V.bl true].length by show _ = _ + 3 * 2; omega]
      exact s
  · exact hd H' D acc (s1.trans s) hDH h1 h2
end Toy
set_option Elab.async false
set_option linter.all false
set_option maxRecDepth 100000
set_option maxHeartbeats 4000000
namespace Toy
open PySem L2 Sh ShL LamX NdefX
theorem asgI {te : TE} {g : TG} {u : TS} {D : Ends} {σ : L2.St} {H : Hp} (h : te σ H fun v H1 => g v σ H1 (u D)) : tSeq (tAsg te g) u D σ H := h
theorem asgE {te : TE} {g : TG} {D : Ends} {σ : L2.St} {H : Hp} (h : te σ H fun v H1 => g v σ H1 D.nx) : tAsg te g D σ H := h
theorem opI {r : R2} {ta tb : TE} {σ : L2.St} {H : Hp} {Q : VK} (h : ta σ H fun x H1 => tb σ H1 fun y H2 => r x y H2 Q) : tOp r ta tb σ H Q := h
theorem kpS_new {H : Hp} {p : Addr} {o : HO} (h : H p = none) : KpS H (upd H p o) := kpS_same (same_upd h)
/-- Rule(a, b), in general -/
theorem mk_ruleG {C N : Addr} {E : XK} {a b : Addr} {xs zs : List V} {os us : List (Option Kd)} {H : Hp} {Q : VK} (ha : SqA H a xs) (hb : SqA H b zs) (va : AllV H xs os) (vb : AllV H zs us) (l1 : os.length ≤ 40) (l2 : us.length ≤ 40)
    (k1 : ∀ ks ls, Fine os ks → Fine us ls → ∀ H' p j1 j2, Same H H' → H p = none → RuleAt C H' p j1 j2 → j1.Perm ks → SrtK j1 → j2.Perm ls → SrtK j2 → Q (.ref p) H')
    (k2 : ∀ i, Wrong os i → ∀ H' d, Same H H' → H d = none → H' d = some (kErr "root" i d) → E (.ref N) (some d) H')
    (k3 : ∀ ks i, Fine os ks → Wrong us i → ∀ H' d, Same H H' → H d = none → H' d = some (kErr "others" i d) → E (.ref N) (some d) H') :
    ∀ x dx, H x = none → H dx = none → dx ≠ x → spInitR C N (.ref x :: ([.ref a, .ref b] ++ [])) (upd (upd H dx (.own x)) x (.ins C dx [])) (fun v H2 => v = .non ∧ Q (.ref x) H2) E := fun x dx hx hdx ne => by
  have s0 : Same H (upd (upd H dx (.own x)) x (.ins C dx [])) := (same_upd hdx).trans (same_upd (by rw [upd_ne ne.symm]; exact hx))
  have kS := kpS_same s0
  have up : ∀ {H'}, Kp x (upd (upd H dx (.own x)) x (.ins C dx [])) H' → Same H H' := fun {H'} k b o hb => k b o (s0 _ _ hb) (ne_of_none hb hx)
  have fr : ∀ {d}, (upd (upd H dx (.own x)) x (.ins C dx [])) d = none → H d = none := fun {d} n => s0.free n
  exact ⟨x, dx, a, b, xs, zs, os, us, rfl, upd_same, ha.kp kS, hb.kp kS, AllV.kp kS va, AllV.kp kS vb, l1, l2, fun ks ls fk fl H' j1 j2 kp r m1 o1 m2 o2 => ⟨rfl, k1 ks ls fk fl H' x j1 j2 (up kp) hx r m1 o1 m2 o2⟩,
    fun i w H' d kp n e => k2 i w H' d (up kp) (fr n) e, fun ks i fk w H' d kp n e => k3 ks i fk w H' d (up kp) (fr n) e⟩
/-- Rule(a, b) of right kinds -/
theorem mk_ruleK {C N : Addr} {E : XK} {a b : Addr} {xs zs : List V} {ks ls : List Kd} {H : Hp} {Q : VK} (ha : SqA H a xs) (hb : SqA H b zs) (va : AllV H xs (ks.map some)) (vb : AllV H zs (ls.map some)) (n1 : ks.Nodup) (n2 : ls.Nodup) (l1 : ks.length ≤ 40) (l2 : ls.length ≤ 40)
    (k1 : ∀ H' p j1 j2, Same H H' → H p = none → RuleAt C H' p j1 j2 → j1.Perm ks → SrtK j1 → j2.Perm ls → SrtK j2 → Q (.ref p) H') :
    ∀ x dx, H x = none → H dx = none → dx ≠ x → spInitR C N (.ref x :: ([.ref a, .ref b] ++ [])) (upd (upd H dx (.own x)) x (.ins C dx [])) (fun v H2 => v = .non ∧ Q (.ref x) H2) E :=
  mk_ruleG ha hb va vb (by rw [List.length_map]; exact l1) (by rw [List.length_map]; exact l2) (fun js is fj fi => by rw [fine_inj fj, fine_inj fi]; exact k1) (fun i w => (wrong_no n1 w).elim) fun _ i _ w => (wrong_no n2 w).elim
theorem str_in (s : Str) (l : List Str) : inV (.str s) (l.map V.str) = decide (s ∈ l) := by
  induction l with
  | nil => rfl
  | cons q l ih =>
    show (eqV (.str q) (.str s) || inV (.str s) (l.map V.str)) = _
    rw [ih]
    have e : eqV (.str q) (.str s) = decide (q = s) := by
      show (q == s) = _
      by_cases h : q = s <;> simp [h]
    rw [e]
    by_cases h : s = q
    · subst h; simp
    · have h' : ¬ q = s := fun z => h z.symm
      simp [h, h']
theorem dec_str (a b : Str) : decide (V.str a = V.str b) = decide (a = b) := decide_eq_decide.mpr ⟨fun h => V.str.inj h, fun h => by rw [h]⟩
theorem kn_other : ∀ s ∈ kNames, s ≠ "free" → s ≠ "bare" → s ≠ "joined" → s = "plain" := by
  intro s hs h1 h2 h3
  simp only [kNames, List.mem_cons, List.not_mem_nil, or_false] at hs
  rcases hs with h | h | h | h
  · exact h
  · exact absurd h h3
  · exact absurd h h2
  · exact absurd h h1
theorem join_perm : (plainK.filter (fun k => decide (k ≠ (false, false, 1))) ++ [(false, true, 1)]).Perm (knO "joined") := by decide +kernel
theorem join_srt : SrtK (knO "joined") := by
  unfold SrtK knO
  decide +kernel
theorem plain_srt : SrtK plainK := srt_filter (srt_filter E12_srt _) _
theorem joinK_nd : joinK.Nodup := by decide +kernel
theorem ne_free_bare : ¬ (("bare" : Str) = "free") := by decide +kernel
theorem ne_joined : ¬ (("joined" : Str) = "free") ∧ ¬ (("joined" : Str) = "bare") := by decide +kernel
theorem ne_plain : ¬ (("plain" : Str) = "free") ∧ ¬ (("plain" : Str) = "bare") ∧ ¬ (("plain" : Str) = "joined") := by decide +kernel
theorem joinK_ok : ∀ k ∈ joinK, 0 ≤ k.2.2 ∧ k.2.2 ≤ 2 := by decide +kernel
theorem knO_bare : knO "bare" = E12.filter fun k => !k.2.1 := by unfold knO othersK; rw [if_neg (by decide +kernel), if_neg ne_free_bare, if_pos rfl]
theorem knO_free : knO "free" = E12 := by unfold knO othersK; rw [if_neg (by decide +kernel), if_pos rfl]
theorem knO_plain : knO "plain" = plainK := by unfold knO othersK; rw [if_neg ne_plain.2.2, if_neg ne_plain.1, if_neg ne_plain.2.1, if_neg ne_plain.2.2]
theorem knR_no {s : Str} (h : s ≠ "free") : knR s = E12.filter fun k => !k.2.1 := by unfold knR rootK; rw [if_neg h]
theorem tup_ix2 {K : PySem.W.Frag} {H : Hp} {t : Addr} {k : Kd} (h : H t = some (.tup (kdVs k))) (R : VK) (q : R (.bl k.2.1) H) : rIxT K (.ref t) (.int 1) H R := ⟨t, _, _, _, rfl, rfl, SqT.of h, atI_nat (j := 1) rfl, q⟩
section
variable {P : Program} {w : World} {K : PySem.W.Frag} {mg : Str → Option Value} {base : Heap}
theorem ok_known_rule (T : Tx P K mg) (B : Bx T base) : FnOk P w K mg base (L2.CX P w) 6 T.a_known_rule T.fd_known_rule ["name"] (spKnown T.c_Rule T.c_BadName) := by
  refine T.F_known_rule.okX sc_known_rule (fun vs H Q E h => ?_) (fun cdv A outer s H vs Q E hr h => ?_)
  · obtain ⟨v, rfl, _⟩ := h
    rfl
  have hu := hu_of hr
  have hu65 := hu65_of hr
  obtain ⟨v, rfl, hv, q1, q2⟩ := h
  refine ⟨_, (pss_cons (ps_if (PW.pt (pw_or (pt_not (pt_val (pe_callB call_isi (by rfl) T.b_isinstance (by decide +kernel) (pa_cons (pv 0) (pa_cons (pe_bltn (v := .ty "str") (by rfl) T.b_str (by decide +kernel) rfl) pa_nil))))) (pw_or1 (pt_cmpR op_notIn_seq (pv 0) (pe_tup (pa_cons pe_str (pa_cons pe_str (pa_cons pe_str (pa_cons pe_str pa_nil))))) (by rfl)))))
 (pss_one (ps_raiseX rfl rfl (takes_of rfl rfl rfl rfl) (pe_oexN T.i_BadName.m (ok_x_BadName T) (hr.mono (by decide)) (by rfl) T.m_BadName T.kb_BadName_1 pass0 (pa_cons (pv 0) pa_nil) pk_nil)))
 pss_nil)
 (pss_cons (ps_setLcN (i := 1) (own := [("kept", 4), ("flag", 5), ("children", 6)]) (g := gName 4) rfl sc_known_rule.nd rfl rfl (sw_true rfl rfl rfl (by decide +kernel)) (pi_tup (pe_tup (pa_cons pe_bl (pa_cons pe_bl pa_nil)))) (blkOk_by (own := [("kept", 4), ("flag", 5), ("children", 6)]) (N := N_known_rule) (sc := defScope s_known_rule) (by decide +kernel)) (fun _ _ _ _ _ => (pg_name (i := 4) sc_known_rule.nd rfl (by first | exact Or.inl rfl | exact Or.inr rfl))) (fun _ _ _ _ _ => pts_nil) (fun _ _ _ _ _ => (.cons (vs1 := [5, 6]) (by exact pi_tup (pe_tup (pa_cons pe_bl (pa_cons pe_bl pa_nil))) : PI _ _ _ (iTup K (tTup (tCons (tC (.bl false)) (tCons (tC (.bl true)) tNil))))) (pg_name (i := 5) sc_known_rule.nd rfl (by first | exact Or.inl rfl | exact Or.inr rfl)) pts_nil (by intro _; rfl) (by decide) (.cons (vs1 := [6]) (by exact pi_tup (pe_tup (pa_cons pe_int (pa_cons pe_int (pa_cons pe_int pa_nil)))) : PI _ _ _ (iTup K (tTup (tCons (tC (.int 0)) (tCons (tC (.int 1)) (tCons (tC (.int 2)) tNil)))))) (pg_name (i := 6) sc_known_rule.nd rfl (by first | exact Or.inl rfl | exact Or.inr rfl)) pts_nil (by intro _; rfl) (by decide) .nil))) (fun _ _ _ _ _ => (pe_tup (pa_cons (pv 4) (pa_cons (pv 5) (pa_cons (pv 6) pa_nil))))))
 (pss_cons (ps_if (pt_cmpR op_eq (pv 0) pe_str (nomark _))
 (pss_one (ps_ret (pe_make T.mk_Rule (ok_Rule_init T B) (hr.mono (by decide)) (by rfl) T.m_Rule T.bi_Rule_init .nil (passes_call (takes_of rfl rfl rfl rfl) (fun _ _ _ _ h => h)) (pa_cons (pv 1) (pa_cons (pv 1) pa_nil)))))
 pss_nil)
 (pss_cons (ps_setLc (i := 2) (own := [("kind", 7)]) (g := gName 7) rfl sc_known_rule.nd rfl rfl (sw_true rfl rfl rfl (by decide +kernel)) (pi_list (pv 1)) (blkOk_by (own := [("kind", 7)]) (N := N_known_rule) (sc := defScope s_known_rule) (by decide +kernel)) (fun _ _ _ _ _ => (pg_name (i := 7) sc_known_rule.nd rfl (by first | exact Or.inl rfl | exact Or.inr rfl))) (fun _ _ _ _ _ => (pts_one (pt_not (pt_val (pe_ix (by exact ix_tup : IxR _ (rIxT K)) (pv 7) pe_int (fun _ _ => rfl)))))) (fun _ _ _ _ _ => (pv 7)))
 (pss_cons (ps_if (pt_cmpR op_eq (pv 0) pe_str (nomark _))
 (pss_one (ps_ret (pe_make T.mk_Rule (ok_Rule_init T B) (hr.mono (by decide)) (by rfl) T.m_Rule T.bi_Rule_init .nil (passes_call (takes_of rfl rfl rfl rfl) (fun _ _ _ _ h => h)) (pa_cons (pv 2) (pa_cons (pv 2) pa_nil)))))
 pss_nil)
 (pss_cons (ps_setLc (i := 3) (own := [("kind", 7)]) (g := gName 7) rfl sc_known_rule.nd rfl rfl (sw_true rfl rfl rfl (by decide +kernel)) (pi_list (pv 2)) (blkOk_by (own := [("kind", 7)]) (N := N_known_rule) (sc := defScope s_known_rule) (by decide +kernel)) (fun _ _ _ _ _ => (pg_name (i := 7) sc_known_rule.nd rfl (by first | exact Or.inl rfl | exact Or.inr rfl))) (fun _ _ _ _ _ => (pts_one (pt_cmpR (by exact (op_neD hr.units) : OpR _ (compareOp .NotEq) (rNeD K)) (pv 7) (pe_tup (pa_cons pe_bl (pa_cons pe_bl (pa_cons pe_int pa_nil)))) (nomark _)))) (fun _ _ _ _ _ => (pv 7)))
 (pss_cons (ps_if (pt_cmpR op_eq (pv 0) pe_str (nomark _))
 (pss_one (ps_set (i := 3) sc_known_rule.nd rfl (by first | exact Or.inl rfl | exact Or.inr rfl) (pe_op op_cat (pe_lc (own := [("kind", 7)]) (g := gName 7) rfl sc_known_rule.nd (pi_list (pv 3)) (blkOk_by (own := [("kind", 7)]) (N := N_known_rule) (sc := defScope s_known_rule) (by decide +kernel)) (fun _ _ _ _ _ => (pg_name (i := 7) sc_known_rule.nd rfl (by first | exact Or.inl rfl | exact Or.inr rfl))) (fun _ _ _ _ _ => (pts_one (pt_cmpR (by exact (op_neD hr.units) : OpR _ (compareOp .NotEq) (rNeD K)) (pv 7) (pe_tup (pa_cons pe_bl (pa_cons pe_bl (pa_cons pe_int pa_nil)))) (nomark _)))) (fun _ _ _ _ _ => (pv 7))) (pe_lst (pa_cons (pe_tup (pa_cons pe_bl (pa_cons pe_bl (pa_cons pe_int pa_nil)))) pa_nil)))))
 pss_nil)
 (pss_one (ps_ret (pe_make T.mk_Rule (ok_Rule_init T B) (hr.mono (by decide)) (by rfl) T.m_Rule T.bi_Rule_init .nil (passes_call (takes_of rfl rfl rfl rfl) (fun _ _ _ _ h => h)) (pa_cons (pv 2) (pa_cons (pv 3) pa_nil)))))))))))), ?_⟩
  have raise : OddN H v → ∀ H5, Same H H5 → ∀ (D : Ends) (σ : L2.St), σ[0]? = some (some v) → tRaiseX (cxOf (L2.CX P w) P w K mg base N_known_rule "known_rule" (defScope s_known_rule) T.a_known_rule cdv A outer s H E) (fun cls d _ H => E cls d H) (tOex T.c_BadName 1 0 (spXI T.c_BadName ["name"]) rotV (tCons (tVar 0) tNil) tNil) D σ H5 := fun ho H5 s5 D σ e =>
    mk_raise (vs := [v]) (zs := []) (fun b hb => fr0_none (s5.free hb)) T.x_BadName.raises (fun R h => ⟨_, e, h⟩) (fun R h => h) rfl rfl rfl fun H' d s' n e => q2 ho H' d (s5.trans s') (s5.free n) e
  by_cases hs : ∃ t, TyN H v t ∧ t ≠ "str"
  · obtain ⟨t, ht, n⟩ := hs
    refine ⟨_, rfl, _, _, _, _, _, rfl, .ty _, ht.ty, kit_str ht.mem, _, rfl, ?_⟩
    rw [decide_eq_false n]
    exact iteT (iteT (raise (.inr ⟨t, ht, n⟩) H (fun _ _ h => h) { nx := fun _ _ => True, rt := fun _ _ => True } _ rfl))
  obtain ⟨s, rfl⟩ : ∃ s, v = .str s := by
    rcases hv with ⟨s, e, _⟩ | ⟨s, e, _⟩ | h
    · exact ⟨s, e⟩
    · exact ⟨s, e⟩
    · exact absurd h hs
  refine ⟨_, rfl, _, _, _, _, _, rfl, .ty _, .base (.str _), isi_s, _, rfl, iteF ?_⟩
  refine ⟨_, rfl, by show 4 ≤ sizeLine; decide, fun p0 hp0 => ⟨p0, kNames.map V.str, rfl, .inr (SqT.of upd_same), rfl, rfl, _, rfl, ?_⟩⟩
  have s1 := same_upd (o := .tup [V.str "plain", V.str "joined", V.str "bare", V.str "free"]) hp0
  generalize upd H p0 (.tup [V.str "plain", V.str "joined", V.str "bare", V.str "free"]) = H1 at s1
  rw [str_in]
  by_cases hm : s ∈ kNames
  rotate_left
  · rw [decide_eq_false hm]
    exact iteT (raise (.inl ⟨s, rfl, hm⟩) H1 s1 { nx := fun _ _ => True, rt := fun _ _ => True } _ rfl)
  rw [decide_eq_true hm]
  refine iteF ?_
  refine nextS ?_
  dsimp only
  refine asgI ?_
  refine lcE12 (K := K) fun H2 D1 ys1 s2 n1 h1 k1 => ?_
  have s12 := s1.trans s2
  refine ⟨_, rfl, rfl, _, rfl, ?_⟩
  rw [dec_str]
  refine ite2 (fun hf => ?_) (fun hf => ?_)
  · have hf := of_decide_eq_true hf
    subst hf
    refine ⟨_, rfl, _, rfl, ?_⟩
    have v1 := allV_of k1 E12_ok
    refine mk_ruleK (.inl h1) (.inl h1) v1 v1 E12_nd E12_nd (by decide) (by decide) fun H' p j1 j2 s3 n r m1 o1 m2 o2 => ?_
    rw [srt_uniq o1 E12_srt m1, srt_uniq o2 E12_srt m2] at r
    exact q1 _ rfl hm H' p (s12.trans s3) (s12.free n) (by rw [knO_free]; exact r)
  have hf : s ≠ "free" := fun z => hf (decide_eq_true z)
  refine nextS ?_
  dsimp only
  refine asgI ?_
  refine lcK (K := K) (i := 7) (j := 1) rfl h1 k1 (by decide) (fun k => !k.2.1) (fun x => rfl) (fun x => rfl) (fun t k H' Z _ ht s3 hZ => ?_) (fun H3 D2 ys2 s3 n2 h2 k2 => ?_)
  · exact ⟨_, rfl, t, _, _, _, rfl, rfl, SqT.of ht, atI_nat (j := 1) rfl, _, rfl, hZ _ (fun _ _ h => h)⟩
  refine ⟨_, rfl, rfl, _, rfl, ?_⟩
  rw [dec_str]
  have s13 := s12.trans s3
  have rt_nd : (E12.filter fun k => !k.2.1).Nodup := E12_nd.sublist List.filter_sublist
  have rt_ok := filter_ok (f := fun k => !k.2.1) E12_ok
  have rt_srt := srt_filter E12_srt fun k => !k.2.1
  refine ite2 (fun hb => ?_) (fun hb => ?_)
  · have hb := of_decide_eq_true hb
    subst hb
    refine ⟨_, rfl, _, rfl, ?_⟩
    have v2 := allV_of k2 rt_ok
    refine mk_ruleK (.inl h2) (.inl h2) v2 v2 rt_nd rt_nd (by decide) (by decide) fun H' p j1 j2 s4 n r m1 o1 m2 o2 => ?_
    rw [srt_uniq o1 rt_srt m1, srt_uniq o2 rt_srt m2] at r
    exact q1 _ rfl hm H' p (s13.trans s4) (s13.free n) (by rw [knO_bare, knR_no hf]; exact r)
  have hb : s ≠ "bare" := fun z => hb (decide_eq_true z)
  have neT : ∀ (c : Kd) (H' : Hp) (t : Addr) (k : Kd) (σ : L2.St) (Z : Bool → Hp → Prop), σ[7]? = some (some (.ref t)) → H' t = some (.tup (kdVs k)) → (∀ H2, Same H' H2 → Z (decide (k ≠ c)) H2) →
      tTest (tOp (rNeD K) (tVar 7) (tTup (tCons (tC (V.bl c.1)) (tCons (tC (V.bl c.2.1)) (tCons (tC (V.int c.2.2)) tNil))))) σ H' Z := fun c H' t k σ Z e ht hZ => by
    refine ⟨_, e, by show 3 ≤ sizeLine; decide, fun l hl => ?_⟩
    have sl := same_upd (o := .tup [V.bl c.1, V.bl c.2.1, V.int c.2.2]) hl
    refine ⟨kdD k, kdD c, IsK.dp ⟨t, rfl, sl _ _ ht⟩, IsK.dp ⟨l, rfl, upd_same⟩, kd_shaped k, kd_shaped c, _, rfl, ?_⟩
    rw [kd_eqv]
    have := hZ _ sl
    rw [show decide (k ≠ c) = !decide (k = c) by simp] at this
    exact this
  refine nextS ?_
  dsimp only
  refine asgI ?_
  refine lcK (K := K) (i := 7) (j := 2) rfl h2 k2 (by decide) (fun k => decide (k ≠ (false, false, 0))) (fun x => rfl) (fun x => rfl) (fun t k H' Z _ ht s4 hZ => ?_) (fun H4 D3 ys3 s4 n3 h3 k3 => ?_)
  · exact neT (false, false, 0) H' t k _ Z rfl ht hZ
  refine ⟨_, rfl, rfl, _, rfl, ?_⟩
  rw [dec_str]
  have s14 := s13.trans s4
  have h2' := s4 _ _ h2
  have k2' := AllK.same s4 k2
  refine ite2 (fun hj => ?_) (fun hj => ?_)
  · have hj := of_decide_eq_true hj
    subst hj
    refine asgE (opI ?_)
    refine lcK (K := K) (i := 7) (j := 3) rfl h3 k3 (by decide) (fun k => decide (k ≠ (false, false, 1))) (fun x => rfl) (fun x => rfl) (fun t k H' Z _ ht s4 hZ => ?_) (fun H5 D4 ys4 s5 n4 h4 k4 => ?_)
    · exact neT (false, false, 1) H' t k _ Z rfl ht hZ
    refine ⟨by show 3 ≤ sizeLine; decide, fun t1 ht1 => ⟨by show 1 ≤ sizeLine; decide, fun l1 hl1 => ?_⟩⟩
    have s6 := same_upd (o := .tup [V.bl false, V.bl true, V.int 1]) ht1
    have g1 : (upd H5 t1 (.tup [V.bl false, V.bl true, V.int 1])) t1 = some (.tup [V.bl false, V.bl true, V.int 1]) := upd_same
    generalize upd H5 t1 (.tup [V.bl false, V.bl true, V.int 1]) = H6 at s6 g1 hl1
    have s7 := same_upd (o := .lst [V.ref t1]) hl1
    have g2 : (upd H6 l1 (.lst [V.ref t1])) l1 = some (.lst [V.ref t1]) := upd_same
    have g1' := s7 _ _ g1
    generalize upd H6 l1 (.lst [V.ref t1]) = H7 at s7 g2 g1'
    have s57 := s6.trans s7
    have len4 := AllK.len k4
    have hl4 : ((plainK.filter fun k => decide (k ≠ (false, false, 1)))).length ≤ 12 := by decide +kernel
    have len4' : ys4.length ≤ 12 := by rw [len4]; exact hl4
    refine ⟨D4, l1, _, _, rfl, rfl, s57 _ _ h4, g2, by rw [sizeLine_eq]; show _ + 1 ≤ _; omega, fun l2 hl2 => ?_⟩
    have s8 := same_upd (o := .lst (ys4 ++ [V.ref t1])) hl2
    have kj : AllK (upd H7 l2 (.lst (ys4 ++ [V.ref t1]))) (ys4 ++ [V.ref t1]) joinK := paired_app (AllK.same (s57.trans s8) k4) (.cons ⟨t1, rfl, s8 _ _ g1'⟩ .nil)
    have gj : (upd H7 l2 (.lst (ys4 ++ [V.ref t1]))) l2 = some (.lst (ys4 ++ [V.ref t1])) := upd_same
    generalize upd H7 l2 (.lst (ys4 ++ [V.ref t1])) = H8 at s8 kj gj
    have s48 := (s5.trans s57).trans s8
    refine ⟨_, rfl, _, rfl, ?_⟩
    refine mk_ruleK (.inl (s48 _ _ h2')) (.inl gj) (allV_of (AllK.same s48 k2') rt_ok) (allV_of kj joinK_ok) rt_nd joinK_nd (by decide) (by decide) fun H' p j1 j2 s9 n r m1 o1 m2 o2 => ?_
    rw [srt_uniq o1 rt_srt m1, srt_uniq o2 join_srt (m2.trans join_perm)] at r
    have s19 := (s14.trans s48).trans s9
    exact q1 _ rfl hm H' p s19 ((s14.trans s48).free n) (by rw [knR_no hf]; exact r)
  · have hj : s ≠ "joined" := fun z => hj (decide_eq_true z)
    have hp := kn_other s hm hf hb hj
    subst hp
    refine ⟨_, rfl, _, rfl, ?_⟩
    refine mk_ruleK (.inl h2') (.inl h3) (allV_of k2' rt_ok) (allV_of k3 (filter_ok rt_ok)) rt_nd (rt_nd.sublist List.filter_sublist) (by decide) (by decide) fun H' p j1 j2 s5 n r m1 o1 m2 o2 => ?_
    rw [srt_uniq o1 rt_srt m1, srt_uniq o2 plain_srt m2] at r
    exact q1 _ rfl hm H' p (s14.trans s5) (s14.free n) (by rw [knR_no hf, knO_plain]; exact r)
end
end Toy
set_option Elab.async false
set_option linter.all false
set_option maxRecDepth 100000
set_option maxHeartbeats 4000000
namespace Toy
open PySem L2 Sh ShL LamX NdefX
section
variable {X : Cx}
theorem takes_len {W : WX} (t : Takes X W) : Takes X (fun cls d σ H => σ.length = X.N.length → W cls d σ H) := fun u s' ⟨a, B, sI, pins, σ, H, cls, d, e, I, nb, up, sky, na, os, ag, w⟩ =>
  t u s' ⟨a, B, sI, pins, σ, H, cls, d, e, I, nb, up, sky, na, os, ag, w I.len⟩
end
theorem kit_self {K : PySem.W.Frag} {S C : Addr} (x : XCls K S C) : PySem.W.kitCls K (.ref C) (.ref C) = some true := by
  unfold PySem.W.kitCls
  simp only [x.isC, x.ty, beq_self_eq_true, Bool.and_self, if_true]
  show PySem.W.mroIn K C (.ref C) = _
  rw [x.sub]
  simp
/-- what comes of a call -/
def TTc (CK CN CP : Addr) : (XK → Hp → VK → Prop) → Hp → VK → Prop := fun tl H Q => ∀ (E : XK) (R : VK),
  (∀ dx z i H', H' dx = some (exd dx [("number", i), ("side", z)]) → (∀ p, H' p = none → Q (.ref p) (upd H' p (.tup [.str "kind", z, i]))) → E (.ref CK) (some dx) H') →
  (∀ dx v H', H' dx = some (exd dx [("name", v)]) → (∀ p, H' p = none → Q (.ref p) (upd H' p (.tup [.str "name", v]))) → E (.ref CN) (some dx) H') →
  (∀ dx v H', H' dx = some (exd dx [("place", v)]) → (∀ p, H' p = none → Q (.ref p) (upd H' p (.tup [.str "place", v]))) → E (.ref CP) (some dx) H') →
  (∀ v H', (∀ p, H' p = none → Q (.ref p) (upd H' p (.tup [.str "done"]))) → R v H') → tl E H R
theorem lk_head (x : Str) (v : V) (l : List (Str × V)) : List.lookup x ((x, v) :: l) = some v := by
  unfold List.lookup
  rw [show (x == x) = true from beq_self_eq_true x]
theorem lk_next {x y : Str} (v : V) (l : List (Str × V)) (h : ¬ x = y) : List.lookup x ((y, v) :: l) = List.lookup x l := by
  conv => lhs; unfold List.lookup
  rw [show (x == y) = false from beq_eq_false_iff_ne.mpr h]
section
variable {P : Program} {K : PySem.W.Frag} {mg : Str → Option Value}
theorem gives_l_caught (T : Tx P K mg) (X : Cx) (hK : X.K = K) (hm : X.mg = mg) (cdg : Value) (q : Str) : GivesTo X N_l_caught "_law_caught" (defScope s_l_caught) T.a_l_caught cdg (defBody s_l_caught) "_law_function" q (TTc T.c_BadKind T.c_BadName T.c_NoPlace) := by
  subst hK
  subst hm
  intro f c' s H Q tl act hc h
  have xnd := T.xnd
  simp only [List.nodup_cons, List.mem_cons, List.not_mem_nil, or_false, not_or] at xnd
  obtain ⟨⟨nPK, nPN, nPS⟩, ⟨nKN, nKS⟩, nNS, _⟩ := xnd
  refine ⟨_, pss_cons (ps_set (i := 1) sc_l_caught.nd rfl (by first | exact Or.inl rfl | exact Or.inr rfl) pe_non) (pss_cons (ps_try_manyAs (X := (cxOf C8.CX0 X.prog X.w X.K X.mg X.base N_l_caught "_law_caught" (defScope s_l_caught) T.a_l_caught cdg X.A X.stack s H C8.E0).nox) (i := 2) (n := "e")
      (tb := fun W D σ H => ∃ Ech : XK, (∀ cls d σ' H', Ech cls d H' → σ'.length = 3 → W cls d σ' H') ∧ σ[0]? = some (some (.ref f)) ∧ H c' = some (CodeO c' q) ∧ tl Ech H (fun v H1 => [V.str "done"].length ≤ sizeLine ∧ ∀ p, H1 p = none → gName 1 (.ref p) σ (upd H1 p (.tup [.str "done"])) D.nx))
      (l := [(.ref T.c_BadKind, _), (.ref T.c_BadName, _), (.ref T.c_NoPlace, _)])
      rfl rfl sc_l_caught.nd rfl rfl LamX.takes0 (fun W pn xe tk _ => ?_) (.cons ⟨rfl, by decide +kernel, .inl T.m_BadKind⟩
        (fun a oe cls d pn hz hd => pss_one (ps_set (i := 1) sc_l_caught.nd rfl (by first | exact Or.inl rfl | exact Or.inr rfl) (pe_ifExp (pt_val (pe_callB (call_isXBy hz hd T.o_get T.o_tk) (by rfl) T.b_isinstance (by decide +kernel) (pa_cons (pv 2) (pa_cons (pe_glob (v := .ref T.c_ShedError) (by rfl) T.m_ShedError rfl) pa_nil)))) (pe_tup (pa_cons pe_str (pa_cons (pe_xby hz hd (pv 2)) (pa_cons (pe_xby hz hd (pv 2)) pa_nil)))) pe_non)))
        (.cons ⟨rfl, by decide +kernel, .inl T.m_BadName⟩
          (fun a oe cls d pn hz hd => pss_one (ps_set (i := 1) sc_l_caught.nd rfl (by first | exact Or.inl rfl | exact Or.inr rfl) (pe_ifExp (pt_val (pe_callB (call_isXBy hz hd T.o_get T.o_tk) (by rfl) T.b_isinstance (by decide +kernel) (pa_cons (pv 2) (pa_cons (pe_glob (v := .ref T.c_ShedError) (by rfl) T.m_ShedError rfl) pa_nil)))) (pe_tup (pa_cons pe_str (pa_cons (pe_xby hz hd (pv 2)) pa_nil))) pe_non)))
          (.cons ⟨rfl, by decide +kernel, .inl T.m_NoPlace⟩
            (fun a oe cls d pn hz hd => pss_one (ps_set (i := 1) sc_l_caught.nd rfl (by first | exact Or.inl rfl | exact Or.inr rfl) (pe_ifExp (pt_val (pe_callB (call_isXBy hz hd T.o_get T.o_tk) (by rfl) T.b_isinstance (by decide +kernel) (pa_cons (pv 2) (pa_cons (pe_glob (v := .ref T.c_ShedError) (by rfl) T.m_ShedError rfl) pa_nil)))) (pe_tup (pa_cons pe_str (pa_cons (pe_xby hz hd (pv 2)) pa_nil))) pe_non))) .nil)))) (pss_one (ps_ret (pv 1)))), ?_⟩
  · refine ⟨fun pins s' σ H' D I h' => ?_⟩
    obtain ⟨Ech, hW, h1, h2, h3⟩ := h'
    exact (pss_cons (ps_expr (act _ pn xe Ech _ _ (takes_len tk) (fun cls d σ' H' h hl => hW cls d σ' H' h hl))) (pss_one (ps_set (i := 1) sc_l_caught.nd rfl (by first | exact Or.inl rfl | exact Or.inr rfl) (pe_tup (pa_cons pe_str pa_nil))))).run pins s' σ H' D I ⟨h1, h2, h3⟩
  · refine ⟨fun cls d H' => (∃ dx z i, cls = .ref T.c_BadKind ∧ d = some dx ∧ H' dx = some (exd dx [("number", i), ("side", z)]) ∧ ∀ p, H' p = none → Q (.ref p) (upd H' p (.tup [.str "kind", z, i]))) ∨
      (∃ dx v, cls = .ref T.c_BadName ∧ d = some dx ∧ H' dx = some (exd dx [("name", v)]) ∧ ∀ p, H' p = none → Q (.ref p) (upd H' p (.tup [.str "name", v]))) ∨
      (∃ dx v, cls = .ref T.c_NoPlace ∧ d = some dx ∧ H' dx = some (exd dx [("place", v)]) ∧ ∀ p, H' p = none → Q (.ref p) (upd H' p (.tup [.str "place", v]))), fun cls d σ' H' h hl => ?_, rfl, hc,
      h _ _ (fun dx z i H' h1 h2 => .inl ⟨dx, z, i, rfl, rfl, h1, h2⟩) (fun dx v H' h1 h2 => .inr (.inl ⟨dx, v, rfl, rfl, h1, h2⟩)) (fun dx v H' h1 h2 => .inr (.inr ⟨dx, v, rfl, rfl, h1, h2⟩))
        (fun v H' hq => ⟨by show 1 ≤ sizeLine; decide, fun p hp => ⟨_, rfl, hq p hp⟩⟩)⟩
    obtain ⟨v0, v1, v2, rfl⟩ : ∃ v0 v1 v2, σ' = [v0, v1, v2] := by
      match σ', hl with
      | [v0, v1, v2], _ => exact ⟨v0, v1, v2, rfl⟩
    rcases h with ⟨dx, z, i, rfl, rfl, h1, h2⟩ | ⟨dx, v, rfl, rfl, h1, h2⟩ | ⟨dx, v, rfl, rfl, h1, h2⟩
    · refine ⟨true, exmOne_of T.x_BadKind.subBE (kit_self T.x_BadKind), fun _ a ha => ?_, fun z => by cases z⟩
      refine ⟨_, rfl, T.c_BadKind, dx, _, _, _, true, rfl, .own _, rfl, rfl, T.x_BadKind.r, h1, T.x_BadKind.base T.x_BadKind T.iS T.tS, _, rfl, iteT ?_⟩
      refine ⟨_, rfl, rfl, T.c_BadKind, dx, _, z, rfl, rfl, T.x_BadKind.r, T.nf_BadKind_side, h1, by rw [lk_next _ _ (by decide +kernel)]; exact lk_head _ _ _, ?_⟩
      refine ⟨_, rfl, rfl, T.c_BadKind, dx, _, i, rfl, rfl, T.x_BadKind.r, T.nf_BadKind_number, h1, lk_head _ _ _, ?_⟩
      exact ⟨by show 3 ≤ sizeLine; decide, fun p hp => ⟨_, rfl, h2 p hp⟩⟩
    · refine ⟨decide (T.c_BadName = T.c_BadKind), T.x_BadName.exm T.x_BadKind nKS, fun e => absurd (of_decide_eq_true e).symm nKN, fun _ => ?_⟩
      refine ⟨true, exmOne_of T.x_BadName.subBE (kit_self T.x_BadName), fun _ a ha => ?_, fun z => by cases z⟩
      refine ⟨_, rfl, T.c_BadName, dx, _, _, _, true, rfl, .own _, rfl, rfl, T.x_BadName.r, h1, T.x_BadName.base T.x_BadName T.iS T.tS, _, rfl, iteT ?_⟩
      refine ⟨_, rfl, rfl, T.c_BadName, dx, _, v, rfl, rfl, T.x_BadName.r, T.nf_BadName_name, h1, lk_head _ _ _, ?_⟩
      exact ⟨by show 2 ≤ sizeLine; decide, fun p hp => ⟨_, rfl, h2 p hp⟩⟩
    · refine ⟨decide (T.c_NoPlace = T.c_BadKind), T.x_NoPlace.exm T.x_BadKind nKS, fun e => absurd (of_decide_eq_true e) nPK, fun _ => ?_⟩
      refine ⟨decide (T.c_NoPlace = T.c_BadName), T.x_NoPlace.exm T.x_BadName nNS, fun e => absurd (of_decide_eq_true e) nPN, fun _ => ?_⟩
      refine ⟨true, exmOne_of T.x_NoPlace.subBE (kit_self T.x_NoPlace), fun _ a ha => ?_, fun z => by cases z⟩
      refine ⟨_, rfl, T.c_NoPlace, dx, _, _, _, true, rfl, .own _, rfl, rfl, T.x_NoPlace.r, h1, T.x_NoPlace.base T.x_NoPlace T.iS T.tS, _, rfl, iteT ?_⟩
      refine ⟨_, rfl, rfl, T.c_NoPlace, dx, _, v, rfl, rfl, T.x_NoPlace.r, T.nf_NoPlace_place, h1, lk_head _ _ _, ?_⟩
      exact ⟨by show 2 ≤ sizeLine; decide, fun p hp => ⟨_, rfl, h2 p hp⟩⟩
end
end Toy
set_option Elab.async false
set_option linter.all false
set_option maxRecDepth 100000
set_option maxHeartbeats 4000000
namespace Toy
open PySem L2 Sh ShL LamX NdefX
theorem walk_rng (n : Nat) : Walk (Itr 0 n) ((List.range n).map fun k : Nat => V.int (k : Int)).length (fun _ => True) (YAt ((List.range n).map fun k : Nat => V.int (k : Int))) := by
  have := walk_range (lo := 0) (n := n)
  rw [show ((List.range n).map fun k : Nat => V.int (k : Int)).length = n by simp]
  refine this.mono (fun _ h => h) fun i H x H' hi _ ⟨e, h⟩ => ⟨e, ?_⟩
  rw [List.getElem?_map, List.getElem?_range hi, h]
  simp
def spEvery : Sp := fun vs H Q _ => vs = [] ∧ ∀ H' a xs, Same H H' → H a = none → H' a = some (.lst xs) → AllK H' xs E12 → Q (.ref a) H'
def spKindsD : Sp := fun vs H Q _ => ∃ (d c : Addr) (n : Nat), vs = [.ref d] ∧ Pen H d c n ∧ n ≤ 50000 ∧ ∀ H' a xs ks, ks.Sublist E12 → H' a = some (.lst xs) → AllK H' xs ks → Kp d H H' → Pen H' d c (n + 13) → Q (.ref a) H'
/-- kinds in any order, as lists and tuples -/
def spShape : Sp := fun vs H Q _ => ∃ (d c a : Addr) (n : Nat) (xs : List V) (ks : List Kd), vs = [.ref d, .ref a] ∧ Pen H d c n ∧ n ≤ 50000 ∧ H a = some (.lst xs) ∧ AllK H xs ks ∧ ks.length ≤ 12 ∧
  ∀ H' b ys js, js.Perm ks → H' b = some (.lst ys) → Paired (KiE H') ys js → H b = none → Kp d H H' → Pen H' d c (n + 24) → Q (.ref b) H'
theorem AllK.kp {H H' : Hp} {d c : Addr} {n m : Nat} {vs : List V} {ks : List Kd} (hp : Pen H d c n) (s : Kp d H H') (p' : Pen H' d c m) (h : AllK H vs ks) : AllK H' vs ks := AllK.kpS (kpS_pen hp s p') h
theorem sub_next {α : Type} {js xs : List α} {i : Nat} {k : α} (h : js.Sublist (xs.take i)) (hk : xs[i]? = some k) : (js ++ [k]).Sublist (xs.take (i + 1)) := by
  rw [List.take_add_one, hk]
  exact h.append (List.Sublist.refl _)
theorem sub_stay {α : Type} {js xs : List α} {i : Nat} {k : α} (h : js.Sublist (xs.take i)) (hk : xs[i]? = some k) : js.Sublist (xs.take (i + 1)) := by
  rw [List.take_add_one, hk]
  exact h.trans (List.sublist_append_left _ _)
theorem lst_kp {H H' : Hp} {d c : Addr} {n : Nat} {a : Addr} {xs : List V} (hp : Pen H d c n) (s : Kp d H H') (h : H a = some (.lst xs)) : H' a = some (.lst xs) := by
  obtain ⟨kvs, hd⟩ := hp.at
  exact s _ _ h (ne_of h hd (by intro z; cases z))
/-- [kind for kind in ks if a drawn test] -/
theorem lcKD {K : PySem.W.Frag} {H0 H1 : Hp} {d c a : Addr} {n0 n : Nat} {xs : List V} {ks : List Kd} {σ : L2.St} {i : Nat} {tt : TT} {Qd : VK} {D : Addr} (hp0 : Pen H0 d c n0) (hp : Pen H1 d c n) (k0 : Kp d H0 H1) (ha : H1 a = some (.lst xs)) (hx : AllK H1 xs ks) (hl : ks.length ≤ 40) (hD : H1 D = none)
    (hw : ∀ x, wipe ((wipe σ [i]).set i x) [i] = wipe σ [i]) (hg : ∀ x, ((wipe σ [i]).set i (some x))[i]? = some (some x))
    (hs : ∀ x m H' (Z : Bool → Hp → Prop), m ≤ 40 → (∃ k, IsK H' x k) → Pen H' d c (n + m) → (∀ b H2, Kp d H' H2 → Pen H2 d c (n + m + 1) → Z b H2) → tt ((wipe σ [i]).set i (some x)) H' Z)
    (hd : ∀ H' ys js, Kp d H0 H' → Pen H' d c (n + ks.length) → H' D = some (.lst ys) → AllK H' ys js → js.Sublist ks → Qd (.ref D) H') :
    ∃ W : Nat → Nat → Hp → Prop, (∃ m, W 0 m (upd H1 D (.lst []))) ∧ ∀ j m H, W j m H → ((Itl K a).stop j H ∧ Qd (.ref D) H) ∨ ((Itl K a).go j H ∧ ∃ Nx : Hp → Prop, (∀ H', Nx H' → ∃ m', m' < m ∧ W (j + 1) m' H') ∧ ∀ x H', (Itl K a).yld j H x H' → gName i x (wipe σ [i]) H' fun σ2 H2 => wipe σ2 [i] = wipe σ [i] ∧ tt σ2 H2 fun b H3 =>
        if b = true then tVar i σ2 H3 fun y H4 => ∃ acc, H4 D = some (.lst acc) ∧ acc.length < sizeLine ∧ Nx (upd H4 D (.lst (acc ++ [y]))) else Nx H3) := by
  have hn0 : H0 D = none := by
    cases q : H0 D with
    | none => rfl
    | some u =>
      by_cases e : D = d
      · obtain ⟨kvs, h1⟩ := hp.at
        rw [e, h1] at hD
        cases hD
      · rw [k0 _ _ q e] at hD
        cases hD
  have hxl := AllK.len hx
  refine lc_it (walk_list (K := K) (a := a) (xs := xs)) (fun j H => Kp d H0 H ∧ Pen H d c (n + j) ∧ H a = some (.lst xs) ∧ AllK H xs ks ∧ ∃ acc js, H D = some (.lst acc) ∧ AllK H acc js ∧ js.Sublist (ks.take j))
    ⟨kp_upd k0 hn0, Pen.put hp hD hp, same_upd hD _ _ ha, AllK.same (same_upd hD) hx, [], [], upd_same, .nil, by rw [List.take_zero]; exact .slnil⟩ (fun j H _ ⟨_, _, h, _⟩ => SqL.of h) (fun j x H H' hj ⟨k1, p1, h1, hx1, acc, js, hacc, hjs, sb⟩ y => ?_) (fun H ⟨k1, p1, h1, hx1, acc, js, hacc, hjs, sb⟩ => ?_)
  · obtain ⟨rfl, hx'⟩ := y
    obtain ⟨k, hk, ik⟩ := paired_ix hx1 hx'
    refine ⟨hw _, hs x j H' _ (by omega) ⟨k, ik⟩ p1 fun b H2 k2 p2 => ?_⟩
    have kS := kpS_pen p1 k2 p2
    have a2 := lst_kp p1 k2 h1
    have acc2 := lst_kp p1 k2 hacc
    have hx2 := AllK.kpS kS hx1
    have hjs2 := AllK.kpS kS hjs
    have lacc := AllK.len hjs
    have lsb := sb.length_le
    rw [List.length_take] at lsb
    cases b with
    | true =>
      refine ⟨_, hg _, acc, acc2, by rw [sizeLine_eq]; omega, ?_⟩
      have nDa : a ≠ D := ne_of_none ha hD
      refine ⟨kp_upd (k1.trans k2) hn0, Pen.put hp hD p2, by rw [upd_ne nDa]; exact a2, AllK.put acc2 hx2, acc ++ [x], js ++ [k], upd_same, paired_app (AllK.put acc2 hjs2) (.cons (IsK.put acc2 (IsK.kpS kS ik)) .nil), sub_next sb hk⟩
    | false =>
      exact ⟨k1.trans k2, p2, a2, hx2, acc, js, acc2, hjs2, sub_stay sb hk⟩
  · rw [hxl, List.take_of_length_le (Nat.le_refl _)] at sb
    exact hd H acc js k1 (by rw [← hxl]; exact p1) hacc hjs sb
theorem E12_len : E12.length = 12 := rfl
section
variable {P : Program} {w : World} {K : PySem.W.Frag} {mg : Str → Option Value} {base : Heap}
theorem ok_l_every (T : Tx P K mg) (B : Bx T base) : FnOk P w K mg base CX0 1 T.a_l_every T.fd_l_every [] spEvery := by
  refine okT T.F_l_every sc_l_every (fun vs H Q E h => ?_) (fun cdv A outer s H vs Q E hcd hr h => ?_)
  · obtain ⟨rfl, _⟩ := h
    rfl
  have hu := hu_of hr
  have hu65 := hu65_of hr
  obtain ⟨rfl, q⟩ := h
  refine ⟨_, (pss_one (ps_ret (pe_lc (own := [("_law_k", 0)]) (g := gName 0) rfl sc_l_every.nd (pi_range1 (by rfl) T.b_range (pa_cons pe_int pa_nil)) (blkOk_by (own := [("_law_k", 0)]) (N := N_l_every) (sc := defScope s_l_every) (by decide +kernel)) (fun _ _ _ _ _ => (pg_name (i := 0) sc_l_every.nd rfl (by first | exact Or.inl rfl | exact Or.inr rfl))) (fun _ _ _ _ _ => pts_nil) (fun _ _ _ _ _ => (pe_tup (pa_cons (pe_cmpR op_eq (pe_op op_fdivN (pv 0) pe_int) pe_int (nomark _)) (pa_cons (pe_cmpR op_eq (pe_op op_mod (pe_op op_fdivN (pe_callTy call_int1 (by rfl) T.b_int (by decide +kernel) (pa_cons (pv 0) pa_nil)) pe_int) pe_int) pe_int (nomark _)) (pa_cons (pe_op op_mod (pe_callTy call_int1 (by rfl) T.b_int (by decide +kernel) (pa_cons (pv 0) pa_nil)) pe_int) pa_nil)))))))), ?_⟩
  refine ⟨_, rfl, by decide, by decide, fun D hD => ?_⟩
  refine lcG (walk_rng 12) yat (paired_self (List.range 12)) (fun _ H' => Same H H') (same_upd hD) (fun _ H' acc s => same_of_new s hD) (fun _ _ _ _ => trivial) (by decide) (fun _ => true) (fun H' v k => ∃ kd, E12[k]? = some kd ∧ IsK H' v kd) (fun H acc acc' v k hDl ⟨kd, h1, h2⟩ => ⟨kd, h1, IsK.put hDl h2⟩) (fun i x k H' acc R N hk e s hDl k1 k2 => ?_) (fun H' acc s hDl p => ?_)
  · subst e
    have hk12 : k < 12 := List.mem_range.mp (List.mem_of_getElem? hk)
    refine ⟨rfl, yes_ite ?_⟩
    refine ⟨_, rfl, _, _, rfl, rfl, ⟨by decide, by decide⟩, rfl, ?_⟩
    refine ⟨_, rfl, .inl ⟨_, rfl, _, _, rfl, rfl, ⟨by decide, by decide⟩, _, _, rfl, rfl, posI, rfl, ?_⟩⟩
    refine ⟨_, rfl, .inl ⟨_, rfl, _, _, rfl, rfl, posI, by show 3 ≤ sizeLine; decide, fun l hl => ?_⟩⟩
    have ek : E12[k]? = some (decide (V.int (Int.fdiv (k : Int) 6) = V.int 1), decide (V.int (Int.fdiv (k : Int) 3 % 2) = V.int 1), (k : Int) % 3) := by
      have : ∀ k : Nat, k < 12 → E12[k]? = some (decide (V.int (Int.fdiv (k : Int) 6) = V.int 1), decide (V.int (Int.fdiv (k : Int) 3 % 2) = V.int 1), (k : Int) % 3) := by decide +kernel
      exact this k hk12
    have sl := same_upd (o := .tup [V.bl (decide (V.int (Int.fdiv (k : Int) 6) = V.int 1)), V.bl (decide (V.int (Int.fdiv (k : Int) 3 % 2) = V.int 1)), V.int ((k : Int) % 3)]) hl
    exact k1 rfl _ _ (s.trans sl) (sl _ _ hDl) (fun v u ⟨kd, h1, h2⟩ => ⟨kd, h1, IsK.same sl h2⟩) ⟨_, ek, l, rfl, upd_same⟩
  · rw [filter_tt] at p
    have e12 : (List.range 12).map (fun k => E12.getD k (false, false, 0)) = E12 := by decide +kernel
    have p2 : AllK H' acc ((List.range 12).map (fun k => E12.getD k (false, false, 0))) := paired_map (fun a b ⟨kd, h1, h2⟩ => by rw [List.getD_eq_getElem?_getD, h1]; exact h2) p
    rw [e12] at p2
    exact q H' D acc s hD hDl p2
theorem ok_l_kinds (T : Tx P K mg) (B : Bx T base) : FnOk P w K mg base CX0 2 T.a_l_kinds T.fd_l_kinds ["_law_pen_here"] spKindsD := by
  refine okT T.F_l_kinds sc_l_kinds (fun vs H Q E h => ?_) (fun cdv A outer s H vs Q E hcd hr h => ?_)
  · obtain ⟨d, c, n, rfl, _⟩ := h
    rfl
  have hu := hu_of hr
  have hu65 := hu65_of hr
  obtain ⟨d, c, n, rfl, hp, hn, q⟩ := h
  refine ⟨_, (pss_cons (ps_set (i := 1) sc_l_kinds.nd rfl (by first | exact Or.inl rfl | exact Or.inr rfl) (pe_call (ok_l_draw T B) (hr.mono (by decide)) (by rfl) T.m_l_draw T.F_l_draw.kp T.bi_l_draw .nil pass0 (pa_cons (pv 0) (pa_cons pe_int pa_nil))))
 (pss_cons (ps_if (pt_cmpR op_eq (pv 1) pe_int (nomark _))
 (pss_one (ps_ret (pe_lc (own := [("_law_kind_here", 2)]) (g := gName 2) rfl sc_l_kinds.nd (pi_list (pe_call0 (ok_l_every T B) (hr.mono (by decide)) (by rfl) T.m_l_every T.F_l_every.kp T.bi_l_every .nil pass0)) (blkOk_by (own := [("_law_kind_here", 2)]) (N := N_l_kinds) (sc := defScope s_l_kinds) (by decide +kernel)) (fun _ _ _ _ _ => (pg_name (i := 2) sc_l_kinds.nd rfl (by first | exact Or.inl rfl | exact Or.inr rfl))) (fun _ _ _ _ _ => (pts_one (pt_cmpR op_eq (pe_call (ok_l_draw T B) (hr.mono (by decide)) (by rfl) T.m_l_draw T.F_l_draw.kp T.bi_l_draw .nil pass0 (pa_cons (pv 0) (pa_cons pe_int pa_nil))) pe_int (nomark _)))) (fun _ _ _ _ _ => (pv 2)))))
 pss_nil)
 (pss_cons (ps_if (pt_cmpR op_eq (pv 1) pe_int (nomark _))
 (pss_one (ps_ret (pe_lc (own := [("_law_kind_here", 2)]) (g := gName 2) rfl sc_l_kinds.nd (pi_list (pe_call0 (ok_l_every T B) (hr.mono (by decide)) (by rfl) T.m_l_every T.F_l_every.kp T.bi_l_every .nil pass0)) (blkOk_by (own := [("_law_kind_here", 2)]) (N := N_l_kinds) (sc := defScope s_l_kinds) (by decide +kernel)) (fun _ _ _ _ _ => (pg_name (i := 2) sc_l_kinds.nd rfl (by first | exact Or.inl rfl | exact Or.inr rfl))) (fun _ _ _ _ _ => (pts_one (pt_not (pt_val (pe_ix (by exact ix_tup : IxR _ (rIxT K)) (pv 2) pe_int (fun _ _ => rfl)))))) (fun _ _ _ _ _ => (pv 2)))))
 pss_nil)
 (pss_one (ps_ret (pe_lc (own := [("_law_kind_here", 2)]) (g := gName 2) rfl sc_l_kinds.nd (pi_list (pe_call0 (ok_l_every T B) (hr.mono (by decide)) (by rfl) T.m_l_every T.F_l_every.kp T.bi_l_every .nil pass0)) (blkOk_by (own := [("_law_kind_here", 2)]) (N := N_l_kinds) (sc := defScope s_l_kinds) (by decide +kernel)) (fun _ _ _ _ _ => (pg_name (i := 2) sc_l_kinds.nd rfl (by first | exact Or.inl rfl | exact Or.inr rfl))) (fun _ _ _ _ _ => (pts_one (pt_cmpR op_gt (pe_call (ok_l_draw T B) (hr.mono (by decide)) (by rfl) T.m_l_draw T.F_l_draw.kp T.bi_l_draw .nil pass0 (pa_cons (pv 0) (pa_cons pe_int pa_nil))) pe_int (nomark _)))) (fun _ _ _ _ _ => (pv 2)))))))), ?_⟩
  refine ⟨_, rfl, d, c, n, 4, rfl, hp, by omega, by decide, by decide, fun H1 r r0 r1 k1 p1 => ?_⟩
  refine ⟨_, rfl, rfl, _, rfl, ?_⟩
  refine ite2 (fun _ => ?_) (fun _ => ?_)
  · refine ⟨rfl, fun H2 a xs s2 n2 h2 kx => ⟨a, rfl, ⟨_, SqL.of h2⟩, fun D hD => ?_⟩⟩
    refine lcKD (K := K) (d := d) (c := c) (n := n + 1) hp (p1.same s2) (k1.trans (Same.kp s2)) h2 kx (by decide) hD (fun x => rfl) (fun x => rfl) (fun x m H' Z hm ⟨kd, t, et, ht⟩ pp hZ => ?_) (fun H' ys js k3 p3 h3 kj sb => ?_)
    · exact ⟨_, rfl, d, c, n + 1 + m, 4, rfl, pp, by omega, by decide, by decide, fun H3 r r0 r1 kk p3 => ⟨rfl, _, rfl, hZ _ _ kk p3⟩⟩
    · exact q H' D ys js sb h3 kj k3 p3
  refine ⟨_, rfl, rfl, _, rfl, ?_⟩
  refine ite2 (fun _ => ?_) (fun _ => ?_)
  · refine ⟨rfl, fun H2 a xs s2 n2 h2 kx => ⟨a, rfl, ⟨_, SqL.of h2⟩, fun D hD => ?_⟩⟩
    refine lcKD (K := K) (d := d) (c := c) (n := n + 1) hp (p1.same s2) (k1.trans (Same.kp s2)) h2 kx (by decide) hD (fun x => rfl) (fun x => rfl) (fun x m H' Z hm ⟨kd, t, et, ht⟩ pp hZ => ?_) (fun H' ys js k3 p3 h3 kj sb => ?_)
    · subst et
      exact ⟨_, rfl, t, _, _, _, rfl, rfl, SqT.of ht, atI_nat (j := 1) rfl, _, rfl, hZ _ _ (Kp.refl _ _) (pp.mono (by omega))⟩
    · exact q H' D ys js sb h3 kj k3 p3
  · refine ⟨rfl, fun H2 a xs s2 n2 h2 kx => ⟨a, rfl, ⟨_, SqL.of h2⟩, fun D hD => ?_⟩⟩
    refine lcKD (K := K) (d := d) (c := c) (n := n + 1) hp (p1.same s2) (k1.trans (Same.kp s2)) h2 kx (by decide) hD (fun x => rfl) (fun x => rfl) (fun x m H' Z hm ⟨kd, t, et, ht⟩ pp hZ => ?_) (fun H' ys js k3 p3 h3 kj sb => ?_)
    · exact ⟨_, rfl, d, c, n + 1 + m, 5, rfl, pp, by omega, by decide, by decide, fun H3 r r0 r1 kk p3 => ⟨_, _, rfl, rfl, _, rfl, hZ _ _ kk p3⟩⟩
    · exact q H' D ys js sb h3 kj k3 p3
end
section
variable {P : Program} {w : World} {K : PySem.W.Frag} {mg : Str → Option Value} {base : Heap}
theorem paired_mem {α β : Type} {R : α → β → Prop} : ∀ {xs : List α} {ys : List β}, Paired R xs ys → ∀ y ∈ ys, ∃ x ∈ xs, R x y
  | _, _, .nil, _, h => by cases h
  | _, _, .cons h t, y, m => by
    rcases List.mem_cons.mp m with rfl | m
    · exact ⟨_, List.mem_cons_self, h⟩
    · obtain ⟨x, h1, h2⟩ := paired_mem t y m
      exact ⟨x, List.mem_cons_of_mem _ h1, h2⟩
theorem isK_fun {H : Hp} {v : V} {k k' : Kd} (h : IsK H v k) (h' : IsK H v k') : k = k' := by
  obtain ⟨t1, e1, g1⟩ := h
  obtain ⟨t2, e2, g2⟩ := h'
  rw [e1] at e2
  cases e2
  rw [g1] at g2
  obtain ⟨x1, x2, x3⟩ := k
  obtain ⟨y1, y2, y3⟩ := k'
  simpa using g2
theorem paired_same {α : Type} : ∀ xs : List α, Paired (fun x u => x = u) xs xs
  | [] => .nil
  | _ :: xs => .cons rfl (paired_same xs)
/-- a paired list in another order -/
theorem paired_perm {α β : Type} {R : α → β → Prop} {xs xs' : List α} {ys : List β} (p : Paired R xs ys) (h : xs'.Perm xs) : ∃ ys', ys'.Perm ys ∧ Paired R xs' ys' := by
  induction h generalizing ys with
  | nil => exact ⟨ys, List.Perm.refl _, p⟩
  | cons x h ih =>
    cases p with
    | cons r t =>
      obtain ⟨ys', h1, h2⟩ := ih t
      exact ⟨_, h1.cons _, .cons r h2⟩
  | swap x y l =>
    cases p with
    | cons r t =>
      cases t with
      | cons r' t => exact ⟨_, List.Perm.swap _ _ _, .cons r' (.cons r t)⟩
  | trans h1 h2 ih1 ih2 =>
    obtain ⟨ys1, p1, q1⟩ := ih2 p
    obtain ⟨ys2, p2, q2⟩ := ih1 q1
    exact ⟨ys2, p2.trans p1, q2⟩
theorem ok_l_shape (T : Tx P K mg) (B : Bx T base) : FnOk P w K mg base CX0 3 T.a_l_shape T.fd_l_shape ["_law_pen_here", "_law_kinds_here"] spShape := by
  refine okT T.F_l_shape sc_l_shape (fun vs H Q E h => ?_) (fun cdv A outer s H vs Q E hcd hr h => ?_)
  · obtain ⟨d, c, a, n, xs, ks, rfl, _⟩ := h
    rfl
  have hu := hu_of hr
  have hu65 := hu65_of hr
  obtain ⟨d, c, a, n, xs, ks, rfl, hp, hn, ha, hx, hl, q⟩ := h
  have hxl := AllK.len hx
  refine ⟨_, (pss_one (ps_ret (pe_lc (own := [("_law_kind_here", 2)]) (g := gName 2) rfl sc_l_shape.nd (pi_list (pe_call (ok_l_shuffled T B) (hr.mono (by decide)) (by rfl) T.m_l_shuffled T.F_l_shuffled.kp T.bi_l_shuffled .nil pass0 (pa_cons (pv 0) (pa_cons (pv 1) pa_nil)))) (blkOk_by (own := [("_law_kind_here", 2)]) (N := N_l_shape) (sc := defScope s_l_shape) (by decide +kernel)) (fun _ _ _ _ _ => (pg_name (i := 2) sc_l_shape.nd rfl (by first | exact Or.inl rfl | exact Or.inr rfl))) (fun _ _ _ _ _ => pts_nil) (fun _ _ _ _ _ => (pe_ifExp (pt_cmpR op_eq (pe_call (ok_l_draw T B) (hr.mono (by decide)) (by rfl) T.m_l_draw T.F_l_draw.kp T.bi_l_draw .nil pass0 (pa_cons (pv 0) (pa_cons pe_int pa_nil))) pe_int (nomark _)) (pe_callTy (by exact call_list_of : CallR _ (.type "list") (fun xs H Q => ∃ p ys, xs = [.ref p] ∧ (SqL K H p ys ∨ SqT K H p ys) ∧ ∀ l, H l = none → Q (.ref l) (upd H l (.lst ys)))) (by rfl) T.b_list (by decide +kernel) (pa_cons (pv 2) pa_nil)) (pv 2)))))), ?_⟩
  refine ⟨_, rfl, _, rfl, d, c, a, n, xs, rfl, hp, hn, ha, by omega, fun H1 b ys pm h1 k1 p1 => ⟨b, rfl, ⟨_, SqL.of h1⟩, fun D hD => ?_⟩⟩
  obtain ⟨js, pj, hj⟩ := paired_perm (AllK.kp hp k1 p1 hx) pm
  have hjl : js.length ≤ 12 := by rw [pj.length_eq]; exact hl
  have hD0 : H D = none := by
    cases e : H D with
    | none => rfl
    | some u =>
      by_cases z : D = d
      · obtain ⟨kvs, hd⟩ := p1.at
        rw [z, hd] at hD
        cases hD
      · rw [k1 _ _ e z] at hD
        cases hD
  have hylen : ys.length = js.length := AllK.len hj
  refine lcG (walk_list (K := K) (a := b) (xs := ys)) yat (paired_same ys) (fun i H' => Kp d H H' ∧ Pen H' d c (n + xs.length + i) ∧ H' b = some (.lst ys) ∧ AllK H' ys js ∧ ∃ a0, H' D = some (.lst a0)) ⟨kp_upd k1 hD0, Pen.put hp hD0 p1, same_upd hD _ _ h1, AllK.same (same_upd hD) hj, [], upd_same⟩ (fun i H' acc ⟨a1, a2, a3, a4, a0, a5⟩ => ?_) (fun i H' _ h => SqL.of h.2.2.1) (by omega) (fun _ => true)
    (fun H' v u => ∃ k, IsK H' u k ∧ KiE H' v k ∧ v ≠ .ref D) (fun H' acc acc' v u hDl ⟨k, hk, ⟨t, e, he⟩, nD⟩ => ⟨k, IsK.put hDl hk, ⟨t, e, ?_⟩, nD⟩) (fun i x u H' acc R N hu e ⟨k2, p2, h2, kj2, _⟩ hDl k3 _ => ?_) (fun H' acc ⟨k2, p2, h2, kj2, _⟩ hDl pr => ?_)
  · have nDb : b ≠ D := ne_of_none h1 hD
    refine ⟨kp_upd a1 hD0, Pen.put hp hD0 a2, by rw [upd_ne nDb]; exact a3, AllK.put a5 a4, acc, upd_same⟩
  · rw [upd_ne (fun z => nD (by rw [e, z]))]
    exact he
  · subst e
    obtain ⟨k, hk, t, rfl, ht⟩ := paired_ix kj2 hu
    have hil := (List.getElem?_eq_some_iff.mp hu).1
    refine ⟨rfl, yes_ite ?_⟩
    refine ⟨_, rfl, d, c, n + xs.length + i, 2, rfl, p2, by omega, by decide, by decide, fun H2 r r0 r1 k4 p4 => ⟨rfl, _, rfl, ?_⟩⟩
    have kS := kpS_pen p2 k4 p4
    have ht2 := kS.2.1 _ _ ht
    have hD2 := kS.1 _ _ hDl
    have kj4 := AllK.kpS kS kj2
    have mono : ∀ {H3 : Hp}, KpS H' H3 → ∀ v u, (∃ k, IsK H' u k ∧ KiE H' v k ∧ v ≠ .ref D) → ∃ k, IsK H3 u k ∧ KiE H3 v k ∧ v ≠ .ref D := fun s v u ⟨k, h1, h2, h3⟩ => ⟨k, IsK.kpS s h1, KiE.kp s h2, h3⟩
    refine ite2 (fun _ => ?_) (fun _ => ?_)
    · refine ⟨_, rfl, t, _, rfl, .inr (SqT.of ht2), fun l hl => ?_⟩
      have sl := same_upd (o := .lst (kdVs k)) hl
      have nlD : l ≠ D := fun z => by rw [z, hD2] at hl; cases hl
      refine k3 rfl _ _ ⟨(k2.trans k4).trans (Same.kp sl), (p4.mono (by omega)).same sl, sl _ _ (kS.1 _ _ h2), AllK.same sl kj4, _, sl _ _ hD2⟩ (sl _ _ hD2) (mono (kS.trans (kpS_same sl))) ⟨k, ⟨t, rfl, sl _ _ ht2⟩, ⟨l, rfl, .inl upd_same⟩, fun z => nlD (by cases z; rfl)⟩
    · refine ⟨_, rfl, ?_⟩
      exact k3 rfl _ _ ⟨k2.trans k4, p4.mono (by omega), kS.1 _ _ h2, kj4, _, hD2⟩ hD2 (mono kS) ⟨k, ⟨t, rfl, ht2⟩, ⟨t, rfl, .inr ht2⟩, fun z => by cases z; rw [hD2] at ht2; cases ht2⟩
  · rw [filter_tt] at pr
    refine q H' D acc js pj hDl ?_ hD0 k2 (p2.mono (by omega))
    have key : ∀ {vs us : List V} {ks : List Kd}, Paired (fun v u => ∃ k, IsK H' u k ∧ KiE H' v k ∧ v ≠ .ref D) vs us → AllK H' us ks → Paired (KiE H') vs ks := fun {vs us ks} a => by
      induction a generalizing ks with
      | nil => intro b; cases b; exact .nil
      | cons h t ih =>
        intro b
        cases b with
        | cons r u =>
          refine .cons ?_ (ih u)
          obtain ⟨k, h1, h2, _⟩ := h
          rw [isK_fun r h1]
          exact h2
    exact key pr kj2
end
end Toy
set_option Elab.async false
set_option linter.all false
set_option maxRecDepth 100000
set_option maxHeartbeats 4000000
namespace Toy
open PySem L2 Sh ShL LamX NdefX
def spTold (D : Addr) : Sp := fun vs H Q _ => ∃ x a b ys1 ys2 j1 j2, vs = [.ref x, .ref a, .ref b] ∧ RuleAt D H x j1 j2 ∧ H a = some (.lst ys1) ∧ H b = some (.lst ys2) ∧ AllK H ys1 j1 ∧ AllK H ys2 j2 ∧ j1.length ≤ 40 ∧ j2.length ≤ 40 ∧ ∀ H', Same H H' → Q (.bl true) H'
def spLKind : Sp := fun vs H Q _ => ∃ a z p ws rs r, vs = [.ref a, .str (sw z), .str (sw p)] ∧ H a = some (.lst ws) ∧ Paired (RwT H) ws rs ∧ (rs.map (·.1)).Nodup ∧ r ∈ rs ∧ r.1 = p ∧ z.length ≤ 26 ∧ (∀ r ∈ rs, r.1.length ≤ 200) ∧ rs.length ≤ 2000 ∧ ∀ H' u, Same H H' → IsK H' u (kdOf z (rs.map (·.1)) r) → Q u H'
theorem eqV_sw (p q : Wd) : eqV (.str (sw p)) (.str (sw q)) = decide (p = q) := by
  show ((sw p) == (sw q)) = _
  exact sw_beq p q
section
variable {P : Program} {w : World} {K : PySem.W.Frag} {mg : Str → Option Value} {base : Heap}
theorem ok_l_told_right (T : Tx P K mg) (B : Bx T base) : FnOk P w K mg base CX0 1 T.a_l_told_right T.fd_l_told_right ["_law_rule", "_law_root", "_law_others"] (spTold T.c_Rule) := by
  refine okT T.F_l_told_right sc_l_told_right (fun vs H Q E h => ?_) (fun cdv A outer s H vs Q E hcd hr h => ?_)
  · obtain ⟨x, a, b, ys1, ys2, j1, j2, rfl, _⟩ := h
    rfl
  have hu := hu_of hr
  have hu65 := hu65_of hr
  obtain ⟨x, a, b, ys1, ys2, j1, j2, rfl, ⟨dx, p1, p2, zs1, zs2, r1, r2, r3, r4, r5⟩, ha, hb, k1, k2, l1, l2, q⟩ := h
  refine ⟨_, (pss_cons (ps_for PassesOwn.never rfl (pi_list (pe_lst (pa_cons (pe_tup (pa_cons (pe_fld (pv 0) rfl) (pa_cons (pv 1) pa_nil))) (pa_cons (pe_tup (pa_cons (pe_fld (pv 0) rfl) (pa_cons (pv 2) pa_nil))) pa_nil)))) (pg_tup rfl (pgs_cons (pg_name (i := 3) sc_l_told_right.nd rfl (by first | exact Or.inl rfl | exact Or.inr rfl)) (pgs_cons (pg_name (i := 4) sc_l_told_right.nd rfl (by first | exact Or.inl rfl | exact Or.inr rfl)) pgs_nil)))
 (pss_cons (ps_if (PW.pt (pw_or (pt_not (pt_val (pe_callB call_isi (by rfl) T.b_isinstance (by decide +kernel) (pa_cons (pv 3) (pa_cons (pe_bltn (v := .ty "tuple") (by rfl) T.b_tuple (by decide +kernel) rfl) pa_nil))))) (pw_or1 (pt_cmpR (op_neD hr.units) (pv 3) (pe_callTy call_tuple_of (by rfl) T.b_tuple (by decide +kernel) (pa_cons (pv 4) pa_nil)) (nomark _)))))
 (pss_one (ps_ret pe_bl))
 pss_nil)
 (pss_one (ps_for PassesOwn.never rfl (pi_tup (pv 3)) (pg_name (i := 5) sc_l_told_right.nd rfl (by first | exact Or.inl rfl | exact Or.inr rfl))
 (pss_cons (ps_if (PW.pt (pw_or (pt_not (pt_val (pe_callB call_isi (by rfl) T.b_isinstance (by decide +kernel) (pa_cons (pv 5) (pa_cons (pe_bltn (v := .ty "tuple") (by rfl) T.b_tuple (by decide +kernel) rfl) pa_nil))))) (pw_or (pt_not (pt_val (pe_callB call_isi (by rfl) T.b_isinstance (by decide +kernel) (pa_cons (pe_ix ix_tup (pv 5) pe_int (fun _ _ => rfl)) (pa_cons (pe_bltn (v := .ty "bool") (by rfl) T.b_bool (by decide +kernel) rfl) pa_nil))))) (pw_or1 (pt_not (pt_val (pe_callB call_isi (by rfl) T.b_isinstance (by decide +kernel) (pa_cons (pe_ix ix_tup (pv 5) pe_int (fun _ _ => rfl)) (pa_cons (pe_bltn (v := .ty "bool") (by rfl) T.b_bool (by decide +kernel) rfl) pa_nil)))))))))
 (pss_one (ps_ret pe_bl))
 pss_nil)
 (pss_one (ps_if (pt_val (pe_callB call_isi (by rfl) T.b_isinstance (by decide +kernel) (pa_cons (pe_ix ix_tup (pv 5) pe_int (fun _ _ => rfl)) (pa_cons (pe_bltn (v := .ty "bool") (by rfl) T.b_bool (by decide +kernel) rfl) pa_nil))))
 (pss_one (ps_ret pe_bl))
 pss_nil)))))))
 (pss_one (ps_ret pe_bl))), ?_⟩
  refine ⟨_, rfl, x, _, dx, _, _, rfl, r1, T.cl_Rule, T.na_Rule_root, flds_root _ _, _, rfl, by show 2 ≤ sizeLine; decide, fun t1 ht1 => ?_⟩
  have s1 := same_upd (o := .tup [V.ref p1, V.ref a]) ht1
  have g1 : (upd H t1 (.tup [V.ref p1, V.ref a])) t1 = some (.tup [V.ref p1, V.ref a]) := upd_same
  generalize upd H t1 (.tup [V.ref p1, V.ref a]) = H1 at s1 g1
  refine ⟨_, rfl, x, _, dx, _, _, rfl, s1 _ _ r1, T.cl_Rule, T.na_Rule_others, flds_others _ _, _, rfl, by show 2 ≤ sizeLine; decide, fun t2 ht2 => ?_⟩
  have s2 := same_upd (o := .tup [V.ref p2, V.ref b]) ht2
  have g2 : (upd H1 t2 (.tup [V.ref p2, V.ref b])) t2 = some (.tup [V.ref p2, V.ref b]) := upd_same
  have g1 := s2 _ _ g1
  have s12 := s1.trans s2
  generalize upd H1 t2 (.tup [V.ref p2, V.ref b]) = H2 at s12 g1 g2
  refine ⟨by show 2 ≤ sizeLine; decide, fun t3 ht3 => ⟨t3, rfl, ⟨_, SqL.of upd_same⟩, ?_⟩⟩
  have s3 := s12.trans (same_upd (o := .lst [V.ref t1, V.ref t2]) ht3)
  have g1 := same_upd (o := .lst [V.ref t1, V.ref t2]) ht3 _ _ g1
  have g2 := same_upd (o := .lst [V.ref t1, V.ref t2]) ht3 _ _ g2
  have g3 : (upd H2 t3 (.lst [V.ref t1, V.ref t2])) t3 = some (.lst [V.ref t1, V.ref t2]) := upd_same
  generalize upd H2 t3 (.lst [V.ref t1, V.ref t2]) = H3 at s3 g1 g2 g3
  refine for_it (walk_list (K := K) (a := t3) (xs := [V.ref t1, V.ref t2])) (fun i σ H4 => (∃ v3 v4 v5, σ = [some (.ref x), some (.ref a), some (.ref b), v3, v4, v5]) ∧ Same H3 H4)
    ⟨⟨_, _, _, rfl⟩, fun _ _ h => h⟩ (fun i σ H4 _ ⟨_, s⟩ => SqL.of (s _ _ g3)) (fun i u σ H4 H5 hi ⟨⟨v3, v4, v5, e1⟩, s⟩ yl => ?_) (fun σ H4 ⟨⟨v3, v4, v5, e1⟩, s⟩ => ?_)
  · obtain ⟨rfl, hu'⟩ := yl
    subst e1
    have s4 := s3.trans s
    obtain ⟨t, pp, aa, zs, ys, js, rfl, ht, hz, hy, kz, ky, hl⟩ : ∃ t pp aa zs ys js, u = .ref t ∧ H5 t = some (.tup [V.ref pp, V.ref aa]) ∧ H5 pp = some (.tup zs) ∧ H5 aa = some (.lst ys) ∧ AllK H5 zs js ∧ AllK H5 ys js ∧ js.length ≤ 40 := by
      match i, hu' with
      | 0, hu' => cases hu'; exact ⟨t1, p1, a, zs1, ys1, j1, rfl, s _ _ g1, s4 _ _ r2, s4 _ _ ha, AllK.same s4 r4, AllK.same s4 k1, l1⟩
      | 1, hu' => cases hu'; exact ⟨t2, p2, b, zs2, ys2, j2, rfl, s _ _ g2, s4 _ _ r3, s4 _ _ hb, AllK.same s4 r5, AllK.same s4 k2, l2⟩
      | n + 2, hu' => cases hu'
    refine ⟨t, _, rfl, SqT.of ht, rfl, _, _, rfl, _, _, rfl, rfl, ?_⟩
    refine ⟨_, rfl, _, _, _, _, true, rfl, .ty _, .base (.tup hz), kit_ty (by decide +kernel), _, rfl, iteF ?_⟩
    refine ⟨_, rfl, _, rfl, aa, _, rfl, .inl ⟨SqL.of hy, fun l hl => ?_⟩⟩
    have s5 := same_upd (o := .tup ys) hl
    have gl : (upd H5 l (.tup ys)) l = some (.tup ys) := upd_same
    generalize upd H5 l (.tup ys) = H6 at s5 gl
    refine ⟨.tuple (js.map kdD), .tuple (js.map kdD), .tup (SqT.of (s5 _ _ hz)) (AllK.dp (AllK.same s5 kz)), .tup (SqT.of gl) (AllK.dp (AllK.same s5 ky)), kds_shapedT _, kds_shapedT _, _, rfl, ?_⟩
    have e2 : PyData.eqv (.tuple (js.map kdD)) (.tuple (js.map kdD)) = true := by simp only [PyData.eqv, kds_eqv]; simp
    rw [e2]
    refine iteF ?_
    refine nextS ?_
    dsimp only
    have hzl := AllK.len kz
    refine ⟨_, rfl, pp, rfl, ⟨_, SqT.of (s5 _ _ hz)⟩, ?_⟩
    refine for_it (walk_tup (K := K) (a := pp) (xs := zs)) (fun m σ H7 => (∃ v5, σ = [some (.ref x), some (.ref a), some (.ref b), some (.ref pp), some (.ref aa), v5]) ∧ Same H5 H7)
      ⟨⟨_, rfl⟩, s5⟩ (fun m σ H7 _ ⟨_, s⟩ => SqT.of (s _ _ hz)) (fun m u σ H7 H8 hm ⟨⟨v5, e1⟩, s6⟩ yl => ?_) (fun σ H7 ⟨⟨v5, e1⟩, s6⟩ => ?_)
    · obtain ⟨rfl, hu2⟩ := yl
      subst e1
      obtain ⟨k, hk, t4, rfl, ht4⟩ := paired_ix kz hu2
      have ht4 := s6 _ _ ht4
      refine ⟨_, rfl, _, _, _, _, true, rfl, .ty _, .base (.tup ht4), kit_ty (by decide +kernel), _, rfl, iteF ?_⟩
      refine ⟨_, rfl, t4, _, _, _, rfl, rfl, SqT.of ht4, atI_nat (j := 0) rfl, _, _, _, _, _, rfl, .ty _, .base (.bl _), isi_bb, _, rfl, iteF ?_⟩
      refine ⟨_, rfl, t4, _, _, _, rfl, rfl, SqT.of ht4, atI_nat (j := 1) rfl, _, _, _, _, _, rfl, .ty _, .base (.bl _), isi_bb, _, rfl, iteF ?_⟩
      refine ⟨_, rfl, t4, _, _, _, rfl, rfl, SqT.of ht4, atI_nat (j := 2) rfl, _, _, _, _, _, rfl, .ty _, .base (.int _), isi_ib, _, rfl, iteF ?_⟩
      exact ⟨⟨_, rfl⟩, s6⟩
    · subst e1
      exact ⟨⟨_, _, _, rfl⟩, s.trans s6⟩
  · exact q _ (s3.trans s)
theorem ok_l_kind (T : Tx P K mg) (B : Bx T base) : FnOk P w K mg base CX0 1 T.a_l_kind T.fd_l_kind ["_law_rows", "_law_letters_here", "_law_place"] spLKind := by
  refine okT T.F_l_kind sc_l_kind (fun vs H Q E h => ?_) (fun cdv A outer s H vs Q E hcd hr h => ?_)
  · obtain ⟨a, z, p, ws, rs, r, rfl, _⟩ := h
    rfl
  have hu := hu_of hr
  have hu65 := hu65_of hr
  obtain ⟨a, z, p, ws, rs, r, rfl, ha, pr, nd, hrm, rfl, hz, h200, hl, q⟩ := h
  have hwl : ws.length = rs.length := pr.length
  refine ⟨_, (pss_cons (ps_set (i := 3) sc_l_kind.nd rfl (by first | exact Or.inl rfl | exact Or.inr rfl) (pe_lc (own := [("_law_row_here", 4)]) (g := gName 4) rfl sc_l_kind.nd (pi_list (pv 0)) (blkOk_by (own := [("_law_row_here", 4)]) (N := N_l_kind) (sc := defScope s_l_kind) (by decide +kernel)) (fun _ _ _ _ _ => (pg_name (i := 4) sc_l_kind.nd rfl (by first | exact Or.inl rfl | exact Or.inr rfl))) (fun _ _ _ _ _ => pts_nil) (fun _ _ _ _ _ => (pe_ix (by exact ix_tup : IxR _ (rIxT K)) (pv 4) pe_int (fun _ _ => rfl)))))
 (pss_cons (ps_set (i := 4) sc_l_kind.nd rfl (by first | exact Or.inl rfl | exact Or.inr rfl) (pe_ix ix_list (pv 0) (pe_bm PySem.F.plainAttrs_list PySem.F.slot_list_index PySem.F.type_list_index mt_index (pv 3) (pa_cons (pv 2) pa_nil)) (fun _ _ => rfl)))
 (pss_cons (ps_set (i := 5) sc_l_kind.nd rfl (by first | exact Or.inl rfl | exact Or.inr rfl) (pe_callB call_len_seq (by rfl) T.b_len (by decide +kernel) (pa_cons (pe_lc (own := [("_law_letter", 6)]) (g := gName 6) rfl sc_l_kind.nd (pi_str (pv 1)) (blkOk_by (own := [("_law_letter", 6)]) (N := N_l_kind) (sc := defScope s_l_kind) (by decide +kernel)) (fun _ _ _ _ _ => (pg_name (i := 6) sc_l_kind.nd rfl (by first | exact Or.inl rfl | exact Or.inr rfl))) (fun _ _ _ _ _ => (pts_one (pt_cmpR (by exact op_in_seq : OpR _ (compareOp .In) (rIn K false)) (pe_op op_add_str (pv 2) (pv 6)) (pv 3) (by rfl)))) (fun _ _ _ _ _ => (pv 6))) pa_nil)))
 (pss_one (ps_ret (pe_tup (pa_cons (pe_cmpR op_notN (pe_ix ix_tup (pv 4) pe_int (fun _ _ => rfl)) pe_non (nomark _)) (pa_cons (pe_ix ix_tup (pv 4) pe_int (fun _ _ => rfl)) (pa_cons (pe_callB (call_min2 rfl) (by rfl) T.b_min (by decide +kernel) (pa_cons pe_int (pa_cons (pv 5) pa_nil))) pa_nil))))))))), ?_⟩
  refine asgI ?_
  refine ⟨_, rfl, a, rfl, ⟨_, SqL.of ha⟩, fun D hD => ?_⟩
  refine lcF (walk_list (K := K) (a := a) (xs := ws)) yat pr hD (fun H' s => SqL.of (s _ _ ha)) (by omega) (fun _ => true) (fun r => .str (sw r.1)) (fun x r' H' R N hm e s k1 _ => ?_) (fun H1 s1 hD1 => ?_)
  · obtain ⟨b, rfl, hb⟩ := e
    refine ⟨rfl, yes_ite ?_⟩
    exact ⟨_, rfl, b, _, _, _, rfl, rfl, SqT.of (s _ _ hb), atI_nat (j := 0) rfl, k1 rfl⟩
  rw [filter_tt] at hD1
  have ht : H1 D = some (.lst (wsV (rs.map (·.1)))) := by rw [hD1]; unfold wsV; rw [List.map_map]; rfl
  obtain ⟨i, hi⟩ := List.getElem?_of_mem hrm
  have hos : (rs.map (·.1))[i]? = some r.1 := by rw [List.getElem?_map, hi]; rfl
  have hwi : (wsV (rs.map (·.1)))[i]? = some (.str (sw r.1)) := by rw [List.getElem?_map, hos]; rfl
  obtain ⟨w1, hw1, b, rfl, hb⟩ := paired_ix' pr hi
  refine ⟨_, rfl, _, rfl, .inl ⟨rfl, _, SqL.of ht⟩, _, rfl, D, _, _, i, _, rfl, rfl, SqL.of ht, rfl, wsV_flat _, hwi, by rw [eqV_sw, decide_eq_true rfl], fun k z' hk hz' => ?_, a, ws, _, _, rfl, rfl, SqL.of (s1 _ _ ha), atI_nat hw1, ?_⟩
  · rw [List.getElem?_map] at hz'
    obtain ⟨q', hq', rfl⟩ := Option.map_eq_some_iff.mp hz'
    rw [eqV_sw]
    refine decide_eq_false fun e => ?_
    rw [e] at hq'
    exact absurd (nd_ix nd hq' hos) (by omega)
  have hlen := h200 r hrm
  refine ⟨_, rfl, _, rfl, fun D2 hD2 => ?_⟩
  refine lcF (walk_sgs z) yat (pr_sgs z) hD2 (fun _ _ => trivial) (by omega) (fun c => decide (r.1 ++ [c] ∈ rs.map (·.1))) (fun c => .str (sw [c])) (fun y c H' R N hc e s k1 k2 => ?_) (fun H4 s4 hD4 => ?_)
  · subst e
    refine ⟨rfl, _, rfl, _, rfl, _, _, rfl, rfl, by rw [sw_len, sw_len, sizeLine_eq]; show _ + 1 ≤ _; omega, ?_⟩
    rw [sw_app]
    refine ⟨_, rfl, D, _, rfl, .inl (SqL.of (s _ _ ht)), rfl, wsV_flat _, _, rfl, ?_⟩
    rw [wsV_in]
    refine ite2 (fun h => ?_) (fun h => ?_)
    · exact ⟨_, rfl, k1 h⟩
    · exact k2 (by simpa using h)
  · have s14 := s1.trans s4
    have hb4 := s14 _ _ hb
    refine ⟨D2, _, rfl, .inl (SqL.of hD4), ?_⟩
    refine ⟨_, rfl, b, _, _, _, rfl, rfl, SqT.of hb4, atI_nat (j := 1) rfl, rfl, ?_⟩
    refine ⟨_, rfl, b, _, _, _, rfl, rfl, SqT.of hb4, atI_nat (j := 2) rfl, ?_⟩
    refine ⟨_, rfl, _, _, rfl, ?_⟩
    rw [isN_o, List.length_map, show (z.filter fun c => decide (r.1 ++ [c] ∈ rs.map (·.1))) = kids z (rs.map (·.1)) r.1 from rfl, min_if]
    refine ⟨by show 3 ≤ sizeLine; decide, fun l hl => ?_⟩
    exact q _ _ (s14.trans (same_upd hl)) ⟨l, rfl, upd_same⟩
end
end Toy
set_option Elab.async false
set_option linter.all false
set_option maxRecDepth 100000
set_option maxHeartbeats 4000000
namespace Toy
open PySem L2 Sh ShL LamX NdefX
def spTree (C D : Addr) : Sp := fun vs H Q _ => ∃ z x a rp ra rb ws rs ys1 ys2 j1 j2, vs = [.str (sw z), .ref x, .ref a, .ref rp, .ref ra, .ref rb] ∧ TreeAt C H x z rs ∧ H a = some (.lst ws) ∧ Paired (RwT H) ws rs ∧ (rs.map (·.1)).Nodup ∧ z.length ≤ 26 ∧ (∀ r ∈ rs, r.1.length ≤ 200) ∧ rs.length ≤ 2000 ∧
  RuleAt D H rp j1 j2 ∧ H ra = some (.lst ys1) ∧ H rb = some (.lst ys2) ∧ AllK H ys1 j1 ∧ AllK H ys2 j2 ∧ ∀ H', Same H H' → Q (.bl true) H'
theorem wsV_dp {K : PySem.W.Frag} {H : Hp} : ∀ ps : List Wd, DpAll K H (wsV ps) (ps.map fun p => PyData.str (sw p))
  | [] => .nil
  | p :: ps => .cons (.str _) (wsV_dp ps)
theorem wsD_lay : ∀ ps : List Wd, (∀ p ∈ ps, ∀ c ∈ p, c < 200) → PyData.canLayAll0 (ps.map fun p => PyData.str (sw p)) = true ∧ PyData.depthAll (ps.map fun p => PyData.str (sw p)) ≤ 1
  | [], _ => ⟨rfl, by simp [PyData.depthAll]⟩
  | p :: ps, h => by
    obtain ⟨h1, h2⟩ := wsD_lay ps fun x hx => h x (List.mem_cons_of_mem _ hx)
    refine ⟨by simp only [List.map_cons, PyData.canLayAll0, PyData.canLay0, h1, str_ok (h p List.mem_cons_self)]; rfl, ?_⟩
    simp only [List.map_cons, PyData.depthAll, PyData.depth]
    omega
theorem wsD_shaped {ps : List Wd} (h : ∀ p ∈ ps, ∀ c ∈ p, c < 200) : SeqAt.shaped (.list (ps.map fun p => PyData.str (sw p))) = true := by
  obtain ⟨h1, h2⟩ := wsD_lay ps h
  exact shaped_of (by simp only [PyData.canLay0]; exact h1) (by simp only [PyData.depth]; omega)
theorem wsD_nil (ps : List Wd) : PyData.eqv (.list (ps.map fun p => PyData.str (sw p))) (.list []) = ps.isEmpty := by
  cases ps <;> simp [PyData.eqv, PyData.eqvAll]
/-- the rows whose kind is not let -/
def badL (z : Wd) (os : List Wd) (j1 j2 : List Kd) (rs : List Rw) : List Rw := rs.filter fun r => decide (kdOf z os r ∉ (if r.1 = [] then j1 else j2))
theorem badR_badL (z : Wd) (rs : List Rw) (j1 j2 : List Kd) : badR z rs j1 j2 = (badL z (rs.map (·.1)) j1 j2 rs).head? := by
  unfold badR badL
  exact List.head?_filter.symm
section
variable {P : Program} {w : World} {K : PySem.W.Frag} {mg : Str → Option Value} {base : Heap}
theorem ok_l_tree_right (T : Tx P K mg) (B : Bx T base) : FnOk P w K mg base CX0 6 T.a_l_tree_right T.fd_l_tree_right ["_law_letters_here", "_law_tree", "_law_rows", "_law_rule", "_law_root", "_law_others"] (spTree T.c_Tree T.c_Rule) := by
  refine okT T.F_l_tree_right sc_l_tree_right (fun vs H Q E h => ?_) (fun cdv A outer s H vs Q E hcd hr h => ?_)
  · obtain ⟨z, x, a, rp, ra, rb, ws, rs, ys1, ys2, j1, j2, rfl, _⟩ := h
    rfl
  have hu := hu_of hr
  have hu65 := hu65_of hr
  obtain ⟨z, x, a, rp, ra, rb, ws, rs, ys1, ys2, j1, j2, rfl, hx, ha, pr, nd, hz, h200, hl, hr0, hra, hrb, k1, k2, q⟩ := h
  have hwl : ws.length = rs.length := pr.length
  refine ⟨_, (pss_cons (ps_set (i := 6) sc_l_tree_right.nd rfl (by first | exact Or.inl rfl | exact Or.inr rfl) (pe_lst pa_nil))
 (pss_cons (ps_for PassesOwn.never rfl (pi_list (pv 2)) (pg_tup rfl (pgs_cons (pg_name (i := 7) sc_l_tree_right.nd rfl (by first | exact Or.inl rfl | exact Or.inr rfl)) (pgs_cons (pg_name (i := 8) sc_l_tree_right.nd rfl (by first | exact Or.inl rfl | exact Or.inr rfl)) (pgs_cons (pg_name (i := 9) sc_l_tree_right.nd rfl (by first | exact Or.inl rfl | exact Or.inr rfl)) pgs_nil))))
 (pss_cons (ps_set (i := 10) sc_l_tree_right.nd rfl (by first | exact Or.inl rfl | exact Or.inr rfl) (pe_call (ok_l_kind T B) (hr.mono (by decide)) (by rfl) T.m_l_kind T.F_l_kind.kp T.bi_l_kind .nil pass0 (pa_cons (pv 2) (pa_cons (pv 0) (pa_cons (pv 7) pa_nil)))))
 (pss_cons (ps_set (i := 11) sc_l_tree_right.nd rfl (by first | exact Or.inl rfl | exact Or.inr rfl) (pe_call (E := fun _ _ _ => False) (ok_kind_of T B) (hr.mono (by decide)) (by rfl) T.m_kind_of T.F_kind_of.kp T.bi_kind_of .nil (passes_call LamX.takes0 (fun _ _ _ _ h => h)) (pa_cons (pv 1) (pa_cons (pv 7) pa_nil))))
 (pss_cons (ps_if (PW.pt (pw_or (pt_not (pt_val (pe_callB call_isi (by rfl) T.b_isinstance (by decide +kernel) (pa_cons (pv 11) (pa_cons (pe_bltn (v := .ty "tuple") (by rfl) T.b_tuple (by decide +kernel) rfl) pa_nil))))) (pw_or (pt_cmpR (op_neD hr.units) (pv 11) (pv 10) (nomark _)) (pw_or1 (pt_val (pe_callB call_isi (by rfl) T.b_isinstance (by decide +kernel) (pa_cons (pe_ix ix_tup (pv 11) pe_int (fun _ _ => rfl)) (pa_cons (pe_bltn (v := .ty "bool") (by rfl) T.b_bool (by decide +kernel) rfl) pa_nil))))))))
 (pss_one (ps_ret pe_bl))
 pss_nil)
 (pss_one (ps_if (pt_cmpR (op_notInD hu65) (pv 10) (pe_ifExp (pt_cmpR op_eq (pv 7) pe_str (nomark _)) (pv 4) (pv 5)) (by rfl))
 (pss_one (ps_expr (pe_bm PySem.F.plainAttrs_list PySem.F.slot_list_append PySem.F.type_list_append mt_append (pv 6) (pa_cons (pv 7) pa_nil))))
 pss_nil))))))
 (pss_cons (ps_set (i := 12) sc_l_tree_right.nd rfl (by first | exact Or.inl rfl | exact Or.inr rfl) (pe_meth (pv 3) T.cl_Rule T.me_Rule_keeps (ok_Rule_keeps T B) (hr.mono (by decide)) T.bi_Rule_keeps .nil pass0 (pa_cons (pv 1) pa_nil)))
 (pss_cons (ps_if (PW.pt (pw_or (pt_not (pt_val (pe_callB call_isi (by rfl) T.b_isinstance (by decide +kernel) (pa_cons (pv 12) (pa_cons (pe_bltn (v := .ty "bool") (by rfl) T.b_bool (by decide +kernel) rfl) pa_nil))))) (pw_or1 (pt_cmpR op_ne (pv 12) (pe_cmpR (op_eqD hr.units) (pv 6) (pe_lst pa_nil) (nomark _)) (nomark _)))))
 (pss_one (ps_ret pe_bl))
 pss_nil)
 (pss_one (ps_ret (pe_cmpR op_eq (pe_meth (pv 3) T.cl_Rule T.me_Rule_broken_at (ok_Rule_broken_at T B) (hr.mono (by decide)) T.bi_Rule_broken_at .nil pass0 (pa_cons (pv 1) pa_nil)) (pe_ifExp (pt_cmpR (op_neD hr.units) (pv 6) (pe_lst pa_nil) (nomark _)) (pe_ix ix_list (pv 6) pe_int (fun _ _ => rfl)) pe_non) (nomark _)))))))), ?_⟩
  refine ⟨Nat.zero_le _, fun o ho => ?_⟩
  have s1 := same_upd (o := .lst []) ho
  have g1 : (upd H o (.lst [])) o = some (.lst (wsV [])) := upd_same
  generalize upd H o (.lst []) = H1 at s1 g1
  have fin : ∀ (σ : L2.St) (H3 : Hp), (∃ v7 v8 v9 v10 v11 v12, σ = [some (.str (sw z)), some (.ref x), some (.ref a), some (.ref rp), some (.ref ra), some (.ref rb), some (.ref o), v7, v8, v9, v10, v11, v12]) → Same H H3 → H3 o = some (.lst (wsV ((badL z (rs.map (·.1)) j1 j2 rs).map (·.1)))) →
      tSeq (tAsg (tMeth T.c_Rule "keeps" (spKeeps T.c_Tree T.c_Rule) [] E0 (tVar 3) (tCons (tVar 1) tNil)) (gName 12)) (tSeq (tIfS (tOr (tNot (tB (tCB (rIsi K) (tCons (tVar 12) (tCons (tC (V.ty "bool")) tNil))))) (tTest (tOp rNe (tVar 12) (tOp (rEqD K) (tVar 6) (tLst tNil))))) (tRet (tC (V.bl false))) tNext)
        (tRet (tOp rEq (tMeth T.c_Rule "broken_at" (spBroken T.c_Tree T.c_Rule) [] E0 (tVar 3) (tCons (tVar 1) tNil)) (tIf (tTest (tOp (rNeD K) (tVar 6) (tLst tNil))) (tOp (rIxL K) (tVar 6) (tC (V.int 0))) (tC V.non))))) { nx := fun _ H' => Q .non H', rt := Q } σ H3 := by
    rintro σ H3 ⟨v7, v8, v9, v10, v11, v12, rfl⟩ s3 h3
    have hr3 := hr0.same s3
    obtain ⟨dx, p1, p2, zs1, zs2, r1, r2, r3, r4, r5⟩ := hr3
    have low : ∀ p ∈ (badL z (rs.map (·.1)) j1 j2 rs).map (·.1), ∀ c ∈ p, c < 200 := fun p hp => by
      obtain ⟨r, hr, rfl⟩ := List.mem_map.mp hp
      exact hx.low r (List.mem_filter.mp hr).1
    refine ⟨_, rfl, rp, dx, _, rfl, r1, flds_no (by decide +kernel) (by decide +kernel), _, rfl, rp, x, z, rs, j1, j2, rfl, hr0.same s3, hx.same s3, nd, hz, hl, fun H4 s4 => ?_⟩
    refine ⟨_, rfl, _, _, _, _, _, rfl, .ty _, .base (.bl _), isi_bb, _, rfl, iteF ?_⟩
    have h4 := s4 _ _ h3
    refine ⟨_, rfl, _, rfl, Nat.zero_le _, fun e he => ?_⟩
    have s5 := same_upd (o := .lst []) he
    refine ⟨_, _, .lst (SqL.of (s5 _ _ h4)) (wsV_dp _), .lst (SqL.of upd_same) .nil, wsD_shaped low, by decide +kernel, ?_⟩
    rw [wsD_nil]
    refine ⟨rfl, _, rfl, ?_⟩
    have e1 : (badR z rs j1 j2).isNone = ((badL z (rs.map (·.1)) j1 j2 rs).map (·.1)).isEmpty := by
      rw [badR_badL]
      cases badL z (rs.map (·.1)) j1 j2 rs <;> rfl
    rw [e1]
    have e2 : (!decide (V.bl ((badL z (rs.map (·.1)) j1 j2 rs).map (·.1)).isEmpty = V.bl ((badL z (rs.map (·.1)) j1 j2 rs).map (·.1)).isEmpty)) = false := by rw [decide_eq_true rfl]; rfl
    rw [decide_eq_true rfl]
    refine iteF ?_
    have s45 := s4.trans s5
    have h5 := s5 _ _ h4
    generalize upd H4 e (.lst []) = H5 at s45 h5
    have s35 := s3.trans s45
    refine nextS ?_
    dsimp only
    refine ⟨_, rfl, rp, dx, _, rfl, s45 _ _ r1, flds_no (by decide +kernel) (by decide +kernel), _, rfl, rp, x, z, rs, j1, j2, rfl, hr0.same s35, hx.same s35, nd, hz, hl, fun H6 s6 => ?_⟩
    have h6 := s6 _ _ h5
    refine ⟨_, rfl, Nat.zero_le _, fun e he => ?_⟩
    have s7 := same_upd (o := .lst []) he
    refine ⟨_, _, .lst (SqL.of (s7 _ _ h6)) (wsV_dp _), .lst (SqL.of upd_same) .nil, wsD_shaped low, by decide +kernel, _, rfl, ?_⟩
    rw [wsD_nil, badR_badL]
    have h7 := s7 _ _ h6
    have s37 := (s35.trans s6).trans s7
    generalize upd H6 e (.lst []) = H7 at s37 h7
    cases hb : badL z (rs.map (·.1)) j1 j2 rs with
    | nil =>
      refine iteF ⟨?_, ?_⟩
      · rfl
      · show Q (.bl (decide (V.non = V.non))) H7
        rw [decide_eq_true rfl]
        exact q _ s37
    | cons r l =>
      rw [hb] at h7
      refine iteT ⟨_, rfl, o, _, _, _, rfl, rfl, SqL.of h7, atI_nat (j := 0) rfl, ?_⟩
      refine ⟨rfl, ?_⟩
      show Q (.bl (decide (V.str (sw r.1) = V.str (sw r.1)))) H7
      rw [decide_eq_true rfl]
      exact q _ s37
  refine ⟨_, rfl, a, rfl, ⟨_, SqL.of (s1 _ _ ha)⟩, ?_⟩
  refine for_it (walk_list (K := K) (a := a) (xs := ws)) (fun i σ H3 => (∃ v7 v8 v9 v10 v11 v12, σ = [some (.str (sw z)), some (.ref x), some (.ref a), some (.ref rp), some (.ref ra), some (.ref rb), some (.ref o), v7, v8, v9, v10, v11, v12]) ∧ Same H H3 ∧ H3 o = some (.lst (wsV ((badL z (rs.map (·.1)) j1 j2 (rs.take i)).map (·.1)))))
    ⟨⟨_, _, _, _, _, _, rfl⟩, s1, by rw [List.take_zero]; exact g1⟩ (fun i σ H3 _ ⟨_, s, _⟩ => SqL.of (s _ _ ha)) (fun i u σ H3 H4 hi ⟨⟨v7, v8, v9, v10, v11, v12, e1⟩, s3, h3⟩ yl => ?_) (fun σ H3 ⟨e1, s3, h3⟩ => ?_)
  · obtain ⟨rfl, hu'⟩ := yl
    subst e1
    obtain ⟨r, hr2, b, rfl, hb⟩ := paired_ix pr hu'
    have hrm := List.mem_of_getElem? hr2
    have hil := (List.getElem?_eq_some_iff.mp hr2).1
    refine ⟨b, _, rfl, SqT.of (s3 _ _ hb), rfl, _, _, rfl, _, _, rfl, _, _, rfl, rfl, ?_⟩
    refine ⟨_, rfl, _, rfl, _, rfl, a, z, r.1, ws, rs, r, rfl, s3 _ _ ha, paired_mono (fun _ _ q => q.same s3) pr, nd, hrm, rfl, hz, h200, hl, fun H5 u1 s5 hk1 => ?_⟩
    have s35 := s3.trans s5
    refine ⟨_, rfl, _, rfl, x, z, rs, _, some r.1, rfl, hx.same s35, nd, hz, rfl, fun r' hr' e H6 u2 s6 hk2 => ?_, fun h => ?_⟩
    · have hrr := nd_row nd hrm hr' (Option.some.inj e)
      subst hrr
      have hk1 := IsK.same s6 hk1
      have s36 := s35.trans s6
      have d1 := hk1.dp (K := K)
      have d2 := hk2.dp (K := K)
      obtain ⟨t1, rfl, ht1⟩ := hk1
      obtain ⟨t2, rfl, ht2⟩ := hk2
      refine ⟨_, rfl, _, _, _, _, true, rfl, .ty _, .base (.tup ht2), kit_ty (by decide +kernel), _, rfl, iteF ?_⟩
      refine ⟨_, rfl, _, rfl, kdD _, kdD _, d2, d1, kd_shaped _, kd_shaped _, _, rfl, ?_⟩
      rw [kd_eqv, decide_eq_true rfl]
      refine iteF ?_
      refine ⟨_, rfl, t2, _, _, _, rfl, rfl, SqT.of ht2, atI_nat (j := 2) rfl, _, _, _, _, _, rfl, .ty _, .base (.int _), isi_ib, _, rfl, iteF ?_⟩
      refine nextS ?_
      dsimp only
      refine ⟨_, rfl, _, rfl, rfl, _, rfl, ?_⟩
      rw [mt_eq, sw_dec]
      have ho6 := s6 _ _ (s5 _ _ h3)
      have step : ∀ (js : List Kd) (ys : List V) (rx : Addr), js = (if r'.1 = [] then j1 else j2) → H6 rx = some (.lst ys) → AllK H6 ys js → ∀ (Z : Bool → Hp → Prop), Z (!decide (kdOf z (rs.map (·.1)) r' ∈ js)) H6 → rNotInD K (.ref t1) (.ref rx) H6 (fun v H => ∃ b, v = .bl b ∧ Z b H) := fun js ys rx e hrx hjs Z hZ => by
        refine ⟨kdD _, _, d1, .lst (SqL.of hrx) (AllK.dp hjs), kd_shaped _, kds_shapedL _, _, rfl, ?_⟩
        rw [kd_any]
        exact hZ
      have tk : rs.take (i + 1) = rs.take i ++ [r'] := by rw [List.take_add_one, hr2]; rfl
      have last : ∀ js : List Kd, js = (if r'.1 = [] then j1 else j2) → (if (!decide (kdOf z (rs.map (·.1)) r' ∈ js)) = true then
          tDrop (tBM K "list" rAppend (tVar 6) (tCons (tVar 7) tNil)) { nx := fun σ H3 => (∃ v7 v8 v9 v10 v11 v12, σ = [some (.str (sw z)), some (.ref x), some (.ref a), some (.ref rp), some (.ref ra), some (.ref rb), some (.ref o), v7, v8, v9, v10, v11, v12]) ∧ Same H H3 ∧ H3 o = some (.lst (wsV ((badL z (rs.map (·.1)) j1 j2 (rs.take (i + 1))).map (·.1)))), rt := Q }
            [some (.str (sw z)), some (.ref x), some (.ref a), some (.ref rp), some (.ref ra), some (.ref rb), some (.ref o), some (.str (sw r'.1)), some (oV r'.2.1), some (.bl r'.2.2), some (.ref t1), some (.ref t2), v12] H6
          else (∃ w7 w8 w9 w10 w11 w12, [some (V.str (sw z)), some (.ref x), some (.ref a), some (.ref rp), some (.ref ra), some (.ref rb), some (.ref o), some (.str (sw r'.1)), some (oV r'.2.1), some (.bl r'.2.2), some (.ref t1), some (.ref t2), v12] = [some (.str (sw z)), some (.ref x), some (.ref a), some (.ref rp), some (.ref ra), some (.ref rb), some (.ref o), w7, w8, w9, w10, w11, w12]) ∧ Same H H6 ∧ H6 o = some (.lst (wsV ((badL z (rs.map (·.1)) j1 j2 (rs.take (i + 1))).map (·.1))))) := fun js e => by
        refine ite2 (fun h => ?_) (fun h => ?_)
        · have hn : kdOf z (rs.map (·.1)) r' ∉ js := by simpa using h
          have eb : badL z (rs.map (·.1)) j1 j2 (rs.take (i + 1)) = badL z (rs.map (·.1)) j1 j2 (rs.take i) ++ [r'] := by
            unfold badL
            rw [tk, List.filter_append, List.filter_cons_of_pos (by rw [← e]; exact decide_eq_true hn), List.filter_nil]
          refine ⟨_, rfl, .inl ⟨rfl, _, SqL.of ho6⟩, _, rfl, o, _, _, rfl, rfl, ho6, ?_, ?_⟩
          · have h1 := List.length_filter_le (fun r => decide (kdOf z (rs.map (·.1)) r ∉ (if r.1 = [] then j1 else j2))) (rs.take i)
            rw [List.length_take] at h1
            show ((((badL z (rs.map (·.1)) j1 j2 (rs.take i)).map (·.1)).map _).length) < sizeLine
            rw [List.length_map, List.length_map, sizeLine_eq]
            unfold badL
            omega
          · refine ⟨⟨_, _, _, _, _, _, rfl⟩, same_of_new s36 ho, ?_⟩
            rw [upd_same, eb, List.map_append]
            unfold wsV
            rw [List.map_append]
            rfl
        · have hm : kdOf z (rs.map (·.1)) r' ∈ js := by simpa using h
          have eb : badL z (rs.map (·.1)) j1 j2 (rs.take (i + 1)) = badL z (rs.map (·.1)) j1 j2 (rs.take i) := by
            unfold badL
            rw [tk, List.filter_append, List.filter_cons_of_neg (by rw [← e]; simpa using hm), List.filter_nil, List.append_nil]
          exact ⟨⟨_, _, _, _, _, _, rfl⟩, s36, by rw [eb]; exact ho6⟩
      refine ite2 (fun h => ?_) (fun h => ?_)
      · have h0 := of_decide_eq_true h
        exact ⟨_, rfl, step j1 ys1 ra (by rw [if_pos h0]) (s36 _ _ hra) (AllK.same s36 k1) _ (last j1 (by rw [if_pos h0]))⟩
      · have h0 : ¬ r'.1 = [] := fun z => h (decide_eq_true z)
        exact ⟨_, rfl, step j2 ys2 rb (by rw [if_neg h0]) (s36 _ _ hrb) (AllK.same s36 k2) _ (last j2 (by rw [if_neg h0]))⟩
    · rw [show inR (some r.1) rs = true from decide_eq_true (List.mem_map.mpr ⟨r, hrm, rfl⟩)] at h
      cases h
  · rw [hwl, List.take_of_length_le (Nat.le_refl _)] at h3
    exact fin σ H3 e1 s3 h3
end
end Toy
set_option Elab.async false
set_option linter.all false
set_option maxRecDepth 100000
set_option maxHeartbeats 4000000
namespace Toy
open PySem L2 Sh ShL LamX NdefX
def lrF (s : Str) (k : Kd) : Bool := decide (s = "free") || !k.2.1
def loF (s : Str) (k : Kd) : Bool := if s = "free" ∨ s = "bare" then lrF s k else if k.1 = true ∨ 0 < k.2.2 then decide (k.2.1 = (decide (s = "joined") && (decide (k.2.2 = 1) && !k.1))) else false
theorem lr_kn : ∀ s ∈ kNames, E12.filter (lrF s) = knR s := by decide +kernel
theorem lo_kn : ∀ s ∈ kNames, E12.filter (loF s) = knO s := by decide +kernel
theorem least_kn : ∀ s ∈ kNames, leastV (knO s) = .int 1 := by decide +kernel
theorem kn_len : ∀ s ∈ kNames, (knR s).length ≤ 40 ∧ (knO s).length ≤ 40 := by decide +kernel
def spKnR : Sp := fun vs H Q _ => ∃ s, vs = [.str s] ∧ s ∈ kNames ∧ ∀ H', Same H H' → Q (.bl true) H'
theorem filter_step {f : Kd → Bool} {i : Nat} {k : Kd} (h : E12[i]? = some k) : (E12.take (i + 1)).filter f = (E12.take i).filter f ++ (if f k then [k] else []) := by
  rw [List.take_add_one, h, List.filter_append]
  cases e : f k <;> simp [e]
section
variable {P : Program} {w : World} {K : PySem.W.Frag} {mg : Str → Option Value} {base : Heap}
theorem ok_l_known_right (T : Tx P K mg) (B : Bx T base) : FnOk P w K mg base CX0 7 T.a_l_known_right T.fd_l_known_right ["_law_name"] spKnR := by
  refine okT T.F_l_known_right sc_l_known_right (fun vs H Q E h => ?_) (fun cdv A outer s H vs Q E hcd hr h => ?_)
  · obtain ⟨s, rfl, _⟩ := h
    rfl
  have hu := hu_of hr
  have hu65 := hu65_of hr
  obtain ⟨nm, rfl, hm, q⟩ := h
  refine ⟨_, (pss_cons (ps_par (i := 1) (j := 2) (by rfl) sc_l_known_right.nd rfl rfl (by decide) rfl rfl (pa_cons (pe_lst pa_nil) (pa_cons (pe_lst pa_nil) pa_nil)) (by rfl))
 (pss_cons (ps_for PassesOwn.never rfl (pi_list (pe_call0 (ok_l_every T B) (hr.mono (by decide)) (by rfl) T.m_l_every T.F_l_every.kp T.bi_l_every .nil pass0)) (pg_name (i := 3) sc_l_known_right.nd rfl (by first | exact Or.inl rfl | exact Or.inr rfl))
 (pss_cons (ps_asg (pv 3) (pg_tup rfl (pgs_cons (pg_name (i := 4) sc_l_known_right.nd rfl (by first | exact Or.inl rfl | exact Or.inr rfl)) (pgs_cons (pg_name (i := 5) sc_l_known_right.nd rfl (by first | exact Or.inl rfl | exact Or.inr rfl)) (pgs_cons (pg_name (i := 6) sc_l_known_right.nd rfl (by first | exact Or.inl rfl | exact Or.inr rfl)) pgs_nil)))))
 (pss_cons (ps_if (PW.pt (pw_or (pt_cmpR op_eq (pv 0) pe_str (nomark _)) (pw_or1 (pt_not (pt_val (pv 5))))))
 (pss_one (ps_expr (pe_bm PySem.F.plainAttrs_list PySem.F.slot_list_append PySem.F.type_list_append mt_append (pv 1) (pa_cons (pv 3) pa_nil))))
 pss_nil)
 (pss_one (ps_if (pt_cmpR op_in_seq (pv 0) (pe_tup (pa_cons pe_str (pa_cons pe_str pa_nil))) (by rfl))
 (pss_one (ps_if (PW.pt (pw_or (pt_cmpR op_eq (pv 0) pe_str (nomark _)) (pw_or1 (pt_not (pt_val (pv 5))))))
 (pss_one (ps_expr (pe_bm PySem.F.plainAttrs_list PySem.F.slot_list_append PySem.F.type_list_append mt_append (pv 2) (pa_cons (pv 3) pa_nil))))
 pss_nil))
 (pss_one (ps_if (PW.pt (pw_or (pt_val (pv 4)) (pw_or1 (pt_cmpR op_gt (pv 6) pe_int (nomark _)))))
 (pss_one (ps_if (pt_cmpR op_eq (pv 5) (pe_and (pe_cmpR op_eq (pv 0) pe_str (nomark _)) (pe_and (pe_cmpR op_eq (pv 6) pe_int (nomark _)) (pe_one (pe_not (pv 4))))) (nomark _))
 (pss_one (ps_expr (pe_bm PySem.F.plainAttrs_list PySem.F.slot_list_append PySem.F.type_list_append mt_append (pv 2) (pa_cons (pv 3) pa_nil))))
 pss_nil))
 pss_nil)))))))
 (pss_cons (ps_set (i := 7) sc_l_known_right.nd rfl (by first | exact Or.inl rfl | exact Or.inr rfl) (pe_call (E := fun _ _ _ => False) (ok_known_rule T B) (hr.mono (by decide)) (by rfl) T.m_known_rule T.F_known_rule.kp T.bi_known_rule .nil (passes_call LamX.takes0 (fun _ _ _ _ h => h)) (pa_cons (pv 0) pa_nil)))
 (pss_one (ps_ret (pe_and (pe_call (ok_l_told_right T B) (hr.mono (by decide)) (by rfl) T.m_l_told_right T.F_l_told_right.kp T.bi_l_told_right .nil pass0 (pa_cons (pv 7) (pa_cons (pv 1) (pa_cons (pv 2) pa_nil)))) (pe_one (pe_cmpR op_eq (pe_call (ok_least_part T B) (hr.mono (by decide)) (by rfl) T.m_least_part T.F_least_part.kp T.bi_least_part .nil pass0 (pa_cons (pv 7) pa_nil)) pe_int (nomark _))))))))), ?_⟩
  refine ⟨Nat.zero_le _, fun o1 ho1 => ⟨Nat.zero_le _, fun o2 ho2 => ⟨_, _, rfl, ?_⟩⟩⟩
  have s1 := same_upd (o := .lst []) ho1
  have g1 : (upd H o1 (.lst [])) o1 = some (.lst []) := upd_same
  generalize upd H o1 (.lst []) = H1 at s1 g1 ho2
  have s2 := same_upd (o := .lst []) ho2
  have g2 : (upd H1 o2 (.lst [])) o2 = some (.lst []) := upd_same
  have n12 : o1 ≠ o2 := ne_of_none g1 ho2
  have g1 := s2 _ _ g1
  have ho2' : H o2 = none := s1.free ho2
  have s12 := s1.trans s2
  generalize upd H1 o2 (.lst []) = H2 at s12 g1 g2
  refine ⟨rfl, fun H3 a xs s3 n3 h3 k3 => ⟨a, rfl, ⟨_, SqL.of h3⟩, ?_⟩⟩
  have s13 := s12.trans s3
  have g1 := s3 _ _ g1
  have g2 := s3 _ _ g2
  have na1 : a ≠ o1 := fun z => by rw [z] at n3; rename_i g1' _; rw [g1'] at n3; cases n3
  have na2 : a ≠ o2 := fun z => by rw [z] at n3; rename_i g2'; rw [g2'] at n3; cases n3
  have xl : xs.length = 12 := AllK.len k3
  -- what is to be kept: all of H, the list of all kinds, the two lists
  let Pv : Nat → L2.St → Hp → Prop := fun i σ H' => (∃ v3 v4 v5 v6 v7, σ = [some (.str nm), some (.ref o1), some (.ref o2), v3, v4, v5, v6, v7]) ∧ Same H H' ∧ H' a = some (.lst xs) ∧ AllK H' xs E12 ∧
    ∃ z1 z2, H' o1 = some (.lst z1) ∧ H' o2 = some (.lst z2) ∧ AllK H' z1 ((E12.take i).filter (lrF nm)) ∧ AllK H' z2 ((E12.take i).filter (loF nm))
  have fin : ∀ (σ : L2.St) (H4 : Hp), Pv 12 σ H4 → tSeq (tAsg (tCall (spKnown T.c_Rule T.c_BadName) [] (fun _ _ _ => False) (tCons (tVar 0) tNil)) (gName 7)) (tRet (tAndV (tCall (spTold T.c_Rule) [] E0 (tCons (tVar 7) (tCons (tVar 1) (tCons (tVar 2) tNil)))) (tOp rEq (tCall (spLeast T.c_Rule) [] E0 (tCons (tVar 7) tNil)) (tC (V.int 1))))) { nx := fun _ H' => Q .non H', rt := Q } σ H4 := by
    rintro σ H4 ⟨⟨v3, v4, v5, v6, v7, rfl⟩, s4, h4, k4, z1, z2, e1, e2, f1, f2⟩
    rw [show E12.take 12 = E12 from rfl] at f1 f2
    rw [lr_kn nm hm] at f1
    rw [lo_kn nm hm] at f2
    obtain ⟨l1, l2⟩ := kn_len nm hm
    refine ⟨_, rfl, _, rfl, .inl ⟨nm, rfl, hm⟩, fun s' es hs' H5 p s5 n5 r5 => ?_, fun ho => ?_⟩
    · cases es
      have hl := least_kn nm hm
      refine ⟨_, rfl, _, rfl, _, rfl, p, o1, o2, z1, z2, _, _, rfl, r5, s5 _ _ e1, s5 _ _ e2, AllK.same s5 f1, AllK.same s5 f2, l1, l2, fun H6 s6 => ⟨_, rfl, iteT ?_⟩⟩
      refine ⟨_, rfl, p, _, _, rfl, r5.same s6, l2, fun H7 s7 => ?_⟩
      rw [hl]
      refine ⟨rfl, ?_⟩
      show Q (.bl (decide (V.int 1 = V.int 1))) H7
      rw [decide_eq_true rfl]
      exact q _ (((s4.trans s5).trans s6).trans s7)
    · rcases ho with ⟨s', es, hn⟩ | ⟨t, ht, hn⟩
      · cases es
        exact absurd hm hn
      · exact absurd ht hn
  refine for_it (walk_list (K := K) (a := a) (xs := xs)) Pv ⟨⟨_, _, _, _, _, rfl⟩, s13, h3, k3, [], [], g1, g2, .nil, .nil⟩ (fun i σ H4 _ ⟨_, _, h, _⟩ => SqL.of h) (fun i u σ H4 H5 hi ⟨⟨v3, v4, v5, v6, v7, e⟩, s4, h4, k4, z1, z2, e1, e2, f1, f2⟩ yl => ?_) (fun σ H4 p => ?_)
  · obtain ⟨rfl, hu'⟩ := yl
    subst e
    obtain ⟨k, hk, ik⟩ := paired_ix k4 hu'
    have ik0 := ik
    obtain ⟨t, rfl, ht⟩ := ik
    have hkr := E12_ok k (List.mem_of_getElem? hk)
    refine ⟨_, rfl, t, _, rfl, SqT.of ht, rfl, _, _, rfl, _, _, rfl, _, _, rfl, rfl, ?_⟩
    have len1 := AllK.len f1
    have len2 := AllK.len f2
    have lf : ∀ f : Kd → Bool, ((E12.take i).filter f).length ≤ 12 := fun f => Nat.le_trans (List.length_filter_le _ _) (by rw [List.length_take]; exact Nat.min_le_right _ _)
    have l1 := lf (lrF nm)
    have l2 := lf (loF nm)
    -- the state behind the first if
    dsimp only
    refine seqW (fun σ' H6 => (∃ w7, σ' = [some (.str nm), some (.ref o1), some (.ref o2), some (.ref t), some (.bl k.1), some (.bl k.2.1), some (.int k.2.2), w7]) ∧ Same H H6 ∧ H6 a = some (.lst xs) ∧ AllK H6 xs E12 ∧ H6 t = some (.tup (kdVs k)) ∧
      ∃ z1' z2, H6 o1 = some (.lst z1') ∧ H6 o2 = some (.lst z2) ∧ AllK H6 z1' ((E12.take (i + 1)).filter (lrF nm)) ∧ AllK H6 z2 ((E12.take i).filter (loF nm)) ∧ z2.length ≤ 12) (fun N hN => ?_) ?_
    · have yes : lrF nm k = true → tDrop (tBM K "list" rAppend (tVar 1) (tCons (tVar 3) tNil)) { nx := N, rt := Q } [some (.str nm), some (.ref o1), some (.ref o2), some (.ref t), some (.bl k.1), some (.bl k.2.1), some (.int k.2.2), v7] H5 := fun hf => by
        refine ⟨_, rfl, .inl ⟨rfl, _, SqL.of e1⟩, _, rfl, o1, _, _, rfl, rfl, e1, by rw [sizeLine_eq]; omega, ?_⟩
        refine hN _ _ ⟨⟨_, rfl⟩, same_of_new s4 ho1, by rw [upd_ne na1]; exact h4, AllK.put e1 k4, by rw [upd_ne (ne_of ht e1 (by intro z; cases z))]; exact ht, z1 ++ [.ref t], z2, upd_same, by rw [upd_ne n12.symm]; exact e2, ?_, AllK.put e1 f2, by omega⟩
        rw [filter_step hk, if_pos hf]
        exact paired_app (AllK.put e1 f1) (.cons (IsK.put e1 ik0) .nil)
      have no : lrF nm k = false → N [some (.str nm), some (.ref o1), some (.ref o2), some (.ref t), some (.bl k.1), some (.bl k.2.1), some (.int k.2.2), v7] H5 := fun hf => by
        refine hN _ _ ⟨⟨_, rfl⟩, s4, h4, k4, ht, z1, z2, e1, e2, ?_, f2, by omega⟩
        rw [filter_step hk, hf]
        simpa using f1
      refine ⟨_, rfl, rfl, _, rfl, ?_⟩
      rw [dec_str]
      refine ite2 (fun h => ?_) (fun h => ?_)
      · exact iteT (yes (by unfold lrF; rw [h]; rfl))
      · have h' : decide (nm = "free") = false := by simpa using h
        refine ⟨_, rfl, _, rfl, ?_⟩
        cases hk1 : k.2.1 with
        | false => exact iteT (by rw [hk1] at yes; exact yes (by unfold lrF; rw [hk1]; simp))
        | true => exact iteF (by rw [hk1] at no; exact no (by unfold lrF; rw [h', hk1]; rfl))
    · rintro σ' H6 ⟨⟨w7, rfl⟩, s6, h6, k6, ht6, z1', z2', e1', e2', f1', f2', lz2⟩
      have ik6 : IsK H6 (.ref t) k := ⟨t, rfl, ht6⟩
      have ht6' := ht6
      have yes : loF nm k = true → ∀ H7, Same H6 H7 → tDrop (tBM K "list" rAppend (tVar 2) (tCons (tVar 3) tNil)) { nx := Pv (i + 1), rt := Q } [some (.str nm), some (.ref o1), some (.ref o2), some (.ref t), some (.bl k.1), some (.bl k.2.1), some (.int k.2.2), w7] H7 := fun hf H7 s7 => by
        have e2'' := s7 _ _ e2'
        refine ⟨_, rfl, .inl ⟨rfl, _, SqL.of e2''⟩, _, rfl, o2, _, _, rfl, rfl, e2'', by rw [sizeLine_eq]; omega, ?_⟩
        refine ⟨⟨_, _, _, _, _, rfl⟩, same_of_new (s6.trans s7) ho2', by rw [upd_ne na2]; exact s7 _ _ h6, AllK.put e2'' (AllK.same s7 k6), z1', z2' ++ [.ref t], by rw [upd_ne n12]; exact s7 _ _ e1', upd_same, AllK.put e2'' (AllK.same s7 f1'), ?_⟩
        rw [filter_step hk, if_pos hf]
        exact paired_app (AllK.put e2'' (AllK.same s7 f2')) (.cons (IsK.put e2'' (IsK.same s7 ik6)) .nil)
      have no : loF nm k = false → ∀ H7, Same H6 H7 → Pv (i + 1) [some (.str nm), some (.ref o1), some (.ref o2), some (.ref t), some (.bl k.1), some (.bl k.2.1), some (.int k.2.2), w7] H7 := fun hf H7 s7 => by
        refine ⟨⟨_, _, _, _, _, rfl⟩, s6.trans s7, s7 _ _ h6, AllK.same s7 k6, z1', z2', s7 _ _ e1', s7 _ _ e2', AllK.same s7 f1', ?_⟩
        rw [filter_step hk, hf]
        have := AllK.same s7 f2'
        simpa using this
      refine ⟨_, rfl, by show 2 ≤ sizeLine; decide, fun p hp => ⟨p, ([("free" : Str), "bare"]).map V.str, rfl, .inr (SqT.of upd_same), rfl, rfl, _, rfl, ?_⟩⟩
      rw [str_in]
      have sp := same_upd (o := .tup [V.str "free", V.str "bare"]) hp
      generalize upd H6 p (.tup [V.str "free", V.str "bare"]) = H7 at sp
      refine ite2 (fun h => ?_) (fun h => ?_)
      · have hfb : nm = "free" ∨ nm = "bare" := by simpa using h
        refine ⟨_, rfl, rfl, _, rfl, ?_⟩
        rw [dec_str]
        refine ite2 (fun h => ?_) (fun h => ?_)
        · exact iteT (yes (by unfold loF lrF; rw [if_pos hfb, h]; rfl) H7 sp)
        · have h' : decide (nm = "free") = false := by simpa using h
          refine ⟨_, rfl, _, rfl, ?_⟩
          cases hk1 : k.2.1 with
          | false => exact iteT (by rw [hk1] at yes; exact yes (by unfold loF lrF; rw [if_pos hfb, hk1]; simp) H7 sp)
          | true => exact iteF (by rw [hk1] at no; exact no (by unfold loF lrF; rw [if_pos hfb, h', hk1]; rfl) H7 sp)
      · have hfb : ¬ (nm = "free" ∨ nm = "bare") := by simpa using h
        have core : (k.1 = true ∨ 0 < k.2.2) → tIfS (tTest (tOp rEq (tVar 5) (tAndV (tOp rEq (tVar 0) (tC (V.str "joined"))) (tAndV (tOp rEq (tVar 6) (tC (V.int 1))) (tNotV (tVar 4)))))) (tDrop (tBM K "list" rAppend (tVar 2) (tCons (tVar 3) tNil))) tNext { nx := Pv (i + 1), rt := Q } [some (.str nm), some (.ref o1), some (.ref o2), some (.ref t), some (.bl k.1), some (.bl k.2.1), some (.int k.2.2), w7] H7 := fun hc => by
          have el : loF nm k = decide (k.2.1 = (decide (nm = "joined") && (decide (k.2.2 = 1) && !k.1))) := by unfold loF; rw [if_neg hfb, if_pos hc]
          have done : ∀ c : Bool, c = (decide (nm = "joined") && (decide (k.2.2 = 1) && !k.1)) → rEq (.bl k.2.1) (.bl c) H7 (fun v H => ∃ b, v = .bl b ∧ (if b = true then tDrop (tBM K "list" rAppend (tVar 2) (tCons (tVar 3) tNil)) { nx := Pv (i + 1), rt := Q } [some (.str nm), some (.ref o1), some (.ref o2), some (.ref t), some (.bl k.1), some (.bl k.2.1), some (.int k.2.2), w7] H else Pv (i + 1) [some (.str nm), some (.ref o1), some (.ref o2), some (.ref t), some (.bl k.1), some (.bl k.2.1), some (.int k.2.2), w7] H)) := fun c e => by
            refine ⟨rfl, _, rfl, ?_⟩
            have e2 : decide (V.bl k.2.1 = V.bl c) = loF nm k := by
              rw [el, ← e, decide_eq_decide]
              exact ⟨fun h => V.bl.inj h, fun h => by rw [h]⟩
            show (if decide (V.bl k.2.1 = V.bl c) = true then _ else _)
            rw [e2]
            refine ite2 (fun h => yes h H7 sp) (fun h => no (by simpa using h) H7 sp)
          refine ⟨_, rfl, _, rfl, rfl, _, rfl, ?_⟩
          rw [dec_str]
          refine ite2 (fun h => ?_) (fun h => ?_)
          · refine ⟨_, rfl, rfl, _, rfl, ?_⟩
            have e3 : decide (V.int k.2.2 = V.int 1) = decide (k.2.2 = 1) := decide_eq_decide.mpr ⟨fun h => V.int.inj h, fun h => by rw [h]⟩
            rw [e3]
            refine ite2 (fun h' => ?_) (fun h' => ?_)
            · refine ⟨_, rfl, _, rfl, done _ ?_⟩
              rw [h, h']
              rfl
            · refine done _ ?_
              rw [show decide (k.2.2 = 1) = false by simpa using h']
              simp
          · refine done _ ?_
            rw [show decide (nm = "joined") = false by simpa using h]
            rfl
        refine ⟨_, rfl, _, rfl, ?_⟩
        cases hk1 : k.1 with
        | true =>
          rw [hk1] at core
          exact iteT (iteT (core (.inl rfl)))
        | false =>
          refine iteF ?_
          refine ⟨_, rfl, _, _, rfl, rfl, _, rfl, ?_⟩
          rw [hk1] at core no
          refine ite2 (fun h => core (.inr (of_decide_eq_true h))) (fun h => ?_)
          refine no ?_ H7 sp
          have hz : ¬ 0 < k.2.2 := fun z => h (decide_eq_true z)
          unfold loF
          rw [if_neg hfb, if_neg (by rw [hk1]; simp [hz])]
  · rw [xl] at p
    exact fin σ H4 p
end
end Toy
set_option Elab.async false
set_option linter.all false
set_option maxRecDepth 100000
set_option maxHeartbeats 4000000
namespace Toy
open PySem L2 Sh ShL LamX NdefX
/-! ### things that are no kinds, made one by one -/
def NoE (te : TE) (σ : L2.St) : Prop := ∀ (H : Hp) (R : VK), (∀ x H1, Same H H1 → NoK H1 x → R x H1) → te σ H R
def NoA (ts : TA) (σ : L2.St) (n : Nat) : Prop := ∀ (H : Hp) (R : List V → Hp → Prop), (∀ xs H2, Same H H2 → xs.length = n → (∀ x ∈ xs, NoK H2 x) → R xs H2) → ts σ H R
def CnA (ts : TA) (σ : L2.St) (vs : List V) : Prop := ∀ (H : Hp) (R : List V → Hp → Prop), R vs H → ts σ H R
theorem noA_nil {σ : L2.St} : NoA tNil σ 0 := fun H R k => k [] H (fun _ _ h => h) rfl (fun x hx => by cases hx)
theorem noA_cons {te : TE} {ts : TA} {σ : L2.St} {n : Nat} (h : NoE te σ) (hs : NoA ts σ n) : NoA (tCons te ts) σ (n + 1) := fun H R k =>
  h H _ fun x H1 s1 n1 => hs H1 _ fun xs H2 s2 l2 n2 => k (x :: xs) H2 (s1.trans s2) (by rw [List.length_cons, l2]) fun y hy => by
    rcases List.mem_cons.mp hy with rfl | hy
    · exact NoK.kp (kpS_same s2) n1
    · exact n2 y hy
theorem cn_nil {σ : L2.St} : CnA tNil σ [] := fun H R k => k
theorem cn_cons {v : V} {ts : TA} {σ : L2.St} {vs : List V} (h : CnA ts σ vs) : CnA (tCons (tC v) ts) σ (v :: vs) := fun H R k => h H _ k
theorem cn_neg {i : Int} {ts : TA} {σ : L2.St} {vs : List V} (h : CnA ts σ vs) : CnA (tCons (tUn (rU fun i => V.int (-i)) (tC (.int i))) ts) σ (.int (-i) :: vs) := fun H R k => ⟨i, rfl, h H _ k⟩
theorem noE_c {v : V} {σ : L2.St} (h : ∀ H, ∃ t, TyN H v t ∧ t ≠ "list" ∧ t ≠ "tuple") : NoE (tC v) σ := fun H R k => k v H (fun _ _ h => h) (.inl (h H))
theorem noE_tup {ts : TA} {σ : L2.St} {vs : List V} (h : CnA ts σ vs) (hl : vs.length ≤ 10) (hb : ∀ H, vs.length ≠ 3 ∨ ∃ x y z, vs = [x, y, z] ∧ Bad3 H x y z) : NoE (tTup ts) σ := fun H R k =>
  h H _ ⟨by rw [sizeLine_eq]; omega, fun p hp => k _ _ (same_upd hp) (.inr ⟨p, vs, rfl, .inr upd_same, hb _⟩)⟩
theorem noE_lst {ts : TA} {σ : L2.St} {vs : List V} (h : CnA ts σ vs) (hl : vs.length ≤ 10) (hb : ∀ H, vs.length ≠ 3 ∨ ∃ x y z, vs = [x, y, z] ∧ Bad3 H x y z) : NoE (tLst ts) σ := fun H R k =>
  h H _ ⟨by rw [sizeLine_eq]; omega, fun p hp => k _ _ (same_upd hp) (.inr ⟨p, vs, rfl, .inl upd_same, hb _⟩)⟩
/-- a list of such -/
theorem noLst {ts : TA} {σ : L2.St} {n : Nat} {H : Hp} {Q : VK} (h : NoA ts σ n) (hn : n ≤ 100) (k : ∀ H' p xs, Same H H' → H' p = some (.lst xs) → xs.length = n → (∀ x ∈ xs, NoK H' x) → Q (.ref p) H') : tLst ts σ H Q :=
  h H _ fun xs H2 s2 l2 n2 => ⟨by rw [l2, sizeLine_eq]; omega, fun p hp => k _ p xs (s2.trans (same_upd hp)) upd_same l2 fun x hx => NoK.kp (kpS_same (same_upd hp)) (n2 x hx)⟩
/-- .. appended -/
theorem noCat {ts : TA} {σ : L2.St} {n m i : Nat} {H : Hp} {Q : VK} {a : Addr} {ys : List V} (e : σ[i]? = some (some (.ref a))) (ha : H a = some (.lst ys)) (hy : ∀ y ∈ ys, NoK H y) (hm : ys.length = m) (h : NoA ts σ n) (hn : m + n ≤ 100)
    (k : ∀ H' p xs, Same H H' → H' p = some (.lst xs) → xs.length = m + n → (∀ x ∈ xs, NoK H' x) → Q (.ref p) H') : tOp rCat (tVar i) (tLst ts) σ H Q :=
  ⟨_, e, noLst h (by omega) fun H1 b zs s1 hb hl hz => ⟨a, b, ys, zs, rfl, rfl, s1 _ _ ha, hb, by rw [hm, hl, sizeLine_eq]; omega, fun p hp => k _ p _ (s1.trans (same_upd hp)) upd_same (by rw [List.length_append, hm, hl]) fun x hx => by
    have hS := kpS_same (same_upd (o := .lst (ys ++ zs)) hp)
    rcases List.mem_append.mp hx with hx | hx
    · exact NoK.kp hS (NoK.kp (kpS_same s1) (hy x hx))
    · exact NoK.kp hS (hz x hx)⟩⟩
theorem noE_sub {σ : L2.St} : NoE (tTup (tCons (tC (V.bl true)) (tCons (tC (V.bl false)) (tCons (tLst (tCons (tC (V.int 1)) tNil)) tNil)))) σ := fun H R k => by
  refine ⟨by show 1 ≤ sizeLine; decide, fun l hl => ⟨by show 3 ≤ sizeLine; decide, fun p hp => ?_⟩⟩
  have s1 := same_upd (o := .lst [V.int 1]) hl
  have s2 := same_upd (o := .tup [V.bl true, V.bl false, V.ref l]) hp
  refine k _ _ (s1.trans s2) (.inr ⟨p, _, rfl, .inr upd_same, .inr ⟨_, _, _, rfl, .inr ⟨⟨_, rfl⟩, .inr ⟨⟨_, rfl⟩, .inl ⟨"list", .inl ⟨rfl, _, s2 _ _ upd_same⟩, by decide⟩⟩⟩⟩⟩)
theorem noE_dict {σ : L2.St} : NoE (tDisp [(tC (V.int 0), tC (V.bl true)), (tC (V.int 1), tC (V.bl false)), (tC (V.int 2), tC (V.int 1))]) σ := fun H R k => by
  intro p hp
  refine ⟨upd_same, [(.inl 0, .bl true), (.inl 1, .bl false), (.inl 2, .int 1)], rfl, by decide, ?_⟩
  exact k _ _ (same_of_new (same_upd hp) hp) (.inl ⟨"dict", .inr (.inr ⟨rfl, _, upd_same⟩), by decide, by decide⟩)
def spRefused (T : List (Addr × Str)) (C N : Addr) : Sp := fun vs H Q _ => ∃ (d c a b : Addr) (n : Nat) (xs zs : List V) (ks ls : List Kd), vs = [.ref d, .ref a, .ref b] ∧ Pen H d c n ∧ n ≤ 50000 ∧ H a = some (.lst xs) ∧ H b = some (.lst zs) ∧ Paired (KiE H) xs ks ∧ Paired (KiE H) zs ls ∧
  ks.Nodup ∧ ls.Nodup ∧ (∀ k ∈ ks, 0 ≤ k.2.2 ∧ k.2.2 ≤ 2) ∧ (∀ k ∈ ls, 0 ≤ k.2.2 ∧ k.2.2 ≤ 2) ∧ ks.length ≤ 12 ∧ ls.length ≤ 12 ∧ Tabs T H ∧
  ∀ H' m, m ≤ n + 10 → KpS H H' → Pen H' d c m → Tabs T H' → (∀ b C dx fs, H b = some (.ins C dx fs) → H' b = some (.ins C dx fs)) → Q (.bl true) H'
/-! ### all but the tables and the pen -/
theorem SmK.kpD {T : List (Addr × Str)} {d c : Addr} {n : Nat} {H H1 H2 : Hp} (k : SmK T d H H1) (p : Pen H1 d c n) (s : Kp d H1 H2) : SmK T d H H2 := by
  obtain ⟨kvs, hd⟩ := p.at
  exact ⟨fun b u h nt ne => s _ _ (k.1 b u h nt ne) ne, Tabs.kp k.2 hd s⟩
theorem SmK.get {T : List (Addr × Str)} {d : Addr} {H H1 : Hp} (k : SmK T d H H1) {b : Addr} {u : HO} (h : H b = some u) (ne : b ≠ d) (nt : ∀ ps, u ≠ .tbl ps := by intro ps z; cases z) : H1 b = some u := k.1 b u h nt ne
theorem SmK.kpS {T : List (Addr × Str)} {d c : Addr} {n m : Nat} {H H1 : Hp} (k : SmK T d H H1) (p : Pen H d c n) (p' : Pen H1 d c m) : KpS H H1 := by
  obtain ⟨kvs, hd⟩ := p.at
  obtain ⟨kvs', hd'⟩ := p'.at
  refine ⟨fun b xs h => k.get h (ne_of h hd (by intro z; cases z)), fun b xs h => k.get h (ne_of h hd (by intro z; cases z)), fun b kvs0 h => ?_⟩
  by_cases e : b = d
  · exact ⟨_, by rw [e]; exact hd'⟩
  · exact ⟨_, k.get h e⟩
theorem SmK.pen {T : List (Addr × Str)} {d c : Addr} {n : Nat} {H H1 : Hp} (s : Sm T H H1) (p : Pen H d c n) : Pen H1 d c n := by
  obtain ⟨ns, b, l, h1, h2, h3⟩ := p
  exact ⟨ns, b, l, s.get h1, s.get h2, h3⟩
theorem pen_sm {T : List (Addr × Str)} {d c : Addr} {n : Nat} {H H1 : Hp} (s : Sm T H H1) (p : Pen H d c n) : Pen H1 d c n := SmK.pen s p
/-- xs[:i] + [..] + xs[i:] -/
theorem splice {K : PySem.W.Frag} {σ : L2.St} {H : Hp} {Q : VK} {a : Addr} {xs ws : List V} {j k i : Nat} {ts : TA} (e1 : σ[j]? = some (some (.ref a))) (ha : H a = some (.lst xs)) (e2 : σ[k]? = some (some (.int (i : Nat)))) (hts : CnA ts σ ws) (hw : ws.length ≤ 5) (hx : xs.length ≤ 1000)
    (q : ∀ H' p, Same H H' → H' p = some (.lst (xs.take i ++ ws ++ xs.drop i)) → Q (.ref p) H') : tOp rCat (tOp rCat (tSl (rSlL K) (tVar j) tNoPart (tPart (tVar k))) (tLst ts)) (tSl (rSlL K) (tVar j) (tPart (tVar k)) tNoPart) σ H Q := by
  refine ⟨_, e1, _, e2, _, rfl, a, xs, rfl, SqL.of ha, fun p1 h1 => ?_⟩
  rw [cut_take]
  have s1 := same_upd (o := .lst (xs.take i)) h1
  have g1 : (upd H p1 (.lst (xs.take i))) p1 = some (.lst (xs.take i)) := upd_same
  generalize upd H p1 (.lst (xs.take i)) = H1 at s1 g1
  refine hts H1 _ ⟨by rw [sizeLine_eq]; omega, fun p2 h2 => ?_⟩
  have s2 := same_upd (o := .lst ws) h2
  have g2 : (upd H1 p2 (.lst ws)) p2 = some (.lst ws) := upd_same
  have s12 := s1.trans s2
  have g1 := s2 _ _ g1
  generalize upd H1 p2 (.lst ws) = H2 at s12 g1 g2
  refine ⟨p1, p2, _, _, rfl, rfl, g1, g2, by rw [List.length_take, sizeLine_eq]; omega, fun p3 h3 => ?_⟩
  have s3 := same_upd (o := .lst (xs.take i ++ ws)) h3
  have g3 : (upd H2 p3 (.lst (xs.take i ++ ws))) p3 = some (.lst (xs.take i ++ ws)) := upd_same
  have s13 := s12.trans s3
  generalize upd H2 p3 (.lst (xs.take i ++ ws)) = H3 at s13 g3
  refine ⟨_, e1, _, e2, _, rfl, a, xs, rfl, SqL.of (s13 _ _ ha), fun p4 h4 => ?_⟩
  rw [cut_drop]
  have s4 := same_upd (o := .lst (xs.drop i)) h4
  have g4 : (upd H3 p4 (.lst (xs.drop i))) p4 = some (.lst (xs.drop i)) := upd_same
  have s14 := s13.trans s4
  have g3 := s4 _ _ g3
  generalize upd H3 p4 (.lst (xs.drop i)) = H4 at s14 g3 g4
  refine ⟨p3, p4, _, _, rfl, rfl, g3, g4, by rw [List.length_append, List.length_take, List.length_drop, sizeLine_eq]; omega, fun p5 h5 => ?_⟩
  exact q _ p5 (s14.trans (same_upd h5)) upd_same
theorem cnv_cons {v : V} {i : Nat} {ts : TA} {σ : L2.St} {vs : List V} (e : σ[i]? = some (some v)) (h : CnA ts σ vs) : CnA (tCons (tVar i) ts) σ (v :: vs) := fun H R k => ⟨v, e, h H _ k⟩
theorem allV_splice {H : Hp} {xs ws : List V} {os us : List (Option Kd)} (i : Nat) (h : AllV H xs os) (hw : AllV H ws us) : AllV H (xs.take i ++ ws ++ xs.drop i) (os.take i ++ us ++ os.drop i) := paired_app (paired_app (paired_take i h) hw) (paired_drop i h)
end Toy
set_option Elab.async false
set_option linter.all false
set_option maxRecDepth 100000
set_option maxHeartbeats 4000000
namespace Toy
open PySem L2 Sh ShL LamX NdefX
theorem tyc {H : Hp} {v : V} {t : String} (h : TyN H v t) (n1 : t ≠ "list") (n2 : t ≠ "tuple") : ∃ t, TyN H v t ∧ t ≠ "list" ∧ t ≠ "tuple" := ⟨t, h, n1, n2⟩
theorem bd1 {H : Hp} {x y z : V} {t : String} (h : TyN H x t) (n : t ≠ "bool") : ([x, y, z] : List V).length ≠ 3 ∨ ∃ x' y' z', ([x, y, z] : List V) = [x', y', z'] ∧ Bad3 H x' y' z' := .inr ⟨x, y, z, rfl, .inl ⟨t, h, n⟩⟩
theorem bd2 {H : Hp} {b : Bool} {y z : V} {t : String} (h : TyN H y t) (n : t ≠ "bool") : ([.bl b, y, z] : List V).length ≠ 3 ∨ ∃ x' y' z', ([.bl b, y, z] : List V) = [x', y', z'] ∧ Bad3 H x' y' z' := .inr ⟨_, y, z, rfl, .inr ⟨⟨b, rfl⟩, .inl ⟨t, h, n⟩⟩⟩
theorem bd3 {H : Hp} {b c : Bool} {z : V} {t : String} (h : TyN H z t) (n : t ≠ "int") : ([.bl b, .bl c, z] : List V).length ≠ 3 ∨ ∃ x' y' z', ([.bl b, .bl c, z] : List V) = [x', y', z'] ∧ Bad3 H x' y' z' := .inr ⟨_, _, z, rfl, .inr ⟨⟨b, rfl⟩, .inr ⟨⟨c, rfl⟩, .inl ⟨t, h, n⟩⟩⟩⟩
theorem bd4 {H : Hp} {b c : Bool} {i : Int} (h : i < 0 ∨ 2 < i) : ([.bl b, .bl c, .int i] : List V).length ≠ 3 ∨ ∃ x' y' z', ([.bl b, .bl c, .int i] : List V) = [x', y', z'] ∧ Bad3 H x' y' z' := .inr ⟨_, _, _, rfl, .inr ⟨⟨b, rfl⟩, .inr ⟨⟨c, rfl⟩, .inr ⟨i, rfl, h⟩⟩⟩⟩
theorem kiV {H : Hp} {xs : List V} {ks : List Kd} (h : Paired (KiE H) xs ks) (ok : ∀ k ∈ ks, 0 ≤ k.2.2 ∧ k.2.2 ≤ 2) : AllV H xs (ks.map some) := by
  induction h with
  | nil => exact .nil
  | cons r t ih => exact .cons ⟨r, ok _ List.mem_cons_self⟩ (ih fun k h => ok k (List.mem_cons_of_mem _ h))
theorem wrong_at {ks : List Kd} {r : List (Option Kd)} {i : Nat} (nd : ks.Nodup) (hi : i ≤ ks.length) : Wrong ((ks.map some).take i ++ none :: r) i := by
  have hl : ((ks.map some).take i).length = i := by rw [List.length_take, List.length_map]; omega
  refine ⟨none, ks.take i, ?_, ?_, .inl rfl⟩
  · rw [List.getElem?_append_right (by omega), hl, Nat.sub_self]
    rfl
  · rw [List.take_append_of_le_length (by omega), List.take_of_length_le (by omega), ← List.map_take]
    exact fine_map (nd.sublist (List.take_sublist _ _))
theorem wrong_again {ks : List Kd} {r : List (Option Kd)} {i j : Nat} {k : Kd} (nd : ks.Nodup) (hj : ks[j]? = some k) (hji : j < i) (hi : i ≤ ks.length) : Wrong ((ks.map some).take i ++ some k :: r) i := by
  have hl : ((ks.map some).take i).length = i := by rw [List.length_take, List.length_map]; omega
  refine ⟨some k, ks.take i, ?_, ?_, .inr ⟨k, ?_, rfl⟩⟩
  · rw [List.getElem?_append_right (by omega), hl, Nat.sub_self]
    rfl
  · rw [List.take_append_of_le_length (by omega), List.take_of_length_le (by omega), ← List.map_take]
    exact fine_map (nd.sublist (List.take_sublist _ _))
  · exact List.mem_of_getElem? (i := j) (by rw [List.getElem?_take_of_lt hji]; exact hj)
theorem ifI {r : R2} {te1 te2 : TE} {a b u : TS} {D : Ends} {σ : L2.St} {H : Hp} (h : te1 σ H fun x H1 => te2 σ H1 fun y H2 => r x y H2 fun v H3 => ∃ k, v = .bl k ∧ (if k = true then a { D with nx := u D } σ H3 else b { D with nx := u D } σ H3)) : tSeq (tIfS (tTest (tOp r te1 te2)) a b) u D σ H := h
def kdL (k : Kd) : PyData := .list [.bool k.1, .bool k.2.1, .int k.2.2]
theorem KiE.dp {K : PySem.W.Frag} {H : Hp} {v : V} {k : Kd} (h : KiE H v k) : ∃ d, Dp K H v d ∧ (d = kdL k ∨ d = kdD k) := by
  obtain ⟨t, rfl, h⟩ := h
  rcases h with h | h
  · exact ⟨_, .lst (SqL.of h) (.cons (.bl _) (.cons (.bl _) (.cons (.int _) .nil))), .inl rfl⟩
  · exact ⟨_, .tup (SqT.of h) (.cons (.bl _) (.cons (.bl _) (.cons (.int _) .nil))), .inr rfl⟩
theorem kiE_dps {K : PySem.W.Frag} {H : Hp} : ∀ {xs : List V} {ks : List Kd}, Paired (KiE H) xs ks → ∃ ds, DpAll K H xs ds ∧ PyData.canLayAll0 ds = true ∧ PyData.depthAll ds ≤ 2 ∧ ds.length = xs.length
  | _, _, .nil => ⟨[], .nil, rfl, by simp [PyData.depthAll], rfl⟩
  | _, k :: _, .cons r t => by
    obtain ⟨ds, h1, h2, h3, h4⟩ := kiE_dps (K := K) t
    obtain ⟨d, e1, e2⟩ := r.dp (K := K)
    have e3 : d.canLay0 = true ∧ d.depth ≤ 2 := by
      rcases e2 with rfl | rfl
      · simp [kdL, PyData.canLay0, PyData.canLayAll0, PyData.depth, PyData.depthAll]
      · simp [kdD, PyData.canLay0, PyData.canLayAll0, PyData.depth, PyData.depthAll]
    refine ⟨d :: ds, .cons e1 h1, by simp [PyData.canLayAll0, e3.1, h2], ?_, by simp [h4]⟩
    simp only [PyData.depthAll]
    omega
theorem list_nil (ds : List PyData) : PyData.eqv (.list ds) (.list []) = decide (ds.length = 0) := by
  cases ds <;> simp [PyData.eqv, PyData.eqvAll]
/-- _law_caught(lambda: Rule(..)) where the lists are wrong -/
theorem caught_rule {T : List (Addr × Str)} {C CK CN CP : Addr} {targs : TA} {σ : L2.St} {H : Hp} {Q : VK} {side : Str} {i : Nat} (tb : Tabs T H)
    (hargs : ∀ H1 R, Sm T H H1 → (∀ H2 a b xs zs os us, Same H1 H2 → SqA H2 a xs → SqA H2 b zs → AllV H2 xs os → AllV H2 zs us → os.length ≤ 40 → us.length ≤ 40 → ((side = "root" ∧ Wrong os i) ∨ (side = "others" ∧ (∃ ks, Fine os ks) ∧ Wrong us i)) → R [.ref a, .ref b] H2) → targs σ H1 R)
    (q : ∀ H' p, Sm T H H' → H' p = some (.tup [.str "kind", .str side, .int (i : Nat)]) → Q (.ref p) H') : tLam T (TTc CK CN CP) (fun E => tMake C (spInitR C CK) [] E targs) σ H Q := by
  refine ⟨tb, fun H1 ex tb1 E R hE _ _ hR => ?_⟩
  have sm1 : Sm T H H1 := ⟨ex, tb1⟩
  have wu : ∀ {os : List (Option Kd)} {ks : List Kd} {j : Nat}, Fine os ks → Wrong os j → False := fun f w => by
    rw [f.1] at w
    exact wrong_no f.2 w
  have wq : ∀ {os : List (Option Kd)} {j j' : Nat}, Wrong os j → Wrong os j' → j = j' := fun {os j j'} w w' => by
    have key : ∀ {j j' : Nat}, Wrong os j → Wrong os j' → ¬ j < j' := fun {j j'} ⟨o, ks, h1, f1, h2⟩ ⟨o', ks', h1', f1', h2'⟩ hlt => by
      have h3 : (os.take j')[j]? = some o := by rw [List.getElem?_take_of_lt hlt]; exact h1
      have e1 : (os.take j').take j = os.take j := by rw [List.take_take, Nat.min_eq_left (Nat.le_of_lt hlt)]
      exact wu f1' ⟨o, ks, h3, by rw [e1]; exact f1, h2⟩
    have a1 := key w w'
    have a2 := key w' w
    omega
  refine hargs H1 _ sm1 fun H2 a b xs zs os us s2 ha hb va vb l1 l2 hw => ?_
  have fin : ∀ j H' d, Same H2 H' → H' d = some (kErr side j d) → j = i → E (.ref CK) (some d) H' := fun j H' d s e ej => by
    subst ej
    exact hE d (.str side) (.int (j : Nat)) H' e fun p hp => q _ p (((sm1.ext s2).ext s).new hp) upd_same
  refine mk_ruleG ha hb va vb l1 l2 (fun ks ls fk fl H' p j1 j2 s n r _ _ _ _ => ?_) (fun j w H' d s n e => ?_) (fun ks j fk w H' d s n e => ?_)
  · rcases hw with ⟨_, w⟩ | ⟨_, _, w⟩
    · exact (wu fk w).elim
    · exact (wu fl w).elim
  · rcases hw with ⟨e1, w'⟩ | ⟨_, ⟨ks, fk⟩, _⟩
    · subst e1
      exact fin j H' d s e (wq w w')
    · exact (wu fk w).elim
  · rcases hw with ⟨_, w'⟩ | ⟨e1, _, w'⟩
    · exact (wu fk w').elim
    · subst e1
      exact fin j H' d s e (wq w w')
theorem same_tup {K : PySem.W.Frag} {b : Bool} {H : Hp} {p : Addr} {σ : L2.St} {k i : Nat} {side : Str} {R : VK} (h : H p = some (.tup [.str "kind", .str side, .int (i : Nat)])) (e : σ[k]? = some (some (.int (i : Nat)))) (q : ∀ H', Same H H' → R (.bl b) H') :
    tTup (tCons (tC (.str "kind")) (tCons (tC (.str side)) (tCons (tVar k) tNil))) σ H fun y H1 => rSameT K b (.ref p) y H1 R := by
  refine ⟨_, e, by show 3 ≤ sizeLine; decide, fun p2 hp2 => ?_⟩
  have s2 := same_upd (o := .tup [V.str "kind", .str side, .int (i : Nat)]) hp2
  exact ⟨p, p2, _, rfl, rfl, SqT.of (s2 _ _ h), SqT.of upd_same, rfl, q _ s2⟩
section
variable {P : Program} {w : World} {K : PySem.W.Frag} {mg : Str → Option Value} {base : Heap}
theorem ok_l_refused_right (T : Tx P K mg) (B : Bx T base) : FnOk P w K mg base CX0 10 T.a_l_refused_right T.fd_l_refused_right ["_law_pen_here", "_law_root", "_law_others"] (spRefused (tabs T) T.c_Rule T.c_BadKind) := by
  refine okT T.F_l_refused_right sc_l_refused_right (fun vs H Q E h => ?_) (fun cdv A outer s H vs Q E hcd hr h => ?_)
  · obtain ⟨d, c, a, b, n, xs, zs, ks, ls, rfl, _⟩ := h
    rfl
  have hcd : cdv = .ref T.kc_l_refused_right := hcd.symm.trans T.ec_l_refused_right
  have hu := hu_of hr
  have hu65 := hu65_of hr
  obtain ⟨oc_n, od_n, kV_n, doc_n, pm_n, an_n, cdv_n, ct_n, osl_n, fd_n, lk_n, cg_l_caught⟩ := T.F_l_caught.ex
  have bi_n := T.bi_l_caught
  rw [fd_n] at lk_n bi_n
  have lk_l_caught := lk_n
  have bi_l_caught := bi_n
  obtain ⟨d, c, a, b, n, xs, zs, ks, ls, rfl, hp, hn, ha, hb, kx, kz, ndk, ndl, okk, okl, l1, l2, tb, q⟩ := h
  have hxl : xs.length = ks.length := kx.length
  have hzl : zs.length = ls.length := kz.length
  refine ⟨_, (pss_cons (ps_set (i := 3) sc_l_refused_right.nd rfl (by first | exact Or.inl rfl | exact Or.inr rfl) (pe_lst (pa_cons (pe_tup (pa_cons pe_bl (pa_cons pe_bl (pa_cons pe_int pa_nil)))) (pa_cons (pe_tup (pa_cons pe_bl (pa_cons pe_bl (pa_cons (pe_un un_neg pe_int) pa_nil)))) (pa_cons (pe_tup (pa_cons pe_bl (pa_cons pe_bl (pa_cons pe_bl pa_nil)))) (pa_cons (pe_tup (pa_cons pe_int (pa_cons pe_bl (pa_cons pe_int pa_nil)))) (pa_cons (pe_tup (pa_cons pe_bl (pa_cons pe_int (pa_cons pe_int pa_nil)))) (pa_cons (pe_tup (pa_cons pe_non (pa_cons pe_bl (pa_cons pe_int pa_nil)))) pa_nil))))))))
 (pss_cons (ps_set (i := 3) sc_l_refused_right.nd rfl (by first | exact Or.inl rfl | exact Or.inr rfl) (pe_op op_cat (pv 3) (pe_lst (pa_cons (pe_tup (pa_cons pe_bl (pa_cons pe_bl pa_nil))) (pa_cons (pe_tup (pa_cons pe_bl (pa_cons pe_bl (pa_cons pe_int (pa_cons pe_int pa_nil))))) (pa_cons (pe_tup pa_nil) (pa_cons pe_non (pa_cons pe_int (pa_cons pe_str (pa_cons (pe_tup (pa_cons pe_bl (pa_cons pe_bl (pa_cons pe_str pa_nil)))) (pa_cons (pe_disp (pps_cons pe_int pe_bl (pps_cons pe_int pe_bl (pps_cons pe_int pe_int pps_nil))) (by rfl) (by rfl) (fun z => by cases z) (by decide)) pa_nil)))))))))))
 (pss_cons (ps_set (i := 3) sc_l_refused_right.nd rfl (by first | exact Or.inl rfl | exact Or.inr rfl) (pe_op op_cat (pv 3) (pe_lst (pa_cons (pe_lst (pa_cons pe_bl (pa_cons pe_bl (pa_cons pe_non pa_nil)))) (pa_cons (pe_tup (pa_cons pe_bl (pa_cons pe_bl (pa_cons (pe_lst (pa_cons pe_int pa_nil)) pa_nil)))) (pa_cons (pe_tup (pa_cons pe_str (pa_cons pe_bl (pa_cons pe_int pa_nil)))) (pa_cons (pe_tup (pa_cons pe_bl (pa_cons pe_non (pa_cons pe_int pa_nil)))) (pa_cons pe_bl pa_nil))))))))
 (pss_cons (ps_asg (pe_tup (pa_cons (pe_call (ok_l_pick T B) (hr.mono (by decide)) (by rfl) T.m_l_pick T.F_l_pick.kp T.bi_l_pick .nil pass0 (pa_cons (pv 0) (pa_cons (pv 3) pa_nil))) (pa_cons (pe_call (ok_l_pick T B) (hr.mono (by decide)) (by rfl) T.m_l_pick T.F_l_pick.kp T.bi_l_pick .nil pass0 (pa_cons (pv 0) (pa_cons (pv 3) pa_nil))) pa_nil))) (pg_tup rfl (pgs_cons (pg_name (i := 4) sc_l_refused_right.nd rfl (by first | exact Or.inl rfl | exact Or.inr rfl)) (pgs_cons (pg_name (i := 5) sc_l_refused_right.nd rfl (by first | exact Or.inl rfl | exact Or.inr rfl)) pgs_nil))))
 (pss_cons (ps_set (i := 6) sc_l_refused_right.nd rfl (by first | exact Or.inl rfl | exact Or.inr rfl) (pe_call (ok_l_draw T B) (hr.mono (by decide)) (by rfl) T.m_l_draw T.F_l_draw.kp T.bi_l_draw .nil pass0 (pa_cons (pv 0) (pa_cons (pe_op op_add (pe_callB call_len_seq (by rfl) T.b_len (by decide +kernel) (pa_cons (pv 1) pa_nil)) pe_int) pa_nil))))
 (pss_cons (ps_if (pt_cmpR (op_neSameT (Nat.lt_of_le_of_lt (Nat.le_add_right _ 65) hu65)) (pe_lamcall (T := tabs T) (k := 6) (Ng := N_l_caught) (by rfl) T.m_l_caught T.F_l_caught.kp lk_l_caught cg_l_caught bi_l_caught sc_l_caught rfl (by first | exact Or.inl rfl | exact Or.inr (Or.inl rfl) | exact Or.inr (Or.inr rfl)) (gives_l_caught T _ rfl rfl _ _) B.tb_l_refused_right hcd (mem_l_refused_right T) (uniq_l_refused_right T) (hr.mono (by decide)) (lamS_by (sc := defScope s_l_refused_right) (by decide +kernel)) rfl (fun _ _ _ _ _ => rfl) (fun A outer s H E f c' hr2 => (pe_make T.mk_Rule (ok_Rule_init T B) (hr2.mono (by decide)) (by rfl) T.m_Rule T.bi_Rule_init .nil (passes_call (takes_of rfl rfl rfl rfl) (fun _ _ _ _ h => h)) (pa_cons (pe_op op_cat (pe_op op_cat (pe_slice (by exact sl_list : SlR _ (rSlL K)) (pv 1) po_none (po_some (pv 6))) (pe_lst (pa_cons (pv 4) pa_nil))) (pe_slice (by exact sl_list : SlR _ (rSlL K)) (pv 1) (po_some (pv 6)) po_none)) (pa_cons (pe_op op_cat (pv 2) (pe_lst (pa_cons (pv 5) pa_nil))) pa_nil))))) (pe_tup (pa_cons pe_str (pa_cons pe_str (pa_cons (pv 6) pa_nil)))) (nomark _))
 (pss_one (ps_ret pe_bl))
 pss_nil)
 (pss_cons (ps_set (i := 6) sc_l_refused_right.nd rfl (by first | exact Or.inl rfl | exact Or.inr rfl) (pe_call (ok_l_draw T B) (hr.mono (by decide)) (by rfl) T.m_l_draw T.F_l_draw.kp T.bi_l_draw .nil pass0 (pa_cons (pv 0) (pa_cons (pe_op op_add (pe_callB call_len_seq (by rfl) T.b_len (by decide +kernel) (pa_cons (pv 2) pa_nil)) pe_int) pa_nil))))
 (pss_cons (ps_if (pt_cmpR (op_neSameT (Nat.lt_of_le_of_lt (Nat.le_add_right _ 65) hu65)) (pe_lamcall (T := tabs T) (k := 6) (Ng := N_l_caught) (by rfl) T.m_l_caught T.F_l_caught.kp lk_l_caught cg_l_caught bi_l_caught sc_l_caught rfl (by first | exact Or.inl rfl | exact Or.inr (Or.inl rfl) | exact Or.inr (Or.inr rfl)) (gives_l_caught T _ rfl rfl _ _) B.tb_l_refused_right hcd (mem_l_refused_right T) (uniq_l_refused_right T) (hr.mono (by decide)) (lamS_by (sc := defScope s_l_refused_right) (by decide +kernel)) rfl (fun _ _ _ _ _ => rfl) (fun A outer s H E f c' hr2 => (pe_make T.mk_Rule (ok_Rule_init T B) (hr2.mono (by decide)) (by rfl) T.m_Rule T.bi_Rule_init .nil (passes_call (takes_of rfl rfl rfl rfl) (fun _ _ _ _ h => h)) (pa_cons (pv 1) (pa_cons (pe_op op_cat (pe_op op_cat (pe_slice (by exact sl_list : SlR _ (rSlL K)) (pv 2) po_none (po_some (pv 6))) (pe_lst (pa_cons (pv 4) (pa_cons (pv 5) pa_nil)))) (pe_slice (by exact sl_list : SlR _ (rSlL K)) (pv 2) (po_some (pv 6)) po_none)) pa_nil))))) (pe_tup (pa_cons pe_str (pa_cons pe_str (pa_cons (pv 6) pa_nil)))) (nomark _))
 (pss_one (ps_ret pe_bl))
 pss_nil)
 (pss_cons (ps_if (pt_cmpR (op_eqD hr.units) (pv 1) (pe_lst pa_nil) (nomark _))
 (pss_one (ps_ret pe_bl))
 pss_nil)
 (pss_cons (ps_set (i := 7) sc_l_refused_right.nd rfl (by first | exact Or.inl rfl | exact Or.inr rfl) (pe_call (ok_l_draw T B) (hr.mono (by decide)) (by rfl) T.m_l_draw T.F_l_draw.kp T.bi_l_draw .nil pass0 (pa_cons (pv 0) (pa_cons (pe_callB call_len_seq (by rfl) T.b_len (by decide +kernel) (pa_cons (pv 1) pa_nil)) pa_nil))))
 (pss_cons (ps_set (i := 8) sc_l_refused_right.nd rfl (by first | exact Or.inl rfl | exact Or.inr rfl) (pe_op op_add (pe_op op_add (pv 7) pe_int) (pe_call (ok_l_draw T B) (hr.mono (by decide)) (by rfl) T.m_l_draw T.F_l_draw.kp T.bi_l_draw .nil pass0 (pa_cons (pv 0) (pa_cons (pe_op op_sub (pe_callB call_len_seq (by rfl) T.b_len (by decide +kernel) (pa_cons (pv 1) pa_nil)) (pv 7)) pa_nil)))))
 (pss_cons (ps_set (i := 9) sc_l_refused_right.nd rfl (by first | exact Or.inl rfl | exact Or.inr rfl) (pe_callTy call_list_of (by rfl) T.b_list (by decide +kernel) (pa_cons (pe_ix ix_list (pv 1) (pv 7) (fun _ _ => rfl)) pa_nil)))
 (pss_one (ps_ret (pe_cmpR (op_eqSameT (Nat.lt_of_le_of_lt (Nat.le_add_right _ 65) hu65)) (pe_lamcall (T := tabs T) (k := 6) (Ng := N_l_caught) (by rfl) T.m_l_caught T.F_l_caught.kp lk_l_caught cg_l_caught bi_l_caught sc_l_caught rfl (by first | exact Or.inl rfl | exact Or.inr (Or.inl rfl) | exact Or.inr (Or.inr rfl)) (gives_l_caught T _ rfl rfl _ _) B.tb_l_refused_right hcd (mem_l_refused_right T) (uniq_l_refused_right T) (hr.mono (by decide)) (lamS_by (sc := defScope s_l_refused_right) (by decide +kernel)) rfl (fun _ _ _ _ _ => rfl) (fun A outer s H E f c' hr2 => (pe_make T.mk_Rule (ok_Rule_init T B) (hr2.mono (by decide)) (by rfl) T.m_Rule T.bi_Rule_init .nil (passes_call (takes_of rfl rfl rfl rfl) (fun _ _ _ _ h => h)) (pa_cons (pe_op op_cat (pe_op op_cat (pe_slice (by exact sl_list : SlR _ (rSlL K)) (pv 1) po_none (po_some (pv 8))) (pe_lst (pa_cons (pv 9) pa_nil))) (pe_slice (by exact sl_list : SlR _ (rSlL K)) (pv 1) (po_some (pv 8)) po_none)) (pa_cons (pv 2) pa_nil))))) (pe_tup (pa_cons pe_str (pa_cons pe_str (pa_cons (pv 8) pa_nil)))) (nomark _)))))))))))))))), ?_⟩
  -- the odd things
  refine asgI ?_
  refine noLst (n := 6) (noA_cons (noE_tup (cn_cons (cn_cons (cn_cons cn_nil))) (by decide) fun H => bd4 (by decide)) (noA_cons (noE_tup (cn_cons (cn_cons (cn_neg cn_nil))) (by decide) fun H => bd4 (by decide)) (noA_cons (noE_tup (cn_cons (cn_cons (cn_cons cn_nil))) (by decide) fun H => bd3 (t := "bool") rfl (by decide))
    (noA_cons (noE_tup (cn_cons (cn_cons (cn_cons cn_nil))) (by decide) fun H => bd1 (t := "int") rfl (by decide)) (noA_cons (noE_tup (cn_cons (cn_cons (cn_cons cn_nil))) (by decide) fun H => bd2 (t := "int") rfl (by decide)) (noA_cons (noE_tup (cn_cons (cn_cons (cn_cons cn_nil))) (by decide) fun H => bd1 (t := "NoneType") rfl (by decide)) noA_nil)))))) (by decide) fun H1 o1 y1 s1 g1 m1 n1 => ?_
  refine asgI ?_
  refine noCat (i := 3) rfl g1 n1 m1 (n := 8) (noA_cons (noE_tup (cn_cons (cn_cons cn_nil)) (by decide) fun H => .inl (by decide)) (noA_cons (noE_tup (cn_cons (cn_cons (cn_cons (cn_cons cn_nil)))) (by decide) fun H => .inl (by decide)) (noA_cons (noE_tup cn_nil (by decide) fun H => .inl (by decide)) (noA_cons (noE_c fun H => tyc (t := "NoneType") rfl (by decide) (by decide)) (noA_cons (noE_c fun H => tyc (t := "int") rfl (by decide) (by decide)) (noA_cons (noE_c fun H => tyc (t := "str") rfl (by decide) (by decide))
    (noA_cons (noE_tup (cn_cons (cn_cons (cn_cons cn_nil))) (by decide) fun H => bd3 (t := "str") rfl (by decide)) (noA_cons noE_dict noA_nil)))))))) (by decide) fun H2 o2 y2 s2 g2 m2 n2 => ?_
  refine asgI ?_
  refine noCat (i := 3) rfl g2 n2 m2 (n := 5) (noA_cons (noE_lst (cn_cons (cn_cons (cn_cons cn_nil))) (by decide) fun H => bd3 (t := "NoneType") rfl (by decide)) (noA_cons noE_sub (noA_cons (noE_tup (cn_cons (cn_cons (cn_cons cn_nil))) (by decide) fun H => bd1 (t := "str") rfl (by decide)) (noA_cons (noE_tup (cn_cons (cn_cons (cn_cons cn_nil))) (by decide) fun H => bd2 (t := "NoneType") rfl (by decide))
    (noA_cons (noE_c fun H => tyc (t := "bool") rfl (by decide) (by decide)) noA_nil))))) (by decide) fun H3 o3 y3 s3 g3 m3 n3 => ?_
  have s13 := (s1.trans s2).trans s3
  have p3 := hp.same s13
  obtain ⟨kvs3, hd3⟩ := p3.at
  have no3d : o3 ≠ d := ne_of g3 hd3 (by intro z; cases z)
  obtain ⟨kvs0, hd0⟩ := hp.at
  have nad : a ≠ d := ne_of ha hd0 (by intro z; cases z)
  have nbd : b ≠ d := ne_of hb hd0 (by intro z; cases z)
  have ml : y3.length = 19 := m3
  have km3 : SmK (tabs T) d H H3 := SmK.of (Sm.of tb s13)
  -- two of them
  refine ⟨_, rfl, _, rfl, .inl ⟨d, c, o3, n, y3, rfl, p3, by omega, SqL.of g3, by omega, by omega, no3d, fun H4 v1 hv1 k4 p4 => ?_⟩⟩
  have g4 := k4 _ _ g3 no3d
  refine ⟨_, rfl, _, rfl, .inl ⟨d, c, o3, n + 1, y3, rfl, p4, by omega, SqL.of g4, by omega, by omega, no3d, fun H5 v2 hv2 k5 p5 => ?_⟩⟩
  have km5 := (km3.kpD p3 k4).kpD p4 k5
  have nv1 : NoK H5 v1 := NoK.kp (kpS_pen p4 k5 p5) (NoK.kp (kpS_pen p3 k4 p4) (n3 v1 hv1))
  have nv2 : NoK H5 v2 := NoK.kp (kpS_pen p4 k5 p5) (NoK.kp (kpS_pen p3 k4 p4) (n3 v2 hv2))
  refine ⟨by show 2 ≤ sizeLine; decide, fun tp htp => ?_⟩
  have s6 := same_upd (o := .tup [v1, v2]) htp
  have g6 : (upd H5 tp (.tup [v1, v2])) tp = some (.tup [v1, v2]) := upd_same
  have p6 := p5.same s6
  have km6 := km5.same s6
  have nv1 := NoK.kp (kpS_same s6) nv1
  have nv2 := NoK.kp (kpS_same s6) nv2
  generalize upd H5 tp (.tup [v1, v2]) = H6 at s6 g6 p6 km6 nv1 nv2
  refine ⟨tp, _, rfl, SqT.of g6, rfl, _, _, rfl, _, _, rfl, rfl, ?_⟩
  have ha6 := km6.get ha nad
  -- the spot in the root
  refine ⟨_, rfl, _, rfl, a, _, rfl, .inl (SqL.of ha6), _, _, rfl, rfl, d, c, n + 2, _, rfl, p6, by omega, by omega, by omega, fun H7 r r0 r1 k7 p7 => ?_⟩
  have km7 := km6.kpD p6 k7
  have kS67 := kpS_pen p6 k7 p7
  have nv1 := NoK.kp kS67 nv1
  have nv2 := NoK.kp kS67 nv2
  obtain ⟨i, rfl⟩ : ∃ i : Nat, r = (i : Int) := ⟨r.toNat, by omega⟩
  have kS := SmK.kpS km7 hp p7
  have VX : ∀ {H'}, KpS H H' → AllV H' xs (ks.map some) := fun s => AllV.kp s (kiV kx okk)
  have VZ : ∀ {H'}, KpS H H' → AllV H' zs (ls.map some) := fun s => AllV.kp s (kiV kz okl)
  have hil : i ≤ ks.length := by omega
  have lt1 : (((ks.map some).take i ++ none :: (ks.map some).drop i)).length = ks.length + 1 := by
    rw [List.length_append, List.length_take, List.length_cons, List.length_drop, List.length_map]; omega
  have sm7 := Sm.refl km7.2
  refine ifI (caught_rule (i := i) (side := "root") km7.2 (fun H8 R s8 hR => ?_) (fun H8 pp s8 g8 => ?_))
  · have km8 := km7.sm s8
    have kS8 := kS.trans (kpS_sm s8)
    refine splice (i := i) rfl (km8.get ha nad) rfl (cnv_cons rfl cn_nil) (by show 1 ≤ 5; decide) (by omega) fun H9 q1 s9 g9 => ?_
    have hb9 := s9 _ _ (km8.get hb nbd)
    refine ⟨_, rfl, _, rfl, by show 1 ≤ sizeLine; decide, fun q2 hq2 => ?_⟩
    have s10 := same_upd (o := .lst [v2]) hq2
    have e10 : (upd H9 q2 (.lst [v2])) q2 = some (.lst [v2]) := upd_same
    have ss := s9.trans s10
    have g9 := s10 _ _ g9
    have hb9 := s10 _ _ hb9
    generalize upd H9 q2 (.lst [v2]) = H10 at ss e10 g9 hb9
    refine ⟨b, q2, _, _, rfl, rfl, hb9, e10, by rw [sizeLine_eq]; show _ + 1 ≤ _; omega, fun q3 hq3 => ?_⟩
    have s11 := same_upd (o := .lst (zs ++ [v2])) hq3
    have sA := ss.trans s11
    have kSA := kS8.trans (kpS_same sA)
    have nvA : ∀ {v}, NoK H7 v → NoK (upd H10 q3 (.lst (zs ++ [v2]))) v := fun h => NoK.kp ((kpS_sm s8).trans (kpS_same sA)) h
    refine hR _ q1 q3 _ _ _ _ sA (.inl (s11 _ _ g9)) (.inl upd_same) (allV_splice i (VX kSA) (.cons (show KV _ _ none from nvA nv1) .nil)) (paired_app (VZ kSA) (.cons (show KV _ _ none from nvA nv2) .nil)) ?_ ?_ (.inl ⟨rfl, ?_⟩)
    · rw [List.append_assoc]
      show (((ks.map some).take i ++ none :: (ks.map some).drop i)).length ≤ 40
      omega
    · rw [List.length_append, List.length_map]
      show _ + 1 ≤ 40
      omega
    · rw [List.append_assoc]
      exact wrong_at ndk hil
  refine same_tup g8 rfl fun H9 s9 => ⟨_, rfl, iteF ?_⟩
  have sm79 := s8.ext s9
  have km9 := km7.sm sm79
  have p9 := pen_sm sm79 p7
  have nv1 := NoK.kp (kpS_sm sm79) nv1
  have nv2 := NoK.kp (kpS_sm sm79) nv2
  have hb9 := km9.get hb nbd
  refine nextS ?_
  dsimp only
  -- the spot in the others
  refine ⟨_, rfl, _, rfl, b, _, rfl, .inl (SqL.of hb9), _, _, rfl, rfl, d, c, n + 3, _, rfl, p9, by omega, by omega, by omega, fun H10 r r0 r1 k10 p10 => ?_⟩
  have km10 := km9.kpD p9 k10
  have kSb := kpS_pen p9 k10 p10
  have nv1 := NoK.kp kSb nv1
  have nv2 := NoK.kp kSb nv2
  obtain ⟨j, rfl⟩ : ∃ j : Nat, r = (j : Int) := ⟨r.toNat, by omega⟩
  have kS10 := SmK.kpS km10 hp p10
  have hjl : j ≤ ls.length := by omega
  refine ifI (caught_rule (i := j) (side := "others") km10.2 (fun H11 R s11 hR => ?_) (fun H11 pp s11 g11 => ?_))
  · have km11 := km10.sm s11
    have kS11 := kS10.trans (kpS_sm s11)
    refine ⟨_, rfl, ?_⟩
    refine splice (i := j) rfl (km11.get hb nbd) rfl (cnv_cons rfl (cnv_cons rfl cn_nil)) (by show 2 ≤ 5; decide) (by omega) fun H12 q1 s12 g12 => ?_
    have ha12 := s12 _ _ (km11.get ha nad)
    have kSA := kS11.trans (kpS_same s12)
    have nvA : ∀ {v}, NoK H10 v → NoK H12 v := fun h => NoK.kp ((kpS_sm s11).trans (kpS_same s12)) h
    refine hR _ a q1 _ _ _ _ s12 (.inl ha12) (.inl g12) (VX kSA) (allV_splice j (VZ kSA) (.cons (show KV _ _ none from nvA nv1) (.cons (show KV _ _ none from nvA nv2) .nil))) ?_ ?_ (.inr ⟨rfl, ⟨ks, fine_map ndk⟩, ?_⟩)
    · rw [List.length_map]
      omega
    · rw [List.append_assoc, List.length_append, List.length_take, List.length_append, List.length_drop, List.length_map]
      show _ + (2 + _) ≤ 40
      omega
    · rw [List.append_assoc]
      exact wrong_at ndl hjl
  refine same_tup g11 rfl fun H12 s12 => ⟨_, rfl, iteF ?_⟩
  have sm1012 := s11.ext s12
  have km12 := km10.sm sm1012
  have p12 := pen_sm sm1012 p10
  have ha12 := km12.get ha nad
  refine nextS ?_
  dsimp only
  -- root == []
  have kS12 := SmK.kpS km12 hp p12
  have ins12 : ∀ {H'}, SmK (tabs T) d H H' → ∀ b C dx fs, H b = some (.ins C dx fs) → H' b = some (.ins C dx fs) := fun k b C dx fs h => k.get h (ne_of h hd0 (by intro z; cases z))
  refine ⟨_, rfl, Nat.zero_le _, fun e0 he0 => ?_⟩
  have s13 := same_upd (o := .lst []) he0
  have ha13 := s13 _ _ ha12
  have km13 := km12.same s13
  have p13 := p12.same s13
  have g13 : (upd H12 e0 (.lst [])) e0 = some (.lst []) := upd_same
  generalize upd H12 e0 (.lst []) = H13 at s13 ha13 km13 p13 g13
  have kS13 := SmK.kpS km13 hp p13
  obtain ⟨ds, d1, d2, d3, d4⟩ := kiE_dps (K := K) (paired_mono (fun _ _ q => KiE.kp kS13 q) kx)
  refine ⟨.list ds, .list [], .lst (SqL.of ha13) d1, .lst (SqL.of g13) .nil, shaped_of (by simp only [PyData.canLay0]; exact d2) (by simp only [PyData.depth]; omega), by decide +kernel, _, rfl, ?_⟩
  rw [list_nil, d4]
  refine ite2 (fun h => ?_) (fun h => ?_)
  · exact q _ _ (by omega) kS13 p13 km13.2 (ins12 km13)
  have hx0 : 0 < xs.length := by
    have : ¬ xs.length = 0 := fun z => h (decide_eq_true z)
    omega
  refine nextS ?_
  dsimp only
  refine ⟨_, rfl, _, rfl, a, _, rfl, .inl (SqL.of ha13), d, c, n + 4, _, rfl, p13, by omega, by omega, by omega, fun H14 r r0 r1 k14 p14 => ?_⟩
  have km14 := km13.kpD p13 k14
  have ha14 := km14.get ha nad
  obtain ⟨f1, rfl⟩ : ∃ j : Nat, r = (j : Int) := ⟨r.toNat, by omega⟩
  refine ⟨_, rfl, _, _, rfl, rfl, ?_⟩
  refine ⟨_, rfl, _, rfl, a, _, rfl, .inl (SqL.of ha14), _, rfl, _, _, rfl, rfl, d, c, n + 5, _, rfl, p14, by omega, by omega, by omega, fun H15 r r0 r1 k15 p15 => ?_⟩
  have km15 := km14.kpD p14 k15
  have ha15 := km15.get ha nad
  have kS15 := SmK.kpS km15 hp p15
  obtain ⟨f2, rfl⟩ : ∃ j : Nat, r = (j : Int) := ⟨r.toNat, by omega⟩
  refine ⟨_, _, rfl, rfl, ?_⟩
  have e15 : ((f1 : Int) + 1 + (f2 : Int)) = ((f1 + 1 + f2 : Nat) : Int) := by omega
  dsimp only
  rw [e15]
  generalize hlat : f1 + 1 + f2 = lat
  have hf1 : f1 < ks.length := by omega
  have hlt : f1 < lat := by omega
  have hle : lat ≤ ks.length := by omega
  obtain ⟨k, hk⟩ : ∃ k, ks[f1]? = some k := ⟨_, List.getElem?_eq_getElem hf1⟩
  obtain ⟨v, hv, hkv⟩ := paired_ix' kx hk
  have hkv15 := KiE.kp kS15 hkv
  obtain ⟨t0, rfl, ht0⟩ := hkv15
  refine asgI ?_
  refine ⟨_, rfl, _, rfl, a, xs, _, .ref t0, rfl, rfl, SqL.of ha15, atI_nat hv, ?_⟩
  refine ⟨t0, _, rfl, RwE.sq ht0, fun l hl => ?_⟩
  have s16 := same_upd (o := .lst (kdVs k)) hl
  have g16 : (upd H15 l (.lst (kdVs k))) l = some (.lst (kdVs k)) := upd_same
  have km16 := km15.same s16
  have p16 := p15.same s16
  generalize upd H15 l (.lst (kdVs k)) = H16 at s16 g16 km16 p16
  have kS16 := SmK.kpS km16 hp p16
  have okk0 := okk k (List.mem_of_getElem? hk)
  refine caught_rule (i := lat) (side := "root") km16.2 (fun H17 R s17 hR => ?_) (fun H17 pp s17 g17 => ?_)
  · have km17 := km16.sm s17
    have kS17 := kS16.trans (kpS_sm s17)
    refine splice (i := lat) rfl (km17.get ha nad) rfl (cnv_cons rfl cn_nil) (by show 1 ≤ 5; decide) (by omega) fun H18 q1 s18 g18 => ?_
    have hb18 := s18 _ _ (km17.get hb nbd)
    have kSA := kS17.trans (kpS_same s18)
    refine ⟨_, rfl, ?_⟩
    refine hR _ q1 b _ _ _ _ s18 (.inl g18) (.inl hb18) (allV_splice lat (VX kSA) (.cons (show KV _ _ (some k) from ⟨⟨l, rfl, .inl (s18 _ _ (s17.get g16))⟩, okk0⟩) .nil)) (VZ kSA) ?_ ?_ (.inl ⟨rfl, ?_⟩)
    · rw [List.append_assoc, List.length_append, List.length_take, List.length_append, List.length_drop, List.length_map]
      show _ + (1 + _) ≤ 40
      omega
    · rw [List.length_map]
      omega
    · rw [List.append_assoc]
      exact wrong_again ndk hk hlt hle
  refine same_tup g17 rfl fun H18 s18 => ?_
  have sm := s17.ext s18
  have km18 := km16.sm sm
  have p18 := pen_sm sm p16
  exact q _ _ (by omega) (SmK.kpS km18 hp p18) p18 km18.2 (ins12 km18)
end
end Toy
set_option Elab.async false
set_option linter.all false
set_option maxRecDepth 100000
set_option maxHeartbeats 4000000
namespace Toy
open PySem L2 Sh ShL LamX NdefX
/-! ### what stands while the law goes on -/
structure Ly (T : List (Addr × Str)) (C d c ra oa rp : Addr) (ks ls : List Kd) (n : Nat) (H : Hp) : Prop where
  pen : Pen H d c n
  tabs : Tabs T H
  ra : ∃ xs, H ra = some (.lst xs) ∧ AllK H xs ks
  oa : ∃ xs, H oa = some (.lst xs) ∧ AllK H xs ls
  rule : RuleAt C H rp ks ls
section
variable {T : List (Addr × Str)} {C d c ra oa rp : Addr} {ks ls : List Kd} {n m : Nat} {H H' : Hp}
theorem Ly.to (l : Ly T C d c ra oa rp ks ls n H) (k : KpS H H') (p : Pen H' d c m) (t : Tabs T H') (i : ∀ b C dx fs, H b = some (.ins C dx fs) → H' b = some (.ins C dx fs)) : Ly T C d c ra oa rp ks ls m H' := by
  obtain ⟨xs, h1, h2⟩ := l.ra
  obtain ⟨zs, h3, h4⟩ := l.oa
  exact ⟨p, t, ⟨xs, k.1 _ _ h1, AllK.kpS k h2⟩, ⟨zs, k.1 _ _ h3, AllK.kpS k h4⟩, l.rule.mono i k.2.1⟩
theorem Ly.sm (l : Ly T C d c ra oa rp ks ls n H) (s : Sm T H H') : Ly T C d c ra oa rp ks ls n H' := l.to (kpS_sm s) (pen_sm s l.pen) s.2 fun _ _ _ _ h => s.get h
theorem Ly.same (l : Ly T C d c ra oa rp ks ls n H) (s : Same H H') : Ly T C d c ra oa rp ks ls n H' := l.sm (Sm.of l.tabs s)
theorem tabs_kp {T : List (Addr × Str)} {H H' : Hp} {d c : Addr} {n : Nat} (t : Tabs T H) (p : Pen H d c n) (s : Kp d H H') : Tabs T H' := by
  obtain ⟨ns, b, l, h1, _⟩ := p
  exact Sh.Tabs.kp t h1 s
theorem Ly.kp (l : Ly T C d c ra oa rp ks ls n H) (s : Kp d H H') (p : Pen H' d c m) : Ly T C d c ra oa rp ks ls m H' := by
  obtain ⟨kvs, hd⟩ := l.pen.at
  exact l.to (kpS_pen l.pen s p) p (tabs_kp l.tabs l.pen s) fun b C dx fs h => s _ _ h (ne_of h hd (by intro z; cases z))
theorem Ly.up (l : Ly T C d c ra oa rp ks ls n H) (h : n ≤ m) : Ly T C d c ra oa rp ks ls m H := ⟨l.pen.mono h, l.tabs, l.ra, l.oa, l.rule⟩
end
/-- a list of kinds is not one of its items -/
theorem KiE.put {H : Hp} {ta : Addr} {ys zs : List V} {js : List Kd} {v : V} {k : Kd} (h : H ta = some (.lst ys)) (p : Paired (KiE H) ys js) (q : KiE H v k) : KiE (upd H ta (.lst zs)) v k := by
  obtain ⟨t, rfl, q⟩ := q
  have ne : t ≠ ta := fun e => by
    subst e
    rcases q with q | q
    · rw [h] at q
      cases q
      cases p with
      | cons r _ =>
        obtain ⟨t, e, _⟩ := r
        cases e
    · rw [h] at q
      cases q
  exact ⟨t, rfl, by rw [upd_ne ne]; exact q⟩
theorem cut_butlast (xs : List V) : cutV xs none (some (-1)) = xs.dropLast := by
  unfold cutV
  rw [HT.sIx_none, List.dropLast_eq_take, List.drop_zero, Nat.sub_zero]
  congr 1
  unfold HT.sIx
  cases xs with
  | nil => rfl
  | cons x xs =>
    simp
    omega
theorem sub12 {ks : List Kd} (h : ks.Sublist E12) : ks.Nodup ∧ (∀ k ∈ ks, 0 ≤ k.2.2 ∧ k.2.2 ≤ 2) ∧ ks.length ≤ 12 ∧ SrtK ks :=
  ⟨E12_nd.sublist h, fun k hk => E12_ok k (h.subset hk), h.length_le, srt_sub E12_srt h⟩
theorem last_max {z : Wd} {ws : List Wd} {p q : Wd} (h : (ordW z ws).getLast? = some p) (hq : q ∈ ordW z ws) : kW z q ≤ kW z p := by
  have hs := ordW_sorted z ws
  obtain ⟨l, e⟩ := List.getLast?_eq_some_iff.mp h
  rw [e] at hs hq
  rcases List.mem_append.mp hq with hq | hq
  · exact (List.pairwise_append.mp hs).2.2 q hq p List.mem_cons_self
  · rw [List.mem_singleton.mp hq]
    exact Std.le_refl _
theorem last_no {z : Wd} {ws : List Wd} {p : Wd} (h : (ordW z ws).getLast? = some p) (c : Nat) : p ++ [c] ∉ ordW z ws := fun hq => by
  have h1 := last_max h hq
  have e : kW z (p ++ [c]) = kW z p ++ [((z.idxOf c : Nat) : Int)] := by unfold kW; rw [List.map_append]; rfl
  rw [e] at h1
  have h2 : kW z p ≤ kW z p ++ [((z.idxOf c : Nat) : Int)] := by
    exact List.le_append_left
  have h3 := congrArg List.length (List.le_antisymm h1 h2)
  rw [List.length_append] at h3
  simp at h3
theorem kds_ne {ls : List Kd} : E12.filter (fun k => decide (k ∉ ls)) ≠ ls := fun e => by
  have h : ∀ k ∈ E12, ¬ k ∈ ls := fun k hk h1 => by
    have h2 : k ∈ E12.filter fun k => decide (k ∉ ls) := by rw [e]; exact h1
    exact of_decide_eq_true (List.mem_filter.mp h2).2 h1
  have h0 : ((false, false, 0) : Kd) ∈ E12 := List.mem_cons_self
  have h1 : ((false, false, 0) : Kd) ∈ E12.filter fun k => decide (k ∉ ls) := List.mem_filter.mpr ⟨h0, decide_eq_true (h _ h0)⟩
  rw [e] at h1
  exact h _ h0 h1
theorem leastV_of (ls : List Kd) : leastV ls = if ls.filter (fun k => decide (k.2.2 = 0)) = [] then .non else .int 1 := by
  unfold leastV
  by_cases h : ls.any (fun k => decide (k.2.2 = 0)) = true
  · rw [if_pos h, if_neg (fun e => ?_)]
    obtain ⟨k, hk, h1⟩ := List.any_eq_true.mp h
    have : k ∈ ls.filter (fun k => decide (k.2.2 = 0)) := List.mem_filter.mpr ⟨hk, h1⟩
    rw [e] at this
    cases this
  · rw [if_neg h, if_pos]
    rw [List.filter_eq_nil_iff]
    exact fun k hk h1 => h (List.any_eq_true.mpr ⟨k, hk, h1⟩)
theorem kds_nil (ks : List Kd) : PyData.eqv (.list (ks.map kdD)) (.list []) = decide (ks = []) := by
  rw [list_nil]
  cases ks <;> simp
theorem kds_eqvL (ks js : List Kd) : PyData.eqv (.list (ks.map kdD)) (.list (js.map kdD)) = decide (ks = js) := by
  simp only [PyData.eqv]
  exact kds_eqv ks js
theorem PlN.plain {H : Hp} {v : V} (h : PlN H v) : plainV v = true := by
  rcases h with ⟨p, rfl⟩ | rfl | ⟨i, rfl⟩ | ⟨b, rfl⟩ | ⟨b, rfl, _⟩ <;> rfl
theorem OddN.plain {H : Hp} {v : V} (h : OddN H v) : plainV v = true := by
  rcases h with ⟨s, rfl, _⟩ | ⟨t, h, _⟩
  · rfl
  · cases v <;> first | rfl | (exact h.elim) | (cases h)
/-- rows without flags -/
abbrev offR (r : Rw) : Rw := (r.1, r.2.1, false)
theorem nilI {k : List V → Hp → Prop} {σ : L2.St} {H : Hp} (h : k [] H) : tNil σ H k := h
theorem kit_tup {K : PySem.W.Frag} {C : Addr} (h : PySem.W.kitOne K (.type "list") (.ref C) = some false) : PySem.W.kitOne K (.type "tuple") (.ref C) = some false := by
  unfold PySem.W.kitOne at h ⊢
  rw [if_neg (by simp)] at h ⊢
  have e : ∀ t, PySem.W.kitCls K t (.ref C) = if ((PySem.W.clsIn K C).isSome && PySem.W.typeIn K (.ref C) == some (.type "type")) = true then PySem.W.subIn K t (.ref C) else none := fun t => rfl
  rw [e] at h ⊢
  by_cases hc : ((PySem.W.clsIn K C).isSome && PySem.W.typeIn K (.ref C) == some (.type "type")) = true
  · rw [if_pos hc]
    rfl
  · rw [if_neg hc] at h
    cases h
theorem AllK.putL {H : Hp} {p : Addr} {xs ys : List V} (h : H p = some (.lst xs)) {vs : List V} {ks : List Kd} (q : AllK H vs ks) : AllK (upd H p (.lst ys)) vs ks := AllK.mono (fun _ _ q => IsK.put h q) q
theorem RuleAt.putL {C : Addr} {H : Hp} {p r : Addr} {xs ys : List V} {j1 j2 : List Kd} (h : H p = some (.lst xs)) (q : RuleAt C H r j1 j2) : RuleAt C (upd H p (.lst ys)) r j1 j2 :=
  q.mono (fun b C dx fs hb => by rw [upd_ne (ne_of hb h (by intro z; cases z))]; exact hb) fun b xs hb => by rw [upd_ne (ne_of hb h (by intro z; cases z))]; exact hb
/-- rule == Rule(..) -/
theorem eq_rules {C rp p : Addr} {H : Hp} {j1 j2 i1 i2 : List Kd} {Q : VK} (r : RuleAt C H rp j1 j2) (r' : RuleAt C H p i1 i2) (q : Q (.bl (decide (j1 = i1 ∧ j2 = i2))) H) : rEqO C (spEqR C) (.ref rp) (.ref p) H Q := by
  have r0 := r
  have r1 := r'
  obtain ⟨dx, a1, a2, y1, y2, e, _⟩ := r0
  obtain ⟨dx', a1', a2', y1', y2', e', _⟩ := r1
  exact ⟨rp, p, dx, dx', _, _, rfl, rfl, e, e', rp, p, j1, j2, i1, i2, rfl, r, r', _, rfl, q⟩
theorem mkR {C N : Addr} {E : XK} {targs : TA} {σ : L2.St} {H : Hp} {Q : VK} {ks ls : List Kd} (n1 : ks.Nodup) (n2 : ls.Nodup) (l1 : ks.length ≤ 40) (l2 : ls.length ≤ 40)
    (hargs : ∀ R : List V → Hp → Prop, (∀ H1 a b xs zs, Same H H1 → SqA H1 a xs → SqA H1 b zs → AllV H1 xs (ks.map some) → AllV H1 zs (ls.map some) → R [.ref a, .ref b] H1) → targs σ H R)
    (k1 : ∀ H' p j1 j2, Same H H' → H p = none → RuleAt C H' p j1 j2 → j1.Perm ks → SrtK j1 → j2.Perm ls → SrtK j2 → Q (.ref p) H') : tMake C (spInitR C N) [] E targs σ H Q :=
  hargs _ fun H1 a b xs zs s1 ha hb va vb => mk_ruleK (Q := Q) ha hb va vb n1 n2 l1 l2 fun H' p j1 j2 s n r m1 o1 m2 o2 => k1 H' p j1 j2 (s1.trans s) (s1.free n) r m1 o1 m2 o2
/-- Rule(root, others), both lists of kinds in order -/
theorem mkR2 {C N : Addr} {E : XK} {σ : L2.St} {H : Hp} {Q : VK} {i j : Nat} {a b : Addr} {xs zs : List V} {ks ls : List Kd} (e1 : σ[i]? = some (some (.ref a))) (e2 : σ[j]? = some (some (.ref b))) (ha : H a = some (.lst xs)) (hb : H b = some (.lst zs)) (kx : AllK H xs ks) (kz : AllK H zs ls) (s1 : ks.Sublist E12) (s2 : ls.Sublist E12)
    (k1 : ∀ H' p, Same H H' → RuleAt C H' p ks ls → Q (.ref p) H') : tMake C (spInitR C N) [] E (tCons (tVar i) (tCons (tVar j) tNil)) σ H Q := by
  obtain ⟨n1, o1, l1, so1⟩ := sub12 s1
  obtain ⟨n2, o2, l2, so2⟩ := sub12 s2
  refine mkR n1 n2 (by omega) (by omega) (fun R hR => ⟨_, e1, _, e2, hR H a b xs zs (fun _ _ h => h) (.inl ha) (.inl hb) (allV_of kx o1) (allV_of kz o2)⟩) fun H' p j1 j2 s n r m1 p1 m2 p2 => ?_
  obtain rfl := srt_uniq p1 so1 m1
  obtain rfl := srt_uniq p2 so2 m2
  exact k1 H' p s r
/-- [kind for kind in te if ..] -/
theorem lcKE {K : PySem.W.Frag} {H1 : Hp} {ks : List Kd} {σ : L2.St} {i : Nat} {te : TE} {tt : TT} {Qd : VK} (ht : ∀ R : VK, (∀ H2 a xs, Same H1 H2 → H2 a = some (.lst xs) → AllK H2 xs ks → R (.ref a) H2) → te σ H1 R) (hl : ks.length ≤ 40) (keep : Kd → Bool)
    (hw : ∀ x, wipe ((wipe σ [i]).set i x) [i] = wipe σ [i]) (hg : ∀ x, ((wipe σ [i]).set i (some x))[i]? = some (some x))
    (hs : ∀ t k H' (Z : Bool → Hp → Prop), k ∈ ks → H' t = some (.tup (kdVs k)) → Same H1 H' → (∀ H2, Same H' H2 → Z (keep k) H2) → tt ((wipe σ [i]).set i (some (.ref t))) H' Z)
    (hd : ∀ H' D ys, Same H1 H' → H' D = some (.lst ys) → AllK H' ys (ks.filter keep) → Qd (.ref D) H') : tLc (iList K te) (gName i) tt (tVar i) [i] σ H1 Qd := by
  refine ht _ fun H2 a xs s12 ha hx => ⟨a, rfl, ⟨_, SqL.of ha⟩, fun D hD => ?_⟩
  refine lcG (walk_list (K := K) (a := a) (xs := xs)) yat hx (fun _ H => Same H2 H) (same_upd hD) (fun _ H acc s b o h => ?_) (fun m H _ s => SqL.of (s _ _ ha)) (by omega) keep IsK (fun H acc acc' v k hDl hk => IsK.put hDl hk) (fun m x k H acc R N hk ex s hDH k1 k2 => ?_) (fun H acc s hDH p => ?_)
  · rw [upd_ne (ne_of_none h hD)]
    exact s _ _ h
  · have ex' := IsK.same s ex
    obtain ⟨t, rfl, ht⟩ := ex'
    refine ⟨hw _, ?_⟩
    refine hs t k H _ (List.mem_of_getElem? hk) ht (s12.trans s) fun H2 s2 => ?_
    refine ite2 (fun h => ?_) (fun h => ?_)
    · exact ⟨_, hg _, k1 h _ _ (s.trans s2) (s2 _ _ hDH) (fun v u q => IsK.same s2 q) ⟨t, rfl, s2 _ _ ht⟩⟩
    · exact k2 (by simpa using h) _ (s.trans s2) (s2 _ _ hDH) fun v u q => IsK.same s2 q
  · exact hd H D acc (s12.trans s) hDH p
theorem not_inK {K : PySem.W.Frag} {H : Hp} {t a : Addr} {k : Kd} {xs : List V} {ks : List Kd} {Q : VK} (ht : H t = some (.tup (kdVs k))) (ha : H a = some (.lst xs)) (hx : AllK H xs ks) (q : Q (.bl (decide (k ∉ ks))) H) : rNotInD K (.ref t) (.ref a) H Q := by
  refine ⟨kdD k, ks.map kdD, IsK.dp ⟨t, rfl, ht⟩, .lst (SqL.of ha) (AllK.dp hx), kd_shaped k, kds_shapedL ks, ?_⟩
  rw [kd_any]
  have e : (!decide (k ∈ ks)) = decide (k ∉ ks) := by by_cases h : k ∈ ks <;> simp [h]
  rw [e]
  exact q
/-! ### places and rows -/
structure PsOk (z : Wd) (qs : List Wd) : Prop where
  clo : Clo qs
  nd : qs.Nodup
  wd : ∀ p ∈ qs, ∀ c ∈ p, c ∈ z
  l200 : ∀ p ∈ qs, p.length ≤ 200
  len : qs.length ≤ 300
  last : ∀ p ∈ qs, p.length = 200 → ∃ c0 c1, z[0]? = some c0 ∧ p.getLast? = some c1 ∧ c0 ≠ c1
theorem PlOk.ps {z : Wd} {ps : List Wd} (h : PlOk z ps 8) : PsOk z ps :=
  ⟨h.clo, h.nd, h.wd, fun p hp => Nat.le_trans (h.l p hp) (by decide), Nat.le_trans h.len (by decide), fun p hp e => by have := h.l p hp; omega⟩
theorem PsOk.ord {z : Wd} {qs : List Wd} (h : PsOk z qs) : PsOk z (ordW z qs) :=
  ⟨⟨ordW_mem.mpr h.clo.1, fun p hp n => ordW_mem.mpr (h.clo.2 p (ordW_mem.mp hp) n)⟩, ordW_nodup h.nd, fun p hp => h.wd p (ordW_mem.mp hp), fun p hp => h.l200 p (ordW_mem.mp hp), by rw [ordW_len]; exact h.len, fun p hp => h.last p (ordW_mem.mp hp)⟩
/-- a row for the place p -/
def RwP (H : Hp) (v : V) (p : Wd) : Prop := ∃ o f, RwT H v (p, o, f) ∧ ∀ i, o = some i → 1 ≤ i ∧ i ≤ 9
theorem rows_of {H : Hp} : ∀ {vs : List V} {ps : List Wd}, Paired (RwP H) vs ps → ∃ rs : List Rw, rs.map (·.1) = ps ∧ Paired (RwT H) vs rs ∧ ∀ r ∈ rs, ∀ i, r.2.1 = some i → 1 ≤ i ∧ i ≤ 9
  | _, _, .nil => ⟨[], rfl, .nil, fun r h => by cases h⟩
  | _, _, .cons (b := p) ⟨o, f, h, hv⟩ t => by
    obtain ⟨rs, e, pr, ok⟩ := rows_of t
    refine ⟨(p, o, f) :: rs, by rw [List.map_cons, e], .cons h pr, fun r hr => ?_⟩
    rcases List.mem_cons.mp hr with rfl | hr
    · exact hv
    · exact ok r hr
theorem perm_paired {α β : Type} {R : α → β → Prop} {xs ys : List α} (h : ys.Perm xs) : ∀ {us : List β}, Paired R xs us → ∃ vs : List β, vs.Perm us ∧ Paired R ys vs := by
  induction h with
  | nil => exact fun p => by cases p; exact ⟨[], List.Perm.refl _, .nil⟩
  | cons x _ ih =>
    intro us p
    cases p with
    | cons r t =>
      obtain ⟨vs, h1, h2⟩ := ih t
      exact ⟨_ :: vs, h1.cons _, .cons r h2⟩
  | swap x y l =>
    intro us p
    cases p with
    | cons r t =>
      cases t with
      | cons r2 t => exact ⟨_, List.Perm.swap _ _ _, .cons r2 (.cons r t)⟩
  | trans _ _ ih1 ih2 =>
    intro us p
    obtain ⟨vs, h1, h2⟩ := ih2 p
    obtain ⟨ws, h3, h4⟩ := ih1 h2
    exact ⟨ws, h3.trans h1, h4⟩
theorem PsOk.good {z : Wd} {rs : List Rw} (h : PsOk z (rs.map (·.1))) (hv : ∀ r ∈ rs, ∀ i, r.2.1 = some i → 1 ≤ i ∧ i ≤ 9) : GoodUs z rs := by
  refine ⟨fun r hr => ⟨h.wd _ (List.mem_map.mpr ⟨r, hr, rfl⟩), h.l200 _ (List.mem_map.mpr ⟨r, hr, rfl⟩), hv r hr⟩, h.nd, h.clo.1, fun p hp => ?_, ?_⟩
  · rw [List.dropLast_eq_take]
    exact h.clo.2 p hp _
  · have := h.len
    rw [List.length_map] at this
    omega
theorem GoodUs.perm {z : Wd} {rs us : List Rw} (g : GoodUs z rs) (h : us.Perm rs) : GoodUs z us :=
  ⟨fun r hr => g.ok r (h.mem_iff.mp hr), (h.map _).nodup_iff.mpr g.nd, (h.map _).mem_iff.mpr g.root, fun p hp => (h.map _).mem_iff.mpr (g.par p ((h.map _).mem_iff.mp hp)), by rw [h.length_eq]; exact g.len⟩
theorem mk_tree' {T : List (Addr × Str)} {C : Addr} {H : Hp} {z : Wd} {a : Addr} {xs : List V} {us rs : List Rw} {E : XK} (hz : LetOk z) (ha : H a = some (.lst xs)) (pr : Paired (RwE H) xs us) (gu : GoodUs z us) (pm : us.Perm rs) (od : rs.map (·.1) = ordW z (us.map (·.1))) (tb : Tabs T H)
    (x dx : Addr) (hx : H x = none) (hdx : H dx = none) (hne : dx ≠ x) (Qf : VK) (q : ∀ H', Sm T H H' → TreeAt C H' x z rs → Qf .non H') : spInit T C (.ref x :: ([.str (sw z), .ref a] ++ [])) (upd (upd H dx (.own x)) x (.ins C dx [])) Qf E := by
  have s1 := same_upd (o := .own x) hdx
  have s2 : Same H (upd (upd H dx (.own x)) x (.ins C dx [])) := same_of_new s1 hx
  exact ⟨x, dx, a, z, xs, us, rs, rfl, upd_same, hz, s2 _ _ ha, paired_mono (fun v r h => h.same s2) pr, gu, pm, od, tb.ext s2, fun H' k t => q H' ⟨fun b u hb nt => k.1 b u (s2 _ _ hb) nt (ne_of_none hb hx), k.2⟩ t⟩
theorem offR_fst (rs : List Rw) : (rs.map offR).map (·.1) = rs.map (·.1) := by rw [List.map_map]; rfl
theorem cut_69 {xs : List V} (h : xs.length = 12) : cutV xs (some 6) (some 9) = (xs.drop 6).take 3 := by
  unfold cutV
  rw [h]
  rfl
theorem cut_3 (xs : List V) : cutV xs none (some 3) = xs.take 3 := cut_take xs 3
theorem bareK : E12.take 3 ++ (E12.drop 6).take 3 = knR "bare" ∧ E12.take 3 ++ (E12.drop 6).take 3 = knO "bare" := by decide +kernel
theorem at_last {xs : List V} {v : V} (h : xs.getLast? = some v) : atI xs (-1) = some v := by
  unfold atI ixN
  have h1 : 0 < xs.length := by
    cases xs with
    | nil => cases h
    | cons x r => simp
  rw [if_neg (by decide), if_pos (by omega)]
  show xs[(-1 + (xs.length : Int)).toNat]? = some v
  rw [show (-1 + (xs.length : Int)).toNat = xs.length - 1 by omega, ← List.getLast?_eq_getElem?]
  exact h
theorem no_oddK {H : Hp} {s : Str} (h : s ∈ kNames) (o : OddN H (.str s)) : False := by
  rcases o with ⟨s', e, n⟩ | ⟨t, ht, n⟩
  · cases e
    exact n h
  · exact n ht
theorem OddN.kp {H H' : Hp} {v : V} (k : KpS H H') (h : OddN H v) : OddN H' v := by
  rcases h with h | ⟨t, h, n⟩
  · exact .inl h
  · exact .inr ⟨t, h.kp k.t, n⟩
/-- a value that is no place of ps -/
def NoP (H : Hp) (v : V) (ps : List Wd) : Prop := PlN H v ∧ ∀ p ∈ ps, v ≠ .str (sw p)
theorem NoP.sm {T : List (Addr × Str)} {H H' : Hp} {v : V} {ps : List Wd} (s : Sm T H H') (h : NoP H v ps) : NoP H' v ps := ⟨h.1.sm s, h.2⟩
theorem NoP.same {H H' : Hp} {v : V} {ps : List Wd} (s : Same H H') (h : NoP H v ps) : NoP H' v ps := ⟨h.1.same s, h.2⟩
theorem NoP.kp {H H' : Hp} {d c : Addr} {n : Nat} {v : V} {ps : List Wd} (hp : Pen H d c n) (s : Kp d H H') (h : NoP H v ps) : NoP H' v ps := ⟨h.1.kp hp s, h.2⟩
theorem noP_str {H : Hp} {p : Wd} {ps : List Wd} (h : p ∉ ps) : NoP H (.str (sw p)) ps := ⟨.inl ⟨p, rfl⟩, fun q hq e => by
  have := sw_inj (V.str.inj e)
  exact h (this ▸ hq)⟩
theorem NoP.in {K : PySem.W.Frag} {H : Hp} {v : V} {rs : List Rw} (h : NoP H v (rs.map (·.1))) : ∃ p, PlV K H v p ∧ inR p rs = false := by
  obtain ⟨p, hp⟩ := h.1.pl (K := K)
  refine ⟨p, hp, ?_⟩
  cases p with
  | none => rfl
  | some p => exact decide_eq_false fun hm => h.2 p hm hp
/-- _law_caught(lambda: kind_of(tree, odd)) -/
theorem caught_place {K : PySem.W.Frag} {T : List (Addr × Str)} {C CK CN CP x : Addr} {z : Wd} {rs : List Rw} {v : V} {σ : L2.St} {H : Hp} {Q : VK} (tb : Tabs T H) (hx : TreeAt C H x z rs) (nd : (rs.map (·.1)).Nodup) (z26 : z.length ≤ 26) (hv : NoP H v (rs.map (·.1)))
    (e1 : σ[13]? = some (some (.ref x))) (e2 : σ[15]? = some (some v)) (q : ∀ H' p, Sm T H H' → H' p = some (.tup [.str "place", v]) → Q (.ref p) H') : tLam T (TTc CK CN CP) (fun E => tCall (spKindOf K C CP) [] E (tCons (tVar 13) (tCons (tVar 15) tNil))) σ H Q := by
  refine ⟨tb, fun H1 ex tb1 E R _ _ hE hR => ?_⟩
  have sm1 : Sm T H H1 := ⟨ex, tb1⟩
  obtain ⟨p, pv, hin⟩ := (hv.sm sm1).in (K := K)
  refine ⟨_, e1, _, e2, x, z, rs, v, p, rfl, hx.sm sm1, nd, z26, pv, fun r hr e => ?_, fun _ H' d s n e => hE d v H' e fun p hp => q _ p ((sm1.ext s).new hp) upd_same⟩
  subst e
  rw [show inR (some r.1) rs = true from decide_eq_true (List.mem_map.mpr ⟨r, hr, rfl⟩)] at hin
  cases hin
/-- _law_caught(lambda: known_rule(odd)) -/
theorem caught_name {T : List (Addr × Str)} {C CK CN CP : Addr} {v : V} {σ : L2.St} {H : Hp} {Q : VK} (tb : Tabs T H) (hv : OddN H v)
    (e2 : σ[15]? = some (some v)) (q : ∀ H' p, Sm T H H' → H' p = some (.tup [.str "name", v]) → Q (.ref p) H') : tLam T (TTc CK CN CP) (fun E => tCall (spKnown C CN) [] E (tCons (tVar 15) tNil)) σ H Q := by
  refine ⟨tb, fun H1 ex tb1 E R _ hE _ hR => ?_⟩
  have sm1 : Sm T H H1 := ⟨ex, tb1⟩
  refine ⟨_, e2, v, rfl, .inr (hv.kp (kpS_sm sm1)), fun s e hs => ?_, fun _ H' d s n e => hE d v H' e fun p hp => q _ p ((sm1.ext s).new hp) upd_same⟩
  subst e
  exact (no_oddK hs hv).elim
theorem same_tup2 {K : PySem.W.Frag} {b : Bool} {H : Hp} {p : Addr} {σ : L2.St} {s : Str} {v : V} {R : VK} (h : H p = some (.tup [.str s, v])) (hp : plainV v = true) (e : σ[15]? = some (some v)) (q : ∀ H', Same H H' → R (.bl b) H') :
    tTup (tCons (tC (.str s)) (tCons (tVar 15) tNil)) σ H fun y H1 => rSameT K b (.ref p) y H1 R := by
  refine ⟨_, e, by show 2 ≤ sizeLine; decide, fun p2 hp2 => ?_⟩
  have s2 := same_upd (o := .tup [V.str s, v]) hp2
  refine ⟨p, p2, _, rfl, rfl, SqT.of (s2 _ _ h), SqT.of upd_same, ?_, q _ s2⟩
  show (true && (plainV v && true)) = true
  rw [hp]
  rfl
theorem RwT.putL {H : Hp} {v : V} {r : Rw} {p : Addr} {xs ys : List V} (h : RwT H v r) (hp : H p = some (.lst xs)) : RwT (upd H p (.lst ys)) v r := by
  obtain ⟨a, e, h⟩ := h
  exact ⟨a, e, by rw [upd_ne (ne_of h hp (by intro z; cases z))]; exact h⟩
theorem ifE {r : R2} {te1 te2 : TE} {a b : TS} {D : Ends} {σ : L2.St} {H : Hp} (h : te1 σ H fun x H1 => te2 σ H1 fun y H2 => r x y H2 fun v H3 => ∃ k, v = .bl k ∧ (if k = true then a D σ H3 else b D σ H3)) : tIfS (tTest (tOp r te1 te2)) a b D σ H := h
theorem strA : (Str.ofString "A" : Str) = sw [65] := by decide +kernel
theorem small65 : 65 ∉ small := by decide +kernel
theorem oddN_str {H : Hp} {s : Str} (h : s ∉ kNames) : OddN H (.str s) := .inl ⟨s, rfl, h⟩
theorem oddN_ty {H : Hp} {v : V} {t : String} (h : TyN H v t) (n : t ≠ "str") : OddN H v := .inr ⟨t, h, n⟩
end Toy
set_option Elab.async false
set_option linter.all false
set_option maxRecDepth 100000
set_option maxHeartbeats 4000000
namespace Toy
open PySem L2 Sh ShL LamX NdefX
def spLaw (K : PySem.W.Frag) (T : List (Addr × Str)) : Sp := fun vs H Q _ => ∃ (a : Addr) (ns : List Int), vs = [.ref a] ∧ SqL K H a (ns.map V.int) ∧ Tabs T H ∧ ∀ H', Q (.bl true) H'
section
variable {P : Program} {w : World} {K : PySem.W.Frag} {mg : Str → Option Value} {base : Heap}
theorem ok_law (T : Tx P K mg) (B : Bx T base) : FnOk P w K mg base CX0 12 T.a_law T.fd_law ["_law_script"] (spLaw K (tabs T)) := by
  refine okT T.F_law sc_law (fun vs H Q E h => ?_) (fun cdv A outer s H vs Q E hcd hr h => ?_)
  · obtain ⟨a, ns, rfl, _⟩ := h
    rfl
  have hcd : cdv = .ref T.kc_law := hcd.symm.trans T.ec_law
  have hu := hu_of hr
  have hu65 := hu65_of hr
  obtain ⟨oc_n, od_n, kV_n, doc_n, pm_n, an_n, cdv_n, ct_n, osl_n, fd_n, lk_n, cg_l_caught⟩ := T.F_l_caught.ex
  have bi_n := T.bi_l_caught
  rw [fd_n] at lk_n bi_n
  have lk_l_caught := lk_n
  have bi_l_caught := bi_n
  obtain ⟨a, ns, rfl, hS, tb, q⟩ := h
  refine ⟨_, (pss_cons (ps_set (i := 1) sc_law.nd rfl (by first | exact Or.inl rfl | exact Or.inr rfl) (pe_call (ok_l_pen T B) (hr.mono (by decide)) (by rfl) T.m_l_pen T.F_l_pen.kp T.bi_l_pen .nil pass0 (pa_cons (pv 0) pa_nil)))
 (pss_cons (ps_asg (pe_tup (pa_cons (pe_call (ok_l_kinds T B) (hr.mono (by decide)) (by rfl) T.m_l_kinds T.F_l_kinds.kp T.bi_l_kinds .nil pass0 (pa_cons (pv 1) pa_nil)) (pa_cons (pe_call (ok_l_kinds T B) (hr.mono (by decide)) (by rfl) T.m_l_kinds T.F_l_kinds.kp T.bi_l_kinds .nil pass0 (pa_cons (pv 1) pa_nil)) pa_nil))) (pg_tup rfl (pgs_cons (pg_name (i := 2) sc_law.nd rfl (by first | exact Or.inl rfl | exact Or.inr rfl)) (pgs_cons (pg_name (i := 3) sc_law.nd rfl (by first | exact Or.inl rfl | exact Or.inr rfl)) pgs_nil))))
 (pss_cons (ps_par (i := 4) (j := 5) (by rfl) sc_law.nd rfl rfl (by decide) rfl rfl (pa_cons (pe_call (ok_l_shape T B) (hr.mono (by decide)) (by rfl) T.m_l_shape T.F_l_shape.kp T.bi_l_shape .nil pass0 (pa_cons (pv 1) (pa_cons (pv 2) pa_nil))) (pa_cons (pe_call (ok_l_shape T B) (hr.mono (by decide)) (by rfl) T.m_l_shape T.F_l_shape.kp T.bi_l_shape .nil pass0 (pa_cons (pv 1) (pa_cons (pv 3) pa_nil))) pa_nil)) (by rfl))
 (pss_cons (ps_set (i := 6) sc_law.nd rfl (by first | exact Or.inl rfl | exact Or.inr rfl) (pe_make (E := fun _ _ _ => False) T.mk_Rule (ok_Rule_init T B) (hr.mono (by decide)) (by rfl) T.m_Rule T.bi_Rule_init .nil (passes_call LamX.takes0 (fun _ _ _ _ h => h)) (pa_cons (pv 4) (pa_cons (pe_callTy call_tuple_of (by rfl) T.b_tuple (by decide +kernel) (pa_cons (pv 5) pa_nil)) pa_nil))))
 (pss_cons (ps_expr (pe_bm PySem.F.plainAttrs_list PySem.F.slot_list_append PySem.F.type_list_append mt_append (pv 4) (pa_cons pe_non pa_nil)))
 (pss_cons (ps_if (PW.pt (pw_or (pt_not (pt_val (pe_call (ok_l_refused_right T B) (hr.mono (by decide)) (by rfl) T.m_l_refused_right T.F_l_refused_right.kp T.bi_l_refused_right .nil pass0 (pa_cons (pv 1) (pa_cons (pe_slice sl_list (pv 4) po_none (po_some (pe_un un_neg pe_int))) (pa_cons (pv 5) pa_nil)))))) (pw_or1 (pt_not (pt_val (pe_call (ok_l_told_right T B) (hr.mono (by decide)) (by rfl) T.m_l_told_right T.F_l_told_right.kp T.bi_l_told_right .nil pass0 (pa_cons (pv 6) (pa_cons (pv 2) (pa_cons (pv 3) pa_nil)))))))))
 (pss_one (ps_ret pe_bl))
 pss_nil)
 (pss_cons (ps_if (PW.pt (pw_or (pt_not (pt_cmpR (op_eqO T.eq_Rule (ok_Rule_eq T B) T.bi_Rule_eq pass0 (hr.mono (by decide))) (pv 6) (pe_make (E := fun _ _ _ => False) T.mk_Rule (ok_Rule_init T B) (hr.mono (by decide)) (by rfl) T.m_Rule T.bi_Rule_init .nil (passes_call LamX.takes0 (fun _ _ _ _ h => h)) (pa_cons (pv 2) (pa_cons (pv 3) pa_nil))) (nomark _))) (pw_or1 (pt_cmpR (op_eqNT T.eq_Rule T.F_Rule_eq sc_Rule_eq rfl T.bi_Rule_eq (by decide +kernel) T.b_NotImplemented (fun _ _ _ _ _ _ hr => (pt_not (pt_val (pe_callB (by exact call_isi : CallR _ (.builtin "isinstance") (rIsi K)) (by rfl) T.b_isinstance (by decide +kernel) (pa_cons (pv 1) (pa_cons (pe_glob (v := .ref T.c_Rule) (by rfl) T.m_Rule rfl) pa_nil)))))) (hr.mono (by decide))) (pv 6) (pe_tup (pa_cons (pe_callTy call_tuple_of (by rfl) T.b_tuple (by decide +kernel) (pa_cons (pv 2) pa_nil)) (pa_cons (pe_callTy call_tuple_of (by rfl) T.b_tuple (by decide +kernel) (pa_cons (pv 3) pa_nil)) pa_nil))) (nomark _)))))
 (pss_one (ps_ret pe_bl))
 pss_nil)
 (pss_cons (ps_setLc (i := 7) (own := [("_law_kind_here", 16)]) (g := gName 16) rfl sc_law.nd rfl rfl (sw_true rfl rfl rfl (by decide +kernel)) (pi_list (pe_call0 (ok_l_every T B) (hr.mono (by decide)) (by rfl) T.m_l_every T.F_l_every.kp T.bi_l_every .nil pass0)) (blkOk_by (own := [("_law_kind_here", 16)]) (N := N_law) (sc := defScope s_law) (by decide +kernel)) (fun _ _ _ _ _ => (pg_name (i := 16) sc_law.nd rfl (by first | exact Or.inl rfl | exact Or.inr rfl))) (fun _ _ _ _ _ => (pts_one (pt_cmpR (by exact (op_notInD hu65) : OpR _ (compareOp .NotIn) (rNotInD K)) (pv 16) (pv 3) (by rfl)))) (fun _ _ _ _ _ => (pv 16)))
 (pss_cons (ps_if (PW.pt (pw_or (pt_cmpR op_ne (pe_cmpR (op_eqO T.eq_Rule (ok_Rule_eq T B) T.bi_Rule_eq pass0 (hr.mono (by decide))) (pv 6) (pe_make (E := fun _ _ _ => False) T.mk_Rule (ok_Rule_init T B) (hr.mono (by decide)) (by rfl) T.m_Rule T.bi_Rule_init .nil (passes_call LamX.takes0 (fun _ _ _ _ h => h)) (pa_cons (pv 3) (pa_cons (pv 2) pa_nil))) (nomark _)) (pe_cmpR (op_eqD hr.units) (pv 2) (pv 3) (nomark _)) (nomark _)) (pw_or1 (pt_cmpR (op_eqO T.eq_Rule (ok_Rule_eq T B) T.bi_Rule_eq pass0 (hr.mono (by decide))) (pv 6) (pe_make (E := fun _ _ _ => False) T.mk_Rule (ok_Rule_init T B) (hr.mono (by decide)) (by rfl) T.m_Rule T.bi_Rule_init .nil (passes_call LamX.takes0 (fun _ _ _ _ h => h)) (pa_cons (pv 2) (pa_cons (pv 7) pa_nil))) (nomark _)))))
 (pss_one (ps_ret pe_bl))
 pss_nil)
 (pss_cons (ps_setLc (i := 8) (own := [("_law_kind_here", 16)]) (g := gName 16) rfl sc_law.nd rfl rfl (sw_true rfl rfl rfl (by decide +kernel)) (pi_list (pv 3)) (blkOk_by (own := [("_law_kind_here", 16)]) (N := N_law) (sc := defScope s_law) (by decide +kernel)) (fun _ _ _ _ _ => (pg_name (i := 16) sc_law.nd rfl (by first | exact Or.inl rfl | exact Or.inr rfl))) (fun _ _ _ _ _ => (pts_one (pt_cmpR op_eq (pe_ix (by exact ix_tup : IxR _ (rIxT K)) (pv 16) pe_int (fun _ _ => rfl)) pe_int (nomark _)))) (fun _ _ _ _ _ => (pv 16)))
 (pss_cons (ps_if (pt_cmpR op_ne (pe_call (ok_least_part T B) (hr.mono (by decide)) (by rfl) T.m_least_part T.F_least_part.kp T.bi_least_part .nil pass0 (pa_cons (pv 6) pa_nil)) (pe_ifExp (pt_cmpR (op_neD hr.units) (pv 8) (pe_lst pa_nil) (nomark _)) pe_int pe_non) (nomark _))
 (pss_one (ps_ret pe_bl))
 pss_nil)
 (pss_cons (ps_set (i := 9) sc_law.nd rfl (by first | exact Or.inl rfl | exact Or.inr rfl) (pe_call (ok_l_letters T B) (hr.mono (by decide)) (by rfl) T.m_l_letters T.F_l_letters.kp T.bi_l_letters .nil pass0 (pa_cons (pv 1) (pa_cons pe_int pa_nil))))
 (pss_cons (ps_for PassesOwn.never rfl (pi_range1 (by rfl) T.b_range (pa_cons pe_int pa_nil)) (pg_name (i := 10) sc_law.nd rfl (by first | exact Or.inl rfl | exact Or.inr rfl))
 (pss_cons (ps_set (i := 11) sc_law.nd rfl (by first | exact Or.inl rfl | exact Or.inr rfl) (pe_call (ok_l_ordered T B) (hr.mono (by decide)) (by rfl) T.m_l_ordered T.F_l_ordered.kp T.bi_l_ordered .nil pass0 (pa_cons (pv 9) (pa_cons (pe_call (ok_l_places T B) (hr.mono (by decide)) (by rfl) T.m_l_places T.F_l_places.kp T.bi_l_places .nil pass0 (pa_cons (pv 1) (pa_cons (pv 9) (pa_cons pe_int pa_nil)))) pa_nil))))
 (pss_cons (ps_setLc (i := 12) (own := [("_law_place", 17)]) (g := gName 17) rfl sc_law.nd rfl rfl (sw_true rfl rfl rfl (by decide +kernel)) (pi_list (pv 11)) (blkOk_by (own := [("_law_place", 17)]) (N := N_law) (sc := defScope s_law) (by decide +kernel)) (fun _ _ _ _ _ => (pg_name (i := 17) sc_law.nd rfl (by first | exact Or.inl rfl | exact Or.inr rfl))) (fun _ _ _ _ _ => pts_nil) (fun _ _ _ _ _ => (pe_call (ok_l_row T B) (hr.mono (by decide)) (by rfl) T.m_l_row T.F_l_row.kp T.bi_l_row .nil pass0 (pa_cons (pv 1) (pa_cons (pv 17) pa_nil)))))
 (pss_cons (ps_if (pt_cmpR op_eq (pe_call (ok_l_draw T B) (hr.mono (by decide)) (by rfl) T.m_l_draw T.F_l_draw.kp T.bi_l_draw .nil pass0 (pa_cons (pv 1) (pa_cons pe_int pa_nil))) pe_int (nomark _))
 (pss_one (ps_setLc (i := 12) (own := [("_law_row_here", 18)]) (g := gName 18) rfl sc_law.nd rfl rfl (sw_true rfl rfl rfl (by decide +kernel)) (pi_list (pv 12)) (blkOk_by (own := [("_law_row_here", 18)]) (N := N_law) (sc := defScope s_law) (by decide +kernel)) (fun _ _ _ _ _ => (pg_name (i := 18) sc_law.nd rfl (by first | exact Or.inl rfl | exact Or.inr rfl))) (fun _ _ _ _ _ => pts_nil) (fun _ _ _ _ _ => (pe_tup (pa_cons (pe_ix (by exact ix_tup : IxR _ (rIxT K)) (pv 18) pe_int (fun _ _ => rfl)) (pa_cons (pe_ix (by exact ix_tup : IxR _ (rIxT K)) (pv 18) pe_int (fun _ _ => rfl)) (pa_cons pe_bl pa_nil)))))))
 pss_nil)
 (pss_cons (ps_set (i := 13) sc_law.nd rfl (by first | exact Or.inl rfl | exact Or.inr rfl) (pe_make T.mk_Tree (ok_Tree_init T B) (hr.mono (by decide)) (by rfl) T.m_Tree T.bi_Tree_init .nil pass0 (pa_cons (pv 9) (pa_cons (pe_call (ok_l_shuffled T B) (hr.mono (by decide)) (by rfl) T.m_l_shuffled T.F_l_shuffled.kp T.bi_l_shuffled .nil pass0 (pa_cons (pv 1) (pa_cons (pv 12) pa_nil))) pa_nil))))
 (pss_cons (ps_set (i := 14) sc_law.nd rfl (by first | exact Or.inl rfl | exact Or.inr rfl) (pe_op op_cat (pe_slice sl_list (pe_call0 (ok_l_every T B) (hr.mono (by decide)) (by rfl) T.m_l_every T.F_l_every.kp T.bi_l_every .nil pass0) po_none (po_some pe_int)) (pe_slice sl_list (pe_call0 (ok_l_every T B) (hr.mono (by decide)) (by rfl) T.m_l_every T.F_l_every.kp T.bi_l_every .nil pass0) (po_some pe_int) (po_some pe_int))))
 (pss_cons (ps_if (pt_not (pt_val (pe_call (ok_l_tree_right T B) (hr.mono (by decide)) (by rfl) T.m_l_tree_right T.F_l_tree_right.kp T.bi_l_tree_right .nil pass0 (pa_cons (pv 9) (pa_cons (pv 13) (pa_cons (pv 12) (pa_cons (pv 6) (pa_cons (pv 2) (pa_cons (pv 3) pa_nil)))))))))
 (pss_one (ps_ret pe_bl))
 pss_nil)
 (pss_cons (ps_if (pt_not (pt_val (pe_call (ok_l_tree_right T B) (hr.mono (by decide)) (by rfl) T.m_l_tree_right T.F_l_tree_right.kp T.bi_l_tree_right .nil pass0 (pa_cons (pv 9) (pa_cons (pv 13) (pa_cons (pv 12) (pa_cons (pe_call (E := fun _ _ _ => False) (ok_known_rule T B) (hr.mono (by decide)) (by rfl) T.m_known_rule T.F_known_rule.kp T.bi_known_rule .nil (passes_call LamX.takes0 (fun _ _ _ _ h => h)) (pa_cons pe_str pa_nil)) (pa_cons (pv 14) (pa_cons (pv 14) pa_nil)))))))))
 (pss_one (ps_ret pe_bl))
 pss_nil)
 (pss_one (ps_for PassesOwn.never rfl (pi_list (pe_lst (pa_cons (pe_call (ok_l_pick T B) (hr.mono (by decide)) (by rfl) T.m_l_pick T.F_l_pick.kp T.bi_l_pick .nil pass0 (pa_cons (pv 1) (pa_cons (pe_lst (pa_cons pe_non (pa_cons pe_int (pa_cons pe_str (pa_cons (pe_lst (pa_cons pe_str pa_nil)) (pa_cons (pe_op op_add_str (pe_ix ix_list (pv 11) (pe_un un_neg pe_int) (fun _ _ => rfl)) pe_str) pa_nil)))))) pa_nil))) (pa_cons (pe_op op_add_str (pe_ix ix_list (pv 11) (pe_un un_neg pe_int) (fun _ _ => rfl)) (pe_ix ix_str (pv 9) pe_int (fun _ _ => rfl))) pa_nil)))) (pg_name (i := 15) sc_law.nd rfl (by first | exact Or.inl rfl | exact Or.inr rfl))
 (pss_one (ps_if (pt_cmpR (op_neSameT (Nat.lt_of_le_of_lt (Nat.le_add_right _ 65) hu65)) (pe_lamcall (T := tabs T) (k := 6) (Ng := N_l_caught) (by rfl) T.m_l_caught T.F_l_caught.kp lk_l_caught cg_l_caught bi_l_caught sc_l_caught rfl (by first | exact Or.inl rfl | exact Or.inr (Or.inl rfl) | exact Or.inr (Or.inr rfl)) (gives_l_caught T _ rfl rfl _ _) B.tb_law hcd (mem_law T) (uniq_law T) (hr.mono (by decide)) (lamS_by (sc := defScope s_law) (by decide +kernel)) rfl (fun _ _ _ _ _ => rfl) (fun A outer s H E f c' hr2 => (pe_call (ok_kind_of T B) (hr2.mono (by decide)) (by rfl) T.m_kind_of T.F_kind_of.kp T.bi_kind_of .nil (passes_call (takes_of rfl rfl rfl rfl) (fun _ _ _ _ h => h)) (pa_cons (pv 13) (pa_cons (pv 15) pa_nil))))) (pe_tup (pa_cons pe_str (pa_cons (pv 15) pa_nil))) (nomark _))
 (pss_one (ps_ret pe_bl))
 pss_nil))))))))))))
 (pss_cons (ps_set (i := 15) sc_law.nd rfl (by first | exact Or.inl rfl | exact Or.inr rfl) (pe_call (ok_l_pick T B) (hr.mono (by decide)) (by rfl) T.m_l_pick T.F_l_pick.kp T.bi_l_pick .nil pass0 (pa_cons (pv 1) (pa_cons (pe_lst (pa_cons pe_str (pa_cons pe_str (pa_cons pe_str (pa_cons pe_non (pa_cons pe_int (pa_cons (pe_lst (pa_cons pe_str pa_nil)) (pa_cons (pe_tup (pa_cons pe_str pa_nil)) (pa_cons pe_str (pa_cons pe_bl (pa_cons (pe_disp (pps_cons pe_str pe_int pps_nil) (by rfl) (by rfl) (fun z => by cases z) (by decide)) pa_nil))))))))))) pa_nil))))
 (pss_cons (ps_if (pt_cmpR (op_neSameT (Nat.lt_of_le_of_lt (Nat.le_add_right _ 65) hu65)) (pe_lamcall (T := tabs T) (k := 6) (Ng := N_l_caught) (by rfl) T.m_l_caught T.F_l_caught.kp lk_l_caught cg_l_caught bi_l_caught sc_l_caught rfl (by first | exact Or.inl rfl | exact Or.inr (Or.inl rfl) | exact Or.inr (Or.inr rfl)) (gives_l_caught T _ rfl rfl _ _) B.tb_law hcd (mem_law T) (uniq_law T) (hr.mono (by decide)) (lamS_by (sc := defScope s_law) (by decide +kernel)) rfl (fun _ _ _ _ _ => rfl) (fun A outer s H E f c' hr2 => (pe_call (ok_known_rule T B) (hr2.mono (by decide)) (by rfl) T.m_known_rule T.F_known_rule.kp T.bi_known_rule .nil (passes_call (takes_of rfl rfl rfl rfl) (fun _ _ _ _ h => h)) (pa_cons (pv 15) pa_nil)))) (pe_tup (pa_cons pe_str (pa_cons (pv 15) pa_nil))) (nomark _))
 (pss_one (ps_ret pe_bl))
 pss_nil)
 (pss_one (ps_ret (pe_call (ok_l_known_right T B) (hr.mono (by decide)) (by rfl) T.m_l_known_right T.F_l_known_right.kp T.bi_l_known_right .nil pass0 (pa_cons (pe_call (ok_l_pick T B) (hr.mono (by decide)) (by rfl) T.m_l_pick T.F_l_pick.kp T.bi_l_pick .nil pass0 (pa_cons (pv 1) (pa_cons (pe_lst (pa_cons pe_str (pa_cons pe_str (pa_cons pe_str (pa_cons pe_str pa_nil))))) pa_nil))) pa_nil))))))))))))))))))), ?_⟩
  refine ⟨_, rfl, a, ns, rfl, hS, fun H1 d c s1 p1 => ?_⟩
  have t1 := tb.ext s1
  -- the kinds
  refine ⟨_, rfl, d, c, 0, rfl, p1, by omega, fun H2 ra xs ks sb1 hra kx k2 p2 => ?_⟩
  have t2 := tabs_kp t1 p1 k2
  refine ⟨_, rfl, d, c, 13, rfl, p2, by omega, fun H3 oa zs ls sb2 hoa kz k3 p3 => ?_⟩
  have t3 := tabs_kp t2 p2 k3
  have hra := lst_kp p2 k3 hra
  have kx := AllK.kp p2 k3 p3 kx
  obtain ⟨nd1, ok1, l1, so1⟩ := sub12 sb1
  obtain ⟨nd2, ok2, l2, so2⟩ := sub12 sb2
  refine ⟨by show 2 ≤ sizeLine; decide, fun tp htp => ?_⟩
  have s4 := same_upd (o := .tup [V.ref ra, .ref oa]) htp
  have g4 : (upd H3 tp (.tup [V.ref ra, .ref oa])) tp = some (.tup [V.ref ra, .ref oa]) := upd_same
  have p4 := p3.same s4
  have t4 := t3.ext s4
  have hra := s4 _ _ hra
  have hoa := s4 _ _ hoa
  have kx := AllK.same s4 kx
  have kz := AllK.same s4 kz
  generalize upd H3 tp (.tup [V.ref ra, .ref oa]) = H4 at s4 g4 p4 t4 hra hoa kx kz
  refine ⟨tp, _, rfl, SqT.of g4, rfl, _, _, rfl, _, _, rfl, rfl, ?_⟩
  -- their shapes
  refine ⟨_, rfl, _, rfl, d, c, ra, 26, xs, ks, rfl, p4, by omega, hra, kx, l1, fun H5 ta ys js pm1 hta py nta k5 p5 => ?_⟩
  have t5 := tabs_kp t4 p4 k5
  have nra : ra ≠ ta := ne_of_none hra nta
  have noa : oa ≠ ta := ne_of_none hoa nta
  have hra := lst_kp p4 k5 hra
  have hoa := lst_kp p4 k5 hoa
  have kx := AllK.kp p4 k5 p5 kx
  have kz := AllK.kp p4 k5 p5 kz
  refine ⟨_, rfl, _, rfl, d, c, oa, 50, zs, ls, rfl, p5, by omega, hoa, kz, l2, fun H6 ba us is pm2 hba pu nba k6 p6 => ?_⟩
  have t6 := tabs_kp t5 p5 k6
  have nba : ba ≠ ta := (ne_of_none hta nba).symm
  have hta := lst_kp p5 k6 hta
  have hra := lst_kp p5 k6 hra
  have hoa := lst_kp p5 k6 hoa
  have kx := AllK.kp p5 k6 p6 kx
  have kz := AllK.kp p5 k6 p6 kz
  have py := paired_mono (fun _ _ q => KiE.kp (kpS_pen p5 k6 p6) q) py
  refine ⟨_, _, rfl, ?_⟩
  have okj : ∀ k ∈ js, 0 ≤ k.2.2 ∧ k.2.2 ≤ 2 := fun k hk => ok1 k (pm1.mem_iff.mp hk)
  have oki : ∀ k ∈ is, 0 ≤ k.2.2 ∧ k.2.2 ≤ 2 := fun k hk => ok2 k (pm2.mem_iff.mp hk)
  have ndj := pm1.nodup_iff.mpr nd1
  have ndi := pm2.nodup_iff.mpr nd2
  have lj : js.length ≤ 12 := by rw [pm1.length_eq]; exact l1
  have li : is.length ≤ 12 := by rw [pm2.length_eq]; exact l2
  have hyl : ys.length = js.length := py.length
  -- the rule
  dsimp only
  refine asgI ?_
  refine mkR ndj ndi (by omega) (by omega) (fun R hR => ?_) (fun H8 rp j1 j2 s78 nrp r8 m1 o1 m2 o2 => ?_)
  · refine ⟨_, rfl, _, rfl, ba, us, rfl, .inl ⟨SqL.of hba, fun tu htu => ?_⟩⟩
    have s7 := same_upd (o := .tup us) htu
    exact hR _ ta tu _ _ s7 (.inl (s7 _ _ hta)) (.inr upd_same) (AllV.kp (kpS_same s7) (kiV py okj)) (AllV.kp (kpS_same s7) (kiV pu oki))
  obtain rfl := (srt_uniq o1 so1 (m1.trans pm1)).symm
  obtain rfl := (srt_uniq o2 so2 (m2.trans pm2)).symm
  have p8 := p6.same s78
  have t8 := t6.ext s78
  have hta := s78 _ _ hta
  have hra := s78 _ _ hra
  have hoa := s78 _ _ hoa
  have hba := s78 _ _ hba
  have kx := AllK.same s78 kx
  have kz := AllK.same s78 kz
  have py := paired_mono (fun _ _ q => KiE.kp (kpS_same s78) q) py
  have pu := paired_mono (fun _ _ q => KiE.kp (kpS_same s78) q) pu
  -- told.append(None)
  refine ⟨_, rfl, .inl ⟨rfl, _, SqL.of hta⟩, ta, _, _, rfl, rfl, hta, by rw [sizeLine_eq]; omega, ?_⟩
  have py9 := paired_mono (fun _ _ q => KiE.put (zs := ys ++ [.non]) hta py q) py
  have pu9 := paired_mono (fun _ _ q => KiE.put (zs := ys ++ [.non]) hta py q) pu
  have hta9 : (upd H8 ta (.lst (ys ++ [V.non]))) ta = some (.lst (ys ++ [.non])) := upd_same
  have hba9 : (upd H8 ta (.lst (ys ++ [V.non]))) ba = some (.lst us) := by rw [upd_ne nba]; exact hba
  have l9 : Ly (tabs T) T.c_Rule d c ra oa rp ks ls 74 (upd H8 ta (.lst (ys ++ [.non]))) :=
    ⟨Pen.put p4 nta p8, tabs_put t8 hta (by intro ps z; cases z) (by intro c q z; unfold CodeO at z; cases z), ⟨xs, by rw [upd_ne nra]; exact hra, AllK.putL hta kx⟩, ⟨zs, by rw [upd_ne noa]; exact hoa, AllK.putL hta kz⟩, RuleAt.putL hta r8⟩
  generalize upd H8 ta (.lst (ys ++ [V.non])) = H9 at py9 pu9 hta9 hba9 l9
  refine ⟨_, rfl, _, rfl, 1, rfl, -1, rfl, ta, _, rfl, SqL.of hta9, fun tt htt => ?_⟩
  rw [cut_butlast, List.dropLast_concat]
  have s10 := same_upd (o := .lst ys) htt
  have g10 : (upd H9 tt (.lst ys)) tt = some (.lst ys) := upd_same
  have l10 := l9.same s10
  have py10 := paired_mono (fun _ _ q => KiE.kp (kpS_same s10) q) py9
  have pu10 := paired_mono (fun _ _ q => KiE.kp (kpS_same s10) q) pu9
  have hba10 := s10 _ _ hba9
  generalize upd H9 tt (.lst ys) = H10 at g10 l10 py10 pu10 hba10
  refine ⟨_, rfl, d, c, tt, ba, 74, ys, us, js, is, rfl, l10.pen, by omega, g10, hba10, py10, pu10, ndj, ndi, okj, oki, lj, li, l10.tabs, fun H11 m hm k11 p11 t11 i11 => ?_⟩
  refine ⟨_, rfl, iteF ?_⟩
  have l11 := (l10.to k11 p11 t11 i11).up (m := 84) (by omega)
  obtain ⟨xs, hra, kx⟩ := l11.ra
  obtain ⟨zs, hoa, kz⟩ := l11.oa
  refine ⟨_, rfl, _, rfl, _, rfl, rp, ra, oa, xs, zs, ks, ls, rfl, l11.rule, hra, hoa, kx, kz, by omega, by omega, fun H12 s12 => ⟨_, rfl, iteF ?_⟩⟩
  have l12 := l11.same s12
  clear hra hoa kx kz
  obtain ⟨xs, hra, kx⟩ := l12.ra
  obtain ⟨zs, hoa, kz⟩ := l12.oa
  -- equal rules
  refine nextS ?_
  dsimp only
  refine ⟨_, rfl, ?_⟩
  refine mkR2 rfl rfl hra hoa kx kz sb1 sb2 fun H13 r13 s13 q13 => ?_
  refine eq_rules (l12.rule.same s13) q13 ?_
  rw [decide_eq_true (show ks = ks ∧ ls = ls from ⟨rfl, rfl⟩)]
  refine ⟨_, rfl, iteF ?_⟩
  have l13 := l12.same s13
  have hra := s13 _ _ hra
  have hoa := s13 _ _ hoa
  refine ⟨_, rfl, _, rfl, ra, xs, rfl, .inl ⟨SqL.of hra, fun u1 hu1 => ?_⟩⟩
  have s14 := same_upd (o := .tup xs) hu1
  have l14 := l13.same s14
  have hoa := s14 _ _ hoa
  generalize upd H13 u1 (.tup xs) = H14 at s14 l14 hoa
  refine ⟨_, rfl, oa, zs, rfl, .inl ⟨SqL.of hoa, fun u2 hu2 => ?_⟩⟩
  have s15 := same_upd (o := .tup zs) hu2
  have l15 := l14.same s15
  generalize upd H14 u2 (.tup zs) = H15 at s15 l15
  refine ⟨by show 2 ≤ sizeLine; decide, fun u3 hu3 => ?_⟩
  have s16 := same_upd (o := .tup [V.ref u1, .ref u2]) hu3
  have l16 := l15.same s16
  have g16 : (upd H15 u3 (.tup [V.ref u1, .ref u2])) u3 = some (.tup [V.ref u1, .ref u2]) := upd_same
  generalize upd H15 u3 (.tup [V.ref u1, .ref u2]) = H16 at s16 l16 g16
  obtain ⟨dx, z1, z2, z3, z4, i16, _⟩ := l16.rule
  refine ⟨rp, u3, dx, _, _, rfl, rfl, i16, g16, ?_⟩
  refine ⟨_, rfl, _, _, _, _, _, rfl, .own _, .base (.tup g16), kit_tup T.kl_Rule, _, rfl, rfl, i16, g16, _, rfl, iteF ?_⟩
  -- lacking
  refine nextS ?_
  dsimp only
  refine asgI ?_
  obtain ⟨xs, hra, kx⟩ := l16.ra
  obtain ⟨zs, hoa, kz⟩ := l16.oa
  refine lcKE (K := K) (i := 16) (ks := E12) (fun R hR => ?_) (by decide) (fun k => decide (k ∉ ls)) (fun x => rfl) (fun x => rfl) (fun t k H' Z _ ht s17 hZ => ?_) (fun H17 la vs s17 hla kv => ?_)
  · exact ⟨rfl, fun H2 a xs s n h k => hR _ _ _ s h k⟩
  · refine ⟨_, rfl, _, rfl, ?_⟩
    refine not_inK ht (s17 _ _ hoa) (AllK.same s17 kz) ?_
    exact ⟨_, rfl, hZ _ (fun _ _ h => h)⟩
  have l17 := l16.same s17
  have hra := s17 _ _ hra
  have hoa := s17 _ _ hoa
  have kx := AllK.same s17 kx
  have kz := AllK.same s17 kz
  dsimp only [gName]
  refine ⟨_, rfl, ?_⟩
  refine mkR2 rfl rfl hoa hra kz kx sb2 sb1 fun H18 r18 s18 q18 => ?_
  refine eq_rules (l17.rule.same s18) q18 ?_
  have l18 := l17.same s18
  have hra := s18 _ _ hra
  have hoa := s18 _ _ hoa
  have hla := s18 _ _ hla
  have kx := AllK.same s18 kx
  have kz := AllK.same s18 kz
  have kv := AllK.same s18 kv
  refine ⟨_, rfl, _, rfl, _, _, .lst (SqL.of hra) (AllK.dp kx), .lst (SqL.of hoa) (AllK.dp kz), kds_shapedL ks, kds_shapedL ls, ?_⟩
  rw [kds_eqvL]
  have e18 : decide (ks = ls ∧ ls = ks) = decide (ks = ls) := by rw [decide_eq_decide]; exact ⟨fun h => h.1, fun h => ⟨h, h.symm⟩⟩
  rw [e18]
  refine ⟨rfl, _, rfl, ?_⟩
  rw [decide_eq_true (show V.bl (decide (ks = ls)) = V.bl (decide (ks = ls)) from rfl)]
  refine iteF ?_
  refine ⟨_, rfl, ?_⟩
  refine mkR2 rfl rfl hra hla kx kv sb1 List.filter_sublist fun H19 r19 s19 q19 => ?_
  refine eq_rules (l18.rule.same s19) q19 ?_
  rw [decide_eq_false (show ¬ (ks = ks ∧ ls = E12.filter fun k => decide (k ∉ ls)) from fun h => kds_ne h.2.symm)]
  refine ⟨_, rfl, iteF ?_⟩
  have l19 := l18.same s19
  have hoa := s19 _ _ hoa
  have kz := AllK.same s19 kz
  -- the ends
  refine nextS ?_
  dsimp only
  refine asgI ?_
  refine lcK (K := K) (i := 16) (j := 3) rfl hoa kz (by omega) (fun k => decide (k.2.2 = 0)) (fun x => rfl) (fun x => rfl) (fun t k H' Z _ ht s20 hZ => ?_) (fun H20 ea es s20 n20 hea ke => ?_)
  · refine ⟨_, rfl, t, _, _, _, rfl, rfl, SqT.of ht, atI_nat (j := 2) rfl, rfl, _, rfl, ?_⟩
    rw [show decide (V.int k.2.2 = V.int 0) = decide (k.2.2 = 0) from decide_eq_decide.mpr ⟨fun h => V.int.inj h, fun h => by rw [h]⟩]
    exact hZ _ (fun _ _ h => h)
  have l20 := l19.same s20
  dsimp only [gName]
  refine seqW (fun σ' H' => σ' = [some (.ref a), some (.ref d), some (.ref ra), some (.ref oa), some (.ref ta), some (.ref ba), some (.ref rp), some (.ref la), some (.ref ea), none, none, none, none, none, none, none, none, none, none] ∧ Ly (tabs T) T.c_Rule d c ra oa rp ks ls 84 H')
    (fun N hN => ?_) (fun σ' H22 ⟨e, l22⟩ => ?_)
  · refine ⟨_, rfl, rp, ks, ls, rfl, l20.rule, by omega, fun H21 s21 => ?_⟩
    have l21 := l20.same s21
    have hea := s21 _ _ hea
    have ke := AllK.same s21 ke
    have el := leastV_of ls
    generalize leastV ls = lv at el
    refine ⟨_, rfl, Nat.zero_le _, fun e0 he0 => ?_⟩
    have s22 := same_upd (o := .lst []) he0
    have g22 : (upd H21 e0 (.lst [])) e0 = some (.lst []) := upd_same
    have l22 := l21.same s22
    have hea := s22 _ _ hea
    have ke := AllK.same s22 ke
    generalize upd H21 e0 (.lst []) = H22 at s22 g22 l22 hea ke
    refine ⟨_, _, .lst (SqL.of hea) (AllK.dp ke), .lst (SqL.of g22) .nil, kds_shapedL _, by decide +kernel, _, rfl, ?_⟩
    rw [kds_nil]
    refine ite2 (fun h => ?_) (fun h => ?_)
    · rw [if_neg (fun e => by rw [decide_eq_true e] at h; cases h)] at el
      subst el
      refine ⟨rfl, _, rfl, ?_⟩
      rw [decide_eq_true (show V.int 1 = V.int 1 from rfl)]
      exact iteF (hN _ _ ⟨rfl, l22⟩)
    · rw [if_pos (Decidable.byContradiction fun n => h (by rw [decide_eq_false n]; rfl))] at el
      subst el
      refine ⟨rfl, _, rfl, ?_⟩
      rw [decide_eq_true (show V.non = V.non from rfl)]
      exact iteF (hN _ _ ⟨rfl, l22⟩)
  subst e
  -- letters
  refine ⟨_, rfl, d, c, 84, rfl, l22.pen, by omega, fun H23 z lz l5 k23 p23 => ?_⟩
  have l23 := l22.kp k23 p23
  have z2 := lz.l2
  -- trees
  dsimp only [gName]
  refine ⟨_, rfl, by decide, by decide, ?_⟩
  refine for_range (fun k σ H' => ∃ v10 v11 v12 v13 v14 v15, σ = [some (.ref a), some (.ref d), some (.ref ra), some (.ref oa), some (.ref ta), some (.ref ba), some (.ref rp), some (.ref la), some (.ref ea), some (.str (sw z)), v10, v11, v12, v13, v14, v15, none, none, none] ∧ Ly (tabs T) T.c_Rule d c ra oa rp ks ls (90 + 60 * k) H')
    ⟨_, _, _, _, _, _, rfl, l23⟩ (fun k σ H24 hk ⟨v10, v11, v12, v13, v14, v15, e, l24⟩ => ?_) (fun σ H24 ⟨v10, v11, v12, v13, v14, v15, e, l24⟩ => ?_)
  · subst e
    have hk2 : k < 2 := hk
    refine ⟨_, rfl, _, rfl, _, rfl, d, c, 90 + 60 * k, z, rfl, l24.pen, by omega, lz, fun H25 pa ps pk hpa k25 p25 => ?_⟩
    have l25 := l24.kp k25 p25
    have qk := pk.ps
    have psl : ps.length ≤ 9 := pk.len
    refine ⟨z, pa, ps, rfl, SqL.of hpa, fun p hp => ⟨qk.l200 p hp, qk.wd p hp⟩, l25.tabs, fun H26 qa s26 hqa => ?_⟩
    have l26 := l25.sm s26
    have ok := qk.ord
    have oo : ordW z (ordW z ps) = ordW z ps := ordW_idem qk.wd
    have osl : (ordW z ps).length ≤ 9 := by rw [ordW_len]; exact psl
    obtain ⟨lp, hlp⟩ : ∃ p, (ordW z ps).getLast? = some p := by
      cases e : (ordW z ps).getLast? with
      | some p => exact ⟨p, rfl⟩
      | none =>
        rw [List.getLast?_eq_none_iff] at e
        have := ok.clo.1
        rw [e] at this
        cases this
    have hno : ∀ x, lp ++ [x] ∉ ordW z ps := fun x => last_no hlp x
    have hlpm : lp ∈ ordW z ps := List.mem_of_getLast? hlp
    have hlp200 := ok.l200 lp hlpm
    generalize hos : ordW z ps = os at hqa ok oo osl hlp hno hlpm
    -- rows
    dsimp only [gName]
    refine asgS (fun v H6 => ∃ rwa acc, v = .ref rwa ∧ Kp d H26 H6 ∧ Pen H6 d c (90 + 60 * k + 45) ∧ H6 rwa = some (.lst acc) ∧ Paired (RwP H6) acc os ∧ rwa ≠ d) (fun R hR => ?_) (fun v H27 ⟨rwa, acc, e1, k27, p27, hrw, pa27, nrd⟩ => ?_)
    · have nod : qa ≠ d := by
        obtain ⟨kvs, hd⟩ := l26.pen.at
        exact ne_of hqa hd (by intro z; cases z)
      refine ⟨_, rfl, qa, rfl, ⟨_, SqL.of hqa⟩, fun D hD => ?_⟩
      have p26 := l26.pen
      have nDd := p26.ne_free hD
      refine lcG (walk_list (K := K) (a := qa) (xs := wsV os)) yat (paired_self os) (fun i H' => Kp d H26 H' ∧ Pen H' d c (90 + 60 * k + 16 + 3 * i)) ⟨kp_new hD, p26.same (same_upd hD)⟩ (fun i H' acc ⟨k, p⟩ => ⟨kp_put0 k hD, Pen.put p26 hD p⟩) (fun i H' _ ⟨k, _⟩ => SqL.of (k _ _ hqa nod)) (by omega) (fun _ => true) RwP (fun H' acc acc' v u hD2 ⟨o, f, h, hv⟩ => ⟨o, f, h.putL hD2, hv⟩)
        (fun i x p H' acc R' N hp hx ⟨k, pp⟩ hD2 k1 _ => ?_) (fun H' acc ⟨k, pp⟩ hD2 pr => hR _ _ ⟨D, acc, rfl, k, pp.mono (by rw [List.length_map]; omega), hD2, by rw [filter_tt] at pr; exact pr, nDd⟩)
      subst hx
      have hi2 := (List.getElem?_eq_some_iff.mp hp).1
      refine ⟨rfl, yes_ite ?_⟩
      refine ⟨_, rfl, _, rfl, d, c, _, p, rfl, pp, by omega, fun H7 v o f ho hv k7 p7 => ?_⟩
      obtain ⟨kvs, hd⟩ := pp.at
      exact k1 rfl _ _ ⟨k.trans k7, p7.mono (by omega)⟩ (k7 _ _ hD2 nDd) (fun v u ⟨o, f, h, hv⟩ => ⟨o, f, h.kp hd k7, hv⟩) ⟨o, f, hv, ho⟩
    subst e1
    obtain ⟨rs, rfl, pr27, hv27⟩ := rows_of pa27
    have l27 := l26.kp k27 p27
    have hqa27 := lst_kp l26.pen k27 hqa
    have hrl : rs.length ≤ 9 := by rw [List.length_map] at osl; exact osl
    have hal := pr27.length
    -- perhaps without flags
    dsimp only [gName]
    refine seqW (fun σ' H' => ∃ ra2 acc2 rs2, σ' = [some (.ref a), some (.ref d), some (.ref ra), some (.ref oa), some (.ref ta), some (.ref ba), some (.ref rp), some (.ref la), some (.ref ea), some (.str (sw z)), some (.int (0 + (k : Int))), some (.ref qa), some (.ref ra2), v13, v14, v15, none, none, none] ∧ Ly (tabs T) T.c_Rule d c ra oa rp ks ls (90 + 60 * k + 46) H' ∧
        H' qa = some (.lst (wsV (rs.map (·.1)))) ∧ H' ra2 = some (.lst acc2) ∧ Paired (RwT H') acc2 rs2 ∧ rs2.map (·.1) = rs.map (·.1) ∧ ∀ r ∈ rs2, ∀ i, r.2.1 = some i → 1 ≤ i ∧ i ≤ 9)
      (fun N hN => ?_) (fun σ' H30 ⟨ra2, acc2, rs2, e, l30, hqa30, hrw30, pr30, ers, hv30⟩ => ?_)
    · refine ⟨_, rfl, d, c, _, 2, rfl, l27.pen, by omega, by decide, by decide, fun H28 r r0 r1 k28 p28 => ⟨rfl, _, rfl, ?_⟩⟩
      have l28 := (l27.kp k28 p28).up (m := 90 + 60 * k + 46) (by omega)
      have hqa28 := lst_kp l27.pen k28 hqa27
      have hrw28 := lst_kp l27.pen k28 hrw
      obtain ⟨kvs27, hd27⟩ := l27.pen.at
      have pr28 := paired_mono (fun _ _ h => RwT.kp hd27 k28 h) pr27
      refine ite2 (fun _ => ?_) (fun _ => ?_)
      · refine asgE ?_
        refine ⟨_, rfl, rwa, rfl, ⟨_, SqL.of hrw28⟩, fun D hD => ?_⟩
        refine lcG (walk_list (K := K) (a := rwa) (xs := acc)) yat pr28 (fun i H' => Same H28 H') (same_upd hD) (fun i H' acc s b o h => ?_) (fun i H' _ s => SqL.of (s _ _ hrw28)) (by omega) (fun _ => true) (fun H' v u => RwT H' v (offR u)) (fun H' acc acc' v u hD2 h => h.putL hD2)
          (fun i x u H' acc' R' N hu hx s hD2 k1 _ => ?_) (fun H' acc' s hD2 pr => ?_)
        · rw [upd_ne (ne_of_none h hD)]
          exact s _ _ h
        · obtain ⟨g, rfl, hg⟩ := RwT.same s hx
          refine ⟨rfl, yes_ite ?_⟩
          refine ⟨_, rfl, g, _, _, _, rfl, rfl, SqT.of hg, atI_nat (j := 0) rfl, _, rfl, g, _, _, _, rfl, rfl, SqT.of hg, atI_nat (j := 1) rfl, by show 3 ≤ sizeLine; decide, fun t2 ht2 => ?_⟩
          have sl := same_upd (o := .tup [V.str (sw u.1), oV u.2.1, .bl false]) ht2
          exact k1 rfl _ _ (s.trans sl) (sl _ _ hD2) (fun v u h => RwT.same sl h) ⟨t2, rfl, upd_same⟩
        · rw [filter_tt] at pr
          have ss := s
          exact hN _ _ ⟨D, acc', rs.map offR, rfl, l28.same s, s _ _ hqa28, hD2, paired_map (f := offR) (fun _ _ h => h) pr, offR_fst rs, fun r hr i e => by
            obtain ⟨r0, hr0, rfl⟩ := List.mem_map.mp hr
            exact hv27 r0 hr0 i e⟩
      · exact hN _ _ ⟨rwa, acc, rs, rfl, l28, hqa28, hrw28, pr28, rfl, hv27⟩
    subst e
    rw [← ers] at hqa30 ok oo hno hlp hlpm
    have hrl2 : rs2.length ≤ 9 := by
      have := congrArg List.length ers
      rw [List.length_map, List.length_map] at this
      omega
    have hal2 := pr30.length
    have gu := ok.good hv30
    have odr : rs2.map (·.1) = ordW z (rs2.map (·.1)) := oo.symm
    -- the tree
    refine asgI ?_
    refine ⟨_, rfl, _, rfl, _, rfl, d, c, ra2, _, acc2, rfl, l30.pen, by omega, hrw30, by omega, fun H31 sa ys31 pm31 hsa k31 p31 => ?_⟩
    obtain ⟨us31, pmu, pu⟩ := perm_paired pm31 pr30
    have l31 := (l30.kp k31 p31).up (m := 90 + 60 * k + 56) (by omega)
    have hqa31 := lst_kp l30.pen k31 hqa30
    have hrw31 := lst_kp l30.pen k31 hrw30
    obtain ⟨kvs30, hd30⟩ := l30.pen.at
    have pr31 := paired_mono (fun _ _ h => RwT.kp hd30 k31 h) pr30
    have pu31 := paired_mono (fun _ _ h => RwT.kp hd30 k31 h) pu
    have odu : rs2.map (·.1) = ordW z (us31.map (·.1)) := by
      rw [odr]
      exact ordW_uniq ((pmu.map _).symm) (fun p hp => ok.wd p hp)
    refine fun x dx hx hdx hne => mk_tree' lz hsa (paired_mono (fun _ _ h => RwT.e h) pu31) (gu.perm pmu) pmu odu l31.tabs x dx hx hdx hne _ fun H32 s32 tx => ⟨rfl, ?_⟩
    have l32 := l31.sm s32
    have hqa32 := s32.get hqa31
    have hrw32 := s32.get hrw31
    have pr32 := paired_mono (fun _ _ h => RwT.sm s32 h) pr31
    -- bare
    refine ⟨rfl, fun H33 e1 xs1 s33 n1 h1 kk1 => ⟨_, rfl, e1, xs1, rfl, SqL.of h1, fun q1 hq1 => ?_⟩⟩
    rw [cut_3]
    have s34 := same_upd (o := .lst (xs1.take 3)) hq1
    have g34 : (upd H33 q1 (.lst (xs1.take 3))) q1 = some (.lst (xs1.take 3)) := upd_same
    have kk34 := AllK.same s34 kk1
    generalize upd H33 q1 (.lst (xs1.take 3)) = H34 at s34 g34 kk34
    refine ⟨rfl, fun H35 e2 xs2 s35 n2 h2 kk2 => ⟨_, rfl, _, rfl, e2, xs2, rfl, SqL.of h2, fun q2 hq2 => ?_⟩⟩
    rw [cut_69 (by rw [AllK.len kk2]; rfl)]
    have s36 := same_upd (o := .lst ((xs2.drop 6).take 3)) hq2
    have g36 : (upd H35 q2 (.lst ((xs2.drop 6).take 3))) q2 = some (.lst ((xs2.drop 6).take 3)) := upd_same
    have kk36 := AllK.same s36 kk2
    generalize upd H35 q2 (.lst ((xs2.drop 6).take 3)) = H36 at s36 g36 kk36
    have s3436 := s35.trans s36
    have lx1 : xs1.length = 12 := AllK.len kk1
    have lx2 : xs2.length = 12 := AllK.len kk2
    refine ⟨q1, q2, _, _, rfl, rfl, s3436 _ _ g34, g36, by rw [sizeLine_eq, List.length_take, List.length_take, List.length_drop]; omega, fun q3 hq3 => ?_⟩
    have s37 := same_upd (o := .lst (xs1.take 3 ++ (xs2.drop 6).take 3)) hq3
    have g37 : (upd H36 q3 (.lst (xs1.take 3 ++ (xs2.drop 6).take 3))) q3 = some (.lst (xs1.take 3 ++ (xs2.drop 6).take 3)) := upd_same
    have kb : AllK (upd H36 q3 (.lst (xs1.take 3 ++ (xs2.drop 6).take 3))) (xs1.take 3 ++ (xs2.drop 6).take 3) (E12.take 3 ++ (E12.drop 6).take 3) :=
      AllK.same s37 (AllK.append (AllK.take 3 (AllK.same s3436 kk34)) (AllK.take 3 (AllK.drop 6 kk36)))
    have sB := ((s33.trans s34).trans s3436).trans s37
    have l37 := l32.same sB
    have tx37 := tx.same sB
    have hqa37 := sB _ _ hqa32
    have hrw37 := sB _ _ hrw32
    have pr37 := paired_mono (fun _ _ h => RwT.same sB h) pr32
    generalize hxb : xs1.take 3 ++ (xs2.drop 6).take 3 = xb at g37 kb l37 tx37 hqa37 hrw37 pr37 s37 sB
    generalize upd H36 q3 (.lst xb) = H37 at g37 kb l37 tx37 hqa37 hrw37 pr37 s37 sB
    -- the two rules
    have h200 : ∀ r ∈ rs2, r.1.length ≤ 200 := fun r hr => (gu.ok r hr).l200
    obtain ⟨xs, hra, kx⟩ := l37.ra
    obtain ⟨zs, hoa, kz⟩ := l37.oa
    refine ⟨_, rfl, _, rfl, _, rfl, _, rfl, _, rfl, _, rfl, z, x, ra2, rp, ra, oa, acc2, rs2, xs, zs, ks, ls, rfl, tx37, hrw37, pr37, gu.nd, lz.l26, h200, by omega, l37.rule, hra, hoa, kx, kz, fun H38 s38 => ⟨_, rfl, iteF ?_⟩⟩
    have l38 := l37.same s38
    have tx38 := tx37.same s38
    have hqa38 := s38 _ _ hqa37
    have hrw38 := s38 _ _ hrw37
    have g38 := s38 _ _ g37
    have kb38 := AllK.same s38 kb
    have pr38 := paired_mono (fun _ _ h => RwT.same s38 h) pr37
    refine ⟨_, rfl, _, rfl, _, rfl, _, rfl, .inl ⟨"bare", rfl, by decide +kernel⟩, fun s e hs H39 kp s39 nkp rk => ?_, fun o => (no_oddK (by decide +kernel) o).elim⟩
    cases e
    rw [← bareK.1, ← bareK.2] at rk
    refine ⟨_, rfl, _, rfl, z, x, ra2, kp, q3, q3, acc2, rs2, xb, xb, _, _, rfl, tx38.same s39, s39 _ _ hrw38, paired_mono (fun _ _ h => RwT.same s39 h) pr38, gu.nd, lz.l26, h200, by omega, rk, s39 _ _ g38, s39 _ _ g38, AllK.same s39 kb38, AllK.same s39 kb38, fun H40 s40 => ⟨_, rfl, iteF ?_⟩⟩
    have s3940 := s39.trans s40
    have l40 := l38.same s3940
    have tx40 := tx38.same s3940
    have hqa40 := s3940 _ _ hqa38
    -- odd places
    have hwl : ∀ p ∈ rs2.map (·.1), ∀ c ∈ p, c ≠ 65 := fun p hp c hc e => small65 (e ▸ lz.sm c (ok.wd p hp c hc))
    have hlast : (wsV (rs2.map (·.1))).getLast? = some (V.str (sw lp)) := by
      unfold wsV
      rw [List.getLast?_map, hlp]
      rfl
    obtain ⟨c0, hc0⟩ : ∃ c0, z[0]? = some c0 := ⟨_, List.getElem?_eq_getElem (by omega)⟩
    refine ⟨_, rfl, by show 1 ≤ sizeLine; decide, fun t1 ht1 => ?_⟩
    have s41 := same_upd (o := .lst [V.str "a"]) ht1
    have g41 : (upd H40 t1 (.lst [V.str "a"])) t1 = some (.lst [V.str "a"]) := upd_same
    have l41 := l40.same s41
    have tx41 := tx40.same s41
    have hqa41 := s41 _ _ hqa40
    generalize upd H40 t1 (.lst [V.str "a"]) = H41 at s41 g41 l41 tx41 hqa41
    refine ⟨_, rfl, 1, rfl, qa, _, -1, _, rfl, rfl, SqL.of hqa41, at_last hlast, _, _, rfl, rfl, by rw [strA, sw_len, sw_len, sizeLine_eq]; show _ + 1 ≤ _; omega, by show 5 ≤ sizeLine; decide, fun t2 ht2 => ?_⟩
    rw [strA, sw_app]
    have s42 := same_upd (o := .lst [V.non, .int 3, .str (sw [65]), .ref t1, .str (sw (lp ++ [65]))]) ht2
    have g42 : (upd H41 t2 (.lst [V.non, .int 3, .str (sw [65]), .ref t1, .str (sw (lp ++ [65]))])) t2 = some (.lst [V.non, .int 3, .str (sw [65]), .ref t1, .str (sw (lp ++ [65]))]) := upd_same
    have l42 := l41.same s42
    have tx42 := tx41.same s42
    have hqa42 := s42 _ _ hqa41
    have g41' := s42 _ _ g41
    generalize upd H41 t2 (.lst [V.non, .int 3, .str (sw [65]), .ref t1, .str (sw (lp ++ [65]))]) = H42 at s42 g42 l42 tx42 hqa42 g41'
    have np42 : ∀ v ∈ [V.non, .int 3, .str (sw [65]), .ref t1, .str (sw (lp ++ [65]))], NoP H42 v (rs2.map (·.1)) := fun v hv => by
      rcases List.mem_cons.mp hv with rfl | hv
      · exact ⟨.inr (.inl rfl), fun p hp e => by cases e⟩
      rcases List.mem_cons.mp hv with rfl | hv
      · exact ⟨.inr (.inr (.inl ⟨3, rfl⟩)), fun p hp e => by cases e⟩
      rcases List.mem_cons.mp hv with rfl | hv
      · exact noP_str fun hm => hwl _ hm 65 List.mem_cons_self rfl
      rcases List.mem_cons.mp hv with rfl | hv
      · exact ⟨.inr (.inr (.inr (.inr ⟨t1, rfl, .inl ⟨_, g41'⟩⟩))), fun p hp e => by cases e⟩
      rcases List.mem_cons.mp hv with rfl | hv
      · exact noP_str fun hm => hwl _ hm 65 (List.mem_append_right _ List.mem_cons_self) rfl
      cases hv
    have n2d : t2 ≠ d := by
      obtain ⟨kvs, hd⟩ := l42.pen.at
      exact ne_of g42 hd (by intro z; cases z)
    refine .inl ⟨d, c, t2, _, _, rfl, l42.pen, by omega, SqL.of g42, by show 0 < 5; decide, by show 5 ≤ 1000; decide, n2d, fun H43 v hv k43 p43 => ?_⟩
    have np43 := (np42 v hv).kp l42.pen k43
    have l43 := l42.kp k43 p43
    have tx43 := tx42.kp l42.pen k43
    have hqa43 := lst_kp l42.pen k43 hqa42
    refine ⟨_, rfl, 1, rfl, qa, _, -1, _, rfl, rfl, SqL.of hqa43, at_last hlast, _, rfl, sw z, 0, c0, rfl, rfl, by rw [sw_len, sizeLine_eq]; omega, atW_zero hc0, _, _, rfl, rfl, by rw [sw_one, sw_len, sw_len, sizeLine_eq]; show _ + 1 ≤ _; omega, by show 2 ≤ sizeLine; decide, fun t3 ht3 => ⟨t3, rfl, ⟨_, SqL.of upd_same⟩, ?_⟩⟩
    rw [sw_one, sw_app]
    have s44 := same_upd (o := .lst [v, .str (sw (lp ++ [c0]))]) ht3
    have g44 : (upd H43 t3 (.lst [v, .str (sw (lp ++ [c0]))])) t3 = some (.lst [v, .str (sw (lp ++ [c0]))]) := upd_same
    have l44 := l43.same s44
    have tx44 := tx43.same s44
    have np44 : ∀ u ∈ [v, .str (sw (lp ++ [c0]))], NoP (upd H43 t3 (.lst [v, .str (sw (lp ++ [c0]))])) u (rs2.map (·.1)) := fun u hu => by
      rcases List.mem_cons.mp hu with rfl | hu
      · exact np43.same s44
      rcases List.mem_cons.mp hu with rfl | hu
      · exact noP_str (hno c0)
      cases hu
    generalize hvs : [v, V.str (sw (lp ++ [c0]))] = vs at s44 g44 l44 tx44 np44
    generalize upd H43 t3 (.lst vs) = H44 at s44 g44 l44 tx44 np44
    refine for_it (walk_list (K := K) (a := t3) (xs := vs)) (fun i σ H' => ∃ v15, σ = [some (.ref a), some (.ref d), some (.ref ra), some (.ref oa), some (.ref ta), some (.ref ba), some (.ref rp), some (.ref la), some (.ref ea), some (.str (sw z)), some (.int (0 + (k : Int))), some (.ref qa), some (.ref ra2), some (.ref x), some (.ref q3), v15, none, none, none] ∧
        Ly (tabs T) T.c_Rule d c ra oa rp ks ls (90 + 60 * k + 57) H' ∧ TreeAt T.c_Tree H' x z rs2 ∧ H' t3 = some (.lst vs) ∧ ∀ u ∈ vs, NoP H' u (rs2.map (·.1)))
      ⟨_, rfl, l44, tx44, g44, np44⟩ (fun i σ H' _ ⟨_, _, _, _, h, _⟩ => SqL.of h) (fun i u σ H45 H46 hi ⟨v15, e, l45, tx45, g45, np45⟩ y => ?_) (fun σ H45 ⟨v15, e, l45, _⟩ => ?_)
    · obtain ⟨rfl, hu⟩ := y
      subst e
      have nu := np45 u (List.mem_of_getElem? hu)
      dsimp only [gName]
      refine ifE (caught_place l45.tabs tx45 gu.nd lz.l26 nu rfl rfl fun H47 pp s47 g47 => ?_)
      refine same_tup2 g47 nu.1.plain rfl fun H48 s48 => ⟨_, rfl, iteF ?_⟩
      have sm := s47.ext s48
      exact ⟨_, rfl, l45.sm sm, tx45.sm sm, sm.get g45, fun u hu => (np45 u hu).sm sm⟩
    · subst e
      exact ⟨_, _, _, _, _, _, rfl, l45.up (by omega)⟩
  -- the odd name
  subst e
  dsimp only
  refine ⟨_, rfl, by show 1 ≤ sizeLine; decide, fun t1 ht1 => ?_⟩
  have s25 := same_upd (o := .lst [V.str "plain"]) ht1
  have g25 : (upd H24 t1 (.lst [V.str "plain"])) t1 = some (.lst [V.str "plain"]) := upd_same
  have l25 := l24.same s25
  generalize upd H24 t1 (.lst [V.str "plain"]) = H25 at s25 g25 l25
  refine ⟨by show 1 ≤ sizeLine; decide, fun t2 ht2 => ?_⟩
  have s26 := same_upd (o := .tup [V.str "bare"]) ht2
  have g26 : (upd H25 t2 (.tup [V.str "bare"])) t2 = some (.tup [V.str "bare"]) := upd_same
  have l26 := l25.same s26
  have g25 := s26 _ _ g25
  generalize upd H25 t2 (.tup [V.str "bare"]) = H26 at s26 g26 l26 g25
  intro t3 ht3
  refine ⟨upd_same, [(.inr "plain", .int 1)], rfl, by decide, ?_⟩
  have s27 := same_of_new (same_upd (o := .dK []) ht3) ht3 (o := .dK (mergeK [] [(.inr "plain", .int 1)]))
  have g27 : (upd (upd H26 t3 (.dK [])) t3 (.dK (mergeK [] [(.inr "plain", .int 1)]))) t3 = some (.dK (mergeK [] [(.inr "plain", .int 1)])) := upd_same
  have l27 := l26.same s27
  have g25 := s27 _ _ g25
  have g26 := s27 _ _ g26
  generalize upd (upd H26 t3 (.dK [])) t3 (.dK (mergeK [] [(.inr "plain", .int 1)])) = H27 at s27 g27 l27 g25 g26
  refine ⟨by show 10 ≤ sizeLine; decide, fun t4 ht4 => ?_⟩
  have s28 := same_upd (o := .lst [V.str "", .str "Plain", .str "exact", .non, .int 0, .ref t1, .ref t2, .str "plain ", .bl true, .ref t3]) ht4
  have g28 : (upd H27 t4 (.lst [V.str "", .str "Plain", .str "exact", .non, .int 0, .ref t1, .ref t2, .str "plain ", .bl true, .ref t3])) t4 = some (.lst [V.str "", .str "Plain", .str "exact", .non, .int 0, .ref t1, .ref t2, .str "plain ", .bl true, .ref t3]) := upd_same
  have l28 := l27.same s28
  have g25 := s28 _ _ g25
  have g26 := s28 _ _ g26
  have g27 := s28 _ _ g27
  generalize hvs : [V.str "", .str "Plain", .str "exact", .non, .int 0, .ref t1, .ref t2, .str "plain ", .bl true, .ref t3] = vs at s28 g28 l28 g25 g26 g27
  have hvl : vs.length = 10 := by rw [← hvs]; rfl
  generalize upd H27 t4 (.lst vs) = H28 at s28 g28 l28 g25 g26 g27
  have od : ∀ v ∈ vs, OddN H28 v := fun v hv => by
    rw [← hvs] at hv
    rcases List.mem_cons.mp hv with rfl | hv
    · exact oddN_str (by decide +kernel)
    rcases List.mem_cons.mp hv with rfl | hv
    · exact oddN_str (by decide +kernel)
    rcases List.mem_cons.mp hv with rfl | hv
    · exact oddN_str (by decide +kernel)
    rcases List.mem_cons.mp hv with rfl | hv
    · exact oddN_ty (t := "NoneType") rfl (by decide)
    rcases List.mem_cons.mp hv with rfl | hv
    · exact oddN_ty (t := "int") rfl (by decide)
    rcases List.mem_cons.mp hv with rfl | hv
    · exact oddN_ty (t := "list") (.inl ⟨rfl, _, g25⟩) (by decide)
    rcases List.mem_cons.mp hv with rfl | hv
    · exact oddN_ty (t := "tuple") (.inr (.inl ⟨rfl, _, g26⟩)) (by decide)
    rcases List.mem_cons.mp hv with rfl | hv
    · exact oddN_str (by decide +kernel)
    rcases List.mem_cons.mp hv with rfl | hv
    · exact oddN_ty (t := "bool") rfl (by decide)
    rcases List.mem_cons.mp hv with rfl | hv
    · exact oddN_ty (t := "dict") (.inr (.inr ⟨rfl, _, g27⟩)) (by decide)
    cases hv
  have n4d : t4 ≠ d := by
    obtain ⟨kvs, hd⟩ := l28.pen.at
    exact ne_of g28 hd (by intro z; cases z)
  refine .inl ⟨d, c, t4, _, _, rfl, l28.pen, by omega, SqL.of g28, by omega, by omega, n4d, fun H29 v hv k29 p29 => ?_⟩
  have ov : OddN H29 v := (od v hv).kp (kpS_pen l28.pen k29 p29)
  have l29 := l28.kp k29 p29
  dsimp only [gName]
  refine ifI (caught_name l29.tabs ov rfl fun H30 pp s30 g30 => ?_)
  refine same_tup2 g30 ov.plain rfl fun H31 s31 => ⟨_, rfl, iteF ?_⟩
  have l31 := l29.sm (s30.ext s31)
  -- known rules
  refine nextS ?_
  dsimp only
  refine ⟨_, rfl, by show 4 ≤ sizeLine; decide, fun t5 ht5 => ?_⟩
  have s32 := same_upd (o := .lst [V.str "plain", .str "joined", .str "bare", .str "free"]) ht5
  have g32 : (upd H31 t5 (.lst [V.str "plain", .str "joined", .str "bare", .str "free"])) t5 = some (.lst [V.str "plain", .str "joined", .str "bare", .str "free"]) := upd_same
  have l32 := l31.same s32
  generalize upd H31 t5 (.lst [V.str "plain", .str "joined", .str "bare", .str "free"]) = H32 at s32 g32 l32
  have n5d : t5 ≠ d := by
    obtain ⟨kvs, hd⟩ := l32.pen.at
    exact ne_of g32 hd (by intro z; cases z)
  refine .inl ⟨d, c, t5, _, _, rfl, l32.pen, by omega, SqL.of g32, by decide, by decide, n5d, fun H33 v hv k33 p33 => ?_⟩
  have hk : ∃ s, v = .str s ∧ s ∈ kNames := by
    obtain ⟨s, hs, rfl⟩ := List.mem_map.mp (show v ∈ kNames.map V.str from hv)
    exact ⟨s, rfl, hs⟩
  obtain ⟨s, rfl, hs⟩ := hk
  exact ⟨s, rfl, hs, fun H34 _ => q H34⟩
end
end Toy
set_option Elab.async false
set_option linter.all false
set_option maxRecDepth 100000
set_option maxHeartbeats 4000000
namespace Toy
open PySem L2 Sh ShL LamX NdefX
abbrev PP : Program := (PySem.Challenge.rw_treeshed_k02_rules_and_kinds).prog
def hFa : List He.Fa := [.free "len", .free "isinstance", .free "int", .free "list", .free "sorted", .free "abs", .free "range", .free "tuple", .free "max", .free "min", .free "all", .free "any", .free "enumerate", .free "str", .free "bool", .free "NotImplemented", .free "dict", .free "super", .glo "ShedError", .glo "NoPlace", .glo "BadKind", .glo "BadName", .glo "Tree", .cls "Tree", .noat "Tree" "letters", .noat "Tree" "rows", .noat "Tree" "size", .noat "Tree" "height", .noat "Tree" "triples", .noat "Tree" "ways", .glo "Rule", .cls "Rule", .noat "Rule" "root", .noat "Rule" "others", .str "SMALL" "abcdefghijklmnopqrstuvwxyz", .int "MOST_LETTERS" 200, .int "MOST_PLACES" 2000, .int "MOST_VALUE" 9, .glo "is_letters", .glo "is_word", .glo "is_value", .glo "is_row", .glo "in_order", .mkr "Tree", .meth "Tree" "has", .meth "Tree" "row", .meth "Tree" "below", .glo "is_kind", .glo "kinds_of", .glo "kind_of", .mkr "Rule", .meth "Rule" "__eq__", .meth "Rule" "broken_at", .meth "Rule" "keeps", .glo "least_part", .glo "known_rule", .glo "_law_pen", .glo "_law_draw", .glo "_law_pick", .glo "_law_letters", .glo "_law_places", .glo "_law_row", .glo "_law_shuffled", .glo "_law_ordered", .glo "_law_caught", .glo "_law_every", .glo "_law_kinds", .glo "_law_shape", .glo "_law_refused_right", .glo "_law_told_right", .glo "_law_kind", .glo "_law_tree_right", .glo "_law_known_right", .glo "law"]
def hFn : List He.DefD := [⟨("is_letters", none), "is_letters", "is_letters", defArgs s_is_letters, defBody s_is_letters, defScope s_is_letters, [], []⟩, ⟨("is_word", none), "is_word", "is_word", defArgs s_is_word, defBody s_is_word, defScope s_is_word, [], []⟩, ⟨("is_value", none), "is_value", "is_value", defArgs s_is_value, defBody s_is_value, defScope s_is_value, [], []⟩, ⟨("is_row", none), "is_row", "is_row", defArgs s_is_row, defBody s_is_row, defScope s_is_row, [], []⟩, ⟨("in_order", none), "in_order", "in_order", defArgs s_in_order, defBody s_in_order, defScope s_in_order, [], []⟩, ⟨("Tree", some "__init__"), "__init__", "Tree.__init__", defArgs s_Tree_init, defBody s_Tree_init, defScope s_Tree_init, [], []⟩, ⟨("Tree", some "has"), "has", "Tree.has", defArgs s_Tree_has, defBody s_Tree_has, defScope s_Tree_has, [], []⟩, ⟨("Tree", some "row"), "row", "Tree.row", defArgs s_Tree_row, defBody s_Tree_row, defScope s_Tree_row, [], []⟩, ⟨("Tree", some "below"), "below", "Tree.below", defArgs s_Tree_below, defBody s_Tree_below, defScope s_Tree_below, [], []⟩, ⟨("is_kind", none), "is_kind", "is_kind", defArgs s_is_kind, defBody s_is_kind, defScope s_is_kind, [], []⟩, ⟨("kinds_of", none), "kinds_of", "kinds_of", defArgs s_kinds_of, defBody s_kinds_of, defScope s_kinds_of, [], []⟩, ⟨("kind_of", none), "kind_of", "kind_of", defArgs s_kind_of, defBody s_kind_of, defScope s_kind_of, [], []⟩, ⟨("Rule", some "__init__"), "__init__", "Rule.__init__", defArgs s_Rule_init, defBody s_Rule_init, defScope s_Rule_init, [], []⟩, ⟨("Rule", some "__eq__"), "__eq__", "Rule.__eq__", defArgs s_Rule_eq, defBody s_Rule_eq, defScope s_Rule_eq, [], []⟩, ⟨("Rule", some "broken_at"), "broken_at", "Rule.broken_at", defArgs s_Rule_broken_at, defBody s_Rule_broken_at, defScope s_Rule_broken_at, [], []⟩, ⟨("Rule", some "keeps"), "keeps", "Rule.keeps", defArgs s_Rule_keeps, defBody s_Rule_keeps, defScope s_Rule_keeps, [], []⟩, ⟨("least_part", none), "least_part", "least_part", defArgs s_least_part, defBody s_least_part, defScope s_least_part, [], []⟩, ⟨("known_rule", none), "known_rule", "known_rule", defArgs s_known_rule, defBody s_known_rule, defScope s_known_rule, [], []⟩, ⟨("_law_pen", none), "_law_pen", "_law_pen", defArgs s_l_pen, defBody s_l_pen, defScope s_l_pen, [], []⟩, ⟨("_law_draw", none), "_law_draw", "_law_draw", defArgs s_l_draw, defBody s_l_draw, defScope s_l_draw, [], []⟩, ⟨("_law_pick", none), "_law_pick", "_law_pick", defArgs s_l_pick, defBody s_l_pick, defScope s_l_pick, [], []⟩, ⟨("_law_letters", none), "_law_letters", "_law_letters", defArgs s_l_letters, defBody s_l_letters, defScope s_l_letters, [], []⟩, ⟨("_law_places", none), "_law_places", "_law_places", defArgs s_l_places, defBody s_l_places, defScope s_l_places, [], []⟩, ⟨("_law_row", none), "_law_row", "_law_row", defArgs s_l_row, defBody s_l_row, defScope s_l_row, [], []⟩, ⟨("_law_shuffled", none), "_law_shuffled", "_law_shuffled", defArgs s_l_shuffled, defBody s_l_shuffled, defScope s_l_shuffled, [], []⟩, ⟨("_law_ordered", none), "_law_ordered", "_law_ordered", defArgs s_l_ordered, defBody s_l_ordered, defScope s_l_ordered, [], []⟩, ⟨("_law_caught", none), "_law_caught", "_law_caught", defArgs s_l_caught, defBody s_l_caught, defScope s_l_caught, [], []⟩, ⟨("_law_every", none), "_law_every", "_law_every", defArgs s_l_every, defBody s_l_every, defScope s_l_every, [], []⟩, ⟨("_law_kinds", none), "_law_kinds", "_law_kinds", defArgs s_l_kinds, defBody s_l_kinds, defScope s_l_kinds, [], []⟩, ⟨("_law_shape", none), "_law_shape", "_law_shape", defArgs s_l_shape, defBody s_l_shape, defScope s_l_shape, [], []⟩, ⟨("_law_refused_right", none), "_law_refused_right", "_law_refused_right", defArgs s_l_refused_right, defBody s_l_refused_right, defScope s_l_refused_right, [], []⟩, ⟨("_law_told_right", none), "_law_told_right", "_law_told_right", defArgs s_l_told_right, defBody s_l_told_right, defScope s_l_told_right, [], []⟩, ⟨("_law_kind", none), "_law_kind", "_law_kind", defArgs s_l_kind, defBody s_l_kind, defScope s_l_kind, [], []⟩, ⟨("_law_tree_right", none), "_law_tree_right", "_law_tree_right", defArgs s_l_tree_right, defBody s_l_tree_right, defScope s_l_tree_right, [], []⟩, ⟨("_law_known_right", none), "_law_known_right", "_law_known_right", defArgs s_l_known_right, defBody s_l_known_right, defScope s_l_known_right, [], []⟩, ⟨("law", none), "law", "law", defArgs s_law, defBody s_law, defScope s_law, [], []⟩]
def hEx : List (PySem.W.Frag → Bool) := [fun K => (PySem.W.clsIn K (He.ga K "ShedError")).isSome,
  fun K => decide (PySem.W.typeIn K (.ref (He.ga K "ShedError")) = some (.type "type")),
  fun K => decide (PySem.W.specialIn K (.builtin "object.__class__") "__get__" = some (some (.builtin "getset_descriptor.__get__"))),
  fun K => decide (PySem.W.takesIn K (.builtin "object.__class__") = some true),
  fun K => xclsB K (He.ga K "ShedError") (He.ga K "NoPlace"),
  fun K => xclsB K (He.ga K "ShedError") (He.ga K "BadKind"),
  fun K => xclsB K (He.ga K "ShedError") (He.ga K "BadName"),
  fun K => xinitB PP.main.file K (He.ga K "NoPlace") (He.ma K (He.ga K "NoPlace") "__init__") "NoPlace.__init__",
  fun K => decide (PySem.W.nsIn K cStatics "thirdparty.any" = some none),
  fun K => decide (PySem.W.findIn K (.ref (He.ga K "NoPlace")) "place" = some none),
  fun K => xinitB PP.main.file K (He.ga K "BadKind") (He.ma K (He.ga K "BadKind") "__init__") "BadKind.__init__",
  fun K => decide (PySem.W.findIn K (.ref (He.ga K "BadKind")) "side" = some none),
  fun K => decide (PySem.W.findIn K (.ref (He.ga K "BadKind")) "number" = some none),
  fun K => xinitB PP.main.file K (He.ga K "BadName") (He.ma K (He.ga K "BadName") "__init__") "BadName.__init__",
  fun K => decide (PySem.W.findIn K (.ref (He.ga K "BadName")) "name" = some none),
  fun K => decide ([He.ga K "NoPlace", He.ga K "BadKind", He.ga K "BadName", He.ga K "ShedError"].Nodup),
  fun K => decide (PySem.W.findIn K (.ref (He.ga K "Rule")) "__eq__" = some (some (.ref (He.ma K (He.ga K "Rule") "__eq__")))),
  fun K => PySem.W.isFn K (.ref (He.ma K (He.ga K "Rule") "__eq__")),
  fun K => decide (PySem.W.findIn K (.ref (He.ga K "Rule")) "__ne__" = some (some (.builtin "object.__ne__"))),
  fun K => decide (PySem.W.mroIn K (He.ga K "Rule") (.type "object") = some true),
  fun K => decide (PySem.W.mroIn K (He.ga K "Rule") (.type "list") = some false),
  fun K => decide (PySem.W.mroIn K (He.ga K "Rule") (.type "tuple") = some false),
  fun K => decide (PySem.W.findIn K (.ref (He.ga K "Rule")) "__class__" = some (some (.builtin "object.__class__"))),
  fun K => decide (PySem.W.kitOne K (.type "list") (.ref (He.ga K "Rule")) = some false),
  fun K => decide ([He.tabOf K (He.codeOf K ("in_order", none)), He.tabOf K (He.codeOf K ("_law_ordered", none)), He.tabOf K (He.codeOf K ("_law_refused_right", none)), He.tabOf K (He.codeOf K ("law", none))].Nodup)]
def hXs : List XD := [⟨"NoPlace", "NoPlace.__init__", s_x_NoPlace⟩, ⟨"BadKind", "BadKind.__init__", s_x_BadKind⟩, ⟨"BadName", "BadName.__init__", s_x_BadName⟩]
abbrev Says (K : PySem.W.Frag) : Prop := SaysX hFa hFn hEx hXs K
def lawAt : Nat := 49
def loose : List PySem.Str := (["_wall", "__name__", "ShedError", "BadLetters", "TooMany", "BadRow", "Lone", "NoPlace", "BadItem", "BadKind", "BadName", "SMALL", "MOST_LETTERS", "MOST_PLACES", "MOST_VALUE", "is_letters", "is_word", "is_value", "is_row", "in_order", "values_of", "beginnings", "Tree", "is_kind", "kinds_of", "kind_of", "Rule", "least_part", "known_rule", "_law_pen"] : List PySem.Str) ++ (["_law_draw", "_law_pick", "_law_letters", "_law_places", "_law_row", "_law_shuffled", "_law_ordered", "_law_caught", "_law_every", "_law_kinds", "_law_shape", "_law_refused_right", "_law_told_right", "_law_kind", "_law_tree_right", "_law_known_right"] : List PySem.Str)
theorem IXe_NoPlace {K : PySem.W.Frag} {h : Heap} {mg : Str → Option Value} (X : K.In h) (G : h.Ns mainGlobals mg) (c : Says K) : ∃ fd, XInit PP K mg (He.ga K "NoPlace") (He.ma K (He.ga K "NoPlace") "__init__") "NoPlace.__init__" s_x_NoPlace fd := (xinit_of (P := PP) (mg := mg) (d := ⟨"NoPlace", "NoPlace.__init__", s_x_NoPlace⟩) (xclsB_ok (c.e 4 (f := fun K => xclsB K (He.ga K "ShedError") (He.ga K "NoPlace")) rfl)) (c.x 0 rfl) (c.e 7 (f := fun K => xinitB PP.main.file K (He.ga K "NoPlace") (He.ma K (He.ga K "NoPlace") "__init__") "NoPlace.__init__") rfl) (He.free_ok X G (c.d.fact 17 (f := .free "super") rfl)) (of_decide_eq_true (c.e 8 (f := fun K => decide (PySem.W.nsIn K cStatics "thirdparty.any" = some none)) rfl)) (by decide +kernel) ⟨_, rfl, rfl⟩ (by decide +kernel) (by decide +kernel) (by decide +kernel))
theorem IX_NoPlace {K : PySem.W.Frag} {h : Heap} {mg : Str → Option Value} (X : K.In h) (G : h.Ns mainGlobals mg) (c : Says K) : XInit PP K mg (He.ga K "NoPlace") (He.ma K (He.ga K "NoPlace") "__init__") "NoPlace.__init__" s_x_NoPlace (IXe_NoPlace X G c).choose := (IXe_NoPlace X G c).choose_spec
theorem IXe_BadKind {K : PySem.W.Frag} {h : Heap} {mg : Str → Option Value} (X : K.In h) (G : h.Ns mainGlobals mg) (c : Says K) : ∃ fd, XInit PP K mg (He.ga K "BadKind") (He.ma K (He.ga K "BadKind") "__init__") "BadKind.__init__" s_x_BadKind fd := (xinit_of (P := PP) (mg := mg) (d := ⟨"BadKind", "BadKind.__init__", s_x_BadKind⟩) (xclsB_ok (c.e 5 (f := fun K => xclsB K (He.ga K "ShedError") (He.ga K "BadKind")) rfl)) (c.x 1 rfl) (c.e 10 (f := fun K => xinitB PP.main.file K (He.ga K "BadKind") (He.ma K (He.ga K "BadKind") "__init__") "BadKind.__init__") rfl) (He.free_ok X G (c.d.fact 17 (f := .free "super") rfl)) (of_decide_eq_true (c.e 8 (f := fun K => decide (PySem.W.nsIn K cStatics "thirdparty.any" = some none)) rfl)) (by decide +kernel) ⟨_, rfl, rfl⟩ (by decide +kernel) (by decide +kernel) (by decide +kernel))
theorem IX_BadKind {K : PySem.W.Frag} {h : Heap} {mg : Str → Option Value} (X : K.In h) (G : h.Ns mainGlobals mg) (c : Says K) : XInit PP K mg (He.ga K "BadKind") (He.ma K (He.ga K "BadKind") "__init__") "BadKind.__init__" s_x_BadKind (IXe_BadKind X G c).choose := (IXe_BadKind X G c).choose_spec
theorem IXe_BadName {K : PySem.W.Frag} {h : Heap} {mg : Str → Option Value} (X : K.In h) (G : h.Ns mainGlobals mg) (c : Says K) : ∃ fd, XInit PP K mg (He.ga K "BadName") (He.ma K (He.ga K "BadName") "__init__") "BadName.__init__" s_x_BadName fd := (xinit_of (P := PP) (mg := mg) (d := ⟨"BadName", "BadName.__init__", s_x_BadName⟩) (xclsB_ok (c.e 6 (f := fun K => xclsB K (He.ga K "ShedError") (He.ga K "BadName")) rfl)) (c.x 2 rfl) (c.e 13 (f := fun K => xinitB PP.main.file K (He.ga K "BadName") (He.ma K (He.ga K "BadName") "__init__") "BadName.__init__") rfl) (He.free_ok X G (c.d.fact 17 (f := .free "super") rfl)) (of_decide_eq_true (c.e 8 (f := fun K => decide (PySem.W.nsIn K cStatics "thirdparty.any" = some none)) rfl)) (by decide +kernel) ⟨_, rfl, rfl⟩ (by decide +kernel) (by decide +kernel) (by decide +kernel))
theorem IX_BadName {K : PySem.W.Frag} {h : Heap} {mg : Str → Option Value} (X : K.In h) (G : h.Ns mainGlobals mg) (c : Says K) : XInit PP K mg (He.ga K "BadName") (He.ma K (He.ga K "BadName") "__init__") "BadName.__init__" s_x_BadName (IXe_BadName X G c).choose := (IXe_BadName X G c).choose_spec
def hTf : List He.Defn := [("in_order", none), ("_law_ordered", none), ("_law_refused_right", none), ("law", none)]
def hCm : List CD := []
abbrev SaysT (h : Heap) (K : PySem.W.Frag) : Prop := SaysXT hFa hFn hEx hXs hTf hCm h K
noncomputable def tx_of {K : PySem.W.Frag} {h : Heap} {mg : Str → Option Value} (X : K.In h) (G : h.Ns mainGlobals mg) (c : SaysT h K) : Tx PP K mg where
  b_len := He.free_ok X G (c.s.d.fact 0 (f := .free "len") rfl)
  b_isinstance := He.free_ok X G (c.s.d.fact 1 (f := .free "isinstance") rfl)
  b_int := He.free_ok X G (c.s.d.fact 2 (f := .free "int") rfl)
  b_list := He.free_ok X G (c.s.d.fact 3 (f := .free "list") rfl)
  b_sorted := He.free_ok X G (c.s.d.fact 4 (f := .free "sorted") rfl)
  b_abs := He.free_ok X G (c.s.d.fact 5 (f := .free "abs") rfl)
  b_range := He.free_ok X G (c.s.d.fact 6 (f := .free "range") rfl)
  b_tuple := He.free_ok X G (c.s.d.fact 7 (f := .free "tuple") rfl)
  b_max := He.free_ok X G (c.s.d.fact 8 (f := .free "max") rfl)
  b_min := He.free_ok X G (c.s.d.fact 9 (f := .free "min") rfl)
  b_all := He.free_ok X G (c.s.d.fact 10 (f := .free "all") rfl)
  b_any := He.free_ok X G (c.s.d.fact 11 (f := .free "any") rfl)
  b_enumerate := He.free_ok X G (c.s.d.fact 12 (f := .free "enumerate") rfl)
  b_str := He.free_ok X G (c.s.d.fact 13 (f := .free "str") rfl)
  b_bool := He.free_ok X G (c.s.d.fact 14 (f := .free "bool") rfl)
  b_NotImplemented := He.free_ok X G (c.s.d.fact 15 (f := .free "NotImplemented") rfl)
  b_dict := He.free_ok X G (c.s.d.fact 16 (f := .free "dict") rfl)
  b_super := He.free_ok X G (c.s.d.fact 17 (f := .free "super") rfl)
  c_ShedError := He.ga K "ShedError"
  m_ShedError := He.glo_ok X G (c.s.d.fact 18 (f := .glo "ShedError") rfl)
  iS := (c.s.e 0 (f := fun K => (PySem.W.clsIn K (He.ga K "ShedError")).isSome) rfl)
  tS := of_decide_eq_true (c.s.e 1 (f := fun K => decide (PySem.W.typeIn K (.ref (He.ga K "ShedError")) = some (.type "type"))) rfl)
  o_get := of_decide_eq_true (c.s.e 2 (f := fun K => decide (PySem.W.specialIn K (.builtin "object.__class__") "__get__" = some (some (.builtin "getset_descriptor.__get__")))) rfl)
  o_tk := of_decide_eq_true (c.s.e 3 (f := fun K => decide (PySem.W.takesIn K (.builtin "object.__class__") = some true)) rfl)
  c_NoPlace := He.ga K "NoPlace"
  m_NoPlace := He.glo_ok X G (c.s.d.fact 19 (f := .glo "NoPlace") rfl)
  x_NoPlace := xclsB_ok (c.s.e 4 (f := fun K => xclsB K (He.ga K "ShedError") (He.ga K "NoPlace")) rfl)
  c_BadKind := He.ga K "BadKind"
  m_BadKind := He.glo_ok X G (c.s.d.fact 20 (f := .glo "BadKind") rfl)
  x_BadKind := xclsB_ok (c.s.e 5 (f := fun K => xclsB K (He.ga K "ShedError") (He.ga K "BadKind")) rfl)
  c_BadName := He.ga K "BadName"
  m_BadName := He.glo_ok X G (c.s.d.fact 21 (f := .glo "BadName") rfl)
  x_BadName := xclsB_ok (c.s.e 6 (f := fun K => xclsB K (He.ga K "ShedError") (He.ga K "BadName")) rfl)
  a_x_NoPlace := He.ma K (He.ga K "NoPlace") "__init__"
  fd_x_NoPlace := (IXe_NoPlace X G c.s).choose
  i_NoPlace := IX_NoPlace X G c.s
  nf_NoPlace_place := of_decide_eq_true (c.s.e 9 (f := fun K => decide (PySem.W.findIn K (.ref (He.ga K "NoPlace")) "place" = some none)) rfl)
  a_x_BadKind := He.ma K (He.ga K "BadKind") "__init__"
  fd_x_BadKind := (IXe_BadKind X G c.s).choose
  i_BadKind := IX_BadKind X G c.s
  nf_BadKind_side := of_decide_eq_true (c.s.e 11 (f := fun K => decide (PySem.W.findIn K (.ref (He.ga K "BadKind")) "side" = some none)) rfl)
  nf_BadKind_number := of_decide_eq_true (c.s.e 12 (f := fun K => decide (PySem.W.findIn K (.ref (He.ga K "BadKind")) "number" = some none)) rfl)
  a_x_BadName := He.ma K (He.ga K "BadName") "__init__"
  fd_x_BadName := (IXe_BadName X G c.s).choose
  i_BadName := IX_BadName X G c.s
  nf_BadName_name := of_decide_eq_true (c.s.e 14 (f := fun K => decide (PySem.W.findIn K (.ref (He.ga K "BadName")) "name" = some none)) rfl)
  kb_NoPlace_1 := kbn_x (IX_NoPlace X G c.s) fun cc kV doc pm an cda ct us ws h1 h2 => match us, ws, h1, h2 with | [_, _], [], _, _ => rfl
  kb_BadKind_2 := kbn_x (IX_BadKind X G c.s) fun cc kV doc pm an cda ct us ws h1 h2 => match us, ws, h1, h2 with | [_, _, _], [], _, _ => rfl
  kb_BadName_1 := kbn_x (IX_BadName X G c.s) fun cc kV doc pm an cda ct us ws h1 h2 => match us, ws, h1, h2 with | [_, _], [], _, _ => rfl
  xnd := of_decide_eq_true (c.s.e 15 (f := fun K => decide ([He.ga K "NoPlace", He.ga K "BadKind", He.ga K "BadName", He.ga K "ShedError"].Nodup)) rfl)
  c_Tree := He.ga K "Tree"
  m_Tree := He.glo_ok X G (c.s.d.fact 22 (f := .glo "Tree") rfl)
  cl_Tree := He.cls_ok (c.s.d.fact 23 (f := .cls "Tree") rfl)
  na_Tree_letters := He.noat_ok (c.s.d.fact 24 (f := .noat "Tree" "letters") rfl)
  na_Tree_rows := He.noat_ok (c.s.d.fact 25 (f := .noat "Tree" "rows") rfl)
  na_Tree_size := He.noat_ok (c.s.d.fact 26 (f := .noat "Tree" "size") rfl)
  na_Tree_height := He.noat_ok (c.s.d.fact 27 (f := .noat "Tree" "height") rfl)
  na_Tree_triples := He.noat_ok (c.s.d.fact 28 (f := .noat "Tree" "triples") rfl)
  na_Tree_ways := He.noat_ok (c.s.d.fact 29 (f := .noat "Tree" "ways") rfl)
  c_Rule := He.ga K "Rule"
  m_Rule := He.glo_ok X G (c.s.d.fact 30 (f := .glo "Rule") rfl)
  cl_Rule := He.cls_ok (c.s.d.fact 31 (f := .cls "Rule") rfl)
  na_Rule_root := He.noat_ok (c.s.d.fact 32 (f := .noat "Rule" "root") rfl)
  na_Rule_others := He.noat_ok (c.s.d.fact 33 (f := .noat "Rule" "others") rfl)
  m_SMALL := He.str_ok X G (c.s.d.fact 34 (f := .str "SMALL" "abcdefghijklmnopqrstuvwxyz") rfl)
  m_MOST_LETTERS := He.int_ok X G (c.s.d.fact 35 (f := .int "MOST_LETTERS" 200) rfl)
  m_MOST_PLACES := He.int_ok X G (c.s.d.fact 36 (f := .int "MOST_PLACES" 2000) rfl)
  m_MOST_VALUE := He.int_ok X G (c.s.d.fact 37 (f := .int "MOST_VALUE" 9) rfl)
  a_is_letters := (He.ga K "is_letters")
  fd_is_letters := (c.s.d.def_ 0 (d := ⟨("is_letters", none), "is_letters", "is_letters", defArgs s_is_letters, defBody s_is_letters, defScope s_is_letters, [], []⟩) rfl).choose
  F_is_letters := fun_of (st := s_is_letters) (c.s.d.def_ 0 (d := ⟨("is_letters", none), "is_letters", "is_letters", defArgs s_is_letters, defBody s_is_letters, defScope s_is_letters, [], []⟩) rfl).choose_spec
  bi_is_letters := (fun_of (st := s_is_letters) (c.s.d.def_ 0 (d := ⟨("is_letters", none), "is_letters", "is_letters", defArgs s_is_letters, defBody s_is_letters, defScope s_is_letters, [], []⟩) rfl).choose_spec).binds (ps := ["letters"]) fun _ _ _ _ _ _ us hl => match us, hl with | [_], _ => rfl
  m_is_letters := He.glo_ok X G (c.s.d.fact 38 (f := .glo "is_letters") rfl)
  a_is_word := (He.ga K "is_word")
  fd_is_word := (c.s.d.def_ 1 (d := ⟨("is_word", none), "is_word", "is_word", defArgs s_is_word, defBody s_is_word, defScope s_is_word, [], []⟩) rfl).choose
  F_is_word := fun_of (st := s_is_word) (c.s.d.def_ 1 (d := ⟨("is_word", none), "is_word", "is_word", defArgs s_is_word, defBody s_is_word, defScope s_is_word, [], []⟩) rfl).choose_spec
  bi_is_word := (fun_of (st := s_is_word) (c.s.d.def_ 1 (d := ⟨("is_word", none), "is_word", "is_word", defArgs s_is_word, defBody s_is_word, defScope s_is_word, [], []⟩) rfl).choose_spec).binds (ps := ["letters", "word"]) fun _ _ _ _ _ _ us hl => match us, hl with | [_, _], _ => rfl
  m_is_word := He.glo_ok X G (c.s.d.fact 39 (f := .glo "is_word") rfl)
  a_is_value := (He.ga K "is_value")
  fd_is_value := (c.s.d.def_ 2 (d := ⟨("is_value", none), "is_value", "is_value", defArgs s_is_value, defBody s_is_value, defScope s_is_value, [], []⟩) rfl).choose
  F_is_value := fun_of (st := s_is_value) (c.s.d.def_ 2 (d := ⟨("is_value", none), "is_value", "is_value", defArgs s_is_value, defBody s_is_value, defScope s_is_value, [], []⟩) rfl).choose_spec
  bi_is_value := (fun_of (st := s_is_value) (c.s.d.def_ 2 (d := ⟨("is_value", none), "is_value", "is_value", defArgs s_is_value, defBody s_is_value, defScope s_is_value, [], []⟩) rfl).choose_spec).binds (ps := ["value"]) fun _ _ _ _ _ _ us hl => match us, hl with | [_], _ => rfl
  m_is_value := He.glo_ok X G (c.s.d.fact 40 (f := .glo "is_value") rfl)
  a_is_row := (He.ga K "is_row")
  fd_is_row := (c.s.d.def_ 3 (d := ⟨("is_row", none), "is_row", "is_row", defArgs s_is_row, defBody s_is_row, defScope s_is_row, [], []⟩) rfl).choose
  F_is_row := fun_of (st := s_is_row) (c.s.d.def_ 3 (d := ⟨("is_row", none), "is_row", "is_row", defArgs s_is_row, defBody s_is_row, defScope s_is_row, [], []⟩) rfl).choose_spec
  bi_is_row := (fun_of (st := s_is_row) (c.s.d.def_ 3 (d := ⟨("is_row", none), "is_row", "is_row", defArgs s_is_row, defBody s_is_row, defScope s_is_row, [], []⟩) rfl).choose_spec).binds (ps := ["letters", "row"]) fun _ _ _ _ _ _ us hl => match us, hl with | [_, _], _ => rfl
  m_is_row := He.glo_ok X G (c.s.d.fact 41 (f := .glo "is_row") rfl)
  kc_in_order := He.codeOf K ("in_order", none)
  tb_in_order := He.tabOf K (He.codeOf K ("in_order", none))
  ec_in_order := ec_of (p := ("in_order", none)) (fun_of (st := s_in_order) (c.s.d.def_ 4 (d := ⟨("in_order", none), "in_order", "in_order", defArgs s_in_order, defBody s_in_order, defScope s_in_order, [], []⟩) rfl).choose_spec)
  a_in_order := (He.ga K "in_order")
  fd_in_order := (c.s.d.def_ 4 (d := ⟨("in_order", none), "in_order", "in_order", defArgs s_in_order, defBody s_in_order, defScope s_in_order, [], []⟩) rfl).choose
  F_in_order := fun_of (st := s_in_order) (c.s.d.def_ 4 (d := ⟨("in_order", none), "in_order", "in_order", defArgs s_in_order, defBody s_in_order, defScope s_in_order, [], []⟩) rfl).choose_spec
  bi_in_order := (fun_of (st := s_in_order) (c.s.d.def_ 4 (d := ⟨("in_order", none), "in_order", "in_order", defArgs s_in_order, defBody s_in_order, defScope s_in_order, [], []⟩) rfl).choose_spec).binds (ps := ["letters", "places"]) fun _ _ _ _ _ _ us hl => match us, hl with | [_, _], _ => rfl
  m_in_order := He.glo_ok X G (c.s.d.fact 42 (f := .glo "in_order") rfl)
  a_Tree_init := (He.ma K (He.ga K "Tree") "__init__")
  fd_Tree_init := (c.s.d.def_ 5 (d := ⟨("Tree", some "__init__"), "__init__", "Tree.__init__", defArgs s_Tree_init, defBody s_Tree_init, defScope s_Tree_init, [], []⟩) rfl).choose
  F_Tree_init := fun_of (st := s_Tree_init) (c.s.d.def_ 5 (d := ⟨("Tree", some "__init__"), "__init__", "Tree.__init__", defArgs s_Tree_init, defBody s_Tree_init, defScope s_Tree_init, [], []⟩) rfl).choose_spec
  bi_Tree_init := (fun_of (st := s_Tree_init) (c.s.d.def_ 5 (d := ⟨("Tree", some "__init__"), "__init__", "Tree.__init__", defArgs s_Tree_init, defBody s_Tree_init, defScope s_Tree_init, [], []⟩) rfl).choose_spec).binds (ps := ["self", "letters", "rows"]) fun _ _ _ _ _ _ us hl => match us, hl with | [_, _, _], _ => rfl
  mk_Tree := He.mkr_ok (c.s.d.fact 43 (f := .mkr "Tree") rfl)
  a_Tree_has := (He.ma K (He.ga K "Tree") "has")
  fd_Tree_has := (c.s.d.def_ 6 (d := ⟨("Tree", some "has"), "has", "Tree.has", defArgs s_Tree_has, defBody s_Tree_has, defScope s_Tree_has, [], []⟩) rfl).choose
  F_Tree_has := fun_of (st := s_Tree_has) (c.s.d.def_ 6 (d := ⟨("Tree", some "has"), "has", "Tree.has", defArgs s_Tree_has, defBody s_Tree_has, defScope s_Tree_has, [], []⟩) rfl).choose_spec
  bi_Tree_has := (fun_of (st := s_Tree_has) (c.s.d.def_ 6 (d := ⟨("Tree", some "has"), "has", "Tree.has", defArgs s_Tree_has, defBody s_Tree_has, defScope s_Tree_has, [], []⟩) rfl).choose_spec).binds (ps := ["self", "place"]) fun _ _ _ _ _ _ us hl => match us, hl with | [_, _], _ => rfl
  me_Tree_has := He.meth_ok (c.s.d.fact 44 (f := .meth "Tree" "has") rfl)
  a_Tree_row := (He.ma K (He.ga K "Tree") "row")
  fd_Tree_row := (c.s.d.def_ 7 (d := ⟨("Tree", some "row"), "row", "Tree.row", defArgs s_Tree_row, defBody s_Tree_row, defScope s_Tree_row, [], []⟩) rfl).choose
  F_Tree_row := fun_of (st := s_Tree_row) (c.s.d.def_ 7 (d := ⟨("Tree", some "row"), "row", "Tree.row", defArgs s_Tree_row, defBody s_Tree_row, defScope s_Tree_row, [], []⟩) rfl).choose_spec
  bi_Tree_row := (fun_of (st := s_Tree_row) (c.s.d.def_ 7 (d := ⟨("Tree", some "row"), "row", "Tree.row", defArgs s_Tree_row, defBody s_Tree_row, defScope s_Tree_row, [], []⟩) rfl).choose_spec).binds (ps := ["self", "place"]) fun _ _ _ _ _ _ us hl => match us, hl with | [_, _], _ => rfl
  me_Tree_row := He.meth_ok (c.s.d.fact 45 (f := .meth "Tree" "row") rfl)
  a_Tree_below := (He.ma K (He.ga K "Tree") "below")
  fd_Tree_below := (c.s.d.def_ 8 (d := ⟨("Tree", some "below"), "below", "Tree.below", defArgs s_Tree_below, defBody s_Tree_below, defScope s_Tree_below, [], []⟩) rfl).choose
  F_Tree_below := fun_of (st := s_Tree_below) (c.s.d.def_ 8 (d := ⟨("Tree", some "below"), "below", "Tree.below", defArgs s_Tree_below, defBody s_Tree_below, defScope s_Tree_below, [], []⟩) rfl).choose_spec
  bi_Tree_below := (fun_of (st := s_Tree_below) (c.s.d.def_ 8 (d := ⟨("Tree", some "below"), "below", "Tree.below", defArgs s_Tree_below, defBody s_Tree_below, defScope s_Tree_below, [], []⟩) rfl).choose_spec).binds (ps := ["self", "place"]) fun _ _ _ _ _ _ us hl => match us, hl with | [_, _], _ => rfl
  me_Tree_below := He.meth_ok (c.s.d.fact 46 (f := .meth "Tree" "below") rfl)
  a_is_kind := (He.ga K "is_kind")
  fd_is_kind := (c.s.d.def_ 9 (d := ⟨("is_kind", none), "is_kind", "is_kind", defArgs s_is_kind, defBody s_is_kind, defScope s_is_kind, [], []⟩) rfl).choose
  F_is_kind := fun_of (st := s_is_kind) (c.s.d.def_ 9 (d := ⟨("is_kind", none), "is_kind", "is_kind", defArgs s_is_kind, defBody s_is_kind, defScope s_is_kind, [], []⟩) rfl).choose_spec
  bi_is_kind := (fun_of (st := s_is_kind) (c.s.d.def_ 9 (d := ⟨("is_kind", none), "is_kind", "is_kind", defArgs s_is_kind, defBody s_is_kind, defScope s_is_kind, [], []⟩) rfl).choose_spec).binds (ps := ["kind"]) fun _ _ _ _ _ _ us hl => match us, hl with | [_], _ => rfl
  m_is_kind := He.glo_ok X G (c.s.d.fact 47 (f := .glo "is_kind") rfl)
  a_kinds_of := (He.ga K "kinds_of")
  fd_kinds_of := (c.s.d.def_ 10 (d := ⟨("kinds_of", none), "kinds_of", "kinds_of", defArgs s_kinds_of, defBody s_kinds_of, defScope s_kinds_of, [], []⟩) rfl).choose
  F_kinds_of := fun_of (st := s_kinds_of) (c.s.d.def_ 10 (d := ⟨("kinds_of", none), "kinds_of", "kinds_of", defArgs s_kinds_of, defBody s_kinds_of, defScope s_kinds_of, [], []⟩) rfl).choose_spec
  bi_kinds_of := (fun_of (st := s_kinds_of) (c.s.d.def_ 10 (d := ⟨("kinds_of", none), "kinds_of", "kinds_of", defArgs s_kinds_of, defBody s_kinds_of, defScope s_kinds_of, [], []⟩) rfl).choose_spec).binds (ps := ["side", "kinds"]) fun _ _ _ _ _ _ us hl => match us, hl with | [_, _], _ => rfl
  m_kinds_of := He.glo_ok X G (c.s.d.fact 48 (f := .glo "kinds_of") rfl)
  a_kind_of := (He.ga K "kind_of")
  fd_kind_of := (c.s.d.def_ 11 (d := ⟨("kind_of", none), "kind_of", "kind_of", defArgs s_kind_of, defBody s_kind_of, defScope s_kind_of, [], []⟩) rfl).choose
  F_kind_of := fun_of (st := s_kind_of) (c.s.d.def_ 11 (d := ⟨("kind_of", none), "kind_of", "kind_of", defArgs s_kind_of, defBody s_kind_of, defScope s_kind_of, [], []⟩) rfl).choose_spec
  bi_kind_of := (fun_of (st := s_kind_of) (c.s.d.def_ 11 (d := ⟨("kind_of", none), "kind_of", "kind_of", defArgs s_kind_of, defBody s_kind_of, defScope s_kind_of, [], []⟩) rfl).choose_spec).binds (ps := ["tree", "place"]) fun _ _ _ _ _ _ us hl => match us, hl with | [_, _], _ => rfl
  m_kind_of := He.glo_ok X G (c.s.d.fact 49 (f := .glo "kind_of") rfl)
  a_Rule_init := (He.ma K (He.ga K "Rule") "__init__")
  fd_Rule_init := (c.s.d.def_ 12 (d := ⟨("Rule", some "__init__"), "__init__", "Rule.__init__", defArgs s_Rule_init, defBody s_Rule_init, defScope s_Rule_init, [], []⟩) rfl).choose
  F_Rule_init := fun_of (st := s_Rule_init) (c.s.d.def_ 12 (d := ⟨("Rule", some "__init__"), "__init__", "Rule.__init__", defArgs s_Rule_init, defBody s_Rule_init, defScope s_Rule_init, [], []⟩) rfl).choose_spec
  bi_Rule_init := (fun_of (st := s_Rule_init) (c.s.d.def_ 12 (d := ⟨("Rule", some "__init__"), "__init__", "Rule.__init__", defArgs s_Rule_init, defBody s_Rule_init, defScope s_Rule_init, [], []⟩) rfl).choose_spec).binds (ps := ["self", "root", "others"]) fun _ _ _ _ _ _ us hl => match us, hl with | [_, _, _], _ => rfl
  mk_Rule := He.mkr_ok (c.s.d.fact 50 (f := .mkr "Rule") rfl)
  a_Rule_eq := (He.ma K (He.ga K "Rule") "__eq__")
  fd_Rule_eq := (c.s.d.def_ 13 (d := ⟨("Rule", some "__eq__"), "__eq__", "Rule.__eq__", defArgs s_Rule_eq, defBody s_Rule_eq, defScope s_Rule_eq, [], []⟩) rfl).choose
  F_Rule_eq := fun_of (st := s_Rule_eq) (c.s.d.def_ 13 (d := ⟨("Rule", some "__eq__"), "__eq__", "Rule.__eq__", defArgs s_Rule_eq, defBody s_Rule_eq, defScope s_Rule_eq, [], []⟩) rfl).choose_spec
  bi_Rule_eq := (fun_of (st := s_Rule_eq) (c.s.d.def_ 13 (d := ⟨("Rule", some "__eq__"), "__eq__", "Rule.__eq__", defArgs s_Rule_eq, defBody s_Rule_eq, defScope s_Rule_eq, [], []⟩) rfl).choose_spec).binds (ps := ["self", "other"]) fun _ _ _ _ _ _ us hl => match us, hl with | [_, _], _ => rfl
  me_Rule_eq := He.meth_ok (c.s.d.fact 51 (f := .meth "Rule" "__eq__") rfl)
  a_Rule_broken_at := (He.ma K (He.ga K "Rule") "broken_at")
  fd_Rule_broken_at := (c.s.d.def_ 14 (d := ⟨("Rule", some "broken_at"), "broken_at", "Rule.broken_at", defArgs s_Rule_broken_at, defBody s_Rule_broken_at, defScope s_Rule_broken_at, [], []⟩) rfl).choose
  F_Rule_broken_at := fun_of (st := s_Rule_broken_at) (c.s.d.def_ 14 (d := ⟨("Rule", some "broken_at"), "broken_at", "Rule.broken_at", defArgs s_Rule_broken_at, defBody s_Rule_broken_at, defScope s_Rule_broken_at, [], []⟩) rfl).choose_spec
  bi_Rule_broken_at := (fun_of (st := s_Rule_broken_at) (c.s.d.def_ 14 (d := ⟨("Rule", some "broken_at"), "broken_at", "Rule.broken_at", defArgs s_Rule_broken_at, defBody s_Rule_broken_at, defScope s_Rule_broken_at, [], []⟩) rfl).choose_spec).binds (ps := ["self", "tree"]) fun _ _ _ _ _ _ us hl => match us, hl with | [_, _], _ => rfl
  me_Rule_broken_at := He.meth_ok (c.s.d.fact 52 (f := .meth "Rule" "broken_at") rfl)
  a_Rule_keeps := (He.ma K (He.ga K "Rule") "keeps")
  fd_Rule_keeps := (c.s.d.def_ 15 (d := ⟨("Rule", some "keeps"), "keeps", "Rule.keeps", defArgs s_Rule_keeps, defBody s_Rule_keeps, defScope s_Rule_keeps, [], []⟩) rfl).choose
  F_Rule_keeps := fun_of (st := s_Rule_keeps) (c.s.d.def_ 15 (d := ⟨("Rule", some "keeps"), "keeps", "Rule.keeps", defArgs s_Rule_keeps, defBody s_Rule_keeps, defScope s_Rule_keeps, [], []⟩) rfl).choose_spec
  bi_Rule_keeps := (fun_of (st := s_Rule_keeps) (c.s.d.def_ 15 (d := ⟨("Rule", some "keeps"), "keeps", "Rule.keeps", defArgs s_Rule_keeps, defBody s_Rule_keeps, defScope s_Rule_keeps, [], []⟩) rfl).choose_spec).binds (ps := ["self", "tree"]) fun _ _ _ _ _ _ us hl => match us, hl with | [_, _], _ => rfl
  me_Rule_keeps := He.meth_ok (c.s.d.fact 53 (f := .meth "Rule" "keeps") rfl)
  a_least_part := (He.ga K "least_part")
  fd_least_part := (c.s.d.def_ 16 (d := ⟨("least_part", none), "least_part", "least_part", defArgs s_least_part, defBody s_least_part, defScope s_least_part, [], []⟩) rfl).choose
  F_least_part := fun_of (st := s_least_part) (c.s.d.def_ 16 (d := ⟨("least_part", none), "least_part", "least_part", defArgs s_least_part, defBody s_least_part, defScope s_least_part, [], []⟩) rfl).choose_spec
  bi_least_part := (fun_of (st := s_least_part) (c.s.d.def_ 16 (d := ⟨("least_part", none), "least_part", "least_part", defArgs s_least_part, defBody s_least_part, defScope s_least_part, [], []⟩) rfl).choose_spec).binds (ps := ["rule"]) fun _ _ _ _ _ _ us hl => match us, hl with | [_], _ => rfl
  m_least_part := He.glo_ok X G (c.s.d.fact 54 (f := .glo "least_part") rfl)
  a_known_rule := (He.ga K "known_rule")
  fd_known_rule := (c.s.d.def_ 17 (d := ⟨("known_rule", none), "known_rule", "known_rule", defArgs s_known_rule, defBody s_known_rule, defScope s_known_rule, [], []⟩) rfl).choose
  F_known_rule := fun_of (st := s_known_rule) (c.s.d.def_ 17 (d := ⟨("known_rule", none), "known_rule", "known_rule", defArgs s_known_rule, defBody s_known_rule, defScope s_known_rule, [], []⟩) rfl).choose_spec
  bi_known_rule := (fun_of (st := s_known_rule) (c.s.d.def_ 17 (d := ⟨("known_rule", none), "known_rule", "known_rule", defArgs s_known_rule, defBody s_known_rule, defScope s_known_rule, [], []⟩) rfl).choose_spec).binds (ps := ["name"]) fun _ _ _ _ _ _ us hl => match us, hl with | [_], _ => rfl
  m_known_rule := He.glo_ok X G (c.s.d.fact 55 (f := .glo "known_rule") rfl)
  a_l_pen := (He.ga K "_law_pen")
  fd_l_pen := (c.s.d.def_ 18 (d := ⟨("_law_pen", none), "_law_pen", "_law_pen", defArgs s_l_pen, defBody s_l_pen, defScope s_l_pen, [], []⟩) rfl).choose
  F_l_pen := fun_of (st := s_l_pen) (c.s.d.def_ 18 (d := ⟨("_law_pen", none), "_law_pen", "_law_pen", defArgs s_l_pen, defBody s_l_pen, defScope s_l_pen, [], []⟩) rfl).choose_spec
  bi_l_pen := (fun_of (st := s_l_pen) (c.s.d.def_ 18 (d := ⟨("_law_pen", none), "_law_pen", "_law_pen", defArgs s_l_pen, defBody s_l_pen, defScope s_l_pen, [], []⟩) rfl).choose_spec).binds (ps := ["_law_script"]) fun _ _ _ _ _ _ us hl => match us, hl with | [_], _ => rfl
  m_l_pen := He.glo_ok X G (c.s.d.fact 56 (f := .glo "_law_pen") rfl)
  a_l_draw := (He.ga K "_law_draw")
  fd_l_draw := (c.s.d.def_ 19 (d := ⟨("_law_draw", none), "_law_draw", "_law_draw", defArgs s_l_draw, defBody s_l_draw, defScope s_l_draw, [], []⟩) rfl).choose
  F_l_draw := fun_of (st := s_l_draw) (c.s.d.def_ 19 (d := ⟨("_law_draw", none), "_law_draw", "_law_draw", defArgs s_l_draw, defBody s_l_draw, defScope s_l_draw, [], []⟩) rfl).choose_spec
  bi_l_draw := (fun_of (st := s_l_draw) (c.s.d.def_ 19 (d := ⟨("_law_draw", none), "_law_draw", "_law_draw", defArgs s_l_draw, defBody s_l_draw, defScope s_l_draw, [], []⟩) rfl).choose_spec).binds (ps := ["_law_pen_here", "_law_many"]) fun _ _ _ _ _ _ us hl => match us, hl with | [_, _], _ => rfl
  m_l_draw := He.glo_ok X G (c.s.d.fact 57 (f := .glo "_law_draw") rfl)
  a_l_pick := (He.ga K "_law_pick")
  fd_l_pick := (c.s.d.def_ 20 (d := ⟨("_law_pick", none), "_law_pick", "_law_pick", defArgs s_l_pick, defBody s_l_pick, defScope s_l_pick, [], []⟩) rfl).choose
  F_l_pick := fun_of (st := s_l_pick) (c.s.d.def_ 20 (d := ⟨("_law_pick", none), "_law_pick", "_law_pick", defArgs s_l_pick, defBody s_l_pick, defScope s_l_pick, [], []⟩) rfl).choose_spec
  bi_l_pick := (fun_of (st := s_l_pick) (c.s.d.def_ 20 (d := ⟨("_law_pick", none), "_law_pick", "_law_pick", defArgs s_l_pick, defBody s_l_pick, defScope s_l_pick, [], []⟩) rfl).choose_spec).binds (ps := ["_law_pen_here", "_law_some"]) fun _ _ _ _ _ _ us hl => match us, hl with | [_, _], _ => rfl
  m_l_pick := He.glo_ok X G (c.s.d.fact 58 (f := .glo "_law_pick") rfl)
  a_l_letters := (He.ga K "_law_letters")
  fd_l_letters := (c.s.d.def_ 21 (d := ⟨("_law_letters", none), "_law_letters", "_law_letters", defArgs s_l_letters, defBody s_l_letters, defScope s_l_letters, [], []⟩) rfl).choose
  F_l_letters := fun_of (st := s_l_letters) (c.s.d.def_ 21 (d := ⟨("_law_letters", none), "_law_letters", "_law_letters", defArgs s_l_letters, defBody s_l_letters, defScope s_l_letters, [], []⟩) rfl).choose_spec
  bi_l_letters := (fun_of (st := s_l_letters) (c.s.d.def_ 21 (d := ⟨("_law_letters", none), "_law_letters", "_law_letters", defArgs s_l_letters, defBody s_l_letters, defScope s_l_letters, [], []⟩) rfl).choose_spec).binds (ps := ["_law_pen_here", "_law_most"]) fun _ _ _ _ _ _ us hl => match us, hl with | [_, _], _ => rfl
  m_l_letters := He.glo_ok X G (c.s.d.fact 59 (f := .glo "_law_letters") rfl)
  a_l_places := (He.ga K "_law_places")
  fd_l_places := (c.s.d.def_ 22 (d := ⟨("_law_places", none), "_law_places", "_law_places", defArgs s_l_places, defBody s_l_places, defScope s_l_places, [], []⟩) rfl).choose
  F_l_places := fun_of (st := s_l_places) (c.s.d.def_ 22 (d := ⟨("_law_places", none), "_law_places", "_law_places", defArgs s_l_places, defBody s_l_places, defScope s_l_places, [], []⟩) rfl).choose_spec
  bi_l_places := (fun_of (st := s_l_places) (c.s.d.def_ 22 (d := ⟨("_law_places", none), "_law_places", "_law_places", defArgs s_l_places, defBody s_l_places, defScope s_l_places, [], []⟩) rfl).choose_spec).binds (ps := ["_law_pen_here", "_law_letters_here", "_law_many"]) fun _ _ _ _ _ _ us hl => match us, hl with | [_, _, _], _ => rfl
  m_l_places := He.glo_ok X G (c.s.d.fact 60 (f := .glo "_law_places") rfl)
  a_l_row := (He.ga K "_law_row")
  fd_l_row := (c.s.d.def_ 23 (d := ⟨("_law_row", none), "_law_row", "_law_row", defArgs s_l_row, defBody s_l_row, defScope s_l_row, [], []⟩) rfl).choose
  F_l_row := fun_of (st := s_l_row) (c.s.d.def_ 23 (d := ⟨("_law_row", none), "_law_row", "_law_row", defArgs s_l_row, defBody s_l_row, defScope s_l_row, [], []⟩) rfl).choose_spec
  bi_l_row := (fun_of (st := s_l_row) (c.s.d.def_ 23 (d := ⟨("_law_row", none), "_law_row", "_law_row", defArgs s_l_row, defBody s_l_row, defScope s_l_row, [], []⟩) rfl).choose_spec).binds (ps := ["_law_pen_here", "_law_place"]) fun _ _ _ _ _ _ us hl => match us, hl with | [_, _], _ => rfl
  m_l_row := He.glo_ok X G (c.s.d.fact 61 (f := .glo "_law_row") rfl)
  a_l_shuffled := (He.ga K "_law_shuffled")
  fd_l_shuffled := (c.s.d.def_ 24 (d := ⟨("_law_shuffled", none), "_law_shuffled", "_law_shuffled", defArgs s_l_shuffled, defBody s_l_shuffled, defScope s_l_shuffled, [], []⟩) rfl).choose
  F_l_shuffled := fun_of (st := s_l_shuffled) (c.s.d.def_ 24 (d := ⟨("_law_shuffled", none), "_law_shuffled", "_law_shuffled", defArgs s_l_shuffled, defBody s_l_shuffled, defScope s_l_shuffled, [], []⟩) rfl).choose_spec
  bi_l_shuffled := (fun_of (st := s_l_shuffled) (c.s.d.def_ 24 (d := ⟨("_law_shuffled", none), "_law_shuffled", "_law_shuffled", defArgs s_l_shuffled, defBody s_l_shuffled, defScope s_l_shuffled, [], []⟩) rfl).choose_spec).binds (ps := ["_law_pen_here", "_law_some"]) fun _ _ _ _ _ _ us hl => match us, hl with | [_, _], _ => rfl
  m_l_shuffled := He.glo_ok X G (c.s.d.fact 62 (f := .glo "_law_shuffled") rfl)
  kc_l_ordered := He.codeOf K ("_law_ordered", none)
  tb_l_ordered := He.tabOf K (He.codeOf K ("_law_ordered", none))
  ec_l_ordered := ec_of (p := ("_law_ordered", none)) (fun_of (st := s_l_ordered) (c.s.d.def_ 25 (d := ⟨("_law_ordered", none), "_law_ordered", "_law_ordered", defArgs s_l_ordered, defBody s_l_ordered, defScope s_l_ordered, [], []⟩) rfl).choose_spec)
  a_l_ordered := (He.ga K "_law_ordered")
  fd_l_ordered := (c.s.d.def_ 25 (d := ⟨("_law_ordered", none), "_law_ordered", "_law_ordered", defArgs s_l_ordered, defBody s_l_ordered, defScope s_l_ordered, [], []⟩) rfl).choose
  F_l_ordered := fun_of (st := s_l_ordered) (c.s.d.def_ 25 (d := ⟨("_law_ordered", none), "_law_ordered", "_law_ordered", defArgs s_l_ordered, defBody s_l_ordered, defScope s_l_ordered, [], []⟩) rfl).choose_spec
  bi_l_ordered := (fun_of (st := s_l_ordered) (c.s.d.def_ 25 (d := ⟨("_law_ordered", none), "_law_ordered", "_law_ordered", defArgs s_l_ordered, defBody s_l_ordered, defScope s_l_ordered, [], []⟩) rfl).choose_spec).binds (ps := ["_law_letters_here", "_law_words"]) fun _ _ _ _ _ _ us hl => match us, hl with | [_, _], _ => rfl
  m_l_ordered := He.glo_ok X G (c.s.d.fact 63 (f := .glo "_law_ordered") rfl)
  a_l_caught := (He.ga K "_law_caught")
  fd_l_caught := (c.s.d.def_ 26 (d := ⟨("_law_caught", none), "_law_caught", "_law_caught", defArgs s_l_caught, defBody s_l_caught, defScope s_l_caught, [], []⟩) rfl).choose
  F_l_caught := fun_of (st := s_l_caught) (c.s.d.def_ 26 (d := ⟨("_law_caught", none), "_law_caught", "_law_caught", defArgs s_l_caught, defBody s_l_caught, defScope s_l_caught, [], []⟩) rfl).choose_spec
  bi_l_caught := (fun_of (st := s_l_caught) (c.s.d.def_ 26 (d := ⟨("_law_caught", none), "_law_caught", "_law_caught", defArgs s_l_caught, defBody s_l_caught, defScope s_l_caught, [], []⟩) rfl).choose_spec).binds (ps := ["_law_function"]) fun _ _ _ _ _ _ us hl => match us, hl with | [_], _ => rfl
  m_l_caught := He.glo_ok X G (c.s.d.fact 64 (f := .glo "_law_caught") rfl)
  a_l_every := (He.ga K "_law_every")
  fd_l_every := (c.s.d.def_ 27 (d := ⟨("_law_every", none), "_law_every", "_law_every", defArgs s_l_every, defBody s_l_every, defScope s_l_every, [], []⟩) rfl).choose
  F_l_every := fun_of (st := s_l_every) (c.s.d.def_ 27 (d := ⟨("_law_every", none), "_law_every", "_law_every", defArgs s_l_every, defBody s_l_every, defScope s_l_every, [], []⟩) rfl).choose_spec
  bi_l_every := (fun_of (st := s_l_every) (c.s.d.def_ 27 (d := ⟨("_law_every", none), "_law_every", "_law_every", defArgs s_l_every, defBody s_l_every, defScope s_l_every, [], []⟩) rfl).choose_spec).binds (ps := []) fun _ _ _ _ _ _ us hl => match us, hl with | [], _ => rfl
  m_l_every := He.glo_ok X G (c.s.d.fact 65 (f := .glo "_law_every") rfl)
  a_l_kinds := (He.ga K "_law_kinds")
  fd_l_kinds := (c.s.d.def_ 28 (d := ⟨("_law_kinds", none), "_law_kinds", "_law_kinds", defArgs s_l_kinds, defBody s_l_kinds, defScope s_l_kinds, [], []⟩) rfl).choose
  F_l_kinds := fun_of (st := s_l_kinds) (c.s.d.def_ 28 (d := ⟨("_law_kinds", none), "_law_kinds", "_law_kinds", defArgs s_l_kinds, defBody s_l_kinds, defScope s_l_kinds, [], []⟩) rfl).choose_spec
  bi_l_kinds := (fun_of (st := s_l_kinds) (c.s.d.def_ 28 (d := ⟨("_law_kinds", none), "_law_kinds", "_law_kinds", defArgs s_l_kinds, defBody s_l_kinds, defScope s_l_kinds, [], []⟩) rfl).choose_spec).binds (ps := ["_law_pen_here"]) fun _ _ _ _ _ _ us hl => match us, hl with | [_], _ => rfl
  m_l_kinds := He.glo_ok X G (c.s.d.fact 66 (f := .glo "_law_kinds") rfl)
  a_l_shape := (He.ga K "_law_shape")
  fd_l_shape := (c.s.d.def_ 29 (d := ⟨("_law_shape", none), "_law_shape", "_law_shape", defArgs s_l_shape, defBody s_l_shape, defScope s_l_shape, [], []⟩) rfl).choose
  F_l_shape := fun_of (st := s_l_shape) (c.s.d.def_ 29 (d := ⟨("_law_shape", none), "_law_shape", "_law_shape", defArgs s_l_shape, defBody s_l_shape, defScope s_l_shape, [], []⟩) rfl).choose_spec
  bi_l_shape := (fun_of (st := s_l_shape) (c.s.d.def_ 29 (d := ⟨("_law_shape", none), "_law_shape", "_law_shape", defArgs s_l_shape, defBody s_l_shape, defScope s_l_shape, [], []⟩) rfl).choose_spec).binds (ps := ["_law_pen_here", "_law_kinds_here"]) fun _ _ _ _ _ _ us hl => match us, hl with | [_, _], _ => rfl
  m_l_shape := He.glo_ok X G (c.s.d.fact 67 (f := .glo "_law_shape") rfl)
  kc_l_refused_right := He.codeOf K ("_law_refused_right", none)
  tb_l_refused_right := He.tabOf K (He.codeOf K ("_law_refused_right", none))
  ec_l_refused_right := ec_of (p := ("_law_refused_right", none)) (fun_of (st := s_l_refused_right) (c.s.d.def_ 30 (d := ⟨("_law_refused_right", none), "_law_refused_right", "_law_refused_right", defArgs s_l_refused_right, defBody s_l_refused_right, defScope s_l_refused_right, [], []⟩) rfl).choose_spec)
  a_l_refused_right := (He.ga K "_law_refused_right")
  fd_l_refused_right := (c.s.d.def_ 30 (d := ⟨("_law_refused_right", none), "_law_refused_right", "_law_refused_right", defArgs s_l_refused_right, defBody s_l_refused_right, defScope s_l_refused_right, [], []⟩) rfl).choose
  F_l_refused_right := fun_of (st := s_l_refused_right) (c.s.d.def_ 30 (d := ⟨("_law_refused_right", none), "_law_refused_right", "_law_refused_right", defArgs s_l_refused_right, defBody s_l_refused_right, defScope s_l_refused_right, [], []⟩) rfl).choose_spec
  bi_l_refused_right := (fun_of (st := s_l_refused_right) (c.s.d.def_ 30 (d := ⟨("_law_refused_right", none), "_law_refused_right", "_law_refused_right", defArgs s_l_refused_right, defBody s_l_refused_right, defScope s_l_refused_right, [], []⟩) rfl).choose_spec).binds (ps := ["_law_pen_here", "_law_root", "_law_others"]) fun _ _ _ _ _ _ us hl => match us, hl with | [_, _, _], _ => rfl
  m_l_refused_right := He.glo_ok X G (c.s.d.fact 68 (f := .glo "_law_refused_right") rfl)
  a_l_told_right := (He.ga K "_law_told_right")
  fd_l_told_right := (c.s.d.def_ 31 (d := ⟨("_law_told_right", none), "_law_told_right", "_law_told_right", defArgs s_l_told_right, defBody s_l_told_right, defScope s_l_told_right, [], []⟩) rfl).choose
  F_l_told_right := fun_of (st := s_l_told_right) (c.s.d.def_ 31 (d := ⟨("_law_told_right", none), "_law_told_right", "_law_told_right", defArgs s_l_told_right, defBody s_l_told_right, defScope s_l_told_right, [], []⟩) rfl).choose_spec
  bi_l_told_right := (fun_of (st := s_l_told_right) (c.s.d.def_ 31 (d := ⟨("_law_told_right", none), "_law_told_right", "_law_told_right", defArgs s_l_told_right, defBody s_l_told_right, defScope s_l_told_right, [], []⟩) rfl).choose_spec).binds (ps := ["_law_rule", "_law_root", "_law_others"]) fun _ _ _ _ _ _ us hl => match us, hl with | [_, _, _], _ => rfl
  m_l_told_right := He.glo_ok X G (c.s.d.fact 69 (f := .glo "_law_told_right") rfl)
  a_l_kind := (He.ga K "_law_kind")
  fd_l_kind := (c.s.d.def_ 32 (d := ⟨("_law_kind", none), "_law_kind", "_law_kind", defArgs s_l_kind, defBody s_l_kind, defScope s_l_kind, [], []⟩) rfl).choose
  F_l_kind := fun_of (st := s_l_kind) (c.s.d.def_ 32 (d := ⟨("_law_kind", none), "_law_kind", "_law_kind", defArgs s_l_kind, defBody s_l_kind, defScope s_l_kind, [], []⟩) rfl).choose_spec
  bi_l_kind := (fun_of (st := s_l_kind) (c.s.d.def_ 32 (d := ⟨("_law_kind", none), "_law_kind", "_law_kind", defArgs s_l_kind, defBody s_l_kind, defScope s_l_kind, [], []⟩) rfl).choose_spec).binds (ps := ["_law_rows", "_law_letters_here", "_law_place"]) fun _ _ _ _ _ _ us hl => match us, hl with | [_, _, _], _ => rfl
  m_l_kind := He.glo_ok X G (c.s.d.fact 70 (f := .glo "_law_kind") rfl)
  a_l_tree_right := (He.ga K "_law_tree_right")
  fd_l_tree_right := (c.s.d.def_ 33 (d := ⟨("_law_tree_right", none), "_law_tree_right", "_law_tree_right", defArgs s_l_tree_right, defBody s_l_tree_right, defScope s_l_tree_right, [], []⟩) rfl).choose
  F_l_tree_right := fun_of (st := s_l_tree_right) (c.s.d.def_ 33 (d := ⟨("_law_tree_right", none), "_law_tree_right", "_law_tree_right", defArgs s_l_tree_right, defBody s_l_tree_right, defScope s_l_tree_right, [], []⟩) rfl).choose_spec
  bi_l_tree_right := (fun_of (st := s_l_tree_right) (c.s.d.def_ 33 (d := ⟨("_law_tree_right", none), "_law_tree_right", "_law_tree_right", defArgs s_l_tree_right, defBody s_l_tree_right, defScope s_l_tree_right, [], []⟩) rfl).choose_spec).binds (ps := ["_law_letters_here", "_law_tree", "_law_rows", "_law_rule", "_law_root", "_law_others"]) fun _ _ _ _ _ _ us hl => match us, hl with | [_, _, _, _, _, _], _ => rfl
  m_l_tree_right := He.glo_ok X G (c.s.d.fact 71 (f := .glo "_law_tree_right") rfl)
  a_l_known_right := (He.ga K "_law_known_right")
  fd_l_known_right := (c.s.d.def_ 34 (d := ⟨("_law_known_right", none), "_law_known_right", "_law_known_right", defArgs s_l_known_right, defBody s_l_known_right, defScope s_l_known_right, [], []⟩) rfl).choose
  F_l_known_right := fun_of (st := s_l_known_right) (c.s.d.def_ 34 (d := ⟨("_law_known_right", none), "_law_known_right", "_law_known_right", defArgs s_l_known_right, defBody s_l_known_right, defScope s_l_known_right, [], []⟩) rfl).choose_spec
  bi_l_known_right := (fun_of (st := s_l_known_right) (c.s.d.def_ 34 (d := ⟨("_law_known_right", none), "_law_known_right", "_law_known_right", defArgs s_l_known_right, defBody s_l_known_right, defScope s_l_known_right, [], []⟩) rfl).choose_spec).binds (ps := ["_law_name"]) fun _ _ _ _ _ _ us hl => match us, hl with | [_], _ => rfl
  m_l_known_right := He.glo_ok X G (c.s.d.fact 72 (f := .glo "_law_known_right") rfl)
  kc_law := He.codeOf K ("law", none)
  tb_law := He.tabOf K (He.codeOf K ("law", none))
  ec_law := ec_of (p := ("law", none)) (fun_of (st := s_law) (c.s.d.def_ 35 (d := ⟨("law", none), "law", "law", defArgs s_law, defBody s_law, defScope s_law, [], []⟩) rfl).choose_spec)
  a_law := (He.ga K "law")
  fd_law := (c.s.d.def_ 35 (d := ⟨("law", none), "law", "law", defArgs s_law, defBody s_law, defScope s_law, [], []⟩) rfl).choose
  F_law := fun_of (st := s_law) (c.s.d.def_ 35 (d := ⟨("law", none), "law", "law", defArgs s_law, defBody s_law, defScope s_law, [], []⟩) rfl).choose_spec
  bi_law := (fun_of (st := s_law) (c.s.d.def_ 35 (d := ⟨("law", none), "law", "law", defArgs s_law, defBody s_law, defScope s_law, [], []⟩) rfl).choose_spec).binds (ps := ["_law_script"]) fun _ _ _ _ _ _ us hl => match us, hl with | [_], _ => rfl
  m_law := He.glo_ok X G (c.s.d.fact 73 (f := .glo "law") rfl)
  eq_Rule := ⟨of_decide_eq_true (c.s.e 16 (f := fun K => decide (PySem.W.findIn K (.ref (He.ga K "Rule")) "__eq__" = some (some (.ref (He.ma K (He.ga K "Rule") "__eq__"))))) rfl), (c.s.e 17 (f := fun K => PySem.W.isFn K (.ref (He.ma K (He.ga K "Rule") "__eq__"))) rfl), of_decide_eq_true (c.s.e 18 (f := fun K => decide (PySem.W.findIn K (.ref (He.ga K "Rule")) "__ne__" = some (some (.builtin "object.__ne__")))) rfl), of_decide_eq_true (c.s.e 19 (f := fun K => decide (PySem.W.mroIn K (He.ga K "Rule") (.type "object") = some true)) rfl), of_decide_eq_true (c.s.e 20 (f := fun K => decide (PySem.W.mroIn K (He.ga K "Rule") (.type "list") = some false)) rfl), of_decide_eq_true (c.s.e 21 (f := fun K => decide (PySem.W.mroIn K (He.ga K "Rule") (.type "tuple") = some false)) rfl)⟩
  ca_Rule := of_decide_eq_true (c.s.e 22 (f := fun K => decide (PySem.W.findIn K (.ref (He.ga K "Rule")) "__class__" = some (some (.builtin "object.__class__")))) rfl)
  kl_Rule := of_decide_eq_true (c.s.e 23 (f := fun K => decide (PySem.W.kitOne K (.type "list") (.ref (He.ga K "Rule")) = some false)) rfl)
  tnd := of_decide_eq_true (c.s.e 24 (f := fun K => decide ([He.tabOf K (He.codeOf K ("in_order", none)), He.tabOf K (He.codeOf K ("_law_ordered", none)), He.tabOf K (He.codeOf K ("_law_refused_right", none)), He.tabOf K (He.codeOf K ("law", none))].Nodup)) rfl)
end Toy
set_option Elab.async false
set_option linter.all false
set_option maxRecDepth 100000
set_option maxHeartbeats 4000000
namespace Toy
open PySem L2 Sh ShL LamX NdefX
/-! ### the end -/
theorem facts {w : World} {K : PySem.W.Frag} {h : Heap} {mg : Str → Option Value} {fa : Addr} (X : K.In h) (G : h.Ns mainGlobals mg) (hfa : mg ("law" : Str) = some (.ref fa)) (c : SaysT h K) :
    LamX.LawAtS PySem.Challenge.rw_treeshed_k02_rules_and_kinds w K CX0 12 63 "_law_script" mg fa h := by
  have e := hfa.symm.trans (tx_of X G c).m_law
  cases e
  have m1 : ∀ q ∈ hTf, He.cT K q ∈ hTf.map (He.cT K) := fun q hq => List.mem_map.mpr ⟨q, hq, rfl⟩
  have q1 : (("in_order", none) : He.Defn) ∈ hTf := .head _
  have q2 : (("_law_ordered", none) : He.Defn) ∈ hTf := .tail _ (.head _)
  have q3 : (("_law_refused_right", none) : He.Defn) ∈ hTf := .tail _ (.tail _ (.head _))
  have q4 : (("law", none) : He.Defn) ∈ hTf := .tail _ (.tail _ (.tail _ (.head _)))
  refine ⟨(tx_of X G c).fd_law, hTf.map (He.cT K), spLaw K (tabs (tx_of X G c)), fun p hp => ?_, fun p hp => ?_, fun p hp => ?_, fun s v => ?_, fun H a ns hl _ ht hS => ⟨a, ns, rfl, hS, fun p hp => ?_, fun _ => rfl⟩, fun base _ _ hB => ok_law (tx_of X G c) ⟨hB _ (m1 _ q1), hB _ (m1 _ q2), hB _ (m1 _ q3), hB _ (m1 _ q4)⟩⟩
  · obtain ⟨q, hq, rfl⟩ := List.mem_map.mp hp
    exact c.empty q hq
  · obtain ⟨q, hq, rfl⟩ := List.mem_map.mp hp
    exact c.out q hq
  · obtain ⟨q, hq, rfl⟩ := List.mem_map.mp hp
    exact PySem.W.codeHd_of_K X (c.hd q hq)
  · obtain ⟨oc, od, kV, doc, pm, an, cdv, ct, osl, h, _⟩ := (tx_of X G c).F_law.ex
    rw [h]
    exact .of_eq rfl
  · unfold tabs at hp
    rcases List.mem_cons.mp hp with rfl | hp
    · exact LamX.TabS.nil (ht _ (m1 _ q1))
    rcases List.mem_cons.mp hp with rfl | hp
    · exact LamX.TabS.nil (ht _ (m1 _ q2))
    rcases List.mem_cons.mp hp with rfl | hp
    · exact LamX.TabS.nil (ht _ (m1 _ q3))
    rcases List.mem_cons.mp hp with rfl | hp
    · exact LamX.TabS.nil (ht _ (m1 _ q4))
    cases hp
end Toy
set_option Elab.async false
set_option linter.all false
set_option maxRecDepth 100000
set_option maxHeartbeats 4000000
namespace Toy
open PySem L2 Sh ShL LamX NdefX
/-! ### the head: the run of the top, in the kernel -/
abbrev R : PySem.W.OpenRow := PySem.W.OpenLaw.row PySem.Challenge.rw_treeshed_k02_rules_and_kinds
abbrev hk : PySem.W.Hook := hookXT 4 hFa hFn hEx hXs hTf hCm
def ob (s : PySem.W.SharedT) : AlXT := obsXT hFa hFn hEx hXs hTf hCm 4 (HandSHeadRun.getT s)
theorem ob_eq (s : PySem.W.SharedT) : ob s = hk.obs s.abs := obsXT_eq (HandSHeadRun.getT_eq s)
set_option maxHeartbeats 0 in
theorem run (w : World) : HandSHeadRun.RunEq R (PySem.W.view R.prog [49]) hk ob 20000 loose w := by
  intro os
  kernel_rfl
end Toy
set_option Elab.async false
set_option linter.all false
set_option maxRecDepth 100000
set_option maxHeartbeats 4000000
namespace Toy
open PySem L2 Sh ShL LamX NdefX
end Toy
open PySem PySem.W PySem.Calls PyProof.Rows
set_option maxRecDepth 100000 in
set_option maxHeartbeats 0 in
theorem PySem.Challenge.cw_treeshed_k02_rules_and_kinds_holds : PySem.Challenge.rw_treeshed_k02_rules_and_kinds.Holds := by
  w_on; o_law
  refine HandSHeadRun.head_any (r := OpenLaw.row PySem.Challenge.rw_treeshed_k02_rules_and_kinds) (q := view (OpenLaw.row PySem.Challenge.rw_treeshed_k02_rules_and_kinds).prog [49]) (H := Toy.hk) (ob := Toy.ob) (M := 20000) (loose := Toy.loose) (d := HandSHeadRun.topDef (OpenLaw.row PySem.Challenge.rw_treeshed_k02_rules_and_kinds).prog 49) (kwd := []) Toy.ob_eq
    (by kernel_rfl) (fun s => by kernel_rfl) Toy.run (by kernel_rfl) (by kernel_rfl) (by kernel_rfl) (by rfl) (by first | assumption | decide +kernel) (by decide +kernel) ⟨rfl, rfl, rfl, rfl, rfl, by decide +kernel⟩ ?hw ?hc
  case hw => w_witness2
  case hc =>
    refine LamX.walk_ofTsE (l := PySem.Challenge.rw_treeshed_k02_rules_and_kinds) (n := 63) (k := 12) (x := "_law_script") (CX := fun _ => L2.CX0) rfl (by decide) (by kernel_rfl) ⟨rfl, by decide, by decide⟩ ?F (fun _ _ _ _ _ h => h)
    intro w mg fa h Y G hmg0
    obtain ⟨K, KX, c⟩ := Y
    have hmg : mg ("law" : PySem.Str) = some (.ref fa) := by
      have e : (HandSHeadRun.topDef (OpenLaw.row PySem.Challenge.rw_treeshed_k02_rules_and_kinds).prog 49).name = ("law" : PySem.Str) := by kernel_rfl
      rw [← e]
      exact hmg0
    exact ⟨K, KX, Toy.facts (w := w) KX G hmg c⟩
#print axioms PySem.Challenge.cw_treeshed_k02_rules_and_kinds_holds
namespace Toy
end Toy
