import PyProof.Rows.All
import Wide.All
import OpenK.AllK
import Wide.FinOn
import HandS.ForMost
import HandS.Deep
import HandS.Style
import HandS.IsInst
import HandS.TupAny
import HandS.Codes
import KE.SortData
import HandS.Exc
import HandS.ExcInit
import HandS.Nested
import KE.KSuper
import KE.KExcSuper
import HandS.Defaults
import HandS.MakeKw
import HandS.ExcValue
import KE.KExcIs
import PyProof.ReprReads
import PyProof.StrHeap
import PyProof.ReprHeadsEmpty
import HandS.RaiseMore
import KE.KStateDown
import HandS.Head0
import HandS.Head1
import HandS.Head2
import HandS.HeadEnd
import HandS.HeadHook1
import HandS.HeadHook2
import HandS.TryMany
import KE.SortKeyHeap
import HandS.OwnEq
import HandS.More
import HandS.NamedTupSort
import PyProof.InstNe
import HandS.NoneIn
import PyProof.StrOps2
import PyProof.SliceStr2
import KE.KRevSl
import HandS.Conv
import KE.KDictList
import PyProof.StrWalks
import HandS.Lambda
import HandS.ClsMeth
import HandS.DictComp
import HandS.HeadWalk
import HandS.DeepEq
import HandS.Base
import HandS.Call
import HandS.HeadHook4
import HandS.EndTab
import PyProof.EqAt
import PyProof.EqKinds
import PyProof.TupleCall
import HandS.List
import HandS.Comp
import KE.GoesMore
import PyProof.EnumMake
import PyProof.TupleOfStr
import HandS.TupLen
import KE.KDictKeyed
import HandS.Steps
import HandS.WordsExc
import HandS.SortInts
import HandS.Flow
import HandS.StrMore
import HandS.Replace
import HandS.Iter
import HandS.Walk
import HandS.WideBits
import PySem.Challenge.RW_treeshed_k55_due_values
set_option Elab.async false
set_option linter.all false
set_option maxRecDepth 100000
set_option maxHeartbeats 4000000
namespace Sh
open PySem PySem.Spec PyProof.Rows L2
/-! ### rules of my own over the hand layer -/
section
variable {X : Cx}
def rInDT (K : PySem.W.Frag) : R2 := fun x y H Q => ∃ d ds, Dp K H x d ∧ Dp K H y (.tuple ds) ∧ SeqAt.shaped d = true ∧ SeqAt.shaped (.tuple ds) = true ∧ Q (.bl (ds.any fun z => PyData.eqv z d)) H
def rNotInDT (K : PySem.W.Frag) : R2 := fun x y H Q => ∃ d ds, Dp K H x d ∧ Dp K H y (.tuple ds) ∧ SeqAt.shaped d = true ∧ SeqAt.shaped (.tuple ds) = true ∧ Q (.bl (!ds.any fun z => PyData.eqv z d)) H
theorem op_inDT (hu : X.A.units + 65 < cLine) : OpR X (compareOp .In) (rInDT X.K) := by
  intro pins s σ H x y v u Q I rx ry h
  obtain ⟨d, ds, hd, he, sd, se, q⟩ := h
  obtain ⟨as, r1⟩ := Dp.reads I d x v hd rx
  obtain ⟨bs, r2⟩ := Dp.reads I (.tuple ds) y u he ry
  exact SeqAt.in_tuple_reads r2 r1 (SeqAt.canLay_of_shaped se) (SeqAt.canLay_of_shaped sd) (room_in_shaped sd hu) ⟨.bl _, H, I, rfl, q⟩
theorem op_notInDT (hu : X.A.units + 65 < cLine) : OpR X (compareOp .NotIn) (rNotInDT X.K) := by
  intro pins s σ H x y v u Q I rx ry h
  obtain ⟨d, ds, hd, he, sd, se, q⟩ := h
  obtain ⟨as, r1⟩ := Dp.reads I d x v hd rx
  obtain ⟨bs, r2⟩ := Dp.reads I (.tuple ds) y u he ry
  exact SeqAt.notIn_tuple_reads r2 r1 (SeqAt.canLay_of_shaped se) (SeqAt.canLay_of_shaped sd) (room_in_shaped sd hu) ⟨.bl _, H, I, rfl, q⟩
/-! sorted of a list that reads as data -/
def sortPairs (xs : List V) (ds : List PyData) : List (V × PyData) := (xs.zip ds).mergeSort (PySem.W.dataLe false Prod.snd)
def rSortedDD (K : PySem.W.Frag) : List V → Hp → VK → Prop := fun vs H Q => ∃ (a : Addr) (xs : List V) (ds : List PyData), vs = [V.ref a] ∧ SqL K H a xs ∧ DpAll K H xs ds ∧ PySem.W.AllAlike ds ∧ PySem.W.Sortable ds ∧ (∀ d ∈ ds, d.depth ≤ 60) ∧
  ∀ p, H p = none → Q (.ref p) (upd H p (.lst ((sortPairs xs ds).map Prod.fst)))
theorem DpAll.len {K : PySem.W.Frag} {H : Hp} : ∀ {xs : List V} {ds : List PyData}, DpAll K H xs ds → xs.length = ds.length
  | _, _, .nil => rfl
  | _, _, .cons _ t => by
    show _ + 1 = _ + 1
    rw [DpAll.len t]
theorem zip_snd {α β : Type} : ∀ {xs : List α} {ds : List β}, xs.length = ds.length → (xs.zip ds).map Prod.snd = ds
  | [], [], _ => rfl
  | x :: xs, d :: ds, h => by
    show d :: (xs.zip ds).map Prod.snd = d :: ds
    rw [zip_snd (Nat.succ.inj h)]
theorem each_rel {K : PySem.W.Frag} {H : Hp} : ∀ {xs : List V} {ds : List PyData} {its : List Value}, Vals xs its → xs.length = ds.length → PySem.W.EachIs (fun (v : Value) (b : V × PyData) => RelV b.1 v) its (xs.zip ds)
  | [], [], _, .nil, _ => .nil
  | _ :: _, _ :: _, _, .cons r t, h => .cons r (each_rel (K := K) (H := H) t (Nat.succ.inj h))
theorem each_reads {pins : List (Addr × Obj)} {σ : L2.St} {H : Hp} {s : Shared} (I : L2.Inv X pins σ H s) : ∀ {xs : List V} {ds : List PyData} {its : List Value}, Vals xs its → DpAll X.K H xs ds → PySem.W.EachIs (fun (v : Value) (b : V × PyData) => ∃ as, Reads s.heap v b.2 as) its (xs.zip ds)
  | [], [], _, .nil, _ => .nil
  | _ :: _, _ :: _, _, .cons r t, .cons h hs => .cons (Dp.reads I _ _ _ h r) (each_reads I t hs)
theorem vals_of_each : ∀ {out : List Value} {bs : List (V × PyData)}, PySem.W.EachIs (fun (v : Value) (b : V × PyData) => RelV b.1 v) out bs → Vals (bs.map Prod.fst) out
  | _, _, .nil => .nil
  | _, _, .cons r t => .cons r (vals_of_each t)
theorem cr_sortedDD (hu : X.A.units + 65 < cLine) : CallR X (.builtin "sorted") (rSortedDD X.K) := by
  intro pins s σ H vs us Q I r h
  obtain ⟨a, xs, ds, rfl, hs, hd, hal, hk, hdp, q⟩ := h
  obtain ⟨its, rv, hl, hz⟩ := I.list hs
  rw [Vals.ref1 r]
  have el := DpAll.len hd
  have ez : (xs.zip ds).map Prod.snd = ds := zip_snd el
  have elz : (xs.zip ds).length = xs.length := by rw [List.length_zip, el, Nat.min_self]
  refine PySem.W.sorted_data (enc := Prod.snd) (bs := xs.zip ds) hl.isList (each_rel (K := X.K) (H := H) rv el) (each_reads I rv hd) (by rw [ez]; exact hal) (by rw [ez]; exact hk) (by rw [elz]; exact hz) (fun b hb => ?_) fun out ho eo => ?_
  · have hm : b.2 ∈ ds := by
      rw [← ez]
      exact List.mem_map.mpr ⟨b, hb, rfl⟩
    have := hdp _ hm
    omega
  · obtain ⟨ep, he'⟩ := PyProof.Rows.sortedAll_at s.heap its out.toArray
    have hlen : ((sortPairs xs ds).map Prod.fst).length ≤ sizeLine := by
      rw [List.length_map, sortPairs, List.length_mergeSort, elz]
      exact hz
    refine ⟨.ref _, upd H (s.heap.objs.size + 1) (.lst ((sortPairs xs ds).map Prod.fst)), I.laid (t' := s.toks) (fun _ _ => PyProof.Rows.sortedAll_old) (Nat.le_succ _) ⟨hlen, out, ep, vals_of_each eo, he'⟩, rfl, q _ (I.hok.fresh (Nat.le_succ _))⟩
end
/-! ### heaps -/
/-- all that was tracked is as it was, but for d -/
def Kp (d : Addr) (H H' : Hp) : Prop := ∀ b o, H b = some o → b ≠ d → H' b = some o
theorem Kp.refl (d : Addr) (H : Hp) : Kp d H H := fun _ _ h _ => h
theorem Kp.trans {d : Addr} {H H1 H2 : Hp} (a : Kp d H H1) (b : Kp d H1 H2) : Kp d H H2 := fun c o h n => b c o (a c o h n) n
theorem same_upd {H : Hp} {p : Addr} {o : HO} (h : H p = none) : Same H (upd H p o) := fun b x e => by
  rw [upd_ne (ne_of_none e h)]
  exact e
theorem Same.kp {d : Addr} {H H' : Hp} (s : Same H H') : Kp d H H' := fun b o h _ => s b o h
theorem kp_new {d : Addr} {H : Hp} {p : Addr} {o : HO} (h : H p = none) : Kp d H (upd H p o) := Same.kp (same_upd h)
theorem kp_put {d : Addr} {H : Hp} {o : HO} : Kp d H (upd H d o) := fun b x e n => by
  rw [upd_ne n]
  exact e
/-- a place that was free stays apart -/
theorem Kp.free {d : Addr} {H H' : Hp} (e : Kp d H H') {o : HO} (hd : H' d = some o) {l : Addr} (h : H' l = none) : H l = none := by
  cases q : H l with
  | none => rfl
  | some u =>
    by_cases hl : l = d
    · subst hl
      rw [hd] at h
      cases h
    · rw [e l u q hl] at h
      cases h
mutual
theorem dp_keep {K : PySem.W.Frag} {H H' : Hp} (k : ∀ a u, Rd H a u → (∃ xs, u = .lst xs ∨ u = .tup xs) → Rd H' a u) : ∀ (d : PyData) (v : V), Dp K H v d → Dp K H' v d
  | .none, _, h => by cases h; exact .non
  | .bool b, _, h => by cases h; exact .bl b
  | .int i, _, h => by cases h; exact .int i
  | .str x, _, h => by cases h; exact .str x
  | .list ds, _, h => by
    cases h with
    | lst h1 h2 =>
      refine .lst ?_ (dpAll_keep k ds _ h2)
      rcases h1 with h1 | h1
      · exact .inl (k _ _ h1 ⟨_, .inl rfl⟩)
      · exact .inr h1
  | .tuple ds, _, h => by
    cases h with
    | tup h1 h2 =>
      refine .tup ?_ (dpAll_keep k ds _ h2)
      rcases h1 with h1 | h1
      · exact .inl (k _ _ h1 ⟨_, .inr rfl⟩)
      · exact .inr h1
theorem dpAll_keep {K : PySem.W.Frag} {H H' : Hp} (k : ∀ a u, Rd H a u → (∃ xs, u = .lst xs ∨ u = .tup xs) → Rd H' a u) : ∀ (ds : List PyData) (vs : List V), DpAll K H vs ds → DpAll K H' vs ds
  | [], _, h => by cases h; exact .nil
  | d :: ds, _, h => by
    cases h with
    | cons h1 h2 => exact .cons (dp_keep k d _ h1) (dpAll_keep k ds _ h2)
end
/-! ### loops -/
theorem for_enum {K : PySem.W.Frag} {a : Addr} {xs : List V} {g : TG} {tb : TS} {D : Ends} {σ : L2.St} {H : Hp} (Pv : Nat → L2.St → Hp → Prop) (h0 : Pv 0 σ H) (hl : ∀ i σ H, i ≤ xs.length → Pv i σ H → SqL K H a xs)
    (hs : ∀ (i : Nat) (x : V) (σ : L2.St) (H : Hp) (T : Addr), xs[i]? = some x → H T = none → Pv i σ H → g (.ref T) σ (upd H T (.tup [.int (i : Nat), x])) fun σ2 H2 => tb { D with nx := Pv (i + 1), ct := Pv (i + 1), bk := D.nx } σ2 H2) (hd : ∀ σ H, Pv xs.length σ H → D.nx σ H) :
    ∃ W : Nat → Nat → L2.St → Hp → Prop, (∃ m, W 0 m σ H) ∧ ∀ i m σ H, W i m σ H →
      ((Ite K a).stop i H ∧ D.nx σ H) ∨ ((Ite K a).go i H ∧ ∃ N : L2.St → Hp → Prop, (∀ σ' H', N σ' H' → ∃ m', m' < m ∧ W (i + 1) m' σ' H') ∧ ∀ x H', (Ite K a).yld i H x H' → g x σ H' fun σ2 H2 => tb { D with nx := N, ct := N, bk := D.nx } σ2 H2) := by
  refine ⟨fun i m σ H => m = xs.length - i ∧ i ≤ xs.length ∧ Pv i σ H, ⟨xs.length, by simp, Nat.zero_le _, h0⟩, ?_⟩
  rintro i m σ H ⟨rfl, hi, p⟩
  have q := hl i σ H hi p
  by_cases hlt : i < xs.length
  · refine .inr ⟨⟨xs, xs[i], q, by simp [hlt]⟩, Pv (i + 1), fun σ' H' p' => ⟨xs.length - (i + 1), by omega, rfl, hlt, p'⟩, fun x H' y => ?_⟩
    obtain ⟨T, x, rfl, nT, rfl, y⟩ := y
    exact hs i x σ _ T (y xs q) nT p
  · have e : i = xs.length := by omega
    subst e
    exact .inl ⟨⟨xs, q, Nat.le_refl _⟩, hd σ H p⟩
/-- a cut: what is known of the value that is stored -/
theorem asgW {te : TE} {g : TG} {D : Ends} {σ : L2.St} {H : Hp} (W : VK) (h1 : ∀ R : VK, (∀ v H2, W v H2 → R v H2) → te σ H R) (h2 : ∀ v H2, W v H2 → g v σ H2 D.nx) : tAsg te g D σ H := h1 _ h2
theorem asgS {te : TE} {g : TG} {u : TS} {D : Ends} {σ : L2.St} {H : Hp} (W : VK) (h1 : ∀ R : VK, (∀ v H2, W v H2 → R v H2) → te σ H R) (h2 : ∀ v H2, W v H2 → g v σ H2 (u D)) : tSeq (tAsg te g) u D σ H := h1 _ h2
/-- a cut behind a statement -/
theorem seqW {t u : TS} {D : Ends} {σ : L2.St} {H : Hp} (W : L2.St → Hp → Prop) (h1 : ∀ N : L2.St → Hp → Prop, (∀ σ' H', W σ' H' → N σ' H') → t { D with nx := N } σ H) (h2 : ∀ σ' H', W σ' H' → u D σ' H') : tSeq t u D σ H := h1 _ h2
theorem nextS {D : Ends} {σ : L2.St} {H : Hp} (h : D.nx σ H) : tNext D σ H := h
theorem yes_ite {σ : L2.St} {H : Hp} {A B : Hp → Prop} (h : A H) : tYes σ H fun b H3 => if b = true then A H3 else B H3 := (iteT h : if true = true then A H else B H)
/-- a new object: the heap behind it by what is known of it -/
theorem newW {G : VK} {H : Hp} {o : HO} (h : ∀ p H1, H p = none → Same H H1 → H1 p = some o → G (.ref p) H1) : ∀ p, H p = none → G (.ref p) (upd H p o) := fun p hp => h p _ hp (same_upd hp) upd_same
theorem seqT {K : PySem.W.Frag} {H H' : Hp} {a : Addr} {xs : List V} (e : Same H H') (h : SqT K H a xs) : SqT K H' a xs := by
  rcases h with (h | ⟨o, h⟩) | h
  · exact .inl (.inl (e _ _ h))
  · exact .inl (.inr ⟨o, e _ _ h⟩)
  · exact .inr h
end Sh
set_option Elab.async false
set_option linter.all false
set_option maxRecDepth 100000
set_option maxHeartbeats 4000000
namespace Sh
open PySem PySem.Spec PySem.W PyProof.Rows L2 NdefX
/-! ### own exceptions whose __init__ says super().__init__(..) -/
/-- what the written part says of such an __init__ -/
structure SupF (P : Program) (K : Frag) (mg : Str → Option Value) (cc cda D : Addr) (params : Arguments) (scope : Scope) (sn : Str) : Prop where
  head : ∃ ar : Arg, (params.posonlyargs ++ params.args).head? = some ar ∧ ar.arg = sn
  code : ∃ ccl cdd vs ccs file tf, K.lookup cda = some ⟨ccl, cdd, .fields vs, ccs⟩ ∧ vs[2]? = some (.str file tf) ∧ ((P.main.file : Str) == file) = true
  cell : ∃ cl cld csl, K.lookup cc = some ⟨cl, cld, .cell (some (.ref D)), csl⟩
  clsD : ∃ cdD, clsIn K D = some cdD
  ks : scope.names.lookup ("super" : Str) = some .globalImplicit
  kc : scope.names.lookup ("__class__" : Str) = some .free
  ka : scope.names.lookup sn = some .local
  top : (P.main.scope.names.lookup ("super" : Str)).isSome = false
  mgs : mg "super" = none
  opq : nsIn K cStatics "thirdparty.any" = some none
theorem boot_super : bootBuiltins "super" = some (.type "super") := by decide +kernel
theorem call_mw {prog : Program} {w : World} {A : Around} {E : Value → Shared → Prop} {h : Heap} {g : Array GenState} {d : Drawn} {t : Nat} {os : OsState} {nm q : Str} {C N : Addr} {bs bm : List Value} {hdct : Bool} {sn : List Str} {sub : List Value} {ab : Bool} {col : Option Bool} {dd : Option Addr} {k0 k1 k2 k3 k5 : Option Value}
    {u e t0 : Addr} {rest : List Value} {Q : Value → Shared → Prop}
    (hC : h.get? C = some (excClassObj nm q C N bs bm hdct sn sub ab col dd k0 k1 k2 k3 k5 "ValueError.__new__")) (he : h.get? e = some (excObj C t0 none .none)) (hu : h.get? u = some (kxs_mw "ValueError.__init__" e)) (hz : rest.length ≤ sizeLine)
    (hq : ∀ h', (∀ b o, b ≠ e → h.get? b = some o → h'.get? b = some o) → h'.get? e = some (excObj C h.objs.size none .none) → Q .none ⟨h', g, d, t, os⟩) :
    wpAny (model prog w) A (call (.ref u) rest) Q E ⟨h, g, d, t, os⟩ := by
  have FB := F.excBase_ValueError
  refine wpAny_call (codeAny_of_tree ?_)
  show wpAny _ A.in1 (callAny (.ref u) ⟨rest, []⟩) _ _ _
  simp only [callAny]
  refine wpAny_bind (wpAny_load hu ?_)
  simp only [kxs_mw, show (Value.type "method-wrapper" == Value.type "method" || Value.type "method-wrapper" == Value.type "builtin_function_or_method" || Value.type "method-wrapper" == Value.type "method-wrapper") = true by decide, if_true]
  refine KFB.if_so (by decide) ?_
  refine wpAny_bind (check_bound_init FB.toExcCallFacts hC he rfl ?_)
  refine wpAny_bind (wpAny_pure (wpAny_pure ?_))
  refine ⟨plainId_quiet FB.init.plain _, codeAny_builtin FB.initEntry ?_⟩
  exact exc_init_tree (cls := .ref C) (t0 := t0) (dv := none) (c2 := .none) (c3 := .none) (b4 := .bool false) he hz fun h' k e' _ => hq h' k e'
/-- what is asked of the class of the exception that is made -/
structure SupC (K : Frag) (C D : Addr) : Prop where
  ox : OexC K C
  mro : mroIn K C (.ref D) = some true
  sup : ks_superIn K C D "__init__" = some (some (.builtin "ValueError.__init__"))
  sub : subIn K (.ref C) (.type "ValueError") = some true
section
variable {CX : CXT} {P : Program} {w : World} {K : Frag} {mg : Str → Option Value} {base : Heap} {k : Nat} {f cc cda D : Addr} {name qual : Str} {params : Arguments} {body rest : List Stmt} {scope : Scope} {dV kV doc pm oc ct : Value} {an od : Option Addr} {osl : Array (Option Value)} {N ps : List Str} {sp : Sp} {sn : Str}
  {p0 p1 p2 p3 p4 : Pos} {e : Expr} {es : List Expr}
theorem fn_super (lk : K.lookup f = some ⟨oc, od, .func (fnX name qual params body scope [("__class__", cc)] dV kV doc pm an (.ref cda) ct), osl⟩) (hcd : codeIn K (.ref cda) qual = true)
    (S : NScope N ps ["__class__"] scope) (hN0 : N[0]? = some sn) (SF : SupF P K mg cc cda D params scope sn)
    (hb : body = .Expr (.Call (.Attribute (.Call (.Name "super" p0) [] [] p1) "__init__" p2) (e :: es) [] p3) p4 :: rest)
    (len : ∀ vs H Q E, sp vs H Q E → vs.length = ps.length)
    (hbody : ∀ (A : Around) (outer : List Env) (s : Shared) (H : Hp) (vs : List V) (Q : VK) (E : XK), Room k (A.deeper (envF ⟨name, qual, params, body, scope, [("__class__", cc)], cda⟩ f s.heap.objs.size)) → sp vs H Q E →
      ∃ (a C : Addr) (ta : TA) (t : TS), (startF N vs [some (.ref D)])[0]? = some (some (.ref a)) ∧ H a = some (exo a C none) ∧ SupC K C D ∧
        PA (ncx CX P w K mg base N ⟨name, qual, params, body, scope, [("__class__", cc)], cda⟩ f A outer s H E) (e :: es) ta ∧ PSs (ncx CX P w K mg base N ⟨name, qual, params, body, scope, [("__class__", cc)], cda⟩ f A outer s H E) rest t ∧
        ta (startF N vs [some (.ref D)]) H (fun ws H1 => ws.length ≤ 1000 ∧ H1 a = some (exo a C none) ∧ t { nx := fun _ H' => Q .non H', rt := Q } (startF N vs [some (.ref D)]) H1))
    (hc : ∀ env : Env, ∃ pl : Sem Bool, eval (.Call (.Attribute (.Call (.Name "super" p0) [] [] p1) "__init__" p2) (e :: es) [] p3) env = (do
      let ov ← attributeBase (.Call (.Name "super" p0) [] [] p1) "__init__" env (eval (.Call (.Name "super" p0) [] [] p1) env)
      standAt p2.atName
      let (f, first) ← holding [ov] (getMethod ov "__init__" pl)
      callWith p3 f first (backTo p3 (starEach (e :: es) env)) []) := by exact fun env => ⟨_, rfl⟩)
    (hsw : ∀ env : Env, swapsWith (.Call (.Attribute (.Call (.Name "super" p0) [] [] p1) "__init__" p2) (e :: es) [] p3) none p4.line env = pure false := by intro _; rfl)
    (he : ∀ env, starEach (e :: es) env = (false, eval e env) :: starEach es env := by intro _; rfl) (hpl : ∀ env, (backTo p3 (starEach es env)).any (·.1) = false := by intro _; rfl) :
    FnOk P w K mg base CX (k + 1) f (fnX name qual params body scope [("__class__", cc)] dV kV doc pm an (.ref cda) ct) ps sp := by
  refine ⟨len, fun A outer s H args us vs Q E hr e0 hbi r hsp => ?_⟩
  have hl := len _ _ _ _ hsp
  have KX : K.In s.heap := e0.mod.kin.keeps fun b o z => (e0.bs b o z).1
  have lim : s.heap.NoLimit := e0.mod.nolimit.keeps fun b o z => (e0.bs b o z).1
  obtain ⟨a, C, ta, t, h0, ea, SC, hPA, hPS, hq⟩ := hbody A outer s H vs Q E (hr.deeper _) hsp
  obtain ⟨ar, hhead, har⟩ := SF.head
  obtain ⟨ccl, cdd, vsC, ccs, file, tf, hcode, hvs, hfile⟩ := SF.code
  obtain ⟨ccl', cld, csl, hcell⟩ := SF.cell
  obtain ⟨cdD, hD⟩ := SF.clsD
  have hCA : CellsAt [("__class__", cc)] ["__class__"] [some (V.ref D)] s.heap H := by
    have hn : H cc = none := (e0.bs cc _ (e0.mod.kin _ _ hcell)).2
    have hc : s.heap.IsCell cc (some (.ref D)) := ⟨_, KX _ _ hcell, rfl⟩
    refine ⟨rfl, fun y c z => ?_, fun x y c z1 z2 => ?_, fun i y z => ?_⟩
    · have : c = cc := by
        simp only [List.lookup] at z
        split at z
        · cases z; rfl
        · cases z
      subst this
      exact ⟨hn, _, hc⟩
    · simp only [List.lookup] at z1 z2
      split at z1
      · rename_i q1
        split at z2
        · rename_i q2
          rw [beq_iff_eq] at q1 q2
          rw [q1, q2]
        · cases z2
      · cases z1
    · match i, z with
      | 0, z =>
        cases z
        refine ⟨cc, rfl, fun v z => ?_⟩
        cases z
        exact ⟨_, rfl, hc⟩
      | i + 1, z => simp at z
  refine ks_codeAny_call_defAt hr.depth (KX _ _ lk) rfl lim (codeRec_of KX hcd) rfl hbi S.nocell (fun ⟨n, _⟩ hy => S.par n (List.of_mem_zip hy).1) (fun h₁ hns hk => ?_) S.co S.gen S.kind
  have I : Inv (ncx CX P w K mg base N ⟨name, qual, params, body, scope, [("__class__", cc)], cda⟩ f A outer s H E) [] (startF N vs [some (.ref D)]) H { s with heap := h₁, toks := s.toks + (ps.zip us).length } :=
    inv_startN (F := ⟨name, qual, params, body, scope, [("__class__", cc)], cda⟩) S hr.hd e0 hl r hCA hns hk
  have Ih : K.In h₁ := KX.keeps hk
  subst hb
  have hC' : ∃ cd, clsIn K C = some cd := by
    have := SC.sup
    unfold ks_superIn at this
    cases hc : clsIn K C with
    | none => rw [hc] at this; cases this
    | some cd => exact ⟨cd, rfl⟩
  obtain ⟨cd, hcC⟩ := hC'
  obtain ⟨t1, hoe⟩ := exo_at I.hok ea
  have IA : InstAt h₁ a { cls := .ref C, dict := none, data := .fields #[.ref t1, .none, .none, .none, .bool false, .none] } C none := ⟨hoe, rfl, rfl, trivial⟩
  obtain ⟨oD, hD1, hD2⟩ : ∃ oD, h₁.get? D = some oD ∧ oD.data = .cls cdD := by
    unfold clsIn at hD
    split at hD
    · rename_i c d cd' sl ho
      cases hD
      exact ⟨_, Ih _ _ ho, rfl⟩
    · cases hD
  obtain ⟨pl, hpe⟩ := hc (callEnv (fnX name qual params (.Expr (.Call (.Attribute (.Call (.Name "super" p0) [] [] p1) "__init__" p2) (e :: es) [] p3) p4 :: rest) scope [("__class__", cc)] dV kV doc pm an (.ref cda) ct) s.heap.objs.size f)
  refine ks_wpAt_execs_cons (ks_wpAt_Expr_any (ks_wpAt_MethodCall (pl := pl) ?_ hpe) I.quiet (hsw _))
  refine ks_wpAt_super_base (fd := fnX name qual params _ scope [("__class__", cc)] dV kV doc pm an (.ref cda) ct) (ar := ar) SF.ks SF.kc (by decide) rfl (Ih _ _ lk) rfl hhead rfl (Ih _ _ hcode) rfl hvs hfile SF.top ?_
  obtain ⟨mb, hb1, hb2⟩ := I.mod.blt
  refine ks_loadName_global S.kind SF.ks (Calls.loadGlobal_builtin (mg := mg) (mb := mb) (I.mod.glob.keeps I.bk) SF.mgs (hb1.keeps I.bk) ((hb2 "super" (by decide)).trans boot_super) ⟨rfl, ?_⟩)
  refine wpAny_loadName_free S.kind SF.kc rfl ⟨_, Ih _ _ hcell, rfl⟩ ?_
  obtain ⟨m, hm, hloc⟩ := I.loc
  obtain ⟨u, ru, hlk⟩ := hloc 0 sn (.ref a) hN0 h0 (.inl SF.ka)
  obtain rfl : u = Value.ref a := ru
  have hmv : m ar.arg = some (.ref a) := by
    rw [har]
    rcases hlk with ⟨_, z⟩ | ⟨z, _⟩
    · exact z
    · rcases z with z | z <;> (exfalso; have y := SF.ka; rw [show (ncx CX P w K mg base N _ f A outer s H E).env.kindOf sn = scope.names.lookup sn from rfl, y] at z; cases z)
  refine wpAny_loadName_local S.kind (har ▸ SF.ka) hm hmv ?_
  refine ks_wpAny_isType_cls hD1 hD2 ⟨rfl, ?_⟩
  refine ks_wpAny_call_super hD1 hD2 IA.at_ IA.cls (fun c e => by cases e) (looks_mroIn Ih SC.mro) (fun h2 hso k2 => ?_)
  have Ih2 : K.In h2 := Ih.keeps k2
  have IA2 : InstAt h2 a { cls := .ref C, dict := none, data := .fields #[.ref t1, .none, .none, .none, .bool false, .none] } C none := ⟨k2 _ _ hoe, rfl, rfl, trivial⟩
  have hsup := SC.sup
  unfold ks_superIn at hsup
  rw [hcC] at hsup
  refine kxs_getMethod kxs_ValueError hso (looks_opaque Ih2 SF.opq) (l₀ := cd.mro) (fun A Q E s k q => wpAny_bind ((looks_clsIn Ih2 hcC) A _ E s k (wpAny_pure q))) rfl Ih2 hsup (IA2.type.andThen (looks_subIn Ih2 SC.sub)) (ks_ne Ih2 IA2 hcC) (by decide) ?_
  have hlt : h₁.objs.size < h2.objs.size := Heap.lt_size hso
  have I2 : Inv (ncx CX P w K mg base N ⟨name, qual, params, _, scope, [("__class__", cc)], cda⟩ f A outer s H E) [] (startF N vs [some (.ref D)]) H ⟨h2.push (kxs_mw "ValueError.__init__" a), s.gens, s.drawn, s.toks + (ps.zip us).length + 1, s.os⟩ :=
    I.kept (h' := h2.push (kxs_mw "ValueError.__init__" a)) (t' := s.toks + (ps.zip us).length + 1) fun b o z => Heap.get?_push_of_some _ (k2 b o z)
  have I3 := I2.pins_of (pins' := [(h2.objs.size, kxs_mw "ValueError.__init__" a)]) (fun p hp => by
    rw [List.mem_singleton.mp hp]
    exact ⟨Heap.get?_push_at rfl rfl, I.hok.fresh (Nat.le_of_lt hlt), Nat.ne_of_gt (Nat.lt_trans I.lt hlt), I.nofs (Nat.le_of_lt hlt), fun v z => by cases z⟩)
  have hstar := he (envF ⟨name, qual, params, .Expr (.Call (.Attribute (.Call (.Name "super" p0) [] [] p1) "__init__" p2) (e :: es) [] p3) p4 :: rest, scope, [("__class__", cc)], cda⟩ f s.heap.objs.size)
  have hplain := hpl (envF ⟨name, qual, params, .Expr (.Call (.Attribute (.Call (.Name "super" p0) [] [] p1) "__init__" p2) (e :: es) [] p3) p4 :: rest, scope, [("__class__", cc)], cda⟩ f s.heap.objs.size)
  have key := hPA.run p3 [(h2.objs.size, kxs_mw "ValueError.__init__" a)] _ _ H _ I3 hq
  show wpAny _ _ (callWith p3 (.ref h2.objs.size) [] (backTo p3 (starEach (e :: es) (envF ⟨name, qual, params, .Expr (.Call (.Attribute (.Call (.Name "super" p0) [] [] p1) "__init__" p2) (e :: es) [] p3) p4 :: rest, scope, [("__class__", cc)], cda⟩ f s.heap.objs.size))) []) _ _ _
  change wpAny _ _ (spliced (backTo p3 (starEach (e :: es) (envF ⟨name, qual, params, .Expr (.Call (.Attribute (.Call (.Name "super" p0) [] [] p1) "__init__" p2) (e :: es) [] p3) p4 :: rest, scope, [("__class__", cc)], cda⟩ f s.heap.objs.size)))) _ _ _ at key
  rw [hstar] at key ⊢
  refine kxs_callWith (i := "ValueError.__init__") (x := a) (by show (false || (backTo p3 (starEach es _)).any (·.1)) = false; rw [hplain]; rfl) (Calls.evalArgs_plain ?_)
  refine wpAny_mono key (fun us' s1 hv => ?_) fun _ _ z => z
  obtain ⟨ws, H1, I1, r1, hz, ea1, q1⟩ := hv
  refine ⟨(I1.pin _ (List.mem_append_right _ (List.mem_singleton.mpr rfl))).1, ?_⟩
  have hpin := (I1.pin _ (List.mem_append_right _ (List.mem_singleton.mpr rfl))).1
  obtain ⟨nm, qn, NN, bs, bm, sn', sub, ab, col, dd, k0, k1, k2', k3, k5, hCl, hbm⟩ := SC.ox.cls
  obtain ⟨t2, hoe2⟩ := exo_at I1.hok ea1
  obtain ⟨hp, g1, d1, tk1, os1⟩ := s1
  refine call_mw (I1.kIn _ _ hCl) hoe2 hpin (by show us'.length ≤ sizeLine; rw [← Paired.length r1, sizeLine_eq]; omega) fun h' k' e' => ?_
  have J := I1.write (t' := tk1) (x := a) (e := a) (o := exo a C none) (by rw [ea1]; exact True.intro) (.inl rfl) k' ⟨_, e'⟩ (exo_ok e')
  have eu : upd H1 a (exo a C none) = H1 := by
    funext b
    by_cases hb : b = a
    · rw [hb, upd_same, ea1]
    · rw [upd_ne hb]
  rw [eu] at J
  have J0 := J.pins_of (pins' := []) (fun p hp => by cases hp)
  refine wpAt_of_wpAny (wpAny_mono (hPS.run [] _ _ H1 _ J0 q1) (fun fl s' hs => ?_) fun e s' hs => hs)
  have fin : ∀ {σ' : L2.St} {H' : Hp} {v : V} {u : Value}, Inv (ncx CX P w K mg base N ⟨name, qual, params, .Expr (.Call (.Attribute (.Call (.Name "super" p0) [] [] p1) "__init__" p2) (e :: es) [] p3) p4 :: rest, scope, [("__class__", cc)], cda⟩ f A outer s H E) [] σ' H' s' → L2.RelV v u → Q v H' → CE outer P w H s Q u s' :=
    fun {σ' H' v u} J rv q => ⟨v, H', J.os, J.bare, J.base, J.hok, rv, q⟩
  cases fl with
  | ret u =>
    obtain ⟨v, σ', H', J, rv, q⟩ := hs
    exact fin J rv q
  | next =>
    obtain ⟨σ', H', J, q⟩ := hs
    exact fin (v := V.non) (u := Value.none) J rfl q
  | brk =>
    obtain ⟨_, _, _, q⟩ := hs
    exact False.elim q
  | cont =>
    obtain ⟨_, _, _, q⟩ := hs
    exact False.elim q
end
end Sh
set_option Elab.async false
set_option linter.all false
set_option maxRecDepth 100000
set_option maxHeartbeats 4000000
namespace Sh
open PySem PySem.Spec PySem.W PyProof.Rows L2
/-! ### own exceptions as values -/
/-- the class's facts that a reader of its instances asks -/
structure ExR (K : Frag) (C : Addr) : Prop where
  ox : OexC K C
  ga : findIn K (.ref C) "__getattribute__" = some (some (.builtin "BaseException.__getattribute__"))
  gg : findIn K (.ref C) "__getattr__" = some none
  hd : hasDictIn K C = true
  cl : findIn K (.ref C) "__class__" = some (some (.builtin "object.__class__"))
  ob : mroIn K C (.type "object") = some true
theorem ExR.isCls {K : Frag} {C : Addr} (R : ExR K C) : (clsIn K C).isSome = true := by
  have h := R.hd
  unfold hasDictIn at h
  cases q : clsIn K C with
  | none => rw [q] at h; cases h
  | some cd => rfl
/-- an exception's object is an instance of its class -/
theorem exo_inst {P : Program} {w : World} {H : Hp} {h : Heap} {a C : Addr} {d : Option Addr} {fs : List (Str × V)} (hok : HOk P w H h) (ea : H a = some (exo a C d)) (ed : ∀ dx, d = some dx → ∃ fs, H dx = some (exd dx fs)) : ∃ ox od, InstAt h a ox C od ∧ (d = none → od = none) := by
  obtain ⟨t1, ho⟩ := exo_at hok ea
  cases d with
  | none => exact ⟨_, none, ⟨ho, rfl, rfl, trivial⟩, fun _ => rfl⟩
  | some dx =>
    obtain ⟨fs, e⟩ := ed dx rfl
    obtain ⟨mA, hns, _⟩ := exd_at hok e
    obtain ⟨od, h1, _⟩ := lookIn_ns hns
    exact ⟨_, some od, ⟨ho, rfl, rfl, h1⟩, fun z => by cases z⟩
section
variable {X : Cx}
/-- e.f of an exception that is held -/
def tXGet (K : Frag) (f : Str) (te : TE) : TE := fun σ H Q => te σ H fun x H1 => ∃ (a C dx : Addr) (fs : List (Str × V)) (v : V), x = .ref a ∧ ExR K C ∧ findIn K (.ref C) f = some none ∧ H1 a = some (exo a C (some dx)) ∧ H1 dx = some (exd dx fs) ∧ fs.lookup f = some v ∧ Q v H1
theorem pe_xget {e : Expr} {te : TE} {f : Str} {pos : Pos} (he : PE X e te) (hb : attributeBase e f X.env (eval e X.env) = eval e X.env := by rfl) : PE X (.Attribute e f pos) (tXGet X.K f te) := by
  refine ⟨fun pins s σ H Q I h => attr_of hb (thn (he.run pins s σ H _ I h) fun u s1 hh => ?_)⟩
  obtain ⟨x, H1, I1, rx, a, C, dx, fs, v, rfl, R, hno, ea, ed, hl, q⟩ := hh
  obtain rfl : u = Value.ref a := rx
  obtain ⟨t1, ho⟩ := exo_at I1.hok ea
  obtain ⟨mA, hns, hr⟩ := exd_at I1.hok ed
  obtain ⟨od, hod, hlk⟩ := lookIn_ns hns
  obtain ⟨u, hu, ru⟩ := RelO.some_of (v := v) (o := mA f) (by rw [← hl]; exact hr f)
  have J : InstAt s1.heap a _ C (some od) := ⟨ho, rfl, rfl, hod⟩
  exact HandSPX.exc_get I1.kIn J R.ga R.gg R.ox.exC (findObj_own R.hd hno rfl (by rw [hlk, hu])) (handed_of ru) ⟨v, H1, I1.tok _, ru, q⟩
/-- isinstance(e, C) -/
def rIsX (K : Frag) : List V → Hp → VK → Prop := fun xs H Q => ∃ (a C : Addr) (d : Option Addr) (c : V) (u : Value) (b : Bool), xs = [.ref a, c] ∧ ClsV c u ∧ ExR K C ∧ H a = some (exo a C d) ∧ (∀ dx, d = some dx → ∃ fs, H dx = some (exd dx fs)) ∧ kitOne K (.ref C) u = some b ∧ Q (.bl b) H
theorem call_isX (hn : specialIn X.K (.builtin "object.__class__") "__get__" = some (some (.builtin "getset_descriptor.__get__"))) (htk : takesIn X.K (.builtin "object.__class__") = some true) : CallR X (.builtin "isinstance") (rIsX X.K) := by
  intro pins s σ H xs us Q I r h
  obtain ⟨a, C, d, c, u, b, rfl, k, R, ea, ed, e, q⟩ := h
  obtain ⟨u1, u2, rfl, r1, r2⟩ := vals2 r
  obtain rfl := k.eq r2
  obtain rfl : u1 = Value.ref a := r1
  obtain ⟨ox, od, J, _⟩ := exo_inst (fs := []) I.hok ea ed
  exact kia_one (kitx_exc R.isCls R.ga R.gg R.ox.exC R.cl hn htk R.ob) I.kIn J e (fun z => nomatch z) fun tk => ⟨.bl b, H, I.tok tk, rfl, q⟩
end
/-! ### C(e, .., k = v, ..): a new exception, as a value -/
section
variable {prog : Program} {w : World} {M : Model} {A : Around} {E : Value → Shared → Prop} {R : Result → Shared → Prop} {hh : Heap} {gs : Array GenState} {dr : Drawn} {tk : Nat} {os : OsState}
variable {nm q : Str} {C N : Addr} {bs bm : List Value} {hdct : Bool} {sn : List Str} {sub : List Value} {ab : Bool} {col : Option Bool} {dd : Option Addr} {k0 k1 k2 k3 k5 : Option Value} {kw : List (Str × Value)} {rest : List Value}
theorem check_newK (hT : HandSPX.refsVE bm = true) {Q : Unit → Shared → Prop} (hC : hh.get? C = some (excClassObj nm q C N bs bm hdct sn sub ab col dd k0 k1 k2 k3 k5 "ValueError.__new__")) (hq : Q () ⟨hh, gs, dr, tk, os⟩) : wpAny M A (checkBuiltinCall "ValueError.__new__" ⟨.ref C :: rest, kw⟩) Q E ⟨hh, gs, dr, tk, os⟩ := by
  have FB := F.excBase_ValueError
  have hcont : (Value.ref C :: bm).contains (.type "ValueError") = true := by rw [List.contains_cons, HandSPX.refsVE_contains "ValueError" bm hT, FB.hasB, Bool.or_true]
  have hstar := FB.noStar
  simp only [checkBuiltinCall, FB.newKind, FB.newSplit, FB.newRow]
  repeat (first | refine wpAny_loadPart_at hC ?_ | (refine wpAny_isSubtype_exc hC ?_; rw [hcont]) | refine wpAny_staticBase_exc hC ?_ | refine wpAny_madeBy_exc hC ?_ | simp only [bne_self_eq_false, Bool.false_eq_true, if_false] | wp_step)
  exact hq
theorem new_K (hT : HandSPX.refsVE bm = true) (hC : hh.get? C = some (excClassObj nm q C N bs bm hdct sn sub ab col dd k0 k1 k2 k3 k5 "ValueError.__new__")) (hz : rest.length ≤ sizeLine)
    (hq : R (.ok (.ret (.ref (hh.objs.size + 1)))) ⟨(hh.push (kdv_tup rest)).push (HandSPX.excO C hh.objs.size), gs, dr, tk, os⟩) : codeAny (model prog w) A (.builtin "ValueError.__new__" ⟨.ref C :: rest, kw⟩) R ⟨hh, gs, dr, tk, os⟩ := by
  have FB := F.excBase_ValueError
  have hends := FB.ends
  have hcB : (Value.ref C :: bm).contains (.type "ValueError") = true := by rw [List.contains_cons, HandSPX.refsVE_contains "ValueError" bm hT, FB.hasB, Bool.or_true]
  have hcA : (Value.ref C :: bm).contains (.type "AttributeError") = false := by rw [List.contains_cons, HandSPX.refsVE_contains "AttributeError" bm hT, FB.noAttr]; rfl
  have hcN : (Value.ref C :: bm).contains (.type "NameError") = false := by rw [List.contains_cons, HandSPX.refsVE_contains "NameError" bm hT, FB.noName]; rfl
  refine codeAny_builtinAt FB.entry ?_
  unfold Builtin.«BaseException.__new__»
  refine PySem.wpAt_bind ?_
  show PySem.wpAt _ _ _ (stack >>= _) _ _ _
  refine PySem.wpAt_bind (PySem.wpAt_stack fun p below => PySem.wpAt_of_wpAny ?_)
  wp_walk
  refine PySem.wpAt_of_wpAny ?_
  rw [FB.owner]
  repeat (first | with_reducible refine wpAny_madeHere_exc FB.canon hC ?_ | with_reducible refine wpAny_loadPart_at hC ?_ | (with_reducible refine wpAny_isSubtype_exc hC ?_; first | rw [hcB] | rw [hcA] | rw [hcN]) | wp_step)
  show R _ _
  rw [Heap.size_push]
  exact hq
theorem type_callK (hT : HandSPX.refsVE bm = true) {fI : Addr} {Q : Fin → Shared → Prop} (hC : hh.get? C = some (excClassObj nm q C N bs bm hdct sn sub ab col dd k0 k1 k2 k3 k5 "ValueError.__new__"))
    (hi : Looks (model prog w) hh (typeLookup (.ref C) "__init__") (some (.ref fI))) (hb : ∀ self, Looks (model prog w) hh (bindSpecial (.ref fI) self) (.ref fI, [self])) (hz : rest.length ≤ sizeLine)
    (hq : codeAny (model prog w) A (.call (.ref fI) ⟨.ref (hh.objs.size + 1) :: rest, kw⟩)
      (fun r s' => match r with | .ok (.ret v) => v = .none ∧ Q (.done (.ret (.ref (hh.objs.size + 1)))) s' | .ok _ => False | .error e => E e s') ⟨(hh.push (kdv_tup rest)).push (HandSPX.excO C hh.objs.size), gs, dr, tk, os⟩) :
    wpAny (model prog w) A (Builtin.«type.__call__» ⟨.ref C :: rest, kw⟩) Q E ⟨hh, gs, dr, tk, os⟩ := by
  have FB := F.excBase_ValueError
  repeat (first | with_reducible refine wpAny_loadPart_at hC ?_ | with_reducible refine wpAny_madeBy_exc hC ?_ | wp_step)
  refine codeAny_call_builtin_code (Code.quiet_builtin _ FB.quiet) (check_newK hT hC ?_)
  refine new_K hT hC hz ?_
  show wpAny _ _ _ _ _ _
  have k : ∀ b o, hh.get? b = some o → ((hh.push (kdv_tup rest)).push (HandSPX.excO C hh.objs.size)).get? b = some o := fun b o e => Heap.get?_push_of_some _ (Heap.get?_push_of_some _ e)
  have hC₁ := k _ _ hC
  have hget : ((hh.push (kdv_tup rest)).push (HandSPX.excO C hh.objs.size)).get? (hh.objs.size + 1) = some (HandSPX.excO C hh.objs.size) := by heap_get
  have hcC : (Value.ref C :: bm).contains (.ref C) = true := by simp
  have i1 := hi.keeps k
  have b1 := (hb (.ref (hh.objs.size + 1))).keeps k
  unfold isInstance
  repeat (first | with_reducible refine wpAny_loadPart_at hget ?_ | (with_reducible refine wpAny_isSubtype_exc hC₁ ?_; rw [hcC]) | wp_step)
  show wpAny _ _ (typeLookup (.ref C) _) _ _ _
  refine i1.at (wpAny_holding (wpAny_bind (b1.at (wpAny_bind (wpAny_call (codeAny_mono hq fun r s' z => ?_))))))
  rcases r with e | (v | _ | _ | _) <;> first | exact z | exact z.elim | skip
  obtain ⟨rfl, z⟩ := z
  first | exact wpAny_pure (wpAny_pure z) | (wp_walk; exact z)
theorem check_tcK {Q : Unit → Shared → Prop} (hC : hh.get? C = some (excClassObj nm q C N bs bm hdct sn sub ab col dd k0 k1 k2 k3 k5 "ValueError.__new__")) (hq : Q () ⟨hh, gs, dr, tk, os⟩) : wpAny M A (checkBuiltinCall "type.__call__" ⟨.ref C :: rest, kw⟩) Q E ⟨hh, gs, dr, tk, os⟩ := by
  have f3 := tc_sub
  have hT : (⟨hh, gs, dr, tk, os⟩ : Shared).TypeIs (.ref C) "type" := ⟨_, hC, rfl⟩
  simp only [checkBuiltinCall, tc_kind, tc_split]
  repeat (any_goals (first | assumption | with_reducible refine wpAny_loadPart_at hC ?_ | with_reducible refine wpAny_onRaise ?_ | with_reducible refine wpAny_map ?_ | wp_step))
theorem call_K (hT : HandSPX.refsVE bm = true) {fI : Addr} (hC : hh.get? C = some (excClassObj nm q C N bs bm hdct sn sub ab col dd k0 k1 k2 k3 k5 "ValueError.__new__"))
    (hi : Looks (model prog w) hh (typeLookup (.ref C) "__init__") (some (.ref fI))) (hb : ∀ self, Looks (model prog w) hh (bindSpecial (.ref fI) self) (.ref fI, [self])) (hz : rest.length ≤ sizeLine)
    (hq : codeAny (model prog w) (A.under (.builtin "type.__call__" ⟨.ref C :: rest, kw⟩)) (.call (.ref fI) ⟨.ref (hh.objs.size + 1) :: rest, kw⟩) (InitBack (hh.objs.size + 1) R) ⟨(hh.push (kdv_tup rest)).push (HandSPX.excO C hh.objs.size), gs, dr, tk, os⟩) :
    codeAny (model prog w) A (.call (.ref C) ⟨rest, kw⟩) R ⟨hh, gs, dr, tk, os⟩ := by
  have f1 := tc_lookup
  have f2 := tc_bind (.ref C)
  have hTy : (⟨hh, gs, dr, tk, os⟩ : Shared).TypeIs (.ref C) "type" := ⟨_, hC, rfl⟩
  refine codeAny_of_tree ?_
  show wpAny _ _ (callAny (.ref C) _) _ _ _
  repeat (any_goals (first | assumption | with_reducible refine wpAny_loadPart_at hC ?_ | wp_step))
  refine ⟨rfl, ?_⟩
  refine codeAny_call_builtin_at (Code.quiet_builtin _ (by decide +kernel)) entry_typeCall (check_tcK hC (type_callK hT hC hi hb hz ?_))
  refine codeAny_mono hq fun r s' z => ?_
  rcases r with e | (v | _ | _ | _) <;> exact z
end
/-- what a maker of its instances asks -/
structure ExM (K : Frag) (C fI : Addr) : Prop where
  ox : OexC K C
  iC : findIn K (.ref C) "__init__" = some (some (.ref fI))
  tI : typeIn K (.ref fI) = some (.type "function")
section
variable {X : Cx} {CX : CXT} {k n : Nat} {fI C : Addr} {fd : FuncData} {ps ks : List Str} {sp : Sp} {x : Str} {p pos : Pos} {e : Expr} {es : List Expr} {kws : List Keyword} {t tk : TA} {g : List Value → List Value → List Value} {gV : List V → List V → List V}
theorem run_oex {pins : List (Addr × Obj)} {σ : L2.St} {H : Hp} {s : Shared} {Q : VK} {us ws : List Value} {vs zs : List V} (T : ExM X.K C fI) (F1 : FnOk X.prog X.w X.K X.mg X.base CX k fI fd ps sp) (hr : Room (k + 1) X.A) (hb : KBn X.K fd ps (n + 1) ks g gV)
    (hx : Passes CX X (fun _ _ _ => False)) (I : Inv X pins σ H s) (r : Vals vs us) (rz : Vals zs ws) (l1 : vs.length = n) (l2 : zs.length = ks.length) (hn : n ≤ 1000)
    (h : ∀ a, H a = none → sp (gV (.ref a :: vs) zs) (upd H a (exo a C none)) (fun v H2 => v = .non ∧ Q (.ref a) H2) (fun _ _ _ => False)) :
    wpAny (model X.prog X.w) X.A (call (.ref C) us (ks.zip ws)) (EP X pins σ Q) X.xe s := by
  obtain ⟨nm, q, N, bs, bm, sn, sub, ab, col, dd, k0, k1, k2, k3, k5, hC, hbm⟩ := T.ox.cls
  obtain ⟨hp, gs, dr, tk, os⟩ := s
  have hsz : hp.objs.size ≤ hp.objs.size + 1 := Nat.le_succ _
  have hq := h (hp.objs.size + 1) (I.hok.fresh hsz)
  have kk : ∀ b o, hp.get? b = some o → ((hp.push (kdv_tup us)).push (HandSPX.excO C hp.objs.size)).get? b = some o := fun b o e => Heap.get?_push_of_some _ (Heap.get?_push_of_some _ e)
  have hget : ((hp.push (kdv_tup us)).push (HandSPX.excO C hp.objs.size)).get? (hp.objs.size + 1) = some (HandSPX.excO C hp.objs.size) := by heap_get
  have I2 : Inv X pins σ (upd H (hp.objs.size + 1) (exo (hp.objs.size + 1) C none)) ⟨(hp.push (kdv_tup us)).push (HandSPX.excO C hp.objs.size), gs, dr, tk, os⟩ :=
    I.laid (t' := tk) (a := hp.objs.size + 1) (o := exo (hp.objs.size + 1) C none) (h' := (hp.push (kdv_tup us)).push (HandSPX.excO C hp.objs.size)) kk hsz (exo_ok hget)
  have r1 : Vals (V.ref (hp.objs.size + 1) :: vs) (Value.ref (hp.objs.size + 1) :: us) := .cons rfl r
  have r2 := hb.rel r1 rz
  have e1 : (Value.ref (hp.objs.size + 1) :: us).length = n + 1 := r1.length.symm.trans (congrArg Nat.succ l1)
  have e2 : ws.length = ks.length := rz.length.symm.trans l2
  have hus : us.length ≤ sizeLine := by
    rw [← Paired.length r, l1, sizeLine_eq]
    omega
  refine wpAny_call (call_K hbm (I.kIn _ _ hC) (looks_findIn I.kIn T.iC) (fun self => bind_fn I.kIn self T.tI) hus
    (codeAny_mono (F1.run _ X.stack _ _ ⟨Value.ref (hp.objs.size + 1) :: us, ks.zip ws⟩ (g (Value.ref (hp.objs.size + 1) :: us) ws) _ _ (fun _ _ _ => False) (hr.make C us (ks.zip ws)) (I2.env0.make C us (ks.zip ws)) (hb.to _ (Value.ref (hp.objs.size + 1) :: us) ws I2.kIn e1 e2) r2 hq) fun r s' hq' => ?_))
  cases r with
  | error er => exact hx pins σ _ _ er s' I2 hq'
  | ok fl =>
    cases fl with
    | ret u =>
      obtain ⟨v, H', I3, rv, ev, q3⟩ := I2.after hq'
      subst ev
      exact ⟨rv, ⟨V.ref (hp.objs.size + 1), H', I3, rfl, q3⟩⟩
    | next => exact False.elim hq'
    | brk => exact False.elim hq'
    | cont => exact False.elim hq'
/-- C(e, .., k = v, ..) -/
def tOex (C : Addr) (n m : Nat) (sp : Sp) (gV : List V → List V → List V) (t tk : TA) : TE := fun σ H Q => t σ H fun vs H1 => tk σ H1 fun zs H2 => vs.length = n ∧ zs.length = m ∧
  ∀ a, H2 a = none → sp (gV (.ref a :: vs) zs) (upd H2 a (exo a C none)) (fun v H3 => v = .non ∧ Q (.ref a) H3) (fun _ _ _ => False)
theorem pe_oexN (T : ExM X.K C fI) (F1 : FnOk X.prog X.w X.K X.mg X.base CX k fI fd ps sp) (hr : Room (k + 1) X.A) (hg : Gl X x) (hm : X.mg x = some (.ref C)) (hb : KBn X.K fd ps (n + 1) ks g gV) (hx : Passes CX X (fun _ _ _ => False))
    (ha : PA X (e :: es) t) (hkw : PK X kws tk) (hn : n ≤ 1000 := by decide) (hall : (backToKw pos (keywordEach kws X.env)).all (·.1.isSome) = true := by rfl) (hks : (backToKw pos (keywordEach kws X.env)).filterMap (·.1) = ks := by rfl)
    (hdb : (x == ("__debug__" : Str)) = false := by decide) (he : starEach (e :: es) X.env = (false, eval e X.env) :: starEach es X.env := by rfl)
    (hpl : ((backTo pos (starEach (e :: es) X.env)).any (·.1) || (backToKw pos (keywordEach kws X.env)).any (·.1.isNone)) = false := by rfl) :
    PE X (.Call (.Name x p) (e :: es) kws pos) (tOex C n ks.length sp gV t tk) := by
  refine ⟨fun pins s σ H Q I h => wpAny_Call_Name_kw (ld_glob I hg hm ?_ hdb)⟩
  refine callWith_KW (h₀ := X.base) I.ok.mod.kin T.ox.kC hall (thn (ha.run pos pins s σ H _ I h) fun us s1 ⟨vs, H1, I1, r, q⟩ => ?_) hpl he
  refine thn (hkw.run pos pins s1 σ H1 _ I1 q) fun ws s2 ⟨zs, H2, I2, rz, l1, l2, q2⟩ => ⟨I2.kIn, ?_⟩
  rw [hks]
  exact run_oex T F1 hr hb hx I2 r rz l1 l2 hn q2
theorem pe_oex0 (T : ExM X.K C fI) (F1 : FnOk X.prog X.w X.K X.mg X.base CX k fI fd ps sp) (hr : Room (k + 1) X.A) (hg : Gl X x) (hm : X.mg x = some (.ref C)) (hb : KBn X.K fd ps 1 ks g gV) (hx : Passes CX X (fun _ _ _ => False))
    (hkw : PK X kws tk) (hall : (backToKw pos (keywordEach kws X.env)).all (·.1.isSome) = true := by rfl) (hks : (backToKw pos (keywordEach kws X.env)).filterMap (·.1) = ks := by rfl)
    (hdb : (x == ("__debug__" : Str)) = false := by decide) (hpl : ((backTo pos (starEach [] X.env)).any (·.1) || (backToKw pos (keywordEach kws X.env)).any (·.1.isNone)) = false := by rfl) :
    PE X (.Call (.Name x p) [] kws pos) (tOex C 0 ks.length sp gV tNil tk) := by
  refine ⟨fun pins s σ H Q I h => wpAny_Call_Name_kw (ld_glob I hg hm ?_ hdb)⟩
  refine callWith_KW0 (h₀ := X.base) I.ok.mod.kin T.ox.kC hall ?_ hpl
  refine thn (hkw.run pos pins s σ H _ I h) fun ws s2 ⟨zs, H2, I2, rz, l1, l2, q2⟩ => ⟨I2.kIn, ?_⟩
  rw [hks]
  exact run_oex T F1 hr hb hx I2 .nil rz l1 l2 (by decide) q2
end
/-- C(), an own exception class without own __init__ -/
theorem pe_exn0 {X : Cx} {C : Addr} {x : Str} {p pos : Pos} (q : excIn X.K C [.type "ValueError", .type "Exception", .type "BaseException", .type "object"] "ValueError.__new__" = true) (gC : X.mg x = some (.ref C)) (kC : keepIn X.K (.ref C) = true) (hg : Gl X x) (hdb : (x == ("__debug__" : Str)) = false := by decide) :
    PE X (.Call (.Name x p) [] [] pos) (fun _ H Q => ∀ a, H a = none → Q (.ref a) (upd H a (exo a C none))) := by
  refine ⟨fun pins s σ H Q I h => wpAny_Call_Name_kw (ld_glob I hg gC ?_ hdb)⟩
  refine callWith_KW0 (h₀ := X.base) I.ok.mod.kin kC (by rfl) (wpAny_evalAll_nil ⟨I.kIn, ?_⟩) (by rfl)
  show wpAny _ _ (call (.ref C) []) _ _ _
  obtain ⟨bm, N, nm, qn, bs, hdct, sn, sub, ab, col, dd, k0, k1, k2, k3, k5, mN, hC, hN, hni, T⟩ := exc_obj I.kIn q
  refine wpAny_call_exc_subT F.excBase_ValueError T hC hN hni (fun h' a hm => ?_) (Nat.zero_le _)
  obtain ⟨t, ht, _, _⟩ := hm.there
  have hn : H a = none := I.hok.gone hm.new
  exact ⟨.ref a, upd H a (exo a C none), I.laidN hm.keeps hm.new hn (exo_ok ht), rfl, h a hn⟩
end Sh
set_option Elab.async false
set_option linter.all false
set_option maxRecDepth 100000
set_option maxHeartbeats 4000000
namespace Sh
open PySem PySem.Spec PySem.W PyProof.Rows L2 NdefX
/-! ### the facts of an own exception class, bundled -/
abbrev veTail : List Value := [.type "ValueError", .type "Exception", .type "BaseException", .type "object"]
/-- the class at C, right below the class at S, which is right below ValueError -/
structure XCls (K : Frag) (S C : Addr) : Prop where
  r : ExR K C
  sub : ∀ b : Value, mroIn K C b = some ((Value.ref C :: .ref S :: veTail).contains b)
  ty : typeIn K (.ref C) = some (.type "type")
  isC : (clsIn K C).isSome = true
theorem xcls_mk {K : Frag} {S C N : Addr} {nm q : Str} {bs : List Value} {sn : List Str} {sub : List Value} {ab : Bool} {col : Option Bool} {dd : Option Addr} {k0 k1 k2 k3 k5 : Option Value}
    (xL : K.lookup C = some (excClassObj nm q C N bs [.ref S, .type "ValueError", .type "Exception", .type "BaseException", .type "object"] true sn sub ab col dd k0 k1 k2 k3 k5 "ValueError.__new__"))
    (sa : findIn K (.ref C) "__setattr__" = some (some (.builtin "object.__setattr__"))) (ga : findIn K (.ref C) "__getattribute__" = some (some (.builtin "BaseException.__getattribute__"))) (gg : findIn K (.ref C) "__getattr__" = some none)
    (cl : findIn K (.ref C) "__class__" = some (some (.builtin "object.__class__"))) (kC : keepIn K (.ref C) = true) : XCls K S C := by
  have hcl : clsIn K C = some { name := nm, bases := bs, mro := .ref C :: [.ref S, .type "ValueError", .type "Exception", .type "BaseException", .type "object"], ns := N, qualname := q, hasDict := true, slotNames := sn, subclasses := sub, abstract := ab, collection := col, hasDel := false } := by
    unfold clsIn
    rw [xL]
  have hm : ∀ b : Value, mroIn K C b = some ((Value.ref C :: .ref S :: veTail).contains b) := fun b => by
    unfold mroIn
    rw [hcl]
    rfl
  have hty : typeIn K (.ref C) = some (.type "type") := by
    show (K.lookup C).map (·.cls) = _
    rw [xL]
    rfl
  have hin : ∀ T : String, veTail.contains (.type T) = true → (Value.ref C :: .ref S :: veTail).contains (.type T) = true := fun T z => by
    rw [List.contains_cons, List.contains_cons, z]
    simp
  refine ⟨⟨⟨⟨nm, q, N, bs, _, sn, sub, ab, col, dd, k0, k1, k2, k3, k5, xL, rfl⟩, sa, ?_, hty, kC⟩, ga, gg, ?_, cl, ?_⟩, hm, hty, by rw [hcl]; rfl⟩
  · show mroIn K C _ = _
    rw [hm, hin "BaseException" (by decide +kernel)]
  · unfold hasDictIn
    rw [hcl]
    rfl
  · rw [hm, hin "object" (by decide +kernel)]
/-- isinstance of an instance of C, asked of another such class -/
theorem XCls.own {K : Frag} {S C D : Addr} (x : XCls K S C) (y : XCls K S D) (h : D ≠ S) : kitOne K (.ref C) (.ref D) = some (decide (C = D)) := by
  unfold kitOne
  by_cases e : C = D
  · subst e
    rw [if_pos (by simp), decide_eq_true rfl]
  · rw [if_neg (by simp [e]), decide_eq_false e]
    unfold kitCls
    simp only [y.isC, y.ty, beq_self_eq_true, Bool.and_self, if_true]
    show mroIn K C (.ref D) = some false
    rw [x.sub]
    have e1 : (Value.ref D == Value.ref C) = false := by simp [Ne.symm e]
    have e2 : (Value.ref D == Value.ref S) = false := by simp [h]
    simp only [List.contains_cons, e1, e2, Bool.false_or]
    have e3 : ∀ T : String, (Value.ref D == Value.type T) = false := fun T => by simp
    simp [e3]
theorem XCls.base {K : Frag} {S C : Addr} (x : XCls K S C) (y : XCls K S C) (hS : (clsIn K S).isSome = true) (tS : typeIn K (.ref S) = some (.type "type")) : kitOne K (.ref C) (.ref S) = some true := by
  unfold kitOne
  split
  · rfl
  · unfold kitCls
    simp only [hS, tS, beq_self_eq_true, Bool.and_self, if_true]
    show mroIn K C (.ref S) = some true
    rw [x.sub]
    simp
theorem XCls.blt {K : Frag} {S C : Addr} (x : XCls K S C) (T : String) (hm : kitMeta T = true) : kitOne K (.ref C) (.type T) = some (veTail.contains (.type T)) := by
  unfold kitOne
  rw [if_neg (by simp)]
  unfold kitCls
  simp only [hm, if_true]
  show mroIn K C (.type T) = _
  rw [x.sub]
  simp [List.contains_cons]
/-- its __init__ -/
structure XInit (P : Program) (K : Frag) (mg : Str → Option Value) (C f : Addr) (qual : Str) (st : Stmt) (fd : FuncData) : Prop where
  m : ExM K C f
  sc : SupC K C C
  fn : ∃ oc od kV doc pm an ct osl cc cda, fd = fnX "__init__" qual (defArgs st) (defBody st) (defScope st) [("__class__", cc)] .none kV doc pm an (.ref cda) ct ∧ K.lookup f = some ⟨oc, od, .func fd, osl⟩ ∧ codeIn K (.ref cda) qual = true ∧ SupF P K mg cc cda C (defArgs st) (defScope st) "self"
theorem xinit_mk {P : Program} {K : Frag} {mg : Str → Option Value} {S C f cc cda : Addr} {qual file : Str} {st : Stmt} {oc kV doc pm ct ccl cl : Value} {od an cdd cld : Option Addr} {osl ccs csl : Array (Option Value)} {vs : Array Value} {tf : Tok} (x : XCls K S C)
    (iC : findIn K (.ref C) "__init__" = some (some (.ref f))) (tI : typeIn K (.ref f) = some (.type "function")) (lf : K.lookup f = some ⟨oc, od, .func (fnX "__init__" qual (defArgs st) (defBody st) (defScope st) [("__class__", cc)] .none kV doc pm an (.ref cda) ct), osl⟩)
    (c : codeIn K (.ref cda) qual = true) (lc : K.lookup cda = some ⟨ccl, cdd, .fields vs, ccs⟩) (hv : vs[2]? = some (.str file tf)) (hf : ((P.main.file : Str) == file) = true) (lx : K.lookup cc = some ⟨cl, cld, .cell (some (.ref C)), csl⟩)
    (sup : ks_superIn K C C "__init__" = some (some (.builtin "ValueError.__init__"))) (mgs : mg "super" = none) (opq : nsIn K cStatics "thirdparty.any" = some none) (top : (P.main.scope.names.lookup ("super" : Str)).isSome = false)
    (hh : ∃ ar : Arg, ((defArgs st).posonlyargs ++ (defArgs st).args).head? = some ar ∧ ar.arg = "self") (ks : (defScope st).names.lookup ("super" : Str) = some .globalImplicit) (kc : (defScope st).names.lookup ("__class__" : Str) = some .free) (ka : (defScope st).names.lookup ("self" : Str) = some .local) :
    XInit P K mg C f qual st (fnX "__init__" qual (defArgs st) (defBody st) (defScope st) [("__class__", cc)] .none kV doc pm an (.ref cda) ct) := by
  obtain ⟨cd, hcd⟩ := Option.isSome_iff_exists.mp x.isC
  refine ⟨⟨x.r.ox, iC, tI⟩, ⟨x.r.ox, ?_, sup, ?_⟩, oc, od, kV, doc, pm, an, ct, osl, cc, cda, rfl, lf, c, ⟨hh, ⟨ccl, cdd, vs, ccs, file, tf, lc, hv, hf⟩, ⟨cl, cld, csl, lx⟩, ⟨cd, hcd⟩, ks, kc, ka, top, mgs, opq⟩⟩
  · rw [x.sub]
    simp
  · show mroIn K C _ = _
    rw [x.sub]
    simp
/-- the arguments as they are bound: behind the positional ones the keywords', the first one last -/
def rotV (vs zs : List V) : List V := vs ++ (zs.drop 1 ++ zs.take 1)
def rotU (us ws : List Value) : List Value := us ++ (ws.drop 1 ++ ws.take 1)
theorem vals_take : ∀ {vs : List V} {us : List Value} (n : Nat), Vals vs us → Vals (vs.take n) (us.take n)
  | _, _, 0, _ => .nil
  | _, _, _ + 1, .nil => .nil
  | _, _, n + 1, .cons r t => .cons r (vals_take n t)
theorem vals_drop : ∀ {vs : List V} {us : List Value} (n : Nat), Vals vs us → Vals (vs.drop n) (us.drop n)
  | _, _, 0, h => h
  | _, _, _ + 1, .nil => .nil
  | _, _, n + 1, .cons _ t => vals_drop n t
theorem kbn_rot {K : Frag} {fd : FuncData} {ps ks : List Str} {n : Nat} (h : ∀ us ws : List Value, us.length = n → ws.length = ks.length → bindArgs fd ⟨us, ks.zip ws⟩ = pure (ps.zip (rotU us ws))) : KBn K fd ps n ks rotU rotV :=
  ⟨fun s us ws _ l1 l2 => .of_eq (h us ws l1 l2), fun r1 r2 => r1.append ((vals_drop 1 r2).append (vals_take 1 r2))⟩
theorem kbn_x {P : Program} {K : Frag} {mg : Str → Option Value} {C f : Addr} {qual : Str} {st : Stmt} {fd : FuncData} {ps ks : List Str} {n : Nat} (i : XInit P K mg C f qual st fd)
    (h : ∀ (cc : Addr) (kV doc pm : Value) (an : Option Addr) (cda : Addr) (ct : Value) (us ws : List Value), us.length = n → ws.length = ks.length → bindArgs (fnX "__init__" qual (defArgs st) (defBody st) (defScope st) [("__class__", cc)] .none kV doc pm an (.ref cda) ct) ⟨us, ks.zip ws⟩ = pure (ps.zip (rotU us ws))) : KBn K fd ps n ks rotU rotV := by
  obtain ⟨oc, od, kV, doc, pm, an, ct, osl, cc, cda, rfl, _⟩ := i.fn
  exact kbn_rot (h cc kV doc pm an cda ct)
/-- what is left of a new exception: its dict holds the fields -/
def spXI (C : Addr) (fs : List Str) : Sp := fun vs H Q _ => ∃ (a : Addr) (ws : List V), vs = .ref a :: ws ∧ ws.length = fs.length ∧ H a = some (exo a C none) ∧
  ∀ (H' : Hp) (d : Addr), Kp a H H' → H d = none → d ≠ a → H' a = some (exo a C (some d)) → H' d = some (exd d (fs.zip ws).reverse) → Q .non H'
/-- an exception that is held: of the class at C, with these fields -/
def ErrAt (H : Hp) (a C : Addr) (fs : List (Str × V)) : Prop := ∃ d, H a = some (exo a C (some d)) ∧ H d = some (exd d fs)
theorem ErrAt.same {H H' : Hp} {a C : Addr} {fs : List (Str × V)} (e : Same H H') (h : ErrAt H a C fs) : ErrAt H' a C fs := let ⟨d, h1, h2⟩ := h; ⟨d, e _ _ h1, e _ _ h2⟩
theorem mk_err {C : Addr} {n m : Nat} {fs : List Str} {t tk : TA} {σ : L2.St} {H : Hp} {Q : VK} {vs zs : List V}
    (h1 : ∀ R : List V → Hp → Prop, R vs H → t σ H R) (h2 : ∀ R : List V → Hp → Prop, R zs H → tk σ H R) (l1 : vs.length = n) (l2 : zs.length = m) (l3 : n + m = fs.length)
    (q : ∀ H' a, Same H H' → ErrAt H' a C (fs.zip (rotV vs zs)).reverse → Q (.ref a) H') : tOex C n m (spXI C fs) rotV t tk σ H Q := by
  refine h1 _ (h2 _ ⟨l1, l2, fun a ha => ⟨a, rotV vs zs, rfl, ?_, upd_same, fun H' d kp hd hne ea ed => ⟨rfl, q H' a (fun b o e => ?_) ⟨d, ea, ed⟩⟩⟩⟩)
  · unfold rotV
    rw [List.length_append, List.length_append, List.length_drop, List.length_take, l1, l2]
    omega
  · exact kp b o (by rw [upd_ne (ne_of_none e ha)]; exact e) (ne_of_none e ha)
end Sh
set_option Elab.async false
set_option linter.all false
set_option maxRecDepth 100000
set_option maxHeartbeats 4000000
namespace Sh
open PySem PySem.Spec PyProof.Rows
/-! ### repr of data, where no repr is under way -/
section
variable {prog : Program} {w : World} {A : Around} {E : Value → Shared → Prop} {s : Shared}
theorem repr_reads {v : Value} {d : PyData} {as : List Addr} {Q : Value → Shared → Prop} (r : Reads s.heap v d as) (hs : d.showable = true) (hsm : d.hasDict = true → sysModules ∉ as) (hz : d.shown.length ≤ sizeLine) (hg : A.guards = some []) (hu : A.units + 3 + d.depth < cLine)
    (hQ : ∀ h' u tk, (∀ b o, s.heap.get? b = some o → h'.get? b = some o) → Q (.str d.shown u) { s with heap := h', toks := tk }) : wpAny (model prog w) A (call (.builtin "repr") [v]) Q E s := by
  have here : ∀ {u : Nat} {x : Str}, x = d.shown → Q (.str x u) { s with toks := s.toks + 1 } := fun {u x} e => by
    rw [e]
    exact hQ s.heap u (s.toks + 1) fun _ _ z => z
  have keep : ∀ b o, s.heap.get? b = some o → s.heap.get? b = some o := fun _ _ z => z
  cases r with
  | none => exact P.repr_of_none (here (by simp only [PyData.shown]))
  | bool b => exact P.repr_of_bool (here (by simp only [PyData.shown]))
  | int i t => exact P.repr_of_int (by simpa [PyData.showable] using hs) (here (by simp only [PyData.shown]))
  | str x t => exact P.repr_of_str (here (by simp only [PyData.shown])) (by simpa only [PyData.shown] using hz)
  | @list a o vs n xs as h1 h2 h3 h4 =>
    have hz' : (listText (PyData.shownAll xs)).length ≤ sizeLine := by simpa only [PyData.shown] using hz
    obtain ⟨bs, hb, hk⟩ := ReprAllK.of_readsAll (prog := prog) (w := w) h4 (by simpa [PyData.showable] using hs) (fun hx hm => hsm (by simpa [PyData.hasDict] using hx) (List.mem_cons_of_mem _ hm)) (fun t ht => Nat.le_trans (listText_mem_le ht) hz')
    have hna : a ∉ bs := not_mem_of_deeper (.list h1 h2 h3 h4) (by simp only [PyData.depth]; omega) hb
    simp only [PyData.depth] at hu
    simp only [PyData.shown] at hQ
    refine call_repr_slot (by omega) ⟨o, h1, h2⟩ F.slot_list_repr.toG ?_
    obtain ⟨l⟩ := vs
    cases l with
    | nil =>
      have h4' : ReadsAll s.heap [] xs _ := h4
      cases h4'
      simp only [PyData.shownAll, listText_nil] at hQ
      exact call_list_repr_empty ⟨o, h1, h2⟩ h1 h3 ⟨_, _, rfl, hQ s.heap _ _ keep⟩
    | cons x l => exact call_list_reprK h1 h2 h3 hna (by simpa using hk.length_eq) (fun i y e => hk.item i y (by simpa using e)) hg (fun b _ => Clear.nil b) (by show A.units + 1 + _ < cLine; omega) keep (fun h' u tk hk' => ⟨_, _, rfl, hQ h' u tk hk'⟩) hz'
  | @tuple a o vs n xs as h1 h2 h3 h4 =>
    have hz' : (tupleText (PyData.shownAll xs)).length ≤ sizeLine := by simpa only [PyData.shown] using hz
    obtain ⟨bs, hb, hk⟩ := ReprAllK.of_readsAll (prog := prog) (w := w) h4 (by simpa [PyData.showable] using hs) (fun hx => hsm (by simpa [PyData.hasDict] using hx)) (fun t ht => Nat.le_trans (tupleText_mem_le ht) hz')
    have hna : a ∉ bs := not_mem_of_deeper (.tuple h1 h2 h3 h4) (by simp only [PyData.depth]; omega) hb
    simp only [PyData.depth] at hu
    simp only [PyData.shown] at hQ
    exact call_repr_slot (by omega) ⟨o, h1, h2⟩ F.slot_tuple_repr (call_tuple_reprK h1 h2 h3 hna hk hg (fun b _ => Clear.nil b) (by show A.units + 1 + _ < cLine; omega) keep (fun h' u tk hk' => ⟨_, _, rfl, hQ h' u tk hk'⟩) hz')
  | @dict a o es n kvs as bs h1 h2 h3 h4 h5 =>
    have hz' : (dictText (PyData.shownKv kvs)).length ≤ sizeLine := by simpa only [PyData.shown] using hz
    have hno : sysModules ∉ a :: as ++ bs := hsm (by simp only [PyData.hasDict])
    obtain ⟨hs1, hs2⟩ := PyData.showableKv_split kvs (by simpa [PyData.showable] using hs)
    obtain ⟨b1, hb1, k1⟩ := ReprAllK.of_readsAll (prog := prog) (w := w) h4 hs1 (fun _ hm => hno (List.mem_cons_of_mem _ (List.mem_append_left _ hm))) (fun t ht => let ⟨p, hp, hl⟩ := PyData.shownKv_key_le kvs t ht; Nat.le_trans hl (Nat.le_trans (dictText_mem_le hp) hz'))
    obtain ⟨b2, hb2, k2⟩ := ReprAllK.of_readsAll (prog := prog) (w := w) h5 hs2 (fun _ hm => hno (List.mem_cons_of_mem _ (List.mem_append_right _ hm))) (fun t ht => let ⟨p, hp, hl⟩ := PyData.shownKv_val_le kvs t ht; Nat.le_trans hl (Nat.le_trans (dictText_mem_le hp) hz'))
    have hb : ReadAtMost s.heap (PyData.depthKv kvs) (b1 ++ b2) := (hb1.mono (PyData.depthAll_keys_le kvs)).append (hb2.mono (PyData.depthAll_vals_le kvs))
    have hna : a ∉ b1 ++ b2 := not_mem_of_deeper (.dict h1 h2 h3 h4 h5) (by simp only [PyData.depth]; omega) hb
    have hsys : (a == sysModules) = false := beq_eq_false_iff_ne.mpr fun e => hno (e ▸ List.mem_cons_self ..)
    simp only [PyData.depth] at hu
    simp only [PyData.shown, PyData.shownKv_eq] at hQ
    exact call_repr_slot (by omega) ⟨o, h1, h2⟩ F.slot_dict_repr (call_dict_reprK h1 h2 h3 hsys hna (ReprEntriesK.of_two es.toList _ _
      (k1.more_le (fun b hb => List.mem_append_left _ hb) (PyData.depthAll_keys_le kvs)) (k2.more_le (fun b hb => List.mem_append_right _ hb) (PyData.depthAll_vals_le kvs)))
      hg (fun b _ => Clear.nil b) (by show A.units + 1 + _ < cLine; omega) keep (fun h' u tk hk' => ⟨_, _, rfl, hQ h' u tk hk'⟩) (by rw [← PyData.shownKv_eq]; exact hz'))
end
/-! ### the values that are told -/
open L2 in
/-- a value of any kind -/
inductive Thing (H : Hp) : V → PyData → Prop
  | non : Thing H .non .none
  | bl (b : Bool) : Thing H (.bl b) (.bool b)
  | int (i : Int) (h : i.natAbs < 10 ^ 31) : Thing H (.int i) (.int i)
  | str (x : Str) (h : (reprText x).length ≤ 40) : Thing H (.str x) (.str x)
  | tupS {a : Addr} (x : Str) (h : (reprText x).length ≤ 40) : H a = some (.tup [.str x]) → Thing H (.ref a) (.tuple [.str x])
  | tupN {a b : Addr} (i : Int) (h : i.natAbs < 10 ^ 31) : H a = some (.tup [.int 1, .ref b]) → H b = some (.tup [.int i]) → Thing H (.ref a) (.tuple [.int 1, .tuple [.int i]])
  | lst0 {a : Addr} : H a = some (.lst []) → (a == sysModules) = false → Thing H (.ref a) (.list [])
  | lst1 {a : Addr} (i : Int) (h : i.natAbs < 10 ^ 31) : H a = some (.lst [.int i]) → (a == sysModules) = false → Thing H (.ref a) (.list [.int i])
  | dic0 {a : Addr} : H a = some (.dK []) → Thing H (.ref a) (.dict [])
  | dic1 {a : Addr} (i : Int) (h : i.natAbs < 10 ^ 31) : H a = some (.dK [(Sum.inr "a", .int i)]) → Thing H (.ref a) (.dict [(.str "a", .int i)])
open L2 in
theorem Thing.same {H H' : Hp} {v : V} {d : PyData} (s : Same H H') (h : Thing H v d) : Thing H' v d := by
  cases h with
  | non => exact .non
  | bl b => exact .bl b
  | int i h => exact .int i h
  | str x h => exact .str x h
  | tupS x h e => exact .tupS x h (s _ _ e)
  | tupN i h e1 e2 => exact .tupN i h (s _ _ e1) (s _ _ e2)
  | lst0 e z => exact .lst0 (s _ _ e) z
  | lst1 i h e z => exact .lst1 i h (s _ _ e) z
  | dic0 e => exact .dic0 (s _ _ e)
  | dic1 i h e => exact .dic1 i h (s _ _ e)
theorem int_show {i : Int} (h : i.natAbs < 10 ^ 31) : (Str.ofString (toString i)).length ≤ 32 ∧ i.natAbs.log2 < 1920 := by
  have e := int_text_length_le10 (k := 31) (by decide) h
  refine ⟨by rw [PySem.ofString_length]; omega, ?_⟩
  by_cases h0 : i.natAbs = 0
  · rw [h0]
    decide
  · refine (Nat.log2_lt h0).mpr (Nat.lt_of_lt_of_le h (Nat.le_trans (by decide : 10 ^ 31 ≤ 2 ^ 104) (Nat.pow_le_pow_right (by decide) (by decide))))
theorem tupText_le (ts : List Str) : (tupleText ts).length ≤ 4 + piled ts := by
  unfold tupleText
  rw [strLen_append, strLen_append]
  have e1 : (("(" : Str)).length = 1 := by decide +kernel
  have e2 : ∀ b : Bool, (((if b = true then ",)" else ")" : String) : Str)).length ≤ 2 := by decide +kernel
  have e3 := e2 (ts.length == 1)
  by_cases h : ts = []
  · subst h
    have e4 : (Str.join ", " []).length = 0 := by decide +kernel
    omega
  · have e4 := join_length_add ts h
    omega
theorem dicText_le (ts : List Str) : (dictText ts).length ≤ 4 + piled ts := by
  unfold dictText
  rw [strLen_append, strLen_append]
  have e1 : (("{" : Str)).length = 1 := by decide +kernel
  have e2 : (("}" : Str)).length = 1 := by decide +kernel
  by_cases h : ts = []
  · subst h
    have e4 : (Str.join ", " []).length = 0 := by decide +kernel
    omega
  · have e4 := join_length_add ts h
    omega
open L2 in
theorem Thing.show {H : Hp} {v : V} {d : PyData} (h : Thing H v d) : d.showable = true ∧ d.shown.length ≤ 200 ∧ d.depth ≤ 2 := by
  cases h with
  | non => exact ⟨by simp [PyData.showable], by simp only [PyData.shown]; decide +kernel, by simp [PyData.depth]⟩
  | bl b => exact ⟨by simp [PyData.showable], by simp only [PyData.shown]; cases b <;> decide +kernel, by simp [PyData.depth]⟩
  | int i h => 
    have := int_show h
    exact ⟨by simp [PyData.showable, this.2], by simp only [PyData.shown]; exact Nat.le_trans this.1 (by decide), by simp [PyData.depth]⟩
  | str x h => exact ⟨by simp [PyData.showable], by simp only [PyData.shown]; omega, by simp [PyData.depth]⟩
  | tupS x h e =>
    refine ⟨by simp [PyData.showable, PyData.showableAll], ?_, by simp [PyData.depth, PyData.depthAll]⟩
    simp only [PyData.shown, PyData.shownAll]
    have := tupText_le [reprText x]
    simp only [piled_cons, piled_nil] at this
    omega
  | tupN i h e1 e2 =>
    have q := int_show h
    refine ⟨by simp [PyData.showable, PyData.showableAll, q.2]; decide, ?_, by simp [PyData.depth, PyData.depthAll]⟩
    simp only [PyData.shown, PyData.shownAll]
    have t1 := tupText_le [Str.ofString (toString i)]
    have t2 := tupText_le [Str.ofString (toString (1 : Int)), tupleText [Str.ofString (toString i)]]
    have t3 : (Str.ofString (toString (1 : Int))).length ≤ 2 := by decide +kernel
    simp only [piled_cons, piled_nil] at t1 t2
    omega
  | lst0 e z => exact ⟨by simp [PyData.showable, PyData.showableAll], by simp only [PyData.shown, PyData.shownAll]; decide +kernel, by simp [PyData.depth, PyData.depthAll]⟩
  | lst1 i h e z =>
    have q := int_show h
    refine ⟨by simp [PyData.showable, PyData.showableAll, q.2], ?_, by simp [PyData.depth, PyData.depthAll]⟩
    simp only [PyData.shown, PyData.shownAll]
    have e1 : listText [Str.ofString (toString i)] = ("[" : Str) ++ ("" : String) ++ Str.ofString (toString i) ++ "]" := rfl
    rw [e1, strLen_append, strLen_append, strLen_append]
    have e2 : (("[" : Str)).length = 1 := by decide +kernel
    have e3 : (("]" : Str)).length = 1 := by decide +kernel
    have e4 : ((("" : String) : Str)).length = 0 := by decide +kernel
    omega
  | dic0 e => exact ⟨by simp [PyData.showable, PyData.showableKv], by simp only [PyData.shown, PyData.shownKv]; decide +kernel, by simp [PyData.depth, PyData.depthKv]⟩
  | dic1 i h e =>
    have q := int_show h
    refine ⟨by simp [PyData.showable, PyData.showableKv, q.2], ?_, by simp [PyData.depth, PyData.depthKv]⟩
    simp only [PyData.shown, PyData.shownKv]
    have t1 := dicText_le [reprText "a" ++ ": " ++ Str.ofString (toString i)]
    simp only [piled_cons, piled_nil] at t1
    rw [strLen_append, strLen_append] at t1
    have t2 : (reprText "a").length ≤ 10 := by decide +kernel
    have t3 : ((": " : Str)).length = 2 := by decide +kernel
    omega
open L2
section
variable {X : Cx} {pins : List (Addr × Obj)} {σ : L2.St} {H : Hp} {s : Shared}
theorem Thing.reads {v : V} {d : PyData} {u : Value} (I : Inv X pins σ H s) (h : Thing H v d) (r : RelV v u) : ∃ as, Reads s.heap u d as ∧ sysModules ∉ as := by
  have nosys : ∀ {a : Addr}, (a == sysModules) = false → sysModules ∉ [a] := fun z m => by
    rw [List.mem_singleton.mp m] at z
    simp at z
  cases h with
  | non => cases r; exact ⟨_, .none, List.not_mem_nil⟩
  | bl b => cases r; exact ⟨_, .bool b, List.not_mem_nil⟩
  | int i h => obtain ⟨t, rfl⟩ := r; exact ⟨_, .int i t, List.not_mem_nil⟩
  | str x h => obtain ⟨t, rfl⟩ := r; exact ⟨_, .str x t, List.not_mem_nil⟩
  | @tupS a x h e =>
    obtain rfl : u = Value.ref a := r
    obtain ⟨its, rv, ⟨o, h1, h2, n, h3⟩, _⟩ := I.tuple (SqT.of (K := X.K) e)
    cases rv with
    | cons r1 rn =>
      cases rn
      obtain ⟨t, rfl⟩ := r1
      exact ⟨_, .tuple h1 h2 h3 (.cons (.str x t) .nil), List.not_mem_nil⟩
  | @tupN a b i h e1 e2 =>
    obtain rfl : u = Value.ref a := r
    obtain ⟨its, rv, ⟨o, h1, h2, n, h3⟩, _⟩ := I.tuple (SqT.of (K := X.K) e1)
    obtain ⟨its2, rv2, ⟨o2, g1, g2, n2, g3⟩, _⟩ := I.tuple (SqT.of (K := X.K) e2)
    cases rv2 with
    | cons r2 rn2 =>
      cases rn2
      obtain ⟨t2, rfl⟩ := r2
      cases rv with
      | cons r1 rn =>
        obtain ⟨t1, rfl⟩ := r1
        cases rn with
        | @cons _ u3 _ _ r3 rn3 =>
          obtain rfl : u3 = Value.ref b := r3
          cases rn3
          exact ⟨_, .tuple h1 h2 h3 (.cons (.int 1 t1) (.cons (.tuple g1 g2 g3 (.cons (.int i t2) .nil)) .nil)), List.not_mem_nil⟩
  | @lst0 a e z =>
    obtain rfl : u = Value.ref a := r
    obtain ⟨its, rv, ⟨o, n, h1, h2, _, h3⟩, _⟩ := I.list (SqL.of (K := X.K) e)
    cases rv
    exact ⟨_, .list h1 h2 h3 .nil, nosys z⟩
  | @lst1 a i h e z =>
    obtain rfl : u = Value.ref a := r
    obtain ⟨its, rv, ⟨o, n, h1, h2, _, h3⟩, _⟩ := I.list (SqL.of (K := X.K) e)
    cases rv with
    | cons r1 rn =>
      cases rn
      obtain ⟨t, rfl⟩ := r1
      exact ⟨_, .list h1 h2 h3 (.cons (.int i t) .nil), nosys z⟩
  | @dic0 a e =>
    obtain rfl : u = Value.ref a := r
    obtain ⟨_, z, vs, kv, o, es, ep, h1, h2, h3, _, hp, _⟩ := (show ObjOk X.prog X.w H s.heap a (.dK []) from I.hok a _ e)
    cases kv
    cases hes : es.toList with
    | cons e1 r1 => rw [hes] at hp; cases hp
    | nil => exact ⟨_, .dict (kvs := []) h1 h2.1 h3 (by rw [hes]; exact .nil) (by rw [hes]; exact .nil), nosys z⟩
  | @dic1 a i h e =>
    obtain rfl : u = Value.ref a := r
    obtain ⟨_, z, vs, kv, o, es, ep, h1, h2, h3, _, hp, _⟩ := (show ObjOk X.prog X.w H s.heap a (.dK [(Sum.inr "a", .int i)]) from I.hok a _ e)
    cases kv with
    | @cons _ q _ _ r1 rn =>
      cases rn
      obtain ⟨qk, qv⟩ := q
      obtain ⟨rfl, t, rfl⟩ := r1
      cases hes : es.toList with
      | nil => rw [hes] at hp; cases hp
      | cons e1 rest =>
        rw [hes] at hp
        cases hp with
        | cons k1 v1 hr =>
          cases hr
          rcases keyIs_shape (show keyIs (Sum.inr ("a" : Str)) e1.key = true from k1) with ⟨j, t', e2, _⟩ | ⟨y, t', e2, e3⟩
          · cases e2
          · cases e2
            exact ⟨_, .dict (kvs := [(.str "a", .int i)]) h1 h2.1 h3 (by rw [hes]; show ReadsAll _ [e1.key] _ _; rw [e3]; exact .cons (.str _ t') .nil) (by rw [hes]; show ReadsAll _ [e1.val] _ _; rw [v1]; exact .cons (.int i t) .nil), nosys z⟩
/-- things, one by one -/
inductive Things (H : Hp) : List V → List PyData → Prop
  | nil : Things H [] []
  | cons {v : V} {vs : List V} {d : PyData} {ds : List PyData} : Thing H v d → Things H vs ds → Things H (v :: vs) (d :: ds)
theorem Things.same {H H' : Hp} (e : Same H H') : ∀ {vs : List V} {ds : List PyData}, Things H vs ds → Things H' vs ds
  | _, _, .nil => .nil
  | _, _, .cons h t => .cons (h.same e) (Things.same e t)
theorem Things.reads (I : Inv X pins σ H s) : ∀ {vs : List V} {ds : List PyData} {us : List Value}, Things H vs ds → Vals vs us → ∃ as, ReadsAll s.heap us ds as ∧ sysModules ∉ as
  | _, _, _, .nil, .nil => ⟨_, .nil, List.not_mem_nil⟩
  | _, _, _, .cons h t, .cons r rs => by
    obtain ⟨as, q1, n1⟩ := h.reads I r
    obtain ⟨bs, q2, n2⟩ := Things.reads I t rs
    exact ⟨_, .cons q1 q2, fun z => (List.mem_append.mp z).elim n1 n2⟩
theorem Things.show {H : Hp} : ∀ {vs : List V} {ds : List PyData}, Things H vs ds → PyData.showableAll ds = true ∧ piled (PyData.shownAll ds) ≤ 202 * ds.length ∧ PyData.depthAll ds ≤ 2
  | _, _, .nil => ⟨rfl, by simp only [PyData.shownAll]; exact Nat.zero_le _, by simp [PyData.depthAll]⟩
  | _, d :: ds, .cons h t => by
    obtain ⟨a1, a2, a3⟩ := h.show
    obtain ⟨b1, b2, b3⟩ := Things.show t
    refine ⟨by simp [PyData.showableAll, a1, b1], ?_, by simp only [PyData.depthAll]; omega⟩
    simp only [PyData.shownAll, piled_cons, List.length_cons]
    omega
end
section
variable {X : Cx}
/-- repr(x), x a thing or a tuple of a few of them -/
def rRepr (xs : List V) (H : Hp) (Q : VK) : Prop := ∃ v, xs = [v] ∧ ((∃ d, Thing H v d ∧ Q (.str d.shown) H) ∨ ∃ (a : Addr) (vs : List V) (ds : List PyData), v = .ref a ∧ H a = some (.tup vs) ∧ Things H vs ds ∧ ds.length ≤ 10 ∧ Q (.str (PyData.tuple ds).shown) H)
theorem call_repr (hg : X.A.guards = some []) (hu : X.A.units + 65 < cLine) : CallR X (.builtin "repr") rRepr := by
  intro pins s σ H xs us Q I r h
  obtain ⟨v, rfl, h⟩ := h
  cases r with
  | @cons _ u _ _ r1 rn =>
    cases rn
    rcases h with ⟨d, hd, q⟩ | ⟨a, vs, ds, rfl, ha, hd, hl, q⟩
    · obtain ⟨as, rd, ns⟩ := hd.reads I r1
      obtain ⟨s1, s2, s3⟩ := hd.show
      exact repr_reads rd s1 (fun _ => ns) (by rw [sizeLine_eq]; omega) hg (by omega) fun h' u tk k => ⟨.str _, H, I.kept (t' := tk) k, ⟨u, rfl⟩, q⟩
    · obtain rfl : u = Value.ref a := r1
      obtain ⟨its, rv, ⟨o, h1, h2, n, h3⟩, _⟩ := I.tuple (SqT.of (K := X.K) ha)
      obtain ⟨as, rd, ns⟩ := Things.reads I hd rv
      obtain ⟨s1, s2, s3⟩ := Things.show hd
      have hz : (PyData.tuple ds).shown.length ≤ sizeLine := by
        simp only [PyData.shown]
        have := tupText_le (PyData.shownAll ds)
        rw [sizeLine_eq]
        omega
      exact repr_reads (.tuple h1 h2 h3 rd) (by simp [PyData.showable, s1]) (fun _ => ns) hz hg (by simp only [PyData.depth]; omega) fun h' u tk k => ⟨.str _, H, I.kept (t' := tk) k, ⟨u, rfl⟩, q⟩
/-- [e, ..]: the new list is not the modules' own dict -/
def tLstB (t : TA) : TE := fun σ H Q => t σ H fun xs H1 => xs.length ≤ sizeLine ∧ ∀ p, H1 p = none → (p == sysModules) = false → Q (.ref p) (upd H1 p (.lst xs))
theorem pe_lstB {es : List Expr} {t : TA} {pos : Pos} (h : PA X es t) : PE X (.List es pos) (tLstB t) := by
  refine ⟨fun pins s σ H Q I hq => wpAny_List_spliced (thn (h.run pos pins s σ H _ I hq) fun us s1 ⟨xs, H1, I1, r, z, q⟩ => ⟨by rw [← r.length]; exact z, ?_⟩)⟩
  have hf : H1 s1.heap.objs.size = none := I1.hok.fresh (Nat.le_refl _)
  have hne : (s1.heap.objs.size == sysModules) = false := beq_eq_false_iff_ne.mpr (Nat.ne_of_gt I1.big)
  exact ⟨.ref s1.heap.objs.size, upd H1 s1.heap.objs.size (.lst xs), I1.laid (t' := s1.toks) (fun b u e => Heap.get?_push_of_some _ e) (Nat.le_refl _) ⟨z, us, 0, r, Heap.get?_push_size _ rfl⟩, rfl, q _ hf hne⟩
end
end Sh
set_option Elab.async false
set_option linter.all false
set_option maxRecDepth 100000
set_option maxHeartbeats 4000000
namespace Sh
open PySem PySem.Spec PyProof.Rows L2
/-! ### a law that asks for a repr: its promise where no repr is under way -/
structure FnG (P : Program) (w : World) (K : PySem.W.Frag) (mg : Str → Option Value) (base : Heap) (CX : CXT) (k : Nat) (f : Addr) (fd : FuncData) (ps : List Str) (sp : Sp) : Prop where
  run : ∀ (A : Around) (outer : List Env) (s : Shared) (H : Hp) (args : Args) (us : List Value) (vs : List V) (Q : VK) (E : XK), A.guards = some [] → Room k A → Env0 P w K mg base A outer s H → BindsTo s fd args (ps.zip us) → Vals vs us → sp vs H Q E →
    codeAny (model P w) A (.call (.ref f) args) (CR CX outer P w H s Q E) s
section
variable {P : Program} {w : World} {K : PySem.W.Frag} {mg : Str → Option Value} {base : Heap}
/-- a promise at one place in the stack, from the promise over all of them that the body keeps -/
theorem okG {x qual : Str} {st : Stmt} {f : Addr} {fd : FuncData} {N ps : List Str} {k : Nat} {sp : Sp} (F : Fun K x qual st f fd) (S : FnScope N ps (defScope st)) (len : ∀ vs H Q E, sp vs H Q E → vs.length = ps.length)
    (hbody : ∀ (cdv : Value) (A : Around) (outer : List Env) (s : Shared) (H : Hp) (vs : List V) (Q : VK) (E : XK), (A.deeper (envOfC qual (defScope st) s.heap.objs.size f cdv)).guards = some [] → Room k (A.deeper (envOfC qual (defScope st) s.heap.objs.size f cdv)) → sp vs H Q E →
      ∃ t, PSs (cxOf CX0 P w K mg base N qual (defScope st) f cdv A outer s H E).nox (defBody st) t ∧ t { nx := fun _ H' => Q .non H', rt := Q } (start N vs) H) : FnG P w K mg base CX0 (k + 1) f fd ps sp := by
  refine ⟨fun A outer s H args us vs Q E hgd hr e0 hb r hsp => ?_⟩
  obtain ⟨oc, od, kV, doc, pm, an, cdv, ct, osl, rfl, lk, hcd⟩ := F.ex
  have hl := len _ _ _ _ hsp
  have KX : K.In s.heap := e0.mod.kin.keeps fun b o z => (e0.bs b o z).1
  have hkind : ∀ y ∈ ps.zip us, (defScope st).names.lookup y.1 = some .local ∨ ((defScope st).names.lookup y.1 = some .cell ∧ ((cellsFrom (s.heap.objs.size + 1) (defScope st).names []).lookup y.1).isSome = true) := fun y hy =>
    (S.par y.1 (List.of_mem_zip (a := y.1) (b := y.2) hy).1).imp id fun z => ⟨z, PySem.W.cellsFrom_some _ _ _ (.inl z)⟩
  refine codeAny_call_function hr.depth (KX _ _ lk) rfl S.co S.gen rfl (PySem.W.codeRec_of KX hcd) (hb _ _ _ _ (wpAny_newFunctionEnv_cells S.kind hkind fun env he s1 y => ?_))
  subst he
  refine ⟨(e0.mod.nolimit.keeps fun b o z => (e0.bs b o z).1).keeps y.toInCall.keep, codeAny_func ?_⟩
  obtain ⟨t, ht, hq⟩ := hbody cdv A outer s H vs Q E hgd (hr.deeper _) hsp
  have I : Inv (cxOf CX0 P w K mg base N qual (defScope st) f cdv A outer s H E) [] (start N vs) H s1 := inv_start S hr.hd e0 hl r y
  refine wpAny_mono (ht.nox.run [] s1 (start N vs) H _ I hq) (fun fl s' hs => ?_) fun e s' hs => hs
  cases fl with
  | ret u =>
    obtain ⟨v, _, H', J, rv, q⟩ := hs
    exact ⟨v, H', J.os, J.bare, J.base, J.hok, rv, q⟩
  | next =>
    obtain ⟨_, H', J, q⟩ := hs
    exact ⟨V.non, H', J.os, J.bare, J.base, J.hok, rfl, q⟩
  | brk => exact False.elim hs.choose_spec.choose_spec.2
  | cont => exact False.elim hs.choose_spec.choose_spec.2
end
section
variable {P : Program} {w : World} {K : PySem.W.Frag} {mg mb : Str → Option Value} {k : Nat} {fa a : Addr} {fd : FuncData} {x : Str} {sp : Sp} {t : Shared} {vs : List Value} {ns : List Int}
abbrev Told (t : Shared) (r : Result) (t' : Shared) : Prop := r = .ok (.ret (.bool true)) ∧ OldK t.heap t'.heap ∧ t'.os = t.os ∧ AllBare t'.gens
/-- the call, over an abstract heap in which at most the script is tracked -/
theorem call_over {H : Hp} (KX : K.In t.heap) (hns : t.heap.Ns mainGlobals mg) (hb : t.heap.Ns builtinsNs mb) (hbb : ∀ x : Str, x ≠ "__name__" → mb x = bootBuiltins x) (hlim : t.heap.NoLimit) (hg : t.gens = #[])
    (ha : t.heap.get? a = some { cls := .type "list", data := .seq vs.toArray }) (hr : Room k callerA)
    (G : ∀ base : Heap, K.In base → base.Ns mainGlobals mg → FnG P w K mg base CX0 k fa fd [x] sp) (hbind : ∀ (s : Shared) (u : Value), BindsTo s fd ⟨[u], []⟩ [(x, u)])
    (hO : Only H) (hsp : sp [.ref a] H (fun v _ => v = .bl true) fun _ _ _ => False) (hok : HOk P w H t.heap) (hA : ∀ b, H b ≠ none → b = a) (hK : H a ≠ none → K.lookup a = none) :
    codeAny (model P w) callerA (.call (.ref fa) ⟨[.ref a], []⟩) (Told t) t := by
  have free : ∀ {b : Addr}, b ≠ a → H b = none := fun {b} hb' => Classical.byContradiction fun z => hb' (hA b z)
  have nsK : ∀ {b : Addr} {m : Str → Option Value}, t.heap.Ns b m → (hidT t.heap H).Ns b m := fun {b m} ⟨o, es, ep, e, d, r⟩ => by
    refine ⟨o, es, ep, hidT_get e (free fun z => ?_), d, r⟩
    subst z
    rw [ha] at e
    cases e
    cases d
  have hKb : K.In (hidT t.heap H) := fun b o e => hidT_get (KX b o e) (Classical.byContradiction fun z => by
    have hba := hA b z
    subst hba
    rw [hK z] at e
    cases e)
  obtain ⟨mc, l1, l2⟩ := hlim
  have e0 : Env0 P w K mg (hidT t.heap H) callerA [] t H := ⟨rfl, ⟨hKb, nsK hns, ⟨mb, nsK hb, hbb⟩, mc, nsK l1, l2⟩, fun b o e => of_hidT e, Nat.le_of_eq (hidT_size _ _), trivial, fun b z => (nomatch z), hok, .of_eq hg⟩
  refine codeAny_mono ((G _ hKb (nsK hns)).run callerA [] t H ⟨[.ref a], []⟩ [.ref a] [.ref a] _ _ rfl hr e0 (hbind t (.ref a)) (.cons rfl .nil) hsp) fun r t' hres => ?_
  match r, hres with
  | .ok (.ret u), hres =>
    obtain ⟨v, H', ho, hbare, un, hok', r', q⟩ := hres
    obtain rfl : v = .bl true := q
    obtain rfl : u = Value.bool true := r'
    refine ⟨rfl, OldK.of_keep fun b o e => ?_, ho, hbare⟩
    cases hb' : H b with
    | none => exact un.keep b o e hb' (fun z => nomatch (show b ∈ ([] : List Addr) from z)) (fun z => nomatch z)
    | some y =>
      rcases hO b with z | ⟨ob, xs, z⟩
      · rw [hb'] at z
        cases z
      · obtain ⟨e1, _⟩ := hok b _ z
        obtain ⟨e2, _⟩ := hok' b _ (un.frzs b ob _ z)
        rw [e] at e1
        cases e1
        exact e2
  | .ok .next, hres => exact False.elim hres
  | .ok .brk, hres => exact False.elim hres
  | .ok .cont, hres => exact False.elim hres
  | .error e, hres => exact False.elim hres
theorem law_callG (KX : K.In t.heap) (hns : t.heap.Ns mainGlobals mg) (hb : t.heap.Ns builtinsNs mb) (hbb : ∀ x : Str, x ≠ "__name__" → mb x = bootBuiltins x) (hlim : t.heap.NoLimit) (hg : t.gens = #[])
    (ha : t.heap.get? a = some { cls := .type "list", data := .seq vs.toArray }) (hi : IntsAre vs ns) (hl : ns.length ≤ sizeLine) (hr : Room k callerA)
    (G : ∀ base : Heap, K.In base → base.Ns mainGlobals mg → FnG P w K mg base CX0 k fa fd [x] sp) (hbind : ∀ (s : Shared) (u : Value), BindsTo s fd ⟨[u], []⟩ [(x, u)])
    (hsp : ∀ H : Hp, Only H → SqL K H a (ns.map V.int) → sp [.ref a] H (fun v _ => v = .bl true) fun _ _ _ => False) : codeAny (model P w) callerA (.call (.ref fa) ⟨[.ref a], []⟩) (Told t) t := by
  have rv := vals_ints hi
  have lenV := hi.length
  cases hk : K.lookup a with
  | some o =>
    have e := KX a o hk
    rw [ha] at e
    cases e
    have hO : Only (fun _ => none) := fun _ => .inl rfl
    refine call_over KX hns hb hbb hlim hg ha hr G hbind hO (hsp _ hO (.inr ⟨_, vs.toArray, _, hk, rfl, rfl, rfl, by rw [List.size_toArray, lenV]; exact hl, by simpa using rv⟩)) (fun b u z => nomatch z) (fun b z => absurd rfl z) fun z => absurd rfl z
  | none =>
    have hO : Only (upd (fun _ => none) a (.frz { cls := .type "list", data := .seq vs.toArray } (.lst (ns.map V.int)))) := fun b => by
      by_cases hb' : b = a
      · subst hb'
        exact .inr ⟨_, _, upd_same⟩
      · exact .inl (upd_ne hb')
    refine call_over KX hns hb hbb hlim hg ha hr G hbind hO (hsp _ hO (.inl (.inr ⟨_, upd_same⟩))) (fun b u z => ?_) (fun b z => ?_) fun _ => hk
    · by_cases hb' : b = a
      · subst hb'
        rw [upd_same] at z
        cases z
        exact ⟨ha, by rw [List.length_map]; exact hl, vs, _, rv, ha⟩
      · rw [upd_ne hb'] at z
        cases z
    · by_cases hb' : b = a
      · exact hb'
      · exact absurd (upd_ne hb') z
end
theorem walk_ofG {l : PySem.W.OpenLaw} {n k : Nat} {q : Program} {loose : List Str} {XP : (Str → Option Value) → Heap → Prop} {YP : World → Heap → Prop} {d : DefRec} {K : Params → PySem.W.Frag} {sp : PySem.W.Frag → Sp} {x : Str}
    (hn : l.most = some n) (hn2 : n ≤ sizeLine) (hdf : d.params.defaults = []) (hr : Room k callerA) (hY : ∀ (w : World) (h : Heap), YP w h → (K w.params).In h)
    (G : ∀ (w : World) (mg : Str → Option Value) (fa : Addr) (h : Heap), (K w.params).In h → h.Ns mainGlobals mg → mg d.name = some (.ref fa) →
      ∃ fd : FuncData, (∀ (s : Shared) (u : Value), BindsTo s fd ⟨[u], []⟩ [(x, u)]) ∧ ∀ base : Heap, (K w.params).In base → base.Ns mainGlobals mg → FnG l.prog w (K w.params) mg base CX0 k fa fd [x] (sp (K w.params)))
    (hsp : ∀ (K : PySem.W.Frag) (H : Hp) (a : Addr) (ns : List Int), ns.length ≤ n → SqL K H a (ns.map V.int) → sp K [.ref a] H (fun v _ => v = .bl true) fun _ _ _ => False) :
    PySem.W.WalkO q loose XP YP l.row.toRowW d [] (fun f vs => PySem.call f vs) := by
  refine Att.attach_call hn hdf fun w s₀ t mg mb fa o pm cd doc a vs ns Gr Y ho hd hcd hmg hobj hints hlen hg => ?_
  have KX := hY w _ Y
  obtain ⟨fd, hb, hF⟩ := G w mg fa _ KX Gr.T.g hmg
  exact law_callG KX Gr.T.g Gr.T.b Gr.T.builtins Gr.T.nolimit hg hobj hints (Nat.le_trans hlen hn2) hr hF hb fun H _ hS => hsp (K w.params) H a ns hlen hS
end Sh
set_option Elab.async false
set_option linter.all false
set_option maxRecDepth 100000
set_option maxHeartbeats 4000000
namespace Sh
open PySem PySem.Spec PySem.W PyProof.Rows L2 NdefX
/-! ### a head by facts, own exceptions among them -/
theorem andB {a b : Bool} (h : (a && b) = true) : a = true ∧ b = true := Bool.and_eq_true_iff.mp h
/-- the cells that functions hold -/
def cellsG (g : Addr → Option Obj) (as : List Addr) : List Addr := as.flatMap fun a => match g a with
  | some ⟨_, _, .func fd, _⟩ => fd.closure.map (·.2)
  | _ => []
def asX (g : Addr → Option Obj) (n : Nat) : List Addr := cStatics :: (He.asD g n ++ cellsG g (He.asD g n))
/-- an own exception class right below S -/
def xclsB (K : Frag) (S C : Addr) : Bool := (match K.lookup C with
  | some ⟨.type t, _, .cls cd, sl⟩ => decide (t = "type") && (decide (cd.mro = [.ref C, .ref S, .type "ValueError", .type "Exception", .type "BaseException", .type "object"]) && (cd.hasDict && (!cd.hasDel && (match sl.toList with
    | [_, _, _, _, some (.builtin n), _] => decide (n = "ValueError.__new__")
    | _ => false))))
  | _ => false) && (decide (findIn K (.ref C) "__setattr__" = some (some (.builtin "object.__setattr__"))) && (decide (findIn K (.ref C) "__getattribute__" = some (some (.builtin "BaseException.__getattribute__"))) && (decide (findIn K (.ref C) "__getattr__" = some none) &&
    (decide (findIn K (.ref C) "__class__" = some (some (.builtin "object.__class__"))) && keepIn K (.ref C)))))
theorem xclsB_ok {K : Frag} {S C : Addr} (h : xclsB K S C = true) : XCls K S C := by
  obtain ⟨h1, h⟩ := andB h
  obtain ⟨h2, h⟩ := andB h
  obtain ⟨h3, h⟩ := andB h
  obtain ⟨h4, h⟩ := andB h
  obtain ⟨h5, h6⟩ := andB h
  cases q : K.lookup C with
  | none => rw [q] at h1; cases h1
  | some o =>
    obtain ⟨oc, dd, dt, sl⟩ := o
    rw [q] at h1
    cases oc with
    | type t =>
      cases dt with
      | cls cd =>
        obtain ⟨nm, bs, mro, ns, qn, hd, sn, sb, ab, col, del⟩ := cd
        obtain ⟨a1, h1⟩ := andB h1
        obtain ⟨a2, h1⟩ := andB h1
        obtain ⟨a3, h1⟩ := andB h1
        obtain ⟨a4, a5⟩ := andB h1
        have e1 : t = "type" := of_decide_eq_true a1
        have e2 : mro = _ := of_decide_eq_true a2
        have e3 : hd = true := a3
        have e4 : del = false := by
          cases del
          · rfl
          · cases a4
        subst e1 e2 e3 e4
        have es : ∃ k0 k1 k2 k3 k5, sl = #[k0, k1, k2, k3, some (.builtin "ValueError.__new__"), k5] := by
          obtain ⟨l⟩ := sl
          match l, a5 with
          | [k0, k1, k2, k3, some (.builtin n), k5], a5 =>
            have e5 : n = "ValueError.__new__" := of_decide_eq_true a5
            subst e5
            exact ⟨k0, k1, k2, k3, k5, rfl⟩
        obtain ⟨k0, k1, k2, k3, k5, rfl⟩ := es
        exact xcls_mk q (of_decide_eq_true h2) (of_decide_eq_true h3) (of_decide_eq_true h4) (of_decide_eq_true h5) h6
      | _ => cases h1
    | _ => cases h1
def fileB (file : Str) (vs : Array Value) : Bool := match vs[2]? with
  | some (Value.str fl _) => file == fl
  | _ => false
theorem fileB_ok {file : Str} {vs : Array Value} (h : fileB file vs = true) : ∃ fl tf, vs[2]? = some (.str fl tf) ∧ (file == fl) = true := by
  unfold fileB at h
  cases q : vs[2]? with
  | none => rw [q] at h; cases h
  | some v =>
    rw [q] at h
    cases v with
    | str fl tf => exact ⟨fl, tf, rfl, h⟩
    | _ => cases h
/-- its __init__: what it holds beside its text -/
def xinitB (file : Str) (K : Frag) (C f : Addr) (qual : Str) : Bool := decide (findIn K (.ref C) "__init__" = some (some (.ref f))) && (decide (typeIn K (.ref f) = some (.type "function")) &&
  ((match K.lookup f with
    | some ⟨_, _, .func fd, _⟩ => (match fd.code, fd.closure with
      | .ref cd, [(_, cc)] => codeIn K (.ref cd) qual && ((match K.lookup cd with
          | some ⟨_, _, .fields vs, _⟩ => fileB file vs
          | _ => false) && (match K.lookup cc with
          | some ⟨_, _, .cell (some (.ref D)), _⟩ => decide (D = C)
          | _ => false))
      | _, _ => false)
    | _ => false) && decide (ks_superIn K C C "__init__" = some (some (.builtin "ValueError.__init__")))))
abbrev XV : Type := Option (Str × Str × Arguments × FuncBody × Scope × Addr × List Str × Value × Addr)
def xvOf (K : Frag) (f : Addr) : XV := match K.lookup f with
  | some ⟨_, _, .func fd, _⟩ => some (fd.name, fd.qualname, fd.params, fd.body, fd.scope, fd.globals, fd.closure.map (·.1), fd.defaults, fd.builtins)
  | _ => none
structure XD where
  cls : Str
  qual : Str
  st : Stmt
def XD.val (d : XD) : XV := some ("__init__", d.qual, defArgs d.st, .stmts (defBody d.st), defScope d.st, mainGlobals, ["__class__"], .none, builtinsNs)
def XD.fn (K : Frag) (d : XD) : Addr := He.ma K (He.ga K d.cls) "__init__"
theorem xinit_of {P : Program} {K : Frag} {mg : Str → Option Value} {S C f : Addr} {d : XD} (x : XCls K S C) (e : xvOf K f = d.val) (b : xinitB P.main.file K C f d.qual = true) (mgs : mg "super" = none) (opq : nsIn K cStatics "thirdparty.any" = some none)
    (top : (P.main.scope.names.lookup ("super" : Str)).isSome = false) (hh : ∃ ar : Arg, ((defArgs d.st).posonlyargs ++ (defArgs d.st).args).head? = some ar ∧ ar.arg = "self") (ks : (defScope d.st).names.lookup ("super" : Str) = some .globalImplicit)
    (kc : (defScope d.st).names.lookup ("__class__" : Str) = some .free) (ka : (defScope d.st).names.lookup ("self" : Str) = some .local) : ∃ fd, XInit P K mg C f d.qual d.st fd := by
  obtain ⟨b1, b⟩ := andB b
  obtain ⟨b2, b⟩ := andB b
  obtain ⟨b3, b4⟩ := andB b
  unfold xvOf at e
  cases q : K.lookup f with
  | none => rw [q] at b3; cases b3
  | some o =>
    obtain ⟨oc, od, dt, osl⟩ := o
    rw [q] at b3 e
    cases dt with
    | func fd =>
      obtain ⟨n1, n2, n3, n4, n5, n6, n7, n8, n9, n10, n11, n12, n13, n14, n15⟩ := fd
      have e2 : (some (n1, n2, n3, n4, n5, n6, n7.map (·.1), n8, n15) : XV) = (some (("__init__" : Str), d.qual, defArgs d.st, .stmts (defBody d.st), defScope d.st, mainGlobals, ["__class__"], .none, builtinsNs) : XV) := e
      simp only [Option.some.injEq, Prod.mk.injEq] at e2
      obtain ⟨h1, h2, h3, h4, h5, h6, h7, h8, h9⟩ := e2
      subst h1 h2 h3 h4 h5 h6 h8 h9
      cases n7 with
      | nil => cases h7
      | cons p r =>
        cases r with
        | cons p2 r2 => exact nomatch (List.cons.inj h7).2
        | nil =>
          obtain ⟨nn, cc⟩ := p
          have en : nn = "__class__" := (List.cons.inj h7).1
          subst en
          cases n13 with
          | ref cd =>
            obtain ⟨c1, c2⟩ := andB b3
            obtain ⟨c2, c3⟩ := andB c2
            cases q2 : K.lookup cd with
            | none => rw [q2] at c2; cases c2
            | some o2 =>
              obtain ⟨oc2, od2, dt2, osl2⟩ := o2
              rw [q2] at c2
              cases dt2 with
              | fields vs =>
                obtain ⟨fl, tf, hv1, hv2⟩ := fileB_ok c2
                cases q3 : K.lookup cc with
                | none => rw [q3] at c3; cases c3
                | some o3 =>
                  obtain ⟨oc3, od3, dt3, osl3⟩ := o3
                  rw [q3] at c3
                  cases dt3 with
                  | cell co =>
                    cases co with
                    | none => cases c3
                    | some v =>
                      cases v with
                      | ref D =>
                        have eD : D = C := of_decide_eq_true c3
                        subst eD
                        exact ⟨_, xinit_mk (st := d.st) x (of_decide_eq_true b1) (of_decide_eq_true b2) q c1 q2 hv1 hv2 q3 (of_decide_eq_true b4) mgs opq top hh ks kc ka⟩
                      | _ => cases c3
                  | _ => cases c3
              | _ => cases c2
          | _ => cases b3
    | _ => cases b3
/-! the Hook -/
abbrev AlX : Type := He.AlD × Bool × List XV
def obsX (fa : List He.Fa) (fn : List He.DefD) (ex : List (Frag → Bool)) (xs : List XD) (K : Frag) : AlX := (He.obsD fa fn K, ex.all (fun f => f K), xs.map fun d => xvOf K (d.fn K))
def valX (fn : List He.DefD) (xs : List XD) : AlX := (He.valD fn, true, xs.map XD.val)
structure SaysX (fa : List He.Fa) (fn : List He.DefD) (ex : List (Frag → Bool)) (xs : List XD) (K : Frag) : Prop where
  d : He.SaysD fa fn K
  e : ∀ (i : Nat) {f : Frag → Bool}, ex[i]? = some f → f K = true
  x : ∀ (i : Nat) {d : XD}, xs[i]? = some d → xvOf K (d.fn K) = d.val
theorem says_of {fa : List He.Fa} {fn : List He.DefD} {ex : List (Frag → Bool)} {xs : List XD} {K : Frag} (h : obsX fa fn ex xs K = valX fn xs) : SaysX fa fn ex xs K := by
  have h1 : He.obsD fa fn K = He.valD fn := congrArg (fun z : AlX => z.1) h
  have h2 : ex.all (fun f => f K) = true := congrArg (fun z : AlX => z.2.1) h
  have h3 : xs.map (fun d => xvOf K (d.fn K)) = xs.map XD.val := congrArg (fun z : AlX => z.2.2) h
  refine ⟨h1, fun i f e => List.all_eq_true.mp h2 f (List.mem_of_getElem? e), fun i d e => ?_⟩
  have e2 : (xs.map fun d => xvOf K (d.fn K))[i]? = (xs.map XD.val)[i]? := by rw [h3]
  rw [List.getElem?_map, List.getElem?_map, e] at e2
  exact Option.some.inj e2
def obsXG (n : Nat) (fa : List He.Fa) (fn : List He.DefD) (ex : List (Frag → Bool)) (xs : List XD) (g : Addr → Option Obj) : AlX := obsX fa fn ex xs (He.frG g (asX g n))
def hookX (n : Nat) (fa : List He.Fa) (fn : List He.DefD) (ex : List (Frag → Bool)) (xs : List XD) : PySem.W.Hook where
  α := AlX
  obs := fun s => obsXG n fa fn ex xs s.heap.get?
  val := fun _ => valX fn xs
  says := fun _ h => ∃ K : Frag, K.In h ∧ SaysX fa fn ex xs K
  of := fun _ _ e => ⟨_, He.frG_in, says_of e⟩
  keeps := fun _ _ _ ⟨K, hK, c⟩ k => ⟨K, Frag.In.keeps hK k, c⟩
theorem obsXG_eq {n : Nat} {fa : List He.Fa} {fn : List He.DefD} {ex : List (Frag → Bool)} {xs : List XD} {g : Addr → Option Obj} {s : Shared} (h : ∀ a, g a = s.heap.get? a) : obsXG n fa fn ex xs g = (hookX n fa fn ex xs).obs s := by
  have e : g = s.heap.get? := funext h
  rw [e] <;> rfl
/-- a def without defaults -/
theorem fun_of {K : Frag} {x qual : Str} {st : Stmt} {f : Addr} {fd : FuncData} (F : FunD K x qual (defArgs st) (defBody st) (defScope st) [] [] f fd) : Fun K x qual st f fd := by
  obtain ⟨oc, od, dV, kV, doc, pm, an, cdv, ct, osl, rfl, lk, hcd, hD, hK⟩ := F.ex
  rcases hD with ⟨_, rfl⟩ | ⟨z, _⟩
  · exact ⟨⟨oc, od, kV, doc, pm, an, cdv, ct, osl, rfl, lk, hcd⟩, F.kp⟩
  · exact absurd rfl z
theorem walk_ofEG {l : PySem.W.OpenLaw} {n k : Nat} {q : Program} {loose : List Str} {XP : (Str → Option Value) → Heap → Prop} {YP : World → Heap → Prop} {d : DefRec} {x : Str}
    (hn : l.most = some n) (hn2 : n ≤ sizeLine) (hdf : d.params.defaults = []) (hr : Room k callerA)
    (G : ∀ (w : World) (mg : Str → Option Value) (fa : Addr) (h : Heap), YP w h → h.Ns mainGlobals mg → mg d.name = some (.ref fa) →
      ∃ (K : Frag) (fd : FuncData) (sp : Sp), K.In h ∧ (∀ (s : Shared) (u : Value), BindsTo s fd ⟨[u], []⟩ [(x, u)]) ∧
        (∀ (H : Hp) (a : Addr) (ns : List Int), ns.length ≤ n → SqL K H a (ns.map V.int) → sp [.ref a] H (fun v _ => v = .bl true) fun _ _ _ => False) ∧
        ∀ base : Heap, K.In base → base.Ns mainGlobals mg → FnG l.prog w K mg base CX0 k fa fd [x] sp) :
    WalkO q loose XP YP l.row.toRowW d [] (fun f vs => PySem.call f vs) := by
  refine Att.attach_call hn hdf fun w s₀ t mg mb fa o pm cd doc a vs ns Gr Y ho hd hcd hmg hobj hints hlen hg => ?_
  obtain ⟨K, fd, sp, KX, hb, hsp, hF⟩ := G w mg fa _ Y Gr.T.g hmg
  exact law_callG KX Gr.T.g Gr.T.b Gr.T.builtins Gr.T.nolimit hg hobj hints (Nat.le_trans hlen hn2) hr hF hb fun H _ hS => hsp H a ns hlen hS
end Sh
set_option Elab.async false
set_option linter.all false
set_option maxRecDepth 100000
set_option maxHeartbeats 4000000
namespace Sh
open PySem PySem.Spec PySem.W PyProof.Rows L2
/-! ### raise X(..), X an own exception with super().__init__(..) -/
section
variable {X : Cx}
theorem pmk_x {e : Expr} {te : TE} (hx : X.ex = []) (he : PE X e te) :
    PMk X e (fun σ H Q => te σ H fun x H1 => ∃ (a C dx : Addr) (fs : List (Str × V)), x = .ref a ∧ H1 a = some (exo a C (some dx)) ∧ H1 dx = some (exd dx fs) ∧ Fr0 X.H_0 a ∧ Raises X (.ref C) ∧ Q (.ref C) (some dx) (delH H1 a)) := by
  intro pins s σ H Q I h
  refine thn (he.run pins s σ H _ I h) fun u s1 hu => ?_
  obtain ⟨v, H1, I1, r1, a, C, dx, fs, rfl, ha, hd, h0, hr, q⟩ := hu
  cases r1
  obtain ⟨t1, ho⟩ := exo_at I1.hok ha
  obtain ⟨G, gs, ga, J⟩ := I1.untrack ha h0 hx
  exact ⟨a, _, _, { s1 with heap := G }, delH H1 a, .ref C, some dx, rfl, J, gs, ga, ho, ⟨rfl, rfl⟩, rfl, rfl, delH_same, rfl, I1.bare, hr, q⟩
theorem pmk_x0 {e : Expr} {te : TE} (hx : X.ex = []) (he : PE X e te) :
    PMk X e (fun σ H Q => te σ H fun x H1 => ∃ (a C : Addr), x = .ref a ∧ H1 a = some (exo a C none) ∧ Fr0 X.H_0 a ∧ Raises X (.ref C) ∧ Q (.ref C) none (delH H1 a)) := by
  intro pins s σ H Q I h
  refine thn (he.run pins s σ H _ I h) fun u s1 hu => ?_
  obtain ⟨v, H1, I1, r1, a, C, rfl, ha, h0, hr, q⟩ := hu
  cases r1
  obtain ⟨t1, ho⟩ := exo_at I1.hok ha
  obtain ⟨G, gs, ga, J⟩ := I1.untrack ha h0 hx
  exact ⟨a, _, _, { s1 with heap := G }, delH H1 a, .ref C, none, rfl, J, gs, ga, ho, ⟨rfl, rfl⟩, rfl, rfl, delH_same, rfl, I1.bare, hr, q⟩
def tRaiseX (X : Cx) (W : WX) (te : TE) : TS := fun _ σ H => te σ H fun x H1 => ∃ (a C dx : Addr) (fs : List (Str × V)), x = .ref a ∧ H1 a = some (exo a C (some dx)) ∧ H1 dx = some (exd dx fs) ∧ Fr0 X.H_0 a ∧ Raises X (.ref C) ∧ W (.ref C) (some dx) σ (delH H1 a)
theorem ps_raiseX {W : WX} {e : Expr} {te : TE} {pos : Pos} (hc : X.calm = true) (hx : X.ex = []) (tk : Takes X W) (he : PE X e te) : PS X (.Raise (some e) none pos) (tRaiseX X W te) := ps_raise hc tk (pmk_x hx he)
def tRaiseX0 (X : Cx) (W : WX) (te : TE) : TS := fun _ σ H => te σ H fun x H1 => ∃ (a C : Addr), x = .ref a ∧ H1 a = some (exo a C none) ∧ Fr0 X.H_0 a ∧ Raises X (.ref C) ∧ W (.ref C) none σ (delH H1 a)
theorem ps_raiseX0 {W : WX} {e : Expr} {te : TE} {pos : Pos} (hc : X.calm = true) (hx : X.ex = []) (tk : Takes X W) (he : PE X e te) : PS X (.Raise (some e) none pos) (tRaiseX0 X W te) := ps_raise hc tk (pmk_x0 hx he)
/-- what a raise asks, when the exception is made of its arguments -/
theorem mk_raise {C : Addr} {n m : Nat} {fs : List Str} {t tk : TA} {σ : L2.St} {H : Hp} {W : WX} {D : Ends} {vs zs : List V} (h0 : ∀ a, H a = none → Fr0 X.H_0 a) (R : Raises X (.ref C))
    (h1 : ∀ R : List V → Hp → Prop, R vs H → t σ H R) (h2 : ∀ R : List V → Hp → Prop, R zs H → tk σ H R) (l1 : vs.length = n) (l2 : zs.length = m) (l3 : n + m = fs.length)
    (q : ∀ H' d, Same H H' → H d = none → H' d = some (exd d (fs.zip (rotV vs zs)).reverse) → W (.ref C) (some d) σ H') : tRaiseX X W (tOex C n m (spXI C fs) rotV t tk) D σ H := by
  refine h1 _ (h2 _ ⟨l1, l2, fun a ha => ⟨a, rotV vs zs, rfl, ?_, upd_same, fun H' d kp hd hne ea ed => ⟨rfl, a, C, d, _, rfl, ea, ed, h0 a ha, R, q _ d (fun b o e => ?_) ?_ ?_⟩⟩⟩)
  · unfold rotV
    rw [List.length_append, List.length_append, List.length_drop, List.length_take, l1, l2]
    omega
  · have ne := ne_of_none e ha
    rw [delH_ne ne]
    exact kp b o (by rw [upd_ne ne]; exact e) ne
  · rw [upd_ne hne] at hd
    exact hd
  · rw [delH_ne hne]
    exact ed
theorem XCls.raises {S C : Addr} (x : XCls X.K S C) : Raises X (.ref C) := raises_own (by show mroIn X.K C _ = some true; rw [x.sub]; simp [List.contains_cons]) x.ty
/-- e.f of the exception that a suite holds -/
def tXBy (K : Frag) (f : Str) (a : Addr) (cls : Value) (d : Option Addr) (te : TE) : TE := fun σ H Q => te σ H fun x H1 => x = .ref a ∧ ∃ (C dx : Addr) (fs : List (Str × V)) (v : V), cls = .ref C ∧ d = some dx ∧ ExR K C ∧ findIn K (.ref C) f = some none ∧ H1 dx = some (exd dx fs) ∧ fs.lookup f = some v ∧ Q v H1
theorem pe_xby {a : Addr} {oe : Obj} {cls : Value} {d : Option Addr} {pn : List (Addr × Obj)} {e : Expr} {te : TE} {f : Str} {pos : Pos} (hz : Zc cls d oe) (hf : ∃ vs, oe.data = .fields vs) (he : PE (X.suite a ((a, oe) :: pn)) e te)
    (hb : attributeBase e f X.env (eval e X.env) = eval e X.env := by rfl) : PE (X.suite a ((a, oe) :: pn)) (.Attribute e f pos) (tXBy X.K f a cls d te) := by
  refine ⟨fun pins s σ H Q I h => attr_of hb (thn (he.run pins s σ H _ I h) fun u s1 hh => ?_)⟩
  obtain ⟨x, H1, I1, rx, rfl, C, dx, fs, v, rfl, rfl, R, hno, ed, hl, q⟩ := hh
  obtain rfl : u = Value.ref a := rx
  have hp := (I1.pin (a, oe) (List.mem_append_left _ List.mem_cons_self)).1
  obtain ⟨vs, hd⟩ := hf
  obtain ⟨mA, hns, hr⟩ := exd_at I1.hok ed
  obtain ⟨od, hod, hlk⟩ := lookIn_ns hns
  obtain ⟨u, hu, ru⟩ := RelO.some_of (v := v) (o := mA f) (by rw [← hl]; exact hr f)
  have J : InstAt s1.heap a oe C (some od) := ⟨hp, hz.1, (by unfold notCls; rw [hd] <;> rfl), (by rw [hz.2]; exact hod)⟩
  exact HandSPX.exc_get I1.kIn J R.ga R.gg R.ox.exC (findObj_own R.hd hno rfl (by rw [hlk, hu])) (handed_of ru) ⟨v, H1, I1.tok _, ru, q⟩
/-- isinstance(e, C) of the exception that a suite holds -/
def rIsXBy (K : Frag) (a : Addr) (cls : Value) (d : Option Addr) : List V → Hp → VK → Prop := fun xs H Q => ∃ (C dx : Addr) (fs : List (Str × V)) (c : V) (u : Value) (b : Bool), xs = [.ref a, c] ∧ ClsV c u ∧ cls = .ref C ∧ d = some dx ∧ ExR K C ∧ H dx = some (exd dx fs) ∧ kitOne K (.ref C) u = some b ∧ Q (.bl b) H
theorem call_isXBy {a : Addr} {oe : Obj} {cls : Value} {d : Option Addr} {pn : List (Addr × Obj)} (hz : Zc cls d oe) (hf : ∃ vs, oe.data = .fields vs) (hn : specialIn X.K (.builtin "object.__class__") "__get__" = some (some (.builtin "getset_descriptor.__get__"))) (htk : takesIn X.K (.builtin "object.__class__") = some true) :
    CallR (X.suite a ((a, oe) :: pn)) (.builtin "isinstance") (rIsXBy X.K a cls d) := by
  intro pins s σ H xs us Q I r h
  obtain ⟨C, dx, fs, c, u, b, rfl, k, rfl, rfl, R, ed, e, q⟩ := h
  obtain ⟨u1, u2, rfl, r1, r2⟩ := vals2 r
  obtain rfl := k.eq r2
  obtain rfl : u1 = Value.ref a := r1
  have hp := (I.pin (a, oe) (List.mem_append_left _ List.mem_cons_self)).1
  obtain ⟨vs, hd⟩ := hf
  obtain ⟨mA, hns, hr⟩ := exd_at I.hok ed
  obtain ⟨od, hod, hlk⟩ := lookIn_ns hns
  have J : InstAt s.heap a oe C (some od) := ⟨hp, hz.1, (by unfold notCls; rw [hd] <;> rfl), (by rw [hz.2]; exact hod)⟩
  exact kia_one (kitx_exc R.isCls R.ga R.gg R.ox.exC R.cl hn htk R.ob) I.kIn J e (fun z => nomatch z) fun tk => ⟨.bl b, H, I.tok tk, rfl, q⟩
end
/-! ### which clause takes it -/
theorem XCls.subBE {K : Frag} {S C : Addr} (x : XCls K S C) : subIn K (.ref C) (.type "BaseException") = some true := by
  show mroIn K C _ = some true
  rw [x.sub]
  simp [List.contains_cons]
theorem exmOne_of {K : Frag} {cls c : Value} {b : Bool} (h : subIn K c (.type "BaseException") = some true) (k : kitCls K cls c = some b) : exmOne K cls c = some b := by
  unfold exmOne
  rw [h]
  simpa using k
theorem XCls.kit {K : Frag} {S C D : Addr} (x : XCls K S C) (y : XCls K S D) (h : D ≠ S) : kitCls K (.ref C) (.ref D) = some (decide (C = D)) := by
  unfold kitCls
  simp only [y.isC, y.ty, beq_self_eq_true, Bool.and_self, if_true]
  show mroIn K C (.ref D) = _
  rw [x.sub]
  by_cases e : C = D
  · subst e
    simp
  · have e1 : (Value.ref D == Value.ref C) = false := by simp [Ne.symm e]
    have e2 : (Value.ref D == Value.ref S) = false := by simp [h]
    have e3 : ∀ T : String, (Value.ref D == Value.type T) = false := fun T => by simp
    simp [List.contains_cons, e1, e2, e3, e]
    exact ⟨Ne.symm e, h⟩
theorem XCls.exm {K : Frag} {S C D : Addr} (x : XCls K S C) (y : XCls K S D) (h : D ≠ S) : exmOne K (.ref C) (.ref D) = some (decide (C = D)) := exmOne_of y.subBE (x.kit y h)
end Sh
set_option Elab.async false
set_option linter.all false
set_option maxRecDepth 100000
set_option maxHeartbeats 4000000
namespace ShL
open PySem PySem.W PySem.Calls PyProof.Rows
/-! ### sorted(xs, key=f), f's keys lists that are new -/
/-- h's objects stand in g; those of F may have other slots -/
def KB (F : List Addr) (h g : Heap) : Prop := ∀ b o, h.get? b = some o → (∃ sl, g.get? b = some { o with slots := sl }) ∧ (b ∉ F → g.get? b = some o)
/-- .. all but the one at l -/
def KBx (l : Addr) (F : List Addr) (h g : Heap) : Prop := ∀ b o, b ≠ l → h.get? b = some o → (∃ sl, g.get? b = some { o with slots := sl }) ∧ (b ∉ F → g.get? b = some o)
theorem KB.of {F : List Addr} {h g : Heap} (k : ∀ b o, h.get? b = some o → g.get? b = some o) : KB F h g := fun b o q => ⟨⟨o.slots, k b o q⟩, fun _ => k b o q⟩
theorem KB.trans {F : List Addr} {h g k : Heap} (x : KB F h g) (y : KB F g k) : KB F h k := fun b o q => by
  obtain ⟨⟨sl, q1⟩, q2⟩ := x b o q
  obtain ⟨⟨sl', r1⟩, r2⟩ := y b _ q1
  exact ⟨⟨sl', r1⟩, fun n => (y b o (q2 n)).2 n⟩
theorem KBx.trans {l : Addr} {F : List Addr} {h g k : Heap} (x : KBx l F h g) (y : KB F g k) : KBx l F h k := fun b o hb q => by
  obtain ⟨⟨sl, q1⟩, q2⟩ := x b o hb q
  obtain ⟨⟨sl', r1⟩, r2⟩ := y b _ q1
  exact ⟨⟨sl', r1⟩, fun n => (y b o (q2 n)).2 n⟩
theorem KBx.same {l c : Addr} {F : List Addr} {h g k : Heap} (x : KBx l F h g) (hc : h.get? c = none) (y : ∀ b, b ≠ c → k.get? b = g.get? b) : KBx l F h k := fun b o hb q => by
  have ne : b ≠ c := fun z => by rw [z, hc] at q; cases q
  obtain ⟨⟨sl, q1⟩, q2⟩ := x b o hb q
  exact ⟨⟨sl, (y b ne).trans q1⟩, fun n => (y b ne).trans (q2 n)⟩
section
variable {prog : Program} {w : World} {A : Around} {E : Value → Shared → Prop} {s : Shared} {l st : Addr} {its : List Value} {e1 : Nat} {Z : PySem.Fin → Shared → Prop} {ks : List PyData} {J : Shared → Prop} {F : List Addr}
/-- a call of f on x keeps what was there; its key is a new object -/
def KeyNew (J : Shared → Prop) (F : List Addr) (d : PyData) (s₁ : Shared) (v : Value) (s₂ : Shared) : Prop := J s₂ ∧ KB F s₁.heap s₂.heap ∧ ∃ a o, v = .ref a ∧ s₁.heap.get? a = none ∧ a ∉ F ∧ s₂.heap.get? a = some o ∧ ∀ g : Heap, g.get? a = some o → ∃ as, Reads g (.ref a) d as
theorem kn_rest {f : Value} {h0 : Heap} (hJ : ∀ s g tk, J s → J { s with heap := g, toks := tk }) (j0 : J s) (kb : KBx l F h0 s.heap) (hst : h0.get? st = none) (ns : s.heap.get? st = some (seqObj "list" #[] 0)) (nl : s.heap.get? l = some (seqObj "list" #[] e1)) (hne : st ≠ l) (hsF : st ∉ F) (hlF : l ∉ F)
    (hlen : ks.length = its.length) (hZ : its.length ≤ sizeLine) (hal : AllAlike ks) (hsk : Sortable ks) (hu : ∀ d ∈ ks, A.units + d.depth < cLine)
    (one : ∀ (i : Nat) (v : Value) (d : PyData), its[i]? = some v → ks[i]? = some d → ∀ (s₁ : Shared), J s₁ → KBx l F h0 s₁.heap → wpAny (model prog w) A (call f [v]) (KeyNew J F d s₁) (fun _ _ => False) s₁)
    (fin : ∀ s₁ out c, J s₁ → KBx l F h0 s₁.heap → s₁.heap.get? l = some (seqObj "list" (List.toArray out) c) → KeyedOut false ks its out → Z (.done (.ret .none)) s₁) :
    wpAny (model prog w) A (ksk_rest l f false its.toArray e1 (.ref st)) Z E s := by
  unfold ksk_rest; refine wpAny_bind (wpAny_rule ?_)
  first
    | rw [List.forIn_toArray]
    | (rw [← Array.forIn_toList]; simp only [List.toList_toArray])
    | rw [← Array.forIn_toList]
  let R : Heap → Value → PyData → Prop := fun g v d => ∃ a o, v = .ref a ∧ a ≠ st ∧ a ∉ F ∧ g.get? a = some o ∧ ∀ g' : Heap, g'.get? a = some o → ∃ as, Reads g' (.ref a) d as
  refine wpAny_bind (ksk_fold (fun i s₁ => ∃ kA e, J s₁ ∧ KBx l F h0 s₁.heap ∧ s₁.heap.get? st = some (seqObj "list" kA e) ∧ s₁.heap.get? l = some (seqObj "list" #[] e1) ∧ EachIs (R s₁.heap) kA.toList (ks.take i)) its 0 s
    ⟨#[], 0, j0, kb, ns, nl, by rw [List.take_zero]; exact EachIs.nil⟩ ?step ?done)
  case step =>
    rintro j x s₁ hx ⟨kA, e, j1, kg, ns', nl', hk⟩
    simp only [Nat.zero_add] at hk ⊢
    have hj : j < its.length := (List.getElem?_eq_some_iff.mp hx).1
    obtain ⟨d, hd⟩ : ∃ d, ks[j]? = some d := ⟨_, List.getElem?_eq_getElem (by omega)⟩
    have hz : kA.size ≤ its.length := by
      have q := hk.length
      rw [Array.length_toList, List.length_take] at q; omega
    refine wpAny_bind (wpAny_attempt (wpAny_mono (one j x d hx hd s₁ j1 kg) (fun v s₂ he => ?_) fun _ _ z => z.elim))
    obtain ⟨j2, up, a, o, rfl, hn, haF, hao, hr⟩ := he; try dsimp only
    have has : a ≠ st := fun z => by rw [z, ns'] at hn; cases hn
    have ns2 : s₂.heap.get? st = some (seqObj "list" kA e) := (up _ _ ns').2 hsF
    have nl2 : s₂.heap.get? l = some (seqObj "list" #[] e1) := (up _ _ nl').2 hlF
    have sb := Heap.SameBut.update s₂.heap st (Obj.mapSeq (·.push (.ref a)))
    obtain ⟨c2, hc2⟩ : ∃ c2, (s₂.heap.update st (Obj.mapSeq (·.push (.ref a)))).get? st = some (seqObj "list" (kA.push (.ref a)) c2) := ⟨_, get?_update_seq ns2 (·.push (.ref a))⟩
    refine wpAny_bind (listUpdate_at ns2 rfl ?_ (Nat.le_trans hz hZ) (by rw [Array.size_push]; omega))
    refine wpAny_pure ⟨rfl, kA.push (.ref a), c2, hJ s₂ _ s₂.toks j2, (kg.trans up).same hst sb.2, hc2, (sb.2 l hne.symm).trans nl2, ?_⟩
    rw [show (kA.push (Value.ref a)).toList = kA.toList ++ [.ref a] by simp, show ks.take (j + 1) = ks.take j ++ [d] by rw [List.take_add_one, hd]; rfl]
    refine each_snoc (R := R (s₂.heap.update st (Obj.mapSeq (·.push (.ref a))))) ⟨a, o, rfl, has, haF, (sb.2 a has).trans hao, hr⟩ (hk.mono ?_)
    rintro u d' ⟨b, ob, rfl, hb1, hb2, hb3, hb4⟩
    exact ⟨b, ob, rfl, hb1, hb2, (sb.2 b hb1).trans ((up _ _ hb3).2 hb2), hb4⟩
  case done =>
    rintro s₁ ⟨kA, e, j1, kg, ns', nl', hk⟩
    have hk' : EachIs (fun v d => ∃ as, Reads s₁.heap v d as) kA.toList ks := by
      rw [show ks.take (0 + its.length) = ks from List.take_of_length_le (by omega)] at hk
      refine hk.mono ?_
      rintro u d ⟨b, ob, rfl, _, _, hb3, hb4⟩
      exact hb4 _ hb3
    have hsz : kA.size = its.length := by
      have q := hk'.length
      rw [Array.length_toList] at q; omega
    try dsimp only
    refine wpAny_bind (listItems_at ns' rfl ?_)
    obtain ⟨G, g1, g2⟩ := L2.restrict s₁.heap fun b => decide (b ≠ st)
    have kG : KeepsBut l G s₁.heap := fun b o _ q => by
      by_cases z : b = st
      · rw [g2 b (decide_eq_false (by simpa using z))] at q; cases q
      · rw [g1 b (decide_eq_true z)] at q; exact q
    refine keyH_end (κ := dataKind s₁.heap ks) (h₁ := G) kG (g2 st (by simp)) ns' nl' hne (SortsAt.data (s := s₁) hk' hal hsk hu) hsz hZ fun g3 tk3 c k3 n3 => fin _ _ c (hJ s₁ g3 tk3 j1) ?_ n3 ⟨s₁.heap, kA.toList, hal, rfl, hk'⟩
    intro b o hb q
    have ne : b ≠ st := fun z => by rw [z, hst] at q; cases q
    obtain ⟨⟨sl, q1⟩, q2⟩ := kg b o hb q
    exact ⟨⟨sl, k3 b _ hb ((g1 b (decide_eq_true ne)).trans q1)⟩, fun n => k3 b _ hb ((g1 b (decide_eq_true ne)).trans (q2 n))⟩
theorem kn_tree {f : Value} {n : Nat} (hJ : ∀ s g tk, J s → J { s with heap := g, toks := tk }) (j0 : J s) (hF : ∀ b ∈ F, b < s.heap.objs.size ∧ b ≠ l) (ho : s.heap.get? l = some (seqObj "list" its.toArray n)) (hlen : ks.length = its.length) (hZ : its.length ≤ sizeLine) (hal : AllAlike ks) (hsk : Sortable ks) (hu : ∀ d ∈ ks, A.units + d.depth < cLine)
    (one : ∀ (i : Nat) (v : Value) (d : PyData), its[i]? = some v → ks[i]? = some d → ∀ (s₁ : Shared), J s₁ → KBx l F s.heap s₁.heap → wpAny (model prog w) A (call f [v]) (KeyNew J F d s₁) (fun _ _ => False) s₁)
    (fin : ∀ s₁ out c, J s₁ → KBx l F s.heap s₁.heap → s₁.heap.get? l = some (seqObj "list" (List.toArray out) c) → KeyedOut false ks its out → Z (.done (.ret .none)) s₁) :
    wpAny (model prog w) A (ksk_tree l f false) Z E s := by
  have hl : l < s.heap.objs.size := Heap.lt_size ho
  obtain ⟨e1, q1⟩ : ∃ e1, (s.heap.update l (Obj.mapSeq fun _ => (#[] : Array Value))).get? l = some (seqObj "list" #[] e1) := ⟨_, get?_update_seq ho fun _ => #[]⟩
  have zS : ((s.heap.update l (Obj.mapSeq fun _ => (#[] : Array Value))).push (seqObj "tuple" its.toArray 0)).objs.size = s.heap.objs.size + 1 := by rw [size_push', Heap.size_update]
  unfold ksk_tree; refine wpAny_bind (listItems_at ho rfl ?_)
  refine wpAny_bind (listUpdate_at ho rfl ?_ (by rw [List.size_toArray]; exact hZ) (Nat.zero_le _)); refine wpAny_bind (seqEpoch_at q1 rfl ?_)
  refine wpAny_bind (wpAny_newTuple ?_ (by show its.length ≤ _; exact hZ)); refine wpAny_bind (wpAny_newList ?_ (Nat.zero_le _))
  refine wpAny_holding ?_
  refine kn_rest (ks := ks) (F := F) (h0 := s.heap) (s := { s with heap := ((s.heap.update l (Obj.mapSeq fun _ => (#[] : Array Value))).push (seqObj "tuple" its.toArray 0)).push (seqObj "list" #[] 0) }) (st := ((s.heap.update l (Obj.mapSeq fun _ => (#[] : Array Value))).push (seqObj "tuple" its.toArray 0)).objs.size)
    hJ (hJ s _ s.toks j0) (fun b o hb q => ⟨⟨o.slots, sortingHeap_old hb q⟩, fun _ => sortingHeap_old hb q⟩) (Heap.get?_none_of_le (by rw [zS]; exact Nat.le_succ _)) (Heap.get?_push_size _ rfl) (Heap.get?_push_of_some _ (Heap.get?_push_of_some _ q1)) (by rw [zS]; exact Nat.ne_of_gt (Nat.lt_succ_of_lt hl)) ?_ (fun z => (hF l z).2 rfl) hlen hZ hal hsk hu one fin
  rw [zS]
  exact fun z => Nat.lt_irrefl _ (Nat.lt_trans (Nat.lt_succ_self _) (hF _ z).1)
end
section
variable {prog : Program} {w : World} {A : Around} {E : Value → Shared → Prop} {s : Shared} {β : Type} {its : List Value} {bs : List β} {R : Value → β → Prop} {J : Shared → Prop} {F : List Addr}
theorem kn_turns {l : Addr} {f : Value} {k : β → PyData} {h0 : Heap} (e : EachIs R its bs)
    (one : ∀ (v : Value) (x : β), R v x → x ∈ bs → ∀ (s₁ : Shared), J s₁ → KBx l F h0 s₁.heap → wpAny (model prog w) A (call f [v]) (KeyNew J F (k x) s₁) (fun _ _ => False) s₁) :
    ∀ (i : Nat) (v : Value) (d : PyData), its[i]? = some v → (bs.map k)[i]? = some d → ∀ (s₁ : Shared), J s₁ → KBx l F h0 s₁.heap → wpAny (model prog w) A (call f [v]) (KeyNew J F d s₁) (fun _ _ => False) s₁ := by
  intro i v d hv hd s₁ j1 kb
  rw [List.getElem?_map] at hd
  obtain ⟨x, q, rfl⟩ := Option.map_eq_some_iff.mp hd
  have m : (v, x) ∈ its.zip bs := List.mem_of_getElem? (i := i) (by rw [List.getElem?_zip_eq_some]; exact ⟨hv, q⟩)
  exact one v x (e.zip _ m) (List.mem_of_getElem? q) s₁ j1 kb
/-- sorted(xs, key=f) -/
theorem sorted_key_new {a q : Addr} {Q : Value → Shared → Prop} (k : β → PyData) (hJ : ∀ s g tk, J s → J { s with heap := g, toks := tk }) (j0 : J s) (hF : ∀ b ∈ F, b < s.heap.objs.size) (hl : s.heap.IsList a its.toArray) (e : EachIs R its bs) (hal : AllAlike (bs.map k)) (hk : Sortable (bs.map k)) (hL : bs.length ≤ sizeLine) (hu : ∀ x ∈ bs, A.units + 2 + (k x).depth < cLine)
    (one : ∀ (v : Value) (x : β), R v x → x ∈ bs → ∀ (s₁ : Shared), J s₁ → KB F s.heap s₁.heap → wpAny (model prog w) A.in1.in1 (call (.ref q) [v]) (KeyNew J F (k x) s₁) (fun _ _ => False) s₁)
    (fin : ∀ s₁ out c, J s₁ → KB F s.heap s₁.heap → s₁.heap.get? (s.heap.objs.size + 1) = some (seqObj "list" (List.toArray out) c) → out.length = bs.length → EachIs R out (bs.mergeSort (dataLe false k)) → Q (.ref (s.heap.objs.size + 1)) s₁) :
    wpAny (model prog w) A (call (.builtin "sorted") [.ref a] [(Str.ofString "key", .ref q)]) Q E s := by
  have lb : (bs.map k).length = its.length := by rw [List.length_map]; exact e.length.symm
  have up : ∀ {g : Heap}, KBx (s.heap.objs.size + 1) F (copyHeap s.heap its) g → KB F s.heap g := fun {g} kb b o z => kb b o (Nat.ne_of_lt (Nat.lt_succ_of_lt (Heap.lt_size z))) (copyHeap_old z)
  have zc : s.heap.objs.size ≤ (copyHeap s.heap its).objs.size := Nat.le_of_lt (Nat.lt_of_succ_lt (Heap.lt_size (copyHeap_at s.heap its)))
  refine sorted_of_sort hl (by rw [e.length]; exact hL) (ksk_s1 _ _) (fun _ => ksk_l1 _ _) fun E' => ?_
  rw [ksk_t1]
  refine kn_tree (ks := bs.map k) (F := F) (s := { s with heap := copyHeap s.heap its }) hJ (hJ s _ s.toks j0) (fun b z => ⟨Nat.lt_of_lt_of_le (hF b z) zc, Nat.ne_of_lt (Nat.lt_succ_of_lt (hF b z))⟩) (copyHeap_at s.heap its) lb (by rw [e.length]; exact hL) hal hk (bound_map (A := A.in1.in1) hu) (kn_turns e fun v x hR hx s₁ j1 kb => one v x hR hx s₁ j1 (up kb)) fun s₁ out c j1 kb hD ko => ⟨rfl, ?_⟩
  exact fin s₁ out c j1 (up kb) hD ((ko.length lb).trans e.length) (keyedOut_each k ko e)
end
/-! ### the lambda handed to sorted -/
open PySem.Spec L2 LamX NdefX
abbrev lamF (X : Cx) (params : Arguments) (scope : Scope) (c' : Addr) : NF := ⟨"<lambda>", X.env.qual ++ "<lambda>", params, [], scope, cloFrom X.env.cells scope.names [], c'⟩
abbrev keyD (key : Str → List Int) (z : Str) : PyData := .list ((key z).map .int)
/-- sorted(xs, key=lambda y: body): xs texts, the keys lists of ints -/
def tSL (K : PySem.W.Frag) (T : List (Addr × Str)) (N : List Str) (js : List Nat) (ta : TA) (tb : TE) : TE := fun σ H Q => ta σ H fun vs H1 => ∃ (a : Addr) (xs : List Str) (key : Str → List Int), vs = [.ref a] ∧ SqL K H1 a (xs.map V.str) ∧ Tabs T H1 ∧
  (∀ z ∈ xs, tb (startF N [.str z] (js.map (slotAt σ))) (fun _ => none) fun v H' => ∃ l, v = .ref l ∧ H' l = some (.lst ((key z).map V.int))) ∧
  ∀ H2 p, ExtN H1 H2 → Tabs T H2 → H2 p = none → Q (.ref p) (upd H2 p (.lst ((xs.mergeSort (dataLe false (keyD key))).map V.str)))
theorem sqL_extN {K : PySem.W.Frag} {H H' : Hp} {a : Addr} {xs : List V} (h : SqL K H a xs) (e : ExtN H H') : SqL K H' a xs := by
  rcases h with (h | ⟨o, h⟩) | h
  · exact .inl (.inl (e _ _ h fun ps z => by cases z))
  · exact .inl (.inr ⟨o, e _ _ h fun ps z => by cases z⟩)
  · exact .inr h
theorem vals_strs : ∀ {xs : List Str} {its : List Value}, Vals (xs.map V.str) its → EachIs (fun v z => ∃ t, v = Value.str z t) its xs
  | [], _, .nil => .nil
  | x :: xs, _, .cons r t => .cons r (vals_strs t)
theorem strs_vals : ∀ {xs : List Str} {its : List Value}, EachIs (fun v z => ∃ t, v = Value.str z t) its xs → Vals (xs.map V.str) its
  | [], _, .nil => .nil
  | x :: xs, _, .cons r t => .cons r (strs_vals t)
theorem reads_ints {h : Heap} : ∀ {ns : List Int} {its : List Value}, Vals (ns.map V.int) its → ReadsAll h its (ns.map PyData.int) []
  | [], _, .nil => .nil
  | n :: ns, _, .cons ⟨t, rfl⟩ r => by
    have q := ReadsAll.cons (Reads.int (h := h) n t) (reads_ints r)
    exact q
section
variable {X : Cx}
theorem pe_sortLam {T : List (Addr × Str)} {c P : Addr} {k : Nat} {x y : Str} {e : Expr} {ta : TA} {tb : TE} {params : Arguments} {body : Expr} {scope : Scope} {lpos kpos p pos : Pos} {N fr : List Str} {js : List Nat}
    (hg : Gl X x) (hm : X.mg x = none) (hv : bootBuiltins x = some (.builtin "sorted")) (hA : PA X [e] ta) (TB : TabB X.base X.mg c P) (hcode : X.env.code = .ref c) (hmT : (P, X.env.qual ++ "<lambda>") ∈ T) (huT : ∀ p ∈ T, p.1 = P → p.2 = X.env.qual ++ "<lambda>")
    (hr : Room (k + 3) X.A) (hdef : defaultsOf params X.env = ([], [])) (S : NScope N [y] fr scope) (hfree : ndefB X.env.scope scope fr = true) (hjs : js.map (fun j => X.N[j]?) = fr.map some)
    (hbind : ∀ (q : Str) (cl : List (Str × Addr)) (pm cv ctv u : Value), bindArgs (PySem.W.kla_fn "<lambda>" q params body scope cl pm cv ctv) ⟨[u], []⟩ = pure [(y, u)])
    (hbody : ∀ (A : Around) (outer : List Env) (s : Shared) (H : Hp) (E : XK) (f c' : Addr), Room k (A.deeper (envF (lamF X params scope c') f s.heap.objs.size)) → PE (ncx C8.CX0 X.prog X.w X.K X.mg X.base N (lamF X params scope c') f A outer s H E) body tb)
    (hn : x ≠ "__name__" := by decide) (hdb : (x == ("__debug__" : Str)) = false := by decide)
    (hpl : (backTo pos (starEach [e] X.env)).any (·.1) = false := by rfl) (hsa : backTo pos (starEach [e] X.env) = (false, eval e X.env) :: backTo pos (starEach [] X.env) := by rfl) :
    PE X (.Call (.Name x p) [e] [⟨some "key", .Lambda params body scope lpos, kpos⟩] pos) (tSL X.K T N js ta tb) := by
  refine ⟨fun pins s σ H Q I h => ?_⟩
  refine wpAny_Call_Name_kw (ld_blt I hg hm hv ?_ hn hdb)
  refine PyProof.Rows.callWith_kw (thn (hA.run pos pins s σ H _ I h) fun us s1 ⟨vs, H1, I1, r1, q1⟩ => ?_) hsa hpl rfl rfl
  obtain ⟨a, xs, key, rfl, hs, hT, hk, q⟩ := q1
  obtain rfl := Vals.ref1 r1
  show wpAny _ _ (evalAll ((do let v ← eval (.Lambda params body scope lpos) X.env; standAt pos; pure v) :: [])) _ _ s1
  refine wpAny_evalAll_cons (wpAny_bind (lam_make2 I1 TB hcode hmT huT hT hdef (fun y hy e => (ndef_free hfree y hy e).elim (fun z => I1.ok.has _ (.inl z)) fun z => I1.ok.has _ (.inr z)) fun f c' pm ctv H2 s2 I2 eN T2 hf hfn hfr hco => wpAny_bind (wpAny_standAt (wpAny_pure ?_))))
  refine wpAny_evalAll_nil ?_
  show wpAny _ _ (call (.builtin "sorted") [.ref a] [(Str.ofString "key", .ref f)]) _ _ s2
  have hs2 := sqL_extN hs eN
  obtain ⟨its, rv, hl, hz⟩ := I2.list hs2
  have ev := vals_strs rv
  have zl : xs.length ≤ sizeLine := by rw [List.length_map] at hz; exact hz
  have cp : Caps X (cloFrom X.env.cells scope.names []) fr js := Caps.made I2.ok (ndef_free hfree) (ndef_fr hfree) hjs
  have hr2 : Room (k + 1) X.A.in1.in1 := (Room.in1 (k := k + 2) hr).in1
  have un := hr.un
  have fl : ∀ b ∈ frs X.stack, ∃ o, s2.heap.get? b = some o ∧ ∀ vs, o.data ≠ .fields vs := fun b z => (I2.env0.funs.mem z).2
  refine sorted_key_new (R := fun v z => ∃ t, v = Value.str z t) (F := frs X.stack) (keyD key) (J := fun s' => s'.os = s2.os ∧ AllBare s'.gens) (fun s g tk j => j) ⟨rfl, I2.bare⟩ (fun b z => let ⟨o, q, _⟩ := fl b z; Heap.lt_size q) hl.isList ev (AllAlike.of fun z z' => by unfold keyD; rw [alike]; exact alike_ints _ _) (Sortable.others fun z => ⟨(fun q => (by cases q)), (fun xs q => (by cases q))⟩) zl (fun z _ => ?_) (fun v z hv hz s₁ j1 up => ?_) fun s₁ out ce j1 up hat hlen ho => ?_
  · have e : (keyD key z).depth = 1 := by unfold keyD; rw [PyData.depth, depth_ints]
    rw [e]
    omega
  · obtain ⟨t, rfl⟩ := hv
    have kg : ∀ b o, H2 b = some o → ∀ u, s2.heap.get? b = some u → s₁.heap.get? b = some u := fun b o q u r => (up b u r).2 fun z => by rw [I2.stkFree b z] at q; cases q
    have u3 : Un (frs X.stack) [] H2 H2 s2.heap s₁.heap := ⟨fun b ob q _ n _ => (up b ob q).2 n, fun b ob q _ _ _ => (up b ob q).1, fun _ _ _ n _ => n, fun b ob q _ => let ⟨sl, r⟩ := (up b ob q).1; ⟨_, r⟩, fun _ _ q => q, fun _ _ _ q => q, fun _ ps q => ⟨#[], by rw [q]; simp⟩⟩
    have k3 : HOk X.prog X.w H2 s₁.heap := fun b o q => (I2.hok b o q).stay (fun d u hd r => hd.elim (fun z => kg d o (by rw [z]; exact q) u r) fun z => kg d _ z u r) (fun _ q => q) fun _ _ q => q
    have I3 : L2.Inv X pins σ H2 s₁ := I2.call' j1.1 u3 k3 j1.2 (fun b z => absurd z (by simp))
    have e3 := I3.env0
    have e4 : Env0 X.prog X.w X.K X.mg X.base X.A.in1.in1 X.stack s₁ (fun _ => none) := ⟨e3.in1.in1.frames, e3.mod, fun b o q => ⟨(e3.bs b o q).1, rfl⟩, e3.bsz, e3.funs, fun _ _ => rfl, (fun b o q => (by cases q)), e3.bare⟩
    have of1 : s₁.heap.get? f = some (PySem.W.kla_obj "<lambda>" (X.env.qual ++ "<lambda>") params body scope (cloFrom X.env.cells scope.names []) pm c' ctv) := (up _ _ hf).2 hfr
    obtain ⟨⟨oc, us', tc, hoc, hdc, hvc⟩, _, _⟩ := I3.hok c' _ hco
    have C3 := cells_of I3 cp
    have rc : codeAny (model X.prog X.w) X.A.in1.in1 (.call (.ref f) ⟨[.str z t], []⟩) (CR C8.CX0 X.stack X.prog X.w (fun _ => none) s₁ (fun v H' => ∃ l, v = .ref l ∧ H' l = some (.lst ((key z).map V.int))) C8.E0) s₁ := by
      refine PySem.W.kla_callFunE hr2.depth of1 rfl S.co S.gen rfl ⟨c', oc, us', tc, rfl, hoc, hdc, hvc⟩ ?_
      rw [hbind]
      refine wpAny_pure (wpAny_newFunctionEnv S.nocell (fun yy hy => by
        rw [List.mem_singleton] at hy
        rw [hy]
        exact S.par y List.mem_cons_self) (fun h₁ hns hsb => ⟨I3.nolimit.fresh _ hsb, ?_⟩) S.kind)
      show codeAny _ _ (.expr body (envF (lamF X params scope c') f s₁.heap.objs.size)) _ _
      have kp : ∀ b o, s₁.heap.get? b = some o → h₁.get? b = some o := fun b o e => hsb.extBut b o (Nat.ne_of_lt (Heap.lt_size e)) (Heap.get?_push_of_some _ e)
      have J := inv_startN (CX := C8.CX0) (E := C8.E0) (F := lamF X params scope c') (f := f) (tk := s₁.toks + 1) S hr2.hd e4 (vs := [.str z]) (us := [.str z t]) rfl (.cons ⟨t, rfl⟩ .nil) ⟨C3.len, fun y c q => ⟨rfl, (C3.all y c q).2⟩, C3.inj, C3.has⟩ hns kp
      refine PySem.W.kla_codeExpr (wpAny_mono ((hbody _ X.stack s₁ _ C8.E0 f c' (hr2.deeper _)).run [] _ _ _ _ J (hk z hz)) (fun v s' hq => ?_) fun e s' hq => hq)
      obtain ⟨w', H', J', rv, q⟩ := hq
      exact ⟨w', H', J'.os, J'.bare, J'.base, J'.hok, rv, q⟩
    refine wpAny_call (codeAny_mono rc fun r s' hq => ?_)
    cases r with
    | error e => exact (show False from hq).elim
    | ok fl =>
      cases fl with
      | next => exact False.elim hq
      | brk => exact False.elim hq
      | cont => exact False.elim hq
      | ret u =>
        obtain ⟨v, H', os, bare, un', hok, rv', l, rfl, hl'⟩ := hq
        obtain rfl : u = Value.ref l := rv'
        obtain ⟨zl', its', n', rvl, hob⟩ := hok l _ hl'
        have hn : s₁.heap.get? l = none := by
          cases q : s₁.heap.get? l with
          | none => rfl
          | some o =>
            have := un'.free l o q rfl (by simp)
            rw [hl'] at this
            cases this
        refine ⟨⟨os.trans j1.1, bare⟩, fun b o q => ⟨un'.any q rfl (by simp), fun n => un'.keep b o q rfl n (by simp)⟩, l, _, rfl, hn, fun z => ?_, hob, fun g hg => ?_⟩
        · obtain ⟨o, q, _⟩ := (e3.funs.mem z).2
          rw [hn] at q
          cases q
        · exact ⟨_, Reads.list hg rfl rfl (by simpa using reads_ints rvl)⟩
  · have nP : H2 (s2.heap.objs.size + 1) = none := I2.hok.fresh (Nat.le_succ _)
    have kg : ∀ b o, H2 b = some o → ∀ u, s2.heap.get? b = some u → s₁.heap.get? b = some u := fun b o q u r => (up b u r).2 fun z => by rw [I2.stkFree b z] at q; cases q
    have at_ : ∀ b o, H2 b = some o → upd H2 (s2.heap.objs.size + 1) (.lst ((xs.mergeSort (dataLe false (keyD key))).map V.str)) b = some o := fun b o q => by rw [upd_ne (ne_of_none q nP)]; exact q
    have u3 : Un (frs X.stack) [] H2 (upd H2 (s2.heap.objs.size + 1) (.lst ((xs.mergeSort (dataLe false (keyD key))).map V.str))) s2.heap s₁.heap :=
      ⟨fun b ob q _ n _ => (up b ob q).2 n, fun b ob q _ _ _ => (up b ob q).1, fun b ob q n _ => by rw [upd_ne (Nat.ne_of_lt (Nat.lt_succ_of_lt (Heap.lt_size q)))]; exact n, fun b ob q _ => let ⟨sl, r⟩ := (up b ob q).1; ⟨_, r⟩, fun _ _ q => at_ _ _ q, fun _ _ _ q => at_ _ _ q, fun b ps q => ⟨#[], by rw [at_ _ _ q]; simp⟩⟩
    have k3 : HOk X.prog X.w (upd H2 (s2.heap.objs.size + 1) (.lst ((xs.mergeSort (dataLe false (keyD key))).map V.str))) s₁.heap := fun b o q => by
      by_cases hb : b = s2.heap.objs.size + 1
      · rw [hb, upd_same] at q
        cases q
        rw [hb]
        exact ⟨by rw [List.length_map, ← ho.length, hlen]; exact zl, out, ce, strs_vals ho, hat⟩
      · rw [upd_ne hb] at q
        exact (I2.hok b o q).stay (fun d u hd r => hd.elim (fun z => kg d o (by rw [z]; exact q) u r) fun z => kg d _ z u r) (fun _ q => at_ _ _ q) fun _ _ q => at_ _ _ q
    exact ⟨.ref _, _, I2.call' j1.1 u3 k3 j1.2 (fun b z => absurd z (by simp)), rfl, q _ _ eN T2 nP⟩
end
end ShL
set_option Elab.async false
set_option linter.all false
set_option maxRecDepth 100000
set_option maxHeartbeats 4000000
namespace Sh
open PySem PySem.Spec PyProof.Rows L2
/-! ### own == and != -/
/-- a class of the text's own with an __eq__ at f and no __ne__ -/
structure EqC (K : PySem.W.Frag) (C f : Addr) : Prop where
  eq : PySem.W.findIn K (.ref C) "__eq__" = some (some (.ref f))
  fn : PySem.W.isFn K (.ref f) = true
  ne : PySem.W.findIn K (.ref C) "__ne__" = some (some (.builtin "object.__ne__"))
  ob : PySem.W.mroIn K C (.type "object") = some true
  nl : PySem.W.mroIn K C (.type "list") = some false
  nt : PySem.W.mroIn K C (.type "tuple") = some false
section
variable {prog : Program} {w : World} {A : Around} {E : Value → Shared → Prop} {s : Shared} {K : PySem.W.Frag} {x C f : Addr} {ox : Obj} {od : Option Obj} {b : Value}
theorem ne_entry {Q : Fin → Shared → Prop} (e : EqC K C f) (X : K.In s.heap) (I : PySem.W.InstAt s.heap x ox C od) (hu : A.units < cLine)
    (h : wpAny (model prog w) A (call (.ref f) [.ref x, b]) (fun v s' => ∃ k, v = .bool k ∧ Q (.done (.ret (.bool (!k)))) s') E s) : wpAny (model prog w) A (Builtin.«object.__ne__» ⟨[.ref x, b], []⟩) Q E s := by
  unfold Builtin.«object.__ne__»
  repeat (first
    | with_reducible refine wpAny_cRoomFor hu ?_
    | (refine wpAny_bind (m := callSpecialIfBound? (.ref x) (Str.ofString "__eq__") [b]) (PySem.W.ifBound_K X I e.eq e.fn (wpAny_mono h (fun r s' hr => by
          obtain ⟨k, rfl, hq⟩ := hr
          repeat (first | exact hq | exact wpAny_pure hq | exact wpAny_truthy_bool hq | (refine wpAny_bind (m := truthy (.bool _)) (wpAny_truthy_bool ?_)) | wp_step)) fun _ _ e => e)))
    | wp_step)
theorem rc_ne {Q : Value → Shared → Prop} {tb : Value} (e : EqC K C f) (X : K.In s.heap) (I : PySem.W.InstAt s.heap x ox C od) (hu : A.units + 1 < cLine) (hb : PySem.W.Looks (model prog w) s.heap (typeOf b) tb) (hn : PySem.W.notFirst K C tb = true)
    (h : wpAny (model prog w) A.in1 (call (.ref f) [.ref x, b]) (fun v s' => ∃ k, v = .bool k ∧ Q (.bool (!k)) s') E s) : wpAny (model prog w) A (richCompare .NotEq (.ref x) b) Q E s := by
  have one : wpAny (model prog w) A (tryCompare (.ref x) "__ne__" b) (fun r s' => ∃ v, r = some v ∧ Q v s') E s := by
    unfold tryCompare
    refine wpAny_bind (NtL.csib (I.type.andThen (PySem.W.looks_findIn X e.ne)) (F.cmp_object.ne.bind _) (wpAny_call (codeAny_call_builtin F.cmp_object.ne.plain F.cmpEntry_ne
      (PySem.W.check_slot F.cmpKind_ne F.cmpSplit_ne (I.type.andThen (PySem.W.looks_mroIn X e.ob)) (F.cmpArgs_ne _ _) (ne_entry (A := A.in1) e X I hu (wpAny_mono h (fun v s' hv => ?_) fun _ _ e => e))))))
    obtain ⟨k, rfl, hq⟩ := hv
    exact ⟨k, rfl, wpAny_pure ⟨_, rfl, hq⟩⟩
  simp only [richCompare, cmpInfo_NotEq, oneThing_ref]
  refine wpAny_holding (wpAny_bind (wpAny_cRoomFor (Nat.lt_of_succ_lt hu) ?_))
  refine wpAny_bind (I.type.here (wpAny_bind (hb.here ?_)))
  have fin : wpAny (model prog w) A (tryCompare (.ref x) "__ne__" b) (fun r s' => ∃ v, r = some v ∧ Q v s') E s := one
  split
  · rename_i q
    have e2 : PySem.W.subIn K tb (.ref C) = some false := by
      rcases Bool.or_eq_true_iff.mp hn with e | e
      · rw [beq_iff_eq.mp e] at q; simp at q
      · exact beq_iff_eq.mp e
    refine wpAny_bind ((PySem.W.looks_subIn X e2).here ?_)
    simp only [Bool.false_eq_true, if_false]
    refine wpAny_bind (wpAny_mono one (fun r s' z => ?_) fun _ _ e => e)
    obtain ⟨v, rfl, hq⟩ := z
    exact wpAny_pure hq
  · refine wpAny_bind (wpAny_pure ?_)
    simp only [Bool.false_eq_true, if_false]
    refine wpAny_bind (wpAny_mono one (fun r s' z => ?_) fun _ _ e => e)
    obtain ⟨v, rfl, hq⟩ := z
    exact wpAny_pure hq
end
section
variable {X : Cx} {CX : CXT} {k : Nat} {C f : Addr} {fd : FuncData} {ps : List Str} {sp : Sp}
def rEqO (C : Addr) (sp : Sp) : R2 := fun x y H Q => ∃ a b dx dy fs gs, x = .ref a ∧ y = .ref b ∧ H a = some (.ins C dx fs) ∧ H b = some (.ins C dy gs) ∧ sp [.ref a, .ref b] H (fun v H' => ∃ k, v = .bl k ∧ Q (.bl k) H') (fun _ _ _ => False)
def rNeO (C : Addr) (sp : Sp) : R2 := fun x y H Q => ∃ a b dx dy fs gs, x = .ref a ∧ y = .ref b ∧ H a = some (.ins C dx fs) ∧ H b = some (.ins C dy gs) ∧ sp [.ref a, .ref b] H (fun v H' => ∃ k, v = .bl k ∧ Q (.bl (!k)) H') (fun _ _ _ => False)
theorem run_eqO {A : Around} {pins : List (Addr × Obj)} {σ : L2.St} {H : Hp} {s : Shared} {a b : Addr} {R : Bool → Hp → Prop} (F : FnOk X.prog X.w X.K X.mg X.base CX k f fd ps sp) (hb : Binds X.K fd ps []) (hx : Passes CX X (fun _ _ _ => False)) (hr : Room k A) (hf : A.frames = X.A.frames) (I : L2.Inv X pins σ H s)
    (h : sp [.ref a, .ref b] H (fun v H' => ∃ k, v = .bl k ∧ R k H') (fun _ _ _ => False)) : wpAny (model X.prog X.w) A (call (.ref f) [.ref a, .ref b]) (fun v s' => ∃ k, v = .bool k ∧ ∃ H', L2.Inv X pins σ H' s' ∧ R k H') X.xe s := by
  have e := I.env0
  have e0 : Env0 X.prog X.w X.K X.mg X.base A X.stack s H := ⟨by rw [hf]; exact e.frames, e.mod, e.bs, e.bsz, e.funs, e.frf, e.hok, e.bare⟩
  have hl := F.len _ _ _ _ h
  refine wpAny_call (codeAny_mono (F.run A X.stack s H ⟨[.ref a, .ref b], []⟩ [.ref a, .ref b] [.ref a, .ref b] _ _ hr e0 (by
    have := hb s [.ref a, .ref b] I.kIn (by simpa using hl)
    simpa using this) (.cons rfl (.cons rfl .nil)) h) fun r s' hq => ?_)
  cases r with
  | error e => exact hx pins σ H s e s' I hq
  | ok fl =>
    cases fl with
    | ret w =>
      obtain ⟨z, H', I', rz, k, ez, q⟩ := I.after hq
      subst ez
      cases rz
      exact ⟨k, rfl, H', I', q⟩
    | next => exact False.elim hq
    | brk => exact False.elim hq
    | cont => exact False.elim hq
theorem op_eqO (e : EqC X.K C f) (F : FnOk X.prog X.w X.K X.mg X.base CX k f fd ps sp) (hb : Binds X.K fd ps []) (hx : Passes CX X (fun _ _ _ => False)) (hr : Room k X.A) : OpR X (compareOp .Eq) (rEqO C sp) := by
  intro pins s σ H x y v u Q I rx ry h
  obtain ⟨a, b, dx, dy, fs, gs, rfl, rfl, ha, hb', hs⟩ := h
  cases rx
  cases ry
  obtain ⟨mA, J, _⟩ := ins_get I.hok ha
  obtain ⟨mB, J', _⟩ := ins_get I.hok hb'
  obtain ⟨od, J, _⟩ := J.look
  obtain ⟨od', J', _⟩ := J'.look
  obtain ⟨m, hF⟩ := I.fr
  show wpAny (model X.prog X.w) X.A (richCompare .Eq (.ref a) (.ref b)) (EP X pins σ Q) X.xe s
  refine PySem.W.cmp_K (op := .Eq) (tb := .ref C) hr.units0 hF I.ok.mod.kin J J'.type (by simp [PySem.W.notFirst]) e.eq e.fn (wpAny_mono (run_eqO F hb hx hr rfl I hs) (fun v s' q => ?_) fun _ _ z => z)
  obtain ⟨k, rfl, H', I', q⟩ := q
  exact ⟨.bl k, H', I', rfl, q⟩
theorem op_neO (e : EqC X.K C f) (F : FnOk X.prog X.w X.K X.mg X.base CX k f fd ps sp) (hb : Binds X.K fd ps []) (hx : Passes CX X (fun _ _ _ => False)) (hr : Room (k + 1) X.A) : OpR X (compareOp .NotEq) (rNeO C sp) := by
  intro pins s σ H x y v u Q I rx ry h
  obtain ⟨a, b, dx, dy, fs, gs, rfl, rfl, ha, hb', hs⟩ := h
  cases rx
  cases ry
  obtain ⟨mA, J, _⟩ := ins_get I.hok ha
  obtain ⟨mB, J', _⟩ := ins_get I.hok hb'
  obtain ⟨od, J, _⟩ := J.look
  obtain ⟨od', J', _⟩ := J'.look
  have un := hr.un
  show wpAny (model X.prog X.w) X.A (richCompare .NotEq (.ref a) (.ref b)) (EP X pins σ Q) X.xe s
  refine rc_ne (tb := .ref C) e I.kIn J (by omega) J'.type (by simp [PySem.W.notFirst]) (wpAny_mono (run_eqO F hb hx hr.in1 rfl I hs) (fun v s' q => ?_) fun _ _ z => z)
  obtain ⟨k, rfl, H', I', q⟩ := q
  exact ⟨k, rfl, .bl (!k), H', I', rfl, q⟩
end
/-! ### an own == that returns NotImplemented: of a list -/
section
variable {X : Cx} {C f : Addr} {fd : FuncData}
theorem run_ni {P : Program} {w : World} {K : PySem.W.Frag} {mg : Str → Option Value} {base : Heap} {qual : Str} {st : Stmt} {N : List Str} {c : Expr} {rest : List Stmt} {p p2 p3 : Pos} {tt : TT} {A : Around} {outer : List Env} {s : Shared} {H : Hp} {us : List Value} {vs : List V} {R : Hp → Prop}
    (F : Fun K "__eq__" qual st f fd) (S : FnScope N ["self", "other"] (defScope st)) (hbd : defBody st = .If c [.Return (some (.Name "NotImplemented" p)) p2] [] p3 :: rest) (hbi : Binds K fd ["self", "other"] [])
    (hg : (defScope st).names.lookup ("NotImplemented" : Str) = some .globalImplicit) (hm : mg "NotImplemented" = none)
    (ht : ∀ (cdv : Value) (A : Around) (outer : List Env) (s : Shared) (H : Hp) (E : XK), Room 0 A → PT (cxOf CX0 P w K mg base N qual (defScope st) f cdv A outer s H E) c tt)
    (hr : Room 1 A) (e0 : Env0 P w K mg base A outer s H) (r : Vals vs us) (hl : vs.length = 2) (q : tt (L2.start N vs) H (fun b H' => b = true ∧ R H')) :
    wpAny (model P w) A (call (.ref f) us) (fun v s' => v = .notImplemented ∧ ∃ H', s'.os = s.os ∧ AllBare s'.gens ∧ Un (frs outer) [] H H' s.heap s'.heap ∧ HOk P w H' s'.heap ∧ R H') (fun _ _ => False) s := by
  have KX : K.In s.heap := e0.mod.kin.keeps fun b o z => (e0.bs b o z).1
  have hb := hbi s us KX (by rw [List.append_nil, ← r.length, hl]; rfl)
  obtain ⟨oc, od, kV, doc, pm, an, cdv, ct, osl, rfl, lk, hcd⟩ := F.ex
  have hl2 : vs.length = (["self", "other"] : List Str).length := hl
  have hkind : ∀ y ∈ (["self", "other"] : List Str).zip us, (defScope st).names.lookup y.1 = some .local ∨ ((defScope st).names.lookup y.1 = some .cell ∧ ((cellsFrom (s.heap.objs.size + 1) (defScope st).names []).lookup y.1).isSome = true) := fun y hy =>
    (S.par y.1 (List.of_mem_zip (a := y.1) (b := y.2) hy).1).imp id fun z => ⟨z, PySem.W.cellsFrom_some _ _ _ (.inl z)⟩
  rw [List.append_nil] at hb
  refine wpAny_call (codeAny_call_function hr.depth (KX _ _ lk) rfl S.co S.gen rfl (PySem.W.codeRec_of KX hcd) (hb _ _ _ _ (wpAny_newFunctionEnv_cells S.kind hkind fun env he s1 y => ?_)))
  subst he
  refine ⟨(e0.mod.nolimit.keeps fun b o z => (e0.bs b o z).1).keeps y.toInCall.keep, codeAny_func ?_⟩
  have I := inv_start (CX := CX0) (E := fun _ _ _ => False) S hr.hd e0 hl2 r y
  rw [hbd]
  refine wpAny_mono (wpAny_execs_cons (wpAny_If (thn ((ht cdv A outer s H (fun _ _ _ => False) (hr.mono (by decide))).run [] s1 _ H _ I q) fun d s2 ⟨H1, I1, ed, qn⟩ => ?_))) (fun fl s' hs => hs) fun e s' hs => hs
  subst ed
  refine wpAny_execs_cons (wpAny_Return_some (ld_blt I1 hg hm rfl ?_))
  exact ⟨rfl, H1, I1.os, I1.bare, I1.base, I1.hok, qn⟩
theorem sub_list {K : PySem.W.Frag} {C : Addr} : PySem.W.subIn K (.type "list") (.ref C) = some false := by
  have e : fastBuiltinMro "list" = some [.type "list", .type "object"] := by decide +kernel
  show (fastBuiltinMro "list").map (·.contains (.ref C)) = some false
  rw [e]
  first
    | rfl
    | simp
theorem list_eq_ins {prog : Program} {w : World} {A : Around} {E : Value → Shared → Prop} {s : Shared} {K : PySem.W.Frag} {x b C : Addr} {ox ob : Obj} {od : Option Obj} {Q : Option Value → Shared → Prop} (X : K.In s.heap) (I : PySem.W.InstAt s.heap x ox C od) (nl : PySem.W.mroIn K C (.type "list") = some false)
    (hb : s.heap.get? b = some ob) (hc : ob.cls = .type "list") (h : Q none s) : wpAny (model prog w) A (tryCompare (.ref b) "__eq__" (.ref x)) Q E s := by
  refine wpAny_tryCompare_declines (show s.TypeIs (.ref b) "list" from ⟨ob, hb, hc⟩) F.slot_list_eq (GQ.call_here F.slot_list_eq ⟨ob, hb, hc⟩ F.entry_list_eq (F.args_list_eq_2 _ _) ?_)
  have L : PySem.W.Looks (model prog w) s.heap (isInstance (.ref x) (.type "list")) false := I.type.andThen (PySem.W.looks_mroIn X nl)
  unfold Builtin.«list.__eq__»
  repeat (first | with_reducible refine wpAny_bind (L.here ?_) | wp_step)
  exact ⟨rfl, h⟩
/-- o == xs, where o's own == gives NotImplemented: False -/
def rEqNL (N : List Str) (C : Addr) (tt : TT) : R2 := fun x y H Q => ∃ a b dx fs xs, x = .ref a ∧ y = .ref b ∧ H a = some (.ins C dx fs) ∧ H b = some (.lst xs) ∧
  tt (L2.start N [x, y]) H (fun k H' => k = true ∧ H' a = some (.ins C dx fs) ∧ H' b = some (.lst xs) ∧ Q (.bl false) H')
theorem op_eqNL {qual : Str} {st : Stmt} {N : List Str} {c : Expr} {rest : List Stmt} {p p2 p3 : Pos} {tt : TT} (e : EqC X.K C f)
    (F : Fun X.K "__eq__" qual st f fd) (S : FnScope N ["self", "other"] (defScope st)) (hbd : defBody st = .If c [.Return (some (.Name "NotImplemented" p)) p2] [] p3 :: rest) (hbi : Binds X.K fd ["self", "other"] [])
    (hg : (defScope st).names.lookup ("NotImplemented" : Str) = some .globalImplicit) (hm : X.mg "NotImplemented" = none)
    (ht : ∀ (cdv : Value) (A : Around) (outer : List Env) (s : Shared) (H : Hp) (E : XK), Room 0 A → PT (cxOf CX0 X.prog X.w X.K X.mg X.base N qual (defScope st) f cdv A outer s H E) c tt) (hr : Room 1 X.A) : OpR X (compareOp .Eq) (rEqNL N C tt) := by
  intro pins s σ H x y v u Q I rx ry h
  obtain ⟨a, b, dx, fs, xs, rfl, rfl, ha, hb, hq⟩ := h
  cases rx
  cases ry
  have hab : a ≠ b := ne_of ha hb (by intro z; cases z)
  obtain ⟨mA, J, _⟩ := ins_get I.hok ha
  obtain ⟨od, J, _⟩ := J.look
  obtain ⟨_, its, n, _, hob⟩ := I.hok b _ hb
  have un := hr.un
  have one : wpAny (model X.prog X.w) X.A (tryCompare (.ref a) "__eq__" (.ref b)) (fun r s' => r = none ∧ ∃ H', L2.Inv X pins σ H' s' ∧ H' a = some (.ins C dx fs) ∧ H' b = some (.lst xs) ∧ Q (.bl false) H') X.xe s := by
    unfold tryCompare
    refine wpAny_bind (PySem.W.ifBound_K I.kIn J e.eq e.fn (wpAny_mono (run_ni F S hbd hbi hg hm ht hr I.env0 (us := [.ref a, .ref b]) (vs := [.ref a, .ref b]) (.cons rfl (.cons rfl .nil)) rfl hq) (fun v s' z => ?_) fun _ _ z => z.elim))
    obtain ⟨rfl, H', os, bare, un, hok, q1, q2, q3⟩ := z
    exact wpAny_pure ⟨rfl, H', I.call' os un hok bare (fun b z => absurd z (by simp)), q1, q2, q3⟩
  show wpAny (model X.prog X.w) X.A (richCompare .Eq (.ref a) (.ref b)) (EP X pins σ Q) X.xe s
  simp only [richCompare, cmpInfo_Eq, oneThing_ref]
  refine wpAny_holding (wpAny_bind (wpAny_cRoomFor (by omega) ?_))
  refine wpAny_bind (J.type.here ?_)
  refine wpAny_bind (wpAny_typeOf (show s.TypeIs (.ref b) "list" from ⟨_, hob, rfl⟩) ?_)
  have tail : ∀ s1, (∃ H', L2.Inv X pins σ H' s1 ∧ H' a = some (.ins C dx fs) ∧ H' b = some (.lst xs) ∧ Q (.bl false) H') → wpAny (model X.prog X.w) X.A (tryCompare (.ref b) "__eq__" (.ref a)) (fun r s' => r = none ∧ s' = s1) X.xe s1 ∧ wpAny (model X.prog X.w) X.A (isSame (.ref a) (.ref b)) (fun r s' => r = false ∧ s' = s1) X.xe s1 := by
    rintro s1 ⟨H', I1, q1, q2, _⟩
    obtain ⟨mB, J1, _⟩ := ins_get I1.hok q1
    obtain ⟨od1, J1, _⟩ := J1.look
    obtain ⟨_, its1, n1, _, hob1⟩ := I1.hok b _ q2
    exact ⟨list_eq_ins I1.kIn J1 e.nl hob1 rfl ⟨rfl, rfl⟩, PySem.SeqAt.wpAny_isSame_ref_other' hab J1.at_ hob1 (by intro z; injection z with z; exact absurd z (by decide)) ⟨rfl, rfl⟩⟩
  split
  · refine wpAny_bind ((PySem.W.looks_subIn I.kIn sub_list).here ?_)
    simp only [Bool.false_eq_true, if_false, Bool.not_false, if_true]
    refine wpAny_bind (m := tryCompare (.ref a) _ (.ref b)) (wpAny_mono one (fun r s1 z => ?_) fun _ _ e => e)
    obtain ⟨rfl, z⟩ := z
    refine wpAny_bind (m := tryCompare (.ref b) _ (.ref a)) (wpAny_mono (tail s1 z).1 (fun r s2 y => ?_) fun _ _ e => e)
    obtain ⟨rfl, rfl⟩ := y
    refine wpAny_bind (wpAny_rule (wpAny_bind (wpAny_mono (tail s2 z).2 (fun r s3 y => ?_) fun _ _ e => e)))
    obtain ⟨rfl, rfl⟩ := y
    obtain ⟨H', I1, _, _, q⟩ := z
    exact wpAny_pure ⟨.bl false, H', I1, rfl, q⟩
  · refine wpAny_bind (wpAny_pure ?_)
    simp only [Bool.false_eq_true, if_false, Bool.not_false, if_true]
    refine wpAny_bind (m := tryCompare (.ref a) _ (.ref b)) (wpAny_mono one (fun r s1 z => ?_) fun _ _ e => e)
    obtain ⟨rfl, z⟩ := z
    refine wpAny_bind (m := tryCompare (.ref b) _ (.ref a)) (wpAny_mono (tail s1 z).1 (fun r s2 y => ?_) fun _ _ e => e)
    obtain ⟨rfl, rfl⟩ := y
    refine wpAny_bind (wpAny_rule (wpAny_bind (wpAny_mono (tail s2 z).2 (fun r s3 y => ?_) fun _ _ e => e)))
    obtain ⟨rfl, rfl⟩ := y
    obtain ⟨H', I1, _, _, q⟩ := z
    exact wpAny_pure ⟨.bl false, H', I1, rfl, q⟩
end
end Sh
set_option Elab.async false
set_option linter.all false
set_option maxRecDepth 100000
set_option maxHeartbeats 4000000
namespace Sh
open PySem PySem.Spec PyProof.Rows L2
/-! ### (a, b, ..) = a list or tuple -/
section
variable {X : Cx} {pos : Pos}
def gUnE (K : PySem.W.Frag) (n : Nat) (t : TGs) : TG := fun v σ H Q => ∃ a xs, v = .ref a ∧ (SqL K H a xs ∨ SqT K H a xs) ∧ xs.length = n ∧ t xs σ H Q
theorem pg_unE {es : List Expr} {k : Nat} {t : TGs} {n : Nat} (hc : X.calm = true) (h : PGs X es t)
    (hn : (assignEach es X.env).length = n := by rfl) (hst : (assignEach es X.env).findIdx? (·.1) = none := by rfl) : PG X (.Tuple es k pos) (gUnE X.K n t) := by
  refine ⟨fun pins s σ H v u Q I r hw => ?_⟩
  obtain ⟨a, xs, e1, hq | hq, hl, hw⟩ := hw
  · exact (pg_unl hc h hn hst).run pins s σ H v u Q I r ⟨a, xs, e1, hq, hl, hw⟩
  · exact (pg_tup hc h hn hst).run pins s σ H v u Q I r ⟨a, xs, e1, hq, hl, hw⟩
/-! ### s * n -/
def repS (z : Str) (n : Nat) : Str := ⟨(List.replicate n z.cps.toList).flatten.toArray⟩
theorem fold_app (xs : List Nat) : ∀ (n : Nat) (acc : Array Nat), ((List.replicate n xs.toArray).foldl (· ++ ·) acc) = acc ++ (List.replicate n xs).flatten.toArray
  | 0, acc => by simp
  | n + 1, acc => by
    rw [List.replicate_succ, List.foldl_cons, fold_app xs n, List.replicate_succ, List.flatten_cons]
    apply Array.ext'
    simp
theorem repS_fold (z : Str) (n : Nat) : (⟨(List.replicate n z.cps).foldl (· ++ ·) #[]⟩ : Str) = repS z n := by
  have e := fold_app z.cps.toList n #[]
  rw [Array.toArray_toList] at e
  unfold repS
  rw [e]
  simp
theorem repS_len (z : Str) (n : Nat) : (repS z n).length = n * z.length := by
  show (List.replicate n z.cps.toList).flatten.toArray.size = n * z.cps.size
  simp
theorem op_mulS : OpR X (binaryOp .Mult) (fun x y H Q => ∃ (z : Str) (n : Nat), x = .str z ∧ y = .int (n : Int) ∧ n ≤ 1000 ∧ z.length ≤ 1000 ∧ Q (.str (repS z n)) H) := by
  intro pins s σ H x y v u Q I rx ry h
  obtain ⟨z, n, rfl, rfl, hn, hz, q⟩ := h
  obtain ⟨t, rfl⟩ := rx
  obtain ⟨k, rfl⟩ := ry
  have hle : n * z.length ≤ 1000 * 1000 := Nat.mul_le_mul hn hz
  refine P.mul_str (by rw [Bool.or_eq_false_iff]; exact ⟨decide_eq_false (by omega), decide_eq_false (by omega)⟩) (fun h1 _ h2 => ?_) (fun _ _ => ?_) ?_
  · have h3 : ((z.length : Nat) : Int) ≤ 1000 := by omega
    have h4 : (2 ^ 63 - 1 : Int) / (n : Int) ≥ 1000 := by
      have : (1000 : Int) * (n : Int) ≤ 2 ^ 63 - 1 := by omega
      exact (Int.le_ediv_iff_mul_le (by omega)).mpr this
    omega
  · have : ¬ z.length * ((n : Int)).toNat > 16777216 := by
      rw [Int.toNat_natCast, Nat.mul_comm]
      omega
    unfold Builtin.Str.tooLong
    exact decide_eq_false this
  · have el : (repS z n).length ≤ sizeLine := by rw [repS_len, sizeLine_eq]; omega
    split
    · rename_i h1
      have e0 : n = 0 := by omega
      subst e0
      have e : repS z 0 = Str.empty := rfl
      rw [← e]
      exact ⟨by rw [e]; decide, .str (repS z 0), H, I.tok _, ⟨_, rfl⟩, q⟩
    · split
      · rename_i h1 h2
        have e : repS z n = z := by
          rcases Bool.or_eq_true_iff.mp h2 with h3 | h3
          · have e1 : n = 1 := by
              have := beq_iff_eq.mp h3
              omega
            subst e1
            unfold repS
            simp
          · have e1 : z.length = 0 := beq_iff_eq.mp h3
            have e2 : z.cps.toList = [] := by
              apply List.eq_nil_of_length_eq_zero
              rw [Array.length_toList]
              exact e1
            have e3 : z = ⟨#[]⟩ := by
              obtain ⟨c⟩ := z
              obtain ⟨c⟩ := c
              cases e2
              rfl
            rw [e3]
            unfold repS
            simp
        exact ⟨.str z, H, I, ⟨_, rfl⟩, e ▸ q⟩
      · rw [repS_fold, Int.toNat_natCast]
        exact ⟨el, .str (repS z n), H, I.tok _, ⟨_, rfl⟩, q⟩
/-! ### s[::-1] -/
def revS (z : Str) : Str := ⟨z.cps.toList.reverse.toArray⟩
def tRevS (te : TE) : TE := fun σ H Q => te σ H fun x H1 => ∃ z, x = .str z ∧ z.length ≤ sizeLine ∧ Q (.str (revS z)) H1
theorem rev_indices (n : Nat) : Builtin.Str.strSliceIndices none none (-1) n = (List.range n).reverse := by
  unfold Builtin.Str.strSliceIndices
  show sliceRange ((n : Int) - 1) (-1) (-1) = _
  rw [PySem.W.krv_sliceRange, PySem.W.krv_range]
theorem pe_revS {e : Expr} {te : TE} {k : Nat} {p1 p2 p3 pos : Pos} (he : PE X e te) : PE X (.Subscript e (.Slice none none (some (.UnaryOp .USub (.Constant (.int 1) k p1) p2)) p3) pos) (tRevS te) := by
  refine ⟨fun pins s σ H Q I h => ?_⟩
  refine Subscript_ (thn (he.run pins s σ H _ I h) fun v s1 ⟨x, H1, I1, r1, q1⟩ => ?_)
  obtain ⟨z, rfl, hz, q⟩ := q1
  obtain ⟨t, rfl⟩ := r1
  have hst : PO X (some (.UnaryOp .USub (.Constant (.int 1) k p1) p2)) (tPart (tUn (rU fun i => .int (-i)) (tC (.int 1)))) := po_some (pe_un un_neg pe_int)
  refine wpAny_Slice (thn (po_none.run pins s1 σ H1 (fun o H2 => o = none ∧ H2 = H1) I1 ⟨rfl, rfl⟩) fun vl s2 ⟨l, H2, I2, pl, el, e2⟩ => ?_)
  subst el e2
  refine thn (po_none.run pins s2 σ H2 (fun o H3 => o = none ∧ H3 = H2) I2 ⟨rfl, rfl⟩) fun vu s3 ⟨u, H3, I3, pu, eu, e3⟩ => ?_
  subst eu e3
  refine thn (hst.run pins s3 σ H3 (fun o H4 => o = some (-1) ∧ H4 = H3) I3 ⟨1, rfl, -1, rfl, rfl, rfl⟩) fun vs s4 ⟨o, H4, I4, ps, eo, e4⟩ => ?_
  subst eo e4
  obtain ⟨lo, rfl, e5⟩ := IsPart.raw pl
  obtain ⟨hi, rfl, e6⟩ := IsPart.raw pu
  obtain ⟨sp, rfl, e7⟩ := IsPart.raw ps
  have I5 : L2.Inv X pins σ H4 { s4 with heap := s4.heap.push { cls := .type "slice", data := .fields #[partValue lo, partValue hi, partValue sp] } } := I4.kept (t' := s4.toks) fun b ob q => Heap.get?_push_of_some _ q
  show wpAny (model X.prog X.w) X.A (subscriptTail e (.Slice none none (some (.UnaryOp .USub (.Constant (.int 1) k p1) p2)) p3) (.str z t) (.ref s4.heap.objs.size)) (EP X pins σ Q) X.xe { s4 with heap := s4.heap.push { cls := .type "slice", data := .fields #[partValue lo, partValue hi, partValue sp] } }
  refine tail_any (ops := [.ref s4.heap.objs.size]) (typeIs_str _ z t) (PySem.F.slot_str_getitem.lookup) ?_ (by with_unfolding_all rfl)
  refine wpAny_getItem_str_slice (l := lo) (u := hi) (st := sp) ⟨_, Heap.get?_push_size _ rfl, rfl, rfl⟩ (by rw [e7]; rfl) ?_
  have hp : ((slicePicked z lo hi sp).filterMap (z.cps[·]?)).toArray = z.cps.toList.reverse.toArray := by
    unfold slicePicked
    rw [e5, e6, e7]
    show ((Builtin.Str.strSliceIndices none none (-1) z.cps.size).filterMap (z.cps[·]?)).toArray = _
    rw [rev_indices, List.filterMap_reverse, PySem.W.krv_all]
  unfold sliceMade
  rw [hp, if_neg (by rw [e7]; simp)]
  have el : (revS z).length ≤ sizeLine := by
    have e : z.cps.toList.reverse.toArray.size = z.cps.size := by simp
    show z.cps.toList.reverse.toArray.size ≤ _
    rw [e]
    exact hz
  exact ⟨el, .str (revS z), H4, I5.tok _, ⟨_, rfl⟩, q⟩
/-! ### cls(..), cls a name of the def that holds a class -/
def tMakeL (i : Nat) (C : Addr) (sp : Sp) (E : XK) (t : TA) : TE := fun σ H Q => σ[i]? = some (some (.ref C)) ∧ tMake C sp [] E t σ H Q
theorem pe_makeL {CX : CXT} {k i : Nat} {C f : Addr} {fd : FuncData} {ps : List Str} {sp : Sp} {E : XK} {x : Str} {p : Pos} {e : Expr} {es : List Expr} {t : TA} (M : Mk X.K C f) (F : FnOk X.prog X.w X.K X.mg X.base CX k f fd ps sp) (hr : Room (k + 1) X.A) (hN : X.N[i]? = some x) (hv : Vis X.env.scope x)
    (hb : Binds X.K fd ps []) (hx : Passes CX X E) (ha : PA X (e :: es) t) (hdb : (x == ("__debug__" : Str)) = false := by decide) (hcd : (x == ("__classdict__" : Str)) = false := by decide)
    (he : starEach (e :: es) X.env = (false, eval e X.env) :: starEach es X.env := by rfl) (hpl : (backTo pos (starEach es X.env)).any (·.1) = false := by rfl) :
    PE X (.Call (.Name x p) (e :: es) [] pos) (tMakeL i C sp E t) := by
  refine ⟨fun pins s σ H Q I h => ?_⟩
  obtain ⟨hs, h⟩ := h
  refine wpAny_Call_Name_kw (thn ((pe_var (pos := p) (i := i) hN hv hdb hcd).run pins s σ H (fun v H1 => v = .ref C ∧ H1 = H) I ⟨.ref C, hs, rfl, rfl⟩) fun u s1 ⟨v, H1, I1, r1, q1⟩ => ?_)
  obtain ⟨rfl, rfl⟩ := q1
  cases r1
  refine PySem.W.callWith_K (h₀ := X.base) I1.ok.mod.kin M.kp (thn (ha.run pos pins s1 σ _ _ I1 h) fun us s2 ⟨vs, H2, I2, r, q⟩ => ⟨I2.kIn, ?_⟩) he hpl
  exact run_make M F hr hb .nil hx I2 r q
end
end Sh
set_option Elab.async false
set_option linter.all false
set_option maxRecDepth 100000
set_option maxHeartbeats 4000000
namespace Sh
open PySem PySem.Spec PyProof.Rows L2
/-! ### list(s), s a text -/
section
variable {prog : Program} {w : World} {A : Around} {E : Value → Shared → Prop} {s : Shared} {x : Str} {t : Tok}
theorem hint_str {Q : Bool → Shared → Prop} (h : Q false s) : wpAny (model prog w) A (Builtin.List.listLengthHint (.str x t)) Q E s := by
  have hT : s.TypeIs (.str x t) "str" := typeIs_str s x t
  unfold Builtin.List.listLengthHint; refine wpAny_bind (wpAny_specialOf hT PySem.F.slot_str_len.lookup ?_)
  generalize hid : ("str.__len__" : String) = i0
  wp_delta
  rw [show splitId i0 = some ("str", "__len__") from by subst hid; decide +kernel]
  subst hid
  refine wpAny_bind (wpAny_isInstance (T := "str") (b := true) hT (by rw [isSubtype_type]; kernel_rfl) ?_)
  refine wpAny_ite_split (fun z => absurd z (by decide)) (fun _ => wpAny_ite_split (fun _ => ?_) (fun z => absurd (by decide +kernel) z))
  exact wpAny_bind (wpAny_typeOf hT (wpAny_pure h))
/-- what is left of the signs, laid into the list at S -/
abbrev LaidS (x : Str) (S : Addr) (s : Shared) (R : Heap → Nat → Prop) : Prop := ∀ h' tk acc c, (∀ b o, b ≠ S → s.heap.get? b = some o → h'.get? b = some o) → h'.get? S = some { cls := .type "list", dict := none, data := .seq acc c, slots := #[] } → ItemsOf (SignAt x) acc x.cps.size → R h' tk
theorem extend_str {R : Result → Shared → Prop} (hh : A.handled = none) (S : Addr) (c0 : Nat) (hS : s.heap.get? S = some { cls := .type "list", data := .seq #[] c0 }) (hn : x.cps.size ≤ sizeLine)
    (hR : LaidS x S s fun h' tk => R (.ok (.ret .none)) { s with heap := h', toks := tk }) :
    wpAny (model prog w) A.in1 (Builtin.List.listExtendWith (.ref S) (.str x t) .none) (fun fin s' => match fin with | .done f => R (.ok f) s' | .again c' => c'.quiet = true ∧ codeAny (model prog w) A c' R s') (fun e s' => R (.error e) s') s := by
  have hSI : S ≠ s.heap.objs.size := Nat.ne_of_lt (Heap.lt_size hS)
  have hSf : S ∉ [s.heap.objs.size] := by simpa using hSI
  unfold Builtin.List.listExtendWith; refine wpAny_bind (wpAny_typeOf (T := "str") (typeIs_str s x t) ?_)
  have e1 : Builtin.List.listSameRef (.ref S) (.str x t) = false := rfl
  have e2 : (Value.type "str" == Value.type "list") = false := by decide
  have e3 : (Value.type "str" == Value.type "tuple") = false := by decide
  simp only [e1, e2, e3, Bool.or_false, Bool.false_eq_true, if_false]
  refine wpAny_bind (wpAny_pyIter_str fun oI St W st => ?_)
  have Wk := W A.in1 hh
  have key : ∀ (h : Heap) (c1 tk : Nat), St 0 h → (∀ b o, b ≠ S → s.heap.get? b = some o → h.get? b = some o) → h.get? S = some { cls := .type "list", data := .seq #[] c1 } →
      codeAny (model prog w) A (.builtin "list.extend.loop" ⟨[.ref S, .ref s.heap.objs.size, .none], []⟩) R { s with heap := h, toks := tk } := by
    intro h c1 tk hst hk hS1
    refine codeAny_extend_loopS Wk.toS hn S hSf .none x.cps.size 0 _ #[] c1 rfl (Nat.zero_le _) hst hS1 (ItemsOf.nil _) fun s2 acc c hm hS2 hacc => ?_
    rw [Moved.eq_with hm]
    refine hR s2.heap s2.toks acc c (fun b o hb q => hm.heap b o (fun z => ?_) (hk b o hb q)) hS2 hacc
    rcases List.mem_cons.mp z with z | z
    · exact hb z
    · exact absurd (Heap.lt_size q) (by rw [List.mem_singleton.mp z]; exact Nat.lt_irrefl _)
  have hS1 := Heap.get?_push_of_some oI hS
  refine wpAny_bind (wpAny_holding (hint_str ?_)); refine wpAny_ite_split (fun _ => ?_) (fun _ => wpAny_pure ⟨plainId_quiet PySem.F.plain_extend_loop _, key _ c0 _ st (fun b o _ q => Heap.get?_push_of_some _ q) hS1⟩)
  refine wpAny_bind (wpAny_rule (wpAny_bind ?_))
  show wpAny _ _ (updateSeq S (·.push .none) >>= fun _ => updateSeq S (·.pop)) _ _ _
  refine wpAny_bind (wpAny_updateSeq hS1 rfl ?_)
  have hS2 := Heap.get?_update_self (Obj.mapSeq (·.push Value.none)) hS1 rfl
  refine wpAny_updateSeq (hz := by seq_fits) hS2 rfl ?_
  have hS3 := Heap.get?_update_self (Obj.mapSeq (·.pop)) hS2 rfl
  have up : ∀ b o, b ≠ S → (s.heap.push oI).get? b = some o → (((s.heap.push oI).update S (Obj.mapSeq (·.push Value.none))).update S (Obj.mapSeq (·.pop))).get? b = some o := fun b o hb q =>
    (Heap.get?_update_other _ _ (Ne.symm hb)).trans ((Heap.get?_update_other _ _ (Ne.symm hb)).trans q)
  exact wpAny_pure ⟨plainId_quiet PySem.F.plain_extend_loop _, key _ _ _ (Wk.frame 0 _ _ st fun b hb o q => up b o (fun z => hSf (z ▸ hb)) q) (fun b o hb q => up b o hb (Heap.get?_push_of_some _ q)) hS3⟩
theorem init_str {R : Result → Shared → Prop} (hh : A.handled = none) (S : Addr) (hS : s.heap.get? S = some { cls := .type "list", data := .seq #[] }) (hn : x.cps.size ≤ sizeLine)
    (hR : LaidS x S s fun h' tk => R (.ok (.ret .none)) { s with heap := h', toks := tk }) :
    wpAny (model prog w) A.in1 (Builtin.«list.__init__» ⟨[.ref S, .str x t], []⟩) (fun fin s' => match fin with | .done f => R (.ok f) s' | .again c' => c'.quiet = true ∧ codeAny (model prog w) A c' R s') (fun e s' => R (.error e) s') s := by
  show wpAny _ _ (do let old ← Builtin.List.listItems (.ref S); Builtin.List.listUpdate (.ref S) (fun _ => #[]); letGo old.toList.reverse; Builtin.List.listExtendWith (.ref S) (.str x t) .none) _ _ s
  refine wpAny_bind ?_; unfold Builtin.List.listItems
  refine wpAny_bind (wpAny_seqItems hS rfl (wpAny_pure ?_))
  show wpAny _ _ (updateSeq S (fun _ => #[]) >>= fun _ => letGo (#[] : Array Value).toList.reverse >>= fun _ => Builtin.List.listExtendWith (.ref S) (.str x t) .none) _ _ s
  refine wpAny_bind (wpAny_updateSeq hS rfl (wpAny_bind (wpAny_letGo ?_)))
  refine extend_str hh S _ (Heap.get?_update_self (Obj.mapSeq (fun _ => (#[] : Array Value))) hS rfl) hn fun h' tk acc c hk hS' hacc => hR h' tk acc c (fun b o hb q => hk b o hb ?_) hS' hacc
  exact (Heap.get?_update_other _ _ (Ne.symm hb)).trans q
theorem call_list_text {Q : Value → Shared → Prop} (hh : A.handled = none) (hn : x.cps.size ≤ sizeLine)
    (hQ : ∀ h' tk acc c, (∀ b o, s.heap.get? b = some o → h'.get? b = some o) → h'.get? s.heap.objs.size = some { cls := .type "list", dict := none, data := .seq acc c, slots := #[] } → ItemsOf (SignAt x) acc x.cps.size → Q (.ref s.heap.objs.size) { s with heap := h', toks := tk }) :
    wpAny (model prog w) A (call (.type "list") [.str x t]) Q E s := by
  refine callType_codes (Q₁ := fun obj s₁ => obj = .ref s.heap.objs.size ∧ s₁ = { s with heap := s.heap.push { cls := .type "list", data := .seq #[] } }) PySem.F.called_list (PySem.F.typeCall_list_1 _) PySem.F.entry_list_init (code_list_new _ ⟨rfl, rfl⟩) fun obj s₁ z => ?_
  obtain ⟨rfl, rfl⟩ := z
  have hS : (s.heap.push { cls := .type "list", data := .seq #[] }).get? s.heap.objs.size = some { cls := .type "list", data := .seq #[] } := Heap.get?_push_size _ rfl
  exact ⟨⟨_, hS, rfl⟩, PySem.F.args_list_init_2 _ _, init_str (A := A.in1) hh _ hS hn fun h' tk acc c hk hS' hacc => ⟨rfl, hQ h' tk acc c (fun b o q => hk b o (Nat.ne_of_lt (Heap.lt_size q)) (Heap.get?_push_of_some _ q)) hS' hacc⟩⟩
end
def signs (z : Str) : List Str := z.cps.toList.map fun c => (⟨#[c]⟩ : Str)
theorem call_list_str {X : Cx} (hc : X.calm = true) : CallR X (.type "list") (fun xs H Q => ∃ z, xs = [.str z] ∧ z.length ≤ sizeLine ∧ ∀ p, H p = none → Q (.ref p) (upd H p (.lst ((signs z).map V.str)))) := by
  intro pins s σ H xs us Q I r h
  obtain ⟨z, rfl, hz, q⟩ := h
  obtain ⟨u, rfl, t, rfl⟩ := vals1 r
  have el : ((signs z).map V.str).length = z.cps.size := by unfold signs; simp
  refine call_list_text (I.ok.hd hc) hz fun h' tk acc c keep hS hacc => ?_
  refine ⟨.ref s.heap.objs.size, upd H s.heap.objs.size (.lst ((signs z).map V.str)), I.laid keep (Nat.le_refl _) (show ObjOk X.prog X.w _ _ _ (.lst ((signs z).map V.str)) from ⟨by rw [el]; exact hz, acc.toList, c, ?_, by rw [Array.toArray_toList]; exact hS⟩), rfl, q _ (I.hok.fresh (Nat.le_refl _))⟩
  refine vals_of_at (by rw [el, Array.length_toList]; exact hacc.1.symm) fun j x y h1 h2 => ?_
  obtain ⟨cc, uu, hcc, rfl⟩ := hacc.2 j y (by rw [← Array.getElem?_toList]; exact h2)
  have e2 : ((signs z).map V.str)[j]? = some (V.str ⟨#[cc]⟩) := by
    unfold signs
    rw [List.getElem?_map, List.getElem?_map, Array.getElem?_toList, hcc]
    rfl
  rw [e2] at h1
  cases h1
  exact ⟨uu, rfl⟩
end Sh
set_option Elab.async false
set_option linter.all false
set_option maxRecDepth 100000
set_option maxHeartbeats 4000000
namespace ShL
theorem tab_uniq {α β : Type} {T : List (α × β)} (h : (T.map (·.1)).Nodup) {P : α} {q : β} (m : (P, q) ∈ T) : ∀ p ∈ T, p.1 = P → p.2 = q := by
  induction T with
  | nil => exact fun p hp => nomatch hp
  | cons a T ih =>
    rw [List.map_cons, List.nodup_cons] at h
    intro p hp e
    rcases List.mem_cons.mp hp with rfl | hp
    · rcases List.mem_cons.mp m with z | z
      · rw [← z]
      · exact absurd (List.mem_map.mpr ⟨_, z, e.symm⟩) h.1
    · rcases List.mem_cons.mp m with z | z
      · rw [← z] at h
        exact absurd (List.mem_map.mpr ⟨_, hp, e⟩) h.1
      · exact ih h.2 z p hp e
end ShL
namespace Sh
open PySem PySem.Spec PyProof.Rows L2 LamX
section
variable {P : Program} {w : World} {K : PySem.W.Frag} {mg : Str → Option Value} {base : Heap}
/-- as Fun.ok, the def's code object told -/
theorem okT {x qual : Str} {st : Stmt} {f : Addr} {fd : FuncData} {N ps : List Str} {k : Nat} {sp : Sp} (F : Fun K x qual st f fd) (S : FnScope N ps (defScope st)) (len : ∀ vs H Q E, sp vs H Q E → vs.length = ps.length)
    (hbody : ∀ (cdv : Value) (A : Around) (outer : List Env) (s : Shared) (H : Hp) (vs : List V) (Q : VK) (E : XK), fd.code = cdv → Room k (A.deeper (envOfC qual (defScope st) s.heap.objs.size f cdv)) → sp vs H Q E →
      ∃ t, PSs (cxOf CX0 P w K mg base N qual (defScope st) f cdv A outer s H E).nox (defBody st) t ∧ t { nx := fun _ H' => Q .non H', rt := Q } (start N vs) H) : FnOk P w K mg base CX0 (k + 1) f fd ps sp := by
  obtain ⟨oc, od, kV, doc, pm, an, cdv, ct, osl, rfl, lk, hc⟩ := F.ex
  refine fn_of lk hc S len fun A outer s H vs Q E hr hsp => ?_
  obtain ⟨t, h, q⟩ := hbody cdv A outer s H vs Q E rfl hr hsp
  exact ⟨t, h.nox, q⟩
theorem fnR_of {CX : CXT} {k : Nat} {f : Addr} {fd : FuncData} {ps : List Str} {sp : Sp} (F : FnOk P w K mg base CX k f fd ps sp) (hb : Binds K fd ps []) : FnR P w K mg base CX k f sp := by
  have q := F.raw hb .nil
  exact q.imp fun vs H Q E h => by rw [List.append_nil]; exact h
end
/-- all but the tables is kept, and the tables still tell what they told -/
def Sm (T : List (Addr × Str)) (H H' : Hp) : Prop := ExtN H H' ∧ Tabs T H'
section
variable {T : List (Addr × Str)} {H H1 H2 : Hp}
theorem Sm.refl (t : Tabs T H) : Sm T H H := ⟨ExtN.refl H, t⟩
theorem Sm.trans (a : Sm T H H1) (b : Sm T H1 H2) : Sm T H H2 := ⟨a.1.trans b.1, b.2⟩
theorem Sm.of (t : Tabs T H) (s : Same H H1) : Sm T H H1 := ⟨ExtN.of s, t.ext s⟩
theorem Sm.ext (a : Sm T H H1) (s : Same H1 H2) : Sm T H H2 := a.trans (Sm.of a.2 s)
theorem Sm.new (a : Sm T H H1) {p : Addr} {o : HO} (h : H1 p = none) : Sm T H (upd H1 p o) := a.ext (same_upd h)
theorem Sm.get (a : Sm T H H1) {b : Addr} {o : HO} (h : H b = some o) (n : ∀ ps, o ≠ .tbl ps := by intro ps z; cases z) : H1 b = some o := a.1 b o h n
theorem extN_seqT {K : PySem.W.Frag} {a : Addr} {xs : List V} (e : ExtN H H1) (h : SqT K H a xs) : SqT K H1 a xs := by
  rcases h with (h | ⟨o, h⟩) | h
  · exact .inl (.inl (e _ _ h fun ps z => by cases z))
  · exact .inl (.inr ⟨o, e _ _ h fun ps z => by cases z⟩)
  · exact .inr h
/-- what a pen's draw leaves -/
theorem Tabs.kp {d : Addr} {kvs : List (Key × V)} (t : Tabs T H) (hd : H d = some (.dK kvs)) (s : Kp d H H1) : Tabs T H1 := fun p hp => by
  obtain ⟨ps, h1, h2, h3⟩ := t p hp
  have ne : ∀ {b : Addr} {o : HO}, H b = some o → o ≠ .dK kvs → H1 b = some o := fun {b o} q n => s b o q fun z => n (by rw [z, hd] at q; exact (Option.some.inj q).symm)
  refine ⟨ps, ne h1 (by intro z; cases z), h2, fun pos cv hc => ?_⟩
  obtain ⟨c, e1, e2⟩ := h3 pos cv hc
  exact ⟨c, e1, ne e2 (by intro z; unfold CodeO at z; cases z)⟩
end
end Sh
set_option Elab.async false
set_option linter.all false
set_option maxRecDepth 100000
set_option maxHeartbeats 4000000
namespace Sh
open PySem PySem.Spec PyProof.Rows L2
section
variable {X : Cx}
/-- name = {..} on one line, the name a local -/
theorem ps_setDc {i : Nat} {y : Str} {py : Pos} {kx vx tg iter : Expr} {ifs : List Expr} {scope : Scope} {own : List (Str × Nat)} {pos spos : Pos} {wi : TI} {g : TG} {tt : TT} {tk tv : TE} (hc : X.calm = true) (hN : X.N.Nodup) (hy : X.N[i]? = some y) (hyl : X.env.scope.names.lookup y = some .local)
    (hsw : swapsWith (.DictComp kx vx [⟨tg, iter, ifs, 0⟩] scope pos) (some (.Name y py)) spos.line X.env = pure true) (hi : PI X tg iter wi) (ok : BlkOk X.N X.env.scope scope own)
    (hg : ∀ (s : Shared) (H : Hp) (C : Addr) (cl : List (Str × Addr)) (fp : List Addr), PG (X.blk s H scope (compEnvC scope cl C X.env) fp) tg g)
    (ht : ∀ (s : Shared) (H : Hp) (C : Addr) (cl : List (Str × Addr)) (fp : List Addr), PTs (X.blk s H scope (compEnvC scope cl C X.env) fp) ifs tt) (hk : ∀ (s : Shared) (H : Hp) (C : Addr) (cl : List (Str × Addr)) (fp : List Addr), PE (X.blk s H scope (compEnvC scope cl C X.env) fp) kx tk)
    (he : ∀ (s : Shared) (H : Hp) (C : Addr) (cl : List (Str × Addr)) (fp : List Addr), PE (X.blk s H scope (compEnvC scope cl C X.env) fp) vx tv) (hs : ∀ z, foldedSetIterable iter X.env z = pure z := by intro _; rfl) :
    PS X (.Assign [.Name y py] (.DictComp kx vx [⟨tg, iter, ifs, 0⟩] scope pos) spos) (tAsg (tDc wi g tt tk tv (own.map (·.2))) (gName i)) := by
  refine ⟨fun pins s σ H D I h => ?_⟩
  rw [exec_Assign_Name_used _ _ _ _ hsw]
  refine wpAny_bind (wpAny_standAt (wpAny_bind ?_))
  show wpAny _ X.A (do let _ ← comprehension (.DictComp kx vx [⟨tg, iter, ifs, 0⟩] scope pos) scope X.env (firstIterPos [⟨tg, iter, ifs, 0⟩] pos) newDict false (eval iter X.env) (some (assign (.Name y py) X.env))) _ _ s
  have h : tDc wi g tt tk tv (own.map (·.2)) σ H (fun x H1 => gName i x σ H1 D.nx) := h
  refine wpAny_bind (thn (dc_core (Qf := fun _ s' => SP X pins D .next s') hc hN I hi ok hg ht hk he hs h fun L C s' m H' I' q hn f => ?_) fun _ s' hq => wpAny_pure (wpAny_pure hq))
  show wpAny _ _ (assign (.Name y py) X.env (.ref L)) _ _ _
  refine wpAny_assign_Name (store_ok2 (v := V.ref L) I' hN hy (.inl hyl) rfl (fun s2 I2 ⟨a, sb, ha⟩ => ?_) (.inr hyl))
  obtain ⟨f0, f1, f2, f3, f4, f5⟩ := f
  have haC : C ≠ a := ha.elim (fun z => z ▸ f1) fun z e => f4 y a z e.symm
  exact ⟨m, hn.sameBut sb haC, fun h3 sb3 => ⟨_, H', I2.turned (t' := s2.toks) (fun b o hb e => (sb3.2 b hb).trans e) f0 f1 f3 f4 f5, q⟩⟩
theorem sw_trueD {kx vx : Expr} {gs : List Comprehension} {scope : Scope} {pos py : Pos} {y : Str} {l : Nat} {env : Env} (hk : env.scope.kind = .function) (hy : env.scope.names.lookup y = some .local) (hl : (py.line == pos.line) = true)
    (hn : (scope.names.any fun (n, k) => n == y && (k == .local || k == .cell)) = false) : swapsWith (.DictComp kx vx gs scope pos) (some (.Name y py)) l env = pure true := by
  have ky : env.kindOf y = some .local := hy
  have hb : env.blockKind = .function := by unfold Env.blockKind; rw [hk]; rfl
  unfold swapsWith; simp only [hb, ky, hn, Expr.pos, hl]; rfl
end
/-- over a list that stays -/
theorem dc_list {K : PySem.W.Frag} {a : Addr} {xs : List V} {g : TG} {tt : TT} {tk tv : TE} {vs : List Nat} {σ : L2.St} {H1 : Hp} {D : Addr} {Qd : Hp → Prop} (Pv : Nat → Hp → Prop) (h0 : Pv 0 (upd H1 D (.dK []))) (hl : ∀ i H, i ≤ xs.length → Pv i H → SqL K H a xs)
    (hs : ∀ i x H, xs[i]? = some x → Pv i H → g x (wipe σ vs) H fun σ2 H2 => wipe σ2 vs = wipe σ vs ∧ tt σ2 H2 fun b H3 => if b = true then tk σ2 H3 fun y H4 => tv σ2 H4 fun z H5 => ∃ kvs k, y = kV k ∧ H5 D = some (.dK kvs) ∧ kvs.length < sizeLine ∧ Pv (i + 1) (upd H5 D (.dK (putK kvs k z))) else Pv (i + 1) H3)
    (hd : ∀ H, Pv xs.length H → Qd H) :
    ∃ W : Nat → Nat → Hp → Prop, (∃ m, W 0 m (upd H1 D (.dK []))) ∧ ∀ i m H, W i m H → ((Itl K a).stop i H ∧ Qd H) ∨ ((Itl K a).go i H ∧ ∃ Nx : Hp → Prop, (∀ H', Nx H' → ∃ m', m' < m ∧ W (i + 1) m' H') ∧ ∀ x H', (Itl K a).yld i H x H' → g x (wipe σ vs) H' fun σ2 H2 => wipe σ2 vs = wipe σ vs ∧ tt σ2 H2 fun b H3 =>
        if b = true then tk σ2 H3 fun y H4 => tv σ2 H4 fun z H5 => ∃ kvs k, y = kV k ∧ H5 D = some (.dK kvs) ∧ kvs.length < sizeLine ∧ Nx (upd H5 D (.dK (putK kvs k z))) else Nx H3) := by
  refine ⟨fun i m H => m = xs.length - i ∧ i ≤ xs.length ∧ Pv i H, ⟨xs.length, by simp, Nat.zero_le _, h0⟩, ?_⟩
  rintro i m H ⟨rfl, hi, p⟩
  by_cases hlt : i < xs.length
  · refine .inr ⟨⟨xs, xs[i], hl i H hi p, by simp [hlt]⟩, Pv (i + 1), fun H' p' => ⟨xs.length - (i + 1), by omega, rfl, hlt, p'⟩, fun x H' y => ?_⟩
    obtain ⟨rfl, y⟩ := y
    exact hs i x _ (y xs (hl i _ hi p)) p
  · obtain rfl : i = xs.length := by omega
    exact .inl ⟨⟨xs, hl _ H hi p, Nat.le_refl _⟩, hd H p⟩
end Sh
set_option Elab.async false
set_option linter.all false
set_option maxRecDepth 100000
set_option maxHeartbeats 4000000
namespace Sh
open PySem PySem.Spec PyProof.Rows L2
theorem ht_line {o : Expr} {m : Str} {apos pos : Pos} {es : List Expr} {env : Env} (hb : attributeBase o m env (eval o env) = eval o env) (hf : methodCallForm (es.length + ([] : List Keyword).length) (backTo pos (starEach es env)) (backToKw pos (keywordEach [] env)) = true) (hl : (apos.endLine == pos.line) = true) :
    eval (.Call (.Attribute o m apos) es [] pos) env = (do
      let ov ← eval o env
      standAt apos.atName
      let (f, first) ← holding [ov] (getMethod ov m (plainOf o env))
      callWith pos f first (backTo pos (starEach es env)) (backToKw pos (keywordEach [] env))) := by
  have e : ∀ ov, methodCall o m apos pos env ov (es.length + ([] : List Keyword).length) (backTo pos (starEach es env)) (backToKw pos (keywordEach [] env)) = (do
      let (f, first) ← holding [ov] (getMethod ov m (plainOf o env))
      callWith pos f first (backTo pos (starEach es env)) (backToKw pos (keywordEach [] env))) := fun ov => mcall_line hf hl
  have e0 : eval (.Call (.Attribute o m apos) es [] pos) env = (attributeBase o m env (eval o env) >>= fun ov => standAt apos.atName >>= fun _ => methodCall o m apos pos env ov (es.length + ([] : List Keyword).length) (backTo pos (starEach es env)) (backToKw pos (keywordEach [] env))) := by
    first
      | rfl
      | (rw [eval])
      | (unfold eval; rfl)
  rw [e0, hb]
  simp only [e]
end Sh
set_option Elab.async false
set_option linter.all false
set_option maxRecDepth 100000
set_option maxHeartbeats 4000000
namespace Sh
open PySem PySem.Spec PyProof.Rows L2
/-- an expression with two readings: either may be taken -/
def tAlt (t u : TE) : TE := fun σ H Q => t σ H Q ∨ u σ H Q
theorem pe_alt {X : Cx} {e : Expr} {t u : TE} (h : PE X e t) (k : PE X e u) : PE X e (tAlt t u) :=
  ⟨fun pins s σ H Q I q => q.elim (h.run pins s σ H Q I) (k.run pins s σ H Q I)⟩
/-- two promises of one def -/
theorem fn_alt {P : Program} {w : World} {K : PySem.W.Frag} {mg : Str → Option Value} {base : Heap} {CX : CXT} {k : Nat} {f : Addr} {fd : FuncData} {ps : List Str} {sp sp' : Sp}
    (F : FnOk P w K mg base CX k f fd ps sp) (F' : FnOk P w K mg base CX k f fd ps sp') : FnOk P w K mg base CX k f fd ps (fun vs H Q E => sp vs H Q E ∨ sp' vs H Q E) :=
  ⟨fun vs H Q E h => h.elim (F.len vs H Q E) (F'.len vs H Q E),
   fun A outer s H args us vs Q E hr e0 hb hv h => h.elim (F.run A outer s H args us vs Q E hr e0 hb hv) (F'.run A outer s H args us vs Q E hr e0 hb hv)⟩
end Sh
set_option Elab.async false
set_option linter.all false
set_option maxRecDepth 100000
set_option maxHeartbeats 4000000
namespace Sh
open PySem PySem.Spec PyProof.Rows L2
/-- the same values: flat ones, or the same objects -/
def plainV : V → Bool
  | .ref _ => true
  | x => flatB x
theorem eqAt_plain {A : Around} {s : Shared} {x : V} {u v : Value} (f : plainV x = true) (r1 : RelV x u) (r2 : RelV x v) : SeqAt.EqAt A s u v true := by
  cases x with
  | ref a =>
    cases (show u = Value.ref a from r1)
    cases (show v = Value.ref a from r2)
    exact SeqAt.EqAt.same _
  | _ => exact eqAt_same r1 r2 f
/-- (a, ..) == (a, ..), item for item the same -/
def rSameT (K : PySem.W.Frag) (b : Bool) : R2 := fun x y H Q => ∃ p q xs, x = .ref p ∧ y = .ref q ∧ SqT K H p xs ∧ SqT K H q xs ∧ xs.all plainV = true ∧ Q (.bl b) H
section
variable {X : Cx}
theorem items_same {A : Around} {s : Shared} {xs : List V} {us ws : List Value} (f : xs.all plainV = true) (r1 : Vals xs us) (r2 : Vals xs ws) : ∀ j (h1 : j < us.toArray.size) (h2 : j < ws.toArray.size), SeqAt.EqAt A s us.toArray[j] ws.toArray[j] ((fun _ => true) j) := by
  intro j h1 h2
  have h1' : j < us.length := by simpa using h1
  have h2' : j < ws.length := by simpa using h2
  have k : j < xs.length := by rw [r1.length]; exact h1'
  obtain ⟨u, hu, ru⟩ := r1.get (List.getElem?_eq_getElem k)
  obtain ⟨v, hv, rv⟩ := r2.get (List.getElem?_eq_getElem k)
  rw [List.getElem?_eq_getElem h1'] at hu
  rw [List.getElem?_eq_getElem h2'] at hv
  have e1 : us.toArray[j] = u := by rw [← Option.some.inj hu]; simp
  have e2 : ws.toArray[j] = v := by rw [← Option.some.inj hv]; simp
  rw [e1, e2]
  exact eqAt_plain (List.all_eq_true.mp f _ (List.getElem_mem k)) ru rv
theorem op_neSameT (hu : X.A.units < cLine) : OpR X (compareOp .NotEq) (rSameT X.K false) := by
  intro pins s σ H x y v u Q I rx ry h
  obtain ⟨p, q, xs, rfl, rfl, hp, hq, f, z⟩ := h
  cases rx
  cases ry
  obtain ⟨its, r, e, _⟩ := I.tuple hp
  obtain ⟨its2, r2, e2, _⟩ := I.tuple hq
  have key := SeqAt.RcNeAt.tuples (A := X.A) e e2 hu (items_same f r r2)
  have hl : its.toArray.size = its2.toArray.size := by rw [List.size_toArray, List.size_toArray, ← r.length, ← r2.length]
  have e3 : (!((List.range (min its.toArray.size its2.toArray.size)).all (fun _ => true) && its.toArray.size == its2.toArray.size)) = false := by
    rw [show ((List.range (min its.toArray.size its2.toArray.size)).all fun _ => true) = true from List.all_eq_true.mpr fun _ _ => rfl, hl]
    simp
  rw [e3] at key
  exact key X.prog X.w X.xe _ ⟨.bl false, H, I, rfl, z⟩
theorem op_eqSameT (hu : X.A.units < cLine) : OpR X (compareOp .Eq) (rSameT X.K true) := by
  intro pins s σ H x y v u Q I rx ry h
  obtain ⟨p, q, xs, rfl, rfl, hp, hq, f, z⟩ := h
  cases rx
  cases ry
  obtain ⟨its, r, e, _⟩ := I.tuple hp
  obtain ⟨its2, r2, e2, _⟩ := I.tuple hq
  have key := SeqAt.RcAt.tuples (A := X.A) e e2 hu (items_same f r r2)
  have hl : its.toArray.size = its2.toArray.size := by rw [List.size_toArray, List.size_toArray, ← r.length, ← r2.length]
  have e3 : ((List.range (min its.toArray.size its2.toArray.size)).all (fun _ => true) && its.toArray.size == its2.toArray.size) = true := by
    rw [show ((List.range (min its.toArray.size its2.toArray.size)).all fun _ => true) = true from List.all_eq_true.mpr fun _ _ => rfl, hl]
    simp
  rw [e3] at key
  exact key X.prog X.w X.xe _ ⟨.bl true, H, I, rfl, z⟩
end
end Sh
set_option Elab.async false
set_option linter.all false
set_option maxRecDepth 100000
set_option maxHeartbeats 4000000
namespace Sh
open PySem PySem.Spec PySem.W PyProof.Rows L2 NdefX
theorem ec_of {K : Frag} {p : He.Defn} {x q : Str} {st : Stmt} {fd : FuncData} (F : Fun K x q st (He.fAd K p) fd) : fd.code = .ref (He.codeOf K p) := by
  obtain ⟨oc, od, kV, doc, pm, an, cdv, ct, osl, rfl, lk, hcd⟩ := F.ex
  obtain ⟨c, rfl⟩ := He.codeIn_ref hcd
  rw [He.codeOf_eq lk rfl]
/-! ### a head by facts: own exceptions, and tables of defs that make lambdas -/
/-- what classmethods hold -/
def recsG (g : Addr → Option Obj) (as : List Addr) : List Addr := as.flatMap fun a => match g a with
  | some ⟨.type t, _, .fields vs, _⟩ => if t = "classmethod" then vs.toList.filterMap (fun v => match v with | .ref b => some b | _ => none) else []
  | some ⟨.type t, _, .seq vs _, _⟩ => if t = "classmethod" then vs.toList.filterMap (fun v => match v with | .ref b => some b | _ => none) else []
  | _ => []
def asXT (g : Addr → Option Obj) (n : Nat) : List Addr :=
  let a1 := He.asD g n
  let a2 := He.growD g (a1 ++ recsG g a1)
  cStatics :: (a2 ++ cellsG g a2)
/-- a classmethod's def: held by its record -/
structure CD where
  cls : Str
  name : Str
  qual : Str
  st : Stmt
def CD.rcd (K : Frag) (d : CD) : Addr := He.ma K (He.ga K d.cls) d.name
def CD.fn (K : Frag) (d : CD) : Addr := match recIn K (d.rcd K) "classmethod" with
  | some (.ref g :: _) => g
  | _ => 0
def CD.val (d : CD) : XV := some (d.name, d.qual, defArgs d.st, .stmts (defBody d.st), defScope d.st, mainGlobals, [], .none, builtinsNs)
def CD.ok (K : Frag) (d : CD) : Bool := (match recIn K (d.rcd K) "classmethod" with
  | some (.ref _ :: _) => true
  | _ => false) && (fnIn K (d.fn K) && (keepIn K (.ref (d.fn K)) && (readsIn K (He.ga K d.cls) (.type "type") && (decide (specialIn K (.ref (He.ga K d.cls)) "__getattribute__" = some (some (.builtin "type.__getattribute__"))) && ((match findCls K (.ref (He.ga K d.cls)) (.type "type") d.name with
  | some (.get a b c e) => decide (a = .builtin "classmethod.__get__") && (decide (b = .ref (d.rcd K)) && (decide (c = .none) && decide (e = .ref (He.ga K d.cls))))
  | _ => false) && (match K.lookup (d.fn K) with
  | some ⟨_, _, .func fd, _⟩ => codeIn K fd.code d.qual
  | _ => false))))))
theorem CD.read {K : Frag} {d : CD} (h : d.ok K = true) : ClX.CRead K (He.ga K d.cls) (.type "type") := by
  obtain ⟨_, h⟩ := andB h
  obtain ⟨_, h⟩ := andB h
  obtain ⟨_, h⟩ := andB h
  obtain ⟨h1, h⟩ := andB h
  obtain ⟨h2, _⟩ := andB h
  exact ⟨h1, of_decide_eq_true h2⟩
theorem CD.met {K : Frag} {d : CD} (h : d.ok K = true) : ClX.CMet K (He.ga K d.cls) (.type "type") d.name (d.rcd K) (d.fn K) := by
  obtain ⟨h0, h⟩ := andB h
  obtain ⟨hf, h⟩ := andB h
  obtain ⟨_, h⟩ := andB h
  obtain ⟨_, h⟩ := andB h
  obtain ⟨_, h⟩ := andB h
  obtain ⟨h3, _⟩ := andB h
  refine ⟨?_, ?_, hf⟩
  · cases q : findCls K (.ref (He.ga K d.cls)) (.type "type") d.name with
    | none => rw [q] at h3; cases h3
    | some r =>
      rw [q] at h3
      cases r with
      | get a b c e =>
        obtain ⟨e1, h3⟩ := andB h3
        obtain ⟨e2, h3⟩ := andB h3
        obtain ⟨e3, e4⟩ := andB h3
        rw [of_decide_eq_true e1, of_decide_eq_true e2, of_decide_eq_true e3, of_decide_eq_true e4]
      | _ => cases h3
  · unfold CD.fn
    cases q : recIn K (d.rcd K) "classmethod" with
    | none => rw [q] at h0; cases h0
    | some l =>
      rw [q] at h0
      match l, h0 with
      | .ref g :: rest, _ => exact ⟨rest, rfl⟩
theorem CD.fun_ {K : Frag} {d : CD} (h : d.ok K = true) (e : xvOf K (d.fn K) = d.val) : ∃ fd, Fun K d.name d.qual d.st (d.fn K) fd := by
  obtain ⟨_, h⟩ := andB h
  obtain ⟨_, h⟩ := andB h
  obtain ⟨hk, h⟩ := andB h
  obtain ⟨_, h⟩ := andB h
  obtain ⟨_, h⟩ := andB h
  obtain ⟨_, h4⟩ := andB h
  unfold xvOf at e
  cases q : K.lookup (d.fn K) with
  | none => rw [q] at h4; cases h4
  | some o =>
    obtain ⟨oc, od, dt, osl⟩ := o
    rw [q] at h4 e
    cases dt with
    | func fd =>
      obtain ⟨n1, n2, n3, n4, n5, n6, n7, n8, n9, n10, n11, n12, n13, n14, n15⟩ := fd
      have e2 : (some (n1, n2, n3, n4, n5, n6, n7.map (·.1), n8, n15) : XV) = (some (d.name, d.qual, defArgs d.st, .stmts (defBody d.st), defScope d.st, mainGlobals, [], .none, builtinsNs) : XV) := e
      simp only [Option.some.injEq, Prod.mk.injEq] at e2
      obtain ⟨h1, h2, h3, h4', h5, h6, h7, h8, h9⟩ := e2
      cases n7 with
      | cons p r => cases h7
      | nil =>
        subst h1 h2 h3 h4' h5 h6 h8 h9
        exact ⟨_, ⟨_, _, _, _, _, _, _, _, _, rfl, q, h4⟩, hk⟩
    | _ => cases h4
abbrev AlXT : Type := AlX × Bool × List XV
structure SaysXT (fa : List He.Fa) (fn : List He.DefD) (ex : List (Frag → Bool)) (xs : List XD) (tf : List He.Defn) (cm : List CD) (h : Heap) (K : Frag) : Prop where
  s : SaysX fa fn ex xs K
  hd : ∀ p ∈ tf, codeHdIn K (He.cT K p).1 (He.cT K p).2 = true
  out : ∀ p ∈ tf, K.lookup (He.cT K p).2 = none
  empty : ∀ p ∈ tf, h.get? (He.cT K p).2 = some { cls := .none, data := .fields #[] }
  cmo : ∀ (i : Nat) {d : CD}, cm[i]? = some d → d.ok K = true
  cmv : ∀ (i : Nat) {d : CD}, cm[i]? = some d → xvOf K (d.fn K) = d.val
def obsXT (fa : List He.Fa) (fn : List He.DefD) (ex : List (Frag → Bool)) (xs : List XD) (tf : List He.Defn) (cm : List CD) (n : Nat) (g : Addr → Option Obj) : AlXT :=
  (obsX fa fn ex xs (He.frT g (asXT g n)), He.tabsB g tf (He.frT g (asXT g n)) && cm.all (fun d => d.ok (He.frT g (asXT g n))), cm.map fun d => xvOf (He.frT g (asXT g n)) (d.fn (He.frT g (asXT g n))))
def valXT (fn : List He.DefD) (xs : List XD) (cm : List CD) : AlXT := (valX fn xs, true, cm.map CD.val)
theorem saysXT_of {n : Nat} {fa : List He.Fa} {fn : List He.DefD} {ex : List (Frag → Bool)} {xs : List XD} {tf : List He.Defn} {cm : List CD} {h : Heap} (e : obsXT fa fn ex xs tf cm n h.get? = valXT fn xs cm) : SaysXT fa fn ex xs tf cm h (He.frT h.get? (asXT h.get? n)) := by
  have e1 : obsX fa fn ex xs (He.frT h.get? (asXT h.get? n)) = valX fn xs := congrArg (fun z : AlXT => z.1) e
  have e0 : (He.tabsB h.get? tf (He.frT h.get? (asXT h.get? n)) && cm.all (fun d => d.ok (He.frT h.get? (asXT h.get? n)))) = true := congrArg (fun z : AlXT => z.2.1) e
  have e3 : cm.map (fun d => xvOf (He.frT h.get? (asXT h.get? n)) (d.fn (He.frT h.get? (asXT h.get? n)))) = cm.map CD.val := congrArg (fun z : AlXT => z.2.2) e
  obtain ⟨e2, e4⟩ := andB e0
  have key : ∀ p ∈ tf, codeHdIn (He.frT h.get? (asXT h.get? n)) (He.cT (He.frT h.get? (asXT h.get? n)) p).1 (He.cT (He.frT h.get? (asXT h.get? n)) p).2 = true ∧ ∃ o, h.get? (He.cT (He.frT h.get? (asXT h.get? n)) p).2 = some o ∧ He.emptyTab o = true := fun p hp => by
    obtain ⟨h3, h4⟩ := andB (List.all_eq_true.mp e2 p hp)
    refine ⟨h3, ?_⟩
    cases q : h.get? (He.cT (He.frT h.get? (asXT h.get? n)) p).2 with
    | none =>
      rw [q] at h4
      cases h4
    | some o =>
      rw [q] at h4
      exact ⟨o, rfl, h4⟩
  refine ⟨says_of e1, fun p hp => (key p hp).1, fun p hp => ?_, fun p hp => ?_, fun i d hd => List.all_eq_true.mp e4 d (List.mem_of_getElem? hd), fun i d hd => ?_⟩
  · obtain ⟨_, o, q, z⟩ := key p hp
    exact He.frT_none q z
  · obtain ⟨_, o, q, z⟩ := key p hp
    rw [q, He.emptyTab_eq z]
  · have e5 : (cm.map fun d => xvOf (He.frT h.get? (asXT h.get? n)) (d.fn (He.frT h.get? (asXT h.get? n))))[i]? = (cm.map CD.val)[i]? := by rw [e3]
    rw [List.getElem?_map, List.getElem?_map, hd] at e5
    exact Option.some.inj e5
def hookXT (n : Nat) (fa : List He.Fa) (fn : List He.DefD) (ex : List (Frag → Bool)) (xs : List XD) (tf : List He.Defn) (cm : List CD) : PySem.W.Hook where
  α := AlXT
  obs := fun s => obsXT fa fn ex xs tf cm n s.heap.get?
  val := fun _ => valXT fn xs cm
  says := fun _ h => ∃ K : Frag, K.In h ∧ SaysXT fa fn ex xs tf cm h K
  of := fun _ _ e => ⟨_, He.frT_in, saysXT_of e⟩
  keeps := fun _ _ _ ⟨K, hK, c⟩ k => ⟨K, Frag.In.keeps hK k, ⟨c.s, c.hd, c.out, fun p hp => k _ _ (c.empty p hp), c.cmo, c.cmv⟩⟩
theorem obsXT_eq {n : Nat} {fa : List He.Fa} {fn : List He.DefD} {ex : List (Frag → Bool)} {xs : List XD} {tf : List He.Defn} {cm : List CD} {g : Addr → Option Obj} {s : Shared} (h : ∀ a, g a = s.heap.get? a) : obsXT fa fn ex xs tf cm n g = (hookXT n fa fn ex xs tf cm).obs s := by
  have e : g = s.heap.get? := funext h
  rw [e] <;> rfl
end Sh
set_option Elab.async false
set_option linter.all false
set_option maxRecDepth 100000
set_option maxHeartbeats 4000000
namespace Sh
open PySem PySem.Spec PyProof.Rows L2
/-! ### list comprehensions of any number of clauses -/
/-- what a clause asks: its source, its target, its tests, the slots of its own and all later targets -/
structure ClR where
  wi : TI
  g : TG
  tt : TT
  vs : List Nat
/-- the clauses that are left, inside; Nx is to be reached behind them -/
def tIn (D : Addr) (te : TE) : List ClR → L2.St → Hp → (Hp → Prop) → Prop
  | [], σ, H, Nx => te σ H fun y H1 => ∃ acc, H1 D = some (.lst acc) ∧ acc.length < sizeLine ∧ Nx (upd H1 D (.lst (acc ++ [y])))
  | c :: r, σ, H, Nx => c.wi σ H fun J H1 => ∃ W : Nat → Nat → Hp → Prop, (∃ m, W 0 m H1) ∧ ∀ i m H, W i m H →
      (J.stop i H ∧ Nx H) ∨ (J.go i H ∧ ∃ N : Hp → Prop, (∀ H', N H' → ∃ m', m' < m ∧ W (i + 1) m' H') ∧ ∀ x H', J.yld i H x H' → c.g x (wipe σ c.vs) H' fun σ2 H2 => wipe σ2 c.vs = wipe σ c.vs ∧ c.tt σ2 H2 fun b H3 => if b = true then tIn D te r σ2 H3 N else N H3)
/-- the whole: the new list stands at D -/
def tLcN (c : ClR) (r : List ClR) (te : TE) : TE := fun σ H Q => c.wi σ H fun J H1 => ∀ D, H1 D = none → ∃ W : Nat → Nat → Hp → Prop, (∃ m, W 0 m (upd H1 D (.lst []))) ∧ ∀ i m H, W i m H →
      (J.stop i H ∧ Q (.ref D) H) ∨ (J.go i H ∧ ∃ N : Hp → Prop, (∀ H', N H' → ∃ m', m' < m ∧ W (i + 1) m' H') ∧ ∀ x H', J.yld i H x H' → c.g x (wipe σ c.vs) H' fun σ2 H2 => wipe σ2 c.vs = wipe σ c.vs ∧ c.tt σ2 H2 fun b H3 => if b = true then tIn D te r σ2 H3 N else N H3)
/-- the clauses behind the first, in the block's context -/
inductive ClOk (B : Cx) : List Comprehension → List ClR → List Nat → Prop
  | nil {vs : List Nat} : ClOk B [] [] vs
  | cons {tg iter : Expr} {ifs : List Expr} {wi : TI} {g : TG} {tt : TT} {vs vs1 : List Nat} {gs : List Comprehension} {cs : List ClR} (hi : PI B tg iter wi) (hg : PG B tg g) (ht : PTs B ifs tt)
      (hs : ∀ x, foldedSetIterable iter B.env x = pure x) (hv : ∀ i ∈ vs1, i ∈ vs) (r : ClOk B gs cs vs1) : ClOk B (⟨tg, iter, ifs, 0⟩ :: gs) (⟨wi, g, tt, vs1⟩ :: cs) vs
section
variable {prog : Program} {w : World} {A : Around} {s : Shared} {elt : Expr} {gens : List Comprehension} {scope : Scope} {pos : Pos} {it acc : Value} {env : Env}
abbrev NB (prog : Program) (w : World) (A : Around) (env : Env) (R : Result → Shared → Prop) : Value → Shared → Prop := notedBy (model prog w) A env fun e s' => R (.error e) s'
/-- one turn of the loop of clause k: next, store, tests, then what is inside -/
theorem turn_last {k : Nat} {t i : Expr} {ifs : List Expr} {R : Result → Shared → Prop} {V : Fin → Shared → Prop} (h : gens[k]? = some ⟨t, i, ifs, 0⟩) (h' : gens[k + 1]? = none)
    (turn : wpAny (model prog w) A (pyNext it) (fun r s₁ => match r with
      | none => V (.done .next) s₁
      | some v => wpAny (model prog w) A (letOwnedTupleGo t it v) (fun _ s₂ => wpAny (model prog w) A (assign t env v) (fun _ s₃ =>
          wpAny (model prog w) A (forIn ifs true fun c r => if r = true then do let ok ← isTrue c env (eval c env); pure (ForInStep.yield ok) else pure (ForInStep.yield r)) (fun ok s₄ =>
            if ok = true then wpAny (model prog w) A (eval elt env) (fun x s₅ => wpAny (model prog w) A (call (.builtin "list.append") [acc, x]) (fun _ s₆ => V (.again (.compLoop (.ListComp elt gens scope pos) k it acc env)) s₆) (NB prog w A env R) s₅) (NB prog w A env R) s₄
            else V (.again (.compLoop (.ListComp elt gens scope pos) k it acc env)) s₄) (NB prog w A env R) s₃) (NB prog w A env R) s₂) (NB prog w A env R) s₁) (NB prog w A env R) s) :
    wpAny (model prog w) A (compTurn (.ListComp elt gens scope pos) k it acc env) V (NB prog w A env R) s := by
  unfold compTurn
  simp only [h, h']
  refine wpAny_bind (wpAny_standAt (wpAny_bind (wpAny_mono (show wpAny (model prog w) A (pyNext it) _ _ s from turn) (fun r s₁ h₁ => ?_) fun _ _ h' => h')))
  cases r with
  | none => exact wpAny_pure h₁
  | some v =>
    refine wpAny_bind (wpAny_mono h₁ (fun _ s₂ h₂ => ?_) fun _ _ h' => h')
    refine wpAny_bind (wpAny_mono h₂ (fun _ s₃ h₃ => wpAny_bind (wpAny_mono h₃ (fun ok s₄ h₄ => ?_) fun _ _ h' => h')) fun _ _ h' => h')
    cases ok with
    | false => exact wpAny_pure h₄
    | true =>
      exact wpAny_bind (wpAny_bind (wpAny_mono h₄ (fun x s₅ h₅ => wpAny_bind (wpAny_mono h₅ (fun _ s₆ h₆ => wpAny_pure (wpAny_pure h₆)) fun _ _ h' => h')) fun _ _ h' => h'))
theorem turn_more {k : Nat} {t i : Expr} {ifs : List Expr} {R : Result → Shared → Prop} {V : Fin → Shared → Prop} {t1 i1 : Expr} {ifs1 : List Expr} (h : gens[k]? = some ⟨t, i, ifs, 0⟩) (h' : gens[k + 1]? = some ⟨t1, i1, ifs1, 0⟩) (hs : ∀ x, foldedSetIterable i1 env x = pure x)
    (turn : wpAny (model prog w) A (pyNext it) (fun r s₁ => match r with
      | none => V (.done .next) s₁
      | some v => wpAny (model prog w) A (letOwnedTupleGo t it v) (fun _ s₂ => wpAny (model prog w) A (assign t env v) (fun _ s₃ =>
          wpAny (model prog w) A (forIn ifs true fun c r => if r = true then do let ok ← isTrue c env (eval c env); pure (ForInStep.yield ok) else pure (ForInStep.yield r)) (fun ok s₄ =>
            if ok = true then wpAny (model prog w) A (eval i1 env) (fun x s₅ => wpAny (model prog w) A (pyIter x) (fun it1 s₆ => codeAny (model prog w) A (.compStart (.ListComp elt gens scope pos) (k + 1) it1 acc env) (fun r s' => match r with | .ok _ => V (.again (.compLoop (.ListComp elt gens scope pos) k it acc env)) s' | .error _ => False) s₆) (NB prog w A env R) s₅) (NB prog w A env R) s₄
            else V (.again (.compLoop (.ListComp elt gens scope pos) k it acc env)) s₄) (NB prog w A env R) s₃) (NB prog w A env R) s₂) (NB prog w A env R) s₁) (NB prog w A env R) s) :
    wpAny (model prog w) A (compTurn (.ListComp elt gens scope pos) k it acc env) V (NB prog w A env R) s := by
  unfold compTurn
  simp only [h, h']
  refine wpAny_bind (wpAny_standAt (wpAny_bind (wpAny_mono (show wpAny (model prog w) A (pyNext it) _ _ s from turn) (fun r s₁ h₁ => ?_) fun _ _ h' => h')))
  cases r with
  | none => exact wpAny_pure h₁
  | some v =>
    refine wpAny_bind (wpAny_mono h₁ (fun _ s₂ h₂ => ?_) fun _ _ h' => h')
    refine wpAny_bind (wpAny_mono h₂ (fun _ s₃ h₃ => wpAny_bind (wpAny_mono h₃ (fun ok s₄ h₄ => ?_) fun _ _ h' => h')) fun _ _ h' => h')
    cases ok with
    | false => exact wpAny_pure h₄
    | true =>
      refine wpAny_bind (wpAny_mono h₄ (fun x s₅ h₅ => ?_) fun _ _ h' => h')
      refine wpAny_bind (wpAny_standAt (wpAny_bind (wpAny_of_eq (hs x) (wpAny_bind (wpAny_holding (wpAny_mono h₅ (fun it1 s₆ h₆ => ?_) fun _ _ h' => h'))))))
      refine wpAny_bind (wpAny_runOwn ?_)
      rw [Around.mark_none]
      refine codeAny_mono h₆ fun r s' hr => ?_
      cases r with
      | error e => exact hr.elim
      | ok f =>
        first
          | exact wpAny_pure hr
          | exact wpAny_bind (wpAny_pure (wpAny_pure hr))
/-- a later clause's start -/
theorem startN {k : Nat} {c : Comprehension} {R : Result → Shared → Prop} (h : gens[k]? = some c) (hc : c.is_async = 0) (h0 : codeAny (model prog w) A (.compLoop (.ListComp elt gens scope pos) k it acc env) R s)
    (h1 : wpAny (model prog w) A (pyIter it) (fun it' s' => codeAny (model prog w) A (.compLoop (.ListComp elt gens scope pos) k it' acc env) R s') (NB prog w A env R) s) :
    codeAny (model prog w) A (.compStart (.ListComp elt gens scope pos) k it acc env) R s := by
  refine codeAny_of_tree ?_
  show wpAny _ _ ((compStart (.ListComp elt gens scope pos) k it acc env).onRaise (fun x => do noteFrame x env; standAt theWindowsPlace)) _ _ s
  refine wpAny_notedAt ?_
  have hg : (clausesOf (.ListComp elt gens scope pos))[k]? = some c := h
  unfold compStart
  simp only [hg, Option.elim, hc]
  refine wpAny_bind (wpAny_askSetting (wpAny_ite ?_))
  split
  · first
      | exact wpAny_bind (wpAny_pure (wpAny_pure (And.intro rfl h0)))
      | exact wpAny_pure (And.intro rfl h0)
  · have h2 : wpAny (model prog w) A (pyIter it >>= fun x => again (.compLoop (.ListComp elt gens scope pos) k x acc env)) (fun fin s' => match fin with
        | .done f => R (.ok f) s'
        | .again c' => c'.quiet = true ∧ codeAny (model prog w) A c' R s') (NB prog w A env R) s :=
      wpAny_bind (wpAny_mono h1 (fun it' s' h' => wpAny_pure (And.intro rfl h')) fun _ _ x => x)
    first
      | exact wpAny_bind (wpAny_rule (wpAny_bind (wpAny_standAt h2)))
      | exact wpAny_bind (wpAny_rule (wpAny_bind (wpAny_bind (wpAny_standAt (wpAny_pure h2)))))
end
section
variable {B : Cx} {elt : Expr} {te : TE} {gens : List Comprehension} {scope : Scope} {pos : Pos} {D : Addr}
theorem drop_ix {α : Type} {xs ys : List α} {x : α} {k : Nat} (h : xs.drop k = x :: ys) : xs[k]? = some x ∧ xs.drop (k + 1) = ys := by
  refine ⟨?_, ?_⟩
  · have := List.getElem?_drop (xs := xs) (i := k) (j := 0)
    rw [h] at this
    simpa using this.symm
  · rw [← List.drop_drop, h]
    rfl
theorem drop_no {α : Type} {xs : List α} {k : Nat} (h : xs.drop k = []) : xs[k]? = none := by
  rw [List.getElem?_eq_none_iff]
  exact List.drop_eq_nil_iff.mp h
theorem thnX {α : Type} {t : Sem α} {Q Q' : α → Shared → Prop} {M : Model} {A : Around} {E E' : Value → Shared → Prop} {s : Shared} (hE : E = fun _ _ => False) (h : wpAny M A t Q E s) (hQ : ∀ a s, Q a s → Q' a s) : wpAny M A t Q' E' s := by
  subst hE
  exact thnF h hQ
/-- the loop of clause k -/
theorem levelN (hc : B.calm = true) (hx : B.xe = fun _ _ => False) (pe : PE B elt te) {gs : List Comprehension} {cs : List ClR} {vs : List Nat} (C : ClOk B gs cs vs) : ∀ {k : Nat} {tg iter : Expr} {ifs : List Expr} {g : TG} {tt : TT} {J : It} {fp : List Addr} {it : Addr} {tn : Nat → Heap → Prop}
    {pins : List (Addr × Obj)} {σ : L2.St} {H : Hp} {s : Shared} {W : Nat → Nat → Hp → Prop} {m0 : Nat} {R : Result → Shared → Prop} {Nx : Hp → Prop} (hk : gens.drop k = ⟨tg, iter, ifs, 0⟩ :: gs) (pg : PG B tg g) (pt : PTs B ifs tt) (T : Turn B.prog B.w B.K tg J fp it tn)
    (I : L2.Inv B pins (wipe σ vs) H s) (st : tn 0 s.heap) (fpok : ∀ {H' : Hp} {s' : Shared}, L2.Inv B pins (wipe σ vs) H' s' → (∀ b ∈ fp, H' b = none) → ∀ b ∈ fp, FpOk B pins H' b) (fn : ∀ b ∈ fp, H b = none) (w0 : W 0 m0 H)
    (turn : ∀ i m H, W i m H → (J.stop i H ∧ Nx H) ∨ (J.go i H ∧ ∃ N : Hp → Prop, (∀ H', N H' → ∃ m', m' < m ∧ W (i + 1) m' H') ∧ ∀ x H', J.yld i H x H' → g x (wipe σ vs) H' fun σ2 H2 => wipe σ2 vs = wipe σ vs ∧ tt σ2 H2 fun b H3 => if b = true then tIn D te cs σ2 H3 N else N H3))
    (fin : ∀ s' H', L2.Inv B pins (wipe σ vs) H' s' → Nx H' → R (.ok .next) s'), codeAny (model B.prog B.w) B.A (.compLoop (.ListComp elt gens scope pos) k (.ref it) (.ref D) B.env) R s := by
  induction C with
  | nil =>
    intro k tg iter ifs g tt J fp it tn pins σ H s W m0 R Nx hk pg pt T I st fpok fn w0 turn fin
    rename_i vs
    obtain ⟨h1, h2⟩ := drop_ix hk
    refine codeAny_loop rfl (fun n s' => ∃ i H', L2.Inv B pins (wipe σ vs) H' s' ∧ tn i s'.heap ∧ (∀ b ∈ fp, H' b = none) ∧ W i n H') (fun n s5 hI => ?_) m0 ⟨0, H, I, st, fn, w0⟩
    obtain ⟨i, H5, I5, st5, n5, w5⟩ := hI
    show wpAny _ B.A ((compTurn (.ListComp elt gens scope pos) k (.ref it) (.ref D) B.env).onRaise (fun x => do noteFrame x B.env; theTreesLotGoes x)) _ _ s5
    refine wpAny_noted (turn_last (R := R) h1 (drop_no h2) ?_)
    rcases turn i n H5 w5 with ⟨stop, qq⟩ | ⟨go, N, hN, step⟩
    · refine thnF (T.done B rfl rfl rfl hc i pins s5 _ H5 (fun _ _ => False) I5 (fpok I5 n5) st5 stop) fun r s6 ⟨hr, I6⟩ => ?_
      subst hr
      exact fin s6 H5 I6 qq
    · refine thnF (T.item B rfl rfl rfl hc i pins s5 _ H5 (fun _ _ => False) I5 (fpok I5 n5) st5 go) fun r s6 ⟨u, hr, h6⟩ => ?_
      subst hr
      refine thnF h6 fun _ s7 ⟨x, H7, I7, r7, y7, st7, n7⟩ => ?_
      have I7' := I7.pinned (fpok I7 n7) (T.obj _ _ st7)
      refine thnX hx (pg.run _ s7 _ H7 x u _ I7' r7 (step x H7 y7)) fun _ s8 ⟨σ8, H8, I8, hw8, q8⟩ => ?_
      refine thnX hx (pt.run _ s8 σ8 H8 _ I8 q8) fun b s9 ⟨H9, I9, q9⟩ => ?_
      have back : ∀ {s' : Shared} {H' : Hp}, L2.Inv B (pins ++ pinsAt fp s7.heap) σ8 H' s' → N H' → ∃ m, m < n ∧ ∃ i H', L2.Inv B pins (wipe σ vs) H' s' ∧ tn i s'.heap ∧ (∀ b ∈ fp, H' b = none) ∧ W i m H' := fun {s' H'} I' nx => by
        obtain ⟨m', hm, w'⟩ := hN H' nx
        have pin : ∀ b ∈ fp, ∀ o, s7.heap.get? b = some o → s'.heap.get? b = some o ∧ H' b = none := fun b hb o e =>
          let z := I'.pin (b, o) (List.mem_append_right _ (List.mem_append_right _ (mem_pinsAt hb e)))
          ⟨z.1, z.2.1⟩
        refine ⟨m', hm, i + 1, H', I'.unpinned.weak (by rw [← hw8, wipe_length]) (fun j v e => by rw [← hw8] at e; exact (wipe_some e).1), T.keep _ _ _ st7 fun b hb o e => (pin b hb o e).1, fun b hb => ?_, w'⟩
        obtain ⟨o, e, _⟩ := T.obj _ _ st7 b hb
        exact (pin b hb o e).2
      cases b with
      | false =>
        simp only [Bool.false_eq_true, if_false] at q9 ⊢
        exact ⟨by first | trivial | rfl, back I9 q9⟩
      | true =>
        simp only [if_true] at q9 ⊢
        refine thnX hx (pe.run _ s9 σ8 H9 _ I9 q9) fun z s10 ⟨yv, H10, I10, r10, acc, hD, hz, nx⟩ => ?_
        exact app_ok (X := B) I10 hD hz r10 fun s11 I11 => ⟨by first | trivial | rfl, back I11 nx⟩
  | @cons tg1 iter1 ifs1 wi1 g1 tt1 vs vs1 gs cs hi1 hg1 ht1 hs1 hv1 r1 ih =>
    intro k tg iter ifs g tt J fp it tn pins σ H s W m0 R Nx hk pg pt T I st fpok fn w0 turn fin
    obtain ⟨h1, h2⟩ := drop_ix hk
    obtain ⟨h3, _⟩ := drop_ix h2
    refine codeAny_loop rfl (fun n s' => ∃ i H', L2.Inv B pins (wipe σ vs) H' s' ∧ tn i s'.heap ∧ (∀ b ∈ fp, H' b = none) ∧ W i n H') (fun n s5 hI => ?_) m0 ⟨0, H, I, st, fn, w0⟩
    obtain ⟨i, H5, I5, st5, n5, w5⟩ := hI
    show wpAny _ B.A ((compTurn (.ListComp elt gens scope pos) k (.ref it) (.ref D) B.env).onRaise (fun x => do noteFrame x B.env; theTreesLotGoes x)) _ _ s5
    refine wpAny_noted (turn_more (R := R) h1 h3 hs1 ?_)
    rcases turn i n H5 w5 with ⟨stop, qq⟩ | ⟨go, N, hN, step⟩
    · refine thnF (T.done B rfl rfl rfl hc i pins s5 _ H5 (fun _ _ => False) I5 (fpok I5 n5) st5 stop) fun r s6 ⟨hr, I6⟩ => ?_
      subst hr
      exact fin s6 H5 I6 qq
    · refine thnF (T.item B rfl rfl rfl hc i pins s5 _ H5 (fun _ _ => False) I5 (fpok I5 n5) st5 go) fun r s6 ⟨u, hr, h6⟩ => ?_
      subst hr
      refine thnF h6 fun _ s7 ⟨x, H7, I7, r7, y7, st7, n7⟩ => ?_
      have I7' := I7.pinned (fpok I7 n7) (T.obj _ _ st7)
      refine thnX hx (pg.run _ s7 _ H7 x u _ I7' r7 (step x H7 y7)) fun _ s8 ⟨σ8, H8, I8, hw8, q8⟩ => ?_
      refine thnX hx (pt.run _ s8 σ8 H8 _ I8 q8) fun b s9 ⟨H9, I9, q9⟩ => ?_
      have hl8 : (wipe σ vs).length = σ8.length := by rw [← hw8, wipe_length]
      have back : ∀ {σ9 : L2.St} {s' : Shared} {H' : Hp}, L2.Inv B (pins ++ pinsAt fp s7.heap) σ9 H' s' → σ8.length = σ9.length → (∀ (j : Nat) v, (wipe σ vs)[j]? = some (some v) → σ9[j]? = some (some v)) → N H' →
          ∃ m, m < n ∧ ∃ i H', L2.Inv B pins (wipe σ vs) H' s' ∧ tn i s'.heap ∧ (∀ b ∈ fp, H' b = none) ∧ W i m H' := fun {σ9 s' H'} I' hl hkp nx => by
        obtain ⟨m', hm, w'⟩ := hN H' nx
        have pin : ∀ b ∈ fp, ∀ o, s7.heap.get? b = some o → s'.heap.get? b = some o ∧ H' b = none := fun b hb o e =>
          let z := I'.pin (b, o) (List.mem_append_right _ (List.mem_append_right _ (mem_pinsAt hb e)))
          ⟨z.1, z.2.1⟩
        refine ⟨m', hm, i + 1, H', I'.unpinned.weak (hl8.trans hl) hkp, T.keep _ _ _ st7 fun b hb o e => (pin b hb o e).1, fun b hb => ?_, w'⟩
        obtain ⟨o, e, _⟩ := T.obj _ _ st7 b hb
        exact (pin b hb o e).2
      have k8 : ∀ (j : Nat) v, (wipe σ vs)[j]? = some (some v) → σ8[j]? = some (some v) := fun j v e => by
        rw [← hw8] at e
        exact (wipe_some e).1
      have k9 : ∀ (j : Nat) v, (wipe σ vs)[j]? = some (some v) → (wipe σ8 vs1)[j]? = some (some v) := fun j v e => by
        rw [← hw8] at e
        obtain ⟨e1, e2⟩ := wipe_some e
        rw [wipe_out fun z => e2 (hv1 j z)]
        exact e1
      cases b with
      | false =>
        simp only [Bool.false_eq_true, if_false] at q9 ⊢
        exact ⟨by first | trivial | rfl, back I9 rfl k8 q9⟩
      | true =>
        simp only [if_true] at q9 ⊢
        refine thnX hx (hi1.run _ s9 σ8 H9 _ I9 q9) fun xv s10 hx0 => thnX hx hx0 fun itv s11 h11 => ?_
        obtain ⟨it1, fp1, tn1, J1, H11, e1, I11, T1, st11, f11, W1, ⟨m1, w1⟩, turn1⟩ := h11
        subst e1
        have lp : codeAny (model B.prog B.w) B.A (.compLoop (.ListComp elt gens scope pos) (k + 1) (.ref it1) (.ref D) B.env) (fun r s' => match r with
            | .ok _ => ∃ m, m < n ∧ ∃ i H', L2.Inv B pins (wipe σ vs) H' s' ∧ tn i s'.heap ∧ (∀ b ∈ fp, H' b = none) ∧ W i m H'
            | .error _ => False) s11 :=
          ih h2 hg1 ht1 T1 (I11.weak (wipe_length _ _) fun j v e => (wipe_some e).1) st11 (fun {H' s'} I' hn b hb => ⟨hn b hb, (f11 b hb).2⟩) (fun b hb => (f11 b hb).1) w1 turn1 fun s' H' I' nx => back I' (wipe_length σ8 vs1).symm k9 nx
        exact codeAny_mono (startN h3 rfl lp (T1.self B.A 0 _ _ _ st11 lp)) fun r s' hr => by
          cases r with
          | ok f => exact ⟨by first | trivial | rfl, hr⟩
          | error e => exact hr.elim
end
section
variable {X : Cx} {elt tg iter : Expr} {ifs : List Expr} {gs : List Comprehension} {cs : List ClR} {scope : Scope} {own : List (Str × Nat)} {pos : Pos} {wi : TI} {g : TG} {tt : TT} {te : TE}
abbrev blkC (X : Cx) (scope : Scope) (s : Shared) (H : Hp) (C : Addr) (cl : List (Str × Addr)) (fp : List Addr) : Cx := X.blk s H scope (compEnvC scope cl C X.env) fp
theorem lcN_core {pins : List (Addr × Obj)} {s : Shared} {σ : L2.St} {H : Hp} {Q : VK} {pos' : Pos} {use : Option (Value → Sem Unit)} {Qf : Value → Shared → Prop}
    (hc : X.calm = true) (hN : X.N.Nodup) (I : L2.Inv X pins σ H s) (hi : PI X tg iter wi) (ok : BlkOk X.N X.env.scope scope own)
    (hg : ∀ s H C cl fp, PG (blkC X scope s H C cl fp) tg g) (ht : ∀ s H C cl fp, PTs (blkC X scope s H C cl fp) ifs tt) (hC : ∀ s H C cl fp, ClOk (blkC X scope s H C cl fp) gs cs (own.map (·.2))) (he : ∀ s H C cl fp, PE (blkC X scope s H C cl fp) elt te)
    (hs : ∀ x, foldedSetIterable iter X.env x = pure x) (h : tLcN ⟨wi, g, tt, own.map (·.2)⟩ cs te σ H Q)
    (hRR : ∀ D C s' m H', L2.Inv X pins σ H' s' → Q (.ref D) H' → s'.heap.Ns C m → FpOk X pins H' C → compPost (model X.prog X.w) X.A X.xe use Qf (.ref D) C (.ok .next) s') :
    wpAny (model X.prog X.w) X.A (comprehension (.ListComp elt (⟨tg, iter, ifs, 0⟩ :: gs) scope pos) scope X.env pos' (newList []) false (eval iter X.env) use) Qf X.xe s := by
  have fr : ∀ y ∈ scope.names, y.2 = .free → ∃ c, X.env.cells.lookup y.1 = some c := fun y hy e => (ok.free y hy e).elim (fun k => I.ok.has _ (.inl k)) fun k => I.ok.has _ (.inr k)
  refine wpAny_comprehension_free (use := use) rfl hs (closure_ok fr) ok.kind (fun y hy e => by rw [ok.uniq y hy, e]) (thn (hi.run pins s σ H _ I h) fun xv s1 hx => thn hx fun itv s2 ⟨it, fp, tn, J, H2, e, I2, T, st2, f2, q⟩ => ?_)
  subst e
  refine wpAny_newObj_type (newEnv_comp ?_) (by show 0 ≤ sizeLine; decide)
  have hDn : H2 s2.heap.objs.size = none := I2.hok.fresh (Nat.le_refl _)
  obtain ⟨W, ⟨m0, w0⟩, turn⟩ := q _ hDn
  -- behind the making of the list
  generalize hs3 : ({ s2 with heap := s2.heap.push { cls := .type "list", data := .seq ([] : List Value).toArray } } : Shared) = s3
  have h3 : s3.heap = s2.heap.push { cls := .type "list", data := .seq ([] : List Value).toArray } := by rw [← hs3]
  have I3 : L2.Inv X pins σ (upd H2 s2.heap.objs.size (.lst [])) s3 := by
    rw [← hs3]
    exact I2.laid (t' := s2.toks) (fun b o e => Heap.get?_push_of_some _ e) (Nat.le_refl _) ⟨Nat.zero_le _, [], 0, .nil, Heap.get?_push_size _ rfl⟩
  have lt2 : ∀ b ∈ fp, b < s2.heap.objs.size := fun b hb => let ⟨o, e, _⟩ := T.obj _ _ st2 b hb; Heap.lt_size e
  have f3 : ∀ b ∈ fp, FpOk X pins (upd H2 s2.heap.objs.size (.lst [])) b ∧ b < s3.heap.objs.size := fun b hb => by
    refine ⟨⟨?_, (f2 b hb).2⟩, by rw [h3, Heap.size_push]; exact Nat.lt_succ_of_lt (lt2 b hb)⟩
    rw [upd_ne (Nat.ne_of_lt (lt2 b hb))]
    exact (f2 b hb).1
  have st3 : tn 0 s3.heap := T.keep _ _ _ st2 fun b _ o e => by rw [h3]; exact Heap.get?_push_of_some _ e
  have I4 := block_start I3 ok hN f3
  generalize hcl : cellsFrom (s3.heap.objs.size + 1) scope.names (cloFrom X.env.cells scope.names []) = cl at I4
  generalize hH3 : upd H2 s2.heap.objs.size (.lst []) = H3 at I3 I4 w0 f3
  have st4 : tn 0 (pushCells (s3.heap.push { cls := .type "dict", data := .dict #[] }) scope.names) := T.keep _ _ _ st3 fun b _ o e => pushCells_keeps _ _ _ _ (Heap.get?_push_of_some _ e)
  show codeAny _ _ (.compStart (.ListComp elt (⟨tg, iter, ifs, 0⟩ :: gs) scope pos) 0 (.ref it) (.ref s2.heap.objs.size) (compEnvC scope cl s3.heap.objs.size X.env)) (compPost (model X.prog X.w) X.A X.xe use Qf (.ref s2.heap.objs.size) s3.heap.objs.size) { s3 with heap := pushCells (s3.heap.push { cls := .type "dict", data := .dict #[] }) scope.names }
  have loop := levelN (B := blkC X scope s3 H3 s3.heap.objs.size cl fp) (gens := ⟨tg, iter, ifs, 0⟩ :: gs) (scope := scope) (pos := pos) (D := s2.heap.objs.size) (k := 0) (R := compPost (model X.prog X.w) X.A X.xe use Qf (.ref s2.heap.objs.size) s3.heap.objs.size) (Nx := fun H' => Q (.ref s2.heap.objs.size) H') hc rfl (he s3 H3 s3.heap.objs.size cl fp) (hC s3 H3 s3.heap.objs.size cl fp) rfl
    (hg s3 H3 s3.heap.objs.size cl fp) (ht s3 H3 s3.heap.objs.size cl fp) T I4 st4 (fun {H' s'} I' hn b hb => ⟨hn b hb, (I'.ok.exf b hb).1, I'.ok.exfs b hb, .inl hb, fun x c e => (I'.ok.exf b hb).2 x c e, fun p hp => absurd (show p ∈ ([] : List (Addr × Obj)) ++ [] from hp) (by simp)⟩)
    (fun b hb => (f3 b hb).1.1) w0 turn fun s' H' I' qq => ?_
  · exact codeAny_compStart_list loop (T.self X.A 0 _ _ _ st4 loop)
  · have J7 : L2.Inv X pins σ H' s' := I3.call' (ch := fp) I'.os I'.base I'.hok I'.bare fun b hb => ⟨(f3 b hb).1.2.2.2.1, (f3 b hb).1.2.1, (f3 b hb).1.2.2.2.2.1, (f3 b hb).1.2.2.2.2.2⟩
    obtain ⟨m, hn, _⟩ := I'.loc
    exact hRR _ _ s' m H' J7 qq (show s'.heap.Ns s3.heap.objs.size m from hn) (I3.fpOk (Nat.le_refl _) (show H' s3.heap.objs.size = none from I'.free))
/-- as a value -/
theorem pe_lcN (hc : X.calm = true) (hN : X.N.Nodup) (hi : PI X tg iter wi) (ok : BlkOk X.N X.env.scope scope own)
    (hg : ∀ s H C cl fp, PG (blkC X scope s H C cl fp) tg g) (ht : ∀ s H C cl fp, PTs (blkC X scope s H C cl fp) ifs tt) (hC : ∀ s H C cl fp, ClOk (blkC X scope s H C cl fp) gs cs (own.map (·.2))) (he : ∀ s H C cl fp, PE (blkC X scope s H C cl fp) elt te)
    (hs : ∀ x, foldedSetIterable iter X.env x = pure x := by intro _; rfl) : PE X (.ListComp elt (⟨tg, iter, ifs, 0⟩ :: gs) scope pos) (tLcN ⟨wi, g, tt, own.map (·.2)⟩ cs te) := by
  refine ⟨fun pins s σ H Q I h => ?_⟩
  rw [eval_ListComp]
  refine lcN_core hc hN I hi ok hg ht hC he hs h fun D C s' m H' I' q hn f => ⟨m, hn, fun h'' sb => ?_⟩
  exact ⟨.ref D, H', I'.turned (t' := s'.toks) (fun b o hb e => (sb.2 b hb).trans e) f.1 f.2.1 f.2.2.2.1 f.2.2.2.2.1 f.2.2.2.2.2, rfl, q⟩
/-- stored in a name -/
theorem ps_setLcN {i : Nat} {y : Str} {py spos : Pos} (hc : X.calm = true) (hN : X.N.Nodup) (hy : X.N[i]? = some y) (hyl : X.env.scope.names.lookup y = some .local) (hsw : swapsWith (.ListComp elt (⟨tg, iter, ifs, 0⟩ :: gs) scope pos) (some (.Name y py)) spos.line X.env = pure true)
    (hi : PI X tg iter wi) (ok : BlkOk X.N X.env.scope scope own)
    (hg : ∀ s H C cl fp, PG (blkC X scope s H C cl fp) tg g) (ht : ∀ s H C cl fp, PTs (blkC X scope s H C cl fp) ifs tt) (hC : ∀ s H C cl fp, ClOk (blkC X scope s H C cl fp) gs cs (own.map (·.2))) (he : ∀ s H C cl fp, PE (blkC X scope s H C cl fp) elt te)
    (hs : ∀ x, foldedSetIterable iter X.env x = pure x := by intro _; rfl) : PS X (.Assign [.Name y py] (.ListComp elt (⟨tg, iter, ifs, 0⟩ :: gs) scope pos) spos) (tAsg (tLcN ⟨wi, g, tt, own.map (·.2)⟩ cs te) (gName i)) := by
  refine ⟨fun pins s σ H D I h => ?_⟩
  rw [exec_Assign_Name_used _ _ _ _ hsw]
  refine wpAny_bind (wpAny_standAt (wpAny_bind ?_))
  have h' : tLcN ⟨wi, g, tt, own.map (·.2)⟩ cs te σ H (fun x H1 => gName i x σ H1 D.nx) := h
  refine wpAny_bind (thn (lcN_core (Qf := fun _ s' => SP X pins D .next s') (use := some (assign (.Name y py) X.env)) hc hN I hi ok hg ht hC he hs h' fun L C s' m H' I' q hn f => ?_) fun _ s' hq => wpAny_pure (wpAny_pure hq))
  show wpAny _ _ (assign (.Name y py) X.env (.ref L)) _ _ _
  obtain ⟨f0, f1, f2, f3, f4, f5⟩ := f
  refine wpAny_assign_Name (store_ok2 (v := V.ref L) I' hN hy (.inl hyl) rfl (fun s2 I2 ⟨a, sb, ha⟩ => ?_) (.inr hyl))
  have ne : C ≠ a := by
    rcases ha with z | z
    · rw [z]; exact f1
    · exact fun e => f4 y a z e.symm
  exact ⟨m, hn.sameBut sb ne, fun h3 sb3 => ⟨_, H', I2.turned (t' := s2.toks) (fun b o hb e => (sb3.2 b hb).trans e) f0 f1 f3 f4 f5, q⟩⟩
end
end Sh
set_option Elab.async false
set_option linter.all false
set_option maxRecDepth 100000
set_option maxHeartbeats 4000000
namespace Sh
open PySem PySem.Spec PyProof.Rows L2
/-! ### try: .. except X as e: .. except Y as e: .. (the same name e, slot i) -/
/-- behind a suite: the name is gone -/
def gone (i : Nat) (D : Ends) : Ends := { nx := fun σ' H' => D.nx (σ'.set i none) H', rt := D.rt, bk := fun σ' H' => D.bk (σ'.set i none) H', ct := fun σ' H' => D.ct (σ'.set i none) H' }
abbrev HdR := Value × (Addr → Value → Option Addr → TS)
def wAll (K : PySem.W.Frag) (i : Nat) (Wout : WX) (D : Ends) : List HdR → WX
  | [] => Wout
  | (c, ts) :: r => fun cls d σ H => ∃ b, PySem.W.exmOne K cls c = some b ∧ (b = true → ∀ a, H a = none → ts a cls d (gone i D) (σ.set i (some (.ref a))) H) ∧ (b = false → wAll K i Wout D r cls d σ H)
inductive AsOk (X : Cx) (n : Str) : List ExceptHandler → List HdR → Prop
  | nil : AsOk X n [] []
  | cons {x : Str} {c : Value} {ts : Addr → Value → Option Addr → TS} {b₀ : Stmt} {suite : List Stmt} {np pos' : Pos} {hds : List ExceptHandler} {l : List HdR} (hc : Names X x c)
      (hsu : ∀ (a : Addr) (oe : Obj) (cls : Value) (d : Option Addr) (pn : List (Addr × Obj)), Zc cls d oe → (∃ vs, oe.data = .fields vs) → PSs (X.suite a ((a, oe) :: pn)) (b₀ :: suite) (ts a cls d)) (r : AsOk X n hds l) :
      AsOk X n (.ExceptHandler (some (.Name x np)) (some n) (b₀ :: suite) pos' :: hds) ((c, ts) :: l)
section
variable {X : Cx} {n : Str} {i : Nat} {body : List Stmt} {h₀ : ExceptHandler} {hds : List ExceptHandler} {l : List HdR} {pos : Pos} {tb : WX → TS} {Wout : WX}
theorem ps_try_manyAs (hs : X.stack = X.env :: X.outer) (hf : X.env.frame = some X.env.locals) (hN : X.N.Nodup) (hi : X.N[i]? = some n) (hln : X.env.kindOf n = some .local) (tk : Takes X Wout)
    (hb : ∀ (W : WX) (pn : List (Addr × Obj)) (xe : Value → Shared → Prop), Takes (X.tr pn xe) W → PassesOwn (model X.prog X.w) X.A X.env xe → PSs (X.tr pn xe) body (tb W))
    (hh : AsOk X n (h₀ :: hds) l) : PS X (.Try body (h₀ :: hds) [] [] pos) (fun D σ H => tb (wAll X.K i Wout D l) D σ H) := by
  refine ⟨fun pins s σ H D I h => wpAny_Try_except ?_⟩
  have ok := I.ok
  have fr : X.A.frames = some (X.env :: X.outer) := by rw [ok.frames, hs]
  let after : Value → Shared → Prop := fun e s₁ => wpAny (model X.prog X.w) X.A (noteFrame e X.env) (fun _ s₂ => wpAny (model X.prog X.w) X.A (setFlight e none) (fun _ s₃ => wpAny (model X.prog X.w) X.A (handleBy e X.env (h₀ :: hds)) (SP X pins D) X.xe s₃) X.xe s₂) X.xe s₁
  have caught : Takes (X.tr (X.pn ++ pins) after) (wAll X.K i Wout D l) := by
    rintro u s' ⟨a, B, sI, pins', σ', H', cls, d, rfl, J', nb, up, sky, na, os, ag, w⟩
    have J : L2.Inv X pins σ' H' sI := J'.ofTry ok
    have sk : Sky B (X.env :: X.outer) a (Zc cls d) X.env.locals s'.heap := hs ▸ sky
    show wpAny (model X.prog X.w) X.A (noteFrame (.ref a) X.env) _ _ _
    refine Sky.land Zc.steady fr hf sk fun g fl ug => ?_
    have J3 : L2.Inv X pins σ' H' { s' with heap := g } := J.landed nb fl.1 (up.trans ug) os ag
    obtain ⟨oe, vs, ge, hz, gd⟩ := fl.there
    have aside : a ∉ frs (X.env :: X.outer) := fun m => by
      obtain ⟨_, o', q, nf⟩ := fl.2.2.1.mem m
      rw [ge] at q
      cases q
      exact nf _ gd
    have nL : a ≠ X.env.locals := fun z => aside (List.mem_filterMap.mpr ⟨X.env, List.mem_cons_self, by rw [hf, z]⟩)
    have nF : a ∉ X.fs := fun m => let ⟨e, he, q⟩ := List.mem_filterMap.mp m; aside (List.mem_filterMap.mpr ⟨e, List.mem_cons_of_mem _ he, q⟩)
    have S3 := J3.suite ge gd na nL nF
    have look : PySem.W.Looks (model X.prog X.w) g (typeOf (.ref a)) cls := fun A Q E s k q => wpAny_typeOf_ref (k _ _ ge) (by rw [hz.1]; exact q)
    suffices key : ∀ {hs' : List ExceptHandler} {l' : List HdR}, AsOk X n hs' l' → wAll X.K i Wout D l' cls d σ' H' → wpAny (model X.prog X.w) X.A (handleBy (.ref a) X.env hs') (SP X pins D) X.xe { s' with heap := g } from key hh w
    intro hs' l' hk
    induction hk with
    | nil =>
      intro w
      refine wpAny_handleBy_nil ?_
      obtain ⟨_, _, _, o1, vs1, T, _, _, e1, _, d1, f1, _⟩ := id fl
      unfold PySem.passOn
      refine wpAny_bind (wpAny_field e1 d1 f1 ?_)
      rw [if_neg (show ¬ ((Value.ref T == Value.none) = true) from by simp)]
      have out : wpAny (model X.prog X.w) X.A (setFlight (.ref a) X.env.frame) (fun _ s4 => wpAny (model X.prog X.w) X.A (throw (.ref a) : Sem Flow) (SP X pins D) X.xe s4) X.xe { s' with heap := g } := by
        rw [hf]
        exact HandSPX.setFlight_upZ fl fun h4 sk4 up4 => wpAny_throw (tk _ _ ⟨a, B, sI, pins, σ', H', cls, d, rfl, J, nb, (up.trans ug).trans up4, .inr (.inr (by rw [hs]; exact sk4)), na, os, ag, w⟩)
      first
        | exact wpAny_bind (wpAny_pure (wpAny_bind out))
        | exact wpAny_bind out
    | @cons x c ts b₀ suite np pos' hds2 l2 hc hsu r ih =>
      rintro ⟨b, eb, yes, no⟩
      refine wpAny_handleBy_cons (codeAny_handlers_test ?_) (by intro q; cases q)
      have named : ∀ {Q : Value → Shared → Prop} {E : Value → Shared → Prop}, Q c { s' with heap := g } → wpAny (model X.prog X.w) (X.A.mark (some (.ref a))) (eval (.Name x np) X.env) Q E { s' with heap := g } := fun {Q E} q => by
        obtain ⟨k1, k2, k3 | ⟨k3, k4, k5⟩⟩ := hc
        · exact ld_glob (X := X.suite a ((a, oe) :: (X.pn ++ pins))) S3 k1 k3 q k2
        · exact ld_blt (X := X.suite a ((a, oe) :: (X.pn ++ pins))) S3 k1 k3 k4 q k5 k2
      refine named ((PySem.W.exm_one (M := model X.prog X.w) J3.kIn look eb).here ?_)
      cases b with
      | false => exact ih (no rfl)
      | true =>
        refine codeAny_handlers_suite_as (HandSPX.lands_againZ fl fun h4 fl4 up4 => ?_)
        have J4 : L2.Inv X pins σ' H' { s' with heap := h4 } := J.landed nb fl4.1 ((up.trans ug).trans up4) os ag
        obtain ⟨o4, vs4, g4, z4, d4⟩ := fl4.there
        refine store_ok (X := X.suite a ((a, o4) :: (X.pn ++ pins))) (v := .ref a) (J4.suite g4 d4 na nL nF) hN hi (.inl hln) rfl (fun s5 S5 => ?_) (.inr hln)
        refine wpAny_mono ((hsu a o4 cls d (X.pn ++ pins) z4 ⟨_, d4⟩).run [] s5 _ H' _ S5 (yes rfl a na)) (fun f s6 hq => ?_) (fun _ _ z => False.elim z)
        have bye : ∀ {σ6 : L2.St} {H6 : Hp} {Q : Shared → Prop}, L2.Inv (X.suite a ((a, o4) :: (X.pn ++ pins))) [] σ6 H6 s6 → (∀ s7, L2.Inv X pins (σ6.set i none) H6 s7 → Q s7) →
            wpAny (model X.prog X.w) X.A (do bindName X.env n .none; unbindBehindTheSuite X.env n pos') (fun _ s7 => Q s7) X.xe s6 := fun S6 hq => gone_ok (S6.unsuite ok) hN hi hln hq
        cases f with
        | ret u => obtain ⟨v, _, _, S6, r6, q⟩ := hq; exact bye S6 fun s7 J7 => ⟨v, _, _, J7, r6, q⟩
        | next => obtain ⟨_, _, S6, q⟩ := hq; exact bye S6 fun s7 J7 => ⟨_, _, J7, q⟩
        | brk => obtain ⟨_, _, S6, q⟩ := hq; exact bye S6 fun s7 J7 => ⟨_, _, J7, q⟩
        | cont => obtain ⟨_, _, S6, q⟩ := hq; exact bye S6 fun s7 J7 => ⟨_, _, J7, q⟩
  refine wpAny_mono ((hb _ (X.pn ++ pins) after caught PassesOwn.looking).run [] s σ H D (I.toTry _) h) (fun f s1 hq => ?_) (fun e s1 he => he)
  cases f with
  | ret u => obtain ⟨v, _, _, J, r, q⟩ := hq; exact ⟨v, _, _, J.ofTry ok, r, q⟩
  | next => obtain ⟨_, _, J, q⟩ := hq; exact wpAny_execs_nil ⟨_, _, J.ofTry ok, q⟩
  | brk => obtain ⟨_, _, J, q⟩ := hq; exact ⟨_, _, J.ofTry ok, q⟩
  | cont => obtain ⟨_, _, J, q⟩ := hq; exact ⟨_, _, J.ofTry ok, q⟩
end
end Sh
set_option Elab.async false
set_option linter.all false
set_option maxRecDepth 100000
set_option maxHeartbeats 4000000
namespace Sh
open PySem PySem.Spec PyProof.Rows L2
/-! ### o == t, t a tuple, where o's own == gives NotImplemented -/
theorem same_left {M : Model} {A : Around} {E : Value → Shared → Prop} {s : Shared} {x y : Addr} {ox oy : Obj} {R : Bool → Shared → Prop} (hxy : x ≠ y) (hx : s.heap.get? x = some ox) (hy : s.heap.get? y = some oy) (nt : ox.cls ≠ .type "tuple") (h : R false s) : wpAny M A (isSame (.ref x) (.ref y)) R E s := by
  show wpAny M A (if (x == y) = true then pure true else _) R E s
  rw [if_neg (by simpa using hxy)]
  refine wpAny_bind (wpAny_load hx (wpAny_bind (wpAny_load hy ?_)))
  split
  · rename_i h1 _ _ _
    exact absurd h1 nt
  · exact wpAny_pure h
section
variable {X : Cx} {C f : Addr} {fd : FuncData}
theorem sub_tup {K : PySem.W.Frag} {C : Addr} : PySem.W.subIn K (.type "tuple") (.ref C) = some false := by
  have e : fastBuiltinMro "tuple" = some [.type "tuple", .type "object"] := by decide +kernel
  show (fastBuiltinMro "tuple").map (·.contains (.ref C)) = some false
  rw [e]
  first
    | rfl
    | simp
theorem tup_eq_ins {prog : Program} {w : World} {A : Around} {E : Value → Shared → Prop} {s : Shared} {K : PySem.W.Frag} {x b C : Addr} {ox ob : Obj} {od : Option Obj} {Q : Option Value → Shared → Prop} (X : K.In s.heap) (I : PySem.W.InstAt s.heap x ox C od) (nt : PySem.W.mroIn K C (.type "tuple") = some false)
    (hb : s.heap.get? b = some ob) (hc : ob.cls = .type "tuple") (h : Q none s) : wpAny (model prog w) A (tryCompare (.ref b) "__eq__" (.ref x)) Q E s := by
  refine wpAny_tryCompare_declines (show s.TypeIs (.ref b) "tuple" from ⟨ob, hb, hc⟩) F.slot_tuple_eq (GQ.call_here F.slot_tuple_eq ⟨ob, hb, hc⟩ F.entry_tuple_eq (F.args_tuple_eq_2 _ _) ?_)
  have L : PySem.W.Looks (model prog w) s.heap (isInstance (.ref x) (.type "tuple")) false := I.type.andThen (PySem.W.looks_mroIn X nt)
  unfold Builtin.«tuple.__eq__»
  repeat (first | with_reducible refine wpAny_bind (L.here ?_) | wp_step)
  exact ⟨rfl, h⟩
/-- o == xs, where o's own == gives NotImplemented: False -/
def rEqNT (N : List Str) (C : Addr) (tt : TT) : R2 := fun x y H Q => ∃ a b dx fs xs, x = .ref a ∧ y = .ref b ∧ H a = some (.ins C dx fs) ∧ H b = some (.tup xs) ∧
  tt (L2.start N [x, y]) H (fun k H' => k = true ∧ H' a = some (.ins C dx fs) ∧ H' b = some (.tup xs) ∧ Q (.bl false) H')
theorem op_eqNT {qual : Str} {st : Stmt} {N : List Str} {c : Expr} {rest : List Stmt} {p p2 p3 : Pos} {tt : TT} (e : EqC X.K C f)
    (F : Fun X.K "__eq__" qual st f fd) (S : FnScope N ["self", "other"] (defScope st)) (hbd : defBody st = .If c [.Return (some (.Name "NotImplemented" p)) p2] [] p3 :: rest) (hbi : Binds X.K fd ["self", "other"] [])
    (hg : (defScope st).names.lookup ("NotImplemented" : Str) = some .globalImplicit) (hm : X.mg "NotImplemented" = none)
    (ht : ∀ (cdv : Value) (A : Around) (outer : List Env) (s : Shared) (H : Hp) (E : XK), Room 0 A → PT (cxOf CX0 X.prog X.w X.K X.mg X.base N qual (defScope st) f cdv A outer s H E) c tt) (hr : Room 1 X.A) : OpR X (compareOp .Eq) (rEqNT N C tt) := by
  intro pins s σ H x y v u Q I rx ry h
  obtain ⟨a, b, dx, fs, xs, rfl, rfl, ha, hb, hq⟩ := h
  cases rx
  cases ry
  have hab : a ≠ b := ne_of ha hb (by intro z; cases z)
  obtain ⟨mA, J, _⟩ := ins_get I.hok ha
  obtain ⟨od, J, _⟩ := J.look
  obtain ⟨_, its, _, ot, hob, hcl, n, _⟩ := I.hok b _ hb
  have un := hr.un
  have one : wpAny (model X.prog X.w) X.A (tryCompare (.ref a) "__eq__" (.ref b)) (fun r s' => r = none ∧ ∃ H', L2.Inv X pins σ H' s' ∧ H' a = some (.ins C dx fs) ∧ H' b = some (.tup xs) ∧ Q (.bl false) H') X.xe s := by
    unfold tryCompare
    refine wpAny_bind (PySem.W.ifBound_K I.kIn J e.eq e.fn (wpAny_mono (run_ni F S hbd hbi hg hm ht hr I.env0 (us := [.ref a, .ref b]) (vs := [.ref a, .ref b]) (.cons rfl (.cons rfl .nil)) rfl hq) (fun v s' z => ?_) fun _ _ z => z.elim))
    obtain ⟨rfl, H', os, bare, un, hok, q1, q2, q3⟩ := z
    exact wpAny_pure ⟨rfl, H', I.call' os un hok bare (fun b z => absurd z (by simp)), q1, q2, q3⟩
  show wpAny (model X.prog X.w) X.A (richCompare .Eq (.ref a) (.ref b)) (EP X pins σ Q) X.xe s
  simp only [richCompare, cmpInfo_Eq, oneThing_ref]
  refine wpAny_holding (wpAny_bind (wpAny_cRoomFor (by omega) ?_))
  refine wpAny_bind (J.type.here ?_)
  refine wpAny_bind (wpAny_typeOf (show s.TypeIs (.ref b) "tuple" from ⟨_, hob, hcl⟩) ?_)
  have tail : ∀ s1, (∃ H', L2.Inv X pins σ H' s1 ∧ H' a = some (.ins C dx fs) ∧ H' b = some (.tup xs) ∧ Q (.bl false) H') → wpAny (model X.prog X.w) X.A (tryCompare (.ref b) "__eq__" (.ref a)) (fun r s' => r = none ∧ s' = s1) X.xe s1 ∧ wpAny (model X.prog X.w) X.A (isSame (.ref a) (.ref b)) (fun r s' => r = false ∧ s' = s1) X.xe s1 := by
    rintro s1 ⟨H', I1, q1, q2, _⟩
    obtain ⟨mB, J1, _⟩ := ins_get I1.hok q1
    obtain ⟨od1, J1, _⟩ := J1.look
    obtain ⟨_, its1, _, ot1, hob1, hcl1, n1, _⟩ := I1.hok b _ q2
    exact ⟨tup_eq_ins I1.kIn J1 e.nt hob1 hcl1 ⟨rfl, rfl⟩, same_left hab J1.at_ hob1 (by intro z; cases z) ⟨rfl, rfl⟩⟩
  split
  · refine wpAny_bind ((PySem.W.looks_subIn I.kIn sub_tup).here ?_)
    simp only [Bool.false_eq_true, if_false, Bool.not_false, if_true]
    refine wpAny_bind (m := tryCompare (.ref a) _ (.ref b)) (wpAny_mono one (fun r s1 z => ?_) fun _ _ e => e)
    obtain ⟨rfl, z⟩ := z
    refine wpAny_bind (m := tryCompare (.ref b) _ (.ref a)) (wpAny_mono (tail s1 z).1 (fun r s2 y => ?_) fun _ _ e => e)
    obtain ⟨rfl, rfl⟩ := y
    refine wpAny_bind (wpAny_rule (wpAny_bind (wpAny_mono (tail s2 z).2 (fun r s3 y => ?_) fun _ _ e => e)))
    obtain ⟨rfl, rfl⟩ := y
    obtain ⟨H', I1, _, _, q⟩ := z
    exact wpAny_pure ⟨.bl false, H', I1, rfl, q⟩
  · refine wpAny_bind (wpAny_pure ?_)
    simp only [Bool.false_eq_true, if_false, Bool.not_false, if_true]
    refine wpAny_bind (m := tryCompare (.ref a) _ (.ref b)) (wpAny_mono one (fun r s1 z => ?_) fun _ _ e => e)
    obtain ⟨rfl, z⟩ := z
    refine wpAny_bind (m := tryCompare (.ref b) _ (.ref a)) (wpAny_mono (tail s1 z).1 (fun r s2 y => ?_) fun _ _ e => e)
    obtain ⟨rfl, rfl⟩ := y
    refine wpAny_bind (wpAny_rule (wpAny_bind (wpAny_mono (tail s2 z).2 (fun r s3 y => ?_) fun _ _ e => e)))
    obtain ⟨rfl, rfl⟩ := y
    obtain ⟨H', I1, _, _, q⟩ := z
    exact wpAny_pure ⟨.bl false, H', I1, rfl, q⟩
end
end Sh
set_option Elab.async false
set_option linter.all false
set_option maxRecDepth 100000
set_option maxHeartbeats 4000000
namespace Sh
open PySem PySem.Spec PyProof.Rows L2
open AutoSeq1 (wpAny_loadPart')
/-! ### for i, x in enumerate(t), t a tuple -/
abbrev itT (t : Addr) : Obj := { cls := .type "tuple_iterator", data := .fields #[.ref t, .int 0 0] }
abbrev enO (it : Addr) : Obj := { cls := .type "enumerate", data := .fields #[.none, .bool false, .ref it, rawInt 0, .none, .none] }
theorem enumT_new (l : Addr) (items : Array Value) (n : Nat) (dct : Option Addr) (sl : Array (Option Value)) :
    Meets (Builtin.«enumerate.__new__» ⟨[.type "enumerate", .ref l], []⟩) (fun _ R s => s.heap.get? l = some { cls := .type "tuple", dict := dct, data := .seq items n, slots := sl } ∧
      R (.ok (.ret (.ref (s.heap.push (itT l)).objs.size))) { s with heap := (s.heap.push (itT l)).push (enO s.heap.objs.size) }) :=
  .of_wp fun prog w A R s h => by
    obtain ⟨hp, g, d, tk, os⟩ := s
    obtain ⟨hl, h⟩ := h
    have sub := sub_enumerate
    have tup : Heap.IsTuple (Shared.heap ⟨hp, g, d, tk, os⟩) l items := ⟨_, hl, rfl, n, rfl⟩
    wp_walk using wpAny_loadPart' hl
    refine wpAny_stack_any fun st => wpAny_pure ?_
    split
    · rename_i c _ _ _ _ _
      cases (c == Value.type "enumerate") <;>
      · wp_walk using wpAny_loadPart' hl, wpAny_pyIter_tuple tup
        exact ⟨_, rfl, h⟩
    · wp_walk using wpAny_loadPart' hl, wpAny_pyIter_tuple tup
      exact ⟨_, rfl, h⟩
theorem call_enumT {prog : Program} {w : World} {A : Around} {E : Value → Shared → Prop} {s : Shared} {t : Addr} {items : Array Value} {Q : Value → Shared → Prop} (hT : s.heap.IsTuple t items)
    (h : ∀ h', IsEnum h' (s.heap.objs.size + 1) s.heap.objs.size 0 .none → h'.IsTupleIter s.heap.objs.size t 0 → (∀ b o, s.heap.get? b = some o → h'.get? b = some o) → Q (.ref (s.heap.objs.size + 1)) { s with heap := h' }) :
    wpAny (model prog w) A (call (.type "enumerate") [.ref t]) Q E s := by
  obtain ⟨⟨c, dct, dt, sl⟩, hl, hc, n, hd⟩ := hT
  have ec : c = .type "tuple" := hc
  have ed : dt = .seq items n := hd
  subst ec ed
  refine callType_new F.called_enumerate (by decide) (F.typeCall_enumerate_1 _) (F.newCall_enumerate_1 _) (fun obj => F.args_object_init_2 obj _) F.entry_enumerate_new (enumT_new t items n dct sl) ⟨hl, ?_⟩
  have sz : (s.heap.push (itT t)).objs.size = s.heap.objs.size + 1 := Heap.size_push ..
  show _ ∧ _
  rw [sz]
  have ae : ((s.heap.push (itT t)).push (enO s.heap.objs.size)).get? (s.heap.objs.size + 1) = some (enO s.heap.objs.size) := by
    have := Heap.get?_push_size (s.heap.push (itT t)) (o := enO s.heap.objs.size) rfl
    rw [sz] at this
    exact this
  exact ⟨⟨_, ae, rfl⟩, h _ ae ⟨_, Heap.get?_push_of_some _ (Heap.get?_push_size _ rfl), rfl, rfl⟩ fun b o x => Heap.get?_push_of_some _ (Heap.get?_push_of_some _ x)⟩
theorem endT {prog : Program} {w : World} {A : Around} {E : Value → Shared → Prop} {s : Shared} {e it a : Addr} {i : Nat} {items : Array Value} {old : Value} {Q : Option Value → Shared → Prop} (hh : A.handled = none) (he : IsEnum s.heap e it (i : Int) old) (hit : s.heap.IsTupleIter it a i) (ht : s.heap.IsTuple a items)
    (hx : items[i]? = none) (hQ : ∀ h', Heap.ExtBut it s.heap h' → Q none { s with heap := h' }) : wpAny (model prog w) A (pyNext (.ref e)) Q E s := by
  have hT : s.TypeIs (.ref e) "enumerate" := ⟨_, he, rfl⟩
  unfold pyNext
  refine wpAny_bind (wpAny_attempt (wpAny_callSpecial?_slot (name := Str.ofString "__next__") hT F.slot_enumerate_next (wpAny_call_entry F.slot_enumerate_next hT F.entry_enumerate_next ?_ (F.args_enumerate_next_1 _))))
  show wpAny _ _ (field (.ref e) 2 >>= _) _ _ _
  refine wpAny_bind (wpAny_field he rfl (x := .ref it) rfl ?_)
  refine wpAny_bind (PySem.wpAny_nextOf_tuple_end hh hit ht hx fun h' x eb hx' => ?_)
  obtain ⟨o, ho, hc⟩ := hx'
  exact wpAny_bind (wpAny_isInstance (T := "StopIteration") (b := true) ⟨o, ho, hc⟩ isSubtype_stop (wpAny_pure (hQ _ eb)))
/-- the tuple at a, its items in new pairs with their number -/
def ItET (K : PySem.W.Frag) (a : Addr) : It :=
  ⟨fun i H => ∃ (xs : List V) (x : V), SqT K H a xs ∧ xs[i]? = some x, fun i H v H' => ∃ T x, v = .ref T ∧ H T = none ∧ H' = upd H T (.tup [.int (i : Nat), x]) ∧ ∀ xs, SqT K H a xs → xs[i]? = some x, fun i H => ∃ xs : List V, SqT K H a xs ∧ xs.length ≤ i⟩
theorem tup_ne {h : Heap} {a b : Addr} {items : Array Value} {o : Obj} (t : h.IsTuple a items) (hb : h.get? b = some o) (n : o.cls ≠ .type "tuple") : a ≠ b := fun z => by
  obtain ⟨o', h1, h2, _⟩ := t
  rw [z, hb] at h1
  cases h1
  exact n h2
theorem turn_enumT {P : Program} {w : World} {K : PySem.W.Frag} {elts : List Expr} {kk : Nat} {tpos : Pos} (a e it : Addr) :
    Turn P w K (.Tuple elts kk tpos) (ItET K a) [e, it] e (fun i h => (∃ old, IsEnum h e it ((i : Nat) : Int) old) ∧ h.IsTupleIter it a i ∧ e ≠ it) where
  mem := by simp
  obj := fun i h st b hb => by
    obtain ⟨⟨old, he⟩, ⟨o, ho, hc, hd⟩, _⟩ := st
    rcases (show b = e ∨ b = it by simpa using hb) with rfl | rfl
    · exact ⟨_, he, fun v q => nomatch q⟩
    · exact ⟨o, ho, fun v q => by rw [hd] at q; cases q⟩
  keep := fun i h h' st k => let ⟨⟨old, he⟩, hi, hne⟩ := st; ⟨⟨old, k e (by simp) _ he⟩, hi.at fun o q => k it (by simp) o q, hne⟩
  item := by
    intro X hP hw hK hc i pins s σ H E I hf st hg
    subst hP hw hK
    obtain ⟨⟨old, he⟩, hit, hne⟩ := st
    obtain ⟨xs, x, hq, hx⟩ := hg
    obtain ⟨its, rv, p, hz⟩ := I.tuple hq
    obtain ⟨u, hu, ru⟩ := rv.get hx
    have le : e < s.heap.objs.size := Heap.lt_size he
    have li : it < s.heap.objs.size := let ⟨_, q, _⟩ := hit; Heap.lt_size q
    have tp : s.heap.IsTuple a its.toArray := p
    have ae : a ≠ e := tup_ne tp he (fun z => absurd (Value.type.inj z) (by decide))
    have ai : a ≠ it := let ⟨o, q, c, _⟩ := hit; tup_ne tp q (by rw [c]; decide)
    have hil : i < its.toArray.size := by
      have := (List.getElem?_eq_some_iff.mp hu).1
      simpa using this
    refine wpAny_pyNext_enum_itemD (PySem.Draws.tuple (prog := X.prog) (w := X.w) (A := X.A.in1) (I.ok.hd hc) it a ai its.toArray) he ⟨hit, tp⟩ hil hne (by simp [hne, ae.symm]) fun x' h' tk px ho st' hT hsz hk => ?_
    have ex : x' = u := by
      have px' : its.toArray[i]? = some x' := px
      rw [show its.toArray[i]? = its[i]? by simp, hu] at px'
      exact (Option.some.inj px').symm
    subst ex
    refine ⟨_, rfl, wpAny_letOwnedTupleGo_enum (s := { s with heap := h', toks := tk + 1 }) ho fun h'' he' sb => ?_⟩
    have hT2 : h''.get? s.heap.objs.size = some { cls := .type "tuple", data := .seq #[.int i tk, x'] } := (sb.2 _ (Nat.ne_of_gt le)).trans hT
    have new : ObjOk X.prog X.w (upd H s.heap.objs.size (.tup [.int (i : Nat), x])) h'' s.heap.objs.size (.tup [.int (i : Nat), x]) :=
      ⟨by show 2 ≤ sizeLine; decide, [.int i tk, x'], .cons ⟨_, rfl⟩ (.cons ru .nil), ⟨_, hT2, rfl, _, rfl⟩⟩
    have I1 : L2.Inv X pins σ (upd H s.heap.objs.size (.tup [.int (i : Nat), x])) { s with heap := h'', toks := tk + 1 } :=
      I.turnedNew (ch := [e, it]) (fun b ob hb q => (sb.2 b (fun z => hb (by simp [z]))).trans (hk b ob (fun z => hb (by simp [z])) (fun z => hb (by simp [z])) q)) hf (Nat.le_refl _) new
    refine ⟨.ref s.heap.objs.size, _, I1, rfl, ⟨_, x, rfl, I.hok.fresh (Nat.le_refl _), rfl, fun ys hy => by rw [I.tuple_inj hy hq]; exact hx⟩, ⟨⟨x', ?_⟩, st'.1.at fun o q => (sb.2 it (Ne.symm hne)).trans q, hne⟩, fun b hb => ?_⟩
    · rw [show ((i + 1 : Nat) : Int) = (i : Int) + 1 by omega]
      exact he'
    · have lb : b < s.heap.objs.size := by
        rcases (show b = e ∨ b = it by simpa using hb) with rfl | rfl
        · exact le
        · exact li
      rw [upd_ne (Nat.ne_of_lt lb)]
      exact (hf b hb).1
  done := by
    intro X hP hw hK hc i pins s σ H E I hf st hg
    subst hP hw hK
    obtain ⟨⟨old, he⟩, hit, hne⟩ := st
    obtain ⟨xs, hq, hx⟩ := hg
    obtain ⟨its, rv, p, hz⟩ := I.tuple hq
    obtain ⟨f0, f1, f2, f3, f4, f5⟩ := hf it (by simp)
    have hl := rv.length
    have tp : s.heap.IsTuple a its.toArray := p
    have ai : a ≠ it := let ⟨o, q, c, _⟩ := hit; tup_ne tp q (by rw [c]; decide)
    exact endT (I.ok.hd hc) he hit tp (by simp; omega) fun h' eb => ⟨rfl, I.turned (t' := s.toks) (fun b o hb q => eb b o hb q) f0 f1 f3 f4 f5⟩
  self := fun A i s Q E st h => let ⟨⟨_, he⟩, _⟩ := st; wpAny_pyIter_enum he h
def iEnumT (K : PySem.W.Frag) (ta : TA) : TI := fun σ H R => ta σ H fun vs H1 => ∃ a xs, vs = [.ref a] ∧ SqT K H1 a xs ∧ R (ItET K a) H1
theorem pi_enumT {X : Cx} {e : Expr} {ta : TA} {p pos tpos : Pos} {elts : List Expr} {kk : Nat} (hg : Gl X "enumerate") (hm : X.mg "enumerate" = none) (ha : PA X [e] ta) (hs : starEach [e] X.env = [(false, eval e X.env)] := by rfl) :
    PI X (.Tuple elts kk tpos) (.Call (.Name "enumerate" p) [e] [] pos) (iEnumT X.K ta) := by
  refine ⟨fun pins s σ H R I h => ?_⟩
  refine Call_ (ld_blt I hg hm boot_enumerate (PyProof.Rows.callWith_type1 (thn (ha.run pos pins s σ H _ I h) fun us s1 ⟨vs, H1, I1, r1, a, xs, ex, hq, q⟩ => ?_) hs rfl))
  subst ex
  rw [Vals.ref1 r1]
  obtain ⟨its, rv, tp, hz⟩ := I1.tuple hq
  refine call_enumT (show s1.heap.IsTuple a its.toArray from tp) fun h' he hit hk => wpAny_pyIter_enum he ?_
  refine ⟨s1.heap.objs.size + 1, [s1.heap.objs.size + 1, s1.heap.objs.size], _, _, H1, rfl, I1.kept (t' := s1.toks) hk, turn_enumT a (s1.heap.objs.size + 1) s1.heap.objs.size, ⟨⟨.none, he⟩, hit, Nat.succ_ne_self _⟩, fun b hb => ?_, q⟩
  have le : s1.heap.objs.size ≤ b := by
    rcases (show b = s1.heap.objs.size + 1 ∨ b = s1.heap.objs.size by simpa using hb) with z | z
    · rw [z]; exact Nat.le_add_right _ _
    · rw [z]; exact Nat.le_refl _
  exact I1.fpOk le (I1.hok.fresh le)
/-- two readings of what is walked -/
theorem pi_alt {X : Cx} {tg iter : Expr} {w1 w2 : TI} (h1 : PI X tg iter w1) (h2 : PI X tg iter w2) : PI X tg iter (fun σ H R => w1 σ H R ∨ w2 σ H R) :=
  ⟨fun pins s σ H R I h => h.elim (h1.run pins s σ H R I) (h2.run pins s σ H R I)⟩
theorem for_enumT {K : PySem.W.Frag} {a : Addr} {xs : List V} {g : TG} {tb : TS} {D : Ends} {σ : L2.St} {H : Hp} (Pv : Nat → L2.St → Hp → Prop) (h0 : Pv 0 σ H) (hl : ∀ i σ H, i ≤ xs.length → Pv i σ H → SqT K H a xs)
    (hs : ∀ (i : Nat) (x : V) (σ : L2.St) (H : Hp) (T : Addr), xs[i]? = some x → H T = none → Pv i σ H → g (.ref T) σ (upd H T (.tup [.int (i : Nat), x])) fun σ2 H2 => tb { D with nx := Pv (i + 1), ct := Pv (i + 1), bk := D.nx } σ2 H2) (hd : ∀ σ H, Pv xs.length σ H → D.nx σ H) :
    ∃ W : Nat → Nat → L2.St → Hp → Prop, (∃ m, W 0 m σ H) ∧ ∀ i m σ H, W i m σ H →
      ((ItET K a).stop i H ∧ D.nx σ H) ∨ ((ItET K a).go i H ∧ ∃ N : L2.St → Hp → Prop, (∀ σ' H', N σ' H' → ∃ m', m' < m ∧ W (i + 1) m' σ' H') ∧ ∀ x H', (ItET K a).yld i H x H' → g x σ H' fun σ2 H2 => tb { D with nx := N, ct := N, bk := D.nx } σ2 H2) := by
  refine ⟨fun i m σ H => m = xs.length - i ∧ i ≤ xs.length ∧ Pv i σ H, ⟨xs.length, by simp, Nat.zero_le _, h0⟩, ?_⟩
  rintro i m σ H ⟨rfl, hi, p⟩
  have q := hl i σ H hi p
  by_cases hlt : i < xs.length
  · refine .inr ⟨⟨xs, xs[i], q, by simp [hlt]⟩, Pv (i + 1), fun σ' H' p' => ⟨xs.length - (i + 1), by omega, rfl, hlt, p'⟩, fun x H' y => ?_⟩
    obtain ⟨T, x, rfl, nT, rfl, y⟩ := y
    exact hs i x σ _ T (y xs q) nT p
  · have e : i = xs.length := by omega
    subst e
    exact .inl ⟨⟨xs, q, Nat.le_refl _⟩, hd σ H p⟩
end Sh
set_option Elab.async false
set_option linter.all false
set_option maxRecDepth 100000
set_option maxHeartbeats 4000000
namespace Sh
open PySem PySem.Spec PyProof.Rows L2
/-- tuple(s), s a text -/
theorem call_tup_str {X : Cx} (hc : X.calm = true) : CallR X (.type "tuple") (fun xs H Q => ∃ z, xs = [.str z] ∧ z.length ≤ sizeLine ∧ ∀ p, H p = none → Q (.ref p) (upd H p (.tup ((Sh.signs z).map V.str)))) := by
  intro pins s σ H xs us Q I r h
  obtain ⟨z, rfl, hz, q⟩ := h
  obtain ⟨u, rfl, t, rfl⟩ := vals1 r
  have el : ((Sh.signs z).map V.str).length = z.cps.size := by unfold Sh.signs; simp
  refine call_tuple_str (hsz := hz) (I.ok.hd hc) z t fun h' tk acc keep hacc => ?_
  have rv : Vals ((Sh.signs z).map V.str) acc.toList := by
    refine vals_of_at (by rw [el, Array.length_toList]; exact hacc.1.symm) fun j x y h1 h2 => ?_
    obtain ⟨cc, uu, hcc, rfl⟩ := hacc.2 j y (by rw [← Array.getElem?_toList]; exact h2)
    have e2 : ((Sh.signs z).map V.str)[j]? = some (V.str ⟨#[cc]⟩) := by
      unfold Sh.signs
      rw [List.getElem?_map, List.getElem?_map, Array.getElem?_toList, hcc]
      rfl
    rw [e2] at h1
    cases h1
    exact ⟨uu, rfl⟩
  have I1 : Inv X pins σ H { s with heap := h', toks := tk } := I.kept (t' := tk) keep
  have I2 : Inv X pins σ (upd H h'.objs.size (.tup ((Sh.signs z).map V.str))) { s with heap := h'.push { cls := .type "tuple", data := .seq acc }, toks := tk } :=
    I1.laid (t' := tk) (fun b o e => Heap.get?_push_of_some _ e) (Nat.le_refl _) (show ObjOk X.prog X.w _ _ _ (.tup ((Sh.signs z).map V.str)) from ⟨by rw [el]; exact hz, acc.toList, rv, by rw [Array.toArray_toList]; exact IsTup.new _ _⟩)
  exact ⟨.ref h'.objs.size, _, I2, rfl, q _ (I1.hok.fresh (Nat.le_refl _))⟩
end Sh
set_option Elab.async false
set_option linter.all false
set_option maxRecDepth 100000
set_option maxHeartbeats 4000000
namespace Sh
open PySem L2 PyProof.Rows
/-! ### constants that are tuples, told to the hook -/
def relB : V → Value → Bool
  | .non, .none => true
  | .bl b, .bool c => b == c
  | .int i, .int j _ => decide (i = j)
  | .str x, .str y _ => decide (x = y)
  | .ref a, .ref b => decide (a = b)
  | _, _ => false
theorem relB_ok : ∀ {v : V} {u : Value}, relB v u = true → RelV v u := by
  intro v u h
  cases v <;> cases u <;> first | exact absurd h Bool.false_ne_true | skip
  · rfl
  · rename_i b c
    have : b = c := eq_of_beq h
    subst this
    rfl
  · rename_i i j t
    have : i = j := of_decide_eq_true h
    subst this
    exact ⟨t, rfl⟩
  · rename_i x y t
    have : x = y := of_decide_eq_true h
    subst this
    exact ⟨t, rfl⟩
  · rename_i a b
    have : a = b := of_decide_eq_true h
    subst this
    rfl
def relsB : List V → List Value → Bool
  | [], [] => true
  | v :: vs, u :: us => relB v u && relsB vs us
  | _, _ => false
theorem relsB_ok : ∀ {vs : List V} {us : List Value}, relsB vs us = true → Vals vs us
  | [], [], _ => .nil
  | [], _ :: _, h => absurd h Bool.false_ne_true
  | _ :: _, [], h => absurd h Bool.false_ne_true
  | v :: vs, u :: us, h => by
    have h : (relB v u && relsB vs us) = true := h
    rw [Bool.and_eq_true] at h
    exact .cons (relB_ok h.1) (relsB_ok h.2)
/-- the tuple at a has these items -/
def tupB (K : PySem.W.Frag) (a : Addr) (vs : List V) : Bool := match K.lookup a with
  | some ob => decide (ob.cls = .type "tuple") && decide (ob.dict = none) && match ob.data with
    | .seq us _ => relsB vs us.toList
    | _ => false
  | none => false
/-- where the i-th item of the tuple at a stands -/
def kidC (K : PySem.W.Frag) (a : Addr) (i : Nat) : Addr := match K.lookup a with
  | some ob => match ob.data with
    | .seq us _ => match us.toList[i]? with
      | some (.ref b) => b
      | _ => 0
    | _ => 0
  | none => 0
theorem tupB_ok {K : PySem.W.Frag} {a : Addr} {vs : List V} (h : tupB K a vs = true) (hl : vs.length ≤ sizeLine) : (∀ H, SqT K H a vs) ∧ ∃ o, K.lookup a = some o ∧ o.cls = .type "tuple" ∧ o.dict = none := by
  unfold tupB at h
  cases e : K.lookup a with
  | none => rw [e] at h; exact absurd h Bool.false_ne_true
  | some ob =>
    rw [e] at h
    dsimp only at h
    rw [Bool.and_eq_true, Bool.and_eq_true] at h
    obtain ⟨⟨h1, h2⟩, h3⟩ := h
    obtain ⟨c, d, dat, sl⟩ := ob
    obtain rfl : c = .type "tuple" := of_decide_eq_true h1
    obtain rfl : d = none := of_decide_eq_true h2
    dsimp only at h3
    cases dat with
    | seq us n =>
      have v := relsB_ok h3
      have hz : us.size ≤ sizeLine := Nat.le_trans (Nat.le_of_eq ((Array.length_toList (xs := us)).symm.trans (Paired.length v).symm)) hl
      exact ⟨fun _ => .inr ⟨_, us, n, e, rfl, rfl, hz, v⟩, _, rfl, rfl, rfl⟩
    | _ => exact absurd h3 Bool.false_ne_true
end Sh
set_option Elab.async false
set_option linter.all false
set_option maxRecDepth 100000
set_option maxHeartbeats 4000000
namespace Sh
open PySem PySem.Spec PyProof.Rows L2
/-! ### dicts whose keys are tuples of None, bools, ints, texts -/
def leafV : V → Bool
  | .non => true
  | .bl _ => true
  | .int _ => true
  | .str _ => true
  | _ => false
def nkV : V → NestedKey
  | .bl b => .num (if b = true then 1 else 0)
  | .int i => .num i
  | .str x => .text x
  | _ => .none
/-- v, of nested tuples to a depth of n, is the key k -/
def NKn (K : PySem.W.Frag) (H : Hp) : Nat → V → NestedKey → Prop
  | 0, v, k => leafV v = true ∧ k = nkV v
  | n + 1, v, k => (leafV v = true ∧ k = nkV v) ∨ ∃ b vs ks, v = .ref b ∧ SqT K H b vs ∧ Paired (NKn K H n) vs ks ∧ k = .tup ks
/-- the tuple at b is the key k -/
def KeyAt (K : PySem.W.Frag) (H : Hp) (k : NestedKey) (b : Addr) : Prop := ∃ vs ks, SqT K H b vs ∧ Paired (NKn K H 6) vs ks ∧ k = .tup ks
theorem nkn_leaf {K : PySem.W.Frag} {H : Hp} {n : Nat} {v : V} (h : leafV v = true) : NKn K H n v (nkV v) := by
  cases n with
  | zero => exact ⟨h, rfl⟩
  | succ n => exact .inl ⟨h, rfl⟩
def DNo (P : Program) (w : World) (a : Addr) (xs : List (NestedKey × Addr × V)) : HO := .ext fun h => xs.length ≤ sizeLine ∧ (a == sysModules) = false ∧
  ∃ ys : List (NestedKey × Addr × Value), Paired (fun (p : NestedKey × Addr × V) (q : NestedKey × Addr × Value) => p.1 = q.1 ∧ p.2.1 = q.2.1 ∧ RelV p.2.2 q.2.2) xs ys ∧
    ∃ o es ep, h.get? a = some o ∧ o.ExactDict ∧ o.data = .dict es ep ∧ es.toList = ys.map (entryOfKey (nestedKind P w)) ∧ (ys.map (·.1)).Nodup
def kvN (xs : List (NestedKey × Addr × V)) : List (NestedKey × V) := xs.map fun x => (x.1, x.2.2)
/-- at a stands a dict with these keys and values, in their order -/
def DN (P : Program) (w : World) (K : PySem.W.Frag) (H : Hp) (a : Addr) (kvs : List (NestedKey × V)) : Prop := ∃ xs, H a = some (DNo P w a xs) ∧ kvN xs = kvs ∧ ∀ x ∈ xs, KeyAt K H x.1 x.2.1
theorem nkn_mono {K : PySem.W.Frag} {H H' : Hp} (s : ∀ c u, Rd H c (.tup u) → Rd H' c (.tup u)) : ∀ (n : Nat) {v : V} {k : NestedKey}, NKn K H n v k → NKn K H' n v k
  | 0, _, _, h => h
  | n + 1, _, _, h => by
    rcases h with h | ⟨b, vs, ks, e, h1, h2, h3⟩
    · exact .inl h
    · refine .inr ⟨b, vs, ks, e, ?_, ?_, h3⟩
      · rcases h1 with h1 | h1
        · exact .inl (s _ _ h1)
        · exact .inr h1
      · have : ∀ {vs : List V} {ks : List NestedKey}, Paired (NKn K H n) vs ks → Paired (NKn K H' n) vs ks := fun p => by
          induction p with
          | nil => exact .nil
          | cons r t ih => exact .cons (nkn_mono s n r) ih
        exact this h2
theorem KeyAt.mono {K : PySem.W.Frag} {H H' : Hp} {k : NestedKey} {b : Addr} (s : ∀ c u, Rd H c (.tup u) → Rd H' c (.tup u)) (h : KeyAt K H k b) : KeyAt K H' k b := by
  obtain ⟨vs, ks, h1, h2, h3⟩ := h
  refine ⟨vs, ks, ?_, ?_, h3⟩
  · rcases h1 with h1 | h1
    · exact .inl (s _ _ h1)
    · exact .inr h1
  · have : ∀ {vs : List V} {ks : List NestedKey}, Paired (NKn K H 6) vs ks → Paired (NKn K H' 6) vs ks := fun p => by
      induction p with
      | nil => exact .nil
      | cons r t ih => exact .cons (nkn_mono s 6 r) ih
    exact this h2
theorem nk_leafD {v : V} (e : leafV v = true) : (nkV v).depth = 0 := by
  cases v <;> first | rfl | cases e
section
variable {X : Cx} {pins : List (Addr × Obj)} {σ : L2.St} {H : Hp} {s : Shared}
theorem leaf_is {h : Heap} {v : V} {u : Value} (r : RelV v u) (e : leafV v = true) : NestedIs h (nkV v) u := by
  cases v with
  | non => cases r; exact .none
  | bl b => cases r; exact .bool rfl
  | int i => obtain ⟨k, rfl⟩ := r; exact .int i k
  | str x => obtain ⟨k, rfl⟩ := r; exact .text x k
  | byt _ => cases e
  | flt _ => cases e
  | ref _ => cases e
  | ty _ => cases e
theorem nkn_is (I : L2.Inv X pins σ H s) : ∀ (n : Nat) {v : V} {k : NestedKey} {u : Value}, NKn X.K H n v k → RelV v u → NestedIs s.heap k u ∧ k.depth ≤ n
  | 0, _, _, _, h, r => by
    obtain ⟨e, rfl⟩ := h
    exact ⟨leaf_is r e, Nat.le_of_eq (nk_leafD e)⟩
  | n + 1, v, k, u, h, r => by
    rcases h with ⟨e, rfl⟩ | ⟨b, vs, ks, rfl, h1, h2, rfl⟩
    · exact ⟨leaf_is r e, by rw [nk_leafD e]; exact Nat.zero_le _⟩
    · obtain rfl : u = Value.ref b := r
      obtain ⟨its, rv, ⟨o, g, c, m, d⟩, _⟩ := I.tuple h1
      have all : ∀ {vs : List V} {ks : List NestedKey}, Paired (NKn X.K H n) vs ks → ∀ {us : List Value}, Vals vs us → NestedAll s.heap ks us ∧ NestedKey.depthAll ks ≤ n := fun p => by
        induction p with
        | nil =>
          intro us rv
          cases rv
          exact ⟨.nil, Nat.zero_le _⟩
        | cons r t ih =>
          intro us rv
          cases rv with
          | cons r' t' =>
            obtain ⟨a1, a2⟩ := nkn_is I n r r'
            obtain ⟨b1, b2⟩ := ih t'
            refine ⟨.cons a1 b1, ?_⟩
            rw [NestedKey.depthAll]
            exact Nat.max_le.mpr ⟨a2, b2⟩
      obtain ⟨a1, a2⟩ := all h2 rv
      exact ⟨.tup g c d (by simpa using a1), by show NestedKey.depthAll ks + 1 ≤ n + 1; omega⟩
theorem KeyAt.is {k : NestedKey} {b : Addr} (I : L2.Inv X pins σ H s) (h : KeyAt X.K H k b) : (nestedKind X.prog X.w).is s.heap k b := by
  obtain ⟨vs, ks, h1, h2, rfl⟩ := h
  have := nkn_is I 7 (v := .ref b) (k := .tup ks) (u := .ref b) (.inr ⟨b, vs, ks, rfl, h1, h2, rfl⟩) rfl
  exact ⟨this.1, Nat.le_succ_of_le this.2⟩
abbrev RN : NestedKey × Addr × V → NestedKey × Addr × Value → Prop := fun p q => p.1 = q.1 ∧ p.2.1 = q.2.1 ∧ RelV p.2.2 q.2.2
theorem pair_mem : ∀ {xs : List (NestedKey × Addr × V)} {ys : List (NestedKey × Addr × Value)} {y : NestedKey × Addr × Value}, Paired RN xs ys → y ∈ ys → ∃ x ∈ xs, RN x y
  | _, _, _, .nil, h => by simp at h
  | _, _, _, .cons r t, h => by
    rcases List.mem_cons.mp h with rfl | h
    · exact ⟨_, List.mem_cons_self, r⟩
    · obtain ⟨x, hx, r'⟩ := pair_mem t h
      exact ⟨x, List.mem_cons_of_mem _ hx, r'⟩
theorem pair_app {v : V} {u : Value} {k : NestedKey} {b : Addr} (r : RelV v u) : ∀ {xs : List (NestedKey × Addr × V)} {ys : List (NestedKey × Addr × Value)}, Paired RN xs ys → Paired RN (xs ++ [(k, b, v)]) (ys ++ [(k, b, u)])
  | _, _, .nil => .cons ⟨rfl, rfl, r⟩ .nil
  | _, _, .cons r' t => .cons r' (pair_app r t)
theorem pair_set {v : V} {u : Value} {k : NestedKey} (r : RelV v u) : ∀ {xs : List (NestedKey × Addr × V)} {ys : List (NestedKey × Addr × Value)}, Paired RN xs ys → Paired RN (xs.map (fun x => if x.1 = k then (x.1, x.2.1, v) else x)) (ys.map (putAt k u))
  | _, _, .nil => .nil
  | p :: _, q :: _, .cons r' t => by
    rw [List.map_cons, List.map_cons]
    refine .cons ?_ (pair_set r t)
    obtain ⟨r1, r2, r3⟩ := r'
    unfold putAt
    by_cases h : p.1 = k
    · rw [if_pos h, if_pos (r1 ▸ h)]
      exact ⟨r1, r2, r⟩
    · rw [if_neg h, if_neg (r1 ▸ h)]
      exact ⟨r1, r2, r3⟩
/-- what the library's rules ask of such a dict -/
theorem DN.raw {a : Addr} {kvs : List (NestedKey × V)} (I : L2.Inv X pins σ H s) (h : DN X.prog X.w X.K H a kvs) : ∃ xs ys, H a = some (DNo X.prog X.w a xs) ∧ kvN xs = kvs ∧ (∀ x ∈ xs, KeyAt X.K H x.1 x.2.1) ∧ xs.length ≤ sizeLine ∧ (a == sysModules) = false ∧ Paired RN xs ys ∧ s.heap.DictOfH (nestedKind X.prog X.w) a ys := by
  obtain ⟨xs, h1, h2, h3⟩ := h
  obtain ⟨⟨z, nd, ys, pr, o, es, ep, g1, g2, g3, g4, g5⟩, _, _⟩ := (show ObjOk X.prog X.w H s.heap a (DNo X.prog X.w a xs) from I.hok a _ h1)
  refine ⟨xs, ys, h1, h2, h3, z, nd, pr, o, es, ep, g1, g2, g3, g4, fun y hy => ?_, g5⟩
  obtain ⟨x, hx, e1, e2, _⟩ := pair_mem pr hy
  rw [← e1, ← e2]
  exact (h3 x hx).is I
theorem at_val {xs : List (NestedKey × Addr × V)} {ys : List (NestedKey × Addr × Value)} (pr : Paired RN xs ys) (k : NestedKey) : RelO (valV (kvN xs) k) ((atKey ys k).map (·.2)) := by
  induction pr with
  | nil => exact trivial
  | @cons p q ps qs r t ih =>
    obtain ⟨r1, r2, r3⟩ := r
    by_cases e : p.1 = k
    · have e2 : q.1 = k := r1 ▸ e
      rw [show kvN (p :: ps) = (p.1, p.2.2) :: kvN ps from rfl, valV_pos e]
      have : atKey (q :: qs) k = some q.2 := by simp [atKey, e2]
      rw [this]
      exact r3
    · have e2 : ¬ q.1 = k := r1 ▸ e
      rw [show kvN (p :: ps) = (p.1, p.2.2) :: kvN ps from rfl, valV_neg e]
      have : atKey (q :: qs) k = atKey qs k := by simp [atKey, List.find?_cons, e2]
      rw [this]
      exact ih
/-- put: in its place, or at the end -/
def putN (xs : List (NestedKey × Addr × V)) (k : NestedKey) (b : Addr) (v : V) : List (NestedKey × Addr × V) :=
  if (xs.any fun x => decide (x.1 = k)) = true then xs.map (fun x => if x.1 = k then (x.1, x.2.1, v) else x) else xs ++ [(k, b, v)]
theorem kvN_put (xs : List (NestedKey × Addr × V)) (k : NestedKey) (b : Addr) (v : V) : kvN (putN xs k b v) = putK (kvN xs) k v := by
  unfold putN putK
  have e : ((kvN xs).any fun kv => decide (kv.1 = k)) = xs.any fun x => decide (x.1 = k) := by
    unfold kvN
    rw [List.any_map]
    rfl
  rw [e]
  split
  · unfold kvN
    rw [List.map_map, List.map_map]
    refine List.map_congr_left fun x _ => ?_
    by_cases h : x.1 = k <;> simp [h]
  · simp [kvN]
theorem any_pair {xs : List (NestedKey × Addr × V)} {ys : List (NestedKey × Addr × Value)} (pr : Paired RN xs ys) (k : NestedKey) : (xs.any fun x => decide (x.1 = k)) = (atKey ys k).isSome := by
  have h := (at_val pr k).isSome_eq
  rw [Option.isSome_map] at h
  rw [← h, ← valV_any]
  unfold kvN
  rw [List.any_map]
  rfl
theorem put_pair {xs : List (NestedKey × Addr × V)} {ys : List (NestedKey × Addr × Value)} (pr : Paired RN xs ys) (k : NestedKey) (b : Addr) {v : V} {u : Value} (r : RelV v u) : Paired RN (putN xs k b v) (storedH ys k b u) := by
  unfold putN storedH
  rw [any_pair pr k]
  split
  · exact pair_set r pr
  · exact pair_app r pr
theorem len_putN (xs : List (NestedKey × Addr × V)) (k : NestedKey) (b : Addr) (v : V) : (putN xs k b v).length ≤ xs.length + 1 := by
  unfold putN
  split
  · rw [List.length_map]
    omega
  · simp
theorem mem_putN {xs : List (NestedKey × Addr × V)} {k : NestedKey} {b : Addr} {v : V} {x : NestedKey × Addr × V} (h : x ∈ putN xs k b v) : (∃ y ∈ xs, x.1 = y.1 ∧ x.2.1 = y.2.1) ∨ (x.1 = k ∧ x.2.1 = b) := by
  unfold putN at h
  split at h
  · obtain ⟨y, hy, rfl⟩ := List.mem_map.mp h
    by_cases e : y.1 = k
    · rw [if_pos e]
      exact .inl ⟨y, hy, rfl, rfl⟩
    · rw [if_neg e]
      exact .inl ⟨y, hy, rfl, rfl⟩
  · rcases List.mem_append.mp h with h | h
    · exact .inl ⟨x, h, rfl, rfl⟩
    · simp only [List.mem_singleton] at h
      subst h
      exact .inr ⟨rfl, rfl⟩
/-- a dict of this sort is laid, written -/
theorem dno_ok {P : Program} {w : World} {H' : Hp} {h : Heap} {a : Addr} {xs : List (NestedKey × Addr × V)} {ys : List (NestedKey × Addr × Value)} (z : xs.length ≤ sizeLine) (nd : (a == sysModules) = false) (pr : Paired RN xs ys) (d : h.DictOfH (nestedKind P w) a ys) : ObjOk P w H' h a (DNo P w a xs) := by
  obtain ⟨o, es, ep, g1, g2, g3, g4, _, g5⟩ := d
  refine ⟨⟨z, nd, ys, pr, o, es, ep, g1, g2, g3, g4, g5⟩, ⟨o, g1⟩, ?_⟩
  rintro h1 h2 ⟨z', nd', ys', pr', o', es', ep', g1', g2', g3', g4', g5'⟩ k
  exact ⟨z', nd', ys', pr', o', es', ep', k _ g1', g2', g3', g4', g5'⟩
theorem dno_mut {P : Program} {w : World} {a : Addr} {xs : List (NestedKey × Addr × V)} (h : H a = some (DNo P w a xs)) : Mut (H a) := by
  rw [h]
  exact True.intro
theorem dno_tup {P : Program} {w : World} {a : Addr} {xs : List (NestedKey × Addr × V)} {us : List V} : HO.tup us ≠ DNo P w a xs := fun z => by
  unfold DNo at z
  cases z
theorem KeyAt.put {K : PySem.W.Frag} {P : Program} {w : World} {a b : Addr} {xs : List (NestedKey × Addr × V)} {k : NestedKey} {o : HO} (ha : H a = some (DNo P w a xs)) (h : KeyAt K H k b) : KeyAt K (upd H a o) k b := h.mono fun c u r => by
  rcases r with r | ⟨ob, r⟩
  · exact .inl (by rw [upd_ne (ne_of r ha dno_tup)]; exact r)
  · exact .inr ⟨ob, by rw [upd_ne (ne_of r ha (fun z => by unfold DNo at z; cases z))]; exact r⟩
theorem room8 {A : Around} (hu : A.units + 65 < cLine) : (nestedKind X.prog X.w).room A.in1 := by
  show A.units + 1 + 8 < cLine
  omega
/-- d[k] = v, by values -/
theorem dn_set {A : Around} {E : Value → Shared → Prop} {a b : Addr} {kvs : List (NestedKey × V)} {k : NestedKey} {v : V} {u : Value} {Q : Unit → Shared → Prop} (hu : A.units + 65 < cLine) (I : L2.Inv X pins σ H s) (hd : DN X.prog X.w X.K H a kvs) (hk : KeyAt X.K H k b) (hz : kvs.length < sizeLine) (rv : RelV v u)
    (h : ∀ o s', L2.Inv X pins σ (upd H a o) s' → DN X.prog X.w X.K (upd H a o) a (putK kvs k v) → Q () s') : wpAny (model X.prog X.w) A (setItem (.ref a) (.ref b) u) Q E s := by
  obtain ⟨xs, ys, h1, rfl, h3, z, nd, pr, dd⟩ := hd.raw I
  have hzy : ys.length ≤ sizeLine := by rw [← Paired.length pr]; exact z
  have hzx : xs.length < sizeLine := by
    have : (kvN xs).length = xs.length := by unfold kvN; rw [List.length_map]
    omega
  refine wpAny_setItem_heap (hsz := hzy) (room8 hu) (hk.is I) dd fun h' dd' hs => ?_
  have he : ∃ q, h'.get? a = some q := let ⟨q, _, _, hq, _⟩ := dd'; ⟨q, hq⟩
  have hl : (putN xs k b v).length ≤ sizeLine := by have := len_putN xs k b v; omega
  refine h (DNo X.prog X.w a (putN xs k b v)) _ (d_write I (dno_mut h1) hs he (dno_ok hl nd (put_pair pr k b rv) dd')) ⟨_, upd_same, kvN_put _ _ _ _, fun x hx => ?_⟩
  rcases mem_putN hx with ⟨y, hy, e1, e2⟩ | ⟨e1, e2⟩
  · rw [e1, e2]
    exact (h3 y hy).put h1
  · rw [e1, e2]
    exact hk.put h1
theorem dn_setRaw {E : Value → Shared → Prop} {a b : Addr} {kvs : List (NestedKey × V)} {k : NestedKey} {v : V} {u : Value} {Q : Unit → Shared → Prop} (hu : X.A.units + 65 < cLine) (I : L2.Inv X pins σ H s) (hd : DN X.prog X.w X.K H a kvs) (hk : KeyAt X.K H k b) (hz : kvs.length < sizeLine) (rv : RelV v u)
    (h : ∀ o s', L2.Inv X pins σ (upd H a o) s' → DN X.prog X.w X.K (upd H a o) a (putK kvs k v) → Q () s') : wpAny (model X.prog X.w) X.A (dictSet a (.ref b) u) Q E s := by
  obtain ⟨xs, ys, h1, rfl, h3, z, nd, pr, dd⟩ := hd.raw I
  have hzy : ys.length ≤ sizeLine := by rw [← Paired.length pr]; exact z
  have hzx : xs.length < sizeLine := by
    have : (kvN xs).length = xs.length := by unfold kvN; rw [List.length_map]
    omega
  refine wpAny_dictSet_heap (hsz := hzy) (show (nestedKind X.prog X.w).room X.A by show X.A.units + 8 < cLine; omega) (hk.is I) dd fun h' dd' hs => ?_
  have he : ∃ q, h'.get? a = some q := let ⟨q, _, _, hq, _⟩ := dd'; ⟨q, hq⟩
  have hl : (putN xs k b v).length ≤ sizeLine := by have := len_putN xs k b v; omega
  refine h (DNo X.prog X.w a (putN xs k b v)) _ (d_write I (dno_mut h1) hs he (dno_ok hl nd (put_pair pr k b rv) dd')) ⟨_, upd_same, kvN_put _ _ _ _, fun x hx => ?_⟩
  rcases mem_putN hx with ⟨y, hy, e1, e2⟩ | ⟨e1, e2⟩
  · rw [e1, e2]
    exact (h3 y hy).put h1
  · rw [e1, e2]
    exact hk.put h1
end
section
variable {X : Cx} {o i value : Expr} {pos pos' : Pos} {td ty tv : TE}
def tDNewN (P : Program) (w : World) (K : PySem.W.Frag) : TE := fun _ H Q => ∀ p o, H p = none → DN P w K (upd H p o) p [] → Q (.ref p) (upd H p o)
theorem pe_dnewN : PE X (.Dict [] [] pos) (tDNewN X.prog X.w X.K) := ⟨fun pins s σ H Q I h =>
  wpAny_Dict_empty ⟨.ref s.heap.objs.size, upd H s.heap.objs.size (DNo X.prog X.w s.heap.objs.size []), I.laid (t' := s.toks) (fun _ _ q => Heap.get?_push_of_some _ q) (Nat.le_refl _)
      (dno_ok (Nat.zero_le _) (beq_eq_false_iff_ne.mpr (Ne.symm (Nat.ne_of_lt I.big))) .nil (Heap.DictOfH.new s.heap)), rfl,
    h _ _ (I.hok.fresh (Nat.le_refl _)) ⟨[], upd_same, rfl, fun _ z => nomatch z⟩⟩⟩
def tDGetN (P : Program) (w : World) (K : PySem.W.Frag) (td ty : TE) : TE := fun σ H Q => td σ H fun x H1 => ty σ H1 fun y H2 => ∃ a b kvs k v, x = .ref a ∧ y = .ref b ∧ DN P w K H2 a kvs ∧ KeyAt K H2 k b ∧ valV kvs k = some v ∧ Q v H2
theorem pe_dgetN (hu : X.A.units + 65 < cLine) (ho : PE X o td) (hi : PE X i ty) (hs : NoSl i) : PE X (.Subscript o i pos) (tDGetN X.prog X.w X.K td ty) := by
  refine ⟨fun pins s σ H Q I h => ?_⟩
  refine subD_of PySem.F.slot_dict_getitem.lookup hs (thn (ho.run pins s σ H _ I h) fun u s1 ⟨x, H1, I1, rx, q1⟩ => thn (hi.run pins s1 σ H1 _ I1 q1) fun iv s2 ⟨y, H2, I2, ry, a, b, kvs, k, v, ex, ey, hd, hk, hv, q2⟩ => ?_)
  subst ex ey
  obtain rfl : u = Value.ref a := rx
  obtain rfl : iv = Value.ref b := ry
  obtain ⟨xs, ys, h1, rfl, h3, z, nd, pr, dd⟩ := hd.raw I2
  refine ⟨dd.typeIs, ?_⟩
  obtain ⟨w', hw, rw'⟩ := RelO.some_of (v := v) (o := (atKey ys k).map (·.2)) (by rw [← hv]; exact at_val pr k)
  obtain ⟨p, hp, rfl⟩ := Option.map_eq_some_iff.mp hw
  exact wpAny_getItem_heap (room8 hu) (hk.is I2) dd hp ⟨v, H2, I2.tok _, rw', q2⟩
def rDInN (P : Program) (w : World) (K : PySem.W.Frag) : R2 := fun y x H Q => ∃ a b kvs k, x = .ref a ∧ y = .ref b ∧ DN P w K H a kvs ∧ KeyAt K H k b ∧ Q (.bl (valV kvs k).isSome) H
theorem op_dinN (hu : X.A.units + 65 < cLine) : OpR X (compareOp .In) (rDInN X.prog X.w X.K) := by
  intro pins s σ H y x iv u Q I ry rx h
  obtain ⟨a, b, kvs, k, rfl, rfl, hd, hk, q⟩ := h
  obtain rfl : u = Value.ref a := rx
  obtain rfl : iv = Value.ref b := ry
  obtain ⟨xs, ys, h1, rfl, h3, z, nd, pr, dd⟩ := hd.raw I
  refine wpAny_in_heap (room8 hu) (hk.is I) nd dd ⟨.bl _, H, I.tok _, ?_, q⟩
  have := (at_val pr k).isSome_eq
  rw [Option.isSome_map] at this
  rw [this]
  rfl
def rDNotInN (P : Program) (w : World) (K : PySem.W.Frag) : R2 := fun y x H Q => ∃ a b kvs k, x = .ref a ∧ y = .ref b ∧ DN P w K H a kvs ∧ KeyAt K H k b ∧ Q (.bl (!(valV kvs k).isSome)) H
theorem op_dnotinN (hu : X.A.units + 65 < cLine) : OpR X (compareOp .NotIn) (rDNotInN X.prog X.w X.K) := by
  intro pins s σ H y x iv u Q I ry rx h
  obtain ⟨a, b, kvs, k, rfl, rfl, hd, hk, q⟩ := h
  obtain rfl : u = Value.ref a := rx
  obtain rfl : iv = Value.ref b := ry
  obtain ⟨xs, ys, h1, rfl, h3, z, nd, pr, dd⟩ := hd.raw I
  refine wpAny_notIn_heap (room8 hu) (hk.is I) nd dd ⟨.bl _, H, I.tok _, ?_, q⟩
  have := (at_val pr k).isSome_eq
  rw [Option.isSome_map] at this
  rw [this]
  rfl
def sDPutN (P : Program) (w : World) (K : PySem.W.Frag) (td ty tv : TE) : TS := fun D σ H => tv σ H fun v H1 => td σ H1 fun x H2 => ty σ H2 fun y H3 => ∃ a b kvs k, x = .ref a ∧ y = .ref b ∧ DN P w K H3 a kvs ∧ KeyAt K H3 k b ∧ kvs.length < sizeLine ∧ ∀ o, DN P w K (upd H3 a o) a (putK kvs k v) → D.nx σ (upd H3 a o)
theorem ps_dputN (hu : X.A.units + 65 < cLine) (ho : PE X o td) (hi : PE X i ty) (hv : PE X value tv) (hs : swapsWith value (some (.Subscript o i pos')) pos.line X.env = pure false) : PS X (.Assign [.Subscript o i pos'] value pos) (sDPutN X.prog X.w X.K td ty tv) := by
  refine ⟨fun pins s σ H D I h => ?_⟩
  refine wpAny_Assign_Subscript (thn (hv.run pins s σ H _ I h) fun r s1 ⟨v, H1, I1, rv, q1⟩ => thn (ho.run pins s1 σ H1 _ I1 q1) fun u s2 ⟨x, H2, I2, rx, q2⟩ => thn (hi.run pins s2 σ H2 _ I2 q2) fun iv s3 ⟨y, H3, I3, ry, a, b, kvs, k, ex, ey, hd, hk, hz, q3⟩ => ?_) hs
  subst ex ey
  obtain rfl : u = Value.ref a := rx
  obtain rfl : iv = Value.ref b := ry
  exact dn_set hu I3 hd hk hz rv fun o' s4 I4 d4 => ⟨σ, _, I4, q3 o' d4⟩
/-- len(d) -/
theorem call_lenN : CallR X (.builtin "len") (fun xs H Q => ∃ a kvs, xs = [.ref a] ∧ DN X.prog X.w X.K H a kvs ∧ Q (.int kvs.length) H) := by
  intro pins s σ H xs us Q I r h
  obtain ⟨a, kvs, rfl, hd, q⟩ := h
  obtain ⟨u, rfl, r1⟩ := vals1 r
  obtain rfl : u = Value.ref a := r1
  obtain ⟨xs, ys, h1, rfl, h3, z, nd, pr, dd⟩ := hd.raw I
  have e : (kvN xs).length = ys.length := by
    unfold kvN
    rw [List.length_map]
    exact Paired.length pr
  rw [e] at q
  exact call_len_dictH nd dd (by rw [← Paired.length pr]; rw [sizeLine_eq] at z; omega) ⟨.int _, H, I.tok _, ⟨_, rfl⟩, q⟩
/-- isinstance(d, c) -/
theorem call_isiN : CallR X (.builtin "isinstance") (fun xs H Q => ∃ (a : Addr) (kvs : List (NestedKey × V)) (c : V) (u : Value) (b : Bool), xs = [.ref a, c] ∧ DN X.prog X.w X.K H a kvs ∧ ClsV c u ∧ PySem.W.kitOne X.K (.type "dict") u = some b ∧ Q (.bl b) H) := by
  intro pins s σ H xs us Q I r h
  obtain ⟨a, kvs, c, u, b, rfl, hd, k, e, q⟩ := h
  obtain ⟨u1, u2, rfl, r1, r2⟩ := vals2 r
  have e2 := k.eq r2
  subst e2
  obtain rfl : u1 = Value.ref a := r1
  obtain ⟨xs, ys, h1, rfl, h3, z, nd, pr, o, es, ep, g1, g2, _⟩ := hd.raw I
  exact PySem.W.kia_one PySem.W.kitx_dict I.kIn ⟨o, g1, g2.1⟩ e (fun z => nomatch z) fun tk => ⟨.bl b, H, I.tok tk, rfl, q⟩
end
end Sh
set_option Elab.async false
set_option linter.all false
set_option maxRecDepth 100000
set_option maxHeartbeats 4000000
namespace Sh
open PySem PySem.Spec PyProof.Rows L2
/-! ### t[::-1] of a tuple -/
theorem adjust_rev (n : Nat) : Builtin.Slice.sliceAdjust none none (-1) (n : Int) = ((n : Int) - 1, -1) := by
  unfold Builtin.Slice.sliceAdjust
  simp
theorem places_rev (n : Nat) : Builtin.Slice.slicePlaces ((n : Int) - 1) (-1) (-1) = n := by
  unfold Builtin.Slice.slicePlaces
  rw [if_neg (by decide)]
  split
  · rw [show -(-1 : Int) = 1 by decide, Int.ediv_one]
    omega
  · show (0 : Int).toNat = n
    have : (n : Int) ≤ 0 := by omega
    show 0 = n
    omega
theorem fm_congr {α β : Type} {f g : α → Option β} : ∀ {l : List α}, (∀ x ∈ l, f x = g x) → l.filterMap f = l.filterMap g
  | [], _ => rfl
  | x :: l, h => by rw [List.filterMap_cons, List.filterMap_cons, h x List.mem_cons_self, fm_congr fun y hy => h y (List.mem_cons_of_mem _ hy)]
theorem pick_rev (xs : Array Value) : ((List.range xs.size).filterMap fun (k : Nat) => xs[(((xs.size : Int) - 1) + (k : Int) * (-1)).toNat]?).toArray = xs.toList.reverse.toArray := by
  congr 1
  have e : ∀ k ∈ List.range xs.size, xs[(((xs.size : Int) - 1) + (k : Int) * (-1)).toNat]? = xs[xs.size - 1 - k]? := fun k hk => by
    have := List.mem_range.mp hk
    congr 1
    omega
  rw [fm_congr e]
  have h2 : (List.range xs.size).filterMap (fun k => xs[xs.size - 1 - k]?) = ((List.range xs.size).map fun k => xs.size - 1 - k).filterMap (xs[·]?) := by
    rw [List.filterMap_map]
    rfl
  rw [h2, PySem.W.krv_range, List.filterMap_reverse, PySem.W.krv_all]
section
variable {prog : Program} {w : World} {A : Around} {E : Value → Shared → Prop} {s : Shared}
theorem sliceApplied_rev {sl : Addr} {vl vu vs : Value} {n : Nat} {Q : Int × Int × Nat → Shared → Prop} (hs : s.heap.IsSliceOf sl vl vu vs) (pl : IsPart vl none) (pu : IsPart vu none) (ps : IsPart vs (some (-1)))
    (h : Q ((n : Int) - 1, -1, n) s) : wpAny (model prog w) A (Builtin.Slice.sliceApplied (.ref sl) (pure (n : Int))) Q E s := by
  obtain ⟨os, hos, hcs, hds⟩ := id hs
  unfold Builtin.Slice.sliceApplied Builtin.Slice.sliceFields
  refine wpAny_bind (wpAny_bind (wpAny_field hos hds (x := vl) rfl (wpAny_bind (wpAny_field hos hds (x := vu) rfl (wpAny_bind (wpAny_field hos hds (x := vs) rfl (wpAny_pure ?_)))))))
  refine wpAny_bind (HT.slicePart_ ps ?_)
  show wpAny _ _ (if ((-1 : Int) == 0) = true then _ else _) _ _ s
  rw [if_neg (by decide)]
  refine wpAny_bind (HT.slicePart_ pl (wpAny_bind (HT.slicePart_ pu (wpAny_bind (wpAny_pure ?_)))))
  show wpAny _ _ (match Builtin.Slice.sliceAdjust none none (-1) (n : Int) with | (lo, hi) => pure (lo, (-1 : Int), Builtin.Slice.slicePlaces lo hi (-1))) _ _ s
  rw [adjust_rev n]
  show wpAny _ _ (pure ((n : Int) - 1, (-1 : Int), Builtin.Slice.slicePlaces ((n : Int) - 1) (-1) (-1))) _ _ s
  rw [places_rev]
  exact wpAny_pure h
theorem getItem_tuple_rev {t sl : Addr} {items : Array Value} {vl vu vs : Value} {Q : Value → Shared → Prop} (ht : IsTup s.heap t items) (hs : s.heap.IsSliceOf sl vl vu vs) (pl : IsPart vl none) (pu : IsPart vu none) (ps : IsPart vs (some (-1)))
    (h : Q (.ref s.heap.objs.size) { s with heap := s.heap.push { cls := .type "tuple", data := .seq items.toList.reverse.toArray } })
    (hsz : items.size ≤ sizeLine) : wpAny (model prog w) A (getItem (.ref t) (.ref sl)) Q E s := by
  have htake : sizeOk (.seq items.toList.reverse.toArray) := by
    show items.toList.reverse.toArray.size ≤ sizeLine
    rw [List.size_toArray, List.length_reverse, Array.length_toList]
    omega
  obtain ⟨os, hos, hcs, hds⟩ := id hs
  have hTs : s.TypeIs (.ref sl) "slice" := ⟨os, hos, hcs⟩
  unfold getItem
  try with_reducible refine wpAny_holding ?_
  first | refine wpAny_bind (wpAny_pure ?_) | skip
  refine wpAny_bind (wpAny_sequenceKey ht.typeIs (by decide) ?_)
  refine wpAny_bind (wpAny_callSpecial?_slot (name := Str.ofString "__getitem__") ht.typeIs PyProof.Rows.slot_tuple_getitem
    (wpAny_call_entry PyProof.Rows.slot_tuple_getitem ht.typeIs entry_tuple_getitem ?_ (args_tuple_getitem _ _)))
  show wpAny _ _ (Builtin.Tuple.tupleItemsOf (.ref t) >>= _) _ _ s
  refine wpAny_bind (tupleItemsOf_ ht ?_)
  refine wpAny_bind (wpAny_typeOf hTs ?_)
  rw [if_pos (by decide)]
  refine wpAny_bind (sliceApplied_rev hs pl pu ps ?_)
  have hno : ¬ (((items.size : Int) - 1 == 0 && (-1 : Int) == 1 && items.size == items.size) = true) := by
    intro q
    rw [Bool.and_eq_true, Bool.and_eq_true] at q
    exact absurd q.1.2 (by decide)
  show wpAny _ _ (if ((items.size : Int) - 1 == 0 && (-1 : Int) == 1 && items.size == items.size) = true then _ else _) _ _ s
  rw [if_neg hno, pick_rev]
  first
    | exact wpAny_bind (m := Builtin.Tuple.tupleExact _) (wpAny_newObj_type (wpAny_pure ⟨_, rfl, wpAny_pure h⟩) htake)
    | exact wpAny_bind (m := Builtin.Tuple.tupleExact _) (wpAny_newObj_type (wpAny_bind (wpAny_pure (wpAny_pure ⟨_, rfl, wpAny_pure h⟩))) htake)
    | exact wpAny_bind (wpAny_bind (m := Builtin.Tuple.tupleExact _) (wpAny_newObj_type (wpAny_pure (wpAny_pure ⟨_, rfl, wpAny_pure h⟩)) htake))
    | exact wpAny_bind (wpAny_bind (m := Builtin.Tuple.tupleExact _) (wpAny_newObj_type (wpAny_pure ⟨_, rfl, wpAny_pure h⟩) htake))
end
section
variable {X : Cx}
def tRevT (K : PySem.W.Frag) (te : TE) : TE := fun σ H Q => te σ H fun x H1 => ∃ a xs, x = .ref a ∧ SqT K H1 a xs ∧ ∀ p, H1 p = none → Q (.ref p) (upd H1 p (.tup xs.reverse))
theorem pe_revT {e : Expr} {te : TE} {k : Nat} {p1 p2 p3 pos : Pos} (he : PE X e te) : PE X (.Subscript e (.Slice none none (some (.UnaryOp .USub (.Constant (.int 1) k p1) p2)) p3) pos) (tRevT X.K te) := by
  refine ⟨fun pins s σ H Q I h => ?_⟩
  refine Subscript_ (thn (he.run pins s σ H _ I h) fun v s1 ⟨x, H1, I1, r1, q1⟩ => ?_)
  obtain ⟨a, xs, ex, hx, q⟩ := q1
  subst ex
  cases r1
  have hst : PO X (some (.UnaryOp .USub (.Constant (.int 1) k p1) p2)) (tPart (tUn (rU fun i => .int (-i)) (tC (.int 1)))) := po_some (pe_un un_neg pe_int)
  refine wpAny_Slice (thn (po_none.run pins s1 σ H1 (fun o H2 => o = none ∧ H2 = H1) I1 ⟨rfl, rfl⟩) fun vl s2 ⟨l, H2, I2, pl, el, e2⟩ => ?_)
  subst el e2
  refine thn (po_none.run pins s2 σ H2 (fun o H3 => o = none ∧ H3 = H2) I2 ⟨rfl, rfl⟩) fun vu s3 ⟨u, H3, I3, pu, eu, e3⟩ => ?_
  subst eu e3
  refine thn (hst.run pins s3 σ H3 (fun o H4 => o = some (-1) ∧ H4 = H3) I3 ⟨1, rfl, -1, rfl, rfl, rfl⟩) fun vs s4 ⟨o, H4, I4, ps, eo, e4⟩ => ?_
  subst eo e4
  have I5 : L2.Inv X pins σ H4 { s4 with heap := s4.heap.push { cls := .type "slice", data := .fields #[vl, vu, vs] } } := I4.kept (t' := s4.toks) fun b ob q => Heap.get?_push_of_some _ q
  obtain ⟨its, r, ht, hz⟩ := I5.tuple hx
  have hlen := r.length
  show wpAny (model X.prog X.w) X.A (subscriptTail e (.Slice none none (some (.UnaryOp .USub (.Constant (.int 1) k p1) p2)) p3) (.ref a) (.ref s4.heap.objs.size)) (EP X pins σ Q) X.xe { s4 with heap := s4.heap.push { cls := .type "slice", data := .fields #[vl, vu, vs] } }
  refine tail_any (ops := [.ref a, .ref s4.heap.objs.size]) ht.typeIs (PyProof.Rows.slot_tuple_getitem.lookup) ?_ (by with_unfolding_all rfl)
  refine getItem_tuple_rev ht (Heap.IsSliceOf.new _ vl vu vs) pl pu ps ?_ (by rw [List.size_toArray]; omega)
  refine ⟨.ref _, _, I5.laid (t' := s4.toks) (o := .tup xs.reverse) (fun b ob q => Heap.get?_push_of_some _ q) (Nat.le_refl _) ?_, rfl, q _ (I5.hok.fresh (Nat.le_refl _))⟩
  exact ⟨by rw [List.length_reverse]; exact hz, _, r.reverse, ⟨_, Heap.get?_push_size _ rfl, rfl, _, rfl⟩⟩
end
end Sh
set_option Elab.async false
set_option linter.all false
set_option maxRecDepth 100000
set_option maxHeartbeats 4000000
namespace Toy
open PySem L2 Sh ShL LamX NdefX
def top (i : Nat) : Stmt := PySem.Challenge.pw_treeshed_k55_due_values.main.body.getD i (.Pass ⟨0, 0, 0, 0⟩)
abbrev s_x_BadLetters : Stmt := inClass (top 3) 0
theorem sc_x_BadLetters : NdefX.NScope ["self", "letters", "__class__"] ["self", "letters"] ["__class__"] (defScope s_x_BadLetters) := NdefX.nscope_by (by decide +kernel)
abbrev s_x_TooMany : Stmt := inClass (top 4) 0
theorem sc_x_TooMany : NdefX.NScope ["self", "what", "many", "most", "__class__"] ["self", "what", "many", "most"] ["__class__"] (defScope s_x_TooMany) := NdefX.nscope_by (by decide +kernel)
abbrev s_x_BadRow : Stmt := inClass (top 5) 0
theorem sc_x_BadRow : NdefX.NScope ["self", "number", "__class__"] ["self", "number"] ["__class__"] (defScope s_x_BadRow) := NdefX.nscope_by (by decide +kernel)
abbrev s_x_Lone : Stmt := inClass (top 6) 0
theorem sc_x_Lone : NdefX.NScope ["self", "place", "__class__"] ["self", "place"] ["__class__"] (defScope s_x_Lone) := NdefX.nscope_by (by decide +kernel)
abbrev s_x_NoPlace : Stmt := inClass (top 7) 0
theorem sc_x_NoPlace : NdefX.NScope ["self", "place", "__class__"] ["self", "place"] ["__class__"] (defScope s_x_NoPlace) := NdefX.nscope_by (by decide +kernel)
abbrev s_is_letters : Stmt := top 16
abbrev N_is_letters : List Str := ["letters", "letter"]
theorem sc_is_letters : FnScope ["letters", "letter"] ["letters"] (defScope s_is_letters) := ⟨rfl, rfl, rfl, by decide +kernel, rfl, by decide +kernel, by decide +kernel⟩
abbrev s_is_word : Stmt := top 17
abbrev N_is_word : List Str := ["letters", "word", "letter"]
theorem sc_is_word : FnScope ["letters", "word", "letter"] ["letters", "word"] (defScope s_is_word) := ⟨rfl, rfl, rfl, by decide +kernel, rfl, by decide +kernel, by decide +kernel⟩
abbrev s_is_value : Stmt := top 18
abbrev N_is_value : List Str := ["value"]
theorem sc_is_value : FnScope ["value"] ["value"] (defScope s_is_value) := ⟨rfl, rfl, rfl, by decide +kernel, rfl, by decide +kernel, by decide +kernel⟩
abbrev s_is_row : Stmt := top 19
abbrev N_is_row : List Str := ["letters", "row", "place", "value", "flag"]
theorem sc_is_row : FnScope ["letters", "row", "place", "value", "flag"] ["letters", "row"] (defScope s_is_row) := ⟨rfl, rfl, rfl, by decide +kernel, rfl, by decide +kernel, by decide +kernel⟩
abbrev s_in_order : Stmt := top 20
abbrev N_in_order : List Str := ["letters", "places", "letter"]
theorem sc_in_order : FnScope ["letters", "places", "letter"] ["letters", "places"] (defScope s_in_order) := ⟨rfl, rfl, rfl, by decide +kernel, rfl, by decide +kernel, by decide +kernel⟩
abbrev s_Tree_init : Stmt := inClass (top 23) 0
abbrev N_Tree_init : List Str := ["self", "letters", "rows", "found", "number", "row", "children", "place"]
theorem sc_Tree_init : FnScope ["self", "letters", "rows", "found", "number", "row", "children", "place"] ["self", "letters", "rows"] (defScope s_Tree_init) := ⟨rfl, rfl, rfl, by decide +kernel, rfl, by decide +kernel, by decide +kernel⟩
abbrev s_Tree_has : Stmt := inClass (top 23) 2
abbrev N_Tree_has : List Str := ["self", "place"]
theorem sc_Tree_has : FnScope ["self", "place"] ["self", "place"] (defScope s_Tree_has) := ⟨rfl, rfl, rfl, by decide +kernel, rfl, by decide +kernel, by decide +kernel⟩
abbrev s_Tree_value_of : Stmt := inClass (top 23) 5
abbrev N_Tree_value_of : List Str := ["self", "word"]
theorem sc_Tree_value_of : FnScope ["self", "word"] ["self", "word"] (defScope s_Tree_value_of) := ⟨rfl, rfl, rfl, by decide +kernel, rfl, by decide +kernel, by decide +kernel⟩
abbrev s_as_tuples : Stmt := top 25
abbrev N_as_tuples : List Str := ["value", "part"]
theorem sc_as_tuples : FnScope ["value", "part"] ["value"] (defScope s_as_tuples) := ⟨rfl, rfl, rfl, by decide +kernel, rfl, by decide +kernel, by decide +kernel⟩
abbrev s_Merged_init : Stmt := inClass (top 26) 0
abbrev N_Merged_init : List Str := ["self", "tree", "taken"]
theorem sc_Merged_init : FnScope ["self", "tree", "taken"] ["self", "tree", "taken"] (defScope s_Merged_init) := ⟨rfl, rfl, rfl, by decide +kernel, rfl, by decide +kernel, by decide +kernel⟩
abbrev s_Clash_init : Stmt := inClass (top 27) 0
abbrev N_Clash_init : List Str := ["self", "place"]
theorem sc_Clash_init : FnScope ["self", "place"] ["self", "place"] (defScope s_Clash_init) := ⟨rfl, rfl, rfl, by decide +kernel, rfl, by decide +kernel, by decide +kernel⟩
abbrev s_check_letters : Stmt := top 28
abbrev N_check_letters : List Str := ["base", "one", "other"]
theorem sc_check_letters : FnScope ["base", "one", "other"] ["base", "one", "other"] (defScope s_check_letters) := ⟨rfl, rfl, rfl, by decide +kernel, rfl, by decide +kernel, by decide +kernel⟩
abbrev s_part_numbers : Stmt := top 29
abbrev N_part_numbers : List Str := ["trees", "known", "found", "tree", "numbers", "below", "place", "value", "flag", "key", "row"]
theorem sc_part_numbers : FnScope ["trees", "known", "found", "tree", "numbers", "below", "place", "value", "flag", "key", "row"] ["trees"] (defScope s_part_numbers) := ⟨rfl, rfl, rfl, by decide +kernel, rfl, by decide +kernel, by decide +kernel⟩
abbrev s_way_of : Stmt := top 30
abbrev N_way_of : List Str := ["plan", "base", "one", "other"]
theorem sc_way_of : FnScope ["plan", "base", "one", "other"] ["plan", "base", "one", "other"] (defScope s_way_of) := ⟨rfl, rfl, rfl, by decide +kernel, rfl, by decide +kernel, by decide +kernel⟩
abbrev s_cells_met : Stmt := top 31
abbrev N_cells_met : List Str := ["plan", "cells", "base", "gone"]
theorem sc_cells_met : FnScope ["plan", "cells", "base", "gone"] ["plan", "cells"] (defScope s_cells_met) := ⟨rfl, rfl, rfl, by decide +kernel, rfl, by decide +kernel, by decide +kernel⟩
abbrev s_cell_merged : Stmt := top 32
abbrev N_cell_merged : List Str := ["plan", "cells", "base", "one", "other", "flag"]
theorem sc_cell_merged : FnScope ["plan", "cells", "base", "one", "other", "flag"] ["plan", "cells"] (defScope s_cell_merged) := ⟨rfl, rfl, rfl, by decide +kernel, rfl, by decide +kernel, by decide +kernel⟩
abbrev s_rows_left : Stmt := top 34
abbrev N_rows_left : List Str := ["plan", "went", "taken", "many", "rows", "place", "side", "value", "flag", "children"]
theorem sc_rows_left : FnScope ["plan", "went", "taken", "many", "rows", "place", "side", "value", "flag", "children"] ["plan", "went", "taken"] (defScope s_rows_left) := ⟨rfl, rfl, rfl, by decide +kernel, rfl, by decide +kernel, by decide +kernel⟩
abbrev s_rows_taken : Stmt := top 35
abbrev N_rows_taken : List Str := ["tree", "places", "heads", "inside", "rows", "row", "place"]
theorem sc_rows_taken : FnScope ["tree", "places", "heads", "inside", "rows", "row", "place"] ["tree", "places"] (defScope s_rows_taken) := ⟨rfl, rfl, rfl, by decide +kernel, rfl, by decide +kernel, by decide +kernel⟩
abbrev s_merge_part : Stmt := top 33
abbrev N_merge_part : List Str := ["plan", "trees", "start", "numbers", "cells", "went", "taken", "ahead", "place", "base", "one", "other", "way", "cell", "letters", "rows", "tree", "side", "value", "flag", "found", "letter", "whose"]
theorem sc_merge_part : FnScope ["plan", "trees", "start", "numbers", "cells", "went", "taken", "ahead", "place", "base", "one", "other", "way", "cell", "letters", "rows", "tree", "side", "value", "flag", "found", "letter", "whose"] ["plan", "trees", "start"] (defScope s_merge_part) := ⟨rfl, rfl, rfl, by decide +kernel, rfl, by decide +kernel, by decide +kernel⟩
abbrev s_merged : Stmt := top 36
abbrev N_merged : List Str := ["plan", "base", "one", "other", "place", "rows", "taken"]
theorem sc_merged : FnScope ["plan", "base", "one", "other", "place", "rows", "taken"] ["plan", "base", "one", "other"] (defScope s_merged) := ⟨rfl, rfl, rfl, by decide +kernel, rfl, by decide +kernel, by decide +kernel⟩
abbrev s_due_values : Stmt := top 37
abbrev N_due_values : List Str := ["was", "left", "right"]
theorem sc_due_values : FnScope ["was", "left", "right"] ["was", "left", "right"] (defScope s_due_values) := ⟨rfl, rfl, rfl, by decide +kernel, rfl, by decide +kernel, by decide +kernel⟩
abbrev s_due : Stmt := top 38
abbrev N_due : List Str := ["base", "one", "other", "word"]
theorem sc_due : FnScope ["base", "one", "other", "word"] ["base", "one", "other", "word"] (defScope s_due) := ⟨rfl, rfl, rfl, by decide +kernel, rfl, by decide +kernel, by decide +kernel⟩
abbrev s_is_one_of : Stmt := top 44
abbrev N_is_one_of : List Str := ["value", "names"]
theorem sc_is_one_of : FnScope ["value", "names"] ["value", "names"] (defScope s_is_one_of) := ⟨rfl, rfl, rfl, by decide +kernel, rfl, by decide +kernel, by decide +kernel⟩
abbrev s_are_flags : Stmt := top 45
abbrev N_are_flags : List Str := ["flags", "key"]
theorem sc_are_flags : FnScope ["flags", "key"] ["flags"] (defScope s_are_flags) := ⟨rfl, rfl, rfl, by decide +kernel, rfl, by decide +kernel, by decide +kernel⟩
abbrev s_Plan_init : Stmt := inClass (top 46) 0
abbrev N_Plan_init : List Str := ["self", "gone", "alike", "unlike", "tidy", "flags", "key"]
theorem sc_Plan_init : FnScope ["self", "gone", "alike", "unlike", "tidy", "flags", "key"] ["self", "gone", "alike", "unlike", "tidy", "flags"] (defScope s_Plan_init) := ⟨rfl, rfl, rfl, by decide +kernel, rfl, by decide +kernel, by decide +kernel⟩
abbrev s_l_pen_of : Stmt := top 48
abbrev N_l_pen_of : List Str := ["_law_script"]
theorem sc_l_pen_of : FnScope ["_law_script"] ["_law_script"] (defScope s_l_pen_of) := ⟨rfl, rfl, rfl, by decide +kernel, rfl, by decide +kernel, by decide +kernel⟩
abbrev s_l_draw : Stmt := top 49
abbrev N_l_draw : List Str := ["_law_pen", "_law_many", "_law_digit", "_law_index", "_law_size", "_law_cell_here", "_law_mixed"]
theorem sc_l_draw : FnScope ["_law_pen", "_law_many", "_law_digit", "_law_index", "_law_size", "_law_cell_here", "_law_mixed"] ["_law_pen", "_law_many"] (defScope s_l_draw) := ⟨rfl, rfl, rfl, by decide +kernel, rfl, by decide +kernel, by decide +kernel⟩
abbrev s_l_pick : Stmt := top 50
abbrev N_l_pick : List Str := ["_law_pen", "_law_items"]
theorem sc_l_pick : FnScope ["_law_pen", "_law_items"] ["_law_pen", "_law_items"] (defScope s_l_pick) := ⟨rfl, rfl, rfl, by decide +kernel, rfl, by decide +kernel, by decide +kernel⟩
abbrev s_l_letters : Stmt := top 51
abbrev N_l_letters : List Str := ["_law_pen"]
theorem sc_l_letters : FnScope ["_law_pen"] ["_law_pen"] (defScope s_l_letters) := ⟨rfl, rfl, rfl, by decide +kernel, rfl, by decide +kernel, by decide +kernel⟩
abbrev s_l_cell : Stmt := top 52
abbrev N_l_cell : List Str := ["_law_pen", "_law_value"]
theorem sc_l_cell : FnScope ["_law_pen", "_law_value"] ["_law_pen"] (defScope s_l_cell) := ⟨rfl, rfl, rfl, by decide +kernel, rfl, by decide +kernel, by decide +kernel⟩
abbrev s_l_grown : Stmt := top 53
abbrev N_l_grown : List Str := ["_law_pen", "_law_letters_here", "_law_found", "_law_many", "_law_turn", "_law_place"]
theorem sc_l_grown : FnScope ["_law_pen", "_law_letters_here", "_law_found", "_law_many", "_law_turn", "_law_place"] ["_law_pen", "_law_letters_here", "_law_found", "_law_many"] (defScope s_l_grown) := ⟨rfl, rfl, rfl, by decide +kernel, rfl, by decide +kernel, by decide +kernel⟩
abbrev s_l_edited : Stmt := top 54
abbrev N_l_edited : List Str := ["_law_pen", "_law_letters_here", "_law_found", "_law_many", "_law_turn", "_law_way", "_law_place", "_law_gone", "_law_other"]
theorem sc_l_edited : FnScope ["_law_pen", "_law_letters_here", "_law_found", "_law_many", "_law_turn", "_law_way", "_law_place", "_law_gone", "_law_other"] ["_law_pen", "_law_letters_here", "_law_found", "_law_many"] (defScope s_l_edited) := ⟨rfl, rfl, rfl, by decide +kernel, rfl, by decide +kernel, by decide +kernel⟩
abbrev s_l_three : Stmt := top 55
abbrev N_l_three : List Str := ["_law_pen", "_law_letters_here", "_law_many", "_law_base", "_law_way", "_law_one", "_law_other"]
theorem sc_l_three : FnScope ["_law_pen", "_law_letters_here", "_law_many", "_law_base", "_law_way", "_law_one", "_law_other"] ["_law_pen", "_law_letters_here", "_law_many"] (defScope s_l_three) := ⟨rfl, rfl, rfl, by decide +kernel, rfl, by decide +kernel, by decide +kernel⟩
abbrev s_l_order : Stmt := top 56
abbrev N_l_order : List Str := ["_law_letters_here", "_law_places", "_law_sign"]
theorem sc_l_order : FnScope ["_law_letters_here", "_law_places", "_law_sign"] ["_law_letters_here", "_law_places"] (defScope s_l_order) := ⟨rfl, rfl, rfl, by decide +kernel, rfl, by decide +kernel, by decide +kernel⟩
abbrev s_l_rows : Stmt := top 57
abbrev N_l_rows : List Str := ["_law_letters_here", "_law_found", "_law_place"]
theorem sc_l_rows : FnScope ["_law_letters_here", "_law_found", "_law_place"] ["_law_letters_here", "_law_found"] (defScope s_l_rows) := ⟨rfl, rfl, rfl, by decide +kernel, rfl, by decide +kernel, by decide +kernel⟩
abbrev s_l_tree : Stmt := top 58
abbrev N_l_tree : List Str := ["_law_letters_here", "_law_found"]
theorem sc_l_tree : FnScope ["_law_letters_here", "_law_found"] ["_law_letters_here", "_law_found"] (defScope s_l_tree) := ⟨rfl, rfl, rfl, by decide +kernel, rfl, by decide +kernel, by decide +kernel⟩
abbrev s_l_value_of : Stmt := top 59
abbrev N_l_value_of : List Str := ["_law_found", "_law_word"]
theorem sc_l_value_of : FnScope ["_law_found", "_law_word"] ["_law_found", "_law_word"] (defScope s_l_value_of) := ⟨rfl, rfl, rfl, by decide +kernel, rfl, by decide +kernel, by decide +kernel⟩
abbrev s_l_due : Stmt := top 60
abbrev N_l_due : List Str := ["_law_three_here", "_law_word", "_law_was", "_law_left", "_law_right", "_law_found"]
theorem sc_l_due : FnScope ["_law_three_here", "_law_word", "_law_was", "_law_left", "_law_right", "_law_found"] ["_law_three_here", "_law_word"] (defScope s_l_due) := ⟨rfl, rfl, rfl, by decide +kernel, rfl, by decide +kernel, by decide +kernel⟩
abbrev s_l_asked_words : Stmt := top 61
abbrev N_l_asked_words : List Str := ["_law_pen", "_law_letters_here", "_law_three_here", "_law_words"]
theorem sc_l_asked_words : FnScope ["_law_pen", "_law_letters_here", "_law_three_here", "_law_words"] ["_law_pen", "_law_letters_here", "_law_three_here"] (defScope s_l_asked_words) := ⟨rfl, rfl, rfl, by decide +kernel, rfl, by decide +kernel, by decide +kernel⟩
abbrev s_l_odd_so : Stmt := top 62
abbrev N_l_odd_so : List Str := ["_law_pen", "_law_trees", "_law_word"]
theorem sc_l_odd_so : FnScope ["_law_pen", "_law_trees", "_law_word"] ["_law_pen", "_law_trees"] (defScope s_l_odd_so) := ⟨rfl, rfl, rfl, by decide +kernel, rfl, by decide +kernel, by decide +kernel⟩
abbrev s_l_merged_so : Stmt := top 63
abbrev N_l_merged_so : List Str := ["_law_pen", "_law_trees", "_law_three_here", "_law_words", "_law_plan", "_law_told", "_law_word", "_law_values"]
theorem sc_l_merged_so : FnScope ["_law_pen", "_law_trees", "_law_three_here", "_law_words", "_law_plan", "_law_told", "_law_word", "_law_values"] ["_law_pen", "_law_trees", "_law_three_here", "_law_words"] (defScope s_l_merged_so) := ⟨rfl, rfl, rfl, by decide +kernel, rfl, by decide +kernel, by decide +kernel⟩
abbrev s_law : Stmt := top 64
abbrev N_law : List Str := ["_law_script", "_law_pen", "_law_turn", "_law_letters_here", "_law_three_here", "_law_trees", "_law_words", "_law_word", "_law_told", "_law_found"]
theorem sc_law : FnScope ["_law_script", "_law_pen", "_law_turn", "_law_letters_here", "_law_three_here", "_law_trees", "_law_words", "_law_word", "_law_told", "_law_found"] ["_law_script"] (defScope s_law) := ⟨rfl, rfl, rfl, by decide +kernel, rfl, by decide +kernel, by decide +kernel⟩
structure Tx (P : Program) (K : PySem.W.Frag) (mg : Str → Option Value) where
  b_super : mg "super" = none
  c_ShedError : Addr
  m_ShedError : mg "ShedError" = some (.ref c_ShedError)
  iS : (PySem.W.clsIn K c_ShedError).isSome = true
  tS : PySem.W.typeIn K (.ref c_ShedError) = some (.type "type")
  o_get : PySem.W.specialIn K (.builtin "object.__class__") "__get__" = some (some (.builtin "getset_descriptor.__get__"))
  o_tk : PySem.W.takesIn K (.builtin "object.__class__") = some true
  c_BadLetters : Addr
  m_BadLetters : mg "BadLetters" = some (.ref c_BadLetters)
  x_BadLetters : XCls K c_ShedError c_BadLetters
  c_TooMany : Addr
  m_TooMany : mg "TooMany" = some (.ref c_TooMany)
  x_TooMany : XCls K c_ShedError c_TooMany
  c_BadRow : Addr
  m_BadRow : mg "BadRow" = some (.ref c_BadRow)
  x_BadRow : XCls K c_ShedError c_BadRow
  c_Lone : Addr
  m_Lone : mg "Lone" = some (.ref c_Lone)
  x_Lone : XCls K c_ShedError c_Lone
  c_NoPlace : Addr
  m_NoPlace : mg "NoPlace" = some (.ref c_NoPlace)
  x_NoPlace : XCls K c_ShedError c_NoPlace
  a_x_BadLetters : Addr
  fd_x_BadLetters : FuncData
  i_BadLetters : XInit P K mg c_BadLetters a_x_BadLetters "BadLetters.__init__" s_x_BadLetters fd_x_BadLetters
  nf_BadLetters_letters : PySem.W.findIn K (.ref c_BadLetters) "letters" = some none
  a_x_TooMany : Addr
  fd_x_TooMany : FuncData
  i_TooMany : XInit P K mg c_TooMany a_x_TooMany "TooMany.__init__" s_x_TooMany fd_x_TooMany
  nf_TooMany_what : PySem.W.findIn K (.ref c_TooMany) "what" = some none
  nf_TooMany_many : PySem.W.findIn K (.ref c_TooMany) "many" = some none
  nf_TooMany_most : PySem.W.findIn K (.ref c_TooMany) "most" = some none
  a_x_BadRow : Addr
  fd_x_BadRow : FuncData
  i_BadRow : XInit P K mg c_BadRow a_x_BadRow "BadRow.__init__" s_x_BadRow fd_x_BadRow
  nf_BadRow_number : PySem.W.findIn K (.ref c_BadRow) "number" = some none
  a_x_Lone : Addr
  fd_x_Lone : FuncData
  i_Lone : XInit P K mg c_Lone a_x_Lone "Lone.__init__" s_x_Lone fd_x_Lone
  nf_Lone_place : PySem.W.findIn K (.ref c_Lone) "place" = some none
  a_x_NoPlace : Addr
  fd_x_NoPlace : FuncData
  i_NoPlace : XInit P K mg c_NoPlace a_x_NoPlace "NoPlace.__init__" s_x_NoPlace fd_x_NoPlace
  nf_NoPlace_place : PySem.W.findIn K (.ref c_NoPlace) "place" = some none
  kb_BadLetters_1 : KBn K fd_x_BadLetters ["self", "letters"] 2 [] rotU rotV
  kb_TooMany_3 : KBn K fd_x_TooMany ["self", "what", "many", "most"] 4 [] rotU rotV
  kb_BadRow_1 : KBn K fd_x_BadRow ["self", "number"] 2 [] rotU rotV
  kb_Lone_1 : KBn K fd_x_Lone ["self", "place"] 2 [] rotU rotV
  xnd : [c_BadLetters, c_TooMany, c_BadRow, c_Lone, c_NoPlace, c_ShedError].Nodup
  b_len : mg "len" = none
  b_isinstance : mg "isinstance" = none
  b_int : mg "int" = none
  b_list : mg "list" = none
  b_sorted : mg "sorted" = none
  b_abs : mg "abs" = none
  b_range : mg "range" = none
  b_tuple : mg "tuple" = none
  b_max : mg "max" = none
  b_min : mg "min" = none
  b_all : mg "all" = none
  b_any : mg "any" = none
  b_enumerate : mg "enumerate" = none
  b_str : mg "str" = none
  b_bool : mg "bool" = none
  b_dict : mg "dict" = none
  c_Tree : Addr
  m_Tree : mg "Tree" = some (.ref c_Tree)
  cl_Tree : Cls K c_Tree
  na_Tree_letters : NoAttr K c_Tree "letters"
  na_Tree_rows : NoAttr K c_Tree "rows"
  na_Tree_size : NoAttr K c_Tree "size"
  na_Tree_height : NoAttr K c_Tree "height"
  na_Tree_triples : NoAttr K c_Tree "triples"
  na_Tree_ways : NoAttr K c_Tree "ways"
  c_Merged : Addr
  m_Merged : mg "Merged" = some (.ref c_Merged)
  cl_Merged : Cls K c_Merged
  na_Merged_tree : NoAttr K c_Merged "tree"
  na_Merged_taken : NoAttr K c_Merged "taken"
  c_Clash : Addr
  m_Clash : mg "Clash" = some (.ref c_Clash)
  cl_Clash : Cls K c_Clash
  na_Clash_place : NoAttr K c_Clash "place"
  c_Plan : Addr
  m_Plan : mg "Plan" = some (.ref c_Plan)
  cl_Plan : Cls K c_Plan
  na_Plan_gone : NoAttr K c_Plan "gone"
  na_Plan_alike : NoAttr K c_Plan "alike"
  na_Plan_unlike : NoAttr K c_Plan "unlike"
  na_Plan_tidy : NoAttr K c_Plan "tidy"
  na_Plan_by_kind : NoAttr K c_Plan "by_kind"
  m_SMALL : ∃ t, mg "SMALL" = some (.str "abcdefghijklmnopqrstuvwxyz" t)
  m_MOST_LETTERS : ∃ t, mg "MOST_LETTERS" = some (.int 200 t)
  m_MOST_PLACES : ∃ t, mg "MOST_PLACES" = some (.int 2000 t)
  m_MOST_VALUE : ∃ t, mg "MOST_VALUE" = some (.int 9 t)
  g_GONE : Addr
  m_GONE : mg "GONE" = some (.ref g_GONE)
  y_GONE : ∃ o, K.lookup g_GONE = some o ∧ o.cls = .type "tuple" ∧ o.dict = none
  q_GONE : ∀ H, SqT K H g_GONE [.str "clash", .str "kept", .str "bare", .str "base"]
  g_ALIKE : Addr
  m_ALIKE : mg "ALIKE" = some (.ref g_ALIKE)
  y_ALIKE : ∃ o, K.lookup g_ALIKE = some o ∧ o.cls = .type "tuple" ∧ o.dict = none
  q_ALIKE : ∀ H, SqT K H g_ALIKE [.str "take", .str "clash"]
  g_UNLIKE : Addr
  m_UNLIKE : mg "UNLIKE" = some (.ref g_UNLIKE)
  y_UNLIKE : ∃ o, K.lookup g_UNLIKE = some o ∧ o.cls = .type "tuple" ∧ o.dict = none
  q_UNLIKE : ∀ H, SqT K H g_UNLIKE [.str "clash", .str "one", .str "other"]
  g_KEYS_0 : Addr
  q_KEYS_0 : ∀ H, SqT K H g_KEYS_0 [.bl true, .bl true, .int 0]
  g_KEYS_1 : Addr
  q_KEYS_1 : ∀ H, SqT K H g_KEYS_1 [.bl true, .bl true, .int 1]
  g_KEYS_2 : Addr
  q_KEYS_2 : ∀ H, SqT K H g_KEYS_2 [.bl true, .bl true, .int 2]
  g_KEYS_3 : Addr
  q_KEYS_3 : ∀ H, SqT K H g_KEYS_3 [.bl true, .bl false, .int 0]
  g_KEYS_4 : Addr
  q_KEYS_4 : ∀ H, SqT K H g_KEYS_4 [.bl true, .bl false, .int 1]
  g_KEYS_5 : Addr
  q_KEYS_5 : ∀ H, SqT K H g_KEYS_5 [.bl true, .bl false, .int 2]
  g_KEYS_6 : Addr
  q_KEYS_6 : ∀ H, SqT K H g_KEYS_6 [.bl false, .bl true, .int 0]
  g_KEYS_7 : Addr
  q_KEYS_7 : ∀ H, SqT K H g_KEYS_7 [.bl false, .bl true, .int 1]
  g_KEYS_8 : Addr
  q_KEYS_8 : ∀ H, SqT K H g_KEYS_8 [.bl false, .bl true, .int 2]
  g_KEYS_9 : Addr
  q_KEYS_9 : ∀ H, SqT K H g_KEYS_9 [.bl false, .bl false, .int 0]
  g_KEYS_10 : Addr
  q_KEYS_10 : ∀ H, SqT K H g_KEYS_10 [.bl false, .bl false, .int 1]
  g_KEYS_11 : Addr
  q_KEYS_11 : ∀ H, SqT K H g_KEYS_11 [.bl false, .bl false, .int 2]
  g_KEYS : Addr
  m_KEYS : mg "KEYS" = some (.ref g_KEYS)
  y_KEYS : ∃ o, K.lookup g_KEYS = some o ∧ o.cls = .type "tuple" ∧ o.dict = none
  q_KEYS : ∀ H, SqT K H g_KEYS [.ref g_KEYS_0, .ref g_KEYS_1, .ref g_KEYS_2, .ref g_KEYS_3, .ref g_KEYS_4, .ref g_KEYS_5, .ref g_KEYS_6, .ref g_KEYS_7, .ref g_KEYS_8, .ref g_KEYS_9, .ref g_KEYS_10, .ref g_KEYS_11]
  a_is_letters : Addr
  fd_is_letters : FuncData
  F_is_letters : Fun K "is_letters" "is_letters" s_is_letters a_is_letters fd_is_letters
  bi_is_letters : Binds K fd_is_letters ["letters"] []
  m_is_letters : mg "is_letters" = some (.ref a_is_letters)
  a_is_word : Addr
  fd_is_word : FuncData
  F_is_word : Fun K "is_word" "is_word" s_is_word a_is_word fd_is_word
  bi_is_word : Binds K fd_is_word ["letters", "word"] []
  m_is_word : mg "is_word" = some (.ref a_is_word)
  a_is_value : Addr
  fd_is_value : FuncData
  F_is_value : Fun K "is_value" "is_value" s_is_value a_is_value fd_is_value
  bi_is_value : Binds K fd_is_value ["value"] []
  m_is_value : mg "is_value" = some (.ref a_is_value)
  a_is_row : Addr
  fd_is_row : FuncData
  F_is_row : Fun K "is_row" "is_row" s_is_row a_is_row fd_is_row
  bi_is_row : Binds K fd_is_row ["letters", "row"] []
  m_is_row : mg "is_row" = some (.ref a_is_row)
  a_in_order : Addr
  fd_in_order : FuncData
  F_in_order : Fun K "in_order" "in_order" s_in_order a_in_order fd_in_order
  bi_in_order : Binds K fd_in_order ["letters", "places"] []
  m_in_order : mg "in_order" = some (.ref a_in_order)
  a_Tree_init : Addr
  fd_Tree_init : FuncData
  F_Tree_init : Fun K "__init__" "Tree.__init__" s_Tree_init a_Tree_init fd_Tree_init
  bi_Tree_init : Binds K fd_Tree_init ["self", "letters", "rows"] []
  mk_Tree : Mk K c_Tree a_Tree_init
  a_Tree_has : Addr
  fd_Tree_has : FuncData
  F_Tree_has : Fun K "has" "Tree.has" s_Tree_has a_Tree_has fd_Tree_has
  bi_Tree_has : Binds K fd_Tree_has ["self", "place"] []
  me_Tree_has : Meth K c_Tree "has" a_Tree_has
  a_Tree_value_of : Addr
  fd_Tree_value_of : FuncData
  F_Tree_value_of : Fun K "value_of" "Tree.value_of" s_Tree_value_of a_Tree_value_of fd_Tree_value_of
  bi_Tree_value_of : Binds K fd_Tree_value_of ["self", "word"] []
  me_Tree_value_of : Meth K c_Tree "value_of" a_Tree_value_of
  a_as_tuples : Addr
  fd_as_tuples : FuncData
  F_as_tuples : Fun K "as_tuples" "as_tuples" s_as_tuples a_as_tuples fd_as_tuples
  bi_as_tuples : Binds K fd_as_tuples ["value"] []
  m_as_tuples : mg "as_tuples" = some (.ref a_as_tuples)
  a_Merged_init : Addr
  fd_Merged_init : FuncData
  F_Merged_init : Fun K "__init__" "Merged.__init__" s_Merged_init a_Merged_init fd_Merged_init
  bi_Merged_init : Binds K fd_Merged_init ["self", "tree", "taken"] []
  mk_Merged : Mk K c_Merged a_Merged_init
  a_Clash_init : Addr
  fd_Clash_init : FuncData
  F_Clash_init : Fun K "__init__" "Clash.__init__" s_Clash_init a_Clash_init fd_Clash_init
  bi_Clash_init : Binds K fd_Clash_init ["self", "place"] []
  mk_Clash : Mk K c_Clash a_Clash_init
  a_check_letters : Addr
  fd_check_letters : FuncData
  F_check_letters : Fun K "check_letters" "check_letters" s_check_letters a_check_letters fd_check_letters
  bi_check_letters : Binds K fd_check_letters ["base", "one", "other"] []
  m_check_letters : mg "check_letters" = some (.ref a_check_letters)
  a_part_numbers : Addr
  fd_part_numbers : FuncData
  F_part_numbers : Fun K "part_numbers" "part_numbers" s_part_numbers a_part_numbers fd_part_numbers
  bi_part_numbers : Binds K fd_part_numbers ["trees"] []
  m_part_numbers : mg "part_numbers" = some (.ref a_part_numbers)
  a_way_of : Addr
  fd_way_of : FuncData
  F_way_of : Fun K "way_of" "way_of" s_way_of a_way_of fd_way_of
  bi_way_of : Binds K fd_way_of ["plan", "base", "one", "other"] []
  m_way_of : mg "way_of" = some (.ref a_way_of)
  a_cells_met : Addr
  fd_cells_met : FuncData
  F_cells_met : Fun K "cells_met" "cells_met" s_cells_met a_cells_met fd_cells_met
  bi_cells_met : Binds K fd_cells_met ["plan", "cells"] []
  m_cells_met : mg "cells_met" = some (.ref a_cells_met)
  a_cell_merged : Addr
  fd_cell_merged : FuncData
  F_cell_merged : Fun K "cell_merged" "cell_merged" s_cell_merged a_cell_merged fd_cell_merged
  bi_cell_merged : Binds K fd_cell_merged ["plan", "cells"] []
  m_cell_merged : mg "cell_merged" = some (.ref a_cell_merged)
  a_rows_left : Addr
  fd_rows_left : FuncData
  F_rows_left : Fun K "rows_left" "rows_left" s_rows_left a_rows_left fd_rows_left
  bi_rows_left : Binds K fd_rows_left ["plan", "went", "taken"] []
  m_rows_left : mg "rows_left" = some (.ref a_rows_left)
  a_rows_taken : Addr
  fd_rows_taken : FuncData
  F_rows_taken : Fun K "rows_taken" "rows_taken" s_rows_taken a_rows_taken fd_rows_taken
  bi_rows_taken : Binds K fd_rows_taken ["tree", "places"] []
  m_rows_taken : mg "rows_taken" = some (.ref a_rows_taken)
  a_merge_part : Addr
  fd_merge_part : FuncData
  F_merge_part : Fun K "merge_part" "merge_part" s_merge_part a_merge_part fd_merge_part
  bi_merge_part : Binds K fd_merge_part ["plan", "trees", "start"] []
  m_merge_part : mg "merge_part" = some (.ref a_merge_part)
  a_merged : Addr
  fd_merged : FuncData
  F_merged : Fun K "merged" "merged" s_merged a_merged fd_merged
  bi_merged : Binds K fd_merged ["plan", "base", "one", "other"] []
  m_merged : mg "merged" = some (.ref a_merged)
  a_due_values : Addr
  fd_due_values : FuncData
  F_due_values : Fun K "due_values" "due_values" s_due_values a_due_values fd_due_values
  bi_due_values : Binds K fd_due_values ["was", "left", "right"] []
  m_due_values : mg "due_values" = some (.ref a_due_values)
  a_due : Addr
  fd_due : FuncData
  F_due : Fun K "due" "due" s_due a_due fd_due
  bi_due : Binds K fd_due ["base", "one", "other", "word"] []
  m_due : mg "due" = some (.ref a_due)
  a_is_one_of : Addr
  fd_is_one_of : FuncData
  F_is_one_of : Fun K "is_one_of" "is_one_of" s_is_one_of a_is_one_of fd_is_one_of
  bi_is_one_of : Binds K fd_is_one_of ["value", "names"] []
  m_is_one_of : mg "is_one_of" = some (.ref a_is_one_of)
  a_are_flags : Addr
  fd_are_flags : FuncData
  F_are_flags : Fun K "are_flags" "are_flags" s_are_flags a_are_flags fd_are_flags
  bi_are_flags : Binds K fd_are_flags ["flags"] []
  m_are_flags : mg "are_flags" = some (.ref a_are_flags)
  a_Plan_init : Addr
  fd_Plan_init : FuncData
  F_Plan_init : FunD K "__init__" "Plan.__init__" (defArgs s_Plan_init) (defBody s_Plan_init) (defScope s_Plan_init) [.non] [] a_Plan_init fd_Plan_init
  bd1_Plan_init : ∃ ds, Vals [.non] ds ∧ Binds K fd_Plan_init ["self", "gone", "alike", "unlike", "tidy", "flags"] ds
  bi_Plan_init : Binds K fd_Plan_init ["self", "gone", "alike", "unlike", "tidy", "flags"] []
  mk_Plan : Mk K c_Plan a_Plan_init
  a_l_pen_of : Addr
  fd_l_pen_of : FuncData
  F_l_pen_of : Fun K "_law_pen_of" "_law_pen_of" s_l_pen_of a_l_pen_of fd_l_pen_of
  bi_l_pen_of : Binds K fd_l_pen_of ["_law_script"] []
  m_l_pen_of : mg "_law_pen_of" = some (.ref a_l_pen_of)
  a_l_draw : Addr
  fd_l_draw : FuncData
  F_l_draw : Fun K "_law_draw" "_law_draw" s_l_draw a_l_draw fd_l_draw
  bi_l_draw : Binds K fd_l_draw ["_law_pen", "_law_many"] []
  m_l_draw : mg "_law_draw" = some (.ref a_l_draw)
  a_l_pick : Addr
  fd_l_pick : FuncData
  F_l_pick : Fun K "_law_pick" "_law_pick" s_l_pick a_l_pick fd_l_pick
  bi_l_pick : Binds K fd_l_pick ["_law_pen", "_law_items"] []
  m_l_pick : mg "_law_pick" = some (.ref a_l_pick)
  a_l_letters : Addr
  fd_l_letters : FuncData
  F_l_letters : Fun K "_law_letters" "_law_letters" s_l_letters a_l_letters fd_l_letters
  bi_l_letters : Binds K fd_l_letters ["_law_pen"] []
  m_l_letters : mg "_law_letters" = some (.ref a_l_letters)
  a_l_cell : Addr
  fd_l_cell : FuncData
  F_l_cell : Fun K "_law_cell" "_law_cell" s_l_cell a_l_cell fd_l_cell
  bi_l_cell : Binds K fd_l_cell ["_law_pen"] []
  m_l_cell : mg "_law_cell" = some (.ref a_l_cell)
  a_l_grown : Addr
  fd_l_grown : FuncData
  F_l_grown : Fun K "_law_grown" "_law_grown" s_l_grown a_l_grown fd_l_grown
  bi_l_grown : Binds K fd_l_grown ["_law_pen", "_law_letters_here", "_law_found", "_law_many"] []
  m_l_grown : mg "_law_grown" = some (.ref a_l_grown)
  a_l_edited : Addr
  fd_l_edited : FuncData
  F_l_edited : Fun K "_law_edited" "_law_edited" s_l_edited a_l_edited fd_l_edited
  bi_l_edited : Binds K fd_l_edited ["_law_pen", "_law_letters_here", "_law_found", "_law_many"] []
  m_l_edited : mg "_law_edited" = some (.ref a_l_edited)
  a_l_three : Addr
  fd_l_three : FuncData
  F_l_three : Fun K "_law_three" "_law_three" s_l_three a_l_three fd_l_three
  bi_l_three : Binds K fd_l_three ["_law_pen", "_law_letters_here", "_law_many"] []
  m_l_three : mg "_law_three" = some (.ref a_l_three)
  a_l_order : Addr
  fd_l_order : FuncData
  F_l_order : Fun K "_law_order" "_law_order" s_l_order a_l_order fd_l_order
  bi_l_order : Binds K fd_l_order ["_law_letters_here", "_law_places"] []
  m_l_order : mg "_law_order" = some (.ref a_l_order)
  a_l_rows : Addr
  fd_l_rows : FuncData
  F_l_rows : Fun K "_law_rows" "_law_rows" s_l_rows a_l_rows fd_l_rows
  bi_l_rows : Binds K fd_l_rows ["_law_letters_here", "_law_found"] []
  m_l_rows : mg "_law_rows" = some (.ref a_l_rows)
  a_l_tree : Addr
  fd_l_tree : FuncData
  F_l_tree : Fun K "_law_tree" "_law_tree" s_l_tree a_l_tree fd_l_tree
  bi_l_tree : Binds K fd_l_tree ["_law_letters_here", "_law_found"] []
  m_l_tree : mg "_law_tree" = some (.ref a_l_tree)
  a_l_value_of : Addr
  fd_l_value_of : FuncData
  F_l_value_of : Fun K "_law_value_of" "_law_value_of" s_l_value_of a_l_value_of fd_l_value_of
  bi_l_value_of : Binds K fd_l_value_of ["_law_found", "_law_word"] []
  m_l_value_of : mg "_law_value_of" = some (.ref a_l_value_of)
  a_l_due : Addr
  fd_l_due : FuncData
  F_l_due : Fun K "_law_due" "_law_due" s_l_due a_l_due fd_l_due
  bi_l_due : Binds K fd_l_due ["_law_three_here", "_law_word"] []
  m_l_due : mg "_law_due" = some (.ref a_l_due)
  a_l_asked_words : Addr
  fd_l_asked_words : FuncData
  F_l_asked_words : Fun K "_law_asked_words" "_law_asked_words" s_l_asked_words a_l_asked_words fd_l_asked_words
  bi_l_asked_words : Binds K fd_l_asked_words ["_law_pen", "_law_letters_here", "_law_three_here"] []
  m_l_asked_words : mg "_law_asked_words" = some (.ref a_l_asked_words)
  a_l_odd_so : Addr
  fd_l_odd_so : FuncData
  F_l_odd_so : Fun K "_law_odd_so" "_law_odd_so" s_l_odd_so a_l_odd_so fd_l_odd_so
  bi_l_odd_so : Binds K fd_l_odd_so ["_law_pen", "_law_trees"] []
  m_l_odd_so : mg "_law_odd_so" = some (.ref a_l_odd_so)
  a_l_merged_so : Addr
  fd_l_merged_so : FuncData
  F_l_merged_so : Fun K "_law_merged_so" "_law_merged_so" s_l_merged_so a_l_merged_so fd_l_merged_so
  bi_l_merged_so : Binds K fd_l_merged_so ["_law_pen", "_law_trees", "_law_three_here", "_law_words"] []
  m_l_merged_so : mg "_law_merged_so" = some (.ref a_l_merged_so)
  a_law : Addr
  fd_law : FuncData
  F_law : Fun K "law" "law" s_law a_law fd_law
  bi_law : Binds K fd_law ["_law_script"] []
  m_law : mg "law" = some (.ref a_law)
  kl_Tree : PySem.W.kitOne K (.ref c_Tree) (.type "list") = some false
  kt_Tree : PySem.W.kitOne K (.ref c_Tree) (.type "tuple") = some false
  kmc : PySem.W.kitOne K (.ref c_Merged) (.ref c_Clash) = some false
  ca_Tree : PySem.W.findIn K (.ref c_Tree) "__class__" = some (some (.builtin "object.__class__"))
  ob_Tree : PySem.W.mroIn K c_Tree (.type "object") = some true
  ca_Merged : PySem.W.findIn K (.ref c_Merged) "__class__" = some (some (.builtin "object.__class__"))
  ob_Merged : PySem.W.mroIn K c_Merged (.type "object") = some true
  ca_Clash : PySem.W.findIn K (.ref c_Clash) "__class__" = some (some (.builtin "object.__class__"))
  ob_Clash : PySem.W.mroIn K c_Clash (.type "object") = some true
  kc_in_order : Addr
  tb_in_order : Addr
  ec_in_order : fd_in_order.code = .ref kc_in_order
  kc_l_order : Addr
  tb_l_order : Addr
  ec_l_order : fd_l_order.code = .ref kc_l_order
  tnd : [tb_in_order, tb_l_order].Nodup
section
variable {P : Program} {K : PySem.W.Frag} {mg : Str → Option Value}
def tabs (T : Tx P K mg) : List (Addr × Str) := [(T.tb_in_order, (PyProof.Rows.envOfC "in_order" (defScope s_in_order) 0 0 .none).qual ++ "<lambda>"), (T.tb_l_order, (PyProof.Rows.envOfC "_law_order" (defScope s_l_order) 0 0 .none).qual ++ "<lambda>")]
theorem mem_in_order (T : Tx P K mg) : (T.tb_in_order, (PyProof.Rows.envOfC "in_order" (defScope s_in_order) 0 0 .none).qual ++ "<lambda>") ∈ tabs T := .head _
theorem uniq_in_order (T : Tx P K mg) : ∀ p ∈ tabs T, p.1 = T.tb_in_order → p.2 = (PyProof.Rows.envOfC "in_order" (defScope s_in_order) 0 0 .none).qual ++ "<lambda>" := ShL.tab_uniq (T := tabs T) T.tnd (mem_in_order T)
theorem mem_l_order (T : Tx P K mg) : (T.tb_l_order, (PyProof.Rows.envOfC "_law_order" (defScope s_l_order) 0 0 .none).qual ++ "<lambda>") ∈ tabs T := .tail _ (.head _)
theorem uniq_l_order (T : Tx P K mg) : ∀ p ∈ tabs T, p.1 = T.tb_l_order → p.2 = (PyProof.Rows.envOfC "_law_order" (defScope s_l_order) 0 0 .none).qual ++ "<lambda>" := ShL.tab_uniq (T := tabs T) T.tnd (mem_l_order T)
structure Bx (T : Tx P K mg) (base : Heap) : Prop where
  tb_in_order : LamX.TabB base mg T.kc_in_order T.tb_in_order
  tb_l_order : LamX.TabB base mg T.kc_l_order T.tb_l_order
end
theorem hu65_of {A : Around} {k : Nat} (hr : Room k A) : A.units + 65 < cLine := by have := hr.un; omega
end Toy
set_option Elab.async false
set_option linter.all false
set_option maxRecDepth 100000
set_option maxHeartbeats 4000000
namespace Toy
open PySem L2 Sh ShL LamX NdefX
/-! ### the exceptions are made -/
theorem kp_two {H : Hp} {a dx : Addr} {o1 o2 : HO} (hd : H dx = none) : Kp a H (upd (upd H dx o1) a o2) := fun b o e nb => by
  rw [upd_ne nb, upd_ne (ne_of_none e hd)]
  exact e
theorem kp_more {H H1 : Hp} {a dx : Addr} {o1 : HO} (k : Kp a H H1) (hd : H dx = none) : Kp a H (upd H1 dx o1) := fun b o e nb => by
  rw [upd_ne (ne_of_none e hd)]
  exact k b o e nb
section
variable {P : Program} {w : World} {K : PySem.W.Frag} {mg : Str → Option Value} {base : Heap}
theorem ok_x_BadLetters (T : Tx P K mg) : FnOk P w K mg base CX0 1 T.a_x_BadLetters T.fd_x_BadLetters ["self", "letters"] (spXI T.c_BadLetters ["letters"]) := by
  obtain ⟨oc, od, kV, doc, pm, an, ct, osl, cc, cda, hfd, lk, hcd, SF⟩ := T.i_BadLetters.fn
  rw [hfd] at lk ⊢
  refine fn_super (k := 0) lk hcd sc_x_BadLetters rfl SF rfl (fun vs H Q E h => ?_) (fun A outer s H vs Q E hr h => ?_)
  · obtain ⟨a, ws, rfl, hl, _⟩ := h
    rw [List.length_cons, hl]
    rfl
  obtain ⟨a, ws, rfl, hl, ha, q⟩ := h
  match ws, hl, q with
  | [v1], _, q =>
  refine ⟨a, T.c_BadLetters, _, _, rfl, ha, T.i_BadLetters.sc, (pa_cons (pv 1) pa_nil), (pss_one (ps_ost (pv 0) (pv 1))), ?_⟩
  refine ⟨_, rfl, by show 1 ≤ 1000; decide, ha, ?_⟩
  refine ⟨_, rfl, _, rfl, a, T.c_BadLetters, rfl, T.i_BadLetters.m.ox, T.nf_BadLetters_letters, .inl ⟨ha, fun dx hd hne => ?_⟩⟩
  exact q _ dx (kp_two hd) hd hne upd_same (by rw [upd_ne hne, upd_same]; rfl)
theorem ok_x_TooMany (T : Tx P K mg) : FnOk P w K mg base CX0 1 T.a_x_TooMany T.fd_x_TooMany ["self", "what", "many", "most"] (spXI T.c_TooMany ["what", "many", "most"]) := by
  obtain ⟨oc, od, kV, doc, pm, an, ct, osl, cc, cda, hfd, lk, hcd, SF⟩ := T.i_TooMany.fn
  rw [hfd] at lk ⊢
  refine fn_super (k := 0) lk hcd sc_x_TooMany rfl SF rfl (fun vs H Q E h => ?_) (fun A outer s H vs Q E hr h => ?_)
  · obtain ⟨a, ws, rfl, hl, _⟩ := h
    rw [List.length_cons, hl]
    rfl
  obtain ⟨a, ws, rfl, hl, ha, q⟩ := h
  match ws, hl, q with
  | [v1, v2, v3], _, q =>
  refine ⟨a, T.c_TooMany, _, _, rfl, ha, T.i_TooMany.sc, (pa_cons (pv 1) (pa_cons (pv 2) (pa_cons (pv 3) pa_nil))), (pss_cons (ps_ost (pv 0) (pv 1)) (pss_cons (ps_ost (pv 0) (pv 2)) (pss_one (ps_ost (pv 0) (pv 3))))), ?_⟩
  refine ⟨_, rfl, _, rfl, _, rfl, by show 3 ≤ 1000; decide, ha, ?_⟩
  refine ⟨_, rfl, _, rfl, a, T.c_TooMany, rfl, T.i_TooMany.m.ox, T.nf_TooMany_what, .inl ⟨ha, fun dx hd hne => ?_⟩⟩
  have ea := (upd_same : upd (upd H dx (exd dx [("what", v1)])) a (exo a T.c_TooMany (some dx)) a = _)
  have ed : upd (upd H dx (exd dx [("what", v1)])) a (exo a T.c_TooMany (some dx)) dx = some (exd dx [("what", v1)]) := by rw [upd_ne hne, upd_same]
  have k0 := (kp_two hd : Kp a H (upd (upd H dx (exd dx [("what", v1)])) a (exo a T.c_TooMany (some dx))))
  generalize upd (upd H dx (exd dx [("what", v1)])) a (exo a T.c_TooMany (some dx)) = H1 at ea ed k0 ⊢
  refine ⟨_, rfl, _, rfl, a, T.c_TooMany, rfl, T.i_TooMany.m.ox, T.nf_TooMany_many, .inr ⟨dx, _, ea, ed, by show 1 ≤ 900; decide, ?_⟩⟩
  have k2 := (kp_more k0 hd : Kp a H (upd H1 dx (exd dx [("many", v2), ("what", v1)])))
  replace ea : upd H1 dx (exd dx [("many", v2), ("what", v1)]) a = some (exo a T.c_TooMany (some dx)) := by rw [upd_ne hne.symm]; exact ea
  replace ed : upd H1 dx (exd dx [("many", v2), ("what", v1)]) dx = some (exd dx [("many", v2), ("what", v1)]) := upd_same
  generalize upd H1 dx (exd dx [("many", v2), ("what", v1)]) = H2 at ea ed k2 ⊢
  refine ⟨_, rfl, _, rfl, a, T.c_TooMany, rfl, T.i_TooMany.m.ox, T.nf_TooMany_most, .inr ⟨dx, _, ea, ed, by show 2 ≤ 900; decide, ?_⟩⟩
  exact q _ dx (kp_more k2 hd) hd hne (by rw [upd_ne hne.symm]; exact ea) upd_same
theorem ok_x_BadRow (T : Tx P K mg) : FnOk P w K mg base CX0 1 T.a_x_BadRow T.fd_x_BadRow ["self", "number"] (spXI T.c_BadRow ["number"]) := by
  obtain ⟨oc, od, kV, doc, pm, an, ct, osl, cc, cda, hfd, lk, hcd, SF⟩ := T.i_BadRow.fn
  rw [hfd] at lk ⊢
  refine fn_super (k := 0) lk hcd sc_x_BadRow rfl SF rfl (fun vs H Q E h => ?_) (fun A outer s H vs Q E hr h => ?_)
  · obtain ⟨a, ws, rfl, hl, _⟩ := h
    rw [List.length_cons, hl]
    rfl
  obtain ⟨a, ws, rfl, hl, ha, q⟩ := h
  match ws, hl, q with
  | [v1], _, q =>
  refine ⟨a, T.c_BadRow, _, _, rfl, ha, T.i_BadRow.sc, (pa_cons (pv 1) pa_nil), (pss_one (ps_ost (pv 0) (pv 1))), ?_⟩
  refine ⟨_, rfl, by show 1 ≤ 1000; decide, ha, ?_⟩
  refine ⟨_, rfl, _, rfl, a, T.c_BadRow, rfl, T.i_BadRow.m.ox, T.nf_BadRow_number, .inl ⟨ha, fun dx hd hne => ?_⟩⟩
  exact q _ dx (kp_two hd) hd hne upd_same (by rw [upd_ne hne, upd_same]; rfl)
theorem ok_x_Lone (T : Tx P K mg) : FnOk P w K mg base CX0 1 T.a_x_Lone T.fd_x_Lone ["self", "place"] (spXI T.c_Lone ["place"]) := by
  obtain ⟨oc, od, kV, doc, pm, an, ct, osl, cc, cda, hfd, lk, hcd, SF⟩ := T.i_Lone.fn
  rw [hfd] at lk ⊢
  refine fn_super (k := 0) lk hcd sc_x_Lone rfl SF rfl (fun vs H Q E h => ?_) (fun A outer s H vs Q E hr h => ?_)
  · obtain ⟨a, ws, rfl, hl, _⟩ := h
    rw [List.length_cons, hl]
    rfl
  obtain ⟨a, ws, rfl, hl, ha, q⟩ := h
  match ws, hl, q with
  | [v1], _, q =>
  refine ⟨a, T.c_Lone, _, _, rfl, ha, T.i_Lone.sc, (pa_cons (pv 1) pa_nil), (pss_one (ps_ost (pv 0) (pv 1))), ?_⟩
  refine ⟨_, rfl, by show 1 ≤ 1000; decide, ha, ?_⟩
  refine ⟨_, rfl, _, rfl, a, T.c_Lone, rfl, T.i_Lone.m.ox, T.nf_Lone_place, .inl ⟨ha, fun dx hd hne => ?_⟩⟩
  exact q _ dx (kp_two hd) hd hne upd_same (by rw [upd_ne hne, upd_same]; rfl)
theorem ok_x_NoPlace (T : Tx P K mg) : FnOk P w K mg base CX0 1 T.a_x_NoPlace T.fd_x_NoPlace ["self", "place"] (spXI T.c_NoPlace ["place"]) := by
  obtain ⟨oc, od, kV, doc, pm, an, ct, osl, cc, cda, hfd, lk, hcd, SF⟩ := T.i_NoPlace.fn
  rw [hfd] at lk ⊢
  refine fn_super (k := 0) lk hcd sc_x_NoPlace rfl SF rfl (fun vs H Q E h => ?_) (fun A outer s H vs Q E hr h => ?_)
  · obtain ⟨a, ws, rfl, hl, _⟩ := h
    rw [List.length_cons, hl]
    rfl
  obtain ⟨a, ws, rfl, hl, ha, q⟩ := h
  match ws, hl, q with
  | [v1], _, q =>
  refine ⟨a, T.c_NoPlace, _, _, rfl, ha, T.i_NoPlace.sc, (pa_cons (pv 1) pa_nil), (pss_one (ps_ost (pv 0) (pv 1))), ?_⟩
  refine ⟨_, rfl, by show 1 ≤ 1000; decide, ha, ?_⟩
  refine ⟨_, rfl, _, rfl, a, T.c_NoPlace, rfl, T.i_NoPlace.m.ox, T.nf_NoPlace_place, .inl ⟨ha, fun dx hd hne => ?_⟩⟩
  exact q _ dx (kp_two hd) hd hne upd_same (by rw [upd_ne hne, upd_same]; rfl)
end
end Toy
set_option Elab.async false
set_option linter.all false
set_option maxRecDepth 100000
set_option maxHeartbeats 4000000
namespace Toy
open PySem L2 Sh ShL LamX NdefX
theorem ints_dp {K : PySem.W.Frag} {H : Hp} : ∀ ns : List Int, DpAll K H (ns.map V.int) (ns.map PyData.int)
  | [] => .nil
  | n :: ns => .cons (.int n) (ints_dp ns)
theorem ints_lay : ∀ ns : List Int, PyData.canLayAll0 (ns.map PyData.int) = true ∧ PyData.depthAll (ns.map PyData.int) ≤ 1
  | [] => ⟨rfl, by simp [PyData.depthAll]⟩
  | n :: ns => by
    obtain ⟨h1, h2⟩ := ints_lay ns
    refine ⟨by simp only [List.map_cons, PyData.canLayAll0, PyData.canLay0, h1]; rfl, ?_⟩
    simp only [List.map_cons, PyData.depthAll, PyData.depth]
    omega
theorem ints_shaped (ns : List Int) : SeqAt.shaped (.list (ns.map PyData.int)) = true := by
  obtain ⟨h1, h2⟩ := ints_lay ns
  show (PyData.canLay0 (.list (ns.map PyData.int)) && decide (PyData.depth (.list (ns.map PyData.int)) ≤ 64)) = true
  rw [Bool.and_eq_true]
  exact ⟨by simp only [PyData.canLay0]; exact h1, decide_eq_true (by simp only [PyData.depth]; omega)⟩
theorem ints_eqv (ns : List Int) : PyData.eqv (.list (ns.map PyData.int)) (.list []) = decide (ns.length = 0) := by
  cases ns <;> simp [PyData.eqv, PyData.eqvAll]
theorem posI {n : Nat} [NeZero n] : (0 : Int) < (OfNat.ofNat n : Int) := by
  have := Nat.pos_of_ne_zero (NeZero.ne n)
  exact Int.ofNat_lt.mpr this
/-! ### the pen -/
def penL (c : Addr) (b l : Int) : List (Key × V) := [(.inr "cells", .ref c), (.inr "next", .int b), (.inr "left", .int l)]
theorem k12 : ¬ (("cells" : Str) = "next") := by decide +kernel
theorem k13 : ¬ (("cells" : Str) = "left") := by decide +kernel
theorem k23 : ¬ (("next" : Str) = "left") := by decide +kernel
theorem ki {a b : Str} (h : ¬ a = b) : ¬ (Sum.inr a : Key) = Sum.inr b := fun e => h (Sum.inr.inj e)
theorem pen_cells (c : Addr) (b l : Int) : valV (penL c b l) (.inr "cells") = some (.ref c) := valV_pos rfl
theorem pen_next (c : Addr) (b l : Int) : valV (penL c b l) (.inr "next") = some (.int b) := (valV_neg (ki k12)).trans (valV_pos rfl)
theorem pen_left (c : Addr) (b l : Int) : valV (penL c b l) (.inr "left") = some (.int l) := (valV_neg (ki k13)).trans ((valV_neg (ki k23)).trans (valV_pos rfl))
theorem put2 {a b c : Str} {x y z v : V} (h12 : ¬ a = b) (h23 : ¬ b = c) : putK ([(.inr a, x), (.inr b, y), (.inr c, z)] : List (Key × V)) (.inr b) v = [(.inr a, x), (.inr b, v), (.inr c, z)] := by
  have h32 : ¬ c = b := fun e => h23 e.symm
  unfold putK
  simp [h12, h32]
theorem put3 {a b c : Str} {x y z v : V} (h13 : ¬ a = c) (h23 : ¬ b = c) : putK ([(.inr a, x), (.inr b, y), (.inr c, z)] : List (Key × V)) (.inr c) v = [(.inr a, x), (.inr b, y), (.inr c, v)] := by
  unfold putK
  simp [h13, h23]
theorem pen_put_next (c : Addr) (b l : Int) (v : Int) : putK (penL c b l) (.inr "next") (.int v) = penL c v l := by
  unfold penL
  rw [put2 k12 k23]
theorem pen_put_left (c : Addr) (b l : Int) (v : Int) : putK (penL c b l) (.inr "left") (.int v) = penL c b v := by
  unfold penL
  rw [put3 k13 k23]
theorem at_mod {ns : List Int} {b : Int} (h : 0 < (ns.length : Int)) : ∃ v, atI (ns.map V.int) (b % (ns.length : Int)) = some (.int v) := by
  have h1 := Int.emod_nonneg b (show (ns.length : Int) ≠ 0 by omega)
  have h2 := Int.emod_lt_of_pos b h
  have h3 : (b % (ns.length : Int)).toNat < ns.length := by omega
  refine ⟨ns[(b % (ns.length : Int)).toNat], at_of (j := (b % (ns.length : Int)).toNat) (by omega) ?_⟩
  rw [List.getElem?_map, List.getElem?_eq_getElem h3]
  rfl
/-- a pen stands at d, n numbers were drawn from it at most -/
def Pen (H : Hp) (d c : Addr) (n : Nat) : Prop := ∃ (ns : List Int) (b l : Int), H d = some (.dK (penL c b l)) ∧ H c = some (.lst (ns.map V.int)) ∧ 0 ≤ b ∧ b ≤ (n : Int) ∧ 0 ≤ l
theorem Pen.mono {H : Hp} {d c : Addr} {n m : Nat} (p : Pen H d c n) (h : n ≤ m) : Pen H d c m := by
  obtain ⟨ns, b, l, h1, h2, h3, h4, h5⟩ := p
  exact ⟨ns, b, l, h1, h2, h3, by omega, h5⟩
theorem Pen.at {H : Hp} {d c : Addr} {n : Nat} (p : Pen H d c n) : ∃ kvs, H d = some (.dK kvs) := by
  obtain ⟨ns, b, l, h1, _⟩ := p
  exact ⟨_, h1⟩
theorem Pen.same {H H' : Hp} {d c : Addr} {n : Nat} (p : Pen H d c n) (s : Same H H') : Pen H' d c n := by
  obtain ⟨ns, b, l, h1, h2, h3⟩ := p
  exact ⟨ns, b, l, s _ _ h1, s _ _ h2, h3⟩
def spDraw : Sp := fun vs H Q _ => ∃ (d c : Addr) (n : Nat) (m : Int), vs = [.ref d, .int m] ∧ Pen H d c n ∧ n ≤ 100000 ∧ 0 < m ∧ m < 1000000000 ∧
  ∀ (H' : Hp) (r : Int), 0 ≤ r → r < m → Kp d H H' → Pen H' d c (n + 1) → Q (.int r) H'
section
variable {P : Program} {w : World} {K : PySem.W.Frag} {mg : Str → Option Value} {base : Heap}
theorem ok_l_draw (T : Tx P K mg) (B : Bx T base) : FnOk P w K mg base CX0 1 T.a_l_draw T.fd_l_draw ["_law_pen", "_law_many"] spDraw := by
  refine T.F_l_draw.ok sc_l_draw (fun vs H Q E h => ?_) (fun cdv A outer s H vs Q E hr h => ?_)
  · obtain ⟨d, c, n, m, rfl, _⟩ := h
    rfl
  have hu := hu_of hr
  obtain ⟨d, c, n, m, rfl, ⟨ns, b, l, hd, hc, hb0, hbn, hl⟩, hn, hm, hm2, q⟩ := h
  have ncd : c ≠ d := ne_of hc hd (by intro z; cases z)
  have gl : ∀ {H' : Hp} {c b l}, H' d = some (.dK (penL c b l)) → DGet H' d (.str "left") (some (.int l)) := fun h => by
    have := DGet.k (k := Sum.inr "left") h
    rw [pen_left] at this
    exact this
  have gb : ∀ {H' : Hp} {c b l}, H' d = some (.dK (penL c b l)) → DGet H' d (.str "next") (some (.int b)) := fun h => by
    have := DGet.k (k := Sum.inr "next") h
    rw [pen_next] at this
    exact this
  have gc : ∀ {H' : Hp} {c b l}, H' d = some (.dK (penL c b l)) → DGet H' d (.str "cells") (some (.ref c)) := fun h => by
    have := DGet.k (k := Sum.inr "cells") h
    rw [pen_cells] at this
    exact this
  have pb : ∀ {H' : Hp} {c b l} (v : Int), H' d = some (.dK (penL c b l)) → DPut H' d (.str "next") (.int v) (upd H' d (.dK (penL c v l))) := fun v h => by
    have := DPut.k (k := Sum.inr "next") (v := .int v) h (by show 3 < sizeLine; decide)
    rw [pen_put_next] at this
    exact this
  have pl : ∀ {H' : Hp} {c b l} (v : Int), H' d = some (.dK (penL c b l)) → DPut H' d (.str "left") (.int v) (upd H' d (.dK (penL c b v))) := fun v h => by
    have := DPut.k (k := Sum.inr "left") (v := .int v) h (by show 3 < sizeLine; decide)
    rw [pen_put_left] at this
    exact this
  refine ⟨_, (pss_cons (ps_if (pt_cmpR op_gt (pe_dget hu (pv 0) pe_str (fun _ _ => rfl)) pe_int (nomark _))
 (pss_cons (ps_set (i := 2) sc_l_draw.nd rfl (by first | exact Or.inl rfl | exact Or.inr rfl) (pe_op op_mod (pe_callTy call_int1 (by rfl) T.b_int (by decide +kernel) (pa_cons (pe_dget hu (pv 0) pe_str (fun _ _ => rfl)) pa_nil)) (pv 1)))
 (pss_cons (ps_dput hu (pv 0) pe_str (pe_op op_fdivN (pe_dget hu (pv 0) pe_str (fun _ _ => rfl)) (pv 1)) rfl)
 (pss_one (ps_ret (pv 2)))))
 pss_nil)
 (pss_cons (ps_par (i := 3) (j := 4) (by rfl) sc_l_draw.nd rfl rfl (by decide) rfl rfl (pa_cons (pe_dget hu (pv 0) pe_str (fun _ _ => rfl)) (pa_cons (pe_callB call_len_seq (by rfl) T.b_len (by decide +kernel) (pa_cons (pe_dget hu (pv 0) pe_str (fun _ _ => rfl)) pa_nil)) pa_nil)) (by rfl))
 (pss_cons (ps_dput hu (pv 0) pe_str (pe_op op_add (pv 3) pe_int) rfl)
 (pss_cons (ps_if (pt_cmpR op_eq (pv 4) pe_int (nomark _))
 (pss_one (ps_ret (pe_op op_mod (pe_callTy call_int1 (by rfl) T.b_int (by decide +kernel) (pa_cons (pe_op op_add (pe_op op_mul pe_int (pv 3)) pe_int) pa_nil)) (pv 1))))
 pss_nil)
 (pss_cons (ps_set (i := 5) sc_l_draw.nd rfl (by first | exact Or.inl rfl | exact Or.inr rfl) (pe_ix ix_list (pe_dget hu (pv 0) pe_str (fun _ _ => rfl)) (pe_op op_mod (pe_callTy call_int1 (by rfl) T.b_int (by decide +kernel) (pa_cons (pv 3) pa_nil)) (pv 4)) (fun _ _ => rfl)))
 (pss_cons (ps_if (PW.pt (pw_and (pt_cmpR op_lt (pv 3) (pv 4) (nomark _)) (pw_and1 (pt_cmpR op_ge (pe_callB call_abs (by rfl) T.b_abs (by decide +kernel) (pa_cons (pv 5) pa_nil)) (pe_op op_pow pe_int pe_int) (nomark _)))))
 (pss_cons (ps_dput hu (pv 0) pe_str (pe_op op_fdivN (pe_op op_sub (pe_callB call_abs (by rfl) T.b_abs (by decide +kernel) (pa_cons (pv 5) pa_nil)) (pe_op op_pow pe_int pe_int)) (pv 1)) rfl)
 (pss_one (ps_ret (pe_op op_mod (pe_callTy call_int1 (by rfl) T.b_int (by decide +kernel) (pa_cons (pe_op op_sub (pe_callB call_abs (by rfl) T.b_abs (by decide +kernel) (pa_cons (pv 5) pa_nil)) (pe_op op_pow pe_int pe_int)) pa_nil)) (pv 1)))))
 pss_nil)
 (pss_cons (ps_set (i := 6) sc_l_draw.nd rfl (by first | exact Or.inl rfl | exact Or.inr rfl) (pe_op op_add (pe_op op_mul (pe_op op_mod (pe_callTy call_int1 (by rfl) T.b_int (by decide +kernel) (pa_cons (pv 5) pa_nil)) pe_int) pe_int) (pe_op op_mul (pe_op op_mul pe_int (pv 3)) (pv 3))))
 (pss_cons (ps_set (i := 6) sc_l_draw.nd rfl (by first | exact Or.inl rfl | exact Or.inr rfl) (pe_op op_mod (pe_callTy call_int1 (by rfl) T.b_int (by decide +kernel) (pa_cons (pe_op op_add (pe_op op_add (pv 6) (pe_op op_mul pe_int (pv 3))) pe_int) pa_nil)) pe_int))
 (pss_cons (ps_set (i := 6) sc_l_draw.nd rfl (by first | exact Or.inl rfl | exact Or.inr rfl) (pe_op op_mod (pe_callTy call_int1 (by rfl) T.b_int (by decide +kernel) (pa_cons (pe_op op_add (pe_op op_add (pe_op op_add (pe_op op_mul (pv 6) (pv 6)) (pe_op op_mul pe_int (pv 6))) (pe_op op_mul pe_int (pv 3))) pe_int) pa_nil)) pe_int))
 (pss_one (ps_ret (pe_op op_mod (pe_callTy call_int1 (by rfl) T.b_int (by decide +kernel) (pa_cons (pe_op op_fdivN (pe_op op_mod (pe_callTy call_int1 (by rfl) T.b_int (by decide +kernel) (pa_cons (pe_op op_mul (pv 6) (pe_op op_add (pv 6) pe_int)) pa_nil)) pe_int) pe_int) pa_nil)) (pv 1))))))))))))), ?_⟩
  -- if pen['left'] > 0
  refine ⟨_, rfl, d, _, rfl, gl hd, _, _, rfl, rfl, _, rfl, ?_⟩
  refine ite2 (fun h1 => ?_) (fun h1 => ?_)
  · refine ⟨_, rfl, d, _, rfl, gl hd, .inl ⟨_, rfl, _, rfl, _, _, rfl, rfl, hm, ?_⟩⟩
    refine ⟨_, rfl, d, _, rfl, gl hd, _, rfl, _, _, rfl, rfl, ⟨by omega, by omega⟩, _, rfl, d, _, rfl, pl _ hd, ?_⟩
    refine ⟨_, rfl, q _ _ (Int.emod_nonneg _ (by omega)) (Int.emod_lt_of_pos _ hm) kp_put ?_⟩
    refine ⟨ns, b, _, upd_same, by rw [upd_ne ncd]; exact hc, hb0, by omega, Int.fdiv_nonneg (by omega) (by omega)⟩
  -- place, size = (pen['next'], len(pen['cells'])); pen['next'] = place + 1
  refine ⟨_, rfl, d, _, rfl, gb hd, _, rfl, d, _, rfl, gc hd, c, _, rfl, .inl (.inl (.inl hc)), _, _, rfl, ?_⟩
  refine ⟨_, rfl, _, _, rfl, rfl, _, rfl, d, _, rfl, pb _ hd, ?_⟩
  have hd2 : (upd H d (.dK (penL c (b + 1) l))) d = some (.dK (penL c (b + 1) l)) := upd_same
  have hc2 : (upd H d (.dK (penL c (b + 1) l))) c = some (.lst (ns.map V.int)) := by rw [upd_ne ncd]; exact hc
  have kp2 : Kp d H (upd H d (.dK (penL c (b + 1) l))) := kp_put
  generalize upd H d (.dK (penL c (b + 1) l)) = H2 at hd2 hc2 kp2 ⊢
  have hlen : ((ns.map V.int).length : Int) = (ns.length : Int) := by rw [List.length_map]
  rw [hlen]
  -- if size == 0
  refine ⟨_, rfl, rfl, _, rfl, ?_⟩
  refine ite2 (fun h2 => ?_) (fun h2 => ?_)
  · refine ⟨_, rfl, _, _, rfl, rfl, .inl ⟨by decide, by decide⟩, _, _, rfl, rfl, .inl ⟨_, rfl, _, rfl, _, _, rfl, rfl, hm, ?_⟩⟩
    exact q _ _ (Int.emod_nonneg _ (by omega)) (Int.emod_lt_of_pos _ hm) kp2 ⟨ns, b + 1, l, hd2, hc2, by omega, by omega, hl⟩
  have h3 : 0 < (ns.length : Int) := by
    have h4 : ¬ V.int (ns.length : Int) = V.int 0 := fun z => h2 (decide_eq_true z)
    have h5 : ¬ (ns.length : Int) = 0 := fun z => h4 (by rw [z])
    omega
  obtain ⟨z, hz⟩ := at_mod (b := b) h3
  refine ⟨_, rfl, d, _, rfl, gc hd2, _, rfl, .inl ⟨_, rfl, _, rfl, _, _, rfl, rfl, h3, c, ns.map V.int, _, V.int z, rfl, rfl, .inl (.inl hc2), hz, ?_⟩⟩
  -- if index < size and abs(cell) >= 10 ** 18
  refine ⟨_, rfl, _, rfl, _, _, rfl, rfl, _, rfl, ?_⟩
  have m1 := Int.emod_nonneg z (show (4294967197 : Int) ≠ 0 by decide)
  have m2 := Int.emod_lt_of_pos z (show (0 : Int) < 4294967197 by decide)
  refine ite2 (fun h4 => ?_) (fun h4 => ?_)
  · refine ⟨_, rfl, _, rfl, _, _, rfl, rfl, ⟨by decide, by decide, by decide⟩, _, _, rfl, rfl, _, rfl, ?_⟩
    refine ite2 (fun h5 => ?_) (fun h5 => ?_)
    · have h6 := of_decide_eq_true h5
      refine ⟨_, rfl, _, rfl, _, _, rfl, rfl, ⟨by decide, by decide, by decide⟩, _, _, rfl, rfl, _, rfl, _, _, rfl, rfl, ⟨by omega, by omega⟩, _, rfl, d, _, rfl, pl _ hd2, ?_⟩
      refine ⟨_, rfl, _, rfl, _, _, rfl, rfl, ⟨by decide, by decide, by decide⟩, _, _, rfl, rfl, .inl ⟨_, rfl, _, rfl, _, _, rfl, rfl, hm, ?_⟩⟩
      exact q _ _ (Int.emod_nonneg _ (by omega)) (Int.emod_lt_of_pos _ hm) (kp2.trans kp_put) ⟨ns, b + 1, _, upd_same, by rw [upd_ne ncd]; exact hc2, by omega, by omega, Int.fdiv_nonneg (by omega) (by omega)⟩
    · show tSeq _ _ _ _ _
      refine ⟨_, rfl, .inl ⟨_, rfl, _, _, rfl, rfl, posI, _, _, rfl, rfl, .inl ⟨by omega, by omega⟩, _, rfl, _, _, rfl, rfl, .inl ⟨by decide, by decide⟩, _, rfl, _, _, rfl, rfl, .inl ⟨by omega, by omega⟩, _, _, rfl, rfl, ?_⟩⟩
      refine ⟨_, rfl, _, rfl, _, _, rfl, rfl, .inl ⟨by decide, by decide⟩, _, _, rfl, rfl, _, _, rfl, rfl, .inl ⟨_, rfl, _, _, rfl, rfl, posI, ?_⟩⟩
      refine ⟨_, rfl, _, rfl, _, _, rfl, rfl, .inl ⟨by omega, by omega⟩, _, rfl, _, _, rfl, rfl, .inl ⟨by decide, by decide⟩, _, _, rfl, rfl, _, rfl, _, _, rfl, rfl, .inl ⟨by decide, by decide⟩, _, _, rfl, rfl, _, _, rfl, rfl, .inl ⟨_, rfl, _, _, rfl, rfl, posI, ?_⟩⟩
      refine ⟨_, rfl, _, rfl, _, _, rfl, rfl, _, _, rfl, rfl, .inl ⟨by omega, by omega⟩, .inl ⟨_, rfl, _, _, rfl, rfl, posI, _, _, rfl, rfl, ⟨by decide, by decide⟩, .inl ⟨_, rfl, _, rfl, _, _, rfl, rfl, hm, ?_⟩⟩⟩
      exact q _ _ (Int.emod_nonneg _ (by omega)) (Int.emod_lt_of_pos _ hm) kp2 ⟨ns, b + 1, l, hd2, hc2, by omega, by omega, hl⟩
  · refine iteF ?_
    show tSeq _ _ _ _ _
    refine ⟨_, rfl, .inl ⟨_, rfl, _, _, rfl, rfl, posI, _, _, rfl, rfl, .inl ⟨by omega, by omega⟩, _, rfl, _, _, rfl, rfl, .inl ⟨by decide, by decide⟩, _, rfl, _, _, rfl, rfl, .inl ⟨by omega, by omega⟩, _, _, rfl, rfl, ?_⟩⟩
    refine ⟨_, rfl, _, rfl, _, _, rfl, rfl, .inl ⟨by decide, by decide⟩, _, _, rfl, rfl, _, _, rfl, rfl, .inl ⟨_, rfl, _, _, rfl, rfl, posI, ?_⟩⟩
    refine ⟨_, rfl, _, rfl, _, _, rfl, rfl, .inl ⟨by omega, by omega⟩, _, rfl, _, _, rfl, rfl, .inl ⟨by decide, by decide⟩, _, _, rfl, rfl, _, rfl, _, _, rfl, rfl, .inl ⟨by decide, by decide⟩, _, _, rfl, rfl, _, _, rfl, rfl, .inl ⟨_, rfl, _, _, rfl, rfl, posI, ?_⟩⟩
    refine ⟨_, rfl, _, rfl, _, _, rfl, rfl, _, _, rfl, rfl, .inl ⟨by omega, by omega⟩, .inl ⟨_, rfl, _, _, rfl, rfl, posI, _, _, rfl, rfl, ⟨by decide, by decide⟩, .inl ⟨_, rfl, _, rfl, _, _, rfl, rfl, hm, ?_⟩⟩⟩
    exact q _ _ (Int.emod_nonneg _ (by omega)) (Int.emod_lt_of_pos _ hm) kp2 ⟨ns, b + 1, l, hd2, hc2, by omega, by omega, hl⟩
end
theorem cut_drop (xs : List V) (c : Nat) : cutV xs (some (c : Int)) none = xs.drop c := by
  unfold cutV
  rw [HT.sIx_nat, HT.sIx_none]
  by_cases h : c ≤ xs.length
  · rw [Nat.min_eq_left h]
    apply List.take_of_length_le
    rw [List.length_drop]
    exact Nat.le_refl _
  · rw [Nat.min_eq_right (by omega), List.drop_of_length_le (Nat.le_refl _), List.drop_of_length_le (by omega)]
    simp
theorem cut_take (xs : List V) (c : Nat) : cutV xs none (some (c : Int)) = xs.take c := by
  unfold cutV
  rw [HT.sIx_nat, HT.sIx_none]
  show (xs.drop 0).take (min c xs.length - 0) = xs.take c
  rw [List.drop_zero, Nat.sub_zero]
  by_cases h : c ≤ xs.length
  · rw [Nat.min_eq_left h]
  · rw [Nat.min_eq_right (by omega), List.take_of_length_le (Nat.le_refl _), List.take_of_length_le (by omega)]
theorem kp_upd {d p : Addr} {H H' : Hp} {o : HO} (h : Kp d H H') (n : H p = none) : Kp d H (upd H' p o) := fun b u e nb => by
  rw [upd_ne (ne_of_none e n)]
  exact h b u e nb
def spPenOf (K : PySem.W.Frag) : Sp := fun vs H Q _ => ∃ (a : Addr) (ns : List Int), vs = [.ref a] ∧ SqL K H a (ns.map V.int) ∧ ∀ (H' : Hp) (d c : Addr), Same H H' → Pen H' d c 0 → Q (.ref d) H'
section
variable {P : Program} {w : World} {K : PySem.W.Frag} {mg : Str → Option Value} {base : Heap}
theorem ok_l_pen_of (T : Tx P K mg) (B : Bx T base) : FnOk P w K mg base CX0 1 T.a_l_pen_of T.fd_l_pen_of ["_law_script"] (spPenOf K) := by
  refine T.F_l_pen_of.ok sc_l_pen_of (fun vs H Q E h => ?_) (fun cdv A outer s H vs Q E hr h => ?_)
  · obtain ⟨a, ns, rfl, _⟩ := h
    rfl
  obtain ⟨a, ns, rfl, hS, q⟩ := h
  refine ⟨_, (pss_one (ps_ret (pe_disp (pps_cons pe_str (pe_callTy call_list_of (by rfl) T.b_list (by decide +kernel) (pa_cons (pe_slice sl_list (pv 0) po_none (po_some pe_int)) pa_nil)) (pps_cons pe_str pe_int (pps_cons pe_str pe_int pps_nil))) (by rfl) (by rfl) (fun z => by cases z) (by decide)))), ?_⟩
  intro p hp
  have s1 : Same H (upd H p (.dK [])) := same_upd hp
  refine ⟨_, rfl, _, rfl, a, _, rfl, s1.seq hS, fun c hc => ?_⟩
  have s2 : Same (upd H p (.dK [])) _ := same_upd (o := .lst (cutV (ns.map V.int) none (some 63))) hc
  refine ⟨c, _, rfl, .inl (SqL.of upd_same), fun l hl => ?_⟩
  have s3 : Same (upd (upd H p (.dK [])) c (.lst (cutV (ns.map V.int) none (some 63)))) _ := same_upd (o := .lst (cutV (ns.map V.int) none (some 63))) hl
  have sA := (s1.trans s2).trans s3
  refine ⟨s3 _ _ (s2 _ _ upd_same), penL l 0 0, rfl, by show 3 ≤ 15; decide, ?_⟩
  have e : mergeK [] (penL l 0 0) = penL l 0 0 := by
    show putK (putK (putK ([] : List (Key × V)) (.inr "cells") (.ref l)) (.inr "next") (.int 0)) (.inr "left") (.int 0) = _
    rw [show putK ([] : List (Key × V)) (.inr "cells") (.ref l) = [(.inr "cells", .ref l)] from rfl, putK_new _ ((valV_neg (ki k12)).trans valV_nil)]
    exact putK_new _ (show valV ([(.inr "cells", .ref l), (.inr "next", .int 0)] : List (Key × V)) (.inr "left") = none from (valV_neg (ki k13)).trans ((valV_neg (ki k23)).trans valV_nil))
  rw [e]
  have npl : p ≠ l := fun z => by
    subst z
    rw [s2 _ _ upd_same] at hl
    cases hl
  refine q _ p l (fun b o hb => ?_) ⟨ns.take 63, 0, 0, upd_same, ?_, Int.le_refl _, Int.le_refl _, Int.le_refl _⟩
  · rw [upd_ne (ne_of_none hb hp)]
    exact sA _ _ hb
  · rw [upd_ne npl.symm, upd_same, show cutV (ns.map V.int) none (some 63) = (ns.map V.int).take 63 from cut_take _ 63, List.map_take]
def spPickL (K : PySem.W.Frag) : Sp := fun vs H Q _ => ∃ (d c a : Addr) (n : Nat) (xs : List V), vs = [.ref d, .ref a] ∧ Pen H d c n ∧ n ≤ 100000 ∧ SqL K H a xs ∧ 0 < xs.length ∧ xs.length ≤ 1000 ∧ a ≠ d ∧
  ∀ (H' : Hp) (x : V), x ∈ xs → Kp d H H' → Pen H' d c (n + 1) → Q x H'
def spPickS : Sp := fun vs H Q _ => ∃ (d c : Addr) (n : Nat) (z : Str), vs = [.ref d, .str z] ∧ Pen H d c n ∧ n ≤ 100000 ∧ 0 < z.length ∧ z.length ≤ 1000 ∧
  ∀ (H' : Hp) (x : Nat), x ∈ z.cps.toList → Kp d H H' → Pen H' d c (n + 1) → Q (.str ⟨#[x]⟩) H'
abbrev spPick (K : PySem.W.Frag) : Sp := fun vs H Q E => spPickL K vs H Q E ∨ spPickS vs H Q E
theorem at_mem {α : Type} {xs : List α} {r : Int} (h0 : 0 ≤ r) (h1 : r < (xs.length : Int)) : ∃ x, atI xs r = some x ∧ x ∈ xs := by
  have h3 : r.toNat < xs.length := by omega
  refine ⟨xs[r.toNat], ?_, List.getElem_mem h3⟩
  have e : ixN xs.length r = some r.toNat := by
    unfold ixN
    rw [if_pos h0]
    rw [if_pos h1]
  unfold atI
  rw [e]
  exact List.getElem?_eq_getElem h3
theorem ok_l_pickL (T : Tx P K mg) (B : Bx T base) : FnOk P w K mg base CX0 2 T.a_l_pick T.fd_l_pick ["_law_pen", "_law_items"] (spPickL K) := by
  refine T.F_l_pick.ok sc_l_pick (fun vs H Q E h => ?_) (fun cdv A outer s H vs Q E hr h => ?_)
  · obtain ⟨d, c, a, n, xs, rfl, _⟩ := h
    rfl
  obtain ⟨d, c, a, n, xs, rfl, hp, hn, ha, hx, hx2, had, q⟩ := h
  refine ⟨_, (pss_one (ps_ret (pe_ix ix_list (pv 1) (pe_call (ok_l_draw (w := w) T B) (hr.mono (by decide)) (by rfl) T.m_l_draw T.F_l_draw.kp T.bi_l_draw .nil pass0 (pa_cons (pv 0) (pa_cons (pe_callB call_len_seq (by rfl) T.b_len (by decide +kernel) (pa_cons (pv 1) pa_nil)) pa_nil))) (fun _ _ => rfl)))), ?_⟩
  refine ⟨_, rfl, _, rfl, _, rfl, a, xs, rfl, .inl ha, d, c, n, (xs.length : Int), rfl, hp, hn, by omega, by omega, fun H1 r r0 r1 kp p1 => ?_⟩
  obtain ⟨x, e, hm⟩ := at_mem r0 r1
  refine ⟨a, xs, r, x, rfl, rfl, ?_, e, q _ x hm kp p1⟩
  rcases ha with (ha | ⟨o, ha⟩) | ha
  · exact .inl (.inl (kp _ _ ha had))
  · exact .inl (.inr ⟨o, kp _ _ ha had⟩)
  · exact .inr ha
theorem ok_l_pickS (T : Tx P K mg) (B : Bx T base) : FnOk P w K mg base CX0 2 T.a_l_pick T.fd_l_pick ["_law_pen", "_law_items"] spPickS := by
  refine T.F_l_pick.ok sc_l_pick (fun vs H Q E h => ?_) (fun cdv A outer s H vs Q E hr h => ?_)
  · obtain ⟨d, c, n, z, rfl, _⟩ := h
    rfl
  obtain ⟨d, c, n, z, rfl, hp, hn, hx, hx2, q⟩ := h
  have hz : z.length ≤ sizeLine := Nat.le_trans hx2 (by decide)
  refine ⟨_, (pss_one (ps_ret (pe_ix ix_str (pv 1) (pe_call (ok_l_draw (w := w) T B) (hr.mono (by decide)) (by rfl) T.m_l_draw T.F_l_draw.kp T.bi_l_draw .nil pass0 (pa_cons (pv 0) (pa_cons (pe_callB call_len_str (by rfl) T.b_len (by decide +kernel) (pa_cons (pv 1) pa_nil)) pa_nil))) (fun _ _ => rfl)))), ?_⟩
  refine ⟨_, rfl, _, rfl, _, rfl, z, rfl, hz, d, c, n, (z.length : Int), rfl, hp, hn, by omega, by omega, fun H1 r r0 r1 kp p1 => ?_⟩
  obtain ⟨x, e, hm⟩ := at_mem (xs := z.cps.toList) r0 (by rw [Array.length_toList]; exact r1)
  exact ⟨z, r, x, rfl, rfl, hz, e, q _ x hm kp p1⟩
theorem ok_l_pick (T : Tx P K mg) (B : Bx T base) : FnOk P w K mg base CX0 2 T.a_l_pick T.fd_l_pick ["_law_pen", "_law_items"] (spPick K) :=
  fn_alt (ok_l_pickL T B) (ok_l_pickS T B)
end
end Toy
set_option Elab.async false
set_option linter.all false
set_option maxRecDepth 100000
set_option maxHeartbeats 4000000
namespace Toy
open PySem L2 Sh ShL LamX NdefX
/-! ### words -/
abbrev Wd := List Nat
def sw (l : Wd) : Str := ⟨l.toArray⟩
theorem sw_list (a : Wd) : (sw a).cps.toList = a := rfl
theorem sw_inj {a b : Wd} (h : sw a = sw b) : a = b := by
  have := congrArg (fun s : Str => s.cps.toList) h
  exact this
theorem sw_of (s : Str) : s = sw s.cps.toList := by
  cases s
  rfl
theorem sw_app (a b : Wd) : sw a ++ sw b = sw (a ++ b) := by
  show (⟨a.toArray ++ b.toArray⟩ : Str) = ⟨(a ++ b).toArray⟩
  simp
theorem sw_one (c : Nat) : (⟨#[c]⟩ : Str) = sw [c] := rfl
theorem sw_len (a : Wd) : (sw a).length = a.length := by
  show a.toArray.size = a.length
  simp
theorem sw_dec (a b : Wd) : decide (V.str (sw a) = V.str (sw b)) = decide (a = b) := by
  apply decide_eq_decide.mpr
  exact ⟨fun h => sw_inj (V.str.inj h), fun h => by rw [h]⟩
theorem cut_init (a : Wd) : cutS (sw a) none (some (-1)) = sw a.dropLast := by
  have e1 : HT.sIx (sw a).length (sw a).length (some (-1)) = (sw a).length - 1 := by
    unfold HT.sIx
    simp
    omega
  unfold cutS
  rw [e1, HT.sIx_none, sw_list, sw_len]
  show (⟨((a.drop 0).take (a.length - 1 - 0)).toArray⟩ : Str) = ⟨a.dropLast.toArray⟩
  rw [List.drop_zero, Nat.sub_zero, List.dropLast_eq_take]
theorem cut_to (a : Wd) (k : Nat) : cutS (sw a) none (some (k : Int)) = sw (a.take k) := by
  unfold cutS
  rw [HT.sIx_nat, HT.sIx_none, sw_list, sw_len]
  show (⟨((a.drop 0).take (min k a.length - 0)).toArray⟩ : Str) = ⟨(a.take k).toArray⟩
  rw [List.drop_zero, Nat.sub_zero]
  by_cases h : k ≤ a.length
  · rw [Nat.min_eq_left h]
  · rw [Nat.min_eq_right (by omega), List.take_of_length_le (Nat.le_refl _), List.take_of_length_le (by omega)]
theorem cut_from (a : Wd) (k : Nat) : cutS (sw a) (some (k : Int)) none = sw (a.drop k) := by
  unfold cutS
  rw [HT.sIx_nat, HT.sIx_none, sw_list, sw_len]
  show (⟨((a.drop (min k a.length)).take (a.length - min k a.length)).toArray⟩ : Str) = ⟨(a.drop k).toArray⟩
  by_cases h : k ≤ a.length
  · rw [Nat.min_eq_left h, List.take_of_length_le (by simp)]
  · rw [Nat.min_eq_right (by omega), List.drop_of_length_le (Nat.le_refl _), List.drop_of_length_le (by omega), List.take_nil]
theorem atW_zero {a : Wd} {c : Nat} (h : a[0]? = some c) : atI (sw a).cps.toList 0 = some c := by
  rw [sw_list]
  unfold atI ixN
  obtain ⟨h1, _⟩ := List.getElem?_eq_some_iff.mp h
  rw [if_pos (Int.le_refl 0), if_pos (by omega)]
  exact h
theorem atW_last {a : Wd} {c : Nat} (h : a.getLast? = some c) : atI (sw a).cps.toList (-1) = some c := by
  rw [sw_list]
  unfold atI ixN
  have h1 : 0 < a.length := by
    cases a with
    | nil => cases h
    | cons x r => simp
  rw [if_neg (by decide), if_pos (by omega)]
  show a[(-1 + (a.length : Int)).toNat]? = some c
  rw [show (-1 + (a.length : Int)).toNat = a.length - 1 by omega, ← List.getLast?_eq_getElem?]
  exact h
/-! ### the order of places -/
def kW (z p : Wd) : List Int := p.map fun c => ((z.idxOf c : Nat) : Int)
def ordW (z : Wd) (ws : List Wd) : List Wd := ws.mergeSort fun p q => decide (kW z p ≤ kW z q)
theorem ordW_perm (z : Wd) (ws : List Wd) : (ordW z ws).Perm ws := List.mergeSort_perm ws _
theorem ordW_mem {z : Wd} {ws : List Wd} {p : Wd} : p ∈ ordW z ws ↔ p ∈ ws := (ordW_perm z ws).mem_iff
theorem ordW_len (z : Wd) (ws : List Wd) : (ordW z ws).length = ws.length := (ordW_perm z ws).length_eq
theorem ordW_nodup {z : Wd} {ws : List Wd} (h : ws.Nodup) : (ordW z ws).Nodup := (ordW_perm z ws).nodup_iff.mpr h
theorem ordW_sorted (z : Wd) (ws : List Wd) : (ordW z ws).Pairwise fun p q => kW z p ≤ kW z q := by
  have := List.pairwise_mergeSort (le := fun p q => decide (kW z p ≤ kW z q)) (fun a b c h1 h2 => decide_eq_true (List.le_trans (of_decide_eq_true h1) (of_decide_eq_true h2)))
    (fun a b => by
      rcases List.le_total (kW z a) (kW z b) with h | h
      · simp [h]
      · simp [h]) ws
  exact this.imp fun h => of_decide_eq_true h
theorem kW_inj {z : Wd} : ∀ {p q : Wd}, (∀ c ∈ p, c ∈ z) → (∀ c ∈ q, c ∈ z) → kW z p = kW z q → p = q
  | [], [], _, _, _ => rfl
  | [], _ :: _, _, _, h => by cases h
  | _ :: _, [], _, _, h => by cases h
  | c :: p, d :: q, h1, h2, h => by
    unfold kW at h
    rw [List.map_cons, List.map_cons, List.cons.injEq] at h
    have e : z.idxOf c = z.idxOf d := Int.ofNat.inj h.1
    have e1 := List.getElem_idxOf (List.idxOf_lt_length_of_mem (h1 c List.mem_cons_self))
    have e2 := List.getElem_idxOf (List.idxOf_lt_length_of_mem (h2 d List.mem_cons_self))
    have e3 : c = d := by
      rw [← e1, ← e2]
      simp only [e]
    rw [e3, kW_inj (fun c h => h1 c (List.mem_cons_of_mem _ h)) (fun c h => h2 c (List.mem_cons_of_mem _ h)) h.2]
theorem ordW_uniq {z : Wd} {ws us : List Wd} (hp : ws.Perm us) (hz : ∀ p ∈ ws, ∀ c ∈ p, c ∈ z) : ordW z ws = ordW z us := by
  refine List.Perm.eq_of_pairwise (le := fun p q => kW z p ≤ kW z q) (fun a b ha hb h1 h2 => ?_) (ordW_sorted z ws) (ordW_sorted z us) (((ordW_perm z ws).trans hp).trans (ordW_perm z us).symm)
  exact kW_inj (hz a (ordW_mem.mp ha)) (hz b (hp.mem_iff.mpr (ordW_mem.mp hb))) (List.le_antisymm h1 h2)
theorem ordW_idem {z : Wd} {ws : List Wd} (hz : ∀ p ∈ ws, ∀ c ∈ p, c ∈ z) : ordW z (ordW z ws) = ordW z ws := ordW_uniq (ordW_perm z ws) fun p h => hz p (ordW_mem.mp h)
theorem ordW_sub {z : Wd} {ws us : List Wd} (hs : us.Sublist (ordW z ws)) (hz : ∀ p ∈ ws, ∀ c ∈ p, c ∈ z) : ordW z us = us := by
  have hm : ∀ p ∈ us, ∀ c ∈ p, c ∈ z := fun p h => hz p (ordW_mem.mp (hs.subset h))
  refine List.Perm.eq_of_pairwise (le := fun p q => kW z p ≤ kW z q) (fun a b ha hb h1 h2 => ?_) (ordW_sorted z us) ((ordW_sorted z ws).sublist hs) (ordW_perm z us)
  exact kW_inj (hm a (ordW_mem.mp ha)) (hm b hb) (List.le_antisymm h1 h2)
theorem ordW_head {z : Wd} {ws : List Wd} (h : ([] : Wd) ∈ ws) : (ordW z ws)[0]? = some [] := by
  have hm := ordW_mem (z := z).mpr h
  have hs := ordW_sorted z ws
  cases e : ordW z ws with
  | nil =>
    rw [e] at hm
    cases hm
  | cons a r =>
    rw [e] at hm hs
    rcases List.mem_cons.mp hm with e | e
    · rw [← e]
      rfl
    · have := (List.pairwise_cons.mp hs).1 _ e
      have e2 : kW z a = [] := by
        have h3 : kW z a ≤ [] := this
        cases e4 : kW z a with
        | nil => rfl
        | cons x y =>
          rw [e4] at h3
          exact absurd h3 (by simp)
      cases a with
      | nil => rfl
      | cons x y => cases e2
abbrev keyS (z : Wd) (s : Str) : List Int := kW z s.cps.toList
theorem sort_sw (z : Wd) (ws : List Wd) : (ws.map sw).mergeSort (PySem.W.dataLe false (keyD (keyS z))) = (ordW z ws).map sw := by
  have e : PySem.W.dataLe false (keyD (keyS z)) = fun p q => decide (keyS z p ≤ keyS z q) := PySem.W.dataLe_rows (keyS z)
  rw [e]
  exact (List.map_mergeSort (f := sw) (l := ws) fun a _ b _ => rfl).symm
/-! ### Paired -/
theorem paired_mono {α β : Type} {R S : α → β → Prop} (f : ∀ a b, R a b → S a b) : ∀ {xs : List α} {ys : List β}, Paired R xs ys → Paired S xs ys
  | _, _, .nil => .nil
  | _, _, .cons h t => .cons (f _ _ h) (paired_mono f t)
theorem paired_ix {α β : Type} {R : α → β → Prop} : ∀ {xs : List α} {ys : List β} {n : Nat} {x : α}, Paired R xs ys → xs[n]? = some x → ∃ y, ys[n]? = some y ∧ R x y
  | _, _, _, _, .nil, h => by cases h
  | _, _, 0, _, .cons h t, e => by cases e; exact ⟨_, rfl, h⟩
  | _ :: _, _ :: _, n + 1, _, .cons h t, e => by
    obtain ⟨y, h1, h2⟩ := paired_ix (n := n) t (by simpa using e)
    exact ⟨y, by simpa using h1, h2⟩
theorem paired_ix' {α β : Type} {R : α → β → Prop} : ∀ {xs : List α} {ys : List β} {n : Nat} {y : β}, Paired R xs ys → ys[n]? = some y → ∃ x, xs[n]? = some x ∧ R x y
  | _, _, _, _, .nil, h => by cases h
  | _, _, 0, _, .cons h t, e => by cases e; exact ⟨_, rfl, h⟩
  | _ :: _, _ :: _, n + 1, _, .cons h t, e => by
    obtain ⟨y, h1, h2⟩ := paired_ix' (n := n) t (by simpa using e)
    exact ⟨y, by simpa using h1, h2⟩
theorem paired_app {α β : Type} {R : α → β → Prop} : ∀ {xs xs' : List α} {ys ys' : List β}, Paired R xs ys → Paired R xs' ys' → Paired R (xs ++ xs') (ys ++ ys')
  | _, _, _, _, .nil, h => h
  | _, _, _, _, .cons h t, k => .cons h (paired_app t k)
theorem paired_take {α β : Type} {R : α → β → Prop} : ∀ {xs : List α} {ys : List β} (n : Nat), Paired R xs ys → Paired R (xs.take n) (ys.take n)
  | _, _, 0, _ => by rw [List.take_zero, List.take_zero]; exact .nil
  | _, _, _ + 1, .nil => .nil
  | _, _, n + 1, .cons h t => .cons h (paired_take n t)
theorem paired_drop {α β : Type} {R : α → β → Prop} : ∀ {xs : List α} {ys : List β} (n : Nat), Paired R xs ys → Paired R (xs.drop n) (ys.drop n)
  | _, _, 0, h => h
  | _, _, _ + 1, .nil => .nil
  | _, _, n + 1, .cons h t => paired_drop n t
theorem paired_self {α β : Type} {f : β → α} : ∀ us : List β, Paired (fun x u => x = f u) (us.map f) us
  | [] => .nil
  | _ :: us => .cons rfl (paired_self us)
theorem paired_eq {α β : Type} {f : β → α} : ∀ {xs : List α} {us : List β}, Paired (fun x u => x = f u) xs us → xs = us.map f
  | _, _, .nil => rfl
  | _, _, .cons h t => by rw [List.map_cons, h, paired_eq t]
theorem paired_left {α β : Type} {R : α → β → Prop} : ∀ {xs : List α} {ys : List β} {x : α}, Paired R xs ys → x ∈ xs → ∃ y ∈ ys, R x y
  | _, _, _, .cons h t, m => by
    rcases List.mem_cons.mp m with rfl | m
    · exact ⟨_, List.mem_cons_self, h⟩
    · obtain ⟨y, h1, h2⟩ := paired_left t m
      exact ⟨y, List.mem_cons_of_mem _ h1, h2⟩
theorem paired_map {α β γ : Type} {R : α → β → Prop} {S : α → γ → Prop} {f : β → γ} (h : ∀ a b, R a b → S a (f b)) : ∀ {xs : List α} {ys : List β}, Paired R xs ys → Paired S xs (ys.map f)
  | _, _, .nil => .nil
  | _, _, .cons r t => .cons (h _ _ r) (paired_map h t)
/-! ### a comprehension, turn by turn -/
theorem lcG {α : Type} {J : It} {us : List α} {xs : List V} {R0 : V → α → Prop} {G : Hp → Prop} {Y : Nat → Hp → V → Hp → Prop} (w : Walk J xs.length G Y) (hY : ∀ i H x H', Y i H x H' → H' = H ∧ xs[i]? = some x) (pr : Paired R0 xs us)
    {g : TG} {tt : TT} {te : TE} {vs : List Nat} {σ : L2.St} {H1 : Hp} {D : Addr} {Qd : Hp → Prop} (C : Nat → Hp → Prop) (hC0 : C 0 (upd H1 D (.lst []))) (hC : ∀ i H acc, C i H → C i (upd H D (.lst acc))) (hG : ∀ i H, i ≤ xs.length → C i H → G H) (hl : us.length ≤ 40000)
    (keep : α → Bool) (S : Hp → V → α → Prop) (hS : ∀ H acc acc' v u, H D = some (.lst acc) → S H v u → S (upd H D (.lst acc')) v u)
    (hs : ∀ i x u H acc (R : VK) (N : Hp → Prop), us[i]? = some u → R0 x u → C i H → H D = some (.lst acc) → (keep u = true → ∀ y H', C (i + 1) H' → H' D = some (.lst acc) → (∀ v u, S H v u → S H' v u) → S H' y u → R y H') →
      (keep u = false → ∀ H', C (i + 1) H' → H' D = some (.lst acc) → (∀ v u, S H v u → S H' v u) → N H') → g x (wipe σ vs) H fun σ2 H2 => wipe σ2 vs = wipe σ vs ∧ tt σ2 H2 fun b H3 => if b = true then te σ2 H3 R else N H3)
    (hd : ∀ H acc, C xs.length H → H D = some (.lst acc) → Paired (S H) acc (us.filter keep) → Qd H) :
    ∃ W : Nat → Nat → Hp → Prop, (∃ m, W 0 m (upd H1 D (.lst []))) ∧ ∀ i m H, W i m H →
      (J.stop i H ∧ Qd H) ∨ (J.go i H ∧ ∃ Nx : Hp → Prop, (∀ H', Nx H' → ∃ m', m' < m ∧ W (i + 1) m' H') ∧ ∀ x H', J.yld i H x H' → g x (wipe σ vs) H' fun σ2 H2 => wipe σ2 vs = wipe σ vs ∧ tt σ2 H2 fun b H3 =>
        if b = true then te σ2 H3 fun y H4 => ∃ acc, H4 D = some (.lst acc) ∧ acc.length < sizeLine ∧ Nx (upd H4 D (.lst (acc ++ [y]))) else Nx H3) := by
  have hlen := pr.length
  refine lc_it w (fun i H => ∃ acc, H D = some (.lst acc) ∧ C i H ∧ Paired (S H) acc ((us.take i).filter keep)) ⟨[], upd_same, hC0, by rw [List.take_zero]; exact .nil⟩ (fun i H hi ⟨_, _, c, _⟩ => hG i H hi c) (fun i x H H' hi ⟨acc, hD, c, p⟩ y => ?_)
    fun H ⟨acc, hD, c, p⟩ => hd H acc c hD (by rw [hlen, List.take_of_length_le (Nat.le_refl _)] at p; exact p)
  obtain ⟨rfl, hx⟩ := hY _ _ _ _ y
  obtain ⟨u, hu, r⟩ := paired_ix pr hx
  have e : (us.take (i + 1)) = us.take i ++ [u] := by rw [List.take_add_one, hu]; rfl
  refine hs i x u _ acc _ _ hu r c hD (fun k z H2 c2 hD2 m sy => ?_) fun k H2 c2 hD2 m => ?_
  · refine ⟨acc, hD2, ?_, acc ++ [z], upd_same, hC _ _ _ c2, ?_⟩
    · rw [p.length, sizeLine_eq]
      have h1 := List.length_filter_le keep (us.take i)
      rw [List.length_take] at h1
      omega
    · rw [e, List.filter_append, List.filter_cons_of_pos k, List.filter_nil]
      exact paired_app (paired_mono (fun a b q => hS _ _ _ _ _ hD2 (m a b q)) p) (.cons (hS _ _ _ _ _ hD2 sy) .nil)
  · refine ⟨acc, hD2, c2, ?_⟩
    rw [e, List.filter_append, List.filter_cons_of_neg (by rw [k]; decide), List.filter_nil, List.append_nil]
    exact paired_mono m p
/-- the items are told by f; all that was stands -/
theorem lcF {α : Type} {J : It} {us : List α} {xs : List V} {R0 : V → α → Prop} {G : Hp → Prop} {Y : Nat → Hp → V → Hp → Prop} (w : Walk J xs.length G Y) (hY : ∀ i H x H', Y i H x H' → H' = H ∧ xs[i]? = some x) (pr : Paired R0 xs us)
    {g : TG} {tt : TT} {te : TE} {vs : List Nat} {σ : L2.St} {H1 : Hp} {D : Addr} {Qd : Hp → Prop} (hD : H1 D = none) (hG : ∀ H, Same H1 H → G H) (hl : us.length ≤ 40000)
    (keep : α → Bool) (f : α → V)
    (hs : ∀ x u H (R : VK) (N : Hp → Prop), u ∈ us → R0 x u → Same H1 H → (keep u = true → R (f u) H) → (keep u = false → N H) → g x (wipe σ vs) H fun σ2 H2 => wipe σ2 vs = wipe σ vs ∧ tt σ2 H2 fun b H3 => if b = true then te σ2 H3 R else N H3)
    (hd : ∀ H, Same H1 H → H D = some (.lst ((us.filter keep).map f)) → Qd H) :
    ∃ W : Nat → Nat → Hp → Prop, (∃ m, W 0 m (upd H1 D (.lst []))) ∧ ∀ i m H, W i m H →
      (J.stop i H ∧ Qd H) ∨ (J.go i H ∧ ∃ Nx : Hp → Prop, (∀ H', Nx H' → ∃ m', m' < m ∧ W (i + 1) m' H') ∧ ∀ x H', J.yld i H x H' → g x (wipe σ vs) H' fun σ2 H2 => wipe σ2 vs = wipe σ vs ∧ tt σ2 H2 fun b H3 =>
        if b = true then te σ2 H3 fun y H4 => ∃ acc, H4 D = some (.lst acc) ∧ acc.length < sizeLine ∧ Nx (upd H4 D (.lst (acc ++ [y]))) else Nx H3) := by
  refine lcG w hY pr (fun _ H => Same H1 H) (same_upd hD) (fun _ H acc s b o h => ?_) (fun i H _ s => hG H s) hl keep (fun _ v u => v = f u) (fun _ _ _ _ _ _ h => h) (fun i x u H acc R N hu r s hDH k1 k2 => ?_) fun H acc s hDH p => ?_
  · rw [upd_ne (ne_of_none h hD)]
    exact s _ _ h
  · exact hs x u H R N (List.mem_of_getElem? hu) r s (fun k => k1 k _ _ s hDH (fun _ _ h => h) rfl) fun k => k2 k _ s hDH fun _ _ h => h
  · rw [paired_eq p] at hDH
    exact hd H s hDH
theorem yat {xs : List V} : ∀ i H x H', YAt xs i H x H' → H' = H ∧ xs[i]? = some x := fun _ _ _ _ h => h
/-- the signs of a text -/
abbrev sgs (z : Wd) : List V := z.map fun c => V.str (sw [c])
theorem walk_sgs (z : Wd) : Walk (Its (sw z)) (sgs z).length (fun _ => True) (YAt (sgs z)) := by
  have := walk_str (z := sw z)
  rw [show (sw z).cps.size = (sgs z).length by rw [List.length_map]; show z.toArray.size = z.length; simp] at this
  refine this.mono (fun _ h => h) fun i H x H' hi _ ⟨e, c, h1, h2⟩ => ⟨e, ?_⟩
  have h3 : z[i]? = some c := by
    rw [← h1]
    show z[i]? = z.toArray[i]?
    simp
  rw [List.getElem?_map, h3, h2]
  rfl
theorem pr_sgs (z : Wd) : Paired (fun (x : V) c => x = V.str (sw [c])) (sgs z) z := paired_self z
/-- membership among texts -/
abbrev wsV (ps : List Wd) : List V := ps.map fun p => V.str (sw p)
theorem wsV_flat (ps : List Wd) : (wsV ps).all flatV = true := by
  rw [List.all_eq_true]
  intro x h
  obtain ⟨p, _, rfl⟩ := List.mem_map.mp h
  rfl
theorem wsV_in (p : Wd) (ps : List Wd) : inV (.str (sw p)) (wsV ps) = decide (p ∈ ps) := by
  induction ps with
  | nil => rfl
  | cons q ps ih =>
    show (eqV (.str (sw q)) (.str (sw p)) || inV (.str (sw p)) (wsV ps)) = _
    rw [ih]
    have e : eqV (.str (sw q)) (.str (sw p)) = decide (q = p) := by
      show ((sw q) == (sw p)) = _
      by_cases h : q = p
      · rw [h]; simp
      · rw [decide_eq_false h]
        exact beq_eq_false_iff_ne.mpr fun z => h (sw_inj z)
    rw [e]
    by_cases h : q = p
    · simp [h]
    · simp [h, Ne.symm h]
end Toy
set_option Elab.async false
set_option linter.all false
set_option maxRecDepth 100000
set_option maxHeartbeats 4000000
namespace Toy
open PySem L2 Sh ShL LamX NdefX
/-! ### kinds of values; heaps that keep lists and tuples -/
def TyN (H : Hp) : V → String → Prop
  | .non, t => t = "NoneType"
  | .bl _, t => t = "bool"
  | .int _, t => t = "int"
  | .str _, t => t = "str"
  | .ref p, t => (t = "list" ∧ ∃ xs, H p = some (.lst xs)) ∨ (t = "tuple" ∧ ∃ xs, H p = some (.tup xs)) ∨ (t = "dict" ∧ ∃ kvs, H p = some (.dK kvs))
  | _, _ => False
theorem TyN.ty {K : PySem.W.Frag} {H : Hp} : ∀ {x : V} {t : String}, TyN H x t → TyX K H x (.type t)
  | .non, _, rfl => .base .non
  | .bl b, _, rfl => .base (.bl b)
  | .int i, _, rfl => .base (.int i)
  | .str s, _, rfl => .base (.str s)
  | .ref p, _, .inl ⟨rfl, xs, h⟩ => .base (.lst h)
  | .ref p, _, .inr (.inl ⟨rfl, xs, h⟩) => .base (.tup h)
  | .ref p, _, .inr (.inr ⟨rfl, xs, h⟩) => .base (.dK h)
abbrev tyNs : List String := ["NoneType", "bool", "int", "str", "list", "tuple", "dict"]
theorem TyN.mem {H : Hp} : ∀ {x : V} {t : String}, TyN H x t → t ∈ tyNs
  | .non, _, rfl => by decide
  | .bl b, _, rfl => by decide
  | .int i, _, rfl => by decide
  | .str s, _, rfl => by decide
  | .ref p, _, .inl ⟨rfl, xs, h⟩ => by decide
  | .ref p, _, .inr (.inl ⟨rfl, xs, h⟩) => by decide
  | .ref p, _, .inr (.inr ⟨rfl, xs, h⟩) => by decide
/-- what keeps the types: lists, tuples, dicts stay such -/
def KpT (H H' : Hp) : Prop := (∀ b xs, H b = some (.lst xs) → ∃ ys, H' b = some (.lst ys)) ∧ (∀ b xs, H b = some (.tup xs) → H' b = some (.tup xs)) ∧ ∀ b kvs, H b = some (.dK kvs) → ∃ kvs', H' b = some (.dK kvs')
theorem TyN.kp {H H' : Hp} (k : KpT H H') : ∀ {x : V} {t : String}, TyN H x t → TyN H' x t
  | .non, _, h => h
  | .bl b, _, h => h
  | .int i, _, h => h
  | .str s, _, h => h
  | .ref p, _, .inl ⟨e, xs, h⟩ => .inl ⟨e, k.1 _ _ h⟩
  | .ref p, _, .inr (.inl ⟨e, xs, h⟩) => .inr (.inl ⟨e, xs, k.2.1 _ _ h⟩)
  | .ref p, _, .inr (.inr ⟨e, xs, h⟩) => .inr (.inr ⟨e, k.2.2 _ _ h⟩)
theorem kpT_same {H H' : Hp} (s : Same H H') : KpT H H' := ⟨fun _ _ h => ⟨_, s _ _ h⟩, fun _ _ h => s _ _ h, fun _ _ h => ⟨_, s _ _ h⟩⟩
theorem kpT_sm {T : List (Addr × Str)} {H H' : Hp} (s : Sm T H H') : KpT H H' := ⟨fun _ _ h => ⟨_, s.get h⟩, fun _ _ h => s.get h, fun _ _ h => ⟨_, s.get h⟩⟩
theorem kpT_pen {H H' : Hp} {d c : Addr} {n m : Nat} (p : Pen H d c n) (s : Kp d H H') (p' : Pen H' d c m) : KpT H H' := by
  obtain ⟨kvs, hd⟩ := p.at
  obtain ⟨kvs', hd'⟩ := p'.at
  refine ⟨fun b xs h => ⟨_, s _ _ h (ne_of h hd (by intro z; cases z))⟩, fun b xs h => s _ _ h (ne_of h hd (by intro z; cases z)), fun b kvs h => ?_⟩
  by_cases e : b = d
  · exact ⟨_, by rw [e]; exact hd'⟩
  · exact ⟨_, s _ _ h e⟩
theorem KpT.trans {H H1 H2 : Hp} (a : KpT H H1) (b : KpT H1 H2) : KpT H H2 := ⟨fun x xs h => let ⟨_, h⟩ := a.1 x xs h; b.1 _ _ h, fun x xs h => b.2.1 _ _ (a.2.1 x xs h), fun x xs h => let ⟨_, h⟩ := a.2.2 x xs h; b.2.2 _ _ h⟩
theorem kit_bool {K : PySem.W.Frag} {t : String} (h : t ∈ tyNs) : PySem.W.kitOne K (.type t) (.type "bool") = some (decide (t = "bool")) := by
  simp only [List.mem_cons, List.not_mem_nil, or_false] at h
  rcases h with rfl | rfl | rfl | rfl | rfl | rfl | rfl <;> exact kit_ty (by decide +kernel)
theorem kit_int {K : PySem.W.Frag} {t : String} (h : t ∈ tyNs) : PySem.W.kitOne K (.type t) (.type "int") = some (decide (t = "int" ∨ t = "bool")) := by
  simp only [List.mem_cons, List.not_mem_nil, or_false] at h
  rcases h with rfl | rfl | rfl | rfl | rfl | rfl | rfl <;> exact kit_ty (by decide +kernel)
theorem kit_str {K : PySem.W.Frag} {t : String} (h : t ∈ tyNs) : PySem.W.kitOne K (.type t) (.type "str") = some (decide (t = "str")) := by
  simp only [List.mem_cons, List.not_mem_nil, or_false] at h
  rcases h with rfl | rfl | rfl | rfl | rfl | rfl | rfl <;> exact kit_ty (by decide +kernel)
theorem kit_lot {K : PySem.W.Frag} {t : String} (h : t ∈ tyNs) : PySem.W.kitAny K (.type t) [.type "list", .type "tuple"] = some (decide (t = "list" ∨ t = "tuple")) := by
  simp only [List.mem_cons, List.not_mem_nil, or_false] at h
  rcases h with rfl | rfl | rfl | rfl | rfl | rfl | rfl
  all_goals first
    | exact kitAny_cons (b := true) (kit_ty (by decide +kernel)) (fun z => nomatch z) fun _ => rfl
    | exact kitAny_cons (b := false) (kit_ty (by decide +kernel)) (fun _ => kitAny_cons (b := true) (kit_ty (by decide +kernel)) (fun z => nomatch z) fun _ => rfl) fun z => nomatch z
    | exact kitAny_cons (b := false) (kit_ty (by decide +kernel)) (fun _ => kitAny_cons (b := false) (kit_ty (by decide +kernel)) (fun _ => rfl) fun z => nomatch z) fun z => nomatch z
/-- lists and tuples stay, dicts stay dicts -/
def KpS (H H' : Hp) : Prop := (∀ b xs, H b = some (.lst xs) → H' b = some (.lst xs)) ∧ (∀ b xs, H b = some (.tup xs) → H' b = some (.tup xs)) ∧ ∀ b kvs, H b = some (.dK kvs) → ∃ kvs', H' b = some (.dK kvs')
theorem KpS.t {H H' : Hp} (k : KpS H H') : KpT H H' := ⟨fun b xs h => ⟨_, k.1 b xs h⟩, k.2.1, k.2.2⟩
theorem kpS_same {H H' : Hp} (s : Same H H') : KpS H H' := ⟨fun _ _ h => s _ _ h, fun _ _ h => s _ _ h, fun _ _ h => ⟨_, s _ _ h⟩⟩
theorem kpS_sm {T : List (Addr × Str)} {H H' : Hp} (s : Sm T H H') : KpS H H' := ⟨fun _ _ h => s.get h, fun _ _ h => s.get h, fun _ _ h => ⟨_, s.get h⟩⟩
theorem kpS_pen {H H' : Hp} {d c : Addr} {n m : Nat} (p : Pen H d c n) (s : Kp d H H') (p' : Pen H' d c m) : KpS H H' := by
  obtain ⟨kvs, hd⟩ := p.at
  exact ⟨fun b xs h => s _ _ h (ne_of h hd (by intro z; cases z)), fun b xs h => s _ _ h (ne_of h hd (by intro z; cases z)), (kpT_pen p s p').2.2⟩
theorem kpS_ins {H H' : Hp} {o C dx : Addr} {fs : List (Str × V)} (h : H o = some (.ins C dx fs)) (s : Kp o H H') : KpS H H' :=
  ⟨fun b xs q => s _ _ q (ne_of q h (by intro z; cases z)), fun b xs q => s _ _ q (ne_of q h (by intro z; cases z)), fun b xs q => ⟨_, s _ _ q (ne_of q h (by intro z; cases z))⟩⟩
theorem KpS.trans {H H1 H2 : Hp} (a : KpS H H1) (b : KpS H1 H2) : KpS H H2 := ⟨fun x xs h => b.1 _ _ (a.1 x xs h), fun x xs h => b.2.1 _ _ (a.2.1 x xs h), fun x xs h => let ⟨_, h⟩ := a.2.2 x xs h; b.2.2 _ _ h⟩
theorem KpS.refl (H : Hp) : KpS H H := ⟨fun _ _ h => h, fun _ _ h => h, fun _ _ h => ⟨_, h⟩⟩
def SqA (H : Hp) (a : Addr) (xs : List V) : Prop := H a = some (.lst xs) ∨ H a = some (.tup xs)
theorem SqA.kp {H H' : Hp} {a : Addr} {xs : List V} (s : KpS H H') (h : SqA H a xs) : SqA H' a xs := h.imp (s.1 _ _) (s.2.1 _ _)
end Toy
set_option Elab.async false
set_option linter.all false
set_option maxRecDepth 100000
set_option maxHeartbeats 4000000
namespace Toy
open PySem L2 Sh ShL LamX NdefX
def small : Wd := [97, 98, 99, 100, 101, 102, 103, 104, 105, 106, 107, 108, 109, 110, 111, 112, 113, 114, 115, 116, 117, 118, 119, 120, 121, 122]
theorem small_eq : (("abcdefghijklmnopqrstuvwxyz" : Str)) = sw small := by decide +kernel
theorem mt_eq : (("" : Str)) = sw [] := by decide +kernel
structure LetOk (z : Wd) : Prop where
  l2 : 2 ≤ z.length
  l26 : z.length ≤ 26
  nd : z.Nodup
  sm : ∀ c ∈ z, c ∈ small
theorem count_sw (z : Wd) (c : Nat) : Txt.count (sw z) ⟨#[c]⟩ = ((z.count c : Nat) : Int) := by
  rw [PyProof.Rows.count_is, sw_list]
  show PyProof.Rows.cnt c z = _
  induction z with
  | nil => rfl
  | cons n r ih =>
    rw [PyProof.Rows.cnt_cons, ih, List.count_cons]
    by_cases h : n = c <;> simp [h] <;> omega
theorem idx_le : ∀ {z : Wd} {c i : Nat}, z[i]? = some c → z.idxOf c ≤ i
  | [], _, _, h => by cases h
  | a :: z, c, 0, h => by
    cases h
    simp
  | a :: z, c, i + 1, h => by
    have := idx_le (z := z) (c := c) (i := i) (by simpa using h)
    rw [List.idxOf_cons]
    by_cases e : a = c
    · simp [e]
    · rw [beq_eq_false_iff_ne.mpr e]
      exact Nat.succ_le_succ this
theorem cnt_one : ∀ {z : Wd} {c : Nat}, z.Nodup → c ∈ z → z.count c = 1
  | a :: z, c, nd, h => by
    rw [List.nodup_cons] at nd
    rw [List.count_cons]
    by_cases e : a = c
    · subst e
      rw [List.count_eq_zero.mpr nd.1]
      simp
    · rcases List.mem_cons.mp h with h | h
      · exact absurd h.symm e
      · rw [cnt_one nd.2 h]
        simp [e]
theorem occ_sw {z : Wd} {c : Nat} (h : c ∈ z) : ∃ rest, Builtin.Str.occurrences (sw z) ⟨#[c]⟩ 0 (sw z).length 1 = z.idxOf c :: rest := by
  rcases StrLaws.occ_head (sw z) ⟨#[c]⟩ 1 (Nat.le_refl 1) with ⟨_, hn⟩ | ⟨i, r, e, ha, hn⟩
  · obtain ⟨j, hj⟩ := List.getElem?_of_mem h
    exact absurd ((StrLaws.subAt_one (sw z) c j).mpr hj) (hn j)
  · have h1 : z[i]? = some c := (StrLaws.subAt_one (sw z) c i).mp ha
    refine ⟨r, ?_⟩
    rw [e]
    congr 1
    obtain ⟨h2, h3⟩ := List.getElem?_eq_some_iff.mp h1
    have h4 := List.idxOf_lt_length_of_mem h
    have h5 := List.getElem_idxOf h4
    by_cases h6 : z.idxOf c < i
    · exact absurd ((StrLaws.subAt_one (sw z) c _).mpr (by rw [sw_list, List.getElem?_eq_getElem h4, h5])) (hn _ h6)
    · by_cases h7 : i < z.idxOf c
      · have := idx_le h1
        omega
      · omega
theorem isi_s {K : PySem.W.Frag} : PySem.W.kitOne K (.type "str") (.type "str") = some true := kit_ty (by decide +kernel)
theorem isi_i {K : PySem.W.Frag} : PySem.W.kitOne K (.type "int") (.type "int") = some true := kit_ty (by decide +kernel)
theorem isi_ib {K : PySem.W.Frag} : PySem.W.kitOne K (.type "int") (.type "bool") = some false := kit_ty (by decide +kernel)
theorem isi_nb {K : PySem.W.Frag} : PySem.W.kitOne K (.type "NoneType") (.type "bool") = some false := kit_ty (by decide +kernel)
theorem isi_bb {K : PySem.W.Frag} : PySem.W.kitOne K (.type "bool") (.type "bool") = some true := kit_ty (by decide +kernel)
theorem isi_tt {K : PySem.W.Frag} : PySem.W.kitOne K (.type "tuple") (.type "tuple") = some true := kit_ty (by decide +kernel)
theorem kit_lt {K : PySem.W.Frag} {t : String} (h : t = "list" ∨ t = "tuple") : PySem.W.kitAny K (.type t) [.type "list", .type "tuple"] = some true := by
  rcases h with rfl | rfl
  · exact kitAny_cons (b := true) (kit_ty (by decide +kernel)) (fun z => nomatch z) fun _ => rfl
  · exact kitAny_cons (b := false) (kit_ty (by decide +kernel)) (fun _ => kitAny_cons (b := true) (kit_ty (by decide +kernel)) (fun z => nomatch z) fun _ => rfl) fun z => nomatch z
theorem all_true : ∀ {n : Nat}, (List.replicate n true).all id = true
  | 0 => rfl
  | n + 1 => by rw [List.replicate_succ, List.all_cons, all_true]; rfl
theorem map_bl {α : Type} (us : List α) : us.map (fun _ => V.bl true) = (List.replicate us.length true).map V.bl := by
  induction us with
  | nil => rfl
  | cons u us ih => rw [List.map_cons, ih, List.length_cons, List.replicate_succ, List.map_cons]
theorem filter_tt {α : Type} (us : List α) : us.filter (fun _ => true) = us := by simp
instance (z : Wd) : Decidable (LetOk z) := decidable_of_iff (2 ≤ z.length ∧ z.length ≤ 26 ∧ z.Nodup ∧ ∀ c ∈ z, c ∈ small) ⟨fun h => ⟨h.1, h.2.1, h.2.2.1, h.2.2.2⟩, fun h => ⟨h.l2, h.l26, h.nd, h.sm⟩⟩
theorem filter_tt2 {α : Type} (us : List α) (f : α → Bool) : (us.map f).all id = us.all f := by rw [List.all_map]; rfl
theorem map_bl2 {α : Type} (us : List α) (f : α → Bool) : us.map (fun u => V.bl (f u)) = (us.map f).map V.bl := by rw [List.map_map]; rfl
theorem cnt_nd {z : Wd} : (∀ c ∈ z, z.count c = 1) ↔ z.Nodup := by
  rw [List.nodup_iff_count]
  constructor
  · intro h c
    by_cases hc : c ∈ z
    · rw [h c hc]; omega
    · rw [List.count_eq_zero.mpr hc]; omega
  · intro h c hc
    have h1 := h c
    have h2 := List.count_pos_iff.mpr hc
    omega
def LtV (H : Hp) (v : V) (b : Bool) : Prop := (∃ z, v = .str (sw z) ∧ z.length ≤ 1000 ∧ b = decide (LetOk z)) ∨ (b = false ∧ ∃ t, TyN H v t ∧ t ≠ "str")
def WdV (H : Hp) (z : Wd) (v : V) (b : Bool) : Prop := (∃ p, v = .str (sw p) ∧ p.length ≤ 1000 ∧ b = decide (p.length ≤ 200 ∧ ∀ c ∈ p, c ∈ z)) ∨ (b = false ∧ ∃ t, TyN H v t ∧ t ≠ "str")
def VlV (H : Hp) (v : V) (b : Bool) : Prop := (∃ i : Int, v = .int i ∧ b = decide (1 ≤ i ∧ i ≤ 9)) ∨ (b = false ∧ ∃ t, TyN H v t ∧ t ≠ "int")
def FlV (H : Hp) (v : V) (b : Bool) : Prop := (b = true ∧ ∃ c, v = .bl c) ∨ (b = false ∧ ∃ t, TyN H v t ∧ t ≠ "bool")
theorem LtV.kp {H H' : Hp} {v : V} {b : Bool} (k : KpS H H') (h : LtV H v b) : LtV H' v b := h.imp id fun ⟨e, t, h, n⟩ => ⟨e, t, h.kp k.t, n⟩
theorem WdV.kp {H H' : Hp} {z : Wd} {v : V} {b : Bool} (k : KpS H H') (h : WdV H z v b) : WdV H' z v b := h.imp id fun ⟨e, t, h, n⟩ => ⟨e, t, h.kp k.t, n⟩
theorem VlV.kp {H H' : Hp} {v : V} {b : Bool} (k : KpS H H') (h : VlV H v b) : VlV H' v b := h.imp id fun ⟨e, t, h, n⟩ => ⟨e, t, h.kp k.t, n⟩
theorem FlV.kp {H H' : Hp} {v : V} {b : Bool} (k : KpS H H') (h : FlV H v b) : FlV H' v b := h.imp id fun ⟨e, t, h, n⟩ => ⟨e, t, h.kp k.t, n⟩
def spLetters : Sp := fun vs H Q _ => ∃ v b, vs = [v] ∧ LtV H v b ∧ ∀ H', Same H H' → Q (.bl b) H'
def spWord : Sp := fun vs H Q _ => ∃ z v b, vs = [.str (sw z), v] ∧ WdV H z v b ∧ ∀ H', Same H H' → Q (.bl b) H'
def spValue : Sp := fun vs H Q _ => ∃ v b, vs = [v] ∧ VlV H v b ∧ Q (.bl b) H
section
variable {P : Program} {w : World} {K : PySem.W.Frag} {mg : Str → Option Value} {base : Heap}
theorem ok_is_letters (T : Tx P K mg) (B : Bx T base) : FnOk P w K mg base CX0 1 T.a_is_letters T.fd_is_letters ["letters"] spLetters := by
  refine okT T.F_is_letters sc_is_letters (fun vs H Q E h => ?_) (fun cdv A outer s H vs Q E hcd hr h => ?_)
  · obtain ⟨v, b, rfl, _⟩ := h
    rfl
  have hu := hu_of hr
  have hu65 := hu65_of hr
  obtain ⟨v, b, rfl, hv, q⟩ := h
  refine ⟨_, (pss_cons (ps_if (PW.pt (pw_or (pt_not (pt_val (pe_callB call_isi (by rfl) T.b_isinstance (by decide +kernel) (pa_cons (pv 0) (pa_cons (pe_bltn (v := .ty "str") (by rfl) T.b_str (by decide +kernel) rfl) pa_nil))))) (pw_or1 (pt_not (pt_chain op_le op_le pe_int (pe_callB call_len_str (by rfl) T.b_len (by decide +kernel) (pa_cons (pv 0) pa_nil)) (pe_callB call_len_str (by rfl) T.b_len (by decide +kernel) (pa_cons (pe_glob (v := .str "abcdefghijklmnopqrstuvwxyz") (by rfl) T.m_SMALL.choose_spec ⟨_, rfl⟩) pa_nil)))))))
 (pss_one (ps_ret pe_bl))
 pss_nil)
 (pss_one (ps_ret (pe_callB (cr_all rfl) (by rfl) T.b_all (by decide +kernel) (pa_cons (pe_lc (own := [("letter", 1)]) (g := gName 1) rfl sc_is_letters.nd (pi_str (pv 0)) (blkOk_by (own := [("letter", 1)]) (N := N_is_letters) (sc := defScope s_is_letters) (by decide +kernel)) (fun _ _ _ _ _ => (pg_name (i := 1) sc_is_letters.nd rfl (by first | exact Or.inl rfl | exact Or.inr rfl))) (fun _ _ _ _ _ => pts_nil) (fun _ _ _ _ _ => (pe_and (pe_cmpR op_in_sign (pv 1) (pe_glob (v := .str "abcdefghijklmnopqrstuvwxyz") (by rfl) T.m_SMALL.choose_spec ⟨_, rfl⟩) (by rfl)) (pe_one (pe_cmpR op_eq (pe_m1 PySem.F.slot_str_count PySem.F.type_str_count mt_count (pv 0) (pv 1)) pe_int (nomark _)))))) pa_nil))))), ?_⟩
  rcases hv with ⟨z, rfl, hl0, rfl⟩ | ⟨rfl, t, ht, hn⟩
  rotate_left
  · refine ⟨_, rfl, _, _, _, _, _, rfl, .ty _, ht.ty, kit_str ht.mem, _, rfl, ?_⟩
    rw [decide_eq_false hn]
    exact iteT (q _ fun _ _ h => h)
  have hl : (sw z).length ≤ sizeLine := by rw [sw_len, sizeLine_eq]; omega
  refine ⟨_, rfl, _, _, _, _, _, rfl, .ty _, .base (.str _), isi_s, _, rfl, ?_⟩
  refine iteF ?_
  refine ⟨_, rfl, _, rfl, hl, _, _, rfl, rfl, _, rfl, ?_⟩
  rw [sw_len]
  refine ite2 (fun h2 => ?_) (fun h2 => ?_)
  rotate_left
  · rw [decide_eq_false (fun k : LetOk z => h2 (decide_eq_true (by have := k.l2; omega)))] at q
    exact ⟨_, rfl, iteT (q _ fun _ _ h => h)⟩
  refine ⟨_, rfl, by decide +kernel, _, _, rfl, rfl, _, rfl, ?_⟩
  rw [show ((("abcdefghijklmnopqrstuvwxyz" : Str)).length : Int) = 26 by decide +kernel]
  refine ite2 (fun h3 => ?_) (fun h3 => ?_)
  · have h3 : ¬ (z.length : Int) ≤ 26 := by simpa using h3
    rw [decide_eq_false (fun k : LetOk z => h3 (by have := k.l26; omega))] at q
    exact q _ fun _ _ h => h
  have h3 : (z.length : Int) ≤ 26 := by simpa using h3
  have h2 : (2 : Int) ≤ (z.length : Int) := by simpa using h2
  refine ⟨_, rfl, _, rfl, fun D hD => ?_⟩
  refine lcF (walk_sgs z) yat (pr_sgs z) hD (fun _ _ => trivial) (by omega) (fun _ => true) (fun c => .bl (decide (c ∈ small) && decide (z.count c = 1))) (fun x c H' R N hc e s k1 _ => ?_) (fun H' s hl => ?_)
  · subst e
    refine ⟨rfl, yes_ite ?_⟩
    refine ⟨_, rfl, c, _, rfl, rfl, _, rfl, ?_⟩
    rw [small_eq, sw_list]
    have k1 := k1 rfl
    refine ite2 (fun h => ?_) (fun h => ?_)
    · rw [h] at k1
      refine ⟨_, rfl, ⟨_, rfl⟩, _, rfl, _, _, rfl, rfl, rfl, ?_⟩
      rw [← sw_one, count_sw, show decide (V.int ((z.count c : Nat) : Int) = V.int 1) = decide (z.count c = 1) from decide_eq_decide.mpr ⟨fun h => by have := V.int.inj h; omega, fun h => by rw [h]; rfl⟩]
      exact k1
    · have h : decide (c ∈ small) = false := by simpa using h
      rw [h] at k1
      exact k1
  · rw [filter_tt, map_bl2] at hl
    refine ⟨D, _, rfl, SqL.of hl, ?_⟩
    rw [filter_tt2]
    have e : (z.all fun c => decide (c ∈ small) && decide (z.count c = 1)) = decide (LetOk z) := by
      rw [Bool.eq_iff_iff, List.all_eq_true, decide_eq_true_iff]
      constructor
      · intro h
        have h' : ∀ c ∈ z, c ∈ small ∧ z.count c = 1 := fun c hc => by have := h c hc; simpa using this
        exact ⟨by omega, by omega, cnt_nd.mp fun c hc => (h' c hc).2, fun c hc => (h' c hc).1⟩
      · intro k c hc
        rw [decide_eq_true (k.sm c hc), decide_eq_true (cnt_nd.mpr k.nd c hc)]
        rfl
    rw [e]
    exact q _ s
theorem ok_is_word (T : Tx P K mg) (B : Bx T base) : FnOk P w K mg base CX0 1 T.a_is_word T.fd_is_word ["letters", "word"] spWord := by
  refine okT T.F_is_word sc_is_word (fun vs H Q E h => ?_) (fun cdv A outer s H vs Q E hcd hr h => ?_)
  · obtain ⟨z, v, b, rfl, _⟩ := h
    rfl
  have hu := hu_of hr
  have hu65 := hu65_of hr
  obtain ⟨z, v, b, rfl, hv, q⟩ := h
  refine ⟨_, (pss_cons (ps_if (PW.pt (pw_or (pt_not (pt_val (pe_callB call_isi (by rfl) T.b_isinstance (by decide +kernel) (pa_cons (pv 1) (pa_cons (pe_bltn (v := .ty "str") (by rfl) T.b_str (by decide +kernel) rfl) pa_nil))))) (pw_or1 (pt_cmpR op_gt (pe_callB call_len_str (by rfl) T.b_len (by decide +kernel) (pa_cons (pv 1) pa_nil)) (pe_glob (v := .int 200) (by rfl) T.m_MOST_LETTERS.choose_spec ⟨_, rfl⟩) (nomark _)))))
 (pss_one (ps_ret pe_bl))
 pss_nil)
 (pss_one (ps_ret (pe_callB (cr_all rfl) (by rfl) T.b_all (by decide +kernel) (pa_cons (pe_lc (own := [("letter", 2)]) (g := gName 2) rfl sc_is_word.nd (pi_str (pv 1)) (blkOk_by (own := [("letter", 2)]) (N := N_is_word) (sc := defScope s_is_word) (by decide +kernel)) (fun _ _ _ _ _ => (pg_name (i := 2) sc_is_word.nd rfl (by first | exact Or.inl rfl | exact Or.inr rfl))) (fun _ _ _ _ _ => pts_nil) (fun _ _ _ _ _ => (pe_cmpR op_in_sign (pv 2) (pv 0) (by rfl)))) pa_nil))))), ?_⟩
  rcases hv with ⟨p, rfl, hl0, rfl⟩ | ⟨rfl, t, ht, hn⟩
  rotate_left
  · refine ⟨_, rfl, _, _, _, _, _, rfl, .ty _, ht.ty, kit_str ht.mem, _, rfl, ?_⟩
    rw [decide_eq_false hn]
    exact iteT (q _ fun _ _ h => h)
  have hl : (sw p).length ≤ sizeLine := by rw [sw_len, sizeLine_eq]; omega
  refine ⟨_, rfl, _, _, _, _, _, rfl, .ty _, .base (.str _), isi_s, _, rfl, ?_⟩
  refine iteF ?_
  refine ⟨_, rfl, _, rfl, hl, _, _, rfl, rfl, _, rfl, ?_⟩
  rw [sw_len]
  refine ite2 (fun h2 => ?_) (fun h2 => ?_)
  · have h2 : (200 : Int) < (p.length : Int) := by simpa using h2
    rw [decide_eq_false (fun k : p.length ≤ 200 ∧ ∀ c ∈ p, c ∈ z => by omega)] at q
    exact q _ fun _ _ h => h
  have h2 : ¬ (200 : Int) < (p.length : Int) := by simpa using h2
  refine ⟨_, rfl, _, rfl, fun D hD => ?_⟩
  refine lcF (walk_sgs p) yat (pr_sgs p) hD (fun _ _ => trivial) (by omega) (fun _ => true) (fun c => .bl (decide (c ∈ z))) (fun x c H' R N hc e s k1 _ => ?_) (fun H' s hl => ?_)
  · subst e
    refine ⟨rfl, yes_ite ?_⟩
    refine ⟨_, rfl, _, rfl, c, _, rfl, rfl, ?_⟩
    rw [sw_list]
    exact k1 rfl
  · rw [filter_tt, map_bl2] at hl
    refine ⟨D, _, rfl, SqL.of hl, ?_⟩
    rw [filter_tt2]
    have e : (p.all fun c => decide (c ∈ z)) = decide (p.length ≤ 200 ∧ ∀ c ∈ p, c ∈ z) := by
      rw [Bool.eq_iff_iff, List.all_eq_true, decide_eq_true_iff]
      exact ⟨fun h => ⟨by omega, fun c hc => of_decide_eq_true (h c hc)⟩, fun h c hc => decide_eq_true (h.2 c hc)⟩
    rw [e]
    exact q _ s
theorem ok_is_value (T : Tx P K mg) (B : Bx T base) : FnOk P w K mg base CX0 1 T.a_is_value T.fd_is_value ["value"] spValue := by
  refine okT T.F_is_value sc_is_value (fun vs H Q E h => ?_) (fun cdv A outer s H vs Q E hcd hr h => ?_)
  · obtain ⟨v, b, rfl, _⟩ := h
    rfl
  have hu := hu_of hr
  have hu65 := hu65_of hr
  obtain ⟨v, b, rfl, hv, q⟩ := h
  refine ⟨_, (pss_one (ps_ret (pe_and (pe_callB call_isi (by rfl) T.b_isinstance (by decide +kernel) (pa_cons (pv 0) (pa_cons (pe_bltn (v := .ty "int") (by rfl) T.b_int (by decide +kernel) rfl) pa_nil))) (pe_and (pe_not (pe_callB call_isi (by rfl) T.b_isinstance (by decide +kernel) (pa_cons (pv 0) (pa_cons (pe_bltn (v := .ty "bool") (by rfl) T.b_bool (by decide +kernel) rfl) pa_nil)))) (pe_one (pe_chain op_le op_le pe_int (pv 0) (pe_glob (v := .int 9) (by rfl) T.m_MOST_VALUE.choose_spec ⟨_, rfl⟩))))))), ?_⟩
  rcases hv with ⟨i, rfl, rfl⟩ | ⟨rfl, t, ht, hn⟩
  · refine ⟨_, rfl, _, _, _, _, _, rfl, .ty _, .base (.int _), isi_i, _, rfl, ?_⟩
    refine iteT ?_
    refine ⟨_, rfl, _, _, _, _, _, rfl, .ty _, .base (.int _), isi_ib, _, rfl, _, rfl, ?_⟩
    refine iteT ?_
    refine ⟨_, rfl, _, _, rfl, rfl, _, rfl, ?_⟩
    refine ite2 (fun h1 => ?_) (fun h1 => ?_)
    · refine ⟨_, _, rfl, rfl, ?_⟩
      have h1 : 1 ≤ i := by simpa using h1
      show Q (.bl (decide (i ≤ 9))) H
      rw [show decide (i ≤ 9) = decide (1 ≤ i ∧ i ≤ 9) from decide_eq_decide.mpr ⟨fun h => ⟨h1, h⟩, fun h => h.2⟩]
      exact q
    · have h1 : ¬ 1 ≤ i := by simpa using h1
      rw [decide_eq_false (fun k : 1 ≤ i ∧ i ≤ 9 => h1 k.1)] at q
      exact q
  · refine ⟨_, rfl, _, _, _, _, _, rfl, .ty _, ht.ty, kit_int ht.mem, _, rfl, ?_⟩
    by_cases hb : t = "bool"
    · subst hb
      rw [decide_eq_true (.inr rfl)]
      refine iteT ?_
      refine ⟨_, rfl, _, _, _, _, _, rfl, .ty _, ht.ty, isi_bb, _, rfl, _, rfl, ?_⟩
      exact iteF q
    · rw [decide_eq_false (fun k => k.elim hn hb)]
      exact iteF q
end
end Toy
set_option Elab.async false
set_option linter.all false
set_option maxRecDepth 100000
set_option maxHeartbeats 4000000
namespace Toy
open PySem L2 Sh ShL LamX NdefX
/-! ### dicts with texts as keys -/
def kdl (l : List (Wd × V)) : List (Key × V) := l.map fun q => (.inr (sw q.1), q.2)
theorem kdl_len (l : List (Wd × V)) : (kdl l).length = l.length := List.length_map _
theorem kdl_none : ∀ {l : List (Wd × V)} {p : Wd}, p ∉ l.map (·.1) → valV (kdl l) (.inr (sw p)) = none
  | [], _, _ => rfl
  | q :: l, p, h => by
    rw [List.map_cons, List.mem_cons] at h
    refine (valV_neg (fun e => h (.inl (sw_inj (Sum.inr.inj e)).symm))).trans (kdl_none (l := l) fun m => h (.inr m))
theorem kdl_some : ∀ {l : List (Wd × V)} {p : Wd} {v : V}, (l.map (·.1)).Nodup → (p, v) ∈ l → valV (kdl l) (.inr (sw p)) = some v
  | q :: l, p, v, nd, h => by
    rw [List.map_cons, List.nodup_cons] at nd
    rcases List.mem_cons.mp h with h | h
    · subst h
      exact valV_pos rfl
    · have hm : p ∈ l.map (·.1) := List.mem_map.mpr ⟨_, h, rfl⟩
      exact (valV_neg (fun e => nd.1 (by have := sw_inj (Sum.inr.inj e); rw [this]; exact hm))).trans (kdl_some nd.2 h)
theorem kdl_is {l : List (Wd × V)} (nd : (l.map (·.1)).Nodup) (p : Wd) : (valV (kdl l) (.inr (sw p))).isSome = decide (p ∈ l.map (·.1)) := by
  by_cases h : p ∈ l.map (·.1)
  · obtain ⟨q, hq, rfl⟩ := List.mem_map.mp h
    rw [kdl_some nd (v := q.2) hq, decide_eq_true h]
    rfl
  · rw [kdl_none h, decide_eq_false h]
    rfl
theorem kdl_new {l : List (Wd × V)} {p : Wd} (v : V) (h : p ∉ l.map (·.1)) : putK (kdl l) (.inr (sw p)) v = kdl (l ++ [(p, v)]) := by
  rw [putK_new v (kdl_none h)]
  unfold kdl
  rw [List.map_append]
  rfl
theorem kdl_old {l : List (Wd × V)} {p : Wd} (v : V) (h : p ∈ l.map (·.1)) : putK (kdl l) (.inr (sw p)) v = kdl (l.map fun q => if q.1 = p then (q.1, v) else q) := by
  have e : ((kdl l).any fun kv => decide (kv.1 = (.inr (sw p) : Key))) = true := by
    obtain ⟨q, hq, e⟩ := List.mem_map.mp h
    rw [List.any_eq_true]
    refine ⟨(.inr (sw q.1), q.2), List.mem_map.mpr ⟨q, hq, rfl⟩, ?_⟩
    rw [← e]
    exact decide_eq_true rfl
  unfold putK
  rw [if_pos e]
  unfold kdl
  rw [List.map_map, List.map_map]
  refine List.map_congr_left fun q _ => ?_
  show (if (.inr (sw q.1) : Key) = .inr (sw p) then _ else _) = _
  by_cases h : q.1 = p
  · rw [if_pos (by rw [h]), Function.comp_apply, if_pos h]
  · rw [if_neg (fun e => h (sw_inj (Sum.inr.inj e))), Function.comp_apply, if_neg h]
theorem dget_kdl {H : Hp} {d : Addr} {l : List (Wd × V)} (h : H d = some (.dK (kdl l))) (p : Wd) : DGet H d (.str (sw p)) (valV (kdl l) (.inr (sw p))) := DGet.k (k := .inr (sw p)) h
theorem dput_kdl {H : Hp} {d : Addr} {l : List (Wd × V)} (h : H d = some (.dK (kdl l))) (p : Wd) (v : V) (hl : l.length ≤ 40000) : DPut H d (.str (sw p)) v (upd H d (.dK (putK (kdl l) (.inr (sw p)) v))) :=
  DPut.k (k := .inr (sw p)) h (by rw [kdl_len, sizeLine_eq]; omega)
/-! ### rows -/
abbrev Rw := Wd × Option Int × Bool
def oV : Option Int → V
  | none => .non
  | some i => .int i
abbrev rwVs (r : Rw) : List V := [.str (sw r.1), oV r.2.1, .bl r.2.2]
def RwT (H : Hp) (v : V) (r : Rw) : Prop := ∃ a, v = .ref a ∧ H a = some (.tup (rwVs r))
def RwE (H : Hp) (v : V) (r : Rw) : Prop := ∃ a, v = .ref a ∧ (H a = some (.lst (rwVs r)) ∨ H a = some (.tup (rwVs r)))
theorem RwT.e {H : Hp} {v : V} {r : Rw} (h : RwT H v r) : RwE H v r := let ⟨a, e, h⟩ := h; ⟨a, e, .inr h⟩
theorem RwT.sm {T : List (Addr × Str)} {H H' : Hp} {v : V} {r : Rw} (s : Sm T H H') (h : RwT H v r) : RwT H' v r := let ⟨a, e, h⟩ := h; ⟨a, e, s.get h⟩
theorem RwE.sm {T : List (Addr × Str)} {H H' : Hp} {v : V} {r : Rw} (s : Sm T H H') (h : RwE H v r) : RwE H' v r := let ⟨a, e, h⟩ := h; ⟨a, e, h.imp (fun h => s.get h) fun h => s.get h⟩
theorem RwT.same {H H' : Hp} {v : V} {r : Rw} (s : Same H H') (h : RwT H v r) : RwT H' v r := let ⟨a, e, h⟩ := h; ⟨a, e, s _ _ h⟩
theorem RwE.same {H H' : Hp} {v : V} {r : Rw} (s : Same H H') (h : RwE H v r) : RwE H' v r := let ⟨a, e, h⟩ := h; ⟨a, e, h.imp (s _ _) (s _ _)⟩
theorem RwT.kp {H H' : Hp} {v : V} {r : Rw} {d : Addr} {kvs : List (Key × V)} (hd : H d = some (.dK kvs)) (s : Kp d H H') (h : RwT H v r) : RwT H' v r :=
  let ⟨a, e, h⟩ := h; ⟨a, e, s _ _ h (ne_of h hd (by intro z; cases z))⟩
theorem RwE.kp {H H' : Hp} {v : V} {r : Rw} {d : Addr} {kvs : List (Key × V)} (hd : H d = some (.dK kvs)) (s : Kp d H H') (h : RwE H v r) : RwE H' v r :=
  let ⟨a, e, h⟩ := h; ⟨a, e, h.imp (fun h => s _ _ h (ne_of h hd (by intro z; cases z))) fun h => s _ _ h (ne_of h hd (by intro z; cases z))⟩
structure RwOk (z : Wd) (r : Rw) : Prop where
  wd : ∀ c ∈ r.1, c ∈ z
  l200 : r.1.length ≤ 200
  vl : ∀ i, r.2.1 = some i → 1 ≤ i ∧ i ≤ 9
theorem RwE.sq {K : PySem.W.Frag} {H : Hp} {a : Addr} {xs : List V} (h : H a = some (.lst xs) ∨ H a = some (.tup xs)) : SqL K H a xs ∨ SqT K H a xs := h.imp SqL.of SqT.of
theorem lt_ty {K : PySem.W.Frag} {H : Hp} {a : Addr} {xs : List V} (h : H a = some (.lst xs) ∨ H a = some (.tup xs)) : ∃ t : String, (t = "list" ∨ t = "tuple") ∧ TyX K H (.ref a) (.type t) :=
  h.elim (fun h => ⟨_, .inl rfl, .base (.lst h)⟩) fun h => ⟨_, .inr rfl, .base (.tup h)⟩
/-- three values told as a row: whether they are one -/
def Row3 (H : Hp) (z : Wd) (xs : List V) (b : Bool) : Prop := ∃ x y f b1 b2 b3, xs = [x, y, f] ∧ WdV H z x b1 ∧ ((y = .non ∧ b2 = true) ∨ (y ≠ .non ∧ VlV H y b2)) ∧ FlV H f b3 ∧ b = (b1 && b2 && b3)
theorem Row3.kp {H H' : Hp} {z : Wd} {xs : List V} {b : Bool} (k : KpS H H') (h : Row3 H z xs b) : Row3 H' z xs b := by
  obtain ⟨x, y, f, b1, b2, b3, e, h1, h2, h3, e2⟩ := h
  exact ⟨x, y, f, b1, b2, b3, e, h1.kp k, h2.imp id fun h => ⟨h.1, h.2.kp k⟩, h3.kp k, e2⟩
/-- no row by its kind or length, or three values -/
def RowV (H : Hp) (z : Wd) (v : V) (b : Bool) : Prop := (b = false ∧ ∃ t, TyN H v t ∧ t ≠ "list" ∧ t ≠ "tuple") ∨ ∃ p xs, v = .ref p ∧ SqA H p xs ∧ ((b = false ∧ xs.length ≠ 3) ∨ Row3 H z xs b)
theorem RowV.kp {H H' : Hp} {z : Wd} {v : V} {b : Bool} (k : KpS H H') (h : RowV H z v b) : RowV H' z v b := by
  rcases h with ⟨e, t, h, n⟩ | ⟨p, xs, e, h, h2⟩
  · exact .inl ⟨e, t, h.kp k.t, n⟩
  · exact .inr ⟨p, xs, e, h.kp k, h2.imp id fun h => h.kp k⟩
theorem RwE.sqA {H : Hp} {a : Addr} {xs : List V} (h : SqA H a xs) {K : PySem.W.Frag} : SqL K H a xs ∨ SqT K H a xs := h.imp SqL.of SqT.of
/-- a right row -/
theorem row3_ok {H : Hp} {z : Wd} {r : Rw} (h : RwOk z r) : Row3 H z (rwVs r) true := by
  refine ⟨_, _, _, true, true, true, rfl, .inl ⟨r.1, rfl, Nat.le_trans h.l200 (by decide), (decide_eq_true ⟨h.l200, h.wd⟩).symm⟩, ?_, .inl ⟨rfl, _, rfl⟩, rfl⟩
  cases e : r.2.1 with
  | none => exact .inl ⟨rfl, rfl⟩
  | some i =>
    obtain ⟨h1, h2⟩ := h.vl i e
    exact .inr ⟨fun z => (by cases z), .inl ⟨i, rfl, (decide_eq_true ⟨h1, h2⟩).symm⟩⟩
/-- a row that is told as right is one -/
theorem row3_rw {H : Hp} {z : Wd} {xs : List V} (h : Row3 H z xs true) : ∃ r, xs = rwVs r ∧ RwOk z r := by
  obtain ⟨x, y, f, b1, b2, b3, rfl, h1, h2, h3, e⟩ := h
  obtain ⟨rfl, rfl, rfl⟩ : b1 = true ∧ b2 = true ∧ b3 = true := by cases b1 <;> cases b2 <;> cases b3 <;> first | exact ⟨rfl, rfl, rfl⟩ | cases e
  rcases h1 with ⟨p, rfl, hp, e1⟩ | ⟨e1, _⟩
  rotate_left
  · cases e1
  obtain ⟨l200, wd⟩ := of_decide_eq_true e1.symm
  rcases h3 with ⟨_, c, rfl⟩ | ⟨e1, _⟩
  rotate_left
  · cases e1
  rcases h2 with ⟨rfl, _⟩ | ⟨_, ⟨i, rfl, e2⟩ | ⟨e2, _⟩⟩
  · exact ⟨(p, none, c), rfl, ⟨wd, l200, fun i e => by cases e⟩⟩
  · have := of_decide_eq_true e2.symm
    exact ⟨(p, some i, c), rfl, ⟨wd, l200, fun j e => by cases e; exact this⟩⟩
  · cases e2
def spRow : Sp := fun vs H Q _ => ∃ z v b, vs = [.str (sw z), v] ∧ RowV H z v b ∧ ∀ H', Same H H' → Q (.bl b) H'
def spOrder (T : List (Addr × Str)) : Sp := fun vs H Q _ => ∃ z d kvs ws, vs = [.str (sw z), .ref d] ∧ H d = some (.dK kvs) ∧ kvs.map (fun kv => kV kv.1) = wsV ws ∧ (∀ p ∈ ws, p.length ≤ 200 ∧ ∀ c ∈ p, c ∈ z) ∧ Tabs T H ∧
  ∀ H' a, Sm T H H' → H' a = some (.lst (wsV (ordW z ws))) → Q (.ref a) H'
def spOrdered (K : PySem.W.Frag) (T : List (Addr × Str)) : Sp := fun vs H Q _ => ∃ z a ws, vs = [.str (sw z), .ref a] ∧ SqL K H a (wsV ws) ∧ (∀ p ∈ ws, p.length ≤ 200 ∧ ∀ c ∈ p, c ∈ z) ∧ Tabs T H ∧
  ∀ H' a, Sm T H H' → H' a = some (.lst (wsV (ordW z ws))) → Q (.ref a) H'
section
variable {P : Program} {w : World} {K : PySem.W.Frag} {mg : Str → Option Value} {base : Heap}
theorem ok_is_row (T : Tx P K mg) (B : Bx T base) : FnOk P w K mg base CX0 2 T.a_is_row T.fd_is_row ["letters", "row"] spRow := by
  refine okT T.F_is_row sc_is_row (fun vs H Q E h => ?_) (fun cdv A outer s H vs Q E hcd hr h => ?_)
  · obtain ⟨z, v, b, rfl, _⟩ := h
    rfl
  have hu := hu_of hr
  have hu65 := hu65_of hr
  obtain ⟨z, v, b, rfl, hv, q⟩ := h
  refine ⟨_, (pss_cons (ps_if (PW.pt (pw_or (pt_not (pt_val (pe_callB call_isiT (by rfl) T.b_isinstance (by decide +kernel) (pa_cons (pv 1) (pa_cons (pe_tup (pa_cons (pe_bltn (v := .ty "list") (by rfl) T.b_list (by decide +kernel) rfl) (pa_cons (pe_bltn (v := .ty "tuple") (by rfl) T.b_tuple (by decide +kernel) rfl) pa_nil))) pa_nil))))) (pw_or1 (pt_cmpR op_ne (pe_callB call_len_seq (by rfl) T.b_len (by decide +kernel) (pa_cons (pv 1) pa_nil)) pe_int (nomark _)))))
 (pss_one (ps_ret pe_bl))
 pss_nil)
 (pss_cons (ps_asg (pv 1) (pg_unE rfl (pgs_cons (pg_name (i := 2) sc_is_row.nd rfl (by first | exact Or.inl rfl | exact Or.inr rfl)) (pgs_cons (pg_name (i := 3) sc_is_row.nd rfl (by first | exact Or.inl rfl | exact Or.inr rfl)) (pgs_cons (pg_name (i := 4) sc_is_row.nd rfl (by first | exact Or.inl rfl | exact Or.inr rfl)) pgs_nil)))))
 (pss_one (ps_ret (pe_and (pe_call (ok_is_word (w := w) T B) (hr.mono (by decide)) (by rfl) T.m_is_word T.F_is_word.kp T.bi_is_word .nil pass0 (pa_cons (pv 0) (pa_cons (pv 2) pa_nil))) (pe_and (pe_or (pe_cmpR op_isN (pv 3) pe_non (nomark _)) (pe_one (pe_call (ok_is_value (w := w) T B) (hr.mono (by decide)) (by rfl) T.m_is_value T.F_is_value.kp T.bi_is_value .nil pass0 (pa_cons (pv 3) pa_nil)))) (pe_one (pe_callB call_isi (by rfl) T.b_isinstance (by decide +kernel) (pa_cons (pv 4) (pa_cons (pe_bltn (v := .ty "bool") (by rfl) T.b_bool (by decide +kernel) rfl) pa_nil)))))))))), ?_⟩
  refine ⟨_, rfl, by decide, fun tp htp => ?_⟩
  have s1 := same_upd (o := .tup [V.ty "list", V.ty "tuple"]) htp
  have hv1 := hv.kp (kpS_same s1)
  rcases hv1 with ⟨rfl, t, ht, n1, n2⟩ | ⟨p, xs, rfl, hp, h3⟩
  · refine ⟨_, tp, _, _, [.type "list", .type "tuple"], _, rfl, upd_same, .cons (.ty _) (.cons (.ty _) .nil), ht.ty, kit_lot ht.mem, _, rfl, ?_⟩
    rw [decide_eq_false (fun k => k.elim n1 n2)]
    exact iteT (q _ s1)
  obtain ⟨t, ht, ty⟩ := lt_ty (K := K) hp
  refine ⟨_, tp, _, _, [.type "list", .type "tuple"], true, rfl, upd_same, .cons (.ty _) (.cons (.ty _) .nil), ty, kit_lt ht, _, rfl, ?_⟩
  refine iteF ?_
  refine ⟨_, rfl, p, _, rfl, RwE.sqA hp, rfl, _, rfl, ?_⟩
  rcases h3 with ⟨rfl, hl⟩ | ⟨x, y, f, b1, b2, b3, rfl, h1, h2, h3, rfl⟩
  · rw [decide_eq_false (show ¬ V.int (xs.length : Int) = V.int 3 from fun e => hl (by have := V.int.inj e; omega))]
    exact iteT (q _ s1)
  refine iteF ?_
  refine ⟨_, rfl, p, _, rfl, RwE.sqA hp, rfl, _, _, rfl, _, _, rfl, _, _, rfl, rfl, ?_⟩
  refine ⟨_, rfl, _, rfl, z, x, b1, rfl, h1, fun H2 s2 => ⟨_, rfl, ?_⟩⟩
  have s12 := s1.trans s2
  have h2 := h2.imp id fun h => And.intro h.1 (h.2.kp (kpS_same s2))
  have h3 := h3.kp (kpS_same s2)
  cases b1 with
  | false => exact iteF (q _ s12)
  | true =>
  refine iteT ?_
  have fin3 : ∀ (σ : L2.St) (R : VK), σ[4]? = some (some f) → R (.bl b3) H2 → (tCB (rIsi K) (tCons (tVar 4) (tCons (tC (.ty "bool")) tNil))) σ H2 R := fun σ R h hR => by
    rcases h3 with ⟨rfl, c, rfl⟩ | ⟨rfl, t, ht, n⟩
    · exact ⟨_, h, _, _, _, _, _, rfl, .ty _, .base (.bl _), isi_bb, hR⟩
    · refine ⟨_, h, _, _, _, _, _, rfl, .ty _, ht.ty, kit_bool ht.mem, ?_⟩
      rw [decide_eq_false n]
      exact hR
  rcases h2 with ⟨rfl, rfl⟩ | ⟨ny, h2⟩
  · refine ⟨_, rfl, rfl, _, rfl, ?_⟩
    refine ite2 (fun _ => ?_) (fun h => absurd (decide_eq_true rfl) h)
    exact ⟨_, rfl, iteT (fin3 _ _ rfl (q _ s12))⟩
  · refine ⟨_, rfl, rfl, _, rfl, ?_⟩
    rw [decide_eq_false ny]
    refine iteF ?_
    refine ⟨_, rfl, y, b2, rfl, h2, ?_⟩
    refine ⟨_, rfl, ?_⟩
    cases b2 with
    | true => exact iteT (fin3 _ _ rfl (q _ s12))
    | false => exact iteF (q _ s12)
theorem key_lc {σ : L2.St} {z p : Wd} (h0 : σ[0]? = some (some (.str (sw p)))) (h1 : σ[1]? = some (some (.str (sw z)))) (hl : σ.length = 3) (hp : p.length ≤ 200) (hz : ∀ c ∈ p, c ∈ z) :
    tLc (iStr (tVar 0)) (gName 2) tYes (tM1 (fun x xs H Q => ∃ a b i rest, x = V.str a ∧ xs = [V.str b] ∧ Builtin.Str.occurrences a b 0 a.length 1 = i :: rest ∧ Q (V.int ↑i) H) (tVar 1) (tVar 2)) [2] σ (fun _ => none)
      fun v H' => ∃ l, v = .ref l ∧ H' l = some (.lst ((keyS z (sw p)).map V.int)) := by
  obtain ⟨v0, v1, v2, rfl⟩ : ∃ v0 v1 v2, σ = [v0, v1, v2] := by
    match σ, hl with
    | [v0, v1, v2], _ => exact ⟨v0, v1, v2, rfl⟩
  simp only [List.getElem?_cons_zero, List.getElem?_cons_succ, Option.some.injEq] at h0 h1
  subst h0
  subst h1
  refine ⟨_, rfl, _, rfl, fun D hD => ?_⟩
  refine lcF (walk_sgs p) yat (pr_sgs p) hD (fun _ _ => trivial) (by omega) (fun _ => true) (fun c => .int ((z.idxOf c : Nat) : Int)) (fun x c H' R N hc e s k1 _ => ?_) (fun H' s hl => ?_)
  · subst e
    refine ⟨rfl, yes_ite ?_⟩
    obtain ⟨rest, hr⟩ := occ_sw (hz c hc)
    exact ⟨_, rfl, ⟨_, rfl⟩, _, rfl, _, _, _, rest, rfl, rfl, hr, k1 rfl⟩
  · rw [filter_tt] at hl
    refine ⟨D, rfl, ?_⟩
    rw [hl]
    unfold keyS kW
    rw [sw_list, List.map_map]
    rfl
theorem ok_in_order (T : Tx P K mg) (B : Bx T base) : FnOk P w K mg base CX0 4 T.a_in_order T.fd_in_order ["letters", "places"] (spOrder (tabs T)) := by
  refine okT T.F_in_order sc_in_order (fun vs H Q E h => ?_) (fun cdv A outer s H vs Q E hcd hr h => ?_)
  · obtain ⟨z, d, kvs, ws, rfl, _⟩ := h
    rfl
  have hcd : cdv = .ref T.kc_in_order := hcd.symm.trans T.ec_in_order
  have hu := hu_of hr
  have hu65 := hu65_of hr
  obtain ⟨z, d, kvs, ws, rfl, hd, hk, hw, tb, q⟩ := h
  refine ⟨_, (pss_one (ps_ret (pe_sortLam (k := 0) (N := ["place", "letters", "letter"]) (fr := ["letters"]) (js := [0]) (by rfl) T.b_sorted (by decide +kernel) (pa_cons (pe_callTy (call_list_dK rfl) (by rfl) T.b_list (by decide +kernel) (pa_cons (pv 1) pa_nil)) pa_nil) B.tb_in_order hcd (mem_in_order T) (uniq_in_order T) (hr.mono (by decide)) rfl (NdefX.nscope_by (by decide +kernel)) (by kernel_rfl) rfl (fun _ _ _ _ _ _ => rfl) (fun _ _ _ _ _ _ _ hr => (pe_lc (own := [("letter", 2)]) (g := gName 2) rfl (show List.Nodup (["place", "letters", "letter"] : List Str) by decide +kernel) (pi_str (pv 0)) (blkOk_by (own := [("letter", 2)]) (N := ["place", "letters", "letter"]) (by kernel_rfl)) (fun _ _ _ _ _ => (pg_name (i := 2) (show List.Nodup (["place", "letters", "letter"] : List Str) by decide +kernel) rfl (by first | exact Or.inl rfl | exact Or.inr rfl))) (fun _ _ _ _ _ => pts_nil) (fun _ _ _ _ _ => (pe_m1 PySem.F.slot_str_index PySem.F.type_str_index mt_sindex (pv 1) (pv 2)))))))), ?_⟩
  refine ⟨_, rfl, d, kvs, rfl, hd, fun p hp => ?_⟩
  have s1 := same_upd (o := .lst (kvs.map fun kv => kV kv.1)) hp
  have sm1 := Sm.of tb s1
  refine ⟨p, ws.map sw, keyS z, rfl, ?_, sm1.2, fun y hy => ?_, fun H2 p2 ex tb2 n2 => ?_⟩
  · rw [List.map_map]
    refine SqL.of ?_
    rw [upd_same, hk]
    rfl
  · obtain ⟨x, hx, rfl⟩ := List.mem_map.mp hy
    exact key_lc rfl rfl rfl (hw x hx).1 (hw x hx).2
  · rw [sort_sw, List.map_map]
    have sm2 : Sm (tabs T) H H2 := sm1.trans ⟨ex, tb2⟩
    exact q _ p2 (sm2.new n2) upd_same
theorem ok_l_order (T : Tx P K mg) (B : Bx T base) : FnOk P w K mg base CX0 4 T.a_l_order T.fd_l_order ["_law_letters_here", "_law_places"] (spOrdered K (tabs T)) := by
  refine okT T.F_l_order sc_l_order (fun vs H Q E h => ?_) (fun cdv A outer s H vs Q E hcd hr h => ?_)
  · obtain ⟨z, a, ws, rfl, _⟩ := h
    rfl
  have hcd : cdv = .ref T.kc_l_order := hcd.symm.trans T.ec_l_order
  have hu := hu_of hr
  have hu65 := hu65_of hr
  obtain ⟨z, a, ws, rfl, ha, hw, tb, q⟩ := h
  refine ⟨_, (pss_one (ps_ret (pe_sortLam (k := 0) (N := ["_law_place", "_law_letters_here", "_law_sign"]) (fr := ["_law_letters_here"]) (js := [0]) (by rfl) T.b_sorted (by decide +kernel) (pa_cons (pv 1) pa_nil) B.tb_l_order hcd (mem_l_order T) (uniq_l_order T) (hr.mono (by decide)) rfl (NdefX.nscope_by (by decide +kernel)) (by kernel_rfl) rfl (fun _ _ _ _ _ _ => rfl) (fun _ _ _ _ _ _ _ hr => (pe_lc (own := [("_law_sign", 2)]) (g := gName 2) rfl (show List.Nodup (["_law_place", "_law_letters_here", "_law_sign"] : List Str) by decide +kernel) (pi_str (pv 0)) (blkOk_by (own := [("_law_sign", 2)]) (N := ["_law_place", "_law_letters_here", "_law_sign"]) (by kernel_rfl)) (fun _ _ _ _ _ => (pg_name (i := 2) (show List.Nodup (["_law_place", "_law_letters_here", "_law_sign"] : List Str) by decide +kernel) rfl (by first | exact Or.inl rfl | exact Or.inr rfl))) (fun _ _ _ _ _ => pts_nil) (fun _ _ _ _ _ => (pe_m1 PySem.F.slot_str_index PySem.F.type_str_index mt_sindex (pv 1) (pv 2)))))))), ?_⟩
  refine ⟨_, rfl, a, ws.map sw, keyS z, rfl, ?_, tb, fun y hy => ?_, fun H2 p2 ex tb2 n2 => ?_⟩
  · rw [List.map_map]
    exact ha
  · obtain ⟨x, hx, rfl⟩ := List.mem_map.mp hy
    exact key_lc rfl rfl rfl (hw x hx).1 (hw x hx).2
  · rw [sort_sw, List.map_map]
    have sm2 : Sm (tabs T) H H2 := ⟨ex, tb2⟩
    exact q _ p2 (sm2.new n2) upd_same
end
end Toy
set_option Elab.async false
set_option linter.all false
set_option maxRecDepth 100000
set_option maxHeartbeats 4000000
namespace Toy
open PySem L2 Sh ShL LamX NdefX
theorem nd_len {α : Type} [DecidableEq α] : ∀ {xs ys : List α}, xs.Nodup → (∀ x ∈ xs, x ∈ ys) → xs.length ≤ ys.length
  | [], _, _, _ => Nat.zero_le _
  | x :: xs, ys, nd, h => by
    rw [List.nodup_cons] at nd
    have hx := h x List.mem_cons_self
    have := nd_len (xs := xs) (ys := ys.erase x) nd.2 fun y hy => (List.mem_erase_of_ne (fun e => nd.1 (by rw [← e]; exact hy))).mpr (h y (List.mem_cons_of_mem _ hy))
    rw [List.length_erase_of_mem hx] at this
    have h2 := List.length_pos_of_mem hx
    rw [List.length_cons]
    omega
/-! ### beginnings -/
def addW (fs : List Wd) (p : Wd) : Nat → List Wd
  | 0 => fs
  | n + 1 => if p.take (n + 1) ∈ fs then fs else addW (fs ++ [p.take (n + 1)]) p n
theorem addW_succ (fs : List Wd) (p : Wd) (n : Nat) : addW fs p (n + 1) = if p.take (n + 1) ∈ fs then fs else addW (fs ++ [p.take (n + 1)]) p n := rfl
def begs (ws : List Wd) : List Wd := ws.foldl (fun fs p => addW fs p p.length) [[]]
theorem addW_nd {p : Wd} : ∀ {n : Nat} {fs : List Wd}, fs.Nodup → (addW fs p n).Nodup
  | 0, _, h => h
  | n + 1, fs, h => by
    unfold addW
    by_cases e : p.take (n + 1) ∈ fs
    · rw [if_pos e]; exact h
    · rw [if_neg e]
      refine addW_nd (List.nodup_append.mpr ⟨h, by simp, fun a ha b hb => ?_⟩)
      rw [List.mem_singleton] at hb
      rw [hb]
      exact fun z => e (by rw [← z]; exact ha)
theorem addW_sub {p q : Wd} : ∀ {n : Nat} {fs : List Wd}, q ∈ addW fs p n → q ∈ fs ∨ ∃ m, q = p.take m
  | 0, _, h => .inl h
  | n + 1, fs, h => by
    unfold addW at h
    by_cases e : p.take (n + 1) ∈ fs
    · rw [if_pos e] at h; exact .inl h
    · rw [if_neg e] at h
      rcases addW_sub h with h | h
      · rcases List.mem_append.mp h with h | h
        · exact .inl h
        · exact .inr ⟨_, List.mem_singleton.mp h⟩
      · exact .inr h
theorem addW_keep {p q : Wd} : ∀ {n : Nat} {fs : List Wd}, q ∈ fs → q ∈ addW fs p n
  | 0, _, h => h
  | n + 1, fs, h => by
    unfold addW
    by_cases e : p.take (n + 1) ∈ fs
    · rw [if_pos e]; exact h
    · rw [if_neg e]
      exact addW_keep (List.mem_append_left _ h)
theorem addW_all {p : Wd} : ∀ {n : Nat} {fs : List Wd}, n ≤ p.length → [] ∈ fs → (∀ m, m ≤ n → p.take m ∈ fs → ∀ j, j ≤ m → p.take j ∈ fs) → ∀ j, j ≤ n → p.take j ∈ addW fs p n
  | 0, fs, _, h0, _, j, hj => by
    rw [show j = 0 by omega, List.take_zero]
    exact h0
  | n + 1, fs, hn, h0, h, j, hj => by
    unfold addW
    by_cases e : p.take (n + 1) ∈ fs
    · rw [if_pos e]
      exact h (n + 1) (Nat.le_refl _) e j hj
    · rw [if_neg e]
      by_cases hj2 : j = n + 1
      · rw [hj2]
        exact addW_keep (List.mem_append_right _ List.mem_cons_self)
      · refine addW_all (by omega) (List.mem_append_left _ h0) (fun m hm hin i hi => ?_) j (by omega)
        rcases List.mem_append.mp hin with hin | hin
        · exact List.mem_append_left _ (h m (by omega) hin i hi)
        · have := congrArg List.length (List.mem_singleton.mp hin)
          rw [List.length_take, List.length_take] at this
          omega
/-- all beginnings of its members are in it -/
def Clo (fs : List Wd) : Prop := [] ∈ fs ∧ ∀ p ∈ fs, ∀ n, p.take n ∈ fs
theorem Clo.addW {fs : List Wd} (h : Clo fs) (p : Wd) : Clo (addW fs p p.length) := by
  have all := addW_all (p := p) (Nat.le_refl _) h.1 (fun m _ hin j hj => by
    have := h.2 _ hin j
    rw [List.take_take, Nat.min_eq_left hj] at this
    exact this)
  refine ⟨addW_keep h.1, fun q hq n => ?_⟩
  rcases addW_sub hq with hq | ⟨m, rfl⟩
  · exact addW_keep (h.2 _ hq n)
  · rw [List.take_take]
    by_cases hm : min n m ≤ p.length
    · exact all _ hm
    · have := all p.length (Nat.le_refl _)
      rw [List.take_of_length_le (Nat.le_refl _)] at this
      rw [List.take_of_length_le (by omega)]
      exact this
theorem addW_mem {fs : List Wd} (h : Clo fs) {p q : Wd} : q ∈ addW fs p p.length ↔ q ∈ fs ∨ ∃ m, q = p.take m := by
  refine ⟨addW_sub, fun hq => ?_⟩
  rcases hq with hq | ⟨m, rfl⟩
  · exact addW_keep hq
  · have hp : p ∈ addW fs p p.length := by
      have := addW_all (p := p) (fs := fs) (Nat.le_refl _) h.1 (fun m _ hin j hj => by
        have := h.2 _ hin j
        rw [List.take_take, Nat.min_eq_left hj] at this
        exact this) p.length (Nat.le_refl _)
      rw [List.take_of_length_le (Nat.le_refl _)] at this
      exact this
    exact (h.addW p).2 _ hp m
theorem clo0 : Clo [[]] := ⟨List.mem_cons_self, fun p hp n => by rw [List.mem_singleton.mp hp, List.take_nil]; exact List.mem_cons_self⟩
theorem begs_all (ws : List Wd) : ∀ fs, Clo fs → fs.Nodup → Clo (ws.foldl (fun fs p => addW fs p p.length) fs) ∧ (ws.foldl (fun fs p => addW fs p p.length) fs).Nodup ∧ ∀ q, q ∈ ws.foldl (fun fs p => addW fs p p.length) fs ↔ q ∈ fs ∨ ∃ p ∈ ws, ∃ m, q = p.take m := by
  induction ws with
  | nil => exact fun fs h n => ⟨h, n, fun q => by simp⟩
  | cons p ws ih =>
    intro fs h n
    obtain ⟨h1, h2, h3⟩ := ih _ (h.addW p) (addW_nd n)
    refine ⟨h1, h2, fun q => ?_⟩
    rw [List.foldl_cons, h3, addW_mem h]
    constructor
    · rintro ((h | h) | ⟨w, hw, h⟩)
      · exact .inl h
      · exact .inr ⟨p, List.mem_cons_self, h⟩
      · exact .inr ⟨w, List.mem_cons_of_mem _ hw, h⟩
    · rintro (h | ⟨w, hw, h⟩)
      · exact .inl (.inl h)
      · rcases List.mem_cons.mp hw with rfl | hw
        · exact .inl (.inr h)
        · exact .inr ⟨w, hw, h⟩
theorem begs_clo (ws : List Wd) : Clo (begs ws) := (begs_all ws _ clo0 (by simp)).1
theorem begs_nd (ws : List Wd) : (begs ws).Nodup := (begs_all ws _ clo0 (by simp)).2.1
theorem begs_mem {ws : List Wd} {q : Wd} : q ∈ begs ws ↔ q = [] ∨ ∃ p ∈ ws, ∃ m, q = p.take m := by
  have := (begs_all ws _ clo0 (by simp)).2.2 q
  rw [List.mem_singleton] at this
  exact this
theorem begs_perm {ws us : List Wd} (h : ∀ p, p ∈ ws ↔ p ∈ us) : (begs ws).Perm (begs us) := by
  rw [List.perm_ext_iff_of_nodup (begs_nd ws) (begs_nd us)]
  intro q
  rw [begs_mem, begs_mem]
  constructor
  · rintro (e | ⟨p, hp, m, e⟩)
    · exact .inl e
    · exact .inr ⟨p, (h p).mp hp, m, e⟩
  · rintro (e | ⟨p, hp, m, e⟩)
    · exact .inl e
    · exact .inr ⟨p, (h p).mpr hp, m, e⟩
/-- the words' beginnings lie in ps -/
def InPs (ps ws : List Wd) : Prop := ps.length ≤ 30000 ∧ Clo ps ∧ ∀ w ∈ ws, w ∈ ps
abbrev begK (fs : List Wd) : List (Wd × V) := fs.map fun p => (p, V.bl true)
theorem begK_fst (fs : List Wd) : (begK fs).map (·.1) = fs := by
  rw [List.map_map]
  exact List.map_id _
def ItE (H : Hp) (v : V) (it : Wd × Int) : Prop := ∃ b, v = .ref b ∧ H b = some (.lst [.str (sw it.1), .int it.2])
theorem ItE.same {H H' : Hp} {v : V} {it : Wd × Int} (s : Same H H') (h : ItE H v it) : ItE H' v it := let ⟨b, e, h⟩ := h; ⟨b, e, s _ _ h⟩
abbrev valK (its : List (Wd × Int)) : List (Wd × V) := its.map fun it => (it.1, V.int it.2)
theorem valK_fst (its : List (Wd × Int)) : (valK its).map (·.1) = its.map (·.1) := by
  rw [List.map_map]
  rfl
theorem same_of_new {H H1 : Hp} {d : Addr} {o : HO} (s : Same H H1) (n : H d = none) : Same H (upd H1 d o) := fun b u h => by
  rw [upd_ne (ne_of_none h n)]
  exact s _ _ h
section
variable {P : Program} {w : World} {K : PySem.W.Frag} {mg : Str → Option Value} {base : Heap}
end
end Toy
set_option Elab.async false
set_option linter.all false
set_option maxRecDepth 100000
set_option maxHeartbeats 4000000
namespace Toy
open PySem L2 Sh ShL LamX NdefX
/-! ### items -/
abbrev It2 := Wd × Int
/-- two values told as an item: whether they are one -/
def It2V (H : Hp) (z : Wd) (xs : List V) (o : Option It2) : Prop := ∃ x y b1 b2, xs = [x, y] ∧ WdV H z x b1 ∧ VlV H y b2 ∧ match o with
  | some it => x = .str (sw it.1) ∧ y = .int it.2 ∧ b1 = true ∧ b2 = true
  | none => (b1 && b2) = false
def ItV (H : Hp) (z : Wd) (v : V) (o : Option It2) : Prop := (o = none ∧ ∃ t, TyN H v t ∧ t ≠ "list" ∧ t ≠ "tuple") ∨ ∃ p xs, v = .ref p ∧ SqA H p xs ∧ ((o = none ∧ xs.length ≠ 2) ∨ It2V H z xs o)
theorem It2V.kp {H H' : Hp} {z : Wd} {xs : List V} {o : Option It2} (k : KpS H H') (h : It2V H z xs o) : It2V H' z xs o := by
  obtain ⟨x, y, b1, b2, e, h1, h2, h3⟩ := h
  exact ⟨x, y, b1, b2, e, h1.kp k, h2.kp k, h3⟩
theorem ItV.kp {H H' : Hp} {z : Wd} {v : V} {o : Option It2} (k : KpS H H') (h : ItV H z v o) : ItV H' z v o := by
  rcases h with ⟨e, t, h, n⟩ | ⟨p, xs, e, h, h2⟩
  · exact .inl ⟨e, t, h.kp k.t, n⟩
  · exact .inr ⟨p, xs, e, h.kp k, h2.imp id fun h => h.kp k⟩
theorem it_ok {H : Hp} {z : Wd} {it : It2} (h1 : it.1.length ≤ 200) (h2 : ∀ c ∈ it.1, c ∈ z) (h3 : 1 ≤ it.2 ∧ it.2 ≤ 9) : It2V H z [.str (sw it.1), .int it.2] (some it) :=
  ⟨_, _, true, true, rfl, .inl ⟨it.1, rfl, Nat.le_trans h1 (by decide), (decide_eq_true ⟨h1, h2⟩).symm⟩, .inl ⟨it.2, rfl, (decide_eq_true h3).symm⟩, rfl, rfl, rfl, rfl⟩
theorem it_is {H : Hp} {z : Wd} {xs : List V} {it : It2} (h : It2V H z xs (some it)) : it.1.length ≤ 200 ∧ (∀ c ∈ it.1, c ∈ z) ∧ 1 ≤ it.2 ∧ it.2 ≤ 9 := by
  obtain ⟨x, y, b1, b2, e, h1, h2, rfl, rfl, rfl, rfl⟩ := h
  rcases h1 with ⟨p, e1, _, e2⟩ | ⟨e1, _⟩
  rotate_left
  · cases e1
  rcases h2 with ⟨i, e3, e4⟩ | ⟨e3, _⟩
  rotate_left
  · cases e3
  have := sw_inj (V.str.inj e1)
  subst this
  have := V.int.inj e3
  subst this
  obtain ⟨a, b⟩ := of_decide_eq_true e2.symm
  exact ⟨a, b, of_decide_eq_true e4.symm⟩
/-- the items up to here are right, and no word comes twice -/
def FineI (os : List (Option It2)) (its : List It2) : Prop := os = its.map some ∧ (its.map (·.1)).Nodup
def WrongI (os : List (Option It2)) (i : Nat) : Prop := ∃ o its, os[i]? = some o ∧ FineI (os.take i) its ∧ (o = none ∨ ∃ it, o = some it ∧ it.1 ∈ its.map (·.1))
theorem kdl_app {l : List (Wd × V)} {p : Wd} {v : V} : kdl (l ++ [(p, v)]) = kdl l ++ [(.inr (sw p), v)] := by
  unfold kdl
  rw [List.map_append]
  rfl
theorem nd_take {α : Type} {xs : List α} {i : Nat} {x : α} (nd : xs.Nodup) (h : xs[i]? = some x) : x ∉ xs.take i := by
  intro hm
  obtain ⟨j, hj⟩ := List.getElem?_of_mem hm
  rw [List.getElem?_take] at hj
  by_cases hlt : j < i
  · rw [if_pos hlt] at hj
    exact absurd (nd_ix nd hj h) (by omega)
  · rw [if_neg hlt] at hj
    cases hj
theorem isi2_lt {K : PySem.W.Frag} {H : Hp} {σ : L2.St} {j : Nat} {a : Addr} {xs : List V} {Q : VK} (hσ : σ[j]? = some (some (.ref a))) (ha : H a = some (.lst xs) ∨ H a = some (.tup xs)) (q : ∀ H', Same H H' → Q (.bl true) H') :
    tCB (rIsiT K) (tCons (tVar j) (tCons (tTup (tCons (tC (V.ty "list")) (tCons (tC (V.ty "tuple")) tNil))) tNil)) σ H Q := by
  refine ⟨_, hσ, by decide, fun tp htp => ?_⟩
  have s1 := same_upd (o := .tup [V.ty "list", V.ty "tuple"]) htp
  obtain ⟨t, ht, ty⟩ := lt_ty (K := K) (ha.imp (s1 _ _) (s1 _ _))
  exact ⟨_, tp, _, _, [.type "list", .type "tuple"], true, rfl, upd_same, .cons (.ty _) (.cons (.ty _) .nil), ty, kit_lt ht, q _ s1⟩
theorem isi2_no {K : PySem.W.Frag} {H : Hp} {σ : L2.St} {j : Nat} {v : V} {t : String} {Q : VK} (hσ : σ[j]? = some (some v)) (ht : TyN H v t) (n1 : t ≠ "list") (n2 : t ≠ "tuple") (q : ∀ H', Same H H' → Q (.bl false) H') :
    tCB (rIsiT K) (tCons (tVar j) (tCons (tTup (tCons (tC (V.ty "list")) (tCons (tC (V.ty "tuple")) tNil))) tNil)) σ H Q := by
  refine ⟨_, hσ, by decide, fun tp htp => ?_⟩
  have s1 := same_upd (o := .tup [V.ty "list", V.ty "tuple"]) htp
  have ht1 := ht.kp (kpS_same s1).t
  refine ⟨_, tp, _, _, [.type "list", .type "tuple"], _, rfl, upd_same, .cons (.ty _) (.cons (.ty _) .nil), ht1.ty, kit_lot ht1.mem, ?_⟩
  rw [decide_eq_false (fun k => k.elim n1 n2)]
  exact q _ s1
section
variable {P : Program} {w : World} {K : PySem.W.Frag} {mg : Str → Option Value} {base : Heap}
end
end Toy
set_option Elab.async false
set_option linter.all false
set_option maxRecDepth 100000
set_option maxHeartbeats 4000000
namespace Toy
open PySem L2 Sh ShL LamX NdefX
/-! ### children -/
def kids (z : Wd) (os : List Wd) (p : Wd) : Wd := z.filter fun c => decide (p ++ [c] ∈ os)
def kidF (p q : Wd) : Option Nat := if q ≠ [] ∧ q.dropLast = p then q.getLast? else none
def kidS (qs : List Wd) (p : Wd) : Wd := qs.filterMap (kidF p)
theorem kidF_some {p q : Wd} {c : Nat} : kidF p q = some c ↔ q = p ++ [c] := by
  unfold kidF
  constructor
  · intro h
    by_cases e : q ≠ [] ∧ q.dropLast = p
    · rw [if_pos e] at h
      have e1 := List.dropLast_concat_getLast e.1
      have e2 : q.getLast? = some (q.getLast e.1) := List.getLast?_eq_some_getLast e.1
      rw [e2] at h
      have e3 := Option.some.inj h
      rw [e3, e.2] at e1
      exact e1.symm
    · rw [if_neg e] at h
      cases h
  · rintro rfl
    rw [if_pos ⟨by simp, by simp⟩]
    simp
theorem le_app {a b : Int} : ∀ {l : List Int}, l ++ [a] ≤ l ++ [b] → a ≤ b
  | [], h => by
    rcases List.cons_le_cons_iff.mp h with h | h
    · exact Int.le_of_lt h
    · exact Int.le_of_eq h.1
  | x :: l, h => by
    rcases List.cons_le_cons_iff.mp (h : x :: (l ++ [a]) ≤ x :: (l ++ [b])) with h | h
    · exact absurd h (Int.lt_irrefl _)
    · exact le_app h.2
theorem kidS_eq {z : Wd} {os : List Wd} (hz : z.Nodup) (hw : ∀ q ∈ os, ∀ c ∈ q, c ∈ z) (nd : os.Nodup) (srt : os.Pairwise fun p q => kW z p ≤ kW z q) (p : Wd) : kidS os p = kids z os p := by
  have hm : ∀ c, c ∈ kidS os p ↔ p ++ [c] ∈ os := fun c => by
    unfold kidS
    rw [List.mem_filterMap]
    constructor
    · rintro ⟨q, hq, e⟩
      rw [← kidF_some.mp e]
      exact hq
    · exact fun h => ⟨_, h, kidF_some.mpr rfl⟩
  have hk : ∀ c, c ∈ kids z os p ↔ p ++ [c] ∈ os := fun c => by
    unfold kids
    rw [List.mem_filter]
    constructor
    · exact fun h => of_decide_eq_true h.2
    · exact fun h => ⟨hw _ h c (by simp), decide_eq_true h⟩
  refine List.Perm.eq_of_pairwise (le := fun c d => z.idxOf c ≤ z.idxOf d) (fun c d hc hd h1 h2 => ?_) ?_ ?_ ?_
  · have h3 := hw _ ((hm c).mp hc) c (by simp)
    have h4 := hw _ ((hk d).mp hd) d (by simp)
    have e1 := List.getElem_idxOf (List.idxOf_lt_length_of_mem h3)
    have e2 := List.getElem_idxOf (List.idxOf_lt_length_of_mem h4)
    have e : z.idxOf c = z.idxOf d := Nat.le_antisymm h1 h2
    rw [← e1, ← e2]
    simp only [e]
  · unfold kidS
    rw [List.pairwise_filterMap]
    refine srt.imp fun {a b} h c hc d hd => ?_
    rw [kidF_some.mp hc, kidF_some.mp hd] at h
    unfold kW at h
    rw [List.map_append, List.map_append] at h
    exact Int.ofNat_le.mp (le_app h)
  · unfold kids
    refine List.Pairwise.filter _ ?_
    rw [List.pairwise_iff_getElem]
    intro i j hi hj hij
    rw [List.Nodup.idxOf_getElem hz, List.Nodup.idxOf_getElem hz]
    exact Nat.le_of_lt hij
  · refine (List.perm_ext_iff_of_nodup ?_ (show (kids z os p).Nodup from List.Pairwise.filter _ hz)).mpr fun c => (hm c).trans (hk c).symm
    · unfold kidS
      unfold List.Nodup
      rw [List.pairwise_filterMap]
      refine List.Pairwise.imp (fun {a b} h c hc d hd e => h ?_) nd
      rw [kidF_some.mp hc, kidF_some.mp hd, e]
theorem kidS_step (qs : List Wd) (q p : Wd) : kidS (qs ++ [q]) p = if q ≠ [] ∧ q.dropLast = p then kidS qs p ++ (q.getLast?).toList else kidS qs p := by
  unfold kidS
  rw [List.filterMap_append]
  by_cases h : q ≠ [] ∧ q.dropLast = p
  · rw [if_pos h]
    have e : kidF p q = q.getLast? := by unfold kidF; rw [if_pos h]
    cases e2 : q.getLast? with
    | none => rw [e2] at e; simp [e]
    | some c => rw [e2] at e; simp [e]
  · rw [if_neg h]
    have e : kidF p q = none := by unfold kidF; rw [if_neg h]
    simp [e]
theorem kidS_len (qs : List Wd) (p : Wd) : (kidS qs p).length ≤ qs.length := List.length_filterMap_le _ _
/-! ### the tree -/
def treeFs (z : Wd) (t d e : Addr) (n m : Int) : List (Str × V) :=
  putF "ways" (.ref e) (putF "triples" (.ref d) (putF "height" (.int m) (putF "size" (.int n) (putF "rows" (.ref t) (putF "letters" (.str (sw z)) [])))))
section
variable {z : Wd} {t d e : Addr} {n m : Int}
theorem tf_letters : List.lookup ("letters" : Str) (treeFs z t d e n m) = some (V.str (sw z)) := by
  unfold treeFs
  rw [lookup_putF, if_neg (by decide +kernel), lookup_putF, if_neg (by decide +kernel), lookup_putF, if_neg (by decide +kernel), lookup_putF, if_neg (by decide +kernel), lookup_putF, if_neg (by decide +kernel), lookup_putF, if_pos rfl]
theorem tf_rows : List.lookup ("rows" : Str) (treeFs z t d e n m) = some (V.ref t) := by
  unfold treeFs
  rw [lookup_putF, if_neg (by decide +kernel), lookup_putF, if_neg (by decide +kernel), lookup_putF, if_neg (by decide +kernel), lookup_putF, if_neg (by decide +kernel), lookup_putF, if_pos rfl]
theorem tf_size : List.lookup ("size" : Str) (treeFs z t d e n m) = some (V.int n) := by
  unfold treeFs
  rw [lookup_putF, if_neg (by decide +kernel), lookup_putF, if_neg (by decide +kernel), lookup_putF, if_neg (by decide +kernel), lookup_putF, if_pos rfl]
theorem tf_height : List.lookup ("height" : Str) (treeFs z t d e n m) = some (V.int m) := by
  unfold treeFs
  rw [lookup_putF, if_neg (by decide +kernel), lookup_putF, if_neg (by decide +kernel), lookup_putF, if_pos rfl]
theorem tf_triples : List.lookup ("triples" : Str) (treeFs z t d e n m) = some (V.ref d) := by
  unfold treeFs
  rw [lookup_putF, if_neg (by decide +kernel), lookup_putF, if_pos rfl]
theorem tf_ways : List.lookup ("ways" : Str) (treeFs z t d e n m) = some (V.ref e) := by
  unfold treeFs
  rw [lookup_putF, if_pos rfl]
theorem tf_no {x : Str} (h : ¬ x = ("letters" : Str) ∧ ¬ x = ("rows" : Str) ∧ ¬ x = ("size" : Str) ∧ ¬ x = ("height" : Str) ∧ ¬ x = ("triples" : Str) ∧ ¬ x = ("ways" : Str)) : List.lookup x (treeFs z t d e n m) = none := by
  obtain ⟨h1, h2, h3, h4, h5, h6⟩ := h
  unfold treeFs
  rw [lookup_putF, if_neg h6, lookup_putF, if_neg h5, lookup_putF, if_neg h4, lookup_putF, if_neg h3, lookup_putF, if_neg h2, lookup_putF, if_neg h1]
  rfl
end
/-- the dict of triples: us in any order -/
def TriAt (H : Hp) (d : Addr) (us : List Rw) : Prop := ∃ l, H d = some (.dK (kdl l)) ∧ Paired (fun (q : Wd × V) r => q.1 = r.1 ∧ RwT H q.2 r) l us
abbrev wayl (z : Wd) (os : List Wd) : List (Wd × V) := os.map fun p => (p, V.str (sw (kids z os p)))
theorem wayl_fst (z : Wd) (os : List Wd) : (wayl z os).map (·.1) = os := by
  rw [List.map_map]
  exact List.map_id _
structure TreeAt (C : Addr) (H : Hp) (o : Addr) (z : Wd) (rs : List Rw) : Prop where
  root : [] ∈ rs.map (·.1)
  low : ∀ r ∈ rs, ∀ c ∈ r.1, c < 200
  ex : ∃ (dx t d e : Addr) (m : Int) (vs : List V) (us : List Rw), H o = some (.ins C dx (treeFs z t d e (rs.length : Int) m)) ∧ H t = some (.tup vs) ∧ Paired (RwT H) vs rs ∧ TriAt H d us ∧ us.Perm rs ∧
    H e = some (.dK (kdl (wayl z (rs.map (·.1))))) ∧ m ∈ rs.map (fun r => (r.1.length : Int)) ∧ ∀ y ∈ rs.map (fun r => (r.1.length : Int)), y ≤ m
theorem tri_fst {H : Hp} : ∀ {l : List (Wd × V)} {us : List Rw}, Paired (fun (q : Wd × V) r => q.1 = r.1 ∧ RwT H q.2 r) l us → l.map (·.1) = us.map (·.1)
  | _, _, .nil => rfl
  | _, _, .cons h t => by rw [List.map_cons, List.map_cons, h.1, tri_fst t]
theorem tri_mono {H H' : Hp} {d : Addr} {us : List Rw} (hr : [] ∈ us.map (·.1)) (hd : ∀ l, [] ∈ l.map (·.1) → H d = some (.dK (kdl l)) → H' d = some (.dK (kdl l))) (f : ∀ v r, RwT H v r → RwT H' v r) (h : TriAt H d us) : TriAt H' d us :=
  let ⟨l, h1, h2⟩ := h; ⟨l, hd _ (by rw [tri_fst h2]; exact hr) h1, paired_mono (fun a b q => ⟨q.1, f _ _ q.2⟩) h2⟩
/-- a tree stands where instances, tuples and dicts with a root stand -/
theorem TreeAt.mono {C : Addr} {H H' : Hp} {o : Addr} {z : Wd} {rs : List Rw} (h : TreeAt C H o z rs) (k1 : ∀ b C dx fs, H b = some (.ins C dx fs) → H' b = some (.ins C dx fs)) (k2 : ∀ b xs, H b = some (.tup xs) → H' b = some (.tup xs))
    (k3 : ∀ b l, [] ∈ l.map (·.1) → H b = some (.dK (kdl l)) → H' b = some (.dK (kdl l))) : TreeAt C H' o z rs := by
  obtain ⟨dx, t, d, e, m, vs, us, h1, h2, h3, h4, h5, h6, h7⟩ := h.ex
  have f : ∀ v r, RwT H v r → RwT H' v r := fun v r ⟨a, e, q⟩ => ⟨a, e, k2 _ _ q⟩
  exact ⟨h.root, h.low, dx, t, d, e, m, vs, us, k1 _ _ _ _ h1, k2 _ _ h2, paired_mono f h3, tri_mono ((h5.map _).mem_iff.mpr h.root) (k3 d) f h4, h5, k3 _ _ (by rw [wayl_fst]; exact h.root) h6, h7⟩
theorem TreeAt.sm {T : List (Addr × Str)} {C : Addr} {H H' : Hp} {o : Addr} {z : Wd} {rs : List Rw} (h : TreeAt C H o z rs) (s : Sm T H H') : TreeAt C H' o z rs :=
  h.mono (fun _ _ _ _ q => s.get q) (fun _ _ q => s.get q) fun _ _ _ q => s.get q
theorem TreeAt.same {C : Addr} {H H' : Hp} {o : Addr} {z : Wd} {rs : List Rw} (h : TreeAt C H o z rs) (s : Same H H') : TreeAt C H' o z rs :=
  h.mono (fun _ _ _ _ q => s _ _ q) (fun _ _ q => s _ _ q) fun _ _ _ q => s _ _ q
/-- the pen's dict is none whose keys are places -/
theorem pen_kdl {c : Addr} {b l : Int} {k : List (Wd × V)} (hk : [] ∈ k.map (·.1)) : penL c b l ≠ kdl k := by
  intro h
  have h1 : (Sum.inr (sw []) : Key) ∈ (kdl k).map (·.1) := by
    obtain ⟨q, hq, e⟩ := List.mem_map.mp hk
    rw [← e]
    exact List.mem_map.mpr ⟨(.inr (sw q.1), q.2), List.mem_map.mpr ⟨q, hq, rfl⟩, rfl⟩
  rw [← h] at h1
  have h2 : (Sum.inr (sw []) : Key) ∈ [(Sum.inr ("cells" : Str) : Key), .inr "next", .inr "left"] := h1
  have h3 : ¬ (sw [] = ("cells" : Str)) ∧ ¬ (sw [] = ("next" : Str)) ∧ ¬ (sw [] = ("left" : Str)) := by decide +kernel
  rcases List.mem_cons.mp h2 with e | h2
  · exact h3.1 (Sum.inr.inj e)
  rcases List.mem_cons.mp h2 with e | h2
  · exact h3.2.1 (Sum.inr.inj e)
  exact h3.2.2 (Sum.inr.inj (List.mem_singleton.mp h2))
theorem TreeAt.kp {C : Addr} {H H' : Hp} {o d c : Addr} {n : Nat} {z : Wd} {rs : List Rw} (h : TreeAt C H o z rs) (hp : Pen H d c n) (s : Kp d H H') : TreeAt C H' o z rs := by
  obtain ⟨ns, b, l, hd, _⟩ := hp
  refine h.mono (fun _ _ _ _ q => s _ _ q (ne_of q hd (by intro z; cases z))) (fun _ _ q => s _ _ q (ne_of q hd (by intro z; cases z))) fun _ k hk q => s _ _ q (ne_of q hd fun z => pen_kdl hk (HO.dK.inj z).symm)
end Toy
set_option Elab.async false
set_option linter.all false
set_option maxRecDepth 100000
set_option maxHeartbeats 4000000
namespace Toy
open PySem L2 Sh ShL LamX NdefX
/-! ### heaps: all stands but tables and one object -/
def SmK (T : List (Addr × Str)) (o : Addr) (H H' : Hp) : Prop := (∀ b u, H b = some u → (∀ ps, u ≠ .tbl ps) → b ≠ o → H' b = some u) ∧ Tabs T H'
/-- e is none of the old ones -/
def Fr (o : Addr) (H : Hp) (e : Addr) : Prop := ∀ b u, H b = some u → (∀ ps, u ≠ .tbl ps) → b ≠ o → b ≠ e
theorem tabs_put {T : List (Addr × Str)} {H : Hp} {d : Addr} {u v : HO} (t : Tabs T H) (hd : H d = some u) (nt : ∀ ps, u ≠ .tbl ps) (nc : ∀ c q, u ≠ CodeO c q) : Tabs T (upd H d v) := fun p hp => by
  obtain ⟨ps, h1, h2, h3⟩ := t p hp
  refine ⟨ps, by rw [upd_ne (ne_of h1 hd fun z => nt _ z.symm)]; exact h1, h2, fun pos cv hc => ?_⟩
  obtain ⟨c, e1, e2⟩ := h3 pos cv hc
  exact ⟨c, e1, by rw [upd_ne (ne_of e2 hd fun z => nc _ _ z.symm)]; exact e2⟩
section
variable {T : List (Addr × Str)} {o e : Addr} {H H1 H2 : Hp}
theorem SmK.of (s : Sm T H H1) : SmK T o H H1 := ⟨fun b u h n _ => s.get h n, s.2⟩
theorem SmK.sm (k : SmK T o H H1) (s : Sm T H1 H2) : SmK T o H H2 := ⟨fun b u h n ne => s.get (k.1 b u h n ne) n, s.2⟩
theorem SmK.same (k : SmK T o H H1) (s : Same H1 H2) : SmK T o H H2 := k.sm (Sm.of k.2 s)
theorem SmK.fresh (k : SmK T o H H1) (n : H1 e = none) : Fr o H e := fun b u h nt ne => ne_of_none (k.1 b u h nt ne) n
theorem SmK.putD {kvs kvs' : List (Key × V)} (k : SmK T o H H1) (f : Fr o H e) (h : H1 e = some (.dK kvs)) : SmK T o H (upd H1 e (.dK kvs')) :=
  ⟨fun b u hb nt ne => by rw [upd_ne (f b u hb nt ne)]; exact k.1 b u hb nt ne, tabs_put k.2 h (by intro ps z; cases z) (by intro c q z; unfold CodeO at z; cases z)⟩
theorem SmK.putO {C dx : Addr} {fs fs' : List (Str × V)} (k : SmK T o H H1) (h : H1 o = some (.ins C dx fs)) : SmK T o H (upd H1 o (.ins C dx fs')) :=
  ⟨fun b u hb nt ne => by rw [upd_ne ne]; exact k.1 b u hb nt ne, tabs_put k.2 h (by intro ps z; cases z) (by intro c q z; unfold CodeO at z; cases z)⟩
end
theorem unlock {H : Hp} {e : Addr} {u v : HO} (h : H e = some u) : Same H (upd (upd H e v) e u) := fun b x hb => by
  by_cases z : b = e
  · rw [z, upd_same, ← h, ← z]; exact hb
  · rw [upd_ne z, upd_ne z]; exact hb
theorem walk_wkeys {e : Addr} {od : Obj} (l : List (Wd × V)) : Walk (Itk e od (kdl l)) (wsV (l.map (·.1))).length (fun H => H e = some (.frz od (.dK (kdl l)))) (YAt (wsV (l.map (·.1)))) := by
  have := walk_keys (d := e) (o := od) (kvs := kdl l)
  rw [show (kdl l).length = (wsV (l.map (·.1))).length by rw [kdl_len, List.length_map, List.length_map]] at this
  refine this.mono (fun _ h => h) fun i H x H' hi _ ⟨e1, k, v, h1, h2⟩ => ⟨e1, ?_⟩
  unfold kdl at h1
  rw [List.getElem?_map] at h1
  obtain ⟨q, hq, e2⟩ := Option.map_eq_some_iff.mp h1
  cases e2
  rw [List.getElem?_map, List.getElem?_map, hq, h2]
  rfl
/-- [f(p) for p in dict] -/
theorem lc_lock {H : Hp} {e : Addr} {l : List (Wd × V)} {k j : Nat} {te : TE} {σ : L2.St} {Q : VK} (he : H e = some (.dK (kdl l))) (hσ : σ[k]? = some (some (.ref e))) (hl : l.length ≤ 40000) (f : Wd → V)
    (hw : ∀ x, wipe ((wipe σ [j]).set j x) [j] = wipe σ [j])
    (hs : ∀ p ∈ l.map (·.1), ∀ H' (R : VK), (∀ b u, H b = some u → b ≠ e → H' b = some u) → R (f p) H' → te ((wipe σ [j]).set j (some (.str (sw p)))) H' R)
    (q : ∀ H' D, Same H H' → H D = none → H' D = some (.lst ((l.map (·.1)).map f)) → Q (.ref D) H') : tLockE (tLc (iKeys (tVar k)) (gName j) tYes te [j]) σ H Q := by
  refine ⟨e, _, he, trivial, fun od => ?_⟩
  refine ⟨_, hσ, e, od, rfl, .inl ⟨_, upd_same, fun D hD => ?_⟩⟩
  have hDe : D ≠ e := fun z => by rw [z, upd_same] at hD; cases hD
  have hD0 : H D = none := by rw [upd_ne hDe] at hD; exact hD
  refine lcF (walk_wkeys l) yat (paired_self (l.map (·.1))) hD (fun H' s => s _ _ upd_same) (by rw [List.length_map]; exact hl) (fun _ => true) f (fun x p H' R N hp ex s k1 _ => ?_) (fun H' s hD2 => ?_)
  · subst ex
    refine ⟨hw _, yes_ite ?_⟩
    exact hs p hp H' R (fun b u hb ne => s _ _ (by rw [upd_ne ne]; exact hb)) (k1 rfl)
  · rw [filter_tt] at hD2
    refine ⟨s _ _ upd_same, q _ D (fun b u hb => ?_) hD0 ?_⟩
    · by_cases z : b = e
      · rw [z, upd_same, ← he, ← z]; exact hb
      · rw [upd_ne z]; exact s _ _ (by rw [upd_ne z]; exact hb)
    · rw [upd_ne hDe]; exact hD2
structure GoodUs (z : Wd) (us : List Rw) : Prop where
  ok : ∀ r ∈ us, RwOk z r
  nd : (us.map (·.1)).Nodup
  root : [] ∈ us.map (·.1)
  par : ∀ p ∈ us.map (·.1), p.dropLast ∈ us.map (·.1)
  len : us.length ≤ 2000
theorem perm_paired {α β : Type} {R : α → β → Prop} {xs ys : List α} (h : ys.Perm xs) : ∀ {us : List β}, Paired R xs us → ∃ vs : List β, vs.Perm us ∧ Paired R ys vs := by
  induction h with
  | nil => exact fun p => by cases p; exact ⟨[], List.Perm.refl _, .nil⟩
  | cons x _ ih =>
    intro us p
    cases p with
    | cons r t =>
      obtain ⟨vs, h1, h2⟩ := ih t
      exact ⟨_ :: vs, h1.cons _, .cons r h2⟩
  | swap x y l =>
    intro us p
    cases p with
    | cons r t =>
      cases t with
      | cons r2 t => exact ⟨_, List.Perm.swap _ _ _, .cons r2 (.cons r t)⟩
  | trans _ _ ih1 ih2 =>
    intro us p
    obtain ⟨vs, h1, h2⟩ := ih2 p
    obtain ⟨ws, h3, h4⟩ := ih1 h2
    exact ⟨ws, h3.trans h1, h4⟩
theorem sort_rows (z : Wd) (us : List Rw) : ∃ rs : List Rw, us.Perm rs ∧ rs.map (·.1) = ordW z (us.map (·.1)) := by
  obtain ⟨vs, h1, h2⟩ := perm_paired (R := fun p (r : Rw) => p = r.1) (ordW_perm z (us.map (·.1))) (paired_self us)
  exact ⟨vs, h1.symm, (paired_eq h2).symm⟩
/-- what is told as a row: the row, or none -/
def RowO (H : Hp) (z : Wd) (v : V) : Option Rw → Prop
  | some r => (∃ p, v = .ref p ∧ SqA H p (rwVs r)) ∧ RwOk z r
  | none => RowV H z v false
theorem RowO.kp {H H' : Hp} {z : Wd} {v : V} : ∀ {o : Option Rw}, KpS H H' → RowO H z v o → RowO H' z v o
  | some _, k, ⟨⟨p, e, h⟩, r⟩ => ⟨⟨p, e, h.kp k⟩, r⟩
  | none, k, h => RowV.kp k h
theorem RowO.v {H : Hp} {z : Wd} {v : V} : ∀ {o : Option Rw}, RowO H z v o → RowV H z v o.isSome
  | some _, ⟨⟨p, e, h⟩, r⟩ => .inr ⟨p, _, e, h, .inr (row3_ok r)⟩
  | none, h => h
def FineR (os : List (Option Rw)) (us : List Rw) : Prop := os = us.map some ∧ (us.map (·.1)).Nodup
def WrongR (os : List (Option Rw)) (i : Nat) : Prop := ∃ o us, os[i]? = some o ∧ FineR (os.take i) us ∧ (o = none ∨ ∃ r, o = some r ∧ r.1 ∈ us.map (·.1))
/-- the first place without the one above it -/
def loneB (us : List Rw) (p : Wd) : Bool := decide (p ≠ [] ∧ p.dropLast ∉ us.map (·.1))
def loneP (z : Wd) (us : List Rw) : Option Wd := (ordW z (us.map (·.1))).find? (loneB us)
theorem lone_root {us : List Rw} (h : ∀ p ∈ us.map (·.1), loneB us p = false) (hl : 0 < us.length) : [] ∈ us.map (·.1) := by
  have key : ∀ n (p : Wd), p.length = n → p ∈ us.map (·.1) → [] ∈ us.map (·.1) := by
    intro n
    induction n with
    | zero => intro p e hp; rw [List.length_eq_zero_iff.mp e] at hp; exact hp
    | succ n ih =>
      intro p e hp
      have h1 := of_decide_eq_false (h p hp)
      have h2 : p.dropLast ∈ us.map (·.1) := Decidable.byContradiction fun k => h1 ⟨(fun z => by rw [z] at e; cases e), k⟩
      exact ih p.dropLast (by rw [List.length_dropLast, e]; rfl) h2
  obtain ⟨r, hr⟩ := List.exists_mem_of_length_pos hl
  exact key _ r.1 rfl (List.mem_map.mpr ⟨r, hr, rfl⟩)
theorem lone_par {us : List Rw} (h : ∀ p ∈ us.map (·.1), loneB us p = false) (hl : 0 < us.length) : ∀ p ∈ us.map (·.1), p.dropLast ∈ us.map (·.1) := fun p hp => by
  by_cases e : p = []
  · rw [e]
    exact lone_root h hl
  · have h1 := of_decide_eq_false (h p hp)
    exact Decidable.byContradiction fun k => h1 ⟨e, k⟩
theorem lone_none {z : Wd} {us : List Rw} (h : loneP z us = none) : ∀ p ∈ us.map (·.1), loneB us p = false := fun p hp => by
  have := List.find?_eq_none.mp h p (ordW_mem.mpr hp)
  simpa using this
theorem good_of {z : Wd} {us : List Rw} (h : loneP z us = none) (hl : 0 < us.length) (hl2 : us.length ≤ 2000) (nd : (us.map (·.1)).Nodup) (ok : ∀ r ∈ us, RwOk z r) : GoodUs z us :=
  ⟨ok, nd, lone_root (lone_none h) hl, lone_par (lone_none h) hl, hl2⟩
theorem fineR_ok {H : Hp} {z : Wd} : ∀ {xs : List V} {us : List Rw}, Paired (RowO H z) xs (us.map some) → ∀ r ∈ us, RwOk z r
  | _, [], _, r, hr => by cases hr
  | _, u :: us, .cons h t, r, hr => by
    rcases List.mem_cons.mp hr with rfl | hr
    · exact h.2
    · exact fineR_ok t r hr
def spInit (T : List (Addr × Str)) (C CL CM CR CN : Addr) : Sp := fun vs H Q E => ∃ (o dx a : Addr) (v : V) (xs : List V) (b : Bool) (z : Wd) (os : List (Option Rw)), vs = [.ref o, v, .ref a] ∧ H o = some (.ins C dx []) ∧ LtV H v b ∧ SqA H a xs ∧ xs.length ≤ 20000 ∧ Tabs T H ∧
  (b = true → 1 ≤ xs.length → xs.length ≤ 2000 → v = .str (sw z) ∧ Paired (RowO H z) xs os) ∧
  (b = false → ∀ H' d, SmK T o H H' → H' d = some (exd d [("letters", v)]) → E (.ref CL) (some d) H') ∧
  (b = true → ¬ (1 ≤ xs.length ∧ xs.length ≤ 2000) → ∀ H' d, SmK T o H H' → H' d = some (exd d [("most", .int 2000), ("many", .int (xs.length : Nat)), ("what", .str "places")]) → E (.ref CM) (some d) H') ∧
  (b = true → 1 ≤ xs.length → xs.length ≤ 2000 → ∀ i, WrongR os i → ∀ H' d, SmK T o H H' → H' d = some (exd d [("number", .int (i : Nat))]) → E (.ref CR) (some d) H') ∧
  (b = true → 1 ≤ xs.length → xs.length ≤ 2000 → ∀ us p, FineR os us → loneP z us = some p → ∀ H' d, SmK T o H H' → H' d = some (exd d [("place", .str (sw p))]) → E (.ref CN) (some d) H') ∧
  (b = true → 1 ≤ xs.length → xs.length ≤ 2000 → ∀ us rs, FineR os us → loneP z us = none → us.Perm rs → rs.map (·.1) = ordW z (us.map (·.1)) → ∀ H', SmK T o H H' → TreeAt C H' o z rs → Q .non H')
theorem tri_get {H : Hp} : ∀ {l : List (Wd × V)} {us : List Rw} {r : Rw}, Paired (fun (q : Wd × V) r => q.1 = r.1 ∧ RwT H q.2 r) l us → r ∈ us → ∃ v, (r.1, v) ∈ l ∧ RwT H v r
  | _, _, r, .cons (a := q) h t, m => by
    rcases List.mem_cons.mp m with rfl | m
    · exact ⟨q.2, by rw [← h.1]; exact List.mem_cons_self, h.2⟩
    · obtain ⟨v, h1, h2⟩ := tri_get t m
      exact ⟨v, List.mem_cons_of_mem _ h1, h2⟩
end Toy
set_option Elab.async false
set_option linter.all false
set_option maxRecDepth 100000
set_option maxHeartbeats 4000000
namespace Toy
open PySem L2 Sh ShL LamX NdefX
theorem kd_map (os : List Wd) (f : Wd → V) : (os.map fun p => (p, f p)).map (·.1) = os := by
  rw [List.map_map]
  exact List.map_id _
theorem kdl_keys (l : List (Wd × V)) : (kdl l).map (fun kv => kV kv.1) = wsV (l.map (·.1)) := by
  unfold kdl
  show _ = (l.map (·.1)).map _
  rw [List.map_map, List.map_map]
  rfl
theorem way_put {os : List Wd} {q : Wd} {f g : Wd → V} {v : V} (h : q ∈ os) (hg : ∀ p, g p = if p = q then v else f p) : putK (kdl (os.map fun p => (p, f p))) (.inr (sw q)) v = kdl (os.map fun p => (p, g p)) := by
  rw [kdl_old v (by rw [kd_map]; exact h), List.map_map]
  congr 1
  refine List.map_congr_left fun p _ => ?_
  show (if p = q then (p, v) else (p, f p)) = (p, g p)
  rw [hg]
  by_cases e : p = q
  · rw [if_pos e, if_pos e]
  · rw [if_neg e, if_neg e]
theorem small_lt {c : Nat} (h : c ∈ small) : c < 200 := by
  revert c
  decide +kernel
abbrev TriP (H : Hp) : Wd × V → Rw → Prop := fun q r => q.1 = r.1 ∧ RwT H q.2 r
theorem triP_same {H H' : Hp} {l : List (Wd × V)} {us : List Rw} (s : Same H H') (h : Paired (TriP H) l us) : Paired (TriP H') l us := paired_mono (fun _ _ h => ⟨h.1, h.2.same s⟩) h
structure Bnd (T : List (Addr × Str)) (C o dx d e : Addr) (l : List (Wd × V)) (us : List Rw) (el : List (Wd × V)) (H0 : Hp) (fs : List (Str × V)) (H : Hp) : Prop where
  smk : SmK T o H0 H
  ins : H o = some (.ins C dx fs)
  dd : H d = some (.dK (kdl l))
  tri : Paired (TriP H) l us
  ee : H e = some (.dK (kdl el))
section
variable {T : List (Addr × Str)} {C o dx d e : Addr} {l : List (Wd × V)} {us : List Rw} {el : List (Wd × V)} {H0 H H' : Hp} {fs : List (Str × V)}
theorem Bnd.same (b : Bnd T C o dx d e l us el H0 fs H) (s : Same H H') : Bnd T C o dx d e l us el H0 fs H' := ⟨b.smk.same s, s _ _ b.ins, s _ _ b.dd, triP_same s b.tri, s _ _ b.ee⟩
theorem Bnd.put (b : Bnd T C o dx d e l us el H0 fs H) (fs' : List (Str × V)) : Bnd T C o dx d e l us el H0 fs' (upd H o (.ins C dx fs')) :=
  ⟨b.smk.putO b.ins, upd_same, by rw [upd_ne (ne_of b.dd b.ins (by intro z; cases z))]; exact b.dd,
   paired_mono (fun q r ⟨h, a, e1, h2⟩ => ⟨h, a, e1, by rw [upd_ne (ne_of h2 b.ins (by intro z; cases z))]; exact h2⟩) b.tri, by rw [upd_ne (ne_of b.ee b.ins (by intro z; cases z))]; exact b.ee⟩
theorem Bnd.putE (b : Bnd T C o dx d e l us el H0 fs H) (f : Fr o H0 e) (nd : d ≠ e) (el' : List (Wd × V)) : Bnd T C o dx d e l us el' H0 fs (upd H e (.dK (kdl el'))) :=
  ⟨b.smk.putD f b.ee, by rw [upd_ne (ne_of b.ins b.ee (by intro z; cases z))]; exact b.ins, by rw [upd_ne nd]; exact b.dd,
   paired_mono (fun q r ⟨h, a, e1, h2⟩ => ⟨h, a, e1, by rw [upd_ne (ne_of h2 b.ee (by intro z; cases z))]; exact h2⟩) b.tri, upd_same⟩
/-- the rows in their order -/
theorem rows_pr {f : Wd → V} : ∀ {rs : List Rw}, (∀ r ∈ rs, RwT H (f r.1) r) → Paired (RwT H) ((rs.map (·.1)).map f) rs
  | [], _ => .nil
  | r :: rs, h => .cons (h r List.mem_cons_self) (rows_pr fun x hx => h x (List.mem_cons_of_mem _ hx))
end
theorem for_enumE {K : PySem.W.Frag} {a : Addr} {j : Nat} {xs : List V} {u : HO} {g : TG} {tb : TS} {D : Ends} {σ : L2.St} {H : Hp} (hj : σ[j]? = some (some (.ref a))) (sq : u = .lst xs ∨ u = .tup xs) (Pv : Nat → L2.St → Hp → Prop) (h0 : Pv 0 σ H) (hl : ∀ i σ H', Pv i σ H' → H' a = some u)
    (hs : ∀ (i : Nat) (x : V) (σ : L2.St) (H : Hp) (T : Addr), xs[i]? = some x → H T = none → Pv i σ H → g (.ref T) σ (upd H T (.tup [.int (i : Nat), x])) fun σ2 H2 => tb { D with nx := Pv (i + 1), ct := Pv (i + 1), bk := D.nx } σ2 H2) (hd : ∀ σ H, Pv xs.length σ H → D.nx σ H) :
    tFor (fun σ H R => iEnum K (tCons (tVar j) tNil) σ H R ∨ iEnumT K (tCons (tVar j) tNil) σ H R) g tb D σ H := by
  rcases sq with rfl | rfl
  · exact .inl ⟨_, hj, a, xs, rfl, SqL.of (hl _ _ _ h0), for_enum (K := K) Pv h0 (fun i σ H' _ p => SqL.of (hl i σ H' p)) hs hd⟩
  · exact .inr ⟨_, hj, a, xs, rfl, SqT.of (hl _ _ _ h0), for_enumT (K := K) Pv h0 (fun i σ H' _ p => SqT.of (hl i σ H' p)) hs hd⟩
theorem SmK.frz {T : List (Addr × Str)} {o e : Addr} {H H1 : Hp} {u : HO} {kvs : List (Key × V)} (k : SmK T o H H1) (f : Fr o H e) (h : H1 e = some (.dK kvs)) : SmK T o H (upd H1 e u) :=
  ⟨fun b x hb nt ne => by rw [upd_ne (f b x hb nt ne)]; exact k.1 b x hb nt ne, tabs_put k.2 h (by intro ps z; cases z) (by intro c q z; unfold CodeO at z; cases z)⟩
theorem SmK.fr0 {T : List (Addr × Str)} {o : Addr} {H H1 : Hp} {u : HO} (k : SmK T o H H1) (ho : H1 o = some u) {a : Addr} (n : H1 a = none) : Fr0 H a := fun x hx => by
  by_cases nt : ∃ ps, x = .tbl ps
  · exact nt
  · have ne : a ≠ o := fun e => by rw [e, ho] at n; cases n
    have := k.1 a x hx (fun ps e => nt ⟨ps, e⟩) ne
    rw [n] at this
    cases this
section
variable {P : Program} {w : World} {K : PySem.W.Frag} {mg : Str → Option Value} {base : Heap}
theorem ok_Tree_init (T : Tx P K mg) (B : Bx T base) : FnOk P w K mg base (L2.CX P w) 5 T.a_Tree_init T.fd_Tree_init ["self", "letters", "rows"] (spInit (tabs T) T.c_Tree T.c_BadLetters T.c_TooMany T.c_BadRow T.c_Lone) := by
  refine T.F_Tree_init.okX sc_Tree_init (fun vs H Q E h => ?_) (fun cdv A outer s H vs Q E hr h => ?_)
  · obtain ⟨o, dx, a, v, xs, b, z, os, rfl, _⟩ := h
    rfl
  have hu := hu_of hr
  have hu65 := hu65_of hr
  obtain ⟨o, dx, a, v, xs, b, z, os, rfl, ho, hv, ha, hlx, tb, hyp, q1, q2, q3, q4, q5⟩ := h
  have smS : ∀ {H'}, Same H H' → SmK (tabs T) o H H' := fun s => SmK.of (Sm.of tb s)
  refine ⟨_, (pss_cons (ps_if (pt_not (pt_val (pe_call (ok_is_letters (w := w) T B) (hr.mono (by decide)) (by rfl) T.m_is_letters T.F_is_letters.kp T.bi_is_letters .nil pass0 (pa_cons (pv 1) pa_nil))))
 (pss_one (ps_raiseX rfl rfl (takes_of rfl rfl rfl rfl) (pe_oexN T.i_BadLetters.m (ok_x_BadLetters T) (hr.mono (by decide)) (by rfl) T.m_BadLetters T.kb_BadLetters_1 pass0 (pa_cons (pv 1) pa_nil) pk_nil)))
 pss_nil)
 (pss_cons (ps_if (pt_not (pt_chain op_le op_le pe_int (pe_callB call_len_seq (by rfl) T.b_len (by decide +kernel) (pa_cons (pv 2) pa_nil)) (pe_glob (v := .int 2000) (by rfl) T.m_MOST_PLACES.choose_spec ⟨_, rfl⟩)))
 (pss_one (ps_raiseX rfl rfl (takes_of rfl rfl rfl rfl) (pe_oexN T.i_TooMany.m (ok_x_TooMany T) (hr.mono (by decide)) (by rfl) T.m_TooMany T.kb_TooMany_3 pass0 (pa_cons pe_str (pa_cons (pe_callB call_len_seq (by rfl) T.b_len (by decide +kernel) (pa_cons (pv 2) pa_nil)) (pa_cons (pe_glob (v := .int 2000) (by rfl) T.m_MOST_PLACES.choose_spec ⟨_, rfl⟩) pa_nil))) pk_nil)))
 pss_nil)
 (pss_cons (ps_set (i := 3) sc_Tree_init.nd rfl (by first | exact Or.inl rfl | exact Or.inr rfl) pe_dnewK)
 (pss_cons (ps_for (passes_of rfl) rfl (pi_alt (pi_enum (by rfl) T.b_enumerate (pa_cons (pv 2) pa_nil)) (pi_enumT (by rfl) T.b_enumerate (pa_cons (pv 2) pa_nil))) (pg_tup rfl (pgs_cons (pg_name (i := 4) sc_Tree_init.nd rfl (by first | exact Or.inl rfl | exact Or.inr rfl)) (pgs_cons (pg_name (i := 5) sc_Tree_init.nd rfl (by first | exact Or.inl rfl | exact Or.inr rfl)) pgs_nil)))
 (pss_cons (ps_if (PW.pt (pw_or (pt_not (pt_val (pe_call (ok_is_row (w := w) T B) (hr.mono (by decide)) (by rfl) T.m_is_row T.F_is_row.kp T.bi_is_row .nil pass0 (pa_cons (pv 1) (pa_cons (pv 5) pa_nil))))) (pw_or1 (pt_cmp (pc_din hu (pe_alt (pe_ix ix_list (pv 5) pe_int (fun _ _ => rfl)) (pe_ix ix_tup (pv 5) pe_int (fun _ _ => rfl))) (pv 3))))))
 (pss_one (ps_raiseX rfl rfl (takes_of rfl rfl rfl rfl) (pe_oexN T.i_BadRow.m (ok_x_BadRow T) (hr.mono (by decide)) (by rfl) T.m_BadRow T.kb_BadRow_1 pass0 (pa_cons (pv 4) pa_nil) pk_nil)))
 pss_nil)
 (pss_one (ps_dput hu (pv 3) (pe_alt (pe_ix ix_list (pv 5) pe_int (fun _ _ => rfl)) (pe_ix ix_tup (pv 5) pe_int (fun _ _ => rfl))) (pe_tup (pa_cons (pe_alt (pe_ix ix_list (pv 5) pe_int (fun _ _ => rfl)) (pe_ix ix_tup (pv 5) pe_int (fun _ _ => rfl))) (pa_cons (pe_alt (pe_ix ix_list (pv 5) pe_int (fun _ _ => rfl)) (pe_ix ix_tup (pv 5) pe_int (fun _ _ => rfl))) (pa_cons (pe_alt (pe_ix ix_list (pv 5) pe_int (fun _ _ => rfl)) (pe_ix ix_tup (pv 5) pe_int (fun _ _ => rfl))) pa_nil)))) rfl))))
 (pss_cons (ps_setDc (i := 6) (own := [("place", 7)]) (g := gName 7) rfl sc_Tree_init.nd rfl rfl (sw_trueD rfl rfl rfl (by decide +kernel)) (pi_list (pe_call (ok_in_order (w := w) T B) (hr.mono (by decide)) (by rfl) T.m_in_order T.F_in_order.kp T.bi_in_order .nil pass0 (pa_cons (pv 1) (pa_cons (pv 3) pa_nil)))) (blkOk_by (own := [("place", 7)]) (N := N_Tree_init) (sc := defScope s_Tree_init) (by decide +kernel)) (fun _ _ _ _ _ => (pg_name (i := 7) sc_Tree_init.nd rfl (by first | exact Or.inl rfl | exact Or.inr rfl))) (fun _ _ _ _ _ => pts_nil) (fun _ _ _ _ _ => (pv 7)) (fun _ _ _ _ _ => pe_str))
 (pss_cons (ps_lock (ps_for (passes_of rfl) rfl (pi_keys (pv 6)) (pg_name (i := 7) sc_Tree_init.nd rfl (by first | exact Or.inl rfl | exact Or.inr rfl))
 (pss_one (ps_if (PW.pt (pw_and (pt_cmpR op_ne (pv 7) pe_str (nomark _)) (pw_and1 (pt_cmp (pc_dnotin hu (pe_slice sl_str (pv 7) po_none (po_some (pe_un un_neg pe_int))) (pv 3))))))
 (pss_one (ps_raiseX rfl rfl (takes_of rfl rfl rfl rfl) (pe_oexN T.i_Lone.m (ok_x_Lone T) (hr.mono (by decide)) (by rfl) T.m_Lone T.kb_Lone_1 pass0 (pa_cons (pv 7) pa_nil) pk_nil)))
 pss_nil))))
 (pss_cons (ps_for (passes_of rfl) rfl (pi_list (pe_callTy (call_list_dK rfl) (by rfl) T.b_list (by decide +kernel) (pa_cons (pv 6) pa_nil))) (pg_name (i := 7) sc_Tree_init.nd rfl (by first | exact Or.inl rfl | exact Or.inr rfl))
 (pss_one (ps_if (pt_cmpR op_ne (pv 7) pe_str (nomark _))
 (pss_one (ps_daug hu (pv 6) (pe_slice sl_str (pv 7) po_none (po_some (pe_un un_neg pe_int))) (pe_ix ix_str (pv 7) (pe_un un_neg pe_int) (fun _ _ => rfl)) in_addS (fun _ _ _ => rfl)))
 pss_nil)))
 (pss_cons (ps_fld (pv 0) (pv 1) rfl)
 (pss_cons (ps_fld (pv 0) (pe_callTy call_tuple_of (by rfl) T.b_tuple (by decide +kernel) (pa_cons (pe_lock (pe_lc (own := [("place", 7)]) (g := gName 7) rfl sc_Tree_init.nd (pi_keys (pv 6)) (blkOk_by (own := [("place", 7)]) (N := N_Tree_init) (sc := defScope s_Tree_init) (by decide +kernel)) (fun _ _ _ _ _ => (pg_name (i := 7) sc_Tree_init.nd rfl (by first | exact Or.inl rfl | exact Or.inr rfl))) (fun _ _ _ _ _ => pts_nil) (fun _ _ _ _ _ => (pe_dget hu (pv 3) (pv 7) (fun _ _ => rfl))))) pa_nil)) rfl)
 (pss_cons (ps_fld (pv 0) (pe_callB call_len_seq (by rfl) T.b_len (by decide +kernel) (pa_cons (pv 2) pa_nil)) rfl)
 (pss_cons (ps_fld (pv 0) (pe_callB (cr_max rfl) (by rfl) T.b_max (by decide +kernel) (pa_cons (pe_lock (pe_lc (own := [("place", 7)]) (g := gName 7) rfl sc_Tree_init.nd (pi_keys (pv 6)) (blkOk_by (own := [("place", 7)]) (N := N_Tree_init) (sc := defScope s_Tree_init) (by decide +kernel)) (fun _ _ _ _ _ => (pg_name (i := 7) sc_Tree_init.nd rfl (by first | exact Or.inl rfl | exact Or.inr rfl))) (fun _ _ _ _ _ => pts_nil) (fun _ _ _ _ _ => (pe_callB call_len_str (by rfl) T.b_len (by decide +kernel) (pa_cons (pv 7) pa_nil))))) pa_nil)) rfl)
 (pss_cons (ps_fld (pv 0) (pv 3) rfl)
 (pss_one (ps_fld (pv 0) (pv 6) rfl)))))))))))))), ?_⟩
  refine ⟨_, rfl, v, b, rfl, hv, fun H1 s1 => ⟨_, rfl, ?_⟩⟩
  cases b with
  | false =>
    refine iteT ?_
    exact mk_raise (vs := [v]) (zs := []) (fun b hb => fr0_none (s1.free hb)) T.x_BadLetters.raises (fun R h => ⟨_, rfl, h⟩) (fun R h => h) rfl rfl rfl fun H' d s' n e => q1 rfl H' d (smS (s1.trans s')) e
  | true =>
  refine iteF ?_
  have ha1 := ha.kp (kpS_same s1)
  refine ⟨_, rfl, a, xs, rfl, RwE.sqA ha1, _, _, rfl, rfl, _, rfl, ?_⟩
  have many : ¬ (1 ≤ xs.length ∧ xs.length ≤ 2000) → ∀ (D : Ends), tRaiseX (cxOf (L2.CX P w) P w K mg base N_Tree_init "Tree.__init__" (defScope s_Tree_init) T.a_Tree_init cdv A outer s H E) (fun cls d _ H => E cls d H) (tOex T.c_TooMany 3 0 (spXI T.c_TooMany ["what", "many", "most"]) rotV (tCons (tC (.str "places")) (tCons (tCB (fun xs H_1 Q => ∃ p ys, xs = [V.ref p] ∧ (SqL K H_1 p ys ∨ SqT K H_1 p ys) ∧ Q (V.int ↑ys.length) H_1) (tCons (tVar 2) tNil)) (tCons (tC (.int 2000)) tNil))) tNil) D [some (.ref o), some v, some (.ref a), none, none, none, none, none] H1 := fun hn D =>
    mk_raise (vs := [.str "places", .int (xs.length : Nat), .int 2000]) (zs := []) (fun b hb => fr0_none (s1.free hb)) T.x_TooMany.raises (fun R h => ⟨_, rfl, a, xs, rfl, RwE.sqA ha1, h⟩) (fun R h => h) rfl rfl rfl fun H' d s' n e => q2 rfl hn H' d (smS (s1.trans s')) e
  refine ite2 (fun h1 => ?_) (fun h1 => ?_)
  rotate_left
  · have h1 : ¬ (1 : Int) ≤ (xs.length : Int) := by simpa using h1
    exact ⟨_, rfl, iteT (many (fun k => h1 (by omega)) { nx := fun _ _ => True, rt := fun _ _ => True })⟩
  refine ⟨_, _, rfl, rfl, _, rfl, ?_⟩
  have h1 : (1 : Int) ≤ (xs.length : Int) := by simpa using h1
  refine ite2 (fun h2 => ?_) (fun h2 => ?_)
  · have h2 : ¬ (xs.length : Int) ≤ 2000 := by simpa using h2
    exact many (fun k => h2 (by omega)) { nx := fun _ _ => True, rt := fun _ _ => True }
  have h2 : (xs.length : Int) ≤ 2000 := by simpa using h2
  have l1 : 1 ≤ xs.length := by omega
  have l2 : xs.length ≤ 2000 := by omega
  obtain ⟨rfl, pr⟩ := hyp rfl l1 l2
  have q3 := q3 rfl l1 l2
  have q4 := q4 rfl l1 l2
  have q5 := q5 rfl l1 l2
  have hz : LetOk z := by
    rcases hv with ⟨z', e1, _, e2⟩ | ⟨e, _⟩
    · rw [sw_inj (V.str.inj e1)]
      exact of_decide_eq_true e2.symm
    · cases e
  have hxl : xs.length = os.length := pr.length
  have hnl : os.length ≤ 2000 := by omega
  intro d hd
  have s2 := s1.trans (same_upd (o := .dK []) hd)
  have hd0 : (upd H1 d (.dK [])) d = some (.dK (kdl [])) := upd_same
  have dn : H d = none := by
    cases e : H d with
    | none => rfl
    | some u => rw [s1 _ _ e] at hd; cases hd
  generalize upd H1 d (.dK []) = H2 at s2 hd0
  obtain ⟨ua, hua, hua2⟩ : ∃ u, H a = some u ∧ (u = .lst xs ∨ u = .tup xs) := ha.elim (fun h => ⟨_, h, .inl rfl⟩) fun h => ⟨_, h, .inr rfl⟩
  refine for_enumE (K := K) (a := a) (j := 2) (xs := xs) (u := ua) rfl hua2 (fun i σ H3 => ∃ v4 v5 l us, σ = [some (.ref o), some (.str (sw z)), some (.ref a), some (.ref d), v4, v5, none, none] ∧ Same H H3 ∧ H3 d = some (.dK (kdl l)) ∧ Paired (TriP H3) l us ∧ FineR (os.take i) us)
    ⟨_, _, [], [], rfl, s2, hd0, .nil, by rw [List.take_zero]; exact ⟨rfl, by simp⟩⟩ (fun i σ H3 ⟨_, _, _, _, _, s, _⟩ => s _ _ hua) (fun i x σ H3 U hx hU ⟨v4, v5, l, us, e, s3, hd3, pl, fi⟩ => ?_) (fun σ H3 ⟨v4, v5, l, us, e, s3, hd3, pl, fi⟩ => ?_)
  · subst e
    obtain ⟨ov, hov, rv⟩ := paired_ix pr hx
    have sU := same_upd (o := .tup [.int (i : Nat), x]) hU
    have s4 := s3.trans sU
    refine ⟨U, _, rfl, SqT.of upd_same, rfl, _, _, rfl, _, _, rfl, rfl, ?_⟩
    have pl3 := triP_same sU pl
    have hd4 := sU _ _ hd3
    generalize upd H3 U (.tup [.int (i : Nat), x]) = H4 at s4 pl3 hd4
    have hil := (List.getElem?_eq_some_iff.mp hov).1
    have hul : us.length = i := by
      have e1 := congrArg List.length fi.1
      rw [List.length_take, List.length_map] at e1
      omega
    have hll : l.length = i := by rw [pl3.length, hul]
    have raise : WrongR os i → ∀ H5, Same H H5 → ∀ (D : Ends), tRaiseX (cxOf (L2.CX P w) P w K mg base N_Tree_init "Tree.__init__" (defScope s_Tree_init) T.a_Tree_init cdv A outer s H E) (fun cls d _ H => E cls d H) (tOex T.c_BadRow 1 0 (spXI T.c_BadRow ["number"]) rotV (tCons (tVar 4) tNil) tNil) D [some (.ref o), some (.str (sw z)), some (.ref a), some (.ref d), some (.int (i : Nat)), some x, none, none] H5 := fun hw H5 s5 D =>
      mk_raise (vs := [.int (i : Nat)]) (zs := []) (fun b hb => fr0_none (s5.free hb)) T.x_BadRow.raises (fun R h => ⟨_, rfl, h⟩) (fun R h => h) rfl rfl rfl fun H' d s' n e => q3 i hw H' d (smS (s5.trans s')) e
    have D0 : Ends := { nx := fun _ _ => True, rt := fun _ _ => True }
    refine ⟨_, rfl, _, rfl, z, x, ov.isSome, rfl, (rv.kp (kpS_same s4)).v, fun H5 s5 => ⟨_, rfl, ?_⟩⟩
    have s45 := s4.trans s5
    cases ov with
    | none => exact iteT (raise ⟨none, us, hov, fi, .inl rfl⟩ H5 s45 D0)
    | some r =>
    refine iteF ?_
    obtain ⟨⟨b, rfl, hb⟩, rok⟩ := rv
    have hb5 := hb.kp (kpS_same s45)
    have hd5 := s5 _ _ hd4
    have ix : ∀ (j : Nat) (v : V) (H' : Hp) (σ : L2.St) (Q : VK), σ[5]? = some (some (.ref b)) → (H' b = some (.lst (rwVs r)) ∨ H' b = some (.tup (rwVs r))) → (rwVs r)[j]? = some v → Q v H' → tAlt (tOp (rIxL K) (tVar 5) (tC (.int (j : Int)))) (tOp (rIxT K) (tVar 5) (tC (.int (j : Int)))) σ H' Q := fun j v H' σ Q e hb hv q =>
      hb.elim (fun hb => .inl ⟨_, e, b, _, _, _, rfl, rfl, SqL.of hb, atI_nat hv, q⟩) fun hb => .inr ⟨_, e, b, _, _, _, rfl, rfl, SqT.of hb, atI_nat hv, q⟩
    refine ix 0 (.str (sw r.1)) _ _ _ rfl hb5 rfl ?_
    refine ⟨_, rfl, d, valV (kdl l) (.inr (sw r.1)), rfl, dget_kdl hd5 r.1, _, rfl, ?_⟩
    by_cases hm : r.1 ∈ us.map (·.1)
    · have e : (valV (kdl l) (.inr (sw r.1))).isSome = true := by
        rw [kdl_is (by rw [tri_fst pl3]; exact fi.2), tri_fst pl3]
        exact decide_eq_true hm
      rw [e]
      exact iteT (raise ⟨_, us, hov, fi, .inr ⟨r, rfl, hm⟩⟩ H5 s45 D0)
    have hnew : r.1 ∉ l.map (·.1) := by rw [tri_fst pl3]; exact hm
    rw [kdl_none hnew]
    refine iteF ?_
    refine ix 0 (.str (sw r.1)) _ _ _ rfl hb5 rfl ?_
    refine ix 1 (oV r.2.1) _ _ _ rfl hb5 rfl ?_
    refine ix 2 (.bl r.2.2) _ _ _ rfl hb5 rfl ?_
    refine ⟨by show 3 ≤ sizeLine; decide, fun p hp => ?_⟩
    have s6 := same_upd (o := .tup (rwVs r)) hp
    have hp6 : (upd H5 p (.tup (rwVs r))) p = some (.tup (rwVs r)) := upd_same
    have hb6 := hb5.imp (s6 _ _) (s6 _ _)
    have hd6 := s6 _ _ hd5
    have pl6 := triP_same (s5.trans s6) pl3
    have s7 := (s4.trans s5).trans s6
    refine ⟨_, rfl, ?_⟩
    refine ix 0 (.str (sw r.1)) _ _ _ rfl hb6 rfl ?_
    refine ⟨d, _, rfl, dput_kdl hd6 r.1 _ (by omega), ?_⟩
    refine ⟨_, _, l ++ [(r.1, .ref p)], us ++ [r], rfl, same_of_new s7 dn, ?_, ?_, ?_, ?_⟩
    · rw [upd_same, kdl_new _ hnew]
    · refine paired_app (paired_mono (fun q r h => ⟨h.1, h.2.kp hd6 kp_put⟩) pl6) (.cons ⟨rfl, p, rfl, ?_⟩ .nil)
      rw [upd_ne (ne_of hp6 hd6 (by intro z; cases z))]
      exact hp6
    · rw [List.take_add_one, hov, fi.1, List.map_append]
      rfl
    · rw [List.map_append]
      refine List.nodup_append.mpr ⟨fi.2, by simp, fun x hx y hy => ?_⟩
      rw [List.mem_singleton.mp hy]
      exact fun e => hm (by rw [show r.1 = x from e.symm]; exact hx)
  · subst e
    rw [hxl, List.take_of_length_le (Nat.le_refl _)] at fi
    obtain ⟨rfl, hnd⟩ := fi
    have hok := fineR_ok pr
    have hxl : xs.length = us.length := by rw [hxl, List.length_map]
    have hul : us.length ≤ 2000 := by omega
    have hu1 : 1 ≤ us.length := by omega
    obtain ⟨rs, pm, od⟩ := sort_rows z us
    have hfst : l.map (·.1) = us.map (·.1) := tri_fst pl
    have hdn : ∀ p, (valV (kdl l) (.inr (sw p))).isSome = decide (p ∈ us.map (·.1)) := fun p => by rw [kdl_is (by rw [hfst]; exact hnd), hfst]
    have wdl : ∀ p ∈ us.map (·.1), p.length ≤ 200 ∧ ∀ c ∈ p, c ∈ z := fun p hp => by
      obtain ⟨r, hr, rfl⟩ := List.mem_map.mp hp
      exact ⟨(hok r hr).l200, (hok r hr).wd⟩
    refine ⟨_, rfl, _, rfl, z, d, kdl l, us.map (·.1), rfl, hd3, ?_, wdl, tb.ext s3, fun H4 a4 sm4 h4 => ⟨a4, rfl, ⟨_, SqL.of h4⟩, fun e he => ?_⟩⟩
    · rw [← hfst]
      exact kdl_keys l
    have s := s3
    rw [← od] at h4
    generalize hos : rs.map (·.1) = os at od h4
    have hosm : ∀ p, p ∈ os ↔ p ∈ us.map (·.1) := fun p => by rw [od]; exact ordW_mem
    have hosl : os.length = us.length := by rw [od, ordW_len, List.length_map]
    have hosn : os.Nodup := by rw [od]; exact ordW_nodup hnd
    refine dc_list (K := K) (a := a4) (xs := wsV os) (fun i H5 => Same H4 H5 ∧ H5 e = some (.dK (kdl ((os.take i).map fun p => (p, V.str (sw [])))))) ⟨same_upd he, upd_same⟩ (fun i H5 _ ⟨s5, _⟩ => SqL.of (s5 _ _ h4)) (fun i x H5 hx ⟨s5, h5⟩ => ?_) (fun H5 ⟨s5, h5⟩ => ?_)
    · rw [List.getElem?_map] at hx
      obtain ⟨p, hp, rfl⟩ := Option.map_eq_some_iff.mp hx
      have hpn : p ∉ ((os.take i).map fun p => (p, V.str (sw []))).map (·.1) := by rw [kd_map]; exact nd_take hosn hp
      refine ⟨rfl, yes_ite ⟨_, rfl, kdl ((os.take i).map fun p => (p, V.str (sw []))), .inr (sw p), rfl, h5, ?_, same_of_new s5 he, ?_⟩⟩
      · rw [kdl_len, List.length_map, List.length_take, sizeLine_eq]
        omega
      · rw [upd_same, mt_eq, kdl_new _ hpn, List.take_add_one, hp]
        show _ = some (HO.dK (kdl ((os.take i ++ [p]).map fun p => (p, V.str (sw [])))))
        rw [List.map_append]
        rfl
    rw [List.length_map, List.take_of_length_le (Nat.le_refl _)] at h5
    have hde : d ≠ e := ne_of_none (sm4.get hd3) he
    have fe : Fr o H e := ((SmK.of (Sm.of tb s)).sm sm4).fresh he
    have b5 : Bnd (tabs T) T.c_Tree o dx d e l us (os.map fun p => (p, V.str (sw []))) H [] H5 :=
      ⟨((SmK.of (Sm.of tb s)).sm sm4).same s5, s5 _ _ (sm4.get (s _ _ ho)), s5 _ _ (sm4.get hd3), paired_mono (fun q r h => ⟨h.1, (h.2.sm sm4).same s5⟩) pl, h5⟩
    clear he h4 s5 sm4 h5
    -- no place without the one above it
    refine ⟨e, _, b5.ee, trivial, fun ob => ?_⟩
    refine ⟨_, rfl, e, ob, rfl, .inl ⟨_, upd_same, ?_⟩⟩
    refine for_it (walk_wkeys (os.map fun p => (p, V.str (sw [])))) (fun i σ H6 => (∃ v7, σ = [some (.ref o), some (.str (sw z)), some (.ref a), some (.ref d), v4, v5, some (.ref e), v7]) ∧ H6 = upd H5 e (.frz ob (.dK (kdl (os.map fun p => (p, V.str (sw [])))))) ∧ ∀ q ∈ os.take i, loneB us q = false)
      ⟨⟨_, rfl⟩, rfl, fun q hq => by rw [List.take_zero] at hq; cases hq⟩ (fun i σ H6 _ ⟨_, h, _⟩ => by rw [h]; exact upd_same) (fun i x σ H6 H7 hi ⟨⟨v7, e1⟩, e2, nl⟩ y => ?_) (fun σ H6 ⟨⟨v7, e1⟩, e2, nl⟩ => ?_)
    · obtain ⟨rfl, hx⟩ := y
      subst e1
      rw [List.getElem?_map, kd_map] at hx
      obtain ⟨p, hp, rfl⟩ := Option.map_eq_some_iff.mp hx
      have hpm := (hosm p).mp (List.mem_of_getElem? hp)
      have hl : (sw p).length ≤ sizeLine := by rw [sw_len, sizeLine_eq]; have := (wdl p hpm).1; omega
      have nl2 : loneB us p = false → ∀ q ∈ os.take (i + 1), loneB us q = false := fun h q hq => by
        rw [List.take_add_one, hp] at hq
        rcases List.mem_append.mp hq with hq | hq
        · exact nl q hq
        · rw [List.mem_singleton.mp hq]
          exact h
      refine ⟨_, rfl, rfl, _, rfl, ?_⟩
      rw [mt_eq, sw_dec]
      refine ite2 (fun hne => ?_) (fun hne => ?_)
      · have hne : p ≠ [] := by simpa using hne
        refine ⟨_, rfl, _, rfl, _, rfl, _, rfl, hl, _, rfl, d, valV (kdl l) (.inr (sw p.dropLast)), rfl, ?_, _, rfl, ?_⟩
        · show DGet _ d (.str (cutS (sw p) none (some (-1)))) _
          rw [cut_init]
          exact dget_kdl (by rw [e2, upd_ne hde]; exact b5.dd) _
        · rw [hdn]
          by_cases hpar : p.dropLast ∈ us.map (·.1)
          · rw [decide_eq_true hpar]
            exact iteF ⟨⟨_, rfl⟩, e2, nl2 (decide_eq_false fun k => k.2 hpar)⟩
          · rw [decide_eq_false hpar]
            refine iteT ?_
            have hlo : loneP z us = some p := by
              unfold loneP
              rw [← od]
              have e6 : os = os.take i ++ p :: os.drop (i + 1) := by
                have := (List.getElem?_eq_some_iff.mp hp)
                rw [← this.2, List.getElem_cons_drop, List.take_append_drop]
              rw [e6, List.find?_append, List.find?_eq_none.mpr (fun q hq => by rw [nl q hq]; decide)]
              rw [List.find?_cons_of_pos (show loneB us p = true from decide_eq_true ⟨hne, hpar⟩)]
              rfl
            have sk := b5.smk.frz (u := .frz ob (.dK (kdl (os.map fun p => (p, V.str (sw [])))))) fe b5.ee
            rw [← e2] at sk
            have io : H7 o = some (.ins T.c_Tree dx []) := by rw [e2, upd_ne (ne_of b5.ins b5.ee (by intro z; cases z))]; exact b5.ins
            exact mk_raise (vs := [.str (sw p)]) (zs := []) (fun b hb => sk.fr0 io hb) T.x_Lone.raises (fun R h => ⟨_, rfl, h⟩) (fun R h => h) rfl rfl rfl fun H' d' s' n e' => q4 us p ⟨rfl, hnd⟩ hlo H' d' (sk.same s') e'
      · have hne : p = [] := by simpa using hne
        exact iteF ⟨⟨_, rfl⟩, e2, nl2 (decide_eq_false fun k => k.1 hne)⟩
    rw [List.take_of_length_le (by simp)] at nl
    have hnone : loneP z us = none := by
      unfold loneP
      rw [← od]
      exact List.find?_eq_none.mpr fun q hq => by rw [nl q hq]; decide
    have gu := good_of hnone (by omega) (by omega) hnd hok
    subst e1
    refine ⟨by rw [e2]; exact upd_same, ?_⟩
    have b6 := b5.same (unlock (v := .frz ob (.dK (kdl (os.map fun p => (p, V.str (sw []))))))  b5.ee)
    rw [← e2] at b6
    generalize upd H6 e (.dK (kdl (os.map fun p => (p, V.str (sw []))))) = H7 at b6
    -- the ways
    refine ⟨_, rfl, e, _, rfl, b6.ee, fun bl hbl => ⟨bl, rfl, ⟨_, SqL.of upd_same⟩, ?_⟩⟩
    have b7 := b6.same (same_upd (o := .lst ((kdl (os.map fun p => (p, V.str (sw [])))).map fun kv => kV kv.1)) hbl)
    have hbl7 : (upd H7 bl (.lst ((kdl (os.map fun p => (p, V.str (sw [])))).map fun kv => kV kv.1))) bl = some (.lst (wsV os)) := by rw [upd_same, kdl_keys, kd_map]
    generalize upd H7 bl (.lst ((kdl (os.map fun p => (p, V.str (sw [])))).map fun kv => kV kv.1)) = H8 at b7 hbl7
    have hble : bl ≠ e := ne_of hbl7 b7.ee (by intro z; cases z)
    refine for_it (walk_list (K := K) (a := bl) (xs := wsV os)) (fun i σ H9 => (∃ v7, σ = [some (.ref o), some (.str (sw z)), some (.ref a), some (.ref d), v4, v5, some (.ref e), v7]) ∧ H9 bl = some (.lst (wsV os)) ∧
        Bnd (tabs T) T.c_Tree o dx d e l us (os.map fun p => (p, V.str (sw (kidS (os.take i) p)))) H [] H9)
      ⟨⟨_, rfl⟩, hbl7, b7⟩ (fun i σ H9 _ ⟨_, h, _⟩ => SqL.of h) (fun i x σ H9 H10 hi ⟨⟨v7, e1⟩, hb9, b9⟩ y => ?_) (fun σ H9 ⟨⟨v7, e1⟩, hb9, b9⟩ => ?_)
    · obtain ⟨rfl, hx⟩ := y
      subst e1
      rw [List.getElem?_map] at hx
      obtain ⟨p, hp, rfl⟩ := Option.map_eq_some_iff.mp hx
      have hpm := (hosm p).mp (List.mem_of_getElem? hp)
      have hil := (List.getElem?_eq_some_iff.mp hp).1
      have hl : (sw p).length ≤ sizeLine := by rw [sw_len, sizeLine_eq]; have := (wdl p hpm).1; omega
      have htk : os.take (i + 1) = os.take i ++ [p] := by rw [List.take_add_one, hp]; rfl
      refine ⟨_, rfl, rfl, _, rfl, ?_⟩
      rw [mt_eq, sw_dec]
      by_cases hpe : p = []
      · rw [decide_eq_true hpe]
        refine iteF ⟨⟨_, rfl⟩, hb9, ?_⟩
        have : (os.map fun q => (q, V.str (sw (kidS (os.take (i + 1)) q)))) = os.map fun q => (q, V.str (sw (kidS (os.take i) q))) := List.map_congr_left fun q _ => by
          rw [htk, kidS_step, if_neg (fun h => h.1 hpe)]
        rw [this]
        exact b9
      · rw [decide_eq_false hpe]
        refine iteT ?_
        obtain ⟨c, hc⟩ : ∃ c, p.getLast? = some c := ⟨_, List.getLast?_eq_some_getLast hpe⟩
        have hpar : p.dropLast ∈ os := (hosm _).mpr (gu.par p hpm)
        refine ⟨_, rfl, _, rfl, _, rfl, _, rfl, _, rfl, hl, e, .str (sw (kidS (os.take i) p.dropLast)), rfl, ?_, ?_⟩
        · show DGet _ e (.str (cutS (sw p) none (some (-1)))) _
          rw [cut_init]
          have := dget_kdl b9.ee p.dropLast
          rw [kdl_some (by rw [kd_map]; exact hosn) (List.mem_map.mpr ⟨_, hpar, rfl⟩)] at this
          exact this
        refine ⟨_, rfl, _, rfl, sw p, _, c, rfl, rfl, hl, atW_last hc, _, _, rfl, rfl, ?_, ?_⟩
        · have h1 := kidS_len (os.take i) p.dropLast
          rw [List.length_take] at h1
          rw [sw_len, sizeLine_eq]
          show _ + 1 ≤ _
          omega
        show ∃ H5, DPut _ e (.str (cutS (sw p) none (some (-1)))) _ H5 ∧ _
        rw [cut_init]
        refine ⟨_, dput_kdl b9.ee p.dropLast _ (by rw [List.length_map]; omega), ⟨_, rfl⟩, by rw [upd_ne hble]; exact hb9, ?_⟩
        rw [way_put (g := fun q => .str (sw (kidS (os.take (i + 1)) q))) hpar (fun q => ?_)]
        · exact b9.putE fe hde _
        · show V.str (sw (kidS (os.take (i + 1)) q)) = _
          rw [htk, kidS_step]
          by_cases hq : q = p.dropLast
          · rw [if_pos ⟨hpe, hq.symm⟩, if_pos hq, hc, hq, sw_one, sw_app]
            rfl
          · rw [if_neg (fun h => hq h.2.symm), if_neg hq]
    subst e1
    rw [List.length_map, List.take_of_length_le (Nat.le_refl _)] at b9
    have hway : (os.map fun p => (p, V.str (sw (kidS os p)))) = wayl z os := List.map_congr_left fun p _ => by
      rw [kidS_eq hz.nd (fun q hq => (wdl q ((hosm q).mp hq)).2) hosn (by rw [od]; exact ordW_sorted _ _)]
    rw [hway] at b9
    -- the fields
    refine ⟨_, rfl, _, rfl, o, T.c_Tree, dx, [], rfl, b9.ins, T.cl_Tree, T.na_Tree_letters, (by show 0 < 1000; decide), ?_⟩
    have b10 := b9.put (putF "letters" (.str (sw z)) [])
    generalize upd H9 o _ = H10 at b10
    have hval : ∀ p ∈ os, ∃ v, valV (kdl l) (.inr (sw p)) = some v := fun p hp => by
      have := hdn p
      rw [decide_eq_true ((hosm p).mp hp)] at this
      exact Option.isSome_iff_exists.mp this
    have hwl : (wayl z os).length ≤ 40000 := by rw [List.length_map]; omega
    refine lc_lock (k := 6) (j := 7) (l := wayl z os) b10.ee rfl hwl (fun p => (valV (kdl l) (.inr (sw p))).getD .non) (fun _ => rfl) (fun p hp H11 R kp k1 => ?_) fun H11 D1 s11 hD1n hD1 => ?_
    · rw [wayl_fst] at hp
      obtain ⟨v, hv⟩ := hval p hp
      rw [hv] at k1
      have := dget_kdl (kp _ _ b10.dd hde) p
      rw [hv] at this
      exact ⟨_, rfl, _, rfl, d, v, rfl, this, k1⟩
    rw [wayl_fst] at hD1
    have b11 := b10.same s11
    refine ⟨D1, _, rfl, .inl ⟨SqL.of hD1, fun t ht => ?_⟩⟩
    have s12 := same_upd (o := .tup (os.map fun p => (valV (kdl l) (.inr (sw p))).getD .non)) ht
    have b12 := b11.same s12
    have ht12 : (upd H11 t (.tup (os.map fun p => (valV (kdl l) (.inr (sw p))).getD .non))) t = some (.tup (os.map fun p => (valV (kdl l) (.inr (sw p))).getD .non)) := upd_same
    generalize upd H11 t (.tup (os.map fun p => (valV (kdl l) (.inr (sw p))).getD .non)) = H12 at b12 ht12
    refine ⟨_, rfl, o, T.c_Tree, dx, _, rfl, b12.ins, T.cl_Tree, T.na_Tree_rows, (by show 1 < 1000; decide), ?_⟩
    have b13 := b12.put (putF "rows" (.ref t) (putF "letters" (.str (sw z)) []))
    have ht13 : (upd H12 o (.ins T.c_Tree dx (putF "rows" (.ref t) (putF "letters" (.str (sw z)) [])))) t = some (.tup (os.map fun p => (valV (kdl l) (.inr (sw p))).getD .non)) := by
      rw [upd_ne (ne_of ht12 b12.ins (by intro z; cases z))]; exact ht12
    generalize upd H12 o (.ins T.c_Tree dx (putF "rows" (.ref t) (putF "letters" (.str (sw z)) []))) = H13 at b13 ht13
    have hrl : (xs.length : Int) = (rs.length : Int) := by rw [hxl, pm.length_eq]
    have ha13 : SqA H13 a xs := ha.imp (fun h => b13.smk.1 _ _ h (by intro ps z; cases z) (ne_of h ho (by intro z; cases z))) fun h => b13.smk.1 _ _ h (by intro ps z; cases z) (ne_of h ho (by intro z; cases z))
    refine ⟨_, rfl, a, xs, rfl, RwE.sqA ha13, _, rfl, o, T.c_Tree, dx, _, rfl, b13.ins, T.cl_Tree, T.na_Tree_size, (by show 2 < 1000; decide), ?_⟩
    rw [hrl]
    have b14 := b13.put (putF "size" (.int (rs.length : Int)) (putF "rows" (.ref t) (putF "letters" (.str (sw z)) [])))
    have ht14 : (upd H13 o (.ins T.c_Tree dx (putF "size" (.int (rs.length : Int)) (putF "rows" (.ref t) (putF "letters" (.str (sw z)) []))))) t = some (.tup (os.map fun p => (valV (kdl l) (.inr (sw p))).getD .non)) := by
      rw [upd_ne (ne_of ht13 b13.ins (by intro z; cases z))]; exact ht13
    generalize upd H13 o (.ins T.c_Tree dx (putF "size" (.int (rs.length : Int)) (putF "rows" (.ref t) (putF "letters" (.str (sw z)) [])))) = H14 at b14 ht14
    refine lc_lock (k := 6) (j := 7) (l := wayl z os) b14.ee rfl hwl (fun p => .int (p.length : Int)) (fun _ => rfl) (fun p hp H15 R kp k1 => ?_) fun H15 D2 s15 hD2n hD2 => ?_
    · rw [wayl_fst] at hp
      have h200 := (wdl p ((hosm p).mp hp)).1
      refine ⟨_, rfl, _, rfl, by rw [sw_len, sizeLine_eq]; omega, ?_⟩
      rw [sw_len]
      exact k1
    rw [wayl_fst] at hD2
    have b15 := b14.same s15
    have ht15 := s15 _ _ ht14
    have hlens : os.map (fun p => V.int (p.length : Int)) = (os.map fun p => (p.length : Int)).map V.int := by rw [List.map_map]; rfl
    rw [hlens] at hD2
    refine ⟨D2, _, rfl, SqL.of hD2, by rw [List.length_map]; omega, fun m hm hmx => ?_⟩
    refine ⟨_, rfl, o, T.c_Tree, dx, _, rfl, b15.ins, T.cl_Tree, T.na_Tree_height, (by show 3 < 1000; decide), ?_⟩
    have b16 := b15.put (putF "height" (.int m) (putF "size" (.int (rs.length : Int)) (putF "rows" (.ref t) (putF "letters" (.str (sw z)) []))))
    have ht16 : (upd H15 o (.ins T.c_Tree dx (putF "height" (.int m) (putF "size" (.int (rs.length : Int)) (putF "rows" (.ref t) (putF "letters" (.str (sw z)) [])))))) t = some (.tup (os.map fun p => (valV (kdl l) (.inr (sw p))).getD .non)) := by
      rw [upd_ne (ne_of ht15 b15.ins (by intro z; cases z))]; exact ht15
    generalize upd H15 o (.ins T.c_Tree dx (putF "height" (.int m) (putF "size" (.int (rs.length : Int)) (putF "rows" (.ref t) (putF "letters" (.str (sw z)) []))))) = H16 at b16 ht16
    refine ⟨_, rfl, _, rfl, o, T.c_Tree, dx, _, rfl, b16.ins, T.cl_Tree, T.na_Tree_triples, (by show 4 < 1000; decide), ?_⟩
    have b17 := b16.put (putF "triples" (.ref d) (putF "height" (.int m) (putF "size" (.int (rs.length : Int)) (putF "rows" (.ref t) (putF "letters" (.str (sw z)) [])))))
    have ht17 : (upd H16 o (.ins T.c_Tree dx (putF "triples" (.ref d) (putF "height" (.int m) (putF "size" (.int (rs.length : Int)) (putF "rows" (.ref t) (putF "letters" (.str (sw z)) []))))))) t = some (.tup (os.map fun p => (valV (kdl l) (.inr (sw p))).getD .non)) := by
      rw [upd_ne (ne_of ht16 b16.ins (by intro z; cases z))]; exact ht16
    generalize upd H16 o (.ins T.c_Tree dx (putF "triples" (.ref d) (putF "height" (.int m) (putF "size" (.int (rs.length : Int)) (putF "rows" (.ref t) (putF "letters" (.str (sw z)) [])))))) = H17 at b17 ht17
    refine ⟨_, rfl, _, rfl, o, T.c_Tree, dx, _, rfl, b17.ins, T.cl_Tree, T.na_Tree_ways, (by show 5 < 1000; decide), ?_⟩
    have b18 := b17.put (treeFs z t d e (rs.length : Int) m)
    have ht18 : (upd H17 o (.ins T.c_Tree dx (treeFs z t d e (rs.length : Int) m))) t = some (.tup (os.map fun p => (valV (kdl l) (.inr (sw p))).getD .non)) := by
      rw [upd_ne (ne_of ht17 b17.ins (by intro z; cases z))]; exact ht17
    show Q .non (upd H17 o (.ins T.c_Tree dx (treeFs z t d e (rs.length : Int) m)))
    generalize upd H17 o (.ins T.c_Tree dx (treeFs z t d e (rs.length : Int) m)) = H18 at b18 ht18
    have hln : rs.map (fun r => (r.1.length : Int)) = os.map fun p => (p.length : Int) := by rw [← hos, List.map_map]; rfl
    refine q5 us rs ⟨rfl, hnd⟩ hnone pm (by rw [hos]; exact od) _ b18.smk ⟨?_, fun r hr c hc => small_lt (hz.sm c ((gu.ok r (pm.mem_iff.mpr hr)).wd c hc)), dx, t, d, e, m, _, us, b18.ins, ht18, ?_, ⟨l, b18.dd, b18.tri⟩, pm, ?_, by rw [hln]; exact hm, by rw [hln]; exact hmx⟩
    · rw [hos]
      exact (hosm _).mpr gu.root
    · rw [← hos]
      refine rows_pr fun r hr => ?_
      obtain ⟨v, h1, h2⟩ := tri_get b18.tri (pm.mem_iff.mpr hr)
      rw [kdl_some (by rw [hfst]; exact gu.nd) h1]
      exact h2
    · rw [hos]
      exact b18.ee
end
end Toy
set_option Elab.async false
set_option linter.all false
set_option maxRecDepth 100000
set_option maxHeartbeats 4000000
namespace Toy
open PySem L2 Sh ShL LamX NdefX
/-! ### rows as data -/
def oD : Option Int → PyData
  | none => .none
  | some i => .int i
def rwD (r : Rw) : PyData := .tuple [.str (sw r.1), oD r.2.1, .bool r.2.2]
theorem oV_dp {K : PySem.W.Frag} {H : Hp} (o : Option Int) : Dp K H (oV o) (oD o) := by
  cases o
  · exact .non
  · exact .int _
theorem RwT.dp {K : PySem.W.Frag} {H : Hp} {v : V} {r : Rw} (h : RwT H v r) : Dp K H v (rwD r) := by
  obtain ⟨a, rfl, h⟩ := h
  exact .tup (SqT.of h) (.cons (.str _) (.cons (oV_dp _) (.cons (.bl _) .nil)))
theorem rws_dp {K : PySem.W.Frag} {H : Hp} : ∀ {vs : List V} {rs : List Rw}, Paired (RwT H) vs rs → DpAll K H vs (rs.map rwD)
  | _, _, .nil => .nil
  | _, _, .cons h t => .cons h.dp (rws_dp t)
theorem sw_beq (a b : Wd) : (sw a == sw b) = decide (a = b) := by
  by_cases h : a = b
  · rw [h]; simp
  · rw [decide_eq_false h]
    exact beq_eq_false_iff_ne.mpr fun z => h (sw_inj z)
theorem oD_eqv (o o' : Option Int) : PyData.eqv (oD o) (oD o') = decide (o = o') := by
  cases o <;> cases o' <;> simp [oD, PyData.eqv] <;> first | rfl | exact Bool.eq_iff_iff.mpr (by simp)
theorem rwD_eqv (r r' : Rw) : PyData.eqv (rwD r) (rwD r') = decide (r = r') := by
  obtain ⟨p, o, f⟩ := r
  obtain ⟨p', o', f'⟩ := r'
  unfold rwD
  simp only [PyData.eqv, PyData.eqvAll, oD_eqv, sw_beq]
  rw [Bool.eq_iff_iff]
  simp [Prod.mk.injEq]
theorem rws_eqv : ∀ rs rs' : List Rw, PyData.eqvAll (rs.map rwD) (rs'.map rwD) = decide (rs = rs')
  | [], [] => by simp [PyData.eqvAll]
  | [], _ :: _ => by simp [PyData.eqvAll]
  | _ :: _, [] => by simp [PyData.eqvAll]
  | r :: rs, r' :: rs' => by
    simp only [List.map_cons, PyData.eqvAll, rwD_eqv, rws_eqv rs rs']
    rw [Bool.eq_iff_iff]
    simp
theorem oD_lay (o : Option Int) : PyData.canLay0 (oD o) = true ∧ PyData.depth (oD o) = 0 := by
  cases o <;> exact ⟨rfl, rfl⟩
theorem str_ok {p : Wd} (h : ∀ c ∈ p, c < 200) : PyData.strOk (sw p) = true := by
  show p.toArray.all (· < 0x110000) = true
  rw [← Array.all_toList, List.all_eq_true]
  exact fun c hc => decide_eq_true (Nat.lt_trans (h c hc) (by decide))
theorem rwD_lay (r : Rw) (hr : ∀ c ∈ r.1, c < 200) : PyData.canLay0 (rwD r) = true ∧ PyData.depth (rwD r) ≤ 1 := by
  unfold rwD
  constructor
  · simp only [PyData.canLay0, PyData.canLayAll0, (oD_lay r.2.1).1, str_ok hr]
    rfl
  · simp only [PyData.depth, PyData.depthAll, (oD_lay r.2.1).2]
    omega
theorem rws_lay : ∀ rs : List Rw, (∀ r ∈ rs, ∀ c ∈ r.1, c < 200) → PyData.canLayAll0 (rs.map rwD) = true ∧ PyData.depthAll (rs.map rwD) ≤ 2
  | [], _ => ⟨rfl, by simp [PyData.depthAll]⟩
  | r :: rs, h => by
    obtain ⟨h1, h2⟩ := rws_lay rs fun x hx => h x (List.mem_cons_of_mem _ hx)
    obtain ⟨h3, h4⟩ := rwD_lay r (h r List.mem_cons_self)
    refine ⟨by simp only [List.map_cons, PyData.canLayAll0, h1, h3]; rfl, ?_⟩
    simp only [List.map_cons, PyData.depthAll]
    omega
theorem shaped_of {d : PyData} (h1 : PyData.canLay0 d = true) (h2 : PyData.depth d ≤ 64) : SeqAt.shaped d = true := by
  show (PyData.canLay0 d && decide (PyData.depth d ≤ 64)) = true
  rw [Bool.and_eq_true]
  exact ⟨h1, decide_eq_true h2⟩
theorem rws_shaped {rs : List Rw} (h : ∀ r ∈ rs, ∀ c ∈ r.1, c < 200) : SeqAt.shaped (.tuple (rs.map rwD)) = true := by
  obtain ⟨h1, h2⟩ := rws_lay rs h
  exact shaped_of (by simp only [PyData.canLay0]; exact h1) (by simp only [PyData.depth]; omega)
theorem rwD_shaped {r : Rw} (h : ∀ c ∈ r.1, c < 200) : SeqAt.shaped (rwD r) = true := shaped_of (rwD_lay r h).1 (by have := (rwD_lay r h).2; omega)
/-! ### what is looked for -/
/-- v is the text p, or no text -/
def PlV (K : PySem.W.Frag) (H : Hp) (v : V) : Option Wd → Prop
  | some p => v = .str (sw p)
  | none => ∃ t, TyX K H v t ∧ PySem.W.kitOne K t (.type "str") = some false
def inR (p : Option Wd) (rs : List Rw) : Bool := match p with
  | some p => decide (p ∈ rs.map (·.1))
  | none => false
def spEq (C : Addr) : Sp := fun vs H Q _ => ∃ x y z z' rs rs', vs = [.ref x, .ref y] ∧ TreeAt C H x z rs ∧ TreeAt C H y z' rs' ∧ Q (.bl (decide (z = z' ∧ rs = rs'))) H
def spHas (K : PySem.W.Frag) (C : Addr) : Sp := fun vs H Q _ => ∃ x z rs v p, vs = [.ref x, v] ∧ TreeAt C H x z rs ∧ (rs.map (·.1)).Nodup ∧ PlV K H v p ∧ Q (.bl (inR p rs)) H
def spRowOf (K : PySem.W.Frag) (C N : Addr) : Sp := fun vs H Q E => ∃ x z rs v p, vs = [.ref x, v] ∧ TreeAt C H x z rs ∧ (rs.map (·.1)).Nodup ∧ PlV K H v p ∧ (∀ r ∈ rs, p = some r.1 → ∀ u, RwT H u r → Q u H) ∧
  (inR p rs = false → ∀ H' d, Same H H' → H d = none → H' d = some (exd d [("place", v)]) → E (.ref N) (some d) H')
def spBelow (K : PySem.W.Frag) (C N : Addr) : Sp := fun vs H Q E => ∃ x z rs v p, vs = [.ref x, v] ∧ TreeAt C H x z rs ∧ (rs.map (·.1)).Nodup ∧ PlV K H v p ∧ (∀ q ∈ rs.map (·.1), p = some q → Q (.str (sw (kids z (rs.map (·.1)) q))) H) ∧
  (inR p rs = false → ∀ H' d, Same H H' → H d = none → H' d = some (exd d [("place", v)]) → E (.ref N) (some d) H')
def spValueOf (K : PySem.W.Frag) (C : Addr) : Sp := fun vs H Q _ => ∃ x z rs v p, vs = [.ref x, v] ∧ TreeAt C H x z rs ∧ (rs.map (·.1)).Nodup ∧ PlV K H v p ∧ (∀ r ∈ rs, p = some r.1 → Q (oV r.2.1) H) ∧ (inR p rs = false → Q .non H)
def kept (rs : List Rw) : List Rw := rs.filter fun r => r.2.1.isSome
def KvT (H : Hp) (v : V) (r : Rw) : Prop := ∃ b, v = .ref b ∧ H b = some (.tup [.str (sw r.1), oV r.2.1])
theorem KvT.same {H H' : Hp} {v : V} {r : Rw} (s : Same H H') (h : KvT H v r) : KvT H' v r := let ⟨a, e, h⟩ := h; ⟨a, e, s _ _ h⟩
def spItems (C : Addr) : Sp := fun vs H Q _ => ∃ x z rs, vs = [.ref x] ∧ TreeAt C H x z rs ∧ rs.length ≤ 2000 ∧ ∀ H' t vs, Same H H' → H' t = some (.tup vs) → Paired (KvT H') vs (kept rs) → Q (.ref t) H'
section
variable {P : Program} {w : World} {K : PySem.W.Frag} {mg : Str → Option Value} {base : Heap}
theorem ok_Tree_has (T : Tx P K mg) (B : Bx T base) : FnOk P w K mg base CX0 1 T.a_Tree_has T.fd_Tree_has ["self", "place"] (spHas K T.c_Tree) := by
  refine okT T.F_Tree_has sc_Tree_has (fun vs H Q E h => ?_) (fun cdv A outer s H vs Q E hcd hr h => ?_)
  · obtain ⟨x, z, rs, v, p, rfl, _⟩ := h
    rfl
  have hu := hu_of hr
  have hu65 := hu65_of hr
  obtain ⟨x, z, rs, v, p, rfl, hx, nd, hv, q⟩ := h
  obtain ⟨dx, t, d, e, m, ws, us, x1, x2, x3, ⟨l, l1, l2⟩, x5, _⟩ := hx.ex
  refine ⟨_, (pss_one (ps_ret (pe_and (pe_callB call_isi (by rfl) T.b_isinstance (by decide +kernel) (pa_cons (pv 1) (pa_cons (pe_bltn (v := .ty "str") (by rfl) T.b_str (by decide +kernel) rfl) pa_nil))) (pe_one (pe_cmp (pc_din hu (pv 1) (pe_fld (pv 0) rfl))))))), ?_⟩
  have nl : (l.map (·.1)).Nodup := by rw [tri_fst l2]; exact (x5.map _).nodup_iff.mpr nd
  cases p with
  | none =>
    obtain ⟨ty, h1, h2⟩ := hv
    exact ⟨_, rfl, _, _, _, _, _, rfl, .ty _, h1, h2, _, rfl, iteF q⟩
  | some p =>
    cases (show v = .str (sw p) from hv)
    refine ⟨_, rfl, _, _, _, _, _, rfl, .ty _, .base (.str _), isi_s, _, rfl, iteT ?_⟩
    refine ⟨_, rfl, _, rfl, x, _, dx, _, _, rfl, x1, T.cl_Tree, T.na_Tree_triples, tf_triples, d, valV (kdl l) (.inr (sw p)), rfl, dget_kdl l1 p, ?_⟩
    rw [kdl_is nl, tri_fst l2]
    have e1 : decide (p ∈ us.map (·.1)) = inR (some p) rs := decide_eq_decide.mpr (x5.map _).mem_iff
    rw [e1]
    exact q
end
end Toy
set_option Elab.async false
set_option linter.all false
set_option maxRecDepth 100000
set_option maxHeartbeats 4000000
namespace Toy
open PySem L2 Sh ShL LamX NdefX
theorem tri_row {H : Hp} {l : List (Wd × V)} {us : List Rw} {r : Rw} (nd : (us.map (·.1)).Nodup) (h : Paired (fun (q : Wd × V) r => q.1 = r.1 ∧ RwT H q.2 r) l us) (m : r ∈ us) : ∃ v, valV (kdl l) (.inr (sw r.1)) = some v ∧ RwT H v r := by
  obtain ⟨v, h1, h2⟩ := tri_get h m
  exact ⟨v, kdl_some (by rw [tri_fst h]; exact nd) h1, h2⟩
theorem inR_of {p : Wd} {rs : List Rw} (h : inR (some p) rs = true) : ∃ r ∈ rs, p = r.1 := by
  obtain ⟨r, hr, e⟩ := List.mem_map.mp (of_decide_eq_true h)
  exact ⟨r, hr, e.symm⟩
section
variable {P : Program} {w : World} {K : PySem.W.Frag} {mg : Str → Option Value} {base : Heap}
theorem ok_Tree_value_of (T : Tx P K mg) (B : Bx T base) : FnOk P w K mg base CX0 2 T.a_Tree_value_of T.fd_Tree_value_of ["self", "word"] (spValueOf K T.c_Tree) := by
  refine okT T.F_Tree_value_of sc_Tree_value_of (fun vs H Q E h => ?_) (fun cdv A outer s H vs Q E hcd hr h => ?_)
  · obtain ⟨x, z, rs, v, p, rfl, _⟩ := h
    rfl
  have hu := hu_of hr
  have hu65 := hu65_of hr
  obtain ⟨x, z, rs, v, p, rfl, hx, nd, hv, q1, q2⟩ := h
  obtain ⟨dx, t, d, e, m, ws, us, x1, x2, x3, ⟨l, l1, l2⟩, x5, _⟩ := hx.ex
  refine ⟨_, (pss_one (ps_ret (pe_ifExp (pt_val (pe_meth (pv 0) T.cl_Tree T.me_Tree_has (ok_Tree_has (w := w) T B) (hr.mono (by decide)) T.bi_Tree_has .nil pass0 (pa_cons (pv 1) pa_nil))) (pe_ix ix_tup (pe_dget hu (pe_fld (pv 0) rfl) (pv 1) (fun _ _ => rfl)) pe_int (fun _ _ => rfl)) pe_non))), ?_⟩
  refine ⟨_, rfl, x, dx, _, rfl, x1, tf_no (by decide +kernel), _, rfl, x, z, rs, v, p, rfl, hx, nd, hv, _, rfl, ?_⟩
  cases hb : inR p rs with
  | false => exact iteF (q2 hb)
  | true =>
    refine iteT ?_
    cases p with
    | none => cases hb
    | some p =>
      obtain ⟨r, hr, rfl⟩ := inR_of hb
      cases (show v = .str (sw r.1) from hv)
      have nu : (us.map (·.1)).Nodup := (x5.map _).nodup_iff.mpr nd
      obtain ⟨u, h1, a, rfl, h2⟩ := tri_row nu l2 (x5.mem_iff.mpr hr)
      have g := dget_kdl l1 r.1
      rw [h1] at g
      exact ⟨_, rfl, x, _, dx, _, _, rfl, x1, T.cl_Tree, T.na_Tree_triples, tf_triples, _, rfl, d, _, rfl, g, a, _, _, _, rfl, rfl, SqT.of h2, atI_nat (j := 1) rfl, q1 r hr rfl⟩
end
end Toy
set_option Elab.async false
set_option linter.all false
set_option maxRecDepth 100000
set_option maxHeartbeats 4000000
namespace Toy
open PySem L2 Sh ShL LamX NdefX
/-! ### plans, cells, sums: the data -/
inductive Go where | clash | kept | bare | base
  deriving DecidableEq
inductive Al where | take | clash
  deriving DecidableEq
inductive Un where | clash | one | other
  deriving DecidableEq
inductive Oc where | none | tree | rule | words | clash | right | one | other | on
  deriving DecidableEq
def Go.s : Go → Str
  | .clash => "clash" | .kept => "kept" | .bare => "bare" | .base => "base"
def Al.s : Al → Str
  | .take => "take" | .clash => "clash"
def Un.s : Un → Str
  | .clash => "clash" | .one => "one" | .other => "other"
def Oc.s : Oc → Str
  | .none => "none" | .tree => "tree" | .rule => "rule" | .words => "words" | .clash => "clash" | .right => "right" | .one => "one" | .other => "other" | .on => "on"
theorem go_eq (a b : Go) : decide (V.str a.s = V.str b.s) = decide (a = b) := by cases a <;> cases b <;> decide +kernel
theorem al_eq (a b : Al) : decide (V.str a.s = V.str b.s) = decide (a = b) := by cases a <;> cases b <;> decide +kernel
theorem un_eq (a b : Un) : decide (V.str a.s = V.str b.s) = decide (a = b) := by cases a <;> cases b <;> decide +kernel
theorem oc_eq (a b : Oc) : decide (V.str a.s = V.str b.s) = decide (a = b) := by cases a <;> cases b <;> decide +kernel
abbrev OI := Option Int
theorem ov_inj {a b : OI} (h : oV a = oV b) : a = b := by
  cases a <;> cases b <;> simp_all [oV]
theorem ov_eq (a b : OI) : decide (oV a = oV b) = decide (a = b) := by
  by_cases h : a = b
  · subst h; simp
  · have : ¬ oV a = oV b := fun e => h (ov_inj e)
    simp [h, this]
theorem ov_scal (a b : OI) : scal (oV a) (oV b) = true := by cases a <;> cases b <;> rfl
theorem ov_non (a : OI) : decide (oV a = V.non) = decide (a = none) := by cases a <;> simp [oV]
abbrev Cl := OI × Bool
/-- a cell, or a missing one -/
def IsC (H : Hp) (v : V) : Option Cl → Prop
  | none => v = .non
  | some c => ∃ t, v = .ref t ∧ H t = some (.tup [oV c.1, .bl c.2])
theorem IsC.same {H H' : Hp} {v : V} {c : Option Cl} (s : Same H H') (h : IsC H v c) : IsC H' v c := by
  cases c with
  | none => exact h
  | some k =>
    obtain ⟨t, rfl, e⟩ := h
    exact ⟨t, rfl, s _ _ e⟩
theorem IsC.non {H : Hp} {v : V} {c : Option Cl} (h : IsC H v c) : decide (v = V.non) = decide (c = none) := by
  cases c with
  | none => cases (show v = .non from h); rfl
  | some k =>
    obtain ⟨t, rfl, e⟩ := h
    simp
def ovD : OI → PyData
  | none => .none
  | some i => .int i
def clD : Option Cl → PyData
  | none => .none
  | some c => .tuple [ovD c.1, .bool c.2]
theorem ov_dp {K : PySem.W.Frag} {H : Hp} (a : OI) : Dp K H (oV a) (ovD a) := by
  cases a with
  | none => exact .non
  | some i => exact .int i
theorem IsC.dp {K : PySem.W.Frag} {H : Hp} {v : V} {c : Option Cl} (h : IsC H v c) : Dp K H v (clD c) := by
  cases c with
  | none => cases (show v = .non from h); exact .non
  | some k =>
    obtain ⟨t, rfl, e⟩ := h
    exact .tup (SqT.of e) (.cons (ov_dp _) (.cons (.bl _) .nil))
theorem ovD_eqv (a b : OI) : PyData.eqv (ovD a) (ovD b) = decide (a = b) := by
  cases a <;> cases b <;> simp [ovD, PyData.eqv, Bool.beq_eq_decide_eq]
theorem clD_eqv (a b : Option Cl) : PyData.eqv (clD a) (clD b) = decide (a = b) := by
  cases a with
  | none => cases b with
    | none => simp [clD, PyData.eqv]
    | some d => simp [clD, PyData.eqv]
  | some c => cases b with
    | none => simp [clD, PyData.eqv]
    | some d =>
      obtain ⟨c1, c2⟩ := c
      obtain ⟨d1, d2⟩ := d
      simp only [clD, PyData.eqv, PyData.eqvAll, ovD_eqv]
      by_cases h : c1 = d1 <;> cases c2 <;> cases d2 <;> simp [h]
theorem ovD_lay (a : OI) : (ovD a).canLay0 = true ∧ (ovD a).depth = 0 := by cases a <;> exact ⟨rfl, rfl⟩
theorem clD_shaped (c : Option Cl) : SeqAt.shaped (clD c) = true := by
  cases c with
  | none => rfl
  | some k =>
    obtain ⟨k1, k2⟩ := k
    cases k1 <;> rfl
/-! flags: by root, kept, children -/
abbrev Fl := Bool → Bool → Int → Bool
def keys12 : List (Bool × Bool × Int) := [(true, true, 0), (true, true, 1), (true, true, 2), (true, false, 0), (true, false, 1), (true, false, 2), (false, true, 0), (false, true, 1), (false, true, 2), (false, false, 0), (false, false, 1), (false, false, 2)]
def nk3 (k : Bool × Bool × Int) : NestedKey := .tup [.num (if k.1 = true then 1 else 0), .num (if k.2.1 = true then 1 else 0), .num k.2.2]
def kv12 (f : Fl) : List (NestedKey × V) := keys12.map fun k => (nk3 k, .bl (f k.1 k.2.1 k.2.2))
theorem nk3_inj {a b : Bool × Bool × Int} (h : nk3 a = nk3 b) : a = b := by
  obtain ⟨a1, a2, a3⟩ := a
  obtain ⟨b1, b2, b3⟩ := b
  simp only [nk3, NestedKey.tup.injEq, List.cons.injEq, NestedKey.num.injEq] at h
  obtain ⟨h1, h2, h3, _⟩ := h
  cases a1 <;> cases a2 <;> cases b1 <;> cases b2 <;> simp_all
theorem val_map (f : Fl) : ∀ (l : List (Bool × Bool × Int)) (k : Bool × Bool × Int), k ∈ l → valV (l.map fun k => (nk3 k, V.bl (f k.1 k.2.1 k.2.2))) (nk3 k) = some (.bl (f k.1 k.2.1 k.2.2))
  | a :: l, k, h => by
    rw [List.map_cons]
    by_cases e : a = k
    · subst e
      exact valV_pos rfl
    · rw [valV_neg (fun z => e (nk3_inj z))]
      exact val_map f l k (by rcases List.mem_cons.mp h with rfl | h; exact absurd rfl e; exact h)
theorem mem12 {r k : Bool} {n : Int} (h0 : 0 ≤ n) (h2 : n ≤ 2) : (r, k, n) ∈ keys12 := by
  have : n = 0 ∨ n = 1 ∨ n = 2 := by omega
  rcases this with rfl | rfl | rfl <;> cases r <;> cases k <;> decide
theorem val12 (f : Fl) {r k : Bool} {n : Int} (h0 : 0 ≤ n) (h2 : n ≤ 2) : valV (kv12 f) (nk3 (r, k, n)) = some (.bl (f r k n)) := val_map f keys12 (r, k, n) (mem12 h0 h2)
theorem key3 {K : PySem.W.Frag} {H : Hp} {b : Addr} {r k : Bool} {n : Int} (h : SqT K H b [.bl r, .bl k, .int n]) : KeyAt K H (nk3 (r, k, n)) b := ⟨_, _, h, .cons (nkn_leaf (v := .bl r) rfl) (.cons (nkn_leaf (v := .bl k) rfl) (.cons (nkn_leaf (v := .int n) rfl) .nil)), rfl⟩
structure Pl where
  go : Go
  al : Al
  un : Un
  ti : Bool
  fl : Option Fl
end Toy
set_option Elab.async false
set_option linter.all false
set_option maxRecDepth 100000
set_option maxHeartbeats 4000000
namespace Toy
open PySem L2 Sh ShL LamX NdefX
theorem iteD {c A B : Prop} [Decidable c] (hA : c → A) (hB : ¬ c → B) : if decide c = true then A else B := ite2 (fun h => hA (of_decide_eq_true h)) fun h => hB fun z => h (decide_eq_true z)
theorem iteN {c A B : Prop} [Decidable c] (hA : ¬ c → A) (hB : c → B) : if (!decide c) = true then A else B := by
  by_cases h : c
  · rw [decide_eq_true h]
    exact iteF (hB h)
  · rw [decide_eq_false h]
    exact iteT (hA h)
theorem IsC.iff {H : Hp} {v : V} {c : Option Cl} (h : IsC H v c) : v = V.non ↔ c = none := by
  have := h.non
  simpa using this
theorem ov_iff (a : OI) : oV a = V.non ↔ a = none := by cases a <;> simp [oV]
theorem oveq_iff (a b : OI) : oV a = oV b ↔ a = b := ⟨ov_inj, fun h => by rw [h]⟩
/-! ### Plan -/
def pflds (pl : Pl) (v : V) : List (Str × V) := putF "by_kind" v (putF "tidy" (.bl pl.ti) (putF "unlike" (.str pl.un.s) (putF "alike" (.str pl.al.s) (putF "gone" (.str pl.go.s) []))))
theorem pf_kind (pl : Pl) (v : V) : (pflds pl v).lookup ("by_kind" : Str) = some v := by
  unfold pflds
  rw [lookup_putF, if_pos rfl]
theorem pf_tidy (pl : Pl) (v : V) : (pflds pl v).lookup ("tidy" : Str) = some (.bl pl.ti) := by
  unfold pflds
  rw [lookup_putF, if_neg (by decide +kernel), lookup_putF, if_pos rfl]
theorem pf_unlike (pl : Pl) (v : V) : (pflds pl v).lookup ("unlike" : Str) = some (.str pl.un.s) := by
  unfold pflds
  rw [lookup_putF, if_neg (by decide +kernel), lookup_putF, if_neg (by decide +kernel), lookup_putF, if_pos rfl]
theorem pf_alike (pl : Pl) (v : V) : (pflds pl v).lookup ("alike" : Str) = some (.str pl.al.s) := by
  unfold pflds
  rw [lookup_putF, if_neg (by decide +kernel), lookup_putF, if_neg (by decide +kernel), lookup_putF, if_neg (by decide +kernel), lookup_putF, if_pos rfl]
theorem pf_gone (pl : Pl) (v : V) : (pflds pl v).lookup ("gone" : Str) = some (.str pl.go.s) := by
  unfold pflds
  rw [lookup_putF, if_neg (by decide +kernel), lookup_putF, if_neg (by decide +kernel), lookup_putF, if_neg (by decide +kernel), lookup_putF, if_neg (by decide +kernel), lookup_putF, if_pos rfl]
def FlAt (P : Program) (w : World) (K : PySem.W.Frag) (H : Hp) (v : V) : Option Fl → Prop
  | none => v = .non
  | some f => ∃ d, v = .ref d ∧ DN P w K H d (kv12 f)
def PlanAt (P : Program) (w : World) (K : PySem.W.Frag) (C : Addr) (H : Hp) (p : Addr) (pl : Pl) : Prop := ∃ dx v, H p = some (.ins C dx (pflds pl v)) ∧ FlAt P w K H v pl.fl
theorem DN.same {P : Program} {w : World} {K : PySem.W.Frag} {H H' : Hp} {a : Addr} {kvs : List (NestedKey × V)} (s : Same H H') (h : DN P w K H a kvs) : DN P w K H' a kvs := by
  obtain ⟨xs, h1, h2, h3⟩ := h
  refine ⟨xs, s _ _ h1, h2, fun x hx => (h3 x hx).mono fun c u r => ?_⟩
  rcases r with r | ⟨o, r⟩
  · exact .inl (s _ _ r)
  · exact .inr ⟨o, s _ _ r⟩
theorem FlAt.same {P : Program} {w : World} {K : PySem.W.Frag} {H H' : Hp} {v : V} {f : Option Fl} (s : Same H H') (h : FlAt P w K H v f) : FlAt P w K H' v f := by
  cases f with
  | none => exact h
  | some f =>
    obtain ⟨d, e, h⟩ := h
    exact ⟨d, e, DN.same s h⟩
theorem PlanAt.same {P : Program} {w : World} {K : PySem.W.Frag} {C : Addr} {H H' : Hp} {p : Addr} {pl : Pl} (s : Same H H') (h : PlanAt P w K C H p pl) : PlanAt P w K C H' p pl := by
  obtain ⟨dx, v, h1, h2⟩ := h
  exact ⟨dx, v, s _ _ h1, h2.same s⟩
/-! ### way_of -/
def wayM (pl : Pl) (b o t : OI) : Oc :=
  if o = b then (if t = none then .none else .other)
  else if t = b then (if o = none then .none else .one)
  else if o = none ∧ t = none then (if pl.al = .clash then .clash else .none)
  else if b ≠ none ∧ (o = none ∨ t = none) then (if pl.go = .clash then .clash else if pl.go = .kept then (if o = none then .other else .one) else .on)
  else .on
def spWay (P : Program) (w : World) (K : PySem.W.Frag) (C : Addr) : Sp := fun vs H Q _ => ∃ (p : Addr) (pl : Pl) (b o t : OI), vs = [.ref p, oV b, oV o, oV t] ∧ PlanAt P w K C H p pl ∧ Q (.str (wayM pl b o t).s) H
theorem al_clash (a : Al) : V.str a.s = V.str "clash" ↔ a = .clash := by cases a <;> decide +kernel
theorem go_clash (a : Go) : V.str a.s = V.str "clash" ↔ a = .clash := by cases a <;> decide +kernel
theorem go_kept (a : Go) : V.str a.s = V.str "kept" ↔ a = .kept := by cases a <;> decide +kernel
theorem go_base (a : Go) : V.str a.s = V.str "base" ↔ a = .base := by cases a <;> decide +kernel
theorem un_clash (a : Un) : V.str a.s = V.str "clash" ↔ a = .clash := by cases a <;> decide +kernel
theorem un_one (a : Un) : V.str a.s = V.str "one" ↔ a = .one := by cases a <;> decide +kernel
section
variable {P : Program} {w : World} {K : PySem.W.Frag} {mg : Str → Option Value} {base : Heap}
theorem ok_way_of (T : Tx P K mg) (B : Bx T base) : FnOk P w K mg base CX0 1 T.a_way_of T.fd_way_of ["plan", "base", "one", "other"] (spWay P w K T.c_Plan) := by
  refine okT T.F_way_of sc_way_of (fun vs H Q E h => ?_) (fun cdv A outer s H vs Q E hcd hr h => ?_)
  · obtain ⟨p, pl, b, o, t, rfl, _⟩ := h
    rfl
  obtain ⟨p, pl, b, o, t, rfl, ⟨dx, fv, hp, _⟩, q⟩ := h
  have hu := hu_of hr
  have hu65 := hu65_of hr
  refine ⟨_, (pss_cons (ps_if (pt_cmpR op_eq (pv 2) (pv 1) (nomark _))
 (pss_one (ps_ret (pe_ifExp (pt_cmpR op_isN (pv 3) pe_non (nomark _)) pe_str pe_str)))
 pss_nil)
 (pss_cons (ps_if (pt_cmpR op_eq (pv 3) (pv 1) (nomark _))
 (pss_one (ps_ret (pe_ifExp (pt_cmpR op_isN (pv 2) pe_non (nomark _)) pe_str pe_str)))
 pss_nil)
 (pss_cons (ps_if (PW.pt (pw_and (pt_cmpR op_isN (pv 2) pe_non (nomark _)) (pw_and1 (pt_cmpR op_isN (pv 3) pe_non (nomark _)))))
 (pss_one (ps_ret (pe_ifExp (pt_cmpR op_eq (pe_fld (pv 0) rfl) pe_str (nomark _)) pe_str pe_str)))
 pss_nil)
 (pss_cons (ps_if (PW.pt (pw_and (pt_cmpR op_notN (pv 1) pe_non (nomark _)) (pw_and1 (PW.pt (pw_or (pt_cmpR op_isN (pv 2) pe_non (nomark _)) (pw_or1 (pt_cmpR op_isN (pv 3) pe_non (nomark _))))))))
 (pss_cons (ps_if (pt_cmpR op_eq (pe_fld (pv 0) rfl) pe_str (nomark _))
 (pss_one (ps_ret pe_str))
 pss_nil)
 (pss_one (ps_if (pt_cmpR op_eq (pe_fld (pv 0) rfl) pe_str (nomark _))
 (pss_one (ps_ret (pe_ifExp (pt_cmpR op_isN (pv 2) pe_non (nomark _)) pe_str pe_str)))
 pss_nil)))
 pss_nil)
 (pss_one (ps_ret pe_str)))))), ?_⟩
  refine ⟨_, rfl, _, rfl, ov_scal _ _, _, rfl, iteD (fun h1 => ?_) (fun h1 => ?_)⟩
  · rw [oveq_iff] at h1
    refine ⟨_, rfl, rfl, _, rfl, iteD (fun h2 => ?_) (fun h2 => ?_)⟩
    · rw [ov_iff] at h2
      rw [show wayM pl b o t = .none by simp [wayM, h1, h2]] at q
      exact q
    · rw [ov_iff] at h2
      rw [show wayM pl b o t = .other by simp [wayM, h1, h2]] at q
      exact q
  rw [oveq_iff] at h1
  refine ⟨_, rfl, _, rfl, ov_scal _ _, _, rfl, iteD (fun h2 => ?_) (fun h2 => ?_)⟩
  · rw [oveq_iff] at h2
    refine ⟨_, rfl, rfl, _, rfl, iteD (fun h3 => ?_) (fun h3 => ?_)⟩
    · rw [ov_iff] at h3
      rw [show wayM pl b o t = .none by unfold wayM; rw [if_neg h1, if_pos h2]; simp [h3]] at q
      exact q
    · rw [ov_iff] at h3
      rw [show wayM pl b o t = .one by unfold wayM; rw [if_neg h1, if_pos h2]; simp [h3]] at q
      exact q
  rw [oveq_iff] at h2
  -- one is None and other is None
  refine ⟨_, rfl, rfl, _, rfl, iteD (fun h3 => ?_) (fun h3 => ?_)⟩
  · rw [ov_iff] at h3
    refine ⟨_, rfl, rfl, _, rfl, iteD (fun h4 => ?_) (fun h4 => ?_)⟩
    · rw [ov_iff] at h4
      refine ⟨_, rfl, p, T.c_Plan, dx, _, _, rfl, hp, T.cl_Plan, T.na_Plan_alike, pf_alike _ _, rfl, _, rfl, iteD (fun h5 => ?_) (fun h5 => ?_)⟩
      · rw [al_clash] at h5
        rw [show wayM pl b o t = .clash by simp_all [wayM]] at q
        exact q
      · rw [al_clash] at h5
        rw [show wayM pl b o t = .none by simp_all [wayM]] at q
        exact q
    · rw [ov_iff] at h4
      -- base is not None and (..)
      refine nextS ?_
      dsimp only
      refine ⟨_, rfl, rfl, _, rfl, iteN (fun h5 => ?_) (fun h5 => ?_)⟩
      · rw [ov_iff] at h5
        refine ⟨_, rfl, rfl, _, rfl, iteD (fun h6 => ?_) (fun h6 => absurd ((ov_iff o).mpr h3) h6)⟩
        refine iteT ?_
        refine ⟨_, rfl, p, T.c_Plan, dx, _, _, rfl, hp, T.cl_Plan, T.na_Plan_gone, pf_gone _ _, rfl, _, rfl, iteD (fun h7 => ?_) (fun h7 => ?_)⟩
        · rw [go_clash] at h7
          rw [show wayM pl b o t = .clash by simp_all [wayM]] at q
          exact q
        · rw [go_clash] at h7
          refine ⟨_, rfl, p, T.c_Plan, dx, _, _, rfl, hp, T.cl_Plan, T.na_Plan_gone, pf_gone _ _, rfl, _, rfl, iteD (fun h8 => ?_) (fun h8 => ?_)⟩
          · rw [go_kept] at h8
            refine ⟨_, rfl, rfl, _, rfl, iteD (fun h9 => ?_) (fun h9 => absurd ((ov_iff o).mpr h3) h9)⟩
            rw [show wayM pl b o t = .other by simp_all [wayM]] at q
            exact q
          · rw [go_kept] at h8
            rw [show wayM pl b o t = .on by simp_all [wayM]] at q
            exact q
      · rw [ov_iff] at h5
        exact absurd (h3.trans h5.symm) h1
  · rw [ov_iff] at h3
    refine iteF ?_
    refine nextS ?_
    dsimp only
    refine ⟨_, rfl, rfl, _, rfl, iteN (fun h5 => ?_) (fun h5 => ?_)⟩
    · rw [ov_iff] at h5
      refine ⟨_, rfl, rfl, _, rfl, iteD (fun h6 => absurd ((ov_iff o).mp h6) h3) (fun h6 => ?_)⟩
      refine ⟨_, rfl, rfl, _, rfl, iteD (fun h7 => ?_) (fun h7 => ?_)⟩
      · rw [ov_iff] at h7
        refine ⟨_, rfl, p, T.c_Plan, dx, _, _, rfl, hp, T.cl_Plan, T.na_Plan_gone, pf_gone _ _, rfl, _, rfl, iteD (fun h8 => ?_) (fun h8 => ?_)⟩
        · rw [go_clash] at h8
          rw [show wayM pl b o t = .clash by simp_all [wayM]] at q
          exact q
        · rw [go_clash] at h8
          refine ⟨_, rfl, p, T.c_Plan, dx, _, _, rfl, hp, T.cl_Plan, T.na_Plan_gone, pf_gone _ _, rfl, _, rfl, iteD (fun h9 => ?_) (fun h9 => ?_)⟩
          · rw [go_kept] at h9
            refine ⟨_, rfl, rfl, _, rfl, iteD (fun h10 => absurd ((ov_iff o).mp h10) h3) (fun h10 => ?_)⟩
            rw [show wayM pl b o t = .one by simp_all [wayM]] at q
            exact q
          · rw [go_kept] at h9
            rw [show wayM pl b o t = .on by simp_all [wayM]] at q
            exact q
      · rw [ov_iff] at h7
        rw [show wayM pl b o t = .on by simp_all [wayM]] at q
        exact q
    · rw [ov_iff] at h5
      refine iteF ?_
      rw [show wayM pl b o t = .on by simp_all [wayM]] at q
      exact q
end
/-! ### cells_met, cell_merged, due_values -/
theorem andV {ta tb : TE} {σ : L2.St} {H : Hp} {Q : VK} {a b : Bool} (h1 : ∀ R : VK, R (.bl a) H → ta σ H R) (h2 : ∀ R : VK, R (.bl b) H → tb σ H R) (q : Q (.bl (a && b)) H) : tAndV ta tb σ H Q := by
  refine h1 _ ⟨a, rfl, ?_⟩
  cases a
  · exact iteF q
  · exact iteT (h2 _ q)
theorem orV {ta tb : TE} {σ : L2.St} {H : Hp} {Q : VK} {a b : Bool} (h1 : ∀ R : VK, R (.bl a) H → ta σ H R) (h2 : ∀ R : VK, R (.bl b) H → tb σ H R) (q : Q (.bl (a || b)) H) : tOrV ta tb σ H Q := by
  refine h1 _ ⟨a, rfl, ?_⟩
  cases a
  · exact iteF (h2 _ q)
  · exact iteT q
def metB (c : Option Cl) : Cl := c.getD (none, false)
def metG (pl : Pl) (c : Option Cl) : Cl := if pl.go = .base then metB c else (none, false)
def spMet (P : Program) (w : World) (K : PySem.W.Frag) (C : Addr) : Sp := fun vs H Q _ => ∃ (p a : Addr) (pl : Pl) (v0 v1 v2 : V) (c0 c1 c2 : Option Cl), vs = [.ref p, .ref a] ∧ PlanAt P w K C H p pl ∧ H a = some (.lst [v0, v1, v2]) ∧ IsC H v0 c0 ∧ IsC H v1 c1 ∧ IsC H v2 c2 ∧
  ∀ (H' : Hp) (l : Addr) (u0 u1 u2 : V), Same H H' → H' l = some (.lst [u0, u1, u2]) → IsC H' u0 (some (metB c0)) → IsC H' u1 (some (c1.getD (metG pl c0))) → IsC H' u2 (some (c2.getD (metG pl c0))) → Q (.ref l) H'
section
variable {P : Program} {w : World} {K : PySem.W.Frag} {mg : Str → Option Value} {base : Heap}
theorem ok_cells_met (T : Tx P K mg) (B : Bx T base) : FnOk P w K mg base CX0 1 T.a_cells_met T.fd_cells_met ["plan", "cells"] (spMet P w K T.c_Plan) := by
  refine okT T.F_cells_met sc_cells_met (fun vs H Q E h => ?_) (fun cdv A outer s H vs Q E hcd hr h => ?_)
  · obtain ⟨p, a, pl, v0, v1, v2, c0, c1, c2, rfl, _⟩ := h
    rfl
  obtain ⟨p, a, pl, v0, v1, v2, c0, c1, c2, rfl, hP, ha, i0, i1, i2, q⟩ := h
  have hu := hu_of hr
  have hu65 := hu65_of hr
  refine ⟨_, (pss_cons (ps_set (i := 2) sc_cells_met.nd rfl (by first | exact Or.inl rfl | exact Or.inr rfl) (pe_ifExp (pt_cmpR op_isN (pe_ix ix_list (pv 1) pe_int (fun _ _ => rfl)) pe_non (nomark _)) (pe_tup (pa_cons pe_non (pa_cons pe_bl pa_nil))) (pe_ix ix_list (pv 1) pe_int (fun _ _ => rfl))))
 (pss_cons (ps_set (i := 3) sc_cells_met.nd rfl (by first | exact Or.inl rfl | exact Or.inr rfl) (pe_ifExp (pt_cmpR op_eq (pe_fld (pv 0) rfl) pe_str (nomark _)) (pv 2) (pe_tup (pa_cons pe_non (pa_cons pe_bl pa_nil)))))
 (pss_one (ps_ret (pe_lst (pa_cons (pv 2) (pa_cons (pe_ifExp (pt_cmpR op_isN (pe_ix ix_list (pv 1) pe_int (fun _ _ => rfl)) pe_non (nomark _)) (pv 3) (pe_ix ix_list (pv 1) pe_int (fun _ _ => rfl))) (pa_cons (pe_ifExp (pt_cmpR op_isN (pe_ix ix_list (pv 1) pe_int (fun _ _ => rfl)) pe_non (nomark _)) (pv 3) (pe_ix ix_list (pv 1) pe_int (fun _ _ => rfl))) pa_nil)))))))), ?_⟩
  refine asgS (fun v H1 => Same H H1 ∧ IsC H1 v (some (metB c0))) (fun R hR => ?_) ?_
  · refine ⟨_, rfl, a, _, _, _, rfl, rfl, SqL.of ha, rfl, rfl, _, rfl, iteD (fun h1 => ?_) (fun h1 => ?_)⟩
    · rw [i0.iff] at h1
      subst h1
      exact ⟨by show 2 ≤ sizeLine; decide, fun t ht => hR _ _ ⟨same_upd ht, t, rfl, upd_same⟩⟩
    · rw [i0.iff] at h1
      obtain ⟨c, rfl⟩ := Option.ne_none_iff_exists'.mp h1
      exact ⟨_, rfl, a, _, _, _, rfl, rfl, SqL.of ha, rfl, hR _ _ ⟨Same.refl _, i0⟩⟩
  rintro b H1 ⟨s1, ib⟩
  obtain ⟨dx, fv, hp, _⟩ := hP.same s1
  refine asgS (fun v H2 => Same H1 H2 ∧ IsC H2 v (some (metG pl c0))) (fun R hR => ?_) ?_
  · refine ⟨_, rfl, p, T.c_Plan, dx, _, _, rfl, hp, T.cl_Plan, T.na_Plan_gone, pf_gone _ _, rfl, _, rfl, iteD (fun h1 => ?_) (fun h1 => ?_)⟩
    · rw [go_base] at h1
      refine ⟨_, rfl, hR _ _ ⟨Same.refl _, ?_⟩⟩
      rw [show metG pl c0 = metB c0 by simp [metG, h1]]
      exact ib
    · rw [go_base] at h1
      refine ⟨by show 2 ≤ sizeLine; decide, fun t ht => hR _ _ ⟨same_upd ht, ?_⟩⟩
      rw [show metG pl c0 = (none, false) by simp [metG, h1]]
      exact ⟨t, rfl, upd_same⟩
  rintro g H2 ⟨s2, ig⟩
  have s3 := s1.trans s2
  have ha2 := s3 _ _ ha
  -- the list
  have fin : ∀ u1 u2, IsC H2 u1 (some (c1.getD (metG pl c0))) → IsC H2 u2 (some (c2.getD (metG pl c0))) → ∀ l, H2 l = none → Q (.ref l) (upd H2 l (.lst [b, u1, u2])) := fun u1 u2 k1 k2 l hl =>
    have s4 := same_upd (o := .lst [b, u1, u2]) hl
    q _ l b u1 u2 (s3.trans s4) upd_same ((ib.same s2).same s4) (k1.same s4) (k2.same s4)
  refine ⟨_, rfl, _, rfl, a, _, _, _, rfl, rfl, SqL.of ha2, rfl, rfl, _, rfl, iteD (fun h1 => ?_) (fun h1 => ?_)⟩
  all_goals rw [i1.iff] at h1
  · subst h1
    refine ⟨_, rfl, _, rfl, a, _, _, _, rfl, rfl, SqL.of ha2, rfl, rfl, _, rfl, iteD (fun h2 => ?_) (fun h2 => ?_)⟩
    all_goals rw [i2.iff] at h2
    · subst h2
      exact ⟨_, rfl, by show 3 ≤ sizeLine; decide, fin _ _ ig ig⟩
    · obtain ⟨c, rfl⟩ := Option.ne_none_iff_exists'.mp h2
      exact ⟨_, rfl, a, _, _, _, rfl, rfl, SqL.of ha2, rfl, by show 3 ≤ sizeLine; decide, fin _ _ ig (i2.same s3)⟩
  · obtain ⟨c, rfl⟩ := Option.ne_none_iff_exists'.mp h1
    refine ⟨_, rfl, a, _, _, _, rfl, rfl, SqL.of ha2, rfl, _, rfl, a, _, _, _, rfl, rfl, SqL.of ha2, rfl, rfl, _, rfl, iteD (fun h2 => ?_) (fun h2 => ?_)⟩
    all_goals rw [i2.iff] at h2
    · subst h2
      exact ⟨_, rfl, by show 3 ≤ sizeLine; decide, fin _ _ (i1.same s3) ig⟩
    · obtain ⟨c', rfl⟩ := Option.ne_none_iff_exists'.mp h2
      exact ⟨_, rfl, a, _, _, _, rfl, rfl, SqL.of ha2, rfl, by show 3 ≤ sizeLine; decide, fin _ _ (i1.same s3) (i2.same s3)⟩
def mergedM (pl : Pl) (b o t : Cl) : Option Cl :=
  if o.1 = b.1 then some (t.1, if o.2 = b.2 then t.2 else o.2)
  else if t.1 = b.1 then some (o.1, if o.2 = b.2 then t.2 else o.2)
  else if o.1 = t.1 then (if pl.al = .clash then none else some (o.1, if o.2 = b.2 then t.2 else o.2))
  else if pl.un = .clash then none
  else some (if pl.un = .one then o.1 else t.1, if o.2 = b.2 then t.2 else o.2)
def spMerged (P : Program) (w : World) (K : PySem.W.Frag) (C : Addr) : Sp := fun vs H Q _ => ∃ (p l : Addr) (pl : Pl) (u0 u1 u2 : V) (b o t : Cl), vs = [.ref p, .ref l] ∧ PlanAt P w K C H p pl ∧ H l = some (.lst [u0, u1, u2]) ∧ IsC H u0 (some b) ∧ IsC H u1 (some o) ∧ IsC H u2 (some t) ∧
  ∀ (H' : Hp) (v : V), Same H H' → IsC H' v (mergedM pl b o t) → Q v H'
theorem bl_eq (a b : Bool) : V.bl a = V.bl b ↔ a = b := by cases a <;> cases b <;> simp
theorem ok_cell_merged (T : Tx P K mg) (B : Bx T base) : FnOk P w K mg base CX0 1 T.a_cell_merged T.fd_cell_merged ["plan", "cells"] (spMerged P w K T.c_Plan) := by
  refine okT T.F_cell_merged sc_cell_merged (fun vs H Q E h => ?_) (fun cdv A outer s H vs Q E hcd hr h => ?_)
  · obtain ⟨p, l, pl, u0, u1, u2, b, o, t, rfl, _⟩ := h
    rfl
  obtain ⟨p, l, pl, u0, u1, u2, b, o, t, rfl, ⟨dx, fv, hp, _⟩, hl, ⟨t0, rfl, e0⟩, ⟨t1, rfl, e1⟩, ⟨t2, rfl, e2⟩, q⟩ := h
  have hu := hu_of hr
  have hu65 := hu65_of hr
  refine ⟨_, (pss_cons (ps_asg (pv 1) (pg_unl rfl (pgs_cons (pg_name (i := 2) sc_cell_merged.nd rfl (by first | exact Or.inl rfl | exact Or.inr rfl)) (pgs_cons (pg_name (i := 3) sc_cell_merged.nd rfl (by first | exact Or.inl rfl | exact Or.inr rfl)) (pgs_cons (pg_name (i := 4) sc_cell_merged.nd rfl (by first | exact Or.inl rfl | exact Or.inr rfl)) pgs_nil)))))
 (pss_cons (ps_set (i := 5) sc_cell_merged.nd rfl (by first | exact Or.inl rfl | exact Or.inr rfl) (pe_ifExp (pt_cmpR op_eq (pe_ix ix_tup (pv 3) pe_int (fun _ _ => rfl)) (pe_ix ix_tup (pv 2) pe_int (fun _ _ => rfl)) (nomark _)) (pe_ix ix_tup (pv 4) pe_int (fun _ _ => rfl)) (pe_ix ix_tup (pv 3) pe_int (fun _ _ => rfl))))
 (pss_cons (ps_if (pt_cmpR op_eq (pe_ix ix_tup (pv 3) pe_int (fun _ _ => rfl)) (pe_ix ix_tup (pv 2) pe_int (fun _ _ => rfl)) (nomark _))
 (pss_one (ps_ret (pe_tup (pa_cons (pe_ix ix_tup (pv 4) pe_int (fun _ _ => rfl)) (pa_cons (pv 5) pa_nil)))))
 pss_nil)
 (pss_cons (ps_if (pt_cmpR op_eq (pe_ix ix_tup (pv 4) pe_int (fun _ _ => rfl)) (pe_ix ix_tup (pv 2) pe_int (fun _ _ => rfl)) (nomark _))
 (pss_one (ps_ret (pe_tup (pa_cons (pe_ix ix_tup (pv 3) pe_int (fun _ _ => rfl)) (pa_cons (pv 5) pa_nil)))))
 pss_nil)
 (pss_cons (ps_if (pt_cmpR op_eq (pe_ix ix_tup (pv 3) pe_int (fun _ _ => rfl)) (pe_ix ix_tup (pv 4) pe_int (fun _ _ => rfl)) (nomark _))
 (pss_one (ps_ret (pe_ifExp (pt_cmpR op_eq (pe_fld (pv 0) rfl) pe_str (nomark _)) pe_non (pe_tup (pa_cons (pe_ix ix_tup (pv 3) pe_int (fun _ _ => rfl)) (pa_cons (pv 5) pa_nil))))))
 pss_nil)
 (pss_cons (ps_if (pt_cmpR op_eq (pe_fld (pv 0) rfl) pe_str (nomark _))
 (pss_one (ps_ret pe_non))
 pss_nil)
 (pss_one (ps_ret (pe_tup (pa_cons (pe_ifExp (pt_cmpR op_eq (pe_fld (pv 0) rfl) pe_str (nomark _)) (pe_ix ix_tup (pv 3) pe_int (fun _ _ => rfl)) (pe_ix ix_tup (pv 4) pe_int (fun _ _ => rfl))) (pa_cons (pv 5) pa_nil))))))))))), ?_⟩
  refine ⟨_, rfl, l, _, rfl, SqL.of hl, rfl, _, _, rfl, _, _, rfl, _, _, rfl, rfl, ?_⟩
  dsimp only
  refine asgS (fun v H1 => H1 = H ∧ v = .bl (if o.2 = b.2 then t.2 else o.2)) (fun R hR => ?_) ?_
  · refine ⟨_, rfl, t1, _, _, _, rfl, rfl, SqT.of e1, rfl, _, rfl, t0, _, _, _, rfl, rfl, SqT.of e0, rfl, rfl, _, rfl, iteD (fun h1 => ?_) (fun h1 => ?_)⟩
    · rw [bl_eq] at h1
      exact ⟨_, rfl, t2, _, _, _, rfl, rfl, SqT.of e2, rfl, hR _ _ ⟨rfl, by rw [if_pos h1]⟩⟩
    · rw [bl_eq] at h1
      exact ⟨_, rfl, t1, _, _, _, rfl, rfl, SqT.of e1, rfl, hR _ _ ⟨rfl, by rw [if_neg h1]⟩⟩
  rintro v H1 ⟨rfl, rfl⟩
  have fin : ∀ (x : OI) (f : Bool), some (x, f) = mergedM pl b o t → ∀ r, H1 r = none → Q (.ref r) (upd H1 r (.tup [oV x, .bl f])) := fun x f e r hr' => q _ _ (same_upd hr') (by rw [← e]; exact ⟨r, rfl, upd_same⟩)
  generalize hf : (if o.2 = b.2 then t.2 else o.2) = f
  have sz : 2 ≤ sizeLine := by decide
  refine ⟨_, rfl, t1, _, _, _, rfl, rfl, SqT.of e1, rfl, _, rfl, t0, _, _, _, rfl, rfl, SqT.of e0, rfl, ov_scal _ _, _, rfl, iteD (fun h1 => ?_) (fun h1 => ?_)⟩
  all_goals rw [oveq_iff] at h1
  · exact ⟨_, rfl, t2, _, _, _, rfl, rfl, SqT.of e2, rfl, _, rfl, sz, fin _ _ (by unfold mergedM; rw [if_pos h1, hf])⟩
  refine ⟨_, rfl, t2, _, _, _, rfl, rfl, SqT.of e2, rfl, _, rfl, t0, _, _, _, rfl, rfl, SqT.of e0, rfl, ov_scal _ _, _, rfl, iteD (fun h2 => ?_) (fun h2 => ?_)⟩
  all_goals rw [oveq_iff] at h2
  · exact ⟨_, rfl, t1, _, _, _, rfl, rfl, SqT.of e1, rfl, _, rfl, sz, fin _ _ (by unfold mergedM; rw [if_neg h1, if_pos h2, hf])⟩
  refine ⟨_, rfl, t1, _, _, _, rfl, rfl, SqT.of e1, rfl, _, rfl, t2, _, _, _, rfl, rfl, SqT.of e2, rfl, ov_scal _ _, _, rfl, iteD (fun h3 => ?_) (fun h3 => ?_)⟩
  all_goals rw [oveq_iff] at h3
  · refine ⟨_, rfl, p, T.c_Plan, dx, _, _, rfl, hp, T.cl_Plan, T.na_Plan_alike, pf_alike _ _, rfl, _, rfl, iteD (fun h4 => ?_) (fun h4 => ?_)⟩
    all_goals rw [al_clash] at h4
    · exact q _ _ (Same.refl _) (by rw [show mergedM pl b o t = none by unfold mergedM; rw [if_neg h1, if_neg h2, if_pos h3, if_pos h4]]; rfl)
    · exact ⟨_, rfl, t1, _, _, _, rfl, rfl, SqT.of e1, rfl, _, rfl, sz, fin _ _ (by unfold mergedM; rw [if_neg h1, if_neg h2, if_pos h3, if_neg h4, hf])⟩
  refine ⟨_, rfl, p, T.c_Plan, dx, _, _, rfl, hp, T.cl_Plan, T.na_Plan_unlike, pf_unlike _ _, rfl, _, rfl, iteD (fun h4 => ?_) (fun h4 => ?_)⟩
  all_goals rw [un_clash] at h4
  · exact q _ _ (Same.refl _) (by rw [show mergedM pl b o t = none by unfold mergedM; rw [if_neg h1, if_neg h2, if_neg h3, if_pos h4]]; rfl)
  refine ⟨_, rfl, p, T.c_Plan, dx, _, _, rfl, hp, T.cl_Plan, T.na_Plan_unlike, pf_unlike _ _, rfl, _, rfl, iteD (fun h5 => ?_) (fun h5 => ?_)⟩
  all_goals rw [un_one] at h5
  · exact ⟨_, rfl, t1, _, _, _, rfl, rfl, SqT.of e1, rfl, _, rfl, sz, fin _ _ (by unfold mergedM; rw [if_neg h1, if_neg h2, if_neg h3, if_neg h4, if_pos h5, hf])⟩
  · exact ⟨_, rfl, t2, _, _, _, rfl, rfl, SqT.of e2, rfl, _, rfl, sz, fin _ _ (by unfold mergedM; rw [if_neg h1, if_neg h2, if_neg h3, if_neg h4, if_neg h5, hf])⟩
def dueM (b o t : OI) : List OI := if o = b then [t] else if t = b ∨ o = t then [o] else [o, t]
def spDue : Sp := fun vs H Q _ => ∃ (b o t : OI), vs = [oV b, oV o, oV t] ∧ ∀ (H' : Hp) (a : Addr), Same H H' → H' a = some (.tup ((dueM b o t).map oV)) → Q (.ref a) H'
theorem ok_due_values (T : Tx P K mg) (B : Bx T base) : FnOk P w K mg base CX0 1 T.a_due_values T.fd_due_values ["was", "left", "right"] spDue := by
  refine okT T.F_due_values sc_due_values (fun vs H Q E h => ?_) (fun cdv A outer s H vs Q E hcd hr h => ?_)
  · obtain ⟨b, o, t, rfl, _⟩ := h
    rfl
  obtain ⟨b, o, t, rfl, q⟩ := h
  have hu := hu_of hr
  have hu65 := hu65_of hr
  refine ⟨_, (pss_cons (ps_if (pt_cmpR op_eq (pv 1) (pv 0) (nomark _))
 (pss_one (ps_ret (pe_tup (pa_cons (pv 2) pa_nil))))
 pss_nil)
 (pss_cons (ps_if (PW.pt (pw_or (pt_cmpR op_eq (pv 2) (pv 0) (nomark _)) (pw_or1 (pt_cmpR op_eq (pv 1) (pv 2) (nomark _)))))
 (pss_one (ps_ret (pe_tup (pa_cons (pv 1) pa_nil))))
 pss_nil)
 (pss_one (ps_ret (pe_tup (pa_cons (pv 1) (pa_cons (pv 2) pa_nil))))))), ?_⟩
  have fin : ∀ l, dueM b o t = l → ∀ r, H r = none → Q (.ref r) (upd H r (.tup (l.map oV))) := fun l e r hr' => q _ _ (same_upd hr') (by rw [e, upd_same])
  refine ⟨_, rfl, _, rfl, ov_scal _ _, _, rfl, iteD (fun h1 => ?_) (fun h1 => ?_)⟩
  all_goals rw [oveq_iff] at h1
  · exact ⟨_, rfl, by show 1 ≤ sizeLine; decide, fin [t] (by unfold dueM; rw [if_pos h1])⟩
  refine ⟨_, rfl, _, rfl, ov_scal _ _, _, rfl, iteD (fun h2 => ?_) (fun h2 => ?_)⟩
  all_goals rw [oveq_iff] at h2
  · refine iteT ?_
    exact ⟨_, rfl, by show 1 ≤ sizeLine; decide, fin [o] (by unfold dueM; rw [if_neg h1, if_pos (.inl h2)])⟩
  refine ⟨_, rfl, _, rfl, ov_scal _ _, _, rfl, iteD (fun h3 => ?_) (fun h3 => ?_)⟩
  all_goals rw [oveq_iff] at h3
  · exact ⟨_, rfl, by show 1 ≤ sizeLine; decide, fin [o] (by unfold dueM; rw [if_neg h1, if_pos (.inr h3)])⟩
  · exact ⟨_, rfl, _, rfl, by show 2 ≤ sizeLine; decide, fin [o, t] (by unfold dueM; rw [if_neg h1, if_neg (fun z => z.elim h2 h3)])⟩
end
end Toy
set_option Elab.async false
set_option linter.all false
set_option maxRecDepth 100000
set_option maxHeartbeats 4000000
namespace Toy
open PySem L2 Sh ShL LamX NdefX
/-! ### letters the same, what is due -/
theorem lookup_of {rs : List Rw} (nd : (rs.map (·.1)).Nodup) {r : Rw} (h : r ∈ rs) : rs.lookup r.1 = some r.2 := by
  induction rs with
  | nil => cases h
  | cons q t ih =>
    rw [List.map_cons, List.nodup_cons] at nd
    rw [List.lookup_cons]
    rcases List.mem_cons.mp h with rfl | h
    · simp
    · have ne : r.1 ≠ q.1 := fun e => nd.1 (e ▸ List.mem_map.mpr ⟨r, h, rfl⟩)
      have : (r.1 == q.1) = false := by simpa using ne
      rw [this]
      exact ih nd.2 h
theorem lookup_no {rs : List Rw} {p : Wd} (h : p ∉ rs.map (·.1)) : rs.lookup p = none := by
  induction rs with
  | nil => rfl
  | cons q t ih =>
    rw [List.lookup_cons]
    have ne : p ≠ q.1 := fun e => h (e ▸ List.mem_cons_self)
    have : (p == q.1) = false := by simpa using ne
    rw [this]
    exact ih fun hm => h (List.mem_cons_of_mem _ hm)
theorem lookup_mem {rs : List Rw} {p : Wd} {c : OI × Bool} (h : rs.lookup p = some c) : (p, c) ∈ rs := by
  induction rs with
  | nil => cases h
  | cons q t ih =>
    rw [List.lookup_cons] at h
    by_cases e : p = q.1
    · subst e
      simp at h
      subst h
      exact List.mem_cons_self
    · have : (p == q.1) = false := by simpa using e
      rw [this] at h
      exact List.mem_cons_of_mem _ (ih h)
/-- the value of a word in a tree -/
def valO (rs : List Rw) (p : Option Wd) : OI := p.bind fun p => (rs.lookup p).bind (·.1)
theorem value_q {rs : List Rw} {p : Option Wd} {Q : VK} {H : Hp} (nd : (rs.map (·.1)).Nodup) (q : Q (oV (valO rs p)) H) : (∀ r ∈ rs, p = some r.1 → Q (oV r.2.1) H) ∧ (inR p rs = false → Q .non H) := by
  refine ⟨fun r hr e => ?_, fun h => ?_⟩
  · subst e
    have : valO rs (some r.1) = r.2.1 := by
      unfold valO
      rw [Option.bind_some, lookup_of nd hr]
      rfl
    rw [this] at q
    exact q
  · cases p with
    | none => exact q
    | some p =>
      have hn : p ∉ rs.map (·.1) := of_decide_eq_false h
      have : valO rs (some p) = none := by
        unfold valO
        rw [Option.bind_some, lookup_no hn]
        rfl
      rw [this] at q
      exact q
theorem value_sp {K : PySem.W.Frag} {C x : Addr} {H : Hp} {z : Wd} {rs : List Rw} {v : V} {p : Option Wd} {Q : VK} {E : XK} (h : TreeAt C H x z rs) (nd : (rs.map (·.1)).Nodup) (hv : PlV K H v p) (q : Q (oV (valO rs p)) H) : spValueOf K C [.ref x, v] H Q E :=
  ⟨x, z, rs, v, p, rfl, h, nd, hv, (value_q (Q := Q) nd q).1, (value_q (Q := Q) nd q).2⟩
def spCheck (C : Addr) : Sp := fun vs H Q _ => ∃ (a b c : Addr) (z : Wd) (r1 r2 r3 : List Rw), vs = [.ref a, .ref b, .ref c] ∧ TreeAt C H a z r1 ∧ TreeAt C H b z r2 ∧ TreeAt C H c z r3 ∧ Q .non H
def spDueT (K : PySem.W.Frag) (C : Addr) : Sp := fun vs H Q _ => ∃ (a b c : Addr) (z : Wd) (r1 r2 r3 : List Rw) (v : V) (p : Option Wd), vs = [.ref a, .ref b, .ref c, v] ∧ TreeAt C H a z r1 ∧ TreeAt C H b z r2 ∧ TreeAt C H c z r3 ∧ (r1.map (·.1)).Nodup ∧ (r2.map (·.1)).Nodup ∧ (r3.map (·.1)).Nodup ∧ PlV K H v p ∧
  ∀ (H' : Hp) (t : Addr), Same H H' → H' t = some (.tup ((dueM (valO r1 p) (valO r2 p) (valO r3 p)).map oV)) → Q (.ref t) H'
section
variable {P : Program} {w : World} {K : PySem.W.Frag} {mg : Str → Option Value} {base : Heap}
theorem ok_check_letters (T : Tx P K mg) (B : Bx T base) : FnOk P w K mg base CX0 1 T.a_check_letters T.fd_check_letters ["base", "one", "other"] (spCheck T.c_Tree) := by
  refine okT T.F_check_letters sc_check_letters (fun vs H Q E h => ?_) (fun cdv A outer s H vs Q E hcd hr h => ?_)
  · obtain ⟨a, b, c, z, r1, r2, r3, rfl, _⟩ := h
    rfl
  have hu := hu_of hr
  have hu65 := hu65_of hr
  obtain ⟨a, b, c, z, r1, r2, r3, rfl, h1, h2, h3, q⟩ := h
  obtain ⟨d1, _, _, _, _, _, _, x1, _⟩ := h1.ex
  obtain ⟨d2, _, _, _, _, _, _, x2, _⟩ := h2.ex
  obtain ⟨d3, _, _, _, _, _, _, x3, _⟩ := h3.ex
  refine ⟨_, (pss_one (ps_if (PW.pt (pw_or (pt_cmpR op_ne (pe_fld (pv 1) rfl) (pe_fld (pv 0) rfl) (nomark _)) (pw_or1 (pt_cmpR op_ne (pe_fld (pv 2) rfl) (pe_fld (pv 0) rfl) (nomark _)))))
 (pss_one ps_never)
 pss_nil)), ?_⟩
  refine ⟨_, rfl, b, _, d2, _, _, rfl, x2, T.cl_Tree, T.na_Tree_letters, tf_letters, _, rfl, a, _, d1, _, _, rfl, x1, T.cl_Tree, T.na_Tree_letters, tf_letters, rfl, _, rfl, ?_⟩
  rw [decide_eq_true rfl]
  refine iteF ?_
  refine ⟨_, rfl, c, _, d3, _, _, rfl, x3, T.cl_Tree, T.na_Tree_letters, tf_letters, _, rfl, a, _, d1, _, _, rfl, x1, T.cl_Tree, T.na_Tree_letters, tf_letters, rfl, _, rfl, ?_⟩
  rw [decide_eq_true rfl]
  exact iteF q
theorem ok_due (T : Tx P K mg) (B : Bx T base) : FnOk P w K mg base CX0 3 T.a_due T.fd_due ["base", "one", "other", "word"] (spDueT K T.c_Tree) := by
  refine okT T.F_due sc_due (fun vs H Q E h => ?_) (fun cdv A outer s H vs Q E hcd hr h => ?_)
  · obtain ⟨a, b, c, z, r1, r2, r3, v, p, rfl, _⟩ := h
    rfl
  have hu := hu_of hr
  have hu65 := hu65_of hr
  obtain ⟨a, b, c, z, r1, r2, r3, v, p, rfl, h1, h2, h3, n1, n2, n3, hv, q⟩ := h
  obtain ⟨d1, _, _, _, _, _, _, x1, _⟩ := id h1.ex
  obtain ⟨d2, _, _, _, _, _, _, x2, _⟩ := id h2.ex
  obtain ⟨d3, _, _, _, _, _, _, x3, _⟩ := id h3.ex
  refine ⟨_, (pss_cons (ps_expr (pe_call (ok_check_letters (w := w) T B) (hr.mono (by decide)) (by rfl) T.m_check_letters T.F_check_letters.kp T.bi_check_letters .nil pass0 (pa_cons (pv 0) (pa_cons (pv 1) (pa_cons (pv 2) pa_nil)))))
 (pss_one (ps_ret (pe_call (ok_due_values (w := w) T B) (hr.mono (by decide)) (by rfl) T.m_due_values T.F_due_values.kp T.bi_due_values .nil pass0 (pa_cons (pe_meth (pv 0) T.cl_Tree T.me_Tree_value_of (ok_Tree_value_of (w := w) T B) (hr.mono (by decide)) T.bi_Tree_value_of .nil pass0 (pa_cons (pv 3) pa_nil)) (pa_cons (pe_meth (pv 1) T.cl_Tree T.me_Tree_value_of (ok_Tree_value_of (w := w) T B) (hr.mono (by decide)) T.bi_Tree_value_of .nil pass0 (pa_cons (pv 3) pa_nil)) (pa_cons (pe_meth (pv 2) T.cl_Tree T.me_Tree_value_of (ok_Tree_value_of (w := w) T B) (hr.mono (by decide)) T.bi_Tree_value_of .nil pass0 (pa_cons (pv 3) pa_nil)) pa_nil))))))), ?_⟩
  refine ⟨_, rfl, _, rfl, _, rfl, a, b, c, z, r1, r2, r3, rfl, h1, h2, h3, ?_⟩
  refine ⟨_, rfl, a, d1, _, rfl, x1, tf_no (by decide +kernel), _, rfl, ?_⟩
  dsimp only [tNil, List.cons_append, List.nil_append, List.append_nil]
  refine value_sp h1 n1 hv ?_
  refine ⟨_, rfl, b, d2, _, rfl, x2, tf_no (by decide +kernel), _, rfl, ?_⟩
  dsimp only [tNil, List.cons_append, List.nil_append, List.append_nil]
  refine value_sp h2 n2 hv ?_
  refine ⟨_, rfl, c, d3, _, rfl, x3, tf_no (by decide +kernel), _, rfl, ?_⟩
  dsimp only [tNil, List.cons_append, List.nil_append, List.append_nil]
  refine value_sp h3 n3 hv ?_
  exact ⟨_, _, _, rfl, q⟩
end
end Toy
set_option Elab.async false
set_option linter.all false
set_option maxRecDepth 100000
set_option maxHeartbeats 4000000
namespace Toy
open PySem L2 Sh ShL LamX NdefX
/-! ### as_tuples -/
theorem fn_weak {P : Program} {w : World} {K : PySem.W.Frag} {mg : Str → Option Value} {base : Heap} {CX : CXT} {k : Nat} {f : Addr} {fd : FuncData} {ps : List Str} {sp sp' : Sp}
    (F : FnOk P w K mg base CX k f fd ps sp) (h : ∀ vs H Q E, sp' vs H Q E → sp vs H Q E) : FnOk P w K mg base CX k f fd ps sp' :=
  ⟨fun vs H Q E q => F.len vs H Q E (h _ _ _ _ q), fun A outer s H args us vs Q E hr e0 hb hv q => F.run A outer s H args us vs Q E hr e0 hb hv (h _ _ _ _ q)⟩
def NoSeq (K : PySem.W.Frag) (H : Hp) (v : V) : Prop := ∃ t, (∀ H', Same H H' → TyX K H' v t) ∧ PySem.W.kitAny K t [.type "list", .type "tuple"] = some false
theorem noseq_str {K : PySem.W.Frag} {H : Hp} {s : Str} : NoSeq K H (.str s) := ⟨_, fun _ _ => .base (.str _), kit_lot (t := "str") (by decide)⟩
def spAs1 (K : PySem.W.Frag) : Sp := fun vs H Q _ => ∃ v, vs = [v] ∧ NoSeq K H v ∧ ∀ H', Same H H' → Q v H'
def spAsM {α : Type} (Rin Rout : Hp → V → α → Prop) : Sp := fun vs H Q _ => ∃ v a, vs = [v] ∧ Rin H v a ∧ ∀ H' u, Same H H' → Rout H' u a → Q u H'
def SeqR {α : Type} (R : Hp → V → α → Prop) : Hp → V → List α → Prop := fun H v as => ∃ a xs, v = .ref a ∧ SqA H a xs ∧ Paired (R H) xs as ∧ as.length ≤ 9000
def TupR {α : Type} (R : Hp → V → α → Prop) : Hp → V → List α → Prop := fun H v as => ∃ a xs, v = .ref a ∧ H a = some (.tup xs) ∧ Paired (R H) xs as
section
variable {P : Program} {w : World} {K : PySem.W.Frag} {mg : Str → Option Value} {base : Heap}
theorem as0 (T : Tx P K mg) (B : Bx T base) : FnOk P w K mg base CX0 1 T.a_as_tuples T.fd_as_tuples ["value"] (fun _ _ _ _ => False) := by
  exact okT T.F_as_tuples sc_as_tuples (fun vs H Q E h => h.elim) (fun cdv A outer s H vs Q E hcd hr h => h.elim)
theorem as1 (T : Tx P K mg) (B : Bx T base) : FnOk P w K mg base CX0 2 T.a_as_tuples T.fd_as_tuples ["value"] (spAs1 K) := by
  refine okT T.F_as_tuples sc_as_tuples (fun vs H Q E h => ?_) (fun cdv A outer s H vs Q E hcd hr h => ?_)
  · obtain ⟨v, rfl, _⟩ := h
    rfl
  have hu := hu_of hr
  have hu65 := hu65_of hr
  have ok_rec : FnOk P w K mg base CX0 1 T.a_as_tuples T.fd_as_tuples ["value"] (fun _ _ _ _ => False) := as0 T B
  obtain ⟨v, rfl, ⟨t, ty, hk⟩, q⟩ := h
  refine ⟨_, (pss_cons (ps_if (pt_val (pe_callB call_isiT (by rfl) T.b_isinstance (by decide +kernel) (pa_cons (pv 0) (pa_cons (pe_tup (pa_cons (pe_bltn (v := .ty "list") (by rfl) T.b_list (by decide +kernel) rfl) (pa_cons (pe_bltn (v := .ty "tuple") (by rfl) T.b_tuple (by decide +kernel) rfl) pa_nil))) pa_nil))))
 (pss_one (ps_ret (pe_callTy call_tuple_of (by rfl) T.b_tuple (by decide +kernel) (pa_cons (pe_lc (own := [("part", 1)]) (g := gName 1) rfl sc_as_tuples.nd (pi_alt (pi_list (pv 0)) (pi_tup (pv 0))) (blkOk_by (own := [("part", 1)]) (N := N_as_tuples) (sc := defScope s_as_tuples) (by decide +kernel)) (fun _ _ _ _ _ => (pg_name (i := 1) sc_as_tuples.nd rfl (by first | exact Or.inl rfl | exact Or.inr rfl))) (fun _ _ _ _ _ => pts_nil) (fun _ _ _ _ _ => (pe_call ok_rec (hr.mono (Nat.le_refl _)) (by rfl) T.m_as_tuples T.F_as_tuples.kp T.bi_as_tuples .nil pass0 (pa_cons (pv 1) pa_nil)))) pa_nil))))
 pss_nil)
 (pss_one (ps_ret (pv 0)))), ?_⟩
  refine ⟨_, rfl, by show 2 ≤ sizeLine; decide, fun tp htp => ?_⟩
  have s1 := same_upd (o := .tup [V.ty "list", .ty "tuple"]) htp
  refine ⟨_, tp, _, _, [.type "list", .type "tuple"], false, rfl, upd_same, .cons (.ty _) (.cons (.ty _) .nil), ty _ s1, hk, _, rfl, iteF ?_⟩
  exact ⟨_, rfl, q _ s1⟩
theorem as_step (T : Tx P K mg) (B : Bx T base) {α : Type} {k : Nat} {Rin Rout : Hp → V → α → Prop} (mi : ∀ H H' v a, Same H H' → Rin H v a → Rin H' v a) (mo : ∀ H H' v a, Same H H' → Rout H v a → Rout H' v a)
    (po : ∀ H D xs ys v a, H D = some (.lst xs) → Rout H v a → Rout (upd H D (.lst ys)) v a) (ok_rec : FnOk P w K mg base CX0 k T.a_as_tuples T.fd_as_tuples ["value"] (spAsM Rin Rout)) : FnOk P w K mg base CX0 (k + 1) T.a_as_tuples T.fd_as_tuples ["value"] (spAsM (SeqR Rin) (TupR Rout)) := by
  refine okT T.F_as_tuples sc_as_tuples (fun vs H Q E h => ?_) (fun cdv A outer s H vs Q E hcd hr h => ?_)
  · obtain ⟨v, a, rfl, _⟩ := h
    rfl
  have hu := hu_of hr
  have hu65 := hu65_of hr
  obtain ⟨v, as, rfl, ⟨a, xs, rfl, ha, pr, hl⟩, q⟩ := h
  refine ⟨_, (pss_cons (ps_if (pt_val (pe_callB call_isiT (by rfl) T.b_isinstance (by decide +kernel) (pa_cons (pv 0) (pa_cons (pe_tup (pa_cons (pe_bltn (v := .ty "list") (by rfl) T.b_list (by decide +kernel) rfl) (pa_cons (pe_bltn (v := .ty "tuple") (by rfl) T.b_tuple (by decide +kernel) rfl) pa_nil))) pa_nil))))
 (pss_one (ps_ret (pe_callTy call_tuple_of (by rfl) T.b_tuple (by decide +kernel) (pa_cons (pe_lc (own := [("part", 1)]) (g := gName 1) rfl sc_as_tuples.nd (pi_alt (pi_list (pv 0)) (pi_tup (pv 0))) (blkOk_by (own := [("part", 1)]) (N := N_as_tuples) (sc := defScope s_as_tuples) (by decide +kernel)) (fun _ _ _ _ _ => (pg_name (i := 1) sc_as_tuples.nd rfl (by first | exact Or.inl rfl | exact Or.inr rfl))) (fun _ _ _ _ _ => pts_nil) (fun _ _ _ _ _ => (pe_call ok_rec (hr.mono (Nat.le_refl _)) (by rfl) T.m_as_tuples T.F_as_tuples.kp T.bi_as_tuples .nil pass0 (pa_cons (pv 1) pa_nil)))) pa_nil))))
 pss_nil)
 (pss_one (ps_ret (pv 0)))), ?_⟩
  refine ⟨_, rfl, by show 2 ≤ sizeLine; decide, fun tp htp => ?_⟩
  have s1 := same_upd (o := .tup [V.ty "list", .ty "tuple"]) htp
  have g1 : (upd H tp (.tup [V.ty "list", .ty "tuple"])) tp = some (.tup [V.ty "list", .ty "tuple"]) := upd_same
  generalize upd H tp (.tup [V.ty "list", .ty "tuple"]) = H1 at s1 g1
  have ha1 : SqA H1 a xs := ha.imp (s1 _ _) (s1 _ _)
  have pr1 : Paired (Rin H1) xs as := paired_mono (fun v u h => mi _ _ _ _ s1 h) pr
  obtain ⟨t, ht, ty⟩ := lt_ty (K := K) ha1
  refine ⟨_, tp, _, _, [.type "list", .type "tuple"], true, rfl, g1, .cons (.ty _) (.cons (.ty _) .nil), ty, by rw [kit_lot (by rcases ht with rfl | rfl <;> decide)]; rw [decide_eq_true ht], _, rfl, iteT ?_⟩
  have fin : ∀ (H2 : Hp) (D : Addr) (us : List V), Same H1 H2 → H2 D = some (.lst us) → Paired (Rout H2) us as → ∀ R : VK, R = Q → ∃ p ys, [V.ref D] = [V.ref p] ∧ ((SqL K H2 p ys ∧ ∀ (l : Addr), H2 l = none → R (V.ref l) (upd H2 l (HO.tup ys))) ∨ SqT K H2 p ys ∧ R (V.ref p) H2) := fun H2 D us s2 hD pu R e => by
    subst e
    refine ⟨D, us, rfl, .inl ⟨SqL.of hD, fun l hl => ?_⟩⟩
    have sl := same_upd (o := .tup us) hl
    exact q _ _ ((s1.trans s2).trans sl) ⟨l, us, rfl, upd_same, paired_mono (fun v u h => mo _ _ _ _ sl h) pu⟩
  have core : ∀ {J : It} {G : Hp → Prop} {Y : Nat → Hp → V → Hp → Prop} (wk : Walk J xs.length G Y) (hY : ∀ i H x H', Y i H x H' → H' = H ∧ xs[i]? = some x) (hG : ∀ H', Same H1 H' → G H') (σ : L2.St) (hσ : ∀ x, wipe ((wipe σ [1]).set 1 x) [1] = wipe σ [1]) (hσ2 : ∀ x, ((wipe σ [1]).set 1 (some x))[1]? = some (some x)) (D : Addr) (hD : H1 D = none) (R : VK), (∀ (H2 : Hp) (us : List V), Same H1 H2 → H2 D = some (.lst us) → Paired (Rout H2) us as → R (.ref D) H2) →
      ∃ W : Nat → Nat → Hp → Prop, (∃ m, W 0 m (upd H1 D (.lst []))) ∧ ∀ i m H, W i m H → (J.stop i H ∧ R (.ref D) H) ∨ (J.go i H ∧ ∃ Nx : Hp → Prop, (∀ H', Nx H' → ∃ m', m' < m ∧ W (i + 1) m' H') ∧ ∀ x H', J.yld i H x H' → gName 1 x (wipe σ [1]) H' fun σ2 H2 => wipe σ2 [1] = wipe σ [1] ∧ tYes σ2 H2 fun b H3 =>
        if b = true then tCall (spAsM Rin Rout) [] E0 (tCons (tVar 1) tNil) σ2 H3 fun y H4 => ∃ acc, H4 D = some (.lst acc) ∧ acc.length < sizeLine ∧ Nx (upd H4 D (.lst (acc ++ [y]))) else Nx H3) := fun wk hY hG σ hσ hσ2 D hD R hR =>
    lcG wk hY pr1 (fun _ H' => Same H1 H') (same_upd hD) (fun _ H' acc s => same_of_new s hD) (fun m H' _ s => hG H' s) (by omega) (fun _ => true) Rout (fun H' acc acc' v u hDl h => po _ _ _ _ _ _ hDl h)
      (fun m x r H' acc R' N hr' ex s hDH k1 _ => ⟨hσ _, yes_ite ⟨_, hσ2 _, x, r, rfl, mi _ _ _ _ s ex, fun H5 u s5 ru => k1 rfl _ _ (s.trans s5) (s5 _ _ hDH) (fun v u h => mo _ _ _ _ s5 h) ru⟩⟩)
      (fun H' acc s hDH p => by rw [filter_tt] at p; exact hR H' acc s hDH p)
  rcases ha1 with ha1 | ha1
  · refine .inl ⟨_, rfl, a, rfl, ⟨_, SqL.of ha1⟩, fun D hD => ?_⟩
    exact core (walk_list (K := K) (a := a) (xs := xs)) yat (fun H' s => SqL.of (s _ _ ha1)) _ (fun _ => rfl) (fun _ => rfl) D hD (fun v H2 => ∃ p ys, [v] = [V.ref p] ∧ ((SqL K H2 p ys ∧ ∀ (l : Addr), H2 l = none → Q (V.ref l) (upd H2 l (HO.tup ys))) ∨ SqT K H2 p ys ∧ Q (V.ref p) H2)) fun H2 us s2 hD2 pu => fin H2 D us s2 hD2 pu _ rfl
  · refine .inr ⟨_, rfl, a, rfl, ⟨_, SqT.of ha1⟩, fun D hD => ?_⟩
    exact core (walk_tup (K := K) (a := a) (xs := xs)) yat (fun H' s => SqT.of (s _ _ ha1)) _ (fun _ => rfl) (fun _ => rfl) D hD (fun v H2 => ∃ p ys, [v] = [V.ref p] ∧ ((SqL K H2 p ys ∧ ∀ (l : Addr), H2 l = none → Q (V.ref l) (upd H2 l (HO.tup ys))) ∨ SqT K H2 p ys ∧ Q (V.ref p) H2)) fun H2 us s2 hD2 pu => fin H2 D us s2 hD2 pu _ rfl
def StrR : Hp → V → Str → Prop := fun _ v s => v = .str s
theorem as2 (T : Tx P K mg) (B : Bx T base) : FnOk P w K mg base CX0 3 T.a_as_tuples T.fd_as_tuples ["value"] (spAsM (SeqR StrR) (TupR StrR)) :=
  as_step T B (fun _ _ _ _ _ h => h) (fun _ _ _ _ _ h => h) (fun _ _ _ _ _ _ _ h => h) (fn_weak (as1 T B) fun vs H Q E ⟨v, s, e, h, q⟩ => ⟨v, e, by rw [show v = .str s from h]; exact noseq_str, fun H' s' => q H' v s' h⟩)
theorem SeqR.same {α : Type} {R : Hp → V → α → Prop} (m : ∀ H H' v a, Same H H' → R H v a → R H' v a) : ∀ H H' v a, Same H H' → SeqR R H v a → SeqR R H' v a := fun H H' v as s ⟨a, xs, e, h, p, l⟩ => ⟨a, xs, e, h.imp (s _ _) (s _ _), paired_mono (fun v u h => m _ _ _ _ s h) p, l⟩
theorem TupR.same {α : Type} {R : Hp → V → α → Prop} (m : ∀ H H' v a, Same H H' → R H v a → R H' v a) : ∀ H H' v a, Same H H' → TupR R H v a → TupR R H' v a := fun H H' v as s ⟨a, xs, e, h, p⟩ => ⟨a, xs, e, s _ _ h, paired_mono (fun v u h => m _ _ _ _ s h) p⟩
theorem TupR.put {α : Type} {R : Hp → V → α → Prop} (m : ∀ H D xs ys v a, H D = some (.lst xs) → R H v a → R (upd H D (.lst ys)) v a) : ∀ H D xs ys v a, H D = some (.lst xs) → TupR R H v a → TupR R (upd H D (.lst ys)) v a := fun H D xs ys v as hD ⟨a, zs, e, h, p⟩ => ⟨a, zs, e, by rw [upd_ne (ne_of h hD (by intro z; cases z))]; exact h, paired_mono (fun v u h => m _ _ _ _ _ _ hD h) p⟩
theorem as3 (T : Tx P K mg) (B : Bx T base) : FnOk P w K mg base CX0 4 T.a_as_tuples T.fd_as_tuples ["value"] (spAsM (SeqR (SeqR StrR)) (TupR (TupR StrR))) :=
  as_step T B (SeqR.same fun _ _ _ _ _ h => h) (TupR.same fun _ _ _ _ _ h => h) (TupR.put fun _ _ _ _ _ _ _ h => h) (as2 T B)
def spAs (K : PySem.W.Frag) : Sp := fun vs H Q E => spAs1 K vs H Q E ∨ spAsM (SeqR (SeqR StrR)) (TupR (TupR StrR)) vs H Q E
theorem FnOk.up {CX : CXT} {k k' : Nat} {f : Addr} {fd : FuncData} {ps : List Str} {sp : Sp} (F : FnOk P w K mg base CX k f fd ps sp) (h : k ≤ k') : FnOk P w K mg base CX k' f fd ps sp :=
  ⟨F.len, fun A outer s H args us vs Q E hr => F.run A outer s H args us vs Q E (hr.mono h)⟩
theorem ok_as_tuples (T : Tx P K mg) (B : Bx T base) : FnOk P w K mg base CX0 4 T.a_as_tuples T.fd_as_tuples ["value"] (spAs K) := fn_alt (FnOk.up (as1 T B) (by decide)) (as3 T B)
end
end Toy
set_option Elab.async false
set_option linter.all false
set_option maxRecDepth 100000
set_option maxHeartbeats 4000000
namespace Toy
open PySem L2 Sh ShL LamX NdefX
/-! ### Merged, Clash -/
abbrev TkR : Hp → V → List (List Str) → Prop := TupR (TupR StrR)
def spClash (C : Addr) : Sp := fun vs H Q _ => ∃ (x dx : Addr) (s : Str), vs = [.ref x, .str s] ∧ H x = some (.ins C dx []) ∧ ∀ H', Kp x H H' → H' x = some (.ins C dx (putF "place" (.str s) [])) → Q .non H'
def spMergedI (K : PySem.W.Frag) (C : Addr) : Sp := fun vs H Q _ => ∃ (x dx o ta : Addr) (tk : List (List Str)), vs = [.ref x, .ref o, .ref ta] ∧ H x = some (.ins C dx []) ∧ NoSeq K H (.ref o) ∧ SeqR (SeqR StrR) H (.ref ta) tk ∧
  ∀ H' u, Kp x H H' → H' x = some (.ins C dx (putF "taken" u (putF "tree" (.ref o) []))) → TkR H' u tk → Q .non H'
theorem noseq_same {K : PySem.W.Frag} {H H' : Hp} {v : V} (s : Same H H') (h : NoSeq K H v) : NoSeq K H' v := let ⟨t, ty, k⟩ := h; ⟨t, fun H2 s2 => ty _ (s.trans s2), k⟩
theorem tup_kp {H H' : Hp} {x C dx : Addr} {fs : List (Str × V)} (hx : H x = some (.ins C dx fs)) (k : Kp x H H') {u : V} {tk : List (List Str)} (h : TkR H u tk) : TkR H' u tk := by
  have ne : ∀ {b : Addr} {xs : List V}, H b = some (.tup xs) → H' b = some (.tup xs) := fun h => k _ _ h (ne_of h hx (by intro z; cases z))
  obtain ⟨a, xs, e, h, p⟩ := h
  exact ⟨a, xs, e, ne h, paired_mono (fun v t ⟨b, ys, e, h, p⟩ => ⟨b, ys, e, ne h, p⟩) p⟩
section
variable {P : Program} {w : World} {K : PySem.W.Frag} {mg : Str → Option Value} {base : Heap}
theorem ok_Clash_init (T : Tx P K mg) (B : Bx T base) : FnOk P w K mg base CX0 5 T.a_Clash_init T.fd_Clash_init ["self", "place"] (spClash T.c_Clash) := by
  refine okT T.F_Clash_init sc_Clash_init (fun vs H Q E h => ?_) (fun cdv A outer s H vs Q E hcd hr h => ?_)
  · obtain ⟨x, dx, s, rfl, _⟩ := h
    rfl
  have hu := hu_of hr
  have hu65 := hu65_of hr
  obtain ⟨x, dx, z, rfl, hx, q⟩ := h
  refine ⟨_, (pss_one (ps_fld (pv 0) (pe_call (ok_as_tuples (w := w) T B) (hr.mono (by decide)) (by rfl) T.m_as_tuples T.F_as_tuples.kp T.bi_as_tuples .nil pass0 (pa_cons (pv 1) pa_nil)) rfl)), ?_⟩
  refine ⟨_, rfl, .inl ⟨.str z, rfl, noseq_str, fun H1 s1 => ?_⟩⟩
  have hx1 := s1 _ _ hx
  exact ⟨_, rfl, x, T.c_Clash, dx, [], rfl, hx1, T.cl_Clash, T.na_Clash_place, (by show 0 < 1000; decide), q _ ((Same.kp s1).trans kp_put) upd_same⟩
theorem ok_Merged_init (T : Tx P K mg) (B : Bx T base) : FnOk P w K mg base CX0 5 T.a_Merged_init T.fd_Merged_init ["self", "tree", "taken"] (spMergedI K T.c_Merged) := by
  refine okT T.F_Merged_init sc_Merged_init (fun vs H Q E h => ?_) (fun cdv A outer s H vs Q E hcd hr h => ?_)
  · obtain ⟨x, dx, o, ta, tk, rfl, _⟩ := h
    rfl
  have hu := hu_of hr
  have hu65 := hu65_of hr
  obtain ⟨x, dx, o, ta, tk, rfl, hx, ho, ht, q⟩ := h
  refine ⟨_, (pss_cons (ps_fld (pv 0) (pe_call (ok_as_tuples (w := w) T B) (hr.mono (by decide)) (by rfl) T.m_as_tuples T.F_as_tuples.kp T.bi_as_tuples .nil pass0 (pa_cons (pv 1) pa_nil)) rfl)
 (pss_one (ps_fld (pv 0) (pe_call (ok_as_tuples (w := w) T B) (hr.mono (by decide)) (by rfl) T.m_as_tuples T.F_as_tuples.kp T.bi_as_tuples .nil pass0 (pa_cons (pv 2) pa_nil)) rfl))), ?_⟩
  refine ⟨_, rfl, .inl ⟨.ref o, rfl, ho, fun H1 s1 => ?_⟩⟩
  have hx1 := s1 _ _ hx
  refine ⟨_, rfl, x, T.c_Merged, dx, [], rfl, hx1, T.cl_Merged, T.na_Merged_tree, (by show 0 < 1000; decide), ?_⟩
  have kp1 : Kp x H1 (upd H1 x (.ins T.c_Merged dx (putF "tree" (.ref o) []))) := kp_put
  have hx2 : (upd H1 x (.ins T.c_Merged dx (putF "tree" (.ref o) []))) x = some (.ins T.c_Merged dx (putF "tree" (.ref o) [])) := upd_same
  have ht2 : SeqR (SeqR StrR) (upd H1 x (.ins T.c_Merged dx (putF "tree" (.ref o) []))) (.ref ta) tk := by
    have sq : ∀ {b : Addr} {xs : List V}, SqA H b xs → SqA (upd H1 x (.ins T.c_Merged dx (putF "tree" (.ref o) []))) b xs := fun h => SqA.kp ((kpS_same s1).trans (kpS_ins hx1 kp1)) h
    obtain ⟨a, xs, e, h, p, l⟩ := ht
    exact ⟨a, xs, e, sq h, paired_mono (fun v t ⟨b, ys, e, h, p, l⟩ => ⟨b, ys, e, sq h, p, l⟩) p, l⟩
  have ka := (Same.kp s1).trans kp1
  generalize upd H1 x (.ins T.c_Merged dx (putF "tree" (.ref o) [])) = H2 at kp1 hx2 ht2 ka
  refine ⟨_, rfl, .inr ⟨.ref ta, tk, rfl, ht2, fun H3 u s3 hu3 => ?_⟩⟩
  have hx3 := s3 _ _ hx2
  exact ⟨_, rfl, x, T.c_Merged, dx, _, rfl, hx3, T.cl_Merged, T.na_Merged_taken, (by show 1 < 1000; decide), q _ u (ka.trans ((Same.kp s3).trans kp_put)) upd_same (tup_kp hx3 kp_put hu3)⟩
end
end Toy
set_option Elab.async false
set_option linter.all false
set_option maxRecDepth 100000
set_option maxHeartbeats 4000000
namespace Toy
open PySem L2 Sh ShL LamX NdefX
/-! ### rows_taken -/
def inT (hs : List Wd) (p : Wd) : Bool := hs.any fun h => decide (h <+: p)
theorem inT_step (hs : List Wd) {p : Wd} (hp : p ≠ []) : inT hs p = (decide (p ∈ hs) || inT hs p.dropLast) := by
  have e := List.dropLast_concat_getLast hp
  have key : ∀ h : Wd, h <+: p ↔ h = p ∨ h <+: p.dropLast := fun h => by
    conv => lhs; rw [← e]
    rw [List.prefix_concat_iff, e]
  rw [Bool.eq_iff_iff, Bool.or_eq_true]
  unfold inT
  rw [List.any_eq_true, List.any_eq_true, decide_eq_true_eq]
  constructor
  · rintro ⟨h, hm, hd⟩
    rcases (key h).mp (of_decide_eq_true hd) with rfl | h2
    · exact .inl hm
    · exact .inr ⟨h, hm, decide_eq_true h2⟩
  · rintro (h | ⟨h, hm, hd⟩)
    · exact ⟨p, h, decide_eq_true (List.prefix_refl _)⟩
    · exact ⟨h, hm, decide_eq_true ((key h).mpr (.inr (of_decide_eq_true hd)))⟩
theorem inT_nil (hs : List Wd) : inT hs [] = decide (([] : Wd) ∈ hs) := by
  rw [Bool.eq_iff_iff]
  unfold inT
  rw [List.any_eq_true, decide_eq_true_eq]
  constructor
  · rintro ⟨h, hm, hd⟩
    rw [List.prefix_nil.mp (of_decide_eq_true hd)] at hm
    exact hm
  · intro h
    exact ⟨[], h, decide_eq_true (List.prefix_refl _)⟩
/-- the row above stands ahead -/
def ParAhead (rs : List Rw) : Prop := ∀ i r, rs[i]? = some r → r.1 ≠ [] → r.1.dropLast ∈ (rs.take i).map (·.1)
def spTakenR (C : Addr) : Sp := fun vs H Q _ => ∃ (x a : Addr) (z : Wd) (rs : List Rw) (hs : List Wd), vs = [.ref x, .ref a] ∧ TreeAt C H x z rs ∧ H a = some (.lst (wsV hs)) ∧ hs.Nodup ∧ hs.length ≤ 9000 ∧ rs.length ≤ 2000 ∧ (rs.map (·.1)).Nodup ∧ ParAhead rs ∧ (∀ r ∈ rs, r.1.length ≤ 1000) ∧
  ∀ H' l vs, Same H H' → H l = none → H' l = some (.lst vs) → Paired (RwT H') vs (rs.filter fun r => inT hs r.1) → Q (.ref l) H'
section
variable {P : Program} {w : World} {K : PySem.W.Frag} {mg : Str → Option Value} {base : Heap}
theorem ok_rows_taken (T : Tx P K mg) (B : Bx T base) : FnOk P w K mg base CX0 1 T.a_rows_taken T.fd_rows_taken ["tree", "places"] (spTakenR T.c_Tree) := by
  refine okT T.F_rows_taken sc_rows_taken (fun vs H Q E h => ?_) (fun cdv A outer s H vs Q E hcd hr h => ?_)
  · obtain ⟨x, a, z, rs, hs, rfl, _⟩ := h
    rfl
  have hu := hu_of hr
  have hu65 := hu65_of hr
  obtain ⟨x, a, z, rs, hs, rfl, hx, ha, hn, hl, rl, rn, par, wl, q⟩ := h
  obtain ⟨dx, t, _, _, m, tvs, us, x1, x2, x3, _⟩ := hx.ex
  have tl : tvs.length = rs.length := x3.length
  refine ⟨_, (pss_cons (ps_par3 (i := 2) (j := 3) (l := 4) (by rfl) sc_rows_taken.nd rfl rfl rfl (by decide) (by decide) (by decide) rfl rfl rfl (pa_cons (pe_dc (own := [("place", 6)]) (g := gName 6) rfl sc_rows_taken.nd (pi_list (pv 1)) (blkOk_by (own := [("place", 6)]) (N := N_rows_taken) (sc := defScope s_rows_taken) (by decide +kernel)) (fun _ _ _ _ _ => (pg_name (i := 6) sc_rows_taken.nd rfl (by first | exact Or.inl rfl | exact Or.inr rfl))) (fun _ _ _ _ _ => pts_nil) (fun _ _ _ _ _ => (pv 6)) (fun _ _ _ _ _ => pe_bl)) (pa_cons pe_dnewK (pa_cons (pe_lst pa_nil) pa_nil))) (by rfl))
 (pss_cons (ps_for PassesOwn.never rfl (pi_tup (pe_fld (pv 0) rfl)) (pg_name (i := 5) sc_rows_taken.nd rfl (by first | exact Or.inl rfl | exact Or.inr rfl))
 (pss_cons (ps_set (i := 6) sc_rows_taken.nd rfl (by first | exact Or.inl rfl | exact Or.inr rfl) (pe_ix ix_tup (pv 5) pe_int (fun _ _ => rfl)))
 (pss_one (ps_if (PW.pt (pw_or (pt_cmp (pc_din hu (pv 6) (pv 2))) (pw_or1 (PW.pt (pw_and (pt_cmpR op_ne (pv 6) pe_str (nomark _)) (pw_and1 (pt_cmp (pc_din hu (pe_slice sl_str (pv 6) po_none (po_some (pe_un un_neg pe_int))) (pv 3)))))))))
 (pss_cons (ps_dput hu (pv 3) (pv 6) pe_bl rfl)
 (pss_one (ps_expr (pe_bm PySem.F.plainAttrs_list PySem.F.slot_list_append PySem.F.type_list_append mt_append (pv 4) (pa_cons (pv 5) pa_nil)))))
 pss_nil))))
 (pss_one (ps_ret (pv 4))))), ?_⟩
  refine ⟨_, rfl, a, rfl, ⟨_, SqL.of ha⟩, fun D hD => ?_⟩
  refine dc_list (K := K) (a := a) (xs := wsV hs) (fun i H5 => Same H H5 ∧ H5 D = some (.dK (kdl ((hs.take i).map fun p => (p, V.bl true))))) ⟨same_upd hD, upd_same⟩ (fun i H5 _ ⟨s5, _⟩ => SqL.of (s5 _ _ ha)) (fun i x' H5 hx' ⟨s5, h5⟩ => ?_) (fun H5 ⟨s5, h5⟩ => ?_)
  · rw [List.getElem?_map] at hx'
    obtain ⟨p, hp, rfl⟩ := Option.map_eq_some_iff.mp hx'
    have hpn : p ∉ ((hs.take i).map fun p => (p, V.bl true)).map (·.1) := by rw [kd_map]; exact nd_take hn hp
    refine ⟨rfl, yes_ite ⟨_, rfl, kdl ((hs.take i).map fun p => (p, V.bl true)), .inr (sw p), rfl, h5, ?_, same_of_new s5 hD, ?_⟩⟩
    · rw [kdl_len, List.length_map, List.length_take, sizeLine_eq]
      omega
    · rw [upd_same, kdl_new _ hpn, List.take_add_one, hp]
      show _ = some (HO.dK (kdl ((hs.take i ++ [p]).map fun p => (p, V.bl true))))
      rw [List.map_append]
      rfl
  rw [List.length_map, List.take_of_length_le (Nat.le_refl _)] at h5
  refine fun e he => ⟨Nat.zero_le _, fun l hl0 => ?_⟩
  have he0 : H e = none := s5.free he
  have s6 := same_upd (o := .dK []) he
  have g6 : (upd H5 e (.dK [])) e = some (.dK []) := upd_same
  have h6 := s6 _ _ h5
  have s6 := s5.trans s6
  have hl1 : H l = none := s6.free hl0
  have nle : l ≠ e := fun z => by rw [z, upd_same] at hl0; cases hl0
  generalize upd H5 e (.dK []) = H6 at s6 g6 h6 hl0
  have s7 := same_upd (o := .lst []) hl0
  have g7 : (upd H6 l (.lst [])) l = some (.lst []) := upd_same
  have h7 := s7 _ _ h6
  have k7 := s7 _ _ g6
  have s7 := s6.trans s7
  have nDe : D ≠ e := ne_of_none h5 he
  have nDl : D ≠ l := ne_of_none h6 hl0
  generalize upd H6 l (.lst []) = H7 at s7 g7 h7 k7
  refine ⟨_, _, _, rfl, ?_⟩
  refine ⟨_, rfl, x, _, dx, _, _, rfl, s7 _ _ x1, T.cl_Tree, T.na_Tree_rows, tf_rows, t, rfl, ⟨_, SqT.of (s7 _ _ x2)⟩, ?_⟩
  refine for_it (walk_tup (K := K) (a := t) (xs := tvs)) (fun i σ H8 => (∃ v5 v6, σ = [some (.ref x), some (.ref a), some (.ref D), some (.ref e), some (.ref l), v5, v6]) ∧ Same H H8 ∧ H8 D = some (.dK (kdl (hs.map fun p => (p, V.bl true)))) ∧
      H8 e = some (.dK (kdl (((rs.take i).filter fun r => inT hs r.1).map fun r => (r.1, V.bl true)))) ∧ ∃ vs, H8 l = some (.lst vs) ∧ Paired (RwT H) vs ((rs.take i).filter fun r => inT hs r.1))
    ⟨⟨_, _, rfl⟩, s7, h7, k7, [], g7, .nil⟩ (fun i σ H8 _ ⟨_, s8, _⟩ => SqT.of (s8 _ _ x2)) (fun i u σ H0 H8 hi ⟨⟨v5, v6, e1⟩, s8, h8, k8, vs, g8, pv⟩ yl => ?_) (fun σ H8 ⟨⟨v5, v6, e1⟩, s8, h8, k8, vs, g8, pv⟩ => ?_)
  · obtain ⟨rfl, hu'⟩ := yl
    subst e1
    obtain ⟨r, hr', g, rfl, hg⟩ := paired_ix x3 hu'
    have rm := List.mem_of_getElem? hr'
    have fl : ((rs.take i).filter fun r => inT hs r.1).length ≤ 2000 := Nat.le_trans (List.length_filter_le _ _) (by rw [List.length_take]; omega)
    have pn : r.1 ∉ (rs.take i).map (·.1) := by rw [List.map_take]; exact nd_take rn (by rw [List.getElem?_map, hr']; rfl)
    have nd8 : ((((rs.take i).filter fun r => inT hs r.1).map fun r => ((r.1, V.bl true) : Wd × V)).map (·.1)).Nodup := by
      rw [List.map_map]
      exact rn.sublist ((List.filter_sublist.trans (List.take_sublist _ _)).map _)
    have pe : r.1 ∉ (((rs.take i).filter fun r => inT hs r.1).map fun r => ((r.1, V.bl true) : Wd × V)).map (·.1) := fun hm => by
      rw [List.map_map] at hm
      obtain ⟨r', h1, h2⟩ := List.mem_map.mp hm
      exact pn (List.mem_map.mpr ⟨r', (List.mem_filter.mp h1).1, h2⟩)
    have step : rs.take (i + 1) = rs.take i ++ [r] := by rw [List.take_add_one, hr']; rfl
    -- taken
    have yes : inT hs r.1 = true → ∀ (D' : Ends) , (∀ v5 v6 H9, Same H H9 → H9 D = some (.dK (kdl (hs.map fun p => (p, V.bl true)))) → H9 e = some (.dK (kdl (((rs.take (i + 1)).filter fun r => inT hs r.1).map fun r => (r.1, V.bl true)))) → (∃ vs, H9 l = some (.lst vs) ∧ Paired (RwT H) vs ((rs.take (i + 1)).filter fun r => inT hs r.1)) → D'.nx [some (.ref x), some (.ref a), some (.ref D), some (.ref e), some (.ref l), v5, v6] H9) →
        tSeq (sDPut (tVar 3) (tVar 6) (tC (V.bl true))) (tDrop (tBM K "list" rAppend (tVar 4) (tCons (tVar 5) tNil))) D' [some (.ref x), some (.ref a), some (.ref D), some (.ref e), some (.ref l), some (.ref g), some (.str (sw r.1))] H8 := fun hin D' hD' => by
      have ef : (rs.take (i + 1)).filter (fun r => inT hs r.1) = (rs.take i).filter (fun r => inT hs r.1) ++ [r] := by rw [step, List.filter_append]; simp [hin]
      refine ⟨_, rfl, _, rfl, e, _, rfl, dput_kdl k8 r.1 _ (by rw [List.length_map]; omega), ?_⟩
      rw [kdl_new _ pe]
      have g9 : (upd H8 e (.dK (kdl ((((rs.take i).filter fun r => inT hs r.1).map fun r => ((r.1, V.bl true) : Wd × V)) ++ [(r.1, V.bl true)])))) l = some (.lst vs) := by rw [upd_ne nle]; exact g8
      refine ⟨_, rfl, .inl ⟨rfl, _, SqL.of g9⟩, _, rfl, l, vs, _, rfl, rfl, g9, by rw [pv.length, sizeLine_eq]; omega, ?_⟩
      refine hD' _ _ _ (same_of_new (same_of_new s8 he0) hl1) ?_ ?_ ⟨_, upd_same, ?_⟩
      · rw [upd_ne nDl, upd_ne nDe]; exact h8
      · rw [upd_ne (Ne.symm nle), upd_same, ef, List.map_append]
        rfl
      · rw [ef]
        exact paired_app pv (.cons ⟨g, rfl, hg⟩ .nil)
    have no : inT hs r.1 = false → ((rs.take (i + 1)).filter fun r => inT hs r.1) = (rs.take i).filter fun r => inT hs r.1 := fun hin => by rw [step, List.filter_append]; simp [hin]
    refine ⟨_, rfl, g, _, _, _, rfl, rfl, SqT.of (s8 _ _ hg), atI_nat (j := 0) rfl, ?_⟩
    dsimp only [gName]
    have hin1 : (valV (kdl (hs.map fun p => (p, V.bl true))) (.inr (sw r.1))).isSome = decide (r.1 ∈ hs) := by rw [kdl_is (by rw [kd_map]; exact hn), kd_map]
    refine ⟨_, rfl, _, rfl, D, _, rfl, dget_kdl h8 r.1, _, rfl, ?_⟩
    rw [hin1]
    refine ite2 (fun h => ?_) (fun h => ?_)
    · have hm := of_decide_eq_true h
      have hin : inT hs r.1 = true := List.any_eq_true.mpr ⟨r.1, hm, decide_eq_true (List.prefix_refl _)⟩
      exact yes hin _ fun v5 v6 H9 a1 a2 a3 a4 => ⟨⟨_, _, rfl⟩, a1, a2, a3, a4⟩
    have hm : r.1 ∉ hs := fun z => h (decide_eq_true z)
    refine ⟨_, rfl, rfl, _, rfl, ?_⟩
    rw [mt_eq, sw_dec]
    by_cases h0 : r.1 = []
    · rw [decide_eq_true h0]
      refine iteF ?_
      have hin : inT hs r.1 = false := by rw [h0, inT_nil]; exact decide_eq_false (h0 ▸ hm)
      have fe := no hin
      exact iteF ⟨⟨_, _, rfl⟩, s8, h8, by rw [fe]; exact k8, vs, g8, by rw [fe]; exact pv⟩
    · rw [decide_eq_false h0]
      refine iteT ?_
      have pl := wl r rm
      refine ⟨_, rfl, _, rfl, _, rfl, _, rfl, by rw [sw_len, sizeLine_eq]; omega, _, rfl, e, valV (kdl (((rs.take i).filter fun r => inT hs r.1).map fun r => (r.1, V.bl true))) (.inr (sw r.1.dropLast)), rfl, ?_, _, rfl, ?_⟩
      · show DGet _ e (.str (cutS (sw r.1) none (some (-1)))) _
        rw [cut_init]
        exact dget_kdl k8 _
      have fs : (((rs.take i).filter fun r => inT hs r.1).map fun r => ((r.1, V.bl true) : Wd × V)).map (·.1) = ((rs.take i).filter fun r => inT hs r.1).map (·.1) := by rw [List.map_map]; rfl
      rw [kdl_is nd8, fs]
      have hp := par i r hr' h0
      have hiff : r.1.dropLast ∈ ((rs.take i).filter fun r => inT hs r.1).map (·.1) ↔ inT hs r.1.dropLast = true := by
        constructor
        · intro hm
          obtain ⟨r', h1, h2⟩ := List.mem_map.mp hm
          rw [← h2]
          exact (List.mem_filter.mp h1).2
        · intro hin
          obtain ⟨r', h1, h2⟩ := List.mem_map.mp hp
          exact List.mem_map.mpr ⟨r', List.mem_filter.mpr ⟨h1, by rw [h2]; exact hin⟩, h2⟩
      have hst := inT_step hs h0
      rw [decide_eq_false hm, Bool.false_or] at hst
      refine ite2 (fun h => ?_) (fun h => ?_)
      · have hin : inT hs r.1 = true := by rw [hst]; exact hiff.mp (of_decide_eq_true h)
        exact yes hin _ fun v5 v6 H9 a1 a2 a3 a4 => ⟨⟨_, _, rfl⟩, a1, a2, a3, a4⟩
      · have hin : inT hs r.1 = false := by rw [hst]; exact Bool.eq_false_iff.mpr fun hi => h (decide_eq_true (hiff.mpr hi))
        have fe := no hin
        exact ⟨⟨_, _, rfl⟩, s8, h8, by rw [fe]; exact k8, vs, g8, by rw [fe]; exact pv⟩
  · subst e1
    rw [tl, List.take_of_length_le (Nat.le_refl _)] at pv
    exact ⟨_, rfl, q _ l vs s8 hl1 g8 (paired_mono (fun _ _ h => RwT.same s8 h) pv)⟩
end
end Toy
set_option Elab.async false
set_option linter.all false
set_option maxRecDepth 100000
set_option maxHeartbeats 4000000
namespace Toy
open PySem L2 Sh ShL LamX NdefX
/-! ### rows_left -/
/-- a dict of counts -/
def Cnt (H : Hp) (d : Addr) (f : Wd → Nat) : Prop := ∃ l, H d = some (.dK (kdl l)) ∧ l.length ≤ 30000 ∧ ∀ p, valV (kdl l) (.inr (sw p)) = if f p = 0 then none else some (.int (f p : Nat))
def CntN (H : Hp) (d : Addr) (n : Nat) (f : Wd → Nat) : Prop := ∃ l, H d = some (.dK (kdl l)) ∧ l.length ≤ n ∧ ∀ p, valV (kdl l) (.inr (sw p)) = if f p = 0 then none else some (.int (f p : Nat))
def bump (f : Wd → Nat) (q : Wd) : Wd → Nat := fun p => if p = q then f p + 1 else f p
theorem kdl_put (l : List (Wd × V)) (p : Wd) (v : V) : ∃ l', putK (kdl l) (.inr (sw p)) v = kdl l' ∧ l'.length ≤ l.length + 1 := by
  by_cases h : p ∈ l.map (·.1)
  · exact ⟨_, kdl_old v h, by rw [List.length_map]; omega⟩
  · exact ⟨_, kdl_new v h, by simp⟩
theorem CntN.get {H : Hp} {d : Addr} {n : Nat} {f : Wd → Nat} (h : CntN H d n f) (p : Wd) : ∃ o, DGet H d (.str (sw p)) o ∧ o.getD (.int 0) = .int (f p : Nat) := by
  obtain ⟨l, h1, _, h3⟩ := h
  refine ⟨_, dget_kdl h1 p, ?_⟩
  rw [h3]
  by_cases e : f p = 0
  · rw [if_pos e, e]
    rfl
  · rw [if_neg e]
    rfl
theorem CntN.put {H : Hp} {d : Addr} {n : Nat} {f : Wd → Nat} (h : CntN H d n f) (hn : n ≤ 30000) (p : Wd) : ∃ H', DPut H d (.str (sw p)) (.int ((f p : Nat) + 1)) H' ∧ CntN H' d (n + 1) (bump f p) ∧ ∃ o, H' = upd H d o := by
  obtain ⟨l, h1, h2, h3⟩ := h
  refine ⟨_, dput_kdl h1 p _ (by omega), ?_, _, rfl⟩
  obtain ⟨l', e, hl⟩ := kdl_put l p (.int ((f p : Nat) + 1))
  rw [e]
  refine ⟨l', upd_same, by omega, fun q => ?_⟩
  rw [← e, valV_put, h3]
  unfold bump
  by_cases hq : q = p
  · subst hq
    rw [if_pos rfl, if_pos rfl, if_neg (by omega)]
    rfl
  · rw [if_neg (fun z => hq (sw_inj (Sum.inr.inj z))), if_neg hq]
theorem CntN.kp {H H' : Hp} {d : Addr} {n : Nat} {f : Wd → Nat} (h : CntN H d n f) (k : ∀ kvs, H d = some (.dK kvs) → H' d = some (.dK kvs)) : CntN H' d n f := by
  obtain ⟨l, h1, h2⟩ := h
  exact ⟨l, k _ h1, h2⟩
abbrev Tk := Wd × Bool
def sideS (b : Bool) : Str := if b = true then "one" else "other"
def TkT (H : Hp) (v : V) (t : Tk) : Prop := ∃ b, v = .ref b ∧ H b = some (.tup [.str (sw t.1), .str (sideS t.2)])
theorem TkT.same {H H' : Hp} {v : V} {t : Tk} (s : Same H H') (h : TkT H v t) : TkT H' v t := let ⟨b, e, h⟩ := h; ⟨b, e, s _ _ h⟩
def cnt0 (tk : List Tk) : Wd → Nat := tk.foldl (fun f t => bump f t.1.dropLast) fun _ => 0
def keepB (pl : Pl) (c : Nat) (r : Rw) : Bool := !(pl.ti && (!decide (r.1 = []) && (decide (r.2.1 = none) && decide (c = 0))))
def outR (pl : Pl) (c : Nat) (r : Rw) : Rw := (r.1, r.2.1, match pl.fl with
  | none => r.2.2
  | some f => f (decide (r.1 = [])) r.2.1.isSome (min 2 (c : Int)))
def leftF (pl : Pl) : List Rw → (Wd → Nat) → List Rw
  | [], _ => []
  | r :: t, c => if keepB pl (c r.1) r = true then outR pl (c r.1) r :: leftF pl t (if r.1 = [] then c else bump c r.1.dropLast) else leftF pl t c
/-- many[place[:-1]] = many.get(place[:-1], 0) + 1 -/
theorem bump_st {σ : L2.St} {H : Hp} {D : Ends} {j k : Nat} {d : Addr} {q : Wd} {f : Wd → Nat} {n : Nat} (ej : σ[j]? = some (some (.str (sw q)))) (ed : σ[k]? = some (some (.ref d))) (hq : q.length ≤ 1000) (hc : CntN H d n f) (hn : n ≤ 30000)
    (hD : ∀ H', CntN H' d (n + 1) (bump f q.dropLast) → (∃ o, H' = upd H d o) → D.nx σ H') :
    sDPut (tVar k) (tSl rSlS (tVar j) tNoPart (tPart (tUn (rU fun i => V.int (-i)) (tC (.int 1))))) (tOp (rI0 fun i j => V.int (i + j)) (tDGet2 (tVar k) (tSl rSlS (tVar j) tNoPart (tPart (tUn (rU fun i => V.int (-i)) (tC (.int 1))))) (tC (.int 0))) (tC (.int 1))) D σ H := by
  obtain ⟨o, h1, h2⟩ := hc.get q.dropLast
  obtain ⟨H', h3, h4, h5⟩ := hc.put hn q.dropLast
  have hz : (sw q).length ≤ sizeLine := by rw [sw_len, sizeLine_eq]; omega
  refine ⟨_, ed, d, rfl, ?_, _, ej, _, rfl, _, rfl, _, rfl, hz, o, ?_, _, _, h2, rfl, _, ed, _, ej, _, rfl, _, rfl, _, rfl, hz, d, H', rfl, ?_, hD H' h4 h5⟩
  · obtain ⟨l, h, _⟩ := hc
    exact .inl ⟨_, .inl h⟩
  · rw [cut_init]
    exact h1
  · rw [cut_init]
    exact h3
theorem paired_rev {α β : Type} {R : α → β → Prop} : ∀ {xs : List α} {ys : List β}, Paired R xs ys → Paired R xs.reverse ys.reverse
  | _, _, .nil => .nil
  | _, _, .cons h t => by
    rw [List.reverse_cons, List.reverse_cons]
    exact paired_app (paired_rev t) (.cons h .nil)
theorem RwT.tup {H H' : Hp} {v : V} {r : Rw} (k : ∀ b us, H b = some (.tup us) → H' b = some (.tup us)) (h : RwT H v r) : RwT H' v r := let ⟨a, e, h⟩ := h; ⟨a, e, k _ _ h⟩
theorem keepB_no {pl : Pl} {c : Nat} {r : Rw} (h1 : pl.ti = true) (h2 : r.1 ≠ []) (h3 : r.2.1 = none) (h4 : c = 0) : keepB pl c r = false := by
  unfold keepB
  simp [h1, h2, h3, h4]
theorem keepB_yes {pl : Pl} {c : Nat} {r : Rw} (h : ¬ (pl.ti = true ∧ r.1 ≠ [] ∧ r.2.1 = none ∧ c = 0)) : keepB pl c r = true := by
  unfold keepB
  cases h1 : pl.ti
  · simp
  · by_cases h2 : r.1 = []
    · simp [h2]
    · by_cases h3 : r.2.1 = none
      · by_cases h4 : c = 0
        · exact absurd ⟨h1, h2, h3, h4⟩ h
        · simp [h4]
      · simp [h3]
theorem oV_non (o : Option Int) : decide (oV o = V.non) = decide (o = none) := by cases o <;> rfl
def spLeft (P : Program) (w : World) (K : PySem.W.Frag) (C : Addr) : Sp := fun vs H Q _ => ∃ (p wa ta : Addr) (pl : Pl) (ws ts : List V) (went : List Rw) (tk : List Tk), vs = [.ref p, .ref wa, .ref ta] ∧ PlanAt P w K C H p pl ∧ H wa = some (.lst ws) ∧ Paired (RwT H) ws went ∧ H ta = some (.lst ts) ∧ Paired (TkT H) ts tk ∧
  went.length ≤ 9000 ∧ tk.length ≤ 9000 ∧ (∀ r ∈ went, r.1.length ≤ 1000) ∧ (∀ t ∈ tk, t.1.length ≤ 1000) ∧
  ∀ H' l vs, Same H H' → H l = none → H' l = some (.lst vs) → Paired (RwT H') vs (leftF pl went.reverse (cnt0 tk)) → Q (.ref l) H'
section
variable {P : Program} {w : World} {K : PySem.W.Frag} {mg : Str → Option Value} {base : Heap}
theorem ok_rows_left (T : Tx P K mg) (B : Bx T base) : FnOk P w K mg base CX0 1 T.a_rows_left T.fd_rows_left ["plan", "went", "taken"] (spLeft P w K T.c_Plan) := by
  refine okT T.F_rows_left sc_rows_left (fun vs H Q E h => ?_) (fun cdv A outer s H vs Q E hcd hr h => ?_)
  · obtain ⟨p, wa, ta, pl, ws, ts, went, tk, rfl, _⟩ := h
    rfl
  have hu := hu_of hr
  have hu65 := hu65_of hr
  obtain ⟨p, wa, ta, pl, ws, ts, went, tk, rfl, hP, hwa, pw, hta, pt, wl, tl, w10, t10, q⟩ := h
  have wsl : ws.length = went.length := pw.length
  have tsl : ts.length = tk.length := pt.length
  refine ⟨_, (pss_cons (ps_par (i := 3) (j := 4) (by rfl) sc_rows_left.nd rfl rfl (by decide) rfl rfl (pa_cons pe_dnewK (pa_cons (pe_lst pa_nil) pa_nil)) (by rfl))
 (pss_cons (ps_for PassesOwn.never rfl (pi_list (pv 2)) (pg_tup rfl (pgs_cons (pg_name (i := 5) sc_rows_left.nd rfl (by first | exact Or.inl rfl | exact Or.inr rfl)) (pgs_cons (pg_name (i := 6) sc_rows_left.nd rfl (by first | exact Or.inl rfl | exact Or.inr rfl)) pgs_nil)))
 (pss_one (ps_dput hu (pv 3) (pe_slice sl_str (pv 5) po_none (po_some (pe_un un_neg pe_int))) (pe_op op_add (pe_dget2 hu (pv 3) (pe_slice sl_str (pv 5) po_none (po_some (pe_un un_neg pe_int))) pe_int ⟨by rfl, by rfl, by rfl, by rfl⟩) pe_int) rfl)))
 (pss_cons (ps_for PassesOwn.never rfl (pi_list (pe_revL (pv 1))) (pg_tup rfl (pgs_cons (pg_name (i := 5) sc_rows_left.nd rfl (by first | exact Or.inl rfl | exact Or.inr rfl)) (pgs_cons (pg_name (i := 7) sc_rows_left.nd rfl (by first | exact Or.inl rfl | exact Or.inr rfl)) (pgs_cons (pg_name (i := 8) sc_rows_left.nd rfl (by first | exact Or.inl rfl | exact Or.inr rfl)) pgs_nil))))
 (pss_cons (ps_set (i := 9) sc_rows_left.nd rfl (by first | exact Or.inl rfl | exact Or.inr rfl) (pe_callB (call_min2 rfl) (by rfl) T.b_min (by decide +kernel) (pa_cons pe_int (pa_cons (pe_dget2 hu (pv 3) (pv 5) pe_int ⟨by rfl, by rfl, by rfl, by rfl⟩) pa_nil))))
 (pss_cons (ps_if (PW.pt (pw_and (pt_val (pe_fld (pv 0) rfl)) (pw_and (pt_cmpR op_ne (pv 5) pe_str (nomark _)) (pw_and (pt_cmpR op_isN (pv 7) pe_non (nomark _)) (pw_and1 (pt_cmpR op_eq (pv 9) pe_int (nomark _)))))))
 (pss_one ps_continue)
 pss_nil)
 (pss_cons (ps_if (pt_cmpR op_isN (pe_fld (pv 0) rfl) pe_non (nomark _))
 (pss_one (ps_expr (pe_bm PySem.F.plainAttrs_list PySem.F.slot_list_append PySem.F.type_list_append mt_append (pv 4) (pa_cons (pe_tup (pa_cons (pv 5) (pa_cons (pv 7) (pa_cons (pv 8) pa_nil)))) pa_nil))))
 (pss_one (ps_expr (pe_bm PySem.F.plainAttrs_list PySem.F.slot_list_append PySem.F.type_list_append mt_append (pv 4) (pa_cons (pe_tup (pa_cons (pv 5) (pa_cons (pv 7) (pa_cons (pe_dgetN hu65 (pe_fld (pv 0) rfl) (pe_tup (pa_cons (pe_cmpR op_eq (pv 5) pe_str (nomark _)) (pa_cons (pe_cmpR op_notN (pv 7) pe_non (nomark _)) (pa_cons (pv 9) pa_nil)))) (fun _ _ => rfl)) pa_nil)))) pa_nil)))))
 (pss_one (ps_if (pt_cmpR op_ne (pv 5) pe_str (nomark _))
 (pss_one (ps_dput hu (pv 3) (pe_slice sl_str (pv 5) po_none (po_some (pe_un un_neg pe_int))) (pe_op op_add (pe_dget2 hu (pv 3) (pe_slice sl_str (pv 5) po_none (po_some (pe_un un_neg pe_int))) pe_int ⟨by rfl, by rfl, by rfl, by rfl⟩) pe_int) rfl))
 pss_nil))))))
 (pss_one (ps_ret (pv 4)))))), ?_⟩
  refine fun d hd => ⟨Nat.zero_le _, fun l hl0 => ?_⟩
  have s1 := same_upd (o := .dK []) hd
  have g1 : CntN (upd H d (.dK [])) d 0 fun _ => 0 := ⟨[], upd_same, Nat.le_refl _, fun p => rfl⟩
  have hl : H l = none := s1.free hl0
  have ndl : l ≠ d := fun z => by rw [z, upd_same] at hl0; cases hl0
  generalize upd H d (.dK []) = H1 at s1 g1 hl0
  have s2 := same_upd (o := .lst []) hl0
  have g2 : (upd H1 l (.lst [])) l = some (.lst []) := upd_same
  have g1 := g1.kp (H' := upd H1 l (.lst [])) fun kvs h => s2 _ _ h
  have s2 := s1.trans s2
  generalize upd H1 l (.lst []) = H2 at s2 g2 g1
  refine ⟨_, _, rfl, ?_⟩
  refine ⟨_, rfl, ta, rfl, ⟨_, SqL.of (s2 _ _ hta)⟩, ?_⟩
  refine for_it (walk_list (K := K) (a := ta) (xs := ts)) (fun i σ H3 => (∃ v5 v6, σ = [some (.ref p), some (.ref wa), some (.ref ta), some (.ref d), some (.ref l), v5, v6, none, none, none]) ∧ Same H H3 ∧ H3 l = some (.lst []) ∧ CntN H3 d i (cnt0 (tk.take i)))
    ⟨⟨_, _, rfl⟩, s2, g2, g1⟩ (fun i σ H3 _ ⟨_, s3, _⟩ => SqL.of (s3 _ _ hta)) (fun i u σ H0 H3 hi ⟨⟨v5, v6, e1⟩, s3, g3, c3⟩ yl => ?_) (fun σ H3 ⟨⟨v5, v6, e1⟩, s3, g3, c3⟩ => ?_)
  · obtain ⟨rfl, hu'⟩ := yl
    subst e1
    obtain ⟨t, ht, g, rfl, hg⟩ := paired_ix pt hu'
    refine ⟨g, _, rfl, SqT.of (s3 _ _ hg), rfl, _, _, rfl, _, _, rfl, rfl, ?_⟩
    refine bump_st (q := t.1) rfl rfl (t10 t (List.mem_of_getElem? ht)) c3 (by omega) fun H4 c4 ⟨o, eo⟩ => ?_
    subst eo
    refine ⟨⟨_, _, rfl⟩, same_of_new s3 hd, by rw [upd_ne ndl]; exact g3, ?_⟩
    have e : cnt0 (tk.take (i + 1)) = bump (cnt0 (tk.take i)) t.1.dropLast := by
      unfold cnt0
      rw [List.take_add_one, ht, List.foldl_append]
      rfl
    rw [e]
    exact c4
  subst e1
  rw [tsl, List.take_of_length_le (Nat.le_refl _)] at c3
  have pwr := paired_rev pw
  refine ⟨_, rfl, wa, ws, rfl, SqL.of (s3 _ _ hwa), fun rv hrv => ⟨rv, rfl, ⟨_, SqL.of upd_same⟩, ?_⟩⟩
  have s4 := same_upd (o := .lst ws.reverse) hrv
  have g4 : (upd H3 rv (.lst ws.reverse)) rv = some (.lst ws.reverse) := upd_same
  have hrv0 := s3.free hrv
  have nrl : l ≠ rv := ne_of_none g3 hrv
  have nrd : d ≠ rv := fun z => by obtain ⟨l', h, _⟩ := c3; rw [z, hrv] at h; cases h
  have g3 := s4 _ _ g3
  have c3 := c3.kp (H' := upd H3 rv (.lst ws.reverse)) fun kvs h => s4 _ _ h
  have s4 := s3.trans s4
  generalize upd H3 rv (.lst ws.reverse) = H4 at s4 g4 g3 c3
  have wrl : ws.reverse.length = went.reverse.length := pwr.length
  generalize hwr : went.reverse = wr at pwr wrl q
  have wrn : wr.length ≤ 9000 := by rw [← hwr, List.length_reverse]; exact wl
  have wr10 : ∀ r ∈ wr, r.1.length ≤ 1000 := fun r hr => w10 r (by rw [← hwr] at hr; exact List.mem_reverse.mp hr)
  generalize ws.reverse = wsr at pwr wrl g4
  refine for_it (walk_list (K := K) (a := rv) (xs := wsr)) (fun i σ H5 => (∃ v5 v6 v7 v8 v9, σ = [some (.ref p), some (.ref wa), some (.ref ta), some (.ref d), some (.ref l), v5, v6, v7, v8, v9]) ∧ Same H H5 ∧ H5 rv = some (.lst wsr) ∧
      ∃ out c vs, H5 l = some (.lst vs) ∧ Paired (RwT H5) vs out ∧ CntN H5 d (tk.length + i) c ∧ out.length ≤ i ∧ out ++ leftF pl (wr.drop i) c = leftF pl wr (cnt0 tk))
    ⟨⟨_, _, _, _, _, rfl⟩, s4, g4, [], cnt0 tk, [], g3, .nil, c3, Nat.le_refl _, by simp⟩ (fun i σ H5 _ ⟨_, _, g, _⟩ => SqL.of g) (fun i u σ H0 H5 hi ⟨⟨v5, v6, v7, v8, v9, e1⟩, s5, g5, out, c, vs, gl, pv, c5, ol, eq5⟩ yl => ?_) (fun σ H5 ⟨⟨v5, v6, v7, v8, v9, e1⟩, s5, g5, out, c, vs, gl, pv, c5, ol, eq5⟩ => ?_)
  rotate_left
  · subst e1
    rw [wrl, List.drop_of_length_le (Nat.le_refl _)] at eq5
    have eo : out = leftF pl wr (cnt0 tk) := by rw [← eq5]; simp [leftF]
    exact ⟨_, rfl, q _ l vs s5 hl gl (eo ▸ pv)⟩
  obtain ⟨rfl, hu'⟩ := yl
  subst e1
  obtain ⟨r, hr', g, rfl, hg⟩ := paired_ix pwr hu'
  have r10 := wr10 r (List.mem_of_getElem? hr')
  have hin : i < wr.length := (List.getElem?_eq_some_iff.mp hr').1
  have dr : wr.drop i = r :: wr.drop (i + 1) := by
    rw [List.drop_eq_getElem_cons hin, (List.getElem?_eq_some_iff.mp hr').2]
  refine ⟨g, _, rfl, SqT.of (s5 _ _ hg), rfl, _, _, rfl, _, _, rfl, _, _, rfl, rfl, ?_⟩
  obtain ⟨dxp, fv, hp, hfl⟩ := hP
  have hp5 := s5 _ _ hp
  obtain ⟨o, h1, h2⟩ := c5.get r.1
  have hisd : IsD H5 d := by obtain ⟨l', h, _⟩ := c5; exact .inl ⟨_, .inl h⟩
  refine ⟨_, rfl, d, rfl, hisd, _, rfl, o, h1, 2, (c r.1 : Nat), by rw [h2], ?_⟩
  dsimp only [gName]
  -- tidied away
  refine seqW (fun σ' H' => σ' = [some (.ref p), some (.ref wa), some (.ref ta), some (.ref d), some (.ref l), some (.str (sw r.1)), v6, some (oV r.2.1), some (.bl r.2.2), some (.int (if ((c r.1 : Nat) : Int) < 2 then ((c r.1 : Nat) : Int) else 2))] ∧ H' = H5 ∧ keepB pl (c r.1) r = true) (fun N hN => ?_) (fun σ' H6 ⟨e6, eh, hk⟩ => ?_)
  · have away : keepB pl (c r.1) r = false → out ++ leftF pl (wr.drop (i + 1)) c = leftF pl wr (cnt0 tk) := fun hb => by
      rw [dr] at eq5
      rw [← eq5]
      simp [leftF, hb]
    refine ⟨_, rfl, p, _, dxp, _, _, rfl, hp5, T.cl_Plan, T.na_Plan_tidy, pf_tidy _ _, _, rfl, ?_⟩
    refine ite2 (fun ht => ?_) (fun ht => iteF (hN _ _ ⟨rfl, rfl, keepB_yes fun z => ht z.1⟩))
    refine ⟨_, rfl, rfl, _, rfl, ?_⟩
    rw [mt_eq, sw_dec]
    by_cases h0 : r.1 = []
    · rw [decide_eq_true h0]
      exact iteF (iteF (hN _ _ ⟨rfl, rfl, keepB_yes fun z => z.2.1 h0⟩))
    rw [decide_eq_false h0]
    refine iteT ?_
    refine ⟨_, rfl, rfl, _, rfl, ?_⟩
    rw [oV_non]
    refine ite2 (fun h3 => ?_) (fun h3 => iteF (hN _ _ ⟨rfl, rfl, keepB_yes fun z => h3 (decide_eq_true z.2.2.1)⟩))
    have h3 := of_decide_eq_true h3
    refine ⟨_, rfl, rfl, _, rfl, ?_⟩
    have e4 : decide (V.int (if ((c r.1 : Nat) : Int) < 2 then ((c r.1 : Nat) : Int) else 2) = V.int 0) = decide (c r.1 = 0) := by
      refine decide_eq_decide.mpr ⟨fun h => ?_, fun h => by rw [h]; rfl⟩
      have := V.int.inj h
      split at this <;> omega
    rw [e4]
    refine ite2 (fun h4 => ?_) (fun h4 => hN _ _ ⟨rfl, rfl, keepB_yes fun z => h4 (decide_eq_true z.2.2.2)⟩)
    have hb := keepB_no ht h0 h3 (of_decide_eq_true h4)
    exact ⟨⟨_, _, _, _, _, rfl⟩, s5, g5, out, c, vs, gl, pv, by rw [← Nat.add_assoc]; obtain ⟨l', a1, a2, a3⟩ := c5; exact ⟨l', a1, by omega, a3⟩, by omega, away hb⟩
  subst e6 eh
  -- its row
  refine seqW (fun σ' H' => σ' = [some (.ref p), some (.ref wa), some (.ref ta), some (.ref d), some (.ref l), some (.str (sw r.1)), v6, some (oV r.2.1), some (.bl r.2.2), some (.int (if ((c r.1 : Nat) : Int) < 2 then ((c r.1 : Nat) : Int) else 2))] ∧ Same H H' ∧ H' rv = some (.lst wsr) ∧ CntN H' d (tk.length + i) c ∧ ∃ u, H' l = some (.lst (vs ++ [u])) ∧ Paired (RwT H') (vs ++ [u]) (out ++ [outR pl (c r.1) r])) (fun N hN => ?_) (fun σ' H7 ⟨e7, s7, g7, c7, u, gl7, pv7⟩ => ?_)
  · have put : ∀ (H8 : Hp) (t : Addr), Same H6 H8 → H8 l = some (.lst vs) → H8 t = none → CntN H8 d (tk.length + i) c → H8 rv = some (.lst wsr) → ∀ r' : Rw, r' = outR pl (c r.1) r → ∃ h : True, vs.length < sizeLine ∧ N [some (.ref p), some (.ref wa), some (.ref ta), some (.ref d), some (.ref l), some (.str (sw r.1)), v6, some (oV r.2.1), some (.bl r.2.2), some (.int (if ((c r.1 : Nat) : Int) < 2 then ((c r.1 : Nat) : Int) else 2))] (upd (upd H8 t (.tup [.str (sw r'.1), oV r'.2.1, .bl r'.2.2])) l (.lst (vs ++ [.ref t]))) := fun H8 t s6 gl6 ht c6 g6 r' er => by
      have st := same_upd (o := .tup [V.str (sw r'.1), oV r'.2.1, .bl r'.2.2]) ht
      have gt : (upd H8 t (.tup [V.str (sw r'.1), oV r'.2.1, .bl r'.2.2])) t = some (.tup [V.str (sw r'.1), oV r'.2.1, .bl r'.2.2]) := upd_same
      have gl7 := st _ _ gl6
      have g7 := st _ _ g6
      have c7 := c6.kp (H' := upd H8 t (.tup [V.str (sw r'.1), oV r'.2.1, .bl r'.2.2])) fun kvs h => st _ _ h
      have s7 := s6.trans st
      generalize upd H8 t (.tup [V.str (sw r'.1), oV r'.2.1, .bl r'.2.2]) = H7 at gt gl7 g7 c7 s7
      have tp : ∀ b us, H7 b = some (.tup us) → (upd H7 l (.lst (vs ++ [.ref t]))) b = some (.tup us) := fun b us hb => by rw [upd_ne (ne_of hb gl7 (by intro z; cases z))]; exact hb
      refine ⟨trivial, by rw [pv.length, sizeLine_eq]; omega, hN _ _ ⟨rfl, same_of_new (s5.trans s7) hl, by rw [upd_ne (Ne.symm nrl)]; exact g7, c7.kp fun kvs h => by rw [upd_ne ndl.symm]; exact h, .ref t, upd_same, ?_⟩⟩
      exact paired_app (paired_mono (fun _ _ h => (h.same s7).tup tp) pv) (.cons (er ▸ ⟨t, rfl, tp _ _ gt⟩) .nil)
    refine ⟨_, rfl, p, _, dxp, _, _, rfl, hp5, T.cl_Plan, T.na_Plan_by_kind, pf_kind _ _, rfl, _, rfl, ?_⟩
    cases hfl0 : pl.fl with
    | none =>
      rw [hfl0] at hfl
      cases (show fv = .non from hfl)
      refine iteT ?_
      refine ⟨_, rfl, .inl ⟨rfl, _, SqL.of gl⟩, _, rfl, _, rfl, _, rfl, by show 3 ≤ sizeLine; decide, fun t ht => ?_⟩
      have st := same_upd (o := .tup [V.str (sw r.1), oV r.2.1, .bl r.2.2]) ht
      obtain ⟨_, hz, hN2⟩ := put H6 t (fun _ _ h => h) gl ht c5 g5 r (by unfold outR; rw [hfl0])
      exact ⟨l, vs, _, rfl, rfl, st _ _ gl, hz, hN2⟩
    | some fl =>
      rw [hfl0] at hfl
      obtain ⟨df, rfl, hdn⟩ := hfl
      refine iteF ?_
      have e1 : decide (V.str (sw r.1) = V.str "") = decide (r.1 = []) := by rw [mt_eq, sw_dec]
      have e2 : (!decide (oV r.2.1 = V.non)) = r.2.1.isSome := by rw [oV_non]; cases r.2.1 <;> rfl
      have e3 : (if ((c r.1 : Nat) : Int) < 2 then ((c r.1 : Nat) : Int) else 2) = min 2 ((c r.1 : Nat) : Int) := by split <;> omega
      refine ⟨_, rfl, .inl ⟨rfl, _, SqL.of gl⟩, _, rfl, _, rfl, _, rfl, p, _, dxp, _, _, rfl, hp5, T.cl_Plan, T.na_Plan_by_kind, pf_kind _ _, _, rfl, rfl, _, rfl, rfl, _, rfl, by show 3 ≤ sizeLine; decide, fun kt hkt => ?_⟩
      have hk3 : KeyAt K (upd H6 kt (.tup [V.bl (decide (V.str (sw r.1) = V.str "")), V.bl (!decide (oV r.2.1 = V.non)), V.int (if ((c r.1 : Nat) : Int) < 2 then ((c r.1 : Nat) : Int) else 2)])) (nk3 (decide (r.1 = []), r.2.1.isSome, min 2 ((c r.1 : Nat) : Int))) kt := by
        rw [e1, e2, e3]
        exact key3 (SqT.of upd_same)
      have sk := same_upd (o := .tup [V.bl (decide (V.str (sw r.1) = V.str "")), V.bl (!decide (oV r.2.1 = V.non)), V.int (if ((c r.1 : Nat) : Int) < 2 then ((c r.1 : Nat) : Int) else 2)]) hkt
      refine ⟨df, kt, _, _, _, rfl, rfl, DN.same (s5.trans sk) hdn, hk3, val12 fl (by omega) (by omega), by show 3 ≤ sizeLine; decide, fun t ht => ?_⟩
      have st := same_upd (o := .tup [V.str (sw r.1), oV r.2.1, .bl (fl (decide (r.1 = [])) r.2.1.isSome (min 2 ((c r.1 : Nat) : Int)))]) ht
      obtain ⟨_, hz, hN2⟩ := put _ t sk (sk _ _ gl) ht (c5.kp fun kvs h => sk _ _ h) (sk _ _ g5) (r.1, r.2.1, fl (decide (r.1 = [])) r.2.1.isSome (min 2 ((c r.1 : Nat) : Int))) (by unfold outR; rw [hfl0])
      exact ⟨l, vs, _, rfl, rfl, st _ _ (sk _ _ gl), hz, hN2⟩
  subst e7
  have keep : ∀ c', (c' = if r.1 = [] then c else bump c r.1.dropLast) → (out ++ [outR pl (c r.1) r]) ++ leftF pl (wr.drop (i + 1)) c' = leftF pl wr (cnt0 tk) := fun c' e => by
    rw [dr] at eq5
    rw [← eq5, e]
    simp [leftF, hk]
  have nl : ∀ H' : Hp, (∃ o, H' = upd H7 d o) → Same H H' ∧ H' rv = some (.lst wsr) ∧ H' l = some (.lst (vs ++ [u])) ∧ Paired (RwT H') (vs ++ [u]) (out ++ [outR pl (c r.1) r]) := fun H' ⟨o, e⟩ => by
    subst e
    obtain ⟨l', hd7, _⟩ := c7
    exact ⟨same_of_new s7 hd, by rw [upd_ne (Ne.symm nrd)]; exact g7, by rw [upd_ne ndl]; exact gl7, paired_mono (fun _ _ h => h.tup fun b us hb => by rw [upd_ne (ne_of hb hd7 (by intro z; cases z))]; exact hb) pv7⟩
  refine ⟨_, rfl, rfl, _, rfl, ?_⟩
  rw [mt_eq, sw_dec]
  by_cases h0 : r.1 = []
  · rw [decide_eq_true h0]
    exact iteF ⟨⟨_, _, _, _, _, rfl⟩, s7, g7, _, c, _, gl7, pv7, (by rw [← Nat.add_assoc]; obtain ⟨l', a1, a2, a3⟩ := c7; exact ⟨l', a1, by omega, a3⟩), by rw [List.length_append]; show _ + 1 ≤ _; omega, keep c (by rw [if_pos h0])⟩
  · rw [decide_eq_false h0]
    refine iteT ?_
    refine bump_st (q := r.1) rfl rfl r10 c7 (by omega) fun H8 c8 ho => ?_
    obtain ⟨s8, g8, gl8, pv8⟩ := nl H8 ho
    exact ⟨⟨_, _, _, _, _, rfl⟩, s8, g8, _, bump c r.1.dropLast, _, gl8, pv8, by rw [← Nat.add_assoc]; exact c8, by rw [List.length_append]; show _ + 1 ≤ _; omega, keep _ (by rw [if_neg h0])⟩
end
end Toy
set_option Elab.async false
set_option linter.all false
set_option maxRecDepth 100000
set_option maxHeartbeats 4000000
namespace Toy
open PySem L2 Sh ShL LamX NdefX
/-! ### Plan, without flags -/
def spOneOf (K : PySem.W.Frag) : Sp := fun vs H Q _ => ∃ (z : Str) (g : Addr) (xs : List V), vs = [.str z, .ref g] ∧ SqT K H g xs ∧ xs.all flatV = true ∧ inV (.str z) xs = true ∧ Q (.bl true) H
theorem inGo (g : Go) : inV (.str g.s) [.str "clash", .str "kept", .str "bare", .str "base"] = true := by cases g <;> decide +kernel
theorem inAl (g : Al) : inV (.str g.s) [.str "take", .str "clash"] = true := by cases g <;> decide +kernel
theorem inUn (g : Un) : inV (.str g.s) [.str "clash", .str "one", .str "other"] = true := by cases g <;> decide +kernel
def spAreFlags0 : Sp := fun vs H Q _ => vs = [.non] ∧ Q (.bl true) H
def spPlan (P : Program) (w : World) (K : PySem.W.Frag) (C : Addr) : Sp := fun vs H Q _ => ∃ (x dx : Addr) (pl : Pl), vs = [.ref x, .str pl.go.s, .str pl.al.s, .str pl.un.s, .bl pl.ti, .non] ∧ pl.fl = none ∧ H x = some (.ins C dx []) ∧ ∀ H', Kp x H H' → PlanAt P w K C H' x pl → Q .non H'
section
variable {P : Program} {w : World} {K : PySem.W.Frag} {mg : Str → Option Value} {base : Heap}
theorem ok_is_one_of (T : Tx P K mg) (B : Bx T base) : FnOk P w K mg base CX0 1 T.a_is_one_of T.fd_is_one_of ["value", "names"] (spOneOf K) := by
  refine okT T.F_is_one_of sc_is_one_of (fun vs H Q E h => ?_) (fun cdv A outer s H vs Q E hcd hr h => ?_)
  · obtain ⟨z, g, xs, rfl, _⟩ := h
    rfl
  obtain ⟨z, g, xs, rfl, hg, hf, hi, q⟩ := h
  have hu := hu_of hr
  have hu65 := hu65_of hr
  refine ⟨_, (pss_one (ps_ret (pe_and (pe_callB call_isi (by rfl) T.b_isinstance (by decide +kernel) (pa_cons (pv 0) (pa_cons (pe_bltn (v := .ty "str") (by rfl) T.b_str (by decide +kernel) rfl) pa_nil))) (pe_one (pe_cmpR op_in_seq (pv 0) (pv 1) (by rfl)))))), ?_⟩
  refine ⟨_, rfl, _, _, _, _, true, rfl, .ty _, .base (.str _), kit_ty (by decide +kernel), _, rfl, iteT ⟨_, rfl, _, rfl, g, xs, rfl, .inr hg, rfl, hf, ?_⟩⟩
  show Q (.bl (inV (.str z) xs)) H
  rw [hi]
  exact q
theorem ok_are_flags (T : Tx P K mg) (B : Bx T base) : FnOk P w K mg base CX0 1 T.a_are_flags T.fd_are_flags ["flags"] spAreFlags0 := by
  refine okT T.F_are_flags sc_are_flags (fun vs H Q E h => ?_) (fun cdv A outer s H vs Q E hcd hr h => ?_)
  · obtain ⟨rfl, _⟩ := h
    rfl
  obtain ⟨rfl, q⟩ := h
  have hu := hu_of hr
  have hu65 := hu65_of hr
  refine ⟨_, (pss_cons (ps_if (pt_cmpR op_isN (pv 0) pe_non (nomark _))
 (pss_one (ps_ret pe_bl))
 pss_nil)
 (pss_cons (ps_if (PW.pt (pw_or (pt_not (pt_val (pe_callB call_isiN (by rfl) T.b_isinstance (by decide +kernel) (pa_cons (pv 0) (pa_cons (pe_bltn (v := .ty "dict") (by rfl) T.b_dict (by decide +kernel) rfl) pa_nil))))) (pw_or1 (pt_cmpR op_ne (pe_callB call_lenN (by rfl) T.b_len (by decide +kernel) (pa_cons (pv 0) pa_nil)) (pe_callB call_len_seq (by rfl) T.b_len (by decide +kernel) (pa_cons (pe_glob (v := .ref T.g_KEYS) (by rfl) T.m_KEYS rfl) pa_nil)) (nomark _)))))
 (pss_one (ps_ret pe_bl))
 pss_nil)
 (pss_one (ps_ret (pe_callB (cr_all rfl) (by rfl) T.b_all (by decide +kernel) (pa_cons (pe_lc (own := [("key", 1)]) (g := gName 1) rfl sc_are_flags.nd (pi_tup (pe_glob (v := .ref T.g_KEYS) (by rfl) T.m_KEYS rfl)) (blkOk_by (own := [("key", 1)]) (N := N_are_flags) (sc := defScope s_are_flags) (by decide +kernel)) (fun _ _ _ _ _ => (pg_name (i := 1) sc_are_flags.nd rfl (by first | exact Or.inl rfl | exact Or.inr rfl))) (fun _ _ _ _ _ => pts_nil) (fun _ _ _ _ _ => (pe_and (pe_cmpR (by exact (op_dinN hu65) : OpR _ (compareOp .In) (rDInN P w K)) (pv 1) (pv 0) (by rfl)) (pe_one (pe_callB (by exact call_isi : CallR _ (.builtin "isinstance") (rIsi K)) (by rfl) T.b_isinstance (by decide +kernel) (pa_cons (by exact (pe_dgetN hu65 (pv 0) (pv 1) (fun _ _ => rfl)) : PE _ _ (tDGetN P w K (tVar 0) (tVar 1))) (pa_cons (pe_bltn (v := .ty "bool") (by rfl) T.b_bool (by decide +kernel) rfl) pa_nil))))))) pa_nil)))))), ?_⟩
  exact ⟨_, rfl, rfl, _, rfl, iteT q⟩
theorem ok_Plan_init (T : Tx P K mg) (B : Bx T base) : FnOk P w K mg base CX0 2 T.a_Plan_init T.fd_Plan_init ["self", "gone", "alike", "unlike", "tidy", "flags"] (spPlan P w K T.c_Plan) := by
  refine T.F_Plan_init.ok (CX := CX0) sc_Plan_init (fun vs H Q E h => ?_) (fun cdv A outer s H vs Q E hr h => ?_)
  · obtain ⟨x, dx, pl, rfl, _⟩ := h
    rfl
  have hu := hu_of hr
  have hu65 := hu65_of hr
  obtain ⟨x, dx, pl, rfl, hf, hx, q⟩ := h
  refine ⟨_, PSs.nox (pss_cons (ps_if (pt_not (pt_val (pe_call (ok_is_one_of (w := w) T B) (hr.mono (by decide)) (by rfl) T.m_is_one_of T.F_is_one_of.kp T.bi_is_one_of .nil pass0 (pa_cons (pv 1) (pa_cons (pe_glob (v := .ref T.g_GONE) (by rfl) T.m_GONE rfl) pa_nil)))))
 (pss_one ps_never)
 pss_nil)
 (pss_cons (ps_if (pt_not (pt_val (pe_call (ok_is_one_of (w := w) T B) (hr.mono (by decide)) (by rfl) T.m_is_one_of T.F_is_one_of.kp T.bi_is_one_of .nil pass0 (pa_cons (pv 2) (pa_cons (pe_glob (v := .ref T.g_ALIKE) (by rfl) T.m_ALIKE rfl) pa_nil)))))
 (pss_one ps_never)
 pss_nil)
 (pss_cons (ps_if (pt_not (pt_val (pe_call (ok_is_one_of (w := w) T B) (hr.mono (by decide)) (by rfl) T.m_is_one_of T.F_is_one_of.kp T.bi_is_one_of .nil pass0 (pa_cons (pv 3) (pa_cons (pe_glob (v := .ref T.g_UNLIKE) (by rfl) T.m_UNLIKE rfl) pa_nil)))))
 (pss_one ps_never)
 pss_nil)
 (pss_cons (ps_if (pt_not (pt_val (pe_callB call_isi (by rfl) T.b_isinstance (by decide +kernel) (pa_cons (pv 4) (pa_cons (pe_bltn (v := .ty "bool") (by rfl) T.b_bool (by decide +kernel) rfl) pa_nil)))))
 (pss_one ps_never)
 pss_nil)
 (pss_cons (ps_if (pt_not (pt_val (pe_call (ok_are_flags (w := w) T B) (hr.mono (by decide)) (by rfl) T.m_are_flags T.F_are_flags.kp T.bi_are_flags .nil pass0 (pa_cons (pv 5) pa_nil))))
 (pss_one ps_never)
 pss_nil)
 (pss_cons (ps_fld (pv 0) (pv 1) rfl)
 (pss_cons (ps_fld (pv 0) (pv 2) rfl)
 (pss_cons (ps_fld (pv 0) (pv 3) rfl)
 (pss_cons (ps_fld (pv 0) (pv 4) rfl)
 (pss_one (ps_fld (pv 0) (pe_ifExp (pt_cmpR op_isN (pv 5) pe_non (nomark _)) pe_non (pe_dc (own := [("key", 6)]) (g := gName 6) rfl sc_Plan_init.nd (pi_tup (pe_glob (v := .ref T.g_KEYS) (by rfl) T.m_KEYS rfl)) (blkOk_by (own := [("key", 6)]) (N := N_Plan_init) (sc := defScope s_Plan_init) (by decide +kernel)) (fun _ _ _ _ _ => (pg_name (i := 6) sc_Plan_init.nd rfl (by first | exact Or.inl rfl | exact Or.inr rfl))) (fun _ _ _ _ _ => pts_nil) (fun _ _ _ _ _ => (pv 6)) (fun _ _ _ _ _ => (by exact (pe_dgetN hu65 (pv 5) (pv 6) (fun _ _ => rfl)) : PE _ _ (tDGetN P w K (tVar 5) (tVar 6)))))) rfl))))))))))), ?_⟩
  refine ⟨_, rfl, _, T.g_GONE, _, rfl, T.q_GONE _, rfl, inGo _, _, rfl, iteF ?_⟩
  refine nextS ?_
  dsimp only
  refine ⟨_, rfl, _, T.g_ALIKE, _, rfl, T.q_ALIKE _, rfl, inAl _, _, rfl, iteF ?_⟩
  refine nextS ?_
  dsimp only
  refine ⟨_, rfl, _, T.g_UNLIKE, _, rfl, T.q_UNLIKE _, rfl, inUn _, _, rfl, iteF ?_⟩
  refine nextS ?_
  dsimp only
  refine ⟨_, rfl, _, _, _, _, true, rfl, .ty _, .base (.bl _), kit_ty (by decide +kernel), _, rfl, iteF ?_⟩
  refine nextS ?_
  dsimp only
  refine ⟨_, rfl, rfl, ⟨_, rfl, iteF ?_⟩⟩
  refine nextS ?_
  dsimp only
  refine ⟨_, rfl, _, rfl, x, T.c_Plan, dx, [], rfl, hx, T.cl_Plan, T.na_Plan_gone, (by show 0 < 1000; decide), ?_⟩
  refine ⟨_, rfl, _, rfl, x, T.c_Plan, dx, _, rfl, upd_same, T.cl_Plan, T.na_Plan_alike, (by show 1 < 1000; decide), ?_⟩
  refine ⟨_, rfl, _, rfl, x, T.c_Plan, dx, _, rfl, upd_same, T.cl_Plan, T.na_Plan_unlike, (by show 2 < 1000; decide), ?_⟩
  refine ⟨_, rfl, _, rfl, x, T.c_Plan, dx, _, rfl, upd_same, T.cl_Plan, T.na_Plan_tidy, (by show 3 < 1000; decide), ?_⟩
  generalize hH2 : upd _ x _ = H2
  have hx2 : H2 x = some (.ins T.c_Plan dx (putF "tidy" (.bl pl.ti) (putF "unlike" (.str pl.un.s) (putF "alike" (.str pl.al.s) (putF "gone" (.str pl.go.s) []))))) := by rw [← hH2]; exact upd_same
  have kp2 : Kp x H H2 := by
    rw [← hH2]
    exact ((kp_put.trans kp_put).trans kp_put).trans kp_put
  clear hH2
  refine ⟨_, rfl, rfl, _, rfl, ?_⟩
  refine iteT ?_
  refine ⟨_, rfl, x, T.c_Plan, dx, _, rfl, hx2, T.cl_Plan, T.na_Plan_by_kind, (by show 4 < 1000; decide), ?_⟩
  exact q _ (kp2.trans kp_put) ⟨dx, .non, upd_same, by rw [hf]; rfl⟩
end
end Toy
set_option Elab.async false
set_option linter.all false
set_option maxRecDepth 100000
set_option maxHeartbeats 4000000
namespace Toy
open PySem L2 Sh ShL LamX NdefX
/-! ### part_numbers -/
/-- the part at a place, as a map of what stands below it -/
abbrev Prt := Wd → Option Cl
def prt (rs : List Rw) (p : Wd) : Prt := fun s => rs.lookup (p ++ s)
open Classical in
/-- where a part stands in a list of parts -/
noncomputable def idxP (ps : List Prt) (q : Prt) : Nat := ps.findIdx fun x => decide (x = q)
open Classical in
theorem idxP_inj {ps : List Prt} {q q' : Prt} (h : q ∈ ps) (h' : q' ∈ ps) : idxP ps q = idxP ps q' ↔ q = q' := by
  constructor
  · intro e
    have a := List.findIdx_getElem (xs := ps) (p := fun x => decide (x = q)) (w := List.findIdx_lt_length_of_exists ⟨q, h, decide_eq_true rfl⟩)
    have b := List.findIdx_getElem (xs := ps) (p := fun x => decide (x = q')) (w := List.findIdx_lt_length_of_exists ⟨q', h', decide_eq_true rfl⟩)
    have a := of_decide_eq_true a
    have b := of_decide_eq_true b
    unfold idxP at e
    rw [← a, ← b]
    congr 1
  · intro e
    rw [e]
open Classical in
theorem idxP_app {ps : List Prt} {q : Prt} (r : List Prt) (h : q ∈ ps) : idxP (ps ++ r) q = idxP ps q := by
  unfold idxP
  rw [List.findIdx_append, if_pos (List.findIdx_lt_length_of_exists ⟨q, h, decide_eq_true rfl⟩)]
open Classical in
theorem idxP_new {ps : List Prt} {q : Prt} (h : q ∉ ps) : idxP (ps ++ [q]) q = ps.length := by
  unfold idxP
  have hn : ps.findIdx (fun x => decide (x = q)) = ps.length := List.findIdx_eq_length.mpr fun x hx => decide_eq_false fun e => h (e ▸ hx)
  rw [List.findIdx_append, if_neg (by rw [hn]; omega)]
  simp
end Toy
set_option Elab.async false
set_option linter.all false
set_option maxRecDepth 100000
set_option maxHeartbeats 4000000
namespace Toy
open PySem L2 Sh ShL LamX NdefX
/-! ### the keys of parts -/
def nkO : OI → NestedKey
  | none => .none
  | some i => .num i
theorem nkO_inj {a b : OI} (h : nkO a = nkO b) : a = b := by
  cases a <;> cases b <;> simp_all [nkO]
def subP (q : Prt) (c : Nat) : Prt := fun s => q (c :: s)
theorem sub_prt (rs : List Rw) (p : Wd) (c : Nat) : subP (prt rs p) c = prt rs (p ++ [c]) := by
  funext s
  unfold subP prt
  rw [List.append_assoc]
  rfl
/-- a part of a tree over z -/
structure GoodP (z : Wd) (q : Prt) : Prop where
  wd : ∀ c s, q (c :: s) ≠ none → c ∈ z
  clo : ∀ c s, q (c :: s) ≠ none → q [c] ≠ none
def chs (z : Wd) (q : Prt) : Wd := z.reverse.filter fun c => (q [c]).isSome
noncomputable def chK (z : Wd) (ps : List Prt) (q : Prt) : List NestedKey := (chs z q).map fun c => .tup [.text (sw [c]), .num (idxP ps (subP q c) : Nat)]
noncomputable def keyQ (z : Wd) (ps : List Prt) (q : Prt) : NestedKey := match q [] with
  | some c => .tup [nkO c.1, .num (if c.2 = true then 1 else 0), .tup (chK z ps q)]
  | none => .none
theorem map_eq_at {α β : Type} {f : α → β} {g : α → β} : ∀ {xs ys : List α}, (∀ x y, f x = g y → x = y) → xs.map f = ys.map g → xs = ys ∧ ∀ x ∈ xs, f x = g x
  | [], [], _, _ => ⟨rfl, fun x h => by cases h⟩
  | [], y :: ys, _, h => by cases h
  | x :: xs, [], _, h => by cases h
  | x :: xs, y :: ys, inj, h => by
    rw [List.map_cons, List.map_cons] at h
    injection h with h1 h2
    obtain ⟨e, a⟩ := map_eq_at inj h2
    have exy := inj _ _ h1
    subst exy e
    exact ⟨rfl, fun u hu => by
      rcases List.mem_cons.mp hu with rfl | hu
      · exact h1
      · exact a u hu⟩
theorem keyQ_inj {z : Wd} {ps : List Prt} {q q' : Prt} (g : GoodP z q) (g' : GoodP z q') (s : ∀ c ∈ chs z q, subP q c ∈ ps) (s' : ∀ c ∈ chs z q', subP q' c ∈ ps) (h0 : q [] ≠ none) (h0' : q' [] ≠ none) (h : keyQ z ps q = keyQ z ps q') : q = q' := by
  obtain ⟨c, hc⟩ := Option.ne_none_iff_exists'.mp h0
  obtain ⟨c', hc'⟩ := Option.ne_none_iff_exists'.mp h0'
  unfold keyQ at h
  rw [hc, hc'] at h
  simp only [NestedKey.tup.injEq, List.cons.injEq, NestedKey.num.injEq, and_true] at h
  obtain ⟨h1, h2, h3⟩ := h
  have e0 : c = c' := by
    obtain ⟨a, b⟩ := c
    obtain ⟨a', b'⟩ := c'
    have := nkO_inj h1
    dsimp only at this h2
    subst this
    cases b <;> cases b' <;> simp_all
  unfold chK at h3
  obtain ⟨e1, e2⟩ := map_eq_at (fun x y e => by
    simp only [NestedKey.tup.injEq, List.cons.injEq, NestedKey.text.injEq] at e
    have := sw_inj e.1
    simpa using this) h3
  funext t
  cases t with
  | nil => rw [hc, hc', e0]
  | cons d t =>
    by_cases hd : d ∈ chs z q
    · have := e2 d hd
      simp only [NestedKey.tup.injEq, List.cons.injEq, NestedKey.num.injEq, and_true, true_and] at this
      have hi : idxP ps (subP q d) = idxP ps (subP q' d) := by omega
      have := (idxP_inj (s d hd) (s' d (e1 ▸ hd))).mp hi
      exact congrFun this t
    · have no : ∀ {q : Prt}, GoodP z q → d ∉ chs z q → q (d :: t) = none := fun {q} g hn => by
        refine Classical.byContradiction fun hne => ?_
        exact hn (List.mem_filter.mpr ⟨List.mem_reverse.mpr (g.wd d t hne), Option.isSome_iff_ne_none.mpr (g.clo d t hne)⟩)
      exact (no g hd).trans (no g' (e1 ▸ hd)).symm
theorem keyQ_app {z : Wd} {ps : List Prt} {q : Prt} (r : List Prt) (s : ∀ c ∈ chs z q, subP q c ∈ ps) : keyQ z (ps ++ r) q = keyQ z ps q := by
  unfold keyQ
  have : chK z (ps ++ r) q = chK z ps q := by
    unfold chK
    exact List.map_congr_left fun c hc => by rw [idxP_app r (s c hc)]
  rw [this]
end Toy
set_option Elab.async false
set_option linter.all false
set_option maxRecDepth 100000
set_option maxHeartbeats 4000000
namespace Toy
open PySem L2 Sh ShL LamX NdefX
/-! ### parts of trees -/
structure TrOk (z : Wd) (rs : List Rw) : Prop where
  nd : (rs.map (·.1)).Nodup
  root : [] ∈ rs.map (·.1)
  clo : ∀ p ∈ rs.map (·.1), ∀ n, p.take n ∈ rs.map (·.1)
  wd : ∀ p ∈ rs.map (·.1), ∀ c ∈ p, c ∈ z
  l200 : ∀ p ∈ rs.map (·.1), p.length ≤ 200
  par : ParAhead rs
  len : rs.length ≤ 2000
  ord : rs.map (·.1) = ordW z (rs.map (·.1))
theorem lookup_ne {rs : List Rw} {p : Wd} : rs.lookup p ≠ none ↔ p ∈ rs.map (·.1) := by
  constructor
  · intro h
    obtain ⟨c, hc⟩ := Option.ne_none_iff_exists'.mp h
    exact List.mem_map.mpr ⟨_, lookup_mem hc, rfl⟩
  · intro h e
    induction rs with
    | nil => cases h
    | cons q t ih =>
      rw [List.lookup_cons] at e
      by_cases hp : p = q.1
      · subst hp
        simp at e
      · have : (p == q.1) = false := by simpa using hp
        rw [this] at e
        rcases List.mem_cons.mp h with h | h
        · exact hp h
        · exact ih h e
theorem TrOk.good {z : Wd} {rs : List Rw} (h : TrOk z rs) (p : Wd) : GoodP z (prt rs p) := by
  refine ⟨fun c s hc => ?_, fun c s hc => ?_⟩
  · exact h.wd _ (lookup_ne.mp hc) c (List.mem_append_right _ List.mem_cons_self)
  · refine lookup_ne.mpr ?_
    have := h.clo _ (lookup_ne.mp hc) (p.length + 1)
    rw [show p ++ c :: s = (p ++ [c]) ++ s by simp, List.take_append_of_le_length (by simp), List.take_of_length_le (by simp)] at this
    exact this
theorem prt_nil {rs : List Rw} {p : Wd} : prt rs p [] = rs.lookup p := by
  unfold prt
  rw [List.append_nil]
theorem prt_none {z : Wd} {rs : List Rw} (h : TrOk z rs) {p : Wd} (hp : p ∉ rs.map (·.1)) : prt rs p = fun _ => none := by
  funext s
  refine Classical.byContradiction fun hne => hp ?_
  have := h.clo _ (lookup_ne.mp hne) p.length
  rw [List.take_append_of_le_length (Nat.le_refl _), List.take_of_length_le (Nat.le_refl _)] at this
  exact this
theorem chs_prt {z : Wd} {rs : List Rw} {p : Wd} {c : Nat} : c ∈ chs z (prt rs p) ↔ c ∈ z ∧ p ++ [c] ∈ rs.map (·.1) := by
  unfold chs
  rw [List.mem_filter, List.mem_reverse, Option.isSome_iff_ne_none]
  exact and_congr_right fun _ => lookup_ne
end Toy
set_option Elab.async false
set_option linter.all false
set_option maxRecDepth 100000
set_option maxHeartbeats 4000000
namespace Toy
open PySem L2 Sh ShL LamX NdefX
/-! ### the known keys -/
structure PsOk (z : Wd) (ps : List Prt) : Prop where
  nd : ps.Nodup
  good : ∀ q ∈ ps, GoodP z q
  here : ∀ q ∈ ps, q [] ≠ none
  sub : ∀ q ∈ ps, ∀ c ∈ chs z q, subP q c ∈ ps
noncomputable def knF (z : Wd) (ps : List Prt) (qs : List Prt) : List (NestedKey × V) := qs.map fun q => (keyQ z ps q, V.int (idxP ps q : Nat))
noncomputable def knL (z : Wd) (ps : List Prt) : List (NestedKey × V) := knF z ps ps
theorem knL_new {z : Wd} {ps : List Prt} {q : Prt} (h : PsOk z ps) (hq : q ∉ ps) (hs : ∀ c ∈ chs z q, subP q c ∈ ps) : knL z (ps ++ [q]) = knL z ps ++ [(keyQ z ps q, V.int (ps.length : Nat))] := by
  unfold knL knF
  rw [List.map_append]
  congr 1
  · exact List.map_congr_left fun x hx => by rw [keyQ_app _ (h.sub x hx), idxP_app _ hx]
  · rw [List.map_singleton, keyQ_app _ hs, idxP_new hq]
theorem PsOk.new {z : Wd} {ps : List Prt} {q : Prt} (h : PsOk z ps) (hq : q ∉ ps) (g : GoodP z q) (h0 : q [] ≠ none) (hs : ∀ c ∈ chs z q, subP q c ∈ ps) : PsOk z (ps ++ [q]) := by
  refine ⟨List.nodup_append.mpr ⟨h.nd, by simp, fun a ha b hb e => hq (by rw [← List.mem_singleton.mp hb, ← e]; exact ha)⟩, fun x hx => ?_, fun x hx => ?_, fun x hx c hc => ?_⟩
  · rcases List.mem_append.mp hx with hx | hx
    · exact h.good x hx
    · rw [List.mem_singleton.mp hx]; exact g
  · rcases List.mem_append.mp hx with hx | hx
    · exact h.here x hx
    · rw [List.mem_singleton.mp hx]; exact h0
  · rcases List.mem_append.mp hx with hx | hx
    · exact List.mem_append_left _ (h.sub x hx c hc)
    · rw [List.mem_singleton.mp hx] at hc ⊢
      exact List.mem_append_left _ (hs c hc)
theorem knF_some {z : Wd} {ps : List Prt} {q : Prt} : ∀ {qs : List Prt}, (∀ x ∈ qs, keyQ z ps x = keyQ z ps q → x = q) → q ∈ qs → valV (knF z ps qs) (keyQ z ps q) = some (.int (idxP ps q : Nat))
  | x :: qs, inj, h => by
    show valV ((keyQ z ps x, V.int (idxP ps x : Nat)) :: knF z ps qs) (keyQ z ps q) = _
    by_cases e : keyQ z ps x = keyQ z ps q
    · have := inj x List.mem_cons_self e
      subst this
      exact valV_pos rfl
    · rw [valV_neg e]
      rcases List.mem_cons.mp h with rfl | h
      · exact absurd rfl e
      · exact knF_some (fun y hy => inj y (List.mem_cons_of_mem _ hy)) h
theorem knF_none {z : Wd} {ps : List Prt} {q : Prt} : ∀ {qs : List Prt}, (∀ x ∈ qs, keyQ z ps x = keyQ z ps q → x = q) → q ∉ qs → valV (knF z ps qs) (keyQ z ps q) = none
  | [], _, _ => rfl
  | x :: qs, inj, h => by
    show valV ((keyQ z ps x, V.int (idxP ps x : Nat)) :: knF z ps qs) (keyQ z ps q) = _
    have ne : ¬ keyQ z ps x = keyQ z ps q := fun e => h ((inj x List.mem_cons_self e) ▸ List.mem_cons_self)
    rw [valV_neg ne]
    exact knF_none (fun y hy => inj y (List.mem_cons_of_mem _ hy)) fun hm => h (List.mem_cons_of_mem _ hm)
theorem knL_inj {z : Wd} {ps : List Prt} {q : Prt} (h : PsOk z ps) (g : GoodP z q) (h0 : q [] ≠ none) (hs : ∀ c ∈ chs z q, subP q c ∈ ps) : ∀ x ∈ ps, keyQ z ps x = keyQ z ps q → x = q :=
  fun x hx e => keyQ_inj (h.good x hx) g (h.sub x hx) hs (h.here x hx) h0 e
end Toy
set_option Elab.async false
set_option linter.all false
set_option maxRecDepth 100000
set_option maxHeartbeats 4000000
namespace Toy
open PySem L2 Sh ShL LamX NdefX
/-! ### part_numbers, the walk -/
noncomputable def numL (ps : List Prt) (rs : List Rw) : List (Wd × V) := rs.reverse.map fun r => (r.1, V.int (idxP ps (prt rs r.1) : Nat))
theorem numL_app {ps : List Prt} (r : List Prt) {rs : List Rw} (h : ∀ x ∈ rs, prt rs x.1 ∈ ps) : numL (ps ++ r) rs = numL ps rs := by
  unfold numL
  exact List.map_congr_left fun x hx => by rw [idxP_app r (h x (List.mem_reverse.mp hx))]
def TrR (C : Addr) (z : Wd) (H : Hp) (v : V) (rs : List Rw) : Prop := ∃ o, v = .ref o ∧ TreeAt C H o z rs ∧ TrOk z rs
def NumR (ps : List Prt) (H : Hp) (v : V) (rs : List Rw) : Prop := ∃ d, v = .ref d ∧ H d = some (.dK (kdl (numL ps rs)))
def spNumbers (P : Program) (w : World) (K : PySem.W.Frag) (C : Addr) : Sp := fun vs H Q _ => ∃ (ta : Addr) (z : Wd) (ts : List V) (rss : List (List Rw)), vs = [.ref ta] ∧ H ta = some (.lst ts) ∧ Paired (TrR C z H) ts rss ∧ rss.length ≤ 3 ∧ z.Nodup ∧
  ∀ H' l ds ps, Same H H' → H l = none → H' l = some (.lst ds) → Paired (NumR ps H') ds rss → PsOk z ps → (∀ rs ∈ rss, ∀ r ∈ rs, prt rs r.1 ∈ ps) → Q (.ref l) H'
end Toy
set_option Elab.async false
set_option linter.all false
set_option maxRecDepth 100000
set_option maxHeartbeats 4000000
namespace Toy
open PySem L2 Sh ShL LamX NdefX
/-! ### part_numbers: plain -/
theorem kidS_rev (qs : List Wd) (p : Wd) : kidS qs.reverse p = (kidS qs p).reverse := by
  unfold kidS
  rw [List.filterMap_reverse]
theorem kidS_no {qs : List Wd} {p : Wd} (h : ∀ q ∈ qs, ¬ (q ≠ [] ∧ q.dropLast = p)) : kidS qs p = [] := by
  unfold kidS
  rw [List.filterMap_eq_nil_iff]
  intro q hq
  unfold kidF
  rw [if_neg (h q hq)]
theorem kidS_app (a b : List Wd) (p : Wd) : kidS (a ++ b) p = kidS a p ++ kidS b p := List.filterMap_append
theorem chs_kids {z : Wd} {rs : List Rw} (h : TrOk z rs) (p : Wd) : chs z (prt rs p) = (kids z (rs.map (·.1)) p).reverse := by
  unfold chs kids
  rw [List.filter_reverse]
  congr 1
  refine List.filter_congr fun c _ => ?_
  rw [Bool.eq_iff_iff, decide_eq_true_eq, Option.isSome_iff_ne_none]
  exact lookup_ne
theorem kidS_full {z : Wd} (hz : z.Nodup) {rs : List Rw} (h : TrOk z rs) {a b : List Rw} {r : Rw} (e : rs = a ++ r :: b) : kidS (b.reverse.map (·.1)) r.1 = chs z (prt rs r.1) := by
  have srt : (rs.map (·.1)).Pairwise fun p q => kW z p ≤ kW z q := by
    rw [h.ord]
    exact ordW_sorted z _
  have k := kidS_eq hz h.wd h.nd srt r.1
  rw [chs_kids h, ← k, List.map_reverse, kidS_rev]
  congr 1
  have e2 : rs.map (·.1) = (a.map (·.1) ++ [r.1]) ++ b.map (·.1) := by rw [e]; simp
  have nd := h.nd
  rw [e2]
  rw [kidS_app, kidS_app]
  have n1 : kidS (a.map (·.1)) r.1 = [] := kidS_no fun q hq ⟨h0, h1⟩ => by
    obtain ⟨x, hx, ex⟩ := List.mem_map.mp hq
    obtain ⟨i, hi⟩ := List.mem_iff_getElem?.mp hx
    have il : i < a.length := (List.getElem?_eq_some_iff.mp hi).1
    have hp := h.par i x (by rw [e, List.getElem?_append_left il]; exact hi) (by rw [ex]; exact h0)
    rw [ex, h1, e, List.take_append_of_le_length (Nat.le_of_lt il)] at hp
    have hm : r.1 ∈ a.map (·.1) := (List.take_sublist i a).map (·.1) |>.subset hp
    rw [e, List.map_append, List.map_cons] at nd
    exact (List.nodup_append.mp nd).2.2 _ hm _ List.mem_cons_self rfl
  have n2 : kidS [r.1] r.1 = [] := kidS_no fun q hq ⟨h0, h1⟩ => by
    rw [List.mem_singleton.mp hq] at h0 h1
    have := congrArg List.length h1
    rw [List.length_dropLast] at this
    have := List.length_pos_iff.mpr h0
    omega
  rw [n1, n2]
  rfl
/-- what stands below a place, by the rows done -/
noncomputable def bel (ps : List Prt) (rs done : List Rw) (p : Wd) : List (Nat × Nat) := (kidS (done.map (·.1)) p).map fun c => (c, idxP ps (prt rs (p ++ [c])))
theorem bel_step {ps : List Prt} {rs done : List Rw} {r : Rw} (p : Wd) : bel ps rs (done ++ [r]) p = if r.1 ≠ [] ∧ r.1.dropLast = p then bel ps rs done p ++ [(r.1.getLast?.getD 0, idxP ps (prt rs r.1))] else bel ps rs done p := by
  unfold bel
  rw [List.map_append, List.map_singleton, kidS_step]
  by_cases h : r.1 ≠ [] ∧ r.1.dropLast = p
  · rw [if_pos h, if_pos h, List.map_append]
    congr 1
    have e := List.dropLast_concat_getLast h.1
    rw [List.getLast?_eq_some_getLast h.1]
    have e3 : p ++ [r.1.getLast h.1] = r.1 := by
      have := h.2
      subst this
      exact e
    show [((r.1.getLast h.1), idxP ps (prt rs (p ++ [r.1.getLast h.1])))] = _
    rw [e3]
    rfl
  · rw [if_neg h, if_neg h]
theorem bel_app {ps : List Prt} {rs done : List Rw} (r : List Prt) (h : ∀ x ∈ done, prt rs x.1 ∈ ps) (p : Wd) : bel (ps ++ r) rs done p = bel ps rs done p := by
  unfold bel
  refine List.map_congr_left fun c hc => ?_
  congr 1
  refine idxP_app r ?_
  unfold kidS at hc
  obtain ⟨q, hq, e⟩ := List.mem_filterMap.mp hc
  obtain ⟨x, hx, rfl⟩ := List.mem_map.mp hq
  rw [← kidF_some.mp e]
  exact h x hx
theorem bel_chs {z : Wd} (hz : z.Nodup) {ps : List Prt} {rs : List Rw} (h : TrOk z rs) {a b : List Rw} {r : Rw} (e : rs = a ++ r :: b) : bel ps rs b.reverse r.1 = (chs z (prt rs r.1)).map fun c => (c, idxP ps (subP (prt rs r.1) c)) := by
  unfold bel
  rw [kidS_full hz h e]
  exact List.map_congr_left fun c _ => by rw [sub_prt]
/-! ### heaps: all stands but some objects -/
def KpL (S : List Addr) (H H' : Hp) : Prop := ∀ b u, H b = some u → b ∉ S → H' b = some u
theorem KpL.refl (S : List Addr) (H : Hp) : KpL S H H := fun _ _ h _ => h
theorem KpL.put {S : List Addr} {H H' : Hp} (k : KpL S H H') {a : Addr} (h : a ∈ S) (o : HO) : KpL S H (upd H' a o) := fun b u hb hn => by
  rw [upd_ne (fun z => hn (by rw [z]; exact h))]
  exact k b u hb hn
theorem KpL.new {S : List Addr} {H H' : Hp} (k : KpL S H H') {p : Addr} (h : H' p = none) (o : HO) : KpL S H (upd H' p o) := fun b u hb hn => by
  rw [upd_ne (ne_of_none (k b u hb hn) h)]
  exact k b u hb hn
theorem KpL.same {S : List Addr} {H H1 H2 : Hp} (k : KpL S H H1) (s : Same H1 H2) : KpL S H H2 := fun b u hb hn => s _ _ (k b u hb hn)
theorem KpL.of {S : List Addr} {H H1 : Hp} (s : Same H H1) : KpL S H H1 := fun b u hb _ => s _ _ hb
theorem KpL.trans {S : List Addr} {H H1 H2 : Hp} (k : KpL S H H1) (k2 : KpL S H1 H2) : KpL S H H2 := fun b u hb hn => k2 b u (k b u hb hn) hn
theorem KpL.old {S : List Addr} {H0 H H1 : Hp} (s : Same H0 H) (k : KpL S H H1) (hn : ∀ a ∈ S, H0 a = none) : Same H0 H1 := fun b u hb => k b u (s _ _ hb) fun h => (by rw [hn b h] at hb; cases hb)
theorem KpL.mono {S S' : List Addr} {H H' : Hp} (k : KpL S H H') (h : ∀ a ∈ S, a ∈ S') : KpL S' H H' := fun b u hb hn => k b u hb fun z => hn (h b z)
/-- the pairs of letter and number -/
def ItT (H : Hp) (v : V) (c : Nat × Nat) : Prop := ∃ b, v = .ref b ∧ H b = some (.tup [.str (sw [c.1]), .int (c.2 : Nat)])
theorem ItT.tup {H H' : Hp} {v : V} {c : Nat × Nat} (k : ∀ b us, H b = some (.tup us) → H' b = some (.tup us)) (h : ItT H v c) : ItT H' v c := let ⟨b, e, h⟩ := h; ⟨b, e, k _ _ h⟩
theorem key_at {K : PySem.W.Frag} {H : Hp} {t l : Addr} {c : Cl} {vs : List V} {z : Wd} {ps : List Prt} {q : Prt} (h0 : q [] = some c) (ht : H t = some (.tup [oV c.1, .bl c.2, .ref l])) (hl : H l = some (.tup vs)) (pv : Paired (ItT H) vs ((chs z q).map fun c => (c, idxP ps (subP q c)))) : KeyAt K H (keyQ z ps q) t := by
  refine ⟨_, [nkO c.1, .num (if c.2 = true then 1 else 0), .tup (chK z ps q)], SqT.of ht, .cons ?_ (.cons ?_ (.cons ?_ .nil)), ?_⟩
  · have : nkO c.1 = nkV (oV c.1) := by cases c.1 <;> rfl
    rw [this]
    exact nkn_leaf (by cases c.1 <;> rfl)
  · exact nkn_leaf (v := .bl c.2) rfl
  · refine .inr ⟨l, vs, chK z ps q, rfl, SqT.of hl, ?_, rfl⟩
    have e : chK z ps q = ((chs z q).map fun c => (c, idxP ps (subP q c))).map fun x => NestedKey.tup [.text (sw [x.1]), .num (x.2 : Nat)] := by
      unfold chK
      rw [List.map_map]
      rfl
    rw [e]
    refine paired_map (fun v x ⟨b, e, hb⟩ => ?_) pv
    exact .inr ⟨b, _, _, e, SqT.of hb, .cons (nkn_leaf (v := .str (sw [x.1])) rfl) (.cons (nkn_leaf (v := .int (x.2 : Nat)) rfl) .nil), rfl⟩
  · unfold keyQ
    rw [h0]
/-! the dict of lists -/
structure BelAt (H : Hp) (d : Addr) (l : List (Wd × Addr)) (g : Wd → List (Nat × Nat)) : Prop where
  dd : H d = some (.dK (kdl (l.map fun q => (q.1, V.ref q.2))))
  ls : ∀ q ∈ l, ∃ vs, H q.2 = some (.lst vs) ∧ Paired (ItT H) vs (g q.1)
theorem BelAt.kp {H H' : Hp} {d : Addr} {l : List (Wd × Addr)} {g : Wd → List (Nat × Nat)} (h : BelAt H d l g) (k1 : ∀ b us, H b = some (.tup us) → H' b = some (.tup us)) (k2 : ∀ q ∈ l, ∀ us, H q.2 = some (.lst us) → H' q.2 = some (.lst us)) (k3 : ∀ kvs, H d = some (.dK kvs) → H' d = some (.dK kvs)) : BelAt H' d l g :=
  ⟨k3 _ h.dd, fun q hq => let ⟨vs, h1, h2⟩ := h.ls q hq; ⟨vs, k2 q hq _ h1, paired_mono (fun _ _ h => h.tup k1) h2⟩⟩
theorem BelAt.same {H H' : Hp} {d : Addr} {l : List (Wd × Addr)} {g : Wd → List (Nat × Nat)} (h : BelAt H d l g) (s : Same H H') : BelAt H' d l g := h.kp (fun _ _ => s _ _) (fun _ _ _ => s _ _) fun _ => s _ _
theorem BelAt.eq {H : Hp} {d : Addr} {l : List (Wd × Addr)} {g g' : Wd → List (Nat × Nat)} (h : BelAt H d l g) (e : ∀ p, g p = g' p) : BelAt H d l g' := by
  rw [← funext e]
  exact h
theorem nodup_key {α β : Type} {l : List (α × β)} (nd : (l.map (·.2)).Nodup) {x y : α × β} (hx : x ∈ l) (hy : y ∈ l) (h : x.2 = y.2) : x = y := by
  obtain ⟨i, hi⟩ := List.mem_iff_getElem?.mp hx
  obtain ⟨j, hj⟩ := List.mem_iff_getElem?.mp hy
  have il : i < (l.map (·.2)).length := by rw [List.length_map]; exact (List.getElem?_eq_some_iff.mp hi).1
  have : i = j := by
    refine (List.getElem?_inj il nd).mp ?_
    rw [List.getElem?_map, List.getElem?_map, hi, hj]
    exact congrArg some h
  subst this
  rw [hi] at hj
  exact Option.some.inj hj
theorem nodup_key1 {α β : Type} {l : List (α × β)} (nd : (l.map (·.1)).Nodup) {x y : α × β} (hx : x ∈ l) (hy : y ∈ l) (h : x.1 = y.1) : x = y := by
  obtain ⟨i, hi⟩ := List.mem_iff_getElem?.mp hx
  obtain ⟨j, hj⟩ := List.mem_iff_getElem?.mp hy
  have il : i < (l.map (·.1)).length := by rw [List.length_map]; exact (List.getElem?_eq_some_iff.mp hi).1
  have : i = j := by
    refine (List.getElem?_inj il nd).mp ?_
    rw [List.getElem?_map, List.getElem?_map, hi, hj]
    exact congrArg some h
  subst this
  rw [hi] at hj
  exact Option.some.inj hj
theorem BelAt.app {H : Hp} {d : Addr} {l : List (Wd × Addr)} {g : Wd → List (Nat × Nat)} (h : BelAt H d l g) (nd1 : (l.map (·.1)).Nodup) (nd : (l.map (·.2)).Nodup) {q : Wd × Addr} (hq : q ∈ l) {vs : List V} (hv : H q.2 = some (.lst vs)) {t : Addr} {c n : Nat} (ht : H t = some (.tup [.str (sw [c]), .int (n : Nat)])) :
    BelAt (upd H q.2 (.lst (vs ++ [.ref t]))) d l (fun p => if p = q.1 then g p ++ [(c, n)] else g p) := by
  have tp : ∀ b us, H b = some (.tup us) → (upd H q.2 (.lst (vs ++ [.ref t]))) b = some (.tup us) := fun b us hb => by
    rw [upd_ne (ne_of hb hv (by intro z; cases z))]
    exact hb
  refine ⟨by rw [upd_ne (ne_of h.dd hv (by intro z; cases z))]; exact h.dd, fun x hx => ?_⟩
  obtain ⟨us, h1, h2⟩ := h.ls x hx
  by_cases e : x.2 = q.2
  · have := nodup_key nd hx hq e
    subst this
    refine ⟨vs ++ [.ref t], upd_same, ?_⟩
    rw [if_pos rfl]
    rw [h1] at hv
    cases hv
    exact paired_app (paired_mono (fun _ _ h => h.tup tp) h2) (.cons ⟨t, rfl, tp _ _ ht⟩ .nil)
  · refine ⟨us, by rw [upd_ne e]; exact h1, ?_⟩
    by_cases e2 : x.1 = q.1
    · exact absurd (congrArg (·.2) (nodup_key1 nd1 hx hq e2)) e
    · rw [if_neg e2]
      exact paired_mono (fun _ _ h => h.tup tp) h2
end Toy
set_option Elab.async false
set_option linter.all false
set_option maxRecDepth 100000
set_option maxHeartbeats 4000000
namespace Toy
open PySem L2 Sh ShL LamX NdefX
/-! ### part_numbers: the walk -/
theorem dc_it {J : It} {n : Nat} {G : Hp → Prop} {Y : Nat → Hp → V → Hp → Prop} (w : Walk J n G Y) {g : TG} {tt : TT} {tk tv : TE} {vs : List Nat} {σ : L2.St} {H1 : Hp} {D : Addr} {Qd : Hp → Prop} (Pv : Nat → Hp → Prop) (h0 : Pv 0 (upd H1 D (.dK []))) (hG : ∀ i H, i ≤ n → Pv i H → G H)
    (hs : ∀ i x H H', i < n → Pv i H → Y i H x H' → g x (wipe σ vs) H' fun σ2 H2 => wipe σ2 vs = wipe σ vs ∧ tt σ2 H2 fun b H3 => if b = true then tk σ2 H3 fun y H4 => tv σ2 H4 fun z H5 => ∃ kvs k, y = kV k ∧ H5 D = some (.dK kvs) ∧ kvs.length < sizeLine ∧ Pv (i + 1) (upd H5 D (.dK (putK kvs k z))) else Pv (i + 1) H3)
    (hd : ∀ H, Pv n H → Qd H) :
    ∃ W : Nat → Nat → Hp → Prop, (∃ m, W 0 m (upd H1 D (.dK []))) ∧ ∀ i m H, W i m H → (J.stop i H ∧ Qd H) ∨ (J.go i H ∧ ∃ Nx : Hp → Prop, (∀ H', Nx H' → ∃ m', m' < m ∧ W (i + 1) m' H') ∧ ∀ x H', J.yld i H x H' → g x (wipe σ vs) H' fun σ2 H2 => wipe σ2 vs = wipe σ vs ∧ tt σ2 H2 fun b H3 =>
        if b = true then tk σ2 H3 fun y H4 => tv σ2 H4 fun z H5 => ∃ kvs k, y = kV k ∧ H5 D = some (.dK kvs) ∧ kvs.length < sizeLine ∧ Nx (upd H5 D (.dK (putK kvs k z))) else Nx H3) := by
  refine ⟨fun i m H => m = n - i ∧ i ≤ n ∧ Pv i H, ⟨n, by simp, Nat.zero_le _, h0⟩, ?_⟩
  rintro i m H ⟨rfl, hi, p⟩
  by_cases hlt : i < n
  · refine .inr ⟨w.goes i H hlt (hG i H hi p), Pv (i + 1), fun H' p' => ⟨n - (i + 1), by omega, rfl, hlt, p'⟩, fun x H' y => ?_⟩
    exact hs i x H H' hlt p (w.yields i H x H' hlt (hG i H hi p) y)
  · obtain rfl : i = n := by omega
    exact .inl ⟨w.stops H (hG _ H hi p), hd H p⟩
theorem DN.updO {P : Program} {w : World} {K : PySem.W.Frag} {H : Hp} {k a : Addr} {kvs : List (NestedKey × V)} {o : HO} (h : DN P w K H k kvs) (ne : k ≠ a) (nt : ∀ u, H a ≠ some (.tup u)) (nf : ∀ ob u, H a ≠ some (.frz ob u)) : DN P w K (upd H a o) k kvs := by
  obtain ⟨xs, h1, h2, h3⟩ := h
  refine ⟨xs, by rw [upd_ne ne]; exact h1, h2, fun x hx => (h3 x hx).mono fun c u r => ?_⟩
  rcases r with r | ⟨ob, r⟩
  · exact .inl (by rw [upd_ne (fun z => nt u (by rw [← z]; exact r))]; exact r)
  · exact .inr ⟨ob, by rw [upd_ne (fun z => nf ob _ (by rw [← z]; exact r))]; exact r⟩
theorem DN.ex {P : Program} {w : World} {K : PySem.W.Frag} {H : Hp} {k : Addr} {kvs : List (NestedKey × V)} (h : DN P w K H k kvs) : ∃ xs, H k = some (DNo P w k xs) := let ⟨xs, h1, _⟩ := h; ⟨xs, h1⟩
theorem dno_lst {P : Program} {w : World} {a : Addr} {xs : List (NestedKey × Addr × V)} {us : List V} : HO.lst us ≠ DNo P w a xs := fun z => by
  unfold DNo at z
  cases z
theorem dno_dk {P : Program} {w : World} {a : Addr} {xs : List (NestedKey × Addr × V)} {us : List (Key × V)} : HO.dK us ≠ DNo P w a xs := fun z => by
  unfold DNo at z
  cases z
theorem dno_ins {P : Program} {w : World} {a : Addr} {xs : List (NestedKey × Addr × V)} {C dx : Addr} {fs : List (Str × V)} : HO.ins C dx fs ≠ DNo P w a xs := fun z => by
  unfold DNo at z
  cases z
/-- the inner loop -/
structure NbI (P : Program) (w : World) (K : PySem.W.Frag) (H1 Hc : Hp) (kn nd bd : Addr) (l : List (Wd × Addr)) (z : Wd) (ps : List Prt) (rs done : List Rw) : Prop where
  kp : KpL (kn :: nd :: l.map (·.2)) H1 Hc
  dn : DN P w K Hc kn (knL z ps)
  ok : PsOk z ps
  num : Hc nd = some (.dK (kdl (done.map fun r => (r.1, V.int (idxP ps (prt rs r.1) : Nat)))))
  bl : BelAt Hc bd l (bel ps rs done)
  inn : ∀ r ∈ done, prt rs r.1 ∈ ps
theorem NbI.new {P : Program} {w : World} {K : PySem.W.Frag} {H1 Hc : Hp} {kn nd bd : Addr} {l : List (Wd × Addr)} {z : Wd} {ps : List Prt} {rs done : List Rw} (h : NbI P w K H1 Hc kn nd bd l z ps rs done) {p : Addr} (hp : Hc p = none) (o : HO) : NbI P w K H1 (upd Hc p o) kn nd bd l z ps rs done := by
  have s := same_upd (o := o) hp
  exact ⟨h.kp.same s, DN.same s h.dn, h.ok, s _ _ h.num, h.bl.same s, h.inn⟩
/-- a dict of new lists, by the places of some rows -/
theorem dc_bel {K : PySem.W.Frag} {σ : L2.St} {H1 : Hp} {t D : Addr} {vs : List V} {rs : List Rw} {Qd : Hp → Prop} {j : Nat} (ht : H1 t = some (.tup vs)) (pv : Paired (RwT H1) vs rs) (nd : (rs.map (·.1)).Nodup) (hl : rs.length ≤ 2000) (hD : H1 D = none)
    (hσ : ∀ x, wipe ((wipe σ [j]).set j x) [j] = wipe σ [j]) (hσ2 : ∀ x, ((wipe σ [j]).set j (some x))[j]? = some (some x))
    (hd : ∀ H' l, Same H1 H' → l.map (·.1) = rs.map (·.1) → (l.map (·.2)).Nodup → (∀ q ∈ l, H1 q.2 = none) → BelAt H' D l (fun _ => []) → Qd H') :
    ∃ W : Nat → Nat → Hp → Prop, (∃ m, W 0 m (upd H1 D (.dK []))) ∧ ∀ i m H, W i m H → ((Itt K t).stop i H ∧ Qd H) ∨ ((Itt K t).go i H ∧ ∃ Nx : Hp → Prop, (∀ H', Nx H' → ∃ m', m' < m ∧ W (i + 1) m' H') ∧ ∀ x H', (Itt K t).yld i H x H' → gName j x (wipe σ [j]) H' fun σ2 H2 => wipe σ2 [j] = wipe σ [j] ∧ tYes σ2 H2 fun b H3 =>
        if b = true then tOp (rIxT K) (tVar j) (tC (.int 0)) σ2 H3 fun y H4 => tLst tNil σ2 H4 fun z H5 => ∃ kvs k, y = kV k ∧ H5 D = some (.dK kvs) ∧ kvs.length < sizeLine ∧ Nx (upd H5 D (.dK (putK kvs k z))) else Nx H3) := by
  have vl : vs.length = rs.length := pv.length
  refine dc_it (walk_tup (K := K) (a := t) (xs := vs)) (fun i H => Same H1 H ∧ ∃ l : List (Wd × Addr), l.map (·.1) = (rs.take i).map (·.1) ∧ (l.map (·.2)).Nodup ∧ (∀ q ∈ l, H1 q.2 = none) ∧ BelAt H D l fun _ => []) ⟨same_upd hD, [], rfl, .nil, (fun q h => by cases h), upd_same, (fun q h => by cases h)⟩ (fun i H _ ⟨s, _⟩ => SqT.of (s _ _ ht)) (fun i x H H' hi ⟨s, l, l1, l2, l3, l4⟩ y => ?_) fun H ⟨s, l, l1, l2, l3, l4⟩ => ?_
  · obtain ⟨rfl, hx⟩ := y
    obtain ⟨r, hr, g, rfl, hg⟩ := paired_ix pv hx
    refine ⟨hσ _, yes_ite ⟨_, hσ2 _, g, _, _, _, rfl, rfl, SqT.of (s _ _ hg), atI_nat (j := 0) rfl, Nat.zero_le _, fun a ha => ?_⟩⟩
    have s2 := same_upd (o := .lst []) ha
    have hD2 := s2 _ _ l4.dd
    have ga : (upd H' a (.lst [])) a = some (.lst []) := upd_same
    have l4' := l4.same s2
    have s2 := s.trans s2
    have ha1 : H1 a = none := s.free ha
    have aD : a ≠ D := fun z => by rw [z, l4.dd] at ha; cases ha
    have al : ∀ q ∈ l, a ≠ q.2 := fun q hq z => by obtain ⟨us, h, _⟩ := l4.ls q hq; rw [← z, ha] at h; cases h
    generalize upd H' a (.lst []) = H2 at hD2 ga l4' s2
    have hn : r.1 ∉ (l.map fun q => ((q.1, V.ref q.2) : Wd × V)).map (·.1) := by
      rw [List.map_map]
      show r.1 ∉ l.map (·.1)
      rw [l1, List.map_take]
      exact nd_take nd (by rw [List.getElem?_map, hr]; rfl)
    refine ⟨_, .inr (sw r.1), rfl, hD2, ?_, same_of_new s2 hD, l ++ [(r.1, a)], ?_, ?_, ?_, ?_⟩
    · rw [kdl_len, List.length_map]
      have := congrArg List.length l1
      rw [List.length_map, List.length_map, List.length_take] at this
      rw [sizeLine_eq]
      omega
    · rw [List.map_append, l1, List.take_add_one, hr, List.map_append]
      rfl
    · rw [List.map_append]
      refine List.nodup_append.mpr ⟨l2, by simp, fun x hx y hy e => ?_⟩
      rw [List.map_singleton, List.mem_singleton] at hy
      obtain ⟨q, hq, rfl⟩ := List.mem_map.mp hx
      exact al q hq (by rw [e, hy])
    · intro q hq
      rcases List.mem_append.mp hq with hq | hq
      · exact l3 q hq
      · rw [List.mem_singleton.mp hq]
        exact ha1
    · rw [kdl_new _ hn]
      refine ⟨by rw [upd_same, List.map_append]; rfl, fun q hq => ?_⟩
      rcases List.mem_append.mp hq with hq | hq
      · obtain ⟨us, h, p⟩ := l4'.ls q hq
        cases p
        exact ⟨[], by rw [upd_ne (ne_of h hD2 (by intro z; cases z))]; exact h, .nil⟩
      · rw [List.mem_singleton.mp hq]
        exact ⟨[], by rw [upd_ne aD]; exact ga, .nil⟩
  · rw [vl, List.take_of_length_le (Nat.le_refl _)] at l1
    exact hd H l s l1 l2 l3 l4
end Toy
set_option Elab.async false
set_option linter.all false
set_option maxRecDepth 100000
set_option maxHeartbeats 4000000
namespace Toy
open PySem L2 Sh ShL LamX NdefX
theorem lk_row {rs : List Rw} (nd : (rs.map (·.1)).Nodup) {r : Rw} (h : r ∈ rs) : prt rs r.1 [] = some r.2 := by
  rw [prt_nil]
  exact lookup_of nd h
section
variable {P : Program} {w : World} {K : PySem.W.Frag} {mg : Str → Option Value} {base : Heap}
theorem ok_part_numbers (T : Tx P K mg) (B : Bx T base) : FnOk P w K mg base CX0 1 T.a_part_numbers T.fd_part_numbers ["trees"] (spNumbers P w K T.c_Tree) := by
  refine okT T.F_part_numbers sc_part_numbers (fun vs H Q E h => ?_) (fun cdv A outer s H vs Q E hcd hr h => ?_)
  · obtain ⟨ta, z, ts, rss, rfl, _⟩ := h
    rfl
  have hu := hu_of hr
  have hu65 := hu65_of hr
  obtain ⟨ta, z, ts, rss, rfl, hta, pt, tl, hz, q⟩ := h
  have tsl : ts.length = rss.length := pt.length
  refine ⟨_, (pss_cons (ps_par (i := 1) (j := 2) (by rfl) sc_part_numbers.nd rfl rfl (by decide) rfl rfl (pa_cons pe_dnewN (pa_cons (pe_lst pa_nil) pa_nil)) (by rfl))
 (pss_cons (ps_for PassesOwn.never rfl (pi_list (pv 0)) (pg_name (i := 3) sc_part_numbers.nd rfl (by first | exact Or.inl rfl | exact Or.inr rfl))
 (pss_cons (ps_par (i := 4) (j := 5) (by rfl) sc_part_numbers.nd rfl rfl (by decide) rfl rfl (pa_cons pe_dnewK (pa_cons (pe_dc (own := [("row", 10)]) (g := gName 10) rfl sc_part_numbers.nd (pi_tup (pe_fld (pv 3) rfl)) (blkOk_by (own := [("row", 10)]) (N := N_part_numbers) (sc := defScope s_part_numbers) (by decide +kernel)) (fun _ _ _ _ _ => (pg_name (i := 10) sc_part_numbers.nd rfl (by first | exact Or.inl rfl | exact Or.inr rfl))) (fun _ _ _ _ _ => pts_nil) (fun _ _ _ _ _ => (pe_ix (by exact ix_tup : IxR _ (rIxT K)) (pv 10) pe_int (fun _ _ => rfl))) (fun _ _ _ _ _ => (pe_lst pa_nil))) pa_nil)) (by rfl))
 (pss_cons (ps_for PassesOwn.never rfl (pi_tup (pe_revT (pe_fld (pv 3) rfl))) (pg_tup rfl (pgs_cons (pg_name (i := 6) sc_part_numbers.nd rfl (by first | exact Or.inl rfl | exact Or.inr rfl)) (pgs_cons (pg_name (i := 7) sc_part_numbers.nd rfl (by first | exact Or.inl rfl | exact Or.inr rfl)) (pgs_cons (pg_name (i := 8) sc_part_numbers.nd rfl (by first | exact Or.inl rfl | exact Or.inr rfl)) pgs_nil))))
 (pss_cons (ps_set (i := 9) sc_part_numbers.nd rfl (by first | exact Or.inl rfl | exact Or.inr rfl) (pe_tup (pa_cons (pv 7) (pa_cons (pv 8) (pa_cons (pe_callTy call_tuple_of (by rfl) T.b_tuple (by decide +kernel) (pa_cons (pe_dget hu (pv 5) (pv 6) (fun _ _ => rfl)) pa_nil)) pa_nil)))))
 (pss_cons (ps_if (pt_cmpR (op_dnotinN hu65) (pv 9) (pv 1) (by rfl))
 (pss_one (ps_dputN hu65 (pv 1) (pv 9) (pe_callB call_lenN (by rfl) T.b_len (by decide +kernel) (pa_cons (pv 1) pa_nil)) rfl))
 pss_nil)
 (pss_cons (ps_dput hu (pv 4) (pv 6) (pe_dgetN hu65 (pv 1) (pv 9) (fun _ _ => rfl)) rfl)
 (pss_one (ps_if (pt_cmpR op_ne (pv 6) pe_str (nomark _))
 (pss_one (ps_expr (pe_bm PySem.F.plainAttrs_list PySem.F.slot_list_append PySem.F.type_list_append mt_append (pe_dget hu (pv 5) (pe_slice sl_str (pv 6) po_none (po_some (pe_un un_neg pe_int))) (fun _ _ => rfl)) (pa_cons (pe_tup (pa_cons (pe_ix ix_str (pv 6) (pe_un un_neg pe_int) (fun _ _ => rfl)) (pa_cons (pe_dgetN hu65 (pv 1) (pv 9) (fun _ _ => rfl)) pa_nil))) pa_nil))))
 pss_nil))))))
 (pss_one (ps_expr (pe_bm PySem.F.plainAttrs_list PySem.F.slot_list_append PySem.F.type_list_append mt_append (pv 2) (pa_cons (pv 4) pa_nil)))))))
 (pss_one (ps_ret (pv 2))))), ?_⟩
  refine fun kn o hkn d0 => ⟨Nat.zero_le _, fun fo hfo => ?_⟩
  replace d0 : DN P w K _ kn [] := d0
  have s1 := same_upd (o := o) hkn
  have hfo0 : H fo = none := s1.free hfo
  have nkf : kn ≠ fo := fun e => by obtain ⟨xs, h⟩ := DN.ex d0; rw [← e, h] at hfo; cases hfo
  generalize upd H kn o = H1 at s1 d0 hfo
  have s2 := same_upd (o := .lst []) hfo
  have g2 : (upd H1 fo (.lst [])) fo = some (.lst []) := upd_same
  have d2 := DN.same s2 d0
  have s2 := s1.trans s2
  generalize upd H1 fo (.lst []) = H2 at s2 g2 d2
  refine ⟨_, _, rfl, ?_⟩
  refine ⟨_, rfl, ta, rfl, ⟨_, SqL.of (s2 _ _ hta)⟩, ?_⟩
  refine for_it (walk_list (K := K) (a := ta) (xs := ts)) (fun i σ H3 => (∃ v3 v4 v5 v6 v7 v8 v9 v10, σ = [some (.ref ta), some (.ref kn), some (.ref fo), v3, v4, v5, v6, v7, v8, v9, v10]) ∧ Same H H3 ∧ ∃ ps fs, DN P w K H3 kn (knL z ps) ∧ PsOk z ps ∧ ps.length ≤ 2000 * i ∧ H3 fo = some (.lst fs) ∧ Paired (NumR ps H3) fs (rss.take i) ∧ ∀ rs ∈ rss.take i, ∀ r ∈ rs, prt rs r.1 ∈ ps)
    ⟨⟨_, _, _, _, _, _, _, _, rfl⟩, s2, [], [], d2, ⟨.nil, fun q h => (by cases h), fun q h => (by cases h), fun q h => (by cases h)⟩, Nat.le_refl _, g2, .nil, fun rs h => (by cases h)⟩ (fun i σ H3 _ ⟨_, s3, _⟩ => SqL.of (s3 _ _ hta)) (fun i u σ H0 H3 hi ⟨⟨v3, v4, v5, v6, v7, v8, v9, v10, e1⟩, s3, ps, fs, d3, po, pl, hfs, pf, pin⟩ yl => ?_) (fun σ H3 ⟨⟨v3, v4, v5, v6, v7, v8, v9, v10, e1⟩, s3, ps, fs, d3, po, pl, hfs, pf, pin⟩ => ?_)
  rotate_left
  · subst e1
    rw [tsl, List.take_of_length_le (Nat.le_refl _)] at pf pin
    exact ⟨_, rfl, q _ fo fs ps s3 hfo0 hfs pf po pin⟩
  obtain ⟨rfl, hu'⟩ := yl
  subst e1
  obtain ⟨rs, hrs, x, rfl, hx, tr⟩ := paired_ix pt hu'
  have hx3 := hx.same s3
  obtain ⟨dx, t, d, e, m, tvs, us, x1, x2, x3, _⟩ := hx3.ex
  have tvl : tvs.length = rs.length := x3.length
  show tSeq _ _ _ _ _
  refine fun nd hnd => ?_
  have s4 := same_upd (o := .dK []) hnd
  have g4 : (upd H3 nd (.dK [])) nd = some (.dK []) := upd_same
  have d4 := DN.same s4 d3
  have hfs4 := s4 _ _ hfs
  have x1 := s4 _ _ x1
  have x2 := s4 _ _ x2
  have x3 := paired_mono (fun _ _ h => RwT.same s4 h) x3
  have nd0 : H nd = none := s3.free hnd
  have s43 := s4
  have s4 := s3.trans s4
  generalize upd H3 nd (.dK []) = H4 at s4 g4 d4 hfs4 x1 x2 x3 s43
  refine ⟨_, rfl, x, _, dx, _, _, rfl, x1, T.cl_Tree, T.na_Tree_rows, tf_rows, t, rfl, ⟨_, SqT.of x2⟩, fun bd hbd => ?_⟩
  refine dc_bel (K := K) x2 x3 tr.nd tr.len hbd (fun _ => rfl) (fun _ => rfl) fun H5 l s5 l1 l2 l3 bl5 => ?_
  refine ⟨_, _, rfl, ?_⟩
  dsimp only [gName]
  have x1 := s5 _ _ x1
  have x2 := s5 _ _ x2
  have x3 := paired_mono (fun _ _ h => RwT.same s5 h) x3
  have g5 := s5 _ _ g4
  have d5 := DN.same s5 d4
  have hfs5 := s5 _ _ hfs4
  have s53 := s43.trans s5
  have s05 := s4.trans s5
  refine ⟨_, rfl, x, _, dx, _, _, rfl, x1, T.cl_Tree, T.na_Tree_rows, tf_rows, t, tvs, rfl, SqT.of x2, fun rv hrv => ⟨rv, rfl, ⟨_, SqT.of upd_same⟩, ?_⟩⟩
  have l0 : ∀ q ∈ l, H q.2 = none := fun q hq => s4.free (l3 q hq)
  have s6 := same_upd (o := .tup tvs.reverse) hrv
  have g6 : (upd H5 rv (.tup tvs.reverse)) rv = some (.tup tvs.reverse) := upd_same
  have x3 := paired_mono (fun _ _ h => RwT.same s6 h) x3
  have g5 := s6 _ _ g5
  have d5 := DN.same s6 d5
  have hfs5 := s6 _ _ hfs5
  have bl5 := bl5.same s6
  have s53 := s53.trans s6
  have s05 := s05.trans s6
  have l36 : ∀ q ∈ l, ∃ us, (upd H5 rv (.tup tvs.reverse)) q.2 = some (.lst us) := fun q hq => let ⟨us, h, _⟩ := bl5.ls q hq; ⟨us, h⟩
  generalize upd H5 rv (.tup tvs.reverse) = H6 at s6 g6 x3 g5 d5 hfs5 bl5 s53 s05 l36
  have xr := paired_rev x3
  have rvl : tvs.reverse.length = rs.reverse.length := xr.length
  have kS : ∀ a ∈ kn :: nd :: l.map (·.2), H a = none := fun a ha => by
    rcases List.mem_cons.mp ha with rfl | ha
    · exact hkn
    rcases List.mem_cons.mp ha with rfl | ha
    · exact nd0
    obtain ⟨q, hq, rfl⟩ := List.mem_map.mp ha
    exact l0 q hq
  have nkn : kn ≠ nd := fun e => by obtain ⟨xs, h⟩ := DN.ex d3; rw [e, hnd] at h; cases h
  have nrv : rv ∉ kn :: nd :: l.map (·.2) := fun ha => by
    rcases List.mem_cons.mp ha with e | ha
    · obtain ⟨xs, h⟩ := DN.ex d5
      rw [← e, g6] at h
      exact dno_tup (Option.some.inj h)
    rcases List.mem_cons.mp ha with e | ha
    · rw [← e, g6] at g5
      cases g5
    obtain ⟨q, hq, e⟩ := List.mem_map.mp ha
    obtain ⟨us, h⟩ := l36 q hq
    rw [show q.2 = rv from e, g6] at h
    cases h
  have nbk : ∀ q ∈ l, kn ≠ q.2 := fun q hq e => by
    obtain ⟨us, h⟩ := l36 q hq
    obtain ⟨xs, h2⟩ := DN.ex d5
    rw [← e, h2] at h
    exact dno_lst (Option.some.inj h).symm
  have nbn : ∀ q ∈ l, nd ≠ q.2 := fun q hq e => by
    obtain ⟨us, h⟩ := l36 q hq
    rw [← e, g5] at h
    cases h
  have nbd : bd ≠ nd := fun e => by rw [e] at hbd; rw [g4] at hbd; cases hbd
  have nbdk : bd ≠ kn := fun e => by
    obtain ⟨xs, h⟩ := DN.ex d5
    rw [← e, bl5.dd] at h
    exact dno_dk (Option.some.inj h)
  refine for_it (walk_tup (K := K) (a := rv) (xs := tvs.reverse)) (fun j σ Hc => (∃ v6 v7 v8 v9 v10, σ = [some (.ref ta), some (.ref kn), some (.ref fo), some (.ref x), some (.ref nd), some (.ref bd), v6, v7, v8, v9, v10]) ∧ ∃ pe, (ps ++ pe).length ≤ 2000 * i + j ∧ NbI P w K H6 Hc kn nd bd l z (ps ++ pe) rs (rs.reverse.take j))
    ⟨⟨_, _, _, _, _, rfl⟩, [], by rw [List.append_nil]; exact pl, ?_⟩ (fun j σ Hc _ ⟨_, _, _, n⟩ => SqT.of (n.kp _ _ g6 nrv)) (fun j u σ H0 Hc hj ⟨⟨v6, v7, v8, v9, v10, e1⟩, pe, pel, n⟩ yl => ?_) (fun σ Hc ⟨⟨v6, v7, v8, v9, v10, e1⟩, pe, pel, n⟩ => ?_)
  · rw [List.append_nil]
    exact ⟨KpL.refl _ _, d5, po, g5, bl5.eq fun p => rfl, fun r h => by cases h⟩
  rotate_left
  · subst e1
    rw [rvl, List.length_reverse] at pel
    rw [rvl, List.take_of_length_le (Nat.le_refl _)] at n
    have hf : Hc fo = some (.lst fs) := n.kp _ _ hfs5 fun ha => by
      rcases List.mem_cons.mp ha with e | ha
      · exact nkf e.symm
      rcases List.mem_cons.mp ha with e | ha
      · rw [e, hnd] at hfs; cases hfs
      obtain ⟨q, hq, e⟩ := List.mem_map.mp ha
      rw [← show q.2 = fo from e, l3 q hq] at hfs4
      cases hfs4
    have rl := tr.len
    have hil : i < rss.length := by omega
    refine ⟨_, rfl, .inl ⟨rfl, _, SqL.of hf⟩, _, rfl, fo, fs, _, rfl, rfl, hf, by rw [pf.length, List.length_take, sizeLine_eq]; omega, ?_⟩
    have s7 : Same H (upd Hc fo (.lst (fs ++ [.ref nd]))) := same_of_new (KpL.old s05 n.kp kS) hfo0
    have step : rss.take (i + 1) = rss.take i ++ [rs] := by rw [List.take_add_one, hrs]; rfl
    have dk : ∀ b kvs, Hc b = some (.dK kvs) → (upd Hc fo (.lst (fs ++ [.ref nd]))) b = some (.dK kvs) := fun b kvs h => by rw [upd_ne (ne_of h hf (by intro z; cases z))]; exact h
    refine ⟨⟨_, _, _, _, _, _, _, _, rfl⟩, s7, ps ++ pe, fs ++ [.ref nd], DN.updO n.dn nkf (fun u h => by rw [hf] at h; cases h) (fun ob u h => by rw [hf] at h; cases h), n.ok, by omega, upd_same, ?_, ?_⟩
    · rw [step]
      refine paired_app ?_ (.cons ⟨nd, rfl, dk _ _ n.num⟩ .nil)
      have pf2 : Paired (fun v rs' => NumR ps H3 v rs' ∧ rs' ∈ rss.take i) fs (rss.take i) := by
        have : ∀ {xs : List V} {ys : List (List Rw)}, Paired (NumR ps H3) xs ys → Paired (fun v rs' => NumR ps H3 v rs' ∧ rs' ∈ ys) xs ys := fun p => by
          induction p with
          | nil => exact .nil
          | cons h t ih => exact .cons ⟨h, List.mem_cons_self⟩ (paired_mono (fun _ _ h => ⟨h.1, List.mem_cons_of_mem _ h.2⟩) ih)
        exact this pf
      refine paired_mono (fun v rs' ⟨⟨d', e, hd'⟩, hm⟩ => ⟨d', e, ?_⟩) pf2
      rw [numL_app pe (pin rs' hm)]
      refine dk _ _ (n.kp _ _ (s53 _ _ hd') fun ha => ?_)
      rcases List.mem_cons.mp ha with e | ha
      · obtain ⟨xs, h⟩ := DN.ex d3
        rw [← e, hd'] at h
        exact dno_dk (Option.some.inj h)
      rcases List.mem_cons.mp ha with e | ha
      · rw [e, hnd] at hd'; cases hd'
      obtain ⟨q, hq, e⟩ := List.mem_map.mp ha
      have := s43 _ _ hd'
      rw [← show q.2 = d' from e, l3 q hq] at this
      cases this
    · intro rs' hm r hr
      rw [step] at hm
      rcases List.mem_append.mp hm with hm | hm
      · exact List.mem_append_left _ (pin rs' hm r hr)
      · rw [List.mem_singleton.mp hm] at hr ⊢
        exact n.inn r (List.mem_reverse.mpr hr)
  obtain ⟨rfl, hu'⟩ := yl
  subst e1
  obtain ⟨r, hr', g, rfl, hg⟩ := paired_ix xr hu'
  have rl := tr.len
  have gS : ∀ b us, H6 b = some (.tup us) → Hc b = some (.tup us) := fun b us hb => n.kp _ _ hb fun ha => by
    rcases List.mem_cons.mp ha with e | ha
    · obtain ⟨xs, h⟩ := DN.ex d5
      rw [← e, hb] at h
      exact dno_tup (Option.some.inj h)
    rcases List.mem_cons.mp ha with e | ha
    · rw [← e, hb] at g5; cases g5
    obtain ⟨q, hq, e⟩ := List.mem_map.mp ha
    obtain ⟨us', h⟩ := l36 q hq
    rw [show q.2 = b from e, hb] at h
    cases h
  have hg := gS _ _ hg
  refine ⟨g, _, rfl, SqT.of hg, rfl, _, _, rfl, _, _, rfl, _, _, rfl, rfl, ?_⟩
  have hjl : j < rs.length := by rw [rvl, List.length_reverse] at hj; exact hj
  -- rs = a ++ r :: b
  have eab : rs = (rs.reverse.drop (j + 1)).reverse ++ r :: (rs.reverse.take j).reverse := by
    have h1 : rs.reverse = rs.reverse.take j ++ r :: rs.reverse.drop (j + 1) := by
      have := List.take_append_drop j rs.reverse
      rw [List.drop_eq_getElem_cons (by rw [List.length_reverse]; exact hjl), (List.getElem?_eq_some_iff.mp hr').2] at this
      exact this.symm
    have := congrArg List.reverse h1
    rw [List.reverse_reverse] at this
    rw [List.reverse_append, List.reverse_cons, List.append_assoc] at this
    exact this
  have rm : r ∈ rs := List.mem_reverse.mp (List.mem_of_getElem? hr')
  have hbc := bel_chs (ps := ps ++ pe) hz tr eab
  rw [List.reverse_reverse] at hbc
  obtain ⟨q, hq, eq⟩ : ∃ q ∈ l, q.1 = r.1 := by
    have : r.1 ∈ l.map (·.1) := by rw [l1]; exact List.mem_map.mpr ⟨r, rm, rfl⟩
    obtain ⟨q, h1, h2⟩ := List.mem_map.mp this
    exact ⟨q, h1, h2⟩
  obtain ⟨lvs, hl1, hl2⟩ := n.bl.ls q hq
  rw [eq] at hl2
  have lnd : (l.map (·.1)).Nodup := by rw [l1]; exact tr.nd
  have lnd' : ((l.map fun q => ((q.1, V.ref q.2) : Wd × V)).map (·.1)).Nodup := by rw [List.map_map]; exact lnd
  have dg : ∀ {H' : Hp}, H' bd = some (.dK (kdl (l.map fun q => (q.1, V.ref q.2)))) → ∀ q ∈ l, DGet H' bd (.str (sw q.1)) (some (.ref q.2)) := fun h q hq => by
    have := dget_kdl h q.1
    rw [kdl_some lnd' (List.mem_map.mpr ⟨q, hq, rfl⟩)] at this
    exact this
  refine ⟨_, rfl, _, rfl, _, rfl, _, rfl, bd, .ref q.2, rfl, eq ▸ dg n.bl.dd q hq, q.2, lvs, rfl, .inl ⟨SqL.of hl1, fun lt hlt => ?_⟩⟩
  have n7 := n.new hlt (.tup lvs)
  have s7 := same_upd (o := .tup lvs) hlt
  have g7 : (upd Hc lt (.tup lvs)) lt = some (.tup lvs) := upd_same
  have pv7 := paired_mono (fun _ _ h => ItT.tup (fun b us => s7 b _) h) hl2
  generalize upd Hc lt (.tup lvs) = H7 at n7 s7 g7 pv7
  refine ⟨by show 3 ≤ sizeLine; decide, fun kt hkt => ?_⟩
  have n8 := n7.new hkt (.tup [oV r.2.1, .bl r.2.2, .ref lt])
  have s8 := same_upd (o := .tup [oV r.2.1, .bl r.2.2, .ref lt]) hkt
  have g8 : (upd H7 kt (.tup [oV r.2.1, .bl r.2.2, .ref lt])) kt = some (.tup [oV r.2.1, .bl r.2.2, .ref lt]) := upd_same
  have g7 := s8 _ _ g7
  have pv8 := paired_mono (fun _ _ h => ItT.tup (fun b us => s8 b _) h) pv7
  generalize upd H7 kt (.tup [oV r.2.1, .bl r.2.2, .ref lt]) = H8 at n8 s8 g8 g7 pv8
  rw [hbc] at pv8
  dsimp only [gName]
  have h0 : prt rs r.1 [] = some r.2 := lk_row tr.nd rm
  have ka := fun ps' (e : ps' = ps ++ pe) => key_at (K := K) (z := z) (ps := ps ++ pe) (q := prt rs r.1) h0 g8 g7 pv8
  have ka := ka _ rfl
  have hsub : ∀ c ∈ chs z (prt rs r.1), subP (prt rs r.1) c ∈ ps ++ pe := fun c hc => by
    rw [sub_prt]
    have hk := kidS_full hz tr eab
    rw [List.reverse_reverse] at hk
    rw [← hk] at hc
    unfold kidS at hc
    obtain ⟨u, hu, e⟩ := List.mem_filterMap.mp hc
    obtain ⟨y, hy, rfl⟩ := List.mem_map.mp hu
    rw [← kidF_some.mp e]
    exact n.inn y hy
  have gp := tr.good r.1
  have h0' : prt rs r.1 [] ≠ none := by rw [h0]; simp
  have inj := knL_inj n.ok gp h0' hsub
  have rnd : r.1 ∉ (rs.reverse.take j).map (·.1) := by
    have h1 : (rs.reverse.map (·.1)).Nodup := by rw [List.map_reverse]; exact (List.reverse_perm _).nodup_iff.mpr tr.nd
    have h2 : (rs.reverse.map (·.1))[j]? = some r.1 := by rw [List.getElem?_map, hr']; rfl
    rw [List.map_take]
    exact nd_take h1 h2
  refine seqW (fun σ' H' => σ' = [some (.ref ta), some (.ref kn), some (.ref fo), some (.ref x), some (.ref nd), some (.ref bd), some (.str (sw r.1)), some (oV r.2.1), some (.bl r.2.2), some (.ref kt), v10] ∧ ∃ pe', (ps ++ pe').length ≤ 2000 * i + (j + 1) ∧ NbI P w K H6 H' kn nd bd l z (ps ++ pe') rs (rs.reverse.take j) ∧ prt rs r.1 ∈ ps ++ pe' ∧ KeyAt K H' (keyQ z (ps ++ pe') (prt rs r.1)) kt ∧ valV (knL z (ps ++ pe')) (keyQ z (ps ++ pe') (prt rs r.1)) = some (.int (idxP (ps ++ pe') (prt rs r.1) : Nat))) (fun N hN => ?_) (fun σ' H9 ⟨e9, pe', pel', n9, hin, ka9, hval⟩ => ?_)
  · by_cases hin : prt rs r.1 ∈ ps ++ pe
    · have hv := knF_some inj hin
      refine ⟨_, rfl, _, rfl, kn, kt, _, _, rfl, rfl, n8.dn, ka, _, rfl, ?_⟩
      rw [show valV (knL z (ps ++ pe)) (keyQ z (ps ++ pe) (prt rs r.1)) = _ from hv]
      exact iteF (hN _ _ ⟨rfl, pe, by omega, n8, hin, ka, hv⟩)
    · have hv := knF_none inj hin
      have hv : valV (knL z (ps ++ pe)) (keyQ z (ps ++ pe) (prt rs r.1)) = none := hv
      refine ⟨_, rfl, _, rfl, kn, kt, _, _, rfl, rfl, n8.dn, ka, _, rfl, ?_⟩
      rw [hv]
      refine iteT ?_
      have knl : (knL z (ps ++ pe)).length = (ps ++ pe).length := by unfold knL knF; rw [List.length_map]
      refine ⟨_, rfl, kn, _, rfl, n8.dn, _, rfl, _, rfl, kn, kt, _, _, rfl, rfl, n8.dn, ka, by rw [knl, sizeLine_eq]; omega, fun o9 dn9 => ?_⟩
      obtain ⟨kxs, hkx⟩ := DN.ex n8.dn
      rw [putK_new _ hv, knl, ← knL_new n8.ok hin hsub, List.append_assoc] at dn9
      have ok9 := n8.ok.new hin gp h0' hsub
      rw [List.append_assoc] at ok9
      have hin9 : prt rs r.1 ∈ ps ++ (pe ++ [prt rs r.1]) := by simp
      have inn9 : ∀ y ∈ rs.reverse.take j, prt rs y.1 ∈ ps ++ (pe ++ [prt rs r.1]) := fun y hy => by
        rw [← List.append_assoc]
        exact List.mem_append_left _ (n8.inn y hy)
      have hsub9 : ∀ c ∈ chs z (prt rs r.1), subP (prt rs r.1) c ∈ ps ++ (pe ++ [prt rs r.1]) := fun c hc => by
        rw [← List.append_assoc]
        exact List.mem_append_left _ (hsub c hc)
      have tp9 : ∀ b us, H8 b = some (.tup us) → (upd H8 kn o9) b = some (.tup us) := fun b us h => by rw [upd_ne (ne_of h hkx dno_tup)]; exact h
      refine hN _ _ ⟨rfl, pe ++ [prt rs r.1], by simp only [List.length_append, List.length_cons, List.length_nil] at pel ⊢; omega, ⟨n8.kp.put List.mem_cons_self o9, dn9, ok9, ?_, ?_, inn9⟩, hin9, ?_, knF_some (knL_inj ok9 gp h0' hsub9) hin9⟩
      · rw [upd_ne nkn.symm, n8.num]
        congr 3
        refine List.map_congr_left fun y hy => ?_
        rw [← List.append_assoc, idxP_app _ (n8.inn y hy)]
      · refine (n8.bl.kp tp9 (fun q hq us h => ?_) fun kvs h => ?_).eq fun p => ?_
        · rw [upd_ne (nbk q hq).symm]
          exact h
        · rw [upd_ne nbdk]
          exact h
        · rw [← List.append_assoc]
          exact (bel_app _ n8.inn p).symm
      · rw [← List.append_assoc, keyQ_app _ hsub]
        exact ka.put hkx
  subst e9
  have num9 := n9.num
  have r10 : r.1.length ≤ 200 := tr.l200 _ (List.mem_map.mpr ⟨r, rm, rfl⟩)
  refine ⟨_, rfl, _, rfl, kn, kt, _, _, _, rfl, rfl, n9.dn, ka9, hval, _, rfl, _, rfl, nd, _, rfl, dput_kdl num9 r.1 _ (by rw [List.length_map, List.length_take]; omega), ?_⟩
  have hnn : r.1 ∉ ((rs.reverse.take j).map fun r => ((r.1, V.int (idxP (ps ++ pe') (prt rs r.1) : Nat)) : Wd × V)).map (·.1) := by
    rw [List.map_map]
    exact rnd
  rw [kdl_new _ hnn]
  have step : rs.reverse.take (j + 1) = rs.reverse.take j ++ [r] := by rw [List.take_add_one, hr']; rfl
  have nt9 : ∀ u, H9 nd ≠ some (.tup u) := fun u h => by rw [num9] at h; cases h
  have nf9 : ∀ ob u, H9 nd ≠ some (.frz ob u) := fun ob u h => by rw [num9] at h; cases h
  have nX : NbI P w K H6 (upd H9 nd (.dK (kdl (((rs.reverse.take j).map fun r => ((r.1, V.int (idxP (ps ++ pe') (prt rs r.1) : Nat)) : Wd × V)) ++ [(r.1, V.int (idxP (ps ++ pe') (prt rs r.1) : Nat))])))) kn nd bd l z (ps ++ pe') rs (rs.reverse.take j) → True := fun _ => trivial
  generalize hu10 : upd H9 nd (.dK (kdl (((rs.reverse.take j).map fun r => ((r.1, V.int (idxP (ps ++ pe') (prt rs r.1) : Nat)) : Wd × V)) ++ [(r.1, V.int (idxP (ps ++ pe') (prt rs r.1) : Nat))]))) = H10
  have kp10 : KpL (kn :: nd :: l.map (·.2)) H6 H10 := by rw [← hu10]; exact n9.kp.put (List.mem_cons_of_mem _ List.mem_cons_self) _
  have dn10 : DN P w K H10 kn (knL z (ps ++ pe')) := by rw [← hu10]; exact DN.updO n9.dn nkn nt9 nf9
  have num10 : H10 nd = some (.dK (kdl ((rs.reverse.take (j + 1)).map fun r => ((r.1, V.int (idxP (ps ++ pe') (prt rs r.1) : Nat)) : Wd × V)))) := by rw [← hu10, upd_same, step, List.map_append]; rfl
  have bl10 : BelAt H10 bd l (bel (ps ++ pe') rs (rs.reverse.take j)) := by
    rw [← hu10]
    exact n9.bl.kp (fun b us h => by rw [upd_ne (ne_of h num9 (by intro z; cases z))]; exact h) (fun q hq us h => by rw [upd_ne (nbn q hq).symm]; exact h) fun kvs h => by rw [upd_ne nbd]; exact h
  have ka10 : KeyAt K H10 (keyQ z (ps ++ pe') (prt rs r.1)) kt := by
    rw [← hu10]
    refine ka9.mono fun c u r => ?_
    rcases r with r | ⟨ob, r⟩
    · exact .inl (by rw [upd_ne (fun z => nt9 u (by rw [← z]; exact r))]; exact r)
    · exact .inr ⟨ob, by rw [upd_ne (fun z => nf9 ob _ (by rw [← z]; exact r))]; exact r⟩
  have inn10 : ∀ y ∈ rs.reverse.take (j + 1), prt rs y.1 ∈ ps ++ pe' := fun y hy => by
    rw [step] at hy
    rcases List.mem_append.mp hy with hy | hy
    · exact n9.inn y hy
    · rw [List.mem_singleton.mp hy]
      exact hin
  clear nX
  clear hu10
  refine ⟨_, rfl, rfl, _, rfl, ?_⟩
  rw [mt_eq, sw_dec]
  by_cases e0 : r.1 = []
  · rw [decide_eq_true e0]
    refine iteF ⟨⟨_, _, _, _, _, rfl⟩, pe', pel', kp10, dn10, n9.ok, num10, bl10.eq fun p => ?_, inn10⟩
    rw [step, bel_step, if_neg (fun h => h.1 e0)]
  · rw [decide_eq_false e0]
    refine iteT ?_
    -- the list of the place above
    obtain ⟨q', hq', eq'⟩ : ∃ q' ∈ l, q'.1 = r.1.dropLast := by
      have : r.1.dropLast ∈ l.map (·.1) := by
        rw [l1, List.dropLast_eq_take]
        exact tr.clo _ (List.mem_map.mpr ⟨r, rm, rfl⟩) _
      obtain ⟨q', h1, h2⟩ := List.mem_map.mp this
      exact ⟨q', h1, h2⟩
    obtain ⟨us', hl1', hl2'⟩ := bl10.ls q' hq'
    have usl : us'.length < sizeLine := by
      rw [hl2'.length]
      unfold bel
      rw [List.length_map, sizeLine_eq]
      have := kidS_len ((rs.reverse.take j).map (·.1)) q'.1
      rw [List.length_map, List.length_take] at this
      omega
    have hg' : DGet H10 bd (.str (sw r.1.dropLast)) (some (.ref q'.2)) := eq' ▸ dg bl10.dd q' hq'
    refine ⟨_, rfl, _, rfl, _, rfl, _, rfl, _, rfl, by rw [sw_len, sizeLine_eq]; omega, bd, .ref q'.2, rfl, (by rw [cut_init]; exact hg'), ?_⟩
    refine ⟨.inl ⟨rfl, _, SqL.of hl1'⟩, ?_⟩
    have hlast : r.1.getLast? = some (r.1.getLast e0) := List.getLast?_eq_some_getLast e0
    refine ⟨_, rfl, _, rfl, sw r.1, -1, r.1.getLast e0, rfl, rfl, by rw [sw_len, sizeLine_eq]; omega, atW_last hlast, ?_⟩
    refine ⟨_, rfl, _, rfl, kn, kt, _, _, _, rfl, rfl, dn10, ka10, hval, by show 2 ≤ sizeLine; decide, fun it hit => ?_⟩
    have s11 := same_upd (o := .tup [V.str ⟨#[r.1.getLast e0]⟩, V.int (idxP (ps ++ pe') (prt rs r.1) : Nat)]) hit
    have g11 : (upd H10 it (.tup [V.str ⟨#[r.1.getLast e0]⟩, V.int (idxP (ps ++ pe') (prt rs r.1) : Nat)])) it = some (.tup [V.str (sw [r.1.getLast e0]), V.int (idxP (ps ++ pe') (prt rs r.1) : Nat)]) := upd_same
    have kp11 := kp10.same s11
    have dn11 := DN.same s11 dn10
    have num11 := s11 _ _ num10
    have bl11 := bl10.same s11
    have hl11 := s11 _ _ hl1'
    generalize upd H10 it (.tup [V.str ⟨#[r.1.getLast e0]⟩, V.int (idxP (ps ++ pe') (prt rs r.1) : Nat)]) = H11 at s11 g11 kp11 dn11 num11 bl11 hl11
    refine ⟨q'.2, us', _, rfl, rfl, hl11, usl, ?_⟩
    refine ⟨⟨_, _, _, _, _, rfl⟩, pe', pel', kp11.put (List.mem_cons_of_mem _ (List.mem_cons_of_mem _ (List.mem_map.mpr ⟨q', hq', rfl⟩))) _, DN.updO dn11 (nbk q' hq') (fun u h => by rw [hl11] at h; cases h) (fun ob u h => by rw [hl11] at h; cases h), n9.ok, by rw [upd_ne (nbn q' hq')]; exact num11, ?_, inn10⟩
    refine (bl11.app lnd l2 hq' hl11 g11).eq fun p => ?_
    rw [step, bel_step, eq']
    by_cases hp : p = r.1.dropLast
    · rw [if_pos hp, if_pos ⟨e0, hp.symm⟩, hlast]
      rfl
    · rw [if_neg hp, if_neg (fun h => hp h.2.symm)]
end
end Toy
set_option Elab.async false
set_option linter.all false
set_option maxRecDepth 100000
set_option maxHeartbeats 4000000
namespace Toy
open PySem L2 Sh ShL LamX NdefX
/-! ### a merge, as it goes: places with ways, cells and children -/
abbrev Res := Except Wd (List Rw × List Tk)
def seqR : Res → Res → Res
  | .error p, _ => .error p
  | .ok _, .error p => .error p
  | .ok a, .ok b => .ok (a.1 ++ b.1, a.2 ++ b.2)
theorem seqR_assoc (a b c : Res) : seqR (seqR a b) c = seqR a (seqR b c) := by
  cases a <;> cases b <;> cases c <;> simp [seqR]
theorem seqR_nil (a : Res) : seqR a (.ok ([], [])) = a := by
  cases a <;> simp [seqR]
structure Mg where
  way : Wd → Oc
  cell : Wd → Option Cl
  ch : Wd → List Wd
def trF (M : Mg) : Nat → Wd → Res
  | n, p => if M.way p = .clash then .error p
    else if M.way p = .one then .ok ([], [(p, true)])
    else if M.way p = .other then .ok ([], [(p, false)])
    else if M.way p = .on then match M.cell p with
      | none => .error p
      | some c => match n with
        | 0 => .ok ([(p, c)], [])
        | n + 1 => seqR (.ok ([(p, c)], [])) ((M.ch p).foldr (fun q r => seqR (trF M n q) r) (.ok ([], [])))
    else .ok ([], [])
def trP (M : Mg) (p : Wd) : Res := trF M (201 - p.length) p
def trS (M : Mg) (st : List Wd) : Res := st.foldr (fun q r => seqR (trP M q) r) (.ok ([], []))
theorem trS_cons (M : Mg) (p : Wd) (st : List Wd) : trS M (p :: st) = seqR (trP M p) (trS M st) := rfl
theorem trS_app (M : Mg) (a b : List Wd) : trS M (a ++ b) = seqR (trS M a) (trS M b) := by
  induction a with
  | nil =>
    show trS M b = seqR (.ok ([], [])) (trS M b)
    cases trS M b <;> simp [seqR]
  | cons p a ih => rw [List.cons_append, trS_cons, trS_cons, ih, seqR_assoc]
/-- the children follow by letters, and no place is longer than 200 -/
structure MgOk (M : Mg) (U : List Wd) : Prop where
  ch : ∀ p q, q ∈ M.ch p → q ∈ U ∧ q ≠ [] ∧ q.dropLast = p
  nd : ∀ p, (M.ch p).Nodup
  l200 : ∀ p ∈ U, p.length ≤ 200
theorem last_eq {a b : Wd} (ha : a ≠ []) (hb : b ≠ []) (h : a.dropLast = b.dropLast) (h2 : a.getLast ha = b.getLast hb) : a = b := by
  rw [← List.dropLast_concat_getLast ha, ← List.dropLast_concat_getLast hb, h, h2]
theorem MgOk.len {M : Mg} {U : List Wd} (h : MgOk M U) {p q : Wd} (hq : q ∈ M.ch p) : q.length = p.length + 1 := by
  obtain ⟨_, h1, h2⟩ := h.ch p q hq
  rw [← h2, List.length_dropLast]
  have := List.length_pos_iff.mpr h1
  omega
theorem trP_on {M : Mg} {U : List Wd} (h : MgOk M U) {p : Wd} {c : Cl} (hp : p.length ≤ 200) (hw : M.way p = .on) (hc : M.cell p = some c) : trP M p = seqR (.ok ([(p, c)], [])) (trS M (M.ch p)) := by
  unfold trP
  rw [show 201 - p.length = (200 - p.length) + 1 by omega]
  unfold trF
  simp only [hw, hc]
  have e : ∀ (l : List Wd), (∀ q ∈ l, q.length = p.length + 1) → l.foldr (fun q r => seqR (trF M (200 - p.length) q) r) (.ok ([], [])) = trS M l := by
    intro l hl
    induction l with
    | nil => rfl
    | cons q l ih =>
      rw [List.foldr_cons, ih fun x hx => hl x (List.mem_cons_of_mem _ hx), trS_cons]
      congr 1
      unfold trP
      rw [hl q List.mem_cons_self, show 201 - (p.length + 1) = 200 - p.length by omega]
  rw [e _ fun q hq => h.len hq]
  rfl
theorem trP_bad {M : Mg} {p : Wd} (hw : M.way p = .on) (hc : M.cell p = none) : trP M p = .error p := by
  unfold trP trF
  simp only [hw, hc]
  rfl
theorem trP_clash {M : Mg} {p : Wd} (hw : M.way p = .clash) : trP M p = .error p := by
  unfold trP trF
  rw [if_pos hw]
theorem trP_one {M : Mg} {p : Wd} (hw : M.way p = .one) : trP M p = .ok ([], [(p, true)]) := by
  unfold trP trF
  simp [hw]
theorem trP_other {M : Mg} {p : Wd} (hw : M.way p = .other) : trP M p = .ok ([], [(p, false)]) := by
  unfold trP trF
  simp [hw]
theorem trP_none {M : Mg} {p : Wd} (h1 : M.way p ≠ .clash) (h2 : M.way p ≠ .one) (h3 : M.way p ≠ .other) (h4 : M.way p ≠ .on) : trP M p = .ok ([], []) := by
  unfold trP trF
  rw [if_neg h1, if_neg h2, if_neg h3, if_neg h4]
/-! how much there is to be done -/
def costF (M : Mg) : Nat → Wd → Nat
  | 0, _ => 1
  | n + 1, p => 1 + ((M.ch p).map (costF M n)).sum
def costP (M : Mg) (p : Wd) : Nat := costF M (201 - p.length) p
def costS (M : Mg) (st : List Wd) : Nat := (st.map (costP M)).sum
theorem cost_pos (M : Mg) (p : Wd) : 0 < costP M p := by
  unfold costP
  cases 201 - p.length <;> simp [costF]
  omega
theorem costP_eq {M : Mg} {U : List Wd} (h : MgOk M U) {p : Wd} (hp : p.length ≤ 200) : costP M p = 1 + costS M (M.ch p) := by
  unfold costP
  rw [show 201 - p.length = (200 - p.length) + 1 by omega]
  unfold costF costS
  congr 2
  refine List.map_congr_left fun q hq => ?_
  unfold costP
  rw [h.len hq, show 201 - (p.length + 1) = 200 - p.length by omega]
theorem sum_le_sum {α : Type} {f g : α → Nat} : ∀ {l : List α}, (∀ x ∈ l, f x ≤ g x) → (l.map f).sum ≤ (l.map g).sum
  | [], _ => Nat.le_refl _
  | x :: l, h => by
    rw [List.map_cons, List.map_cons, List.sum_cons, List.sum_cons]
    exact Nat.add_le_add (h x List.mem_cons_self) (sum_le_sum fun y hy => h y (List.mem_cons_of_mem _ hy))
def below (U : List Wd) (p : Wd) : Nat := U.countP fun u => decide (p <+: u)
theorem prefix_child {q u : Wd} (hq : q ≠ []) (h : q <+: u) : q.dropLast <+: u ∧ u ≠ q.dropLast := by
  refine ⟨(List.dropLast_prefix q).trans h, fun e => ?_⟩
  have h1 := h.length_le
  rw [e, List.length_dropLast] at h1
  have := List.length_pos_iff.mpr hq
  omega
theorem sum_zero {α : Type} : ∀ l : List α, (l.map fun _ => (0 : Nat)).sum = 0
  | [] => rfl
  | _ :: l => by rw [List.map_cons, List.sum_cons, sum_zero l]
theorem below_sum (U : List Wd) (p : Wd) : ∀ (qs : List Wd), qs.Nodup → (∀ q ∈ qs, q ≠ [] ∧ q.dropLast = p) → (qs.map (below U)).sum ≤ U.countP fun u => decide (p <+: u ∧ u ≠ p) := by
  induction U with
  | nil =>
    intro qs _ _
    have : ∀ l : List Wd, (l.map (below [])).sum = 0 := fun l => by induction l <;> simp_all [below]
    rw [this]
    exact Nat.zero_le _
  | cons u U ih =>
    intro qs nd hq
    have h0 := ih qs nd hq
    have e : ∀ l : List Wd, (l.map (below (u :: U))).sum = (l.map (below U)).sum + (l.map fun q => if q <+: u then 1 else 0).sum := fun l => by
      induction l with
      | nil => rfl
      | cons q l ih =>
        rw [List.map_cons, List.sum_cons, ih, List.map_cons, List.sum_cons, List.map_cons, List.sum_cons]
        have : below (u :: U) q = below U q + if q <+: u then 1 else 0 := by
          unfold below
          rw [List.countP_cons]
          simp
        rw [this]
        omega
    rw [e, List.countP_cons]
    have one : ∀ l : List Wd, l.Nodup → (∀ q ∈ l, q ≠ [] ∧ q.dropLast = p) → (l.map fun q => if q <+: u then 1 else 0).sum ≤ if p <+: u ∧ u ≠ p then 1 else 0 := by
      intro l nd hl
      induction l with
      | nil => exact Nat.zero_le _
      | cons q l ih =>
        rw [List.map_cons, List.sum_cons]
        have hn := List.nodup_cons.mp nd
        have ih := ih hn.2 fun x hx => hl x (List.mem_cons_of_mem _ hx)
        by_cases hqu : q <+: u
        · rw [if_pos hqu]
          obtain ⟨q1, q2⟩ := hl q List.mem_cons_self
          have hp := prefix_child q1 hqu
          rw [q2] at hp
          rw [if_pos hp]
          have z : (l.map fun q => if q <+: u then 1 else 0).sum = 0 := by
            have : ∀ x ∈ l, (if x <+: u then 1 else 0 : Nat) ≤ (fun _ => 0) x := fun x hx => by
              by_cases hxu : x <+: u
              · obtain ⟨x1, x2⟩ := hl x (List.mem_cons_of_mem _ hx)
                have el : x.length = q.length := by
                  have a := List.length_dropLast (xs := x)
                  have b := List.length_dropLast (xs := q)
                  rw [x2] at a
                  rw [q2] at b
                  have := List.length_pos_iff.mpr x1
                  have := List.length_pos_iff.mpr q1
                  omega
                have : x = q := (List.prefix_of_prefix_length_le hxu hqu (Nat.le_of_eq el)).eq_of_length el
                exact absurd (this ▸ hx) hn.1
              · rw [if_neg hxu]
                exact Nat.le_refl _
            have := sum_le_sum this
            rw [sum_zero] at this
            exact Nat.le_zero.mp this
          exact Nat.le_of_eq (congrArg (1 + ·) z)
        · rw [if_neg hqu, Nat.zero_add]
          exact ih
    have := one qs nd hq
    have e2 : (if (decide (p <+: u ∧ u ≠ p)) = true then 1 else 0) = (if p <+: u ∧ u ≠ p then 1 else 0 : Nat) := by
      by_cases h : p <+: u ∧ u ≠ p <;> simp [h]
    rw [e2]
    omega
theorem cost_le {M : Mg} {U : List Wd} (h : MgOk M U) : ∀ n p, p ∈ U → costF M n p ≤ below U p := by
  intro n
  have pos : ∀ p ∈ U, 1 + (U.countP fun u => decide (p <+: u ∧ u ≠ p)) ≤ below U p := fun p hp => by
    unfold below
    clear h
    induction U with
    | nil => cases hp
    | cons u U ih =>
      rw [List.countP_cons, List.countP_cons]
      by_cases e : p = u
      · subst e
        simp only [ne_eq, not_true_eq_false, and_false, decide_false, Bool.false_eq_true, if_false]
        have le : (U.countP fun u => decide (p <+: u ∧ ¬u = p)) ≤ U.countP fun u => decide (p <+: u) := List.countP_mono_left fun x _ hx => by
          have := of_decide_eq_true hx
          exact decide_eq_true this.1
        simp at le
        simp
        omega
      · rcases List.mem_cons.mp hp with hp | hp
        · exact absurd hp e
        have := ih hp
        by_cases e2 : p <+: u
        · have : ¬ u = p := fun z => e z.symm
          simp [e2, this] at *
          omega
        · simp [e2] at *
          omega
  induction n with
  | zero => intro p hp; have := pos p hp; simp only [costF]; omega
  | succ n ih =>
    intro p hp
    have h1 : ((M.ch p).map (costF M n)).sum ≤ ((M.ch p).map (below U)).sum := sum_le_sum fun q hq => ih q (h.ch p q hq).1
    have h2 := below_sum U p (M.ch p) (h.nd p) fun q hq => (h.ch p q hq).2
    have := pos p hp
    simp only [costF]
    omega
theorem cost_root {M : Mg} {U : List Wd} (h : MgOk M U) (hr : [] ∈ U) : costP M [] ≤ U.length :=
  Nat.le_trans (cost_le h _ _ hr) List.countP_le_length
end Toy
set_option Elab.async false
set_option linter.all false
set_option maxRecDepth 100000
set_option maxHeartbeats 4000000
namespace Toy
open PySem L2 Sh ShL LamX NdefX
/-! ### what a merge went on at, and what it took whole -/
def plW (W : List Rw) : List Wd := W.map (·.1)
def plK (K : List Tk) : List Wd := K.map (·.1)
structure Fine (M : Mg) (qs : List Wd) (W : List Rw) (K : List Tk) : Prop where
  pre : ∀ q ∈ plW W ++ plK K, ∃ s ∈ qs, s <+: q
  par : ∀ q ∈ plW W ++ plK K, q ∈ qs ∨ (q ≠ [] ∧ q.dropLast ∈ plW W)
  nd : (plW W ++ plK K).Nodup
  anti : ∀ t ∈ plK K, ∀ q ∈ plW W ++ plK K, t <+: q → q = t
  on : ∀ r ∈ W, M.way r.1 = .on ∧ M.cell r.1 = some r.2
  tk : ∀ t ∈ K, M.way t.1 = if t.2 = true then .one else .other
  ahead : ∀ i r, W[i]? = some r → r.1 ∈ qs ∨ r.1.dropLast ∈ plW (W.take i)
  cover : ∀ q ∈ plW W, ∀ s ∈ M.ch q, s ∈ plW W ∨ s ∈ plK K ∨ (M.way s ≠ .clash ∧ M.way s ≠ .one ∧ M.way s ≠ .other ∧ M.way s ≠ .on)
  self : ∀ s ∈ qs, s ∈ plW W ∨ s ∈ plK K ∨ (M.way s ≠ .clash ∧ M.way s ≠ .one ∧ M.way s ≠ .other ∧ M.way s ≠ .on)
theorem plW_app (a b : List Rw) : plW (a ++ b) = plW a ++ plW b := List.map_append
theorem plK_app (a b : List Tk) : plK (a ++ b) = plK a ++ plK b := List.map_append
def SameLen (qs : List Wd) : Prop := ∀ a ∈ qs, ∀ b ∈ qs, a.length = b.length
theorem pre_uniq {a b u : Wd} (ha : a <+: u) (hb : b <+: u) (h : a.length = b.length) : a = b :=
  (List.prefix_of_prefix_length_le ha hb (Nat.le_of_eq h)).eq_of_length h
theorem Fine.app {M : Mg} {q1 q2 : List Wd} {W1 W2 : List Rw} {K1 K2 : List Tk} (f1 : Fine M q1 W1 K1) (f2 : Fine M q2 W2 K2) (sl : SameLen (q1 ++ q2)) (nd : (q1 ++ q2).Nodup) : Fine M (q1 ++ q2) (W1 ++ W2) (K1 ++ K2) := by
  have apart : ∀ x ∈ plW W1 ++ plK K1, ∀ y ∈ plW W2 ++ plK K2, ¬ x <+: y ∧ ¬ y <+: x := fun x hx y hy => by
    obtain ⟨a, ha, pa⟩ := f1.pre x hx
    obtain ⟨b, hb, pb⟩ := f2.pre y hy
    have ne : a ≠ b := fun e => (List.nodup_append.mp nd).2.2 a ha b hb e
    have el := sl a (List.mem_append_left _ ha) b (List.mem_append_right _ hb)
    exact ⟨fun h => ne (pre_uniq (pa.trans h) pb el), fun h => ne (pre_uniq pa (pb.trans h) el)⟩
  have mem : ∀ x, x ∈ plW (W1 ++ W2) ++ plK (K1 ++ K2) ↔ x ∈ plW W1 ++ plK K1 ∨ x ∈ plW W2 ++ plK K2 := fun x => by
    rw [plW_app, plK_app]
    simp only [List.mem_append]
    constructor
    · rintro ((h | h) | (h | h)) <;> simp [h]
    · rintro ((h | h) | (h | h)) <;> simp [h]
  refine ⟨fun q hq => ?_, fun q hq => ?_, ?_, fun t ht q hq hp => ?_, fun r hr => ?_, fun t ht => ?_, fun i r hi => ?_, fun q hq s hs => ?_, fun s hs => ?_⟩
  · rcases (mem q).mp hq with h | h
    · obtain ⟨s, a, b⟩ := f1.pre q h
      exact ⟨s, List.mem_append_left _ a, b⟩
    · obtain ⟨s, a, b⟩ := f2.pre q h
      exact ⟨s, List.mem_append_right _ a, b⟩
  · rcases (mem q).mp hq with h | h
    · rcases f1.par q h with a | ⟨a, b⟩
      · exact .inl (List.mem_append_left _ a)
      · exact .inr ⟨a, by rw [plW_app]; exact List.mem_append_left _ b⟩
    · rcases f2.par q h with a | ⟨a, b⟩
      · exact .inl (List.mem_append_right _ a)
      · exact .inr ⟨a, by rw [plW_app]; exact List.mem_append_right _ b⟩
  · have hp : (plW (W1 ++ W2) ++ plK (K1 ++ K2)).Perm ((plW W1 ++ plK K1) ++ (plW W2 ++ plK K2)) := by
      rw [plW_app, plK_app]
      simp only [List.append_assoc]
      refine List.Perm.append_left _ ?_
      rw [← List.append_assoc, ← List.append_assoc]
      exact List.perm_append_comm.append_right _
    refine hp.nodup_iff.mpr (List.nodup_append.mpr ⟨f1.nd, f2.nd, fun x hx y hy e => ?_⟩)
    exact (apart x hx y hy).1 (e ▸ List.prefix_refl _)
  · rw [plK_app] at ht
    rcases List.mem_append.mp ht with ht | ht
    · rcases (mem q).mp hq with h | h
      · exact f1.anti t ht q h hp
      · exact absurd hp (apart t (List.mem_append_right _ ht) q h).1
    · rcases (mem q).mp hq with h | h
      · exact absurd hp (apart q h t (List.mem_append_right _ ht)).2
      · exact f2.anti t ht q h hp
  · rcases List.mem_append.mp hr with h | h
    · exact f1.on r h
    · exact f2.on r h
  · rcases List.mem_append.mp ht with h | h
    · exact f1.tk t h
    · exact f2.tk t h
  · by_cases hl : i < W1.length
    · rw [List.getElem?_append_left hl] at hi
      rcases f1.ahead i r hi with h | h
      · exact .inl (List.mem_append_left _ h)
      · exact .inr (by rw [List.take_append_of_le_length (Nat.le_of_lt hl)]; exact h)
    · rw [List.getElem?_append_right (by omega)] at hi
      rcases f2.ahead _ r hi with h | h
      · exact .inl (List.mem_append_right _ h)
      · refine .inr ?_
        rw [List.take_append, plW_app]
        exact List.mem_append_right _ h
  · rw [plW_app] at hq ⊢
    rw [plK_app]
    rcases List.mem_append.mp hq with h | h
    · rcases f1.cover q h s hs with h | h | h
      · exact .inl (List.mem_append_left _ h)
      · exact .inr (.inl (List.mem_append_left _ h))
      · exact .inr (.inr h)
    · rcases f2.cover q h s hs with h | h | h
      · exact .inl (List.mem_append_right _ h)
      · exact .inr (.inl (List.mem_append_right _ h))
      · exact .inr (.inr h)
  · rw [plW_app, plK_app]
    rcases List.mem_append.mp hs with h | h
    · rcases f1.self s h with h | h | h
      · exact .inl (List.mem_append_left _ h)
      · exact .inr (.inl (List.mem_append_left _ h))
      · exact .inr (.inr h)
    · rcases f2.self s h with h | h | h
      · exact .inl (List.mem_append_right _ h)
      · exact .inr (.inl (List.mem_append_right _ h))
      · exact .inr (.inr h)
theorem Fine.nil (M : Mg) : Fine M [] [] [] :=
  ⟨fun q h => (by cases h), fun q h => (by cases h), .nil, fun t h => (by cases h), fun r h => (by cases h), fun r h => (by cases h), fun i r h => (by simp at h), fun q h => (by cases h), fun q h => by cases h⟩
theorem Fine.empty {M : Mg} {p : Wd} (h : M.way p ≠ .clash ∧ M.way p ≠ .one ∧ M.way p ≠ .other ∧ M.way p ≠ .on) : Fine M [p] [] [] :=
  ⟨fun q h => (by cases h), fun q h => (by cases h), .nil, fun t h => (by cases h), fun r h => (by cases h), fun r h => (by cases h), fun i r h => (by simp at h), fun q h => (by cases h), fun q hq => (by rw [List.mem_singleton.mp hq]; exact .inr (.inr h))⟩
theorem Fine.take {M : Mg} {p : Wd} {b : Bool} (h : M.way p = if b = true then .one else .other) : Fine M [p] [] [(p, b)] :=
  ⟨fun q h => ⟨p, List.mem_singleton.mpr rfl, (by rw [List.mem_singleton.mp (show q ∈ [p] from h)]; exact List.prefix_refl _)⟩, fun q h => .inl h, (by simp [plW, plK]), fun t h q hq _ => (by
    rw [List.mem_singleton.mp (show q ∈ [p] from hq), List.mem_singleton.mp (show t ∈ [p] from h)]), fun r h => (by cases h), fun r hr => (by rw [List.mem_singleton.mp hr]; exact h), fun i r h => (by simp at h), fun q h => (by cases h), fun q hq => .inr (.inl hq)⟩
theorem Fine.node {M : Mg} {U : List Wd} (ok : MgOk M U) {p : Wd} {c : Cl} {W : List Rw} {K : List Tk} (hw : M.way p = .on) (hc : M.cell p = some c) (f : Fine M (M.ch p) W K) : Fine M [p] ((p, c) :: W) K := by
  have lt : ∀ q ∈ plW W ++ plK K, p <+: q ∧ q ≠ p := fun q hq => by
    obtain ⟨s, hs, hp⟩ := f.pre q hq
    obtain ⟨_, a, b⟩ := ok.ch p s hs
    have := prefix_child a hp
    rw [b] at this
    exact this
  have ep : ∀ q, q ∈ plW ((p, c) :: W) ++ plK K ↔ q = p ∨ q ∈ plW W ++ plK K := fun q => List.mem_cons
  refine ⟨fun q hq => ⟨p, List.mem_singleton.mpr rfl, ?_⟩, fun q hq => ?_, ?_, fun t ht q hq hp => ?_, fun r hr => ?_, f.tk, fun i r hi => ?_, fun q hq s hs => ?_, fun s hs => ?_⟩
  · rcases (ep q).mp hq with rfl | h
    · exact List.prefix_refl _
    · exact (lt q h).1
  · rcases (ep q).mp hq with rfl | h
    · exact .inl (List.mem_singleton.mpr rfl)
    · refine .inr ?_
      rcases f.par q h with h | ⟨h, h2⟩
      · obtain ⟨_, a, b⟩ := ok.ch p q h
        exact ⟨a, by rw [b]; exact List.mem_cons_self⟩
      · exact ⟨h, List.mem_cons_of_mem _ h2⟩
  · exact List.nodup_cons.mpr ⟨fun h => (lt p h).2 rfl, f.nd⟩
  · rcases (ep q).mp hq with rfl | h
    · have := lt t (List.mem_append_right _ ht)
      exact absurd (hp.eq_of_length (Nat.le_antisymm hp.length_le this.1.length_le)) this.2
    · exact f.anti t ht q h hp
  · rcases List.mem_cons.mp hr with rfl | h
    · exact ⟨hw, hc⟩
    · exact f.on r h
  · cases i with
    | zero =>
      rw [List.getElem?_cons_zero] at hi
      cases hi
      exact .inl (List.mem_singleton.mpr rfl)
    | succ i =>
      rw [List.getElem?_cons_succ] at hi
      rw [List.take_succ_cons]
      refine .inr ?_
      rcases f.ahead i r hi with h | h
      · obtain ⟨_, a, b⟩ := ok.ch p r.1 h
        rw [b]
        exact List.mem_cons_self
      · exact List.mem_cons_of_mem _ h
  · rcases List.mem_cons.mp hq with rfl | h
    · rcases f.self s hs with h | h | h
      · exact .inl (List.mem_cons_of_mem _ h)
      · exact .inr (.inl h)
      · exact .inr (.inr h)
    · rcases f.cover q h s hs with h | h | h
      · exact .inl (List.mem_cons_of_mem _ h)
      · exact .inr (.inl h)
      · exact .inr (.inr h)
  · rw [List.mem_singleton.mp hs]
    exact .inl List.mem_cons_self
theorem fine_of {M : Mg} {U : List Wd} (ok : MgOk M U) : ∀ (n : Nat) (p : Wd), p ∈ U → 201 - p.length ≤ n → ∀ W K, trP M p = .ok (W, K) → Fine M [p] W K := by
  intro n
  induction n with
  | zero => intro p hp hn; have := ok.l200 p hp; omega
  | succ n ih =>
    intro p hp hn W K e
    have l2 := ok.l200 p hp
    by_cases h1 : M.way p = .clash
    · rw [trP_clash h1] at e; cases e
    by_cases h2 : M.way p = .one
    · rw [trP_one h2] at e
      cases e
      exact Fine.take (by rw [if_pos rfl]; exact h2)
    by_cases h3 : M.way p = .other
    · rw [trP_other h3] at e
      cases e
      exact Fine.take (by rw [if_neg (by decide)]; exact h3)
    by_cases h4 : M.way p = .on
    · cases hc : M.cell p with
      | none => rw [trP_bad h4 hc] at e; cases e
      | some c =>
        rw [trP_on ok l2 h4 hc] at e
        have list : ∀ (qs : List Wd), (∀ q ∈ qs, q ∈ M.ch p) → qs.Nodup → ∀ W K, trS M qs = .ok (W, K) → Fine M qs W K := by
          intro qs
          induction qs with
          | nil =>
            intro _ _ W K e
            cases e
            exact Fine.nil M
          | cons q qs ih2 =>
            intro hq nd W K e
            rw [trS_cons] at e
            have hqm := hq q List.mem_cons_self
            cases e1 : trP M q with
            | error x => rw [e1] at e; cases e
            | ok a =>
              cases e2 : trS M qs with
              | error x => rw [e1, e2] at e; cases e
              | ok b =>
                rw [e1, e2] at e
                cases e
                have f1 := ih q (ok.ch p q hqm).1 (by have := ok.len hqm; omega) a.1 a.2 e1
                have f2 := ih2 (fun x hx => hq x (List.mem_cons_of_mem _ hx)) (List.nodup_cons.mp nd).2 b.1 b.2 e2
                exact Fine.app f1 f2 (fun x hx y hy => by rw [ok.len (hq x hx), ok.len (hq y hy)]) nd
        cases e2 : trS M (M.ch p) with
        | error x => rw [e2] at e; cases e
        | ok b =>
          rw [e2] at e
          cases e
          exact Fine.node ok h4 hc (list _ (fun _ h => h) (ok.nd p) b.1 b.2 e2)
    · rw [trP_none h1 h2 h3 h4] at e
      cases e
      exact Fine.empty ⟨h1, h2, h3, h4⟩
/-! what is left of the rows a merge went on at -/
def cntF (pl : Pl) : List Rw → (Wd → Nat) → (Wd → Nat)
  | [], c => c
  | r :: t, c => if keepB pl (c r.1) r = true then cntF pl t (if r.1 = [] then c else bump c r.1.dropLast) else cntF pl t c
theorem left_app (pl : Pl) : ∀ (a b : List Rw) (c : Wd → Nat), leftF pl (a ++ b) c = leftF pl a c ++ leftF pl b (cntF pl a c)
  | [], b, c => rfl
  | r :: a, b, c => by
    rw [List.cons_append]
    rw [leftF, leftF, cntF]
    by_cases h : keepB pl (c r.1) r = true
    · rw [if_pos h, if_pos h, if_pos h, left_app pl a b, List.cons_append]
    · rw [if_neg h, if_neg h, if_neg h, left_app pl a b]
theorem bump_le (c : Wd → Nat) (q p : Wd) : c p ≤ bump c q p := by
  unfold bump
  split <;> omega
theorem cnt_le (pl : Pl) : ∀ (a : List Rw) (c : Wd → Nat) (p : Wd), c p ≤ cntF pl a c p
  | [], c, p => Nat.le_refl _
  | r :: a, c, p => by
    unfold cntF
    by_cases h : keepB pl (c r.1) r = true
    · rw [if_pos h]
      refine Nat.le_trans ?_ (cnt_le pl a _ p)
      split
      · exact Nat.le_refl _
      · exact bump_le _ _ _
    · rw [if_neg h]
      exact cnt_le pl a c p
theorem left_from (pl : Pl) : ∀ (a : List Rw) (c : Wd → Nat), ∀ x ∈ leftF pl a c, ∃ r ∈ a, ∃ n, x = outR pl n r
  | [], c, x, h => by cases h
  | r :: a, c, x, h => by
    unfold leftF at h
    by_cases hk : keepB pl (c r.1) r = true
    · rw [if_pos hk] at h
      rcases List.mem_cons.mp h with rfl | h
      · exact ⟨r, List.mem_cons_self, _, rfl⟩
      · obtain ⟨r', a1, a2⟩ := left_from pl a _ x h
        exact ⟨r', List.mem_cons_of_mem _ a1, a2⟩
    · rw [if_neg hk] at h
      obtain ⟨r', a1, a2⟩ := left_from pl a _ x h
      exact ⟨r', List.mem_cons_of_mem _ a1, a2⟩
theorem left_sub (pl : Pl) : ∀ (a : List Rw) (c : Wd → Nat), (plW (leftF pl a c)).Sublist (plW a)
  | [], c => .slnil
  | r :: a, c => by
    unfold leftF
    by_cases hk : keepB pl (c r.1) r = true
    · rw [if_pos hk]
      exact (left_sub pl a _).cons_cons _
    · rw [if_neg hk]
      exact (left_sub pl a _).cons _
theorem left_cnt (pl : Pl) : ∀ (a : List Rw) (c : Wd → Nat), ∀ q ∈ plW (leftF pl a c), q ≠ [] → 0 < cntF pl a c q.dropLast
  | [], c, q, h, _ => by cases h
  | r :: a, c, q, h, h0 => by
    unfold leftF at h
    unfold cntF
    by_cases hk : keepB pl (c r.1) r = true
    · rw [if_pos hk] at h ⊢
      rcases List.mem_cons.mp h with rfl | h
      · change r.1 ≠ [] at h0
        show 0 < cntF pl a _ r.1.dropLast
        rw [if_neg h0]
        refine Nat.lt_of_lt_of_le ?_ (cnt_le pl a _ _)
        unfold bump
        rw [if_pos rfl]
        omega
      · exact left_cnt pl a _ q h h0
    · rw [if_neg hk] at h ⊢
      exact left_cnt pl a _ q h h0
theorem left_keep {pl : Pl} {a b : List Rw} {r : Rw} {c : Wd → Nat} (h : keepB pl (cntF pl a c r.1) r = true) : r.1 ∈ plW (leftF pl (a ++ r :: b) c) := by
  rw [left_app, plW_app]
  refine List.mem_append_right _ ?_
  unfold leftF
  rw [if_pos h]
  exact List.mem_cons_self
theorem keep_of {pl : Pl} {n : Nat} {r : Rw} (h : r.1 = [] ∨ r.2.1 ≠ none ∨ 0 < n) : keepB pl n r = true := by
  unfold keepB
  rcases h with h | h | h
  · simp [h]
  · simp [h]
  · have : ¬ n = 0 := by omega
    simp [this]
theorem left_value {pl : Pl} {W : List Rw} {r : Rw} {c : Wd → Nat} (hr : r ∈ W) (h : r.1 = [] ∨ r.2.1 ≠ none) : r.1 ∈ plW (leftF pl W c) := by
  obtain ⟨a, b, rfl⟩ := List.append_of_mem hr
  exact left_keep (keep_of (h.imp id .inl))
theorem cnt0_pos : ∀ (K : List Tk) (t : Tk), t ∈ K → ∀ f : Wd → Nat, 0 < (K.foldl (fun f t => bump f t.1.dropLast) f) t.1.dropLast := by
  have mono : ∀ (K : List Tk) (f : Wd → Nat) (p : Wd), f p ≤ (K.foldl (fun f t => bump f t.1.dropLast) f) p := by
    intro K
    induction K with
    | nil => intro f p; exact Nat.le_refl _
    | cons t K ih => intro f p; rw [List.foldl_cons]; exact Nat.le_trans (bump_le f _ p) (ih _ p)
  intro K
  induction K with
  | nil => intro t h; cases h
  | cons u K ih =>
    intro t ht f
    rw [List.foldl_cons]
    rcases List.mem_cons.mp ht with rfl | h
    · refine Nat.lt_of_lt_of_le ?_ (mono K _ _)
      unfold bump
      rw [if_pos rfl]
      omega
    · exact ih t h _
/-- the rows left are closed under parents, and the parents of what was taken are left -/
theorem left_par {M : Mg} {pl : Pl} {W : List Rw} {K : List Tk} (f : Fine M [[]] W K) : ∀ q, (q ∈ plW (leftF pl W.reverse (cnt0 K)) ∨ q ∈ plK K) → q ≠ [] → q.dropLast ∈ plW (leftF pl W.reverse (cnt0 K)) := by
  intro q hq h0
  have ndW : (plW W).Nodup := (List.nodup_append.mp f.nd).1
  have sub := left_sub pl W.reverse (cnt0 K)
  have mW : ∀ q ∈ plW (leftF pl W.reverse (cnt0 K)), q ∈ plW W := fun q h => by
    have := sub.subset h
    unfold plW at this ⊢
    rw [List.map_reverse] at this
    exact List.mem_reverse.mp this
  have hp : q.dropLast ∈ plW W := by
    rcases f.par q (hq.elim (fun h => List.mem_append_left _ (mW q h)) fun h => List.mem_append_right _ h) with h | h
    · exact absurd (List.mem_singleton.mp h) h0
    · exact h.2
  obtain ⟨r, hr, er⟩ := List.mem_map.mp hp
  obtain ⟨b, a, hW⟩ := List.append_of_mem hr
  have hrev : W.reverse = a.reverse ++ r :: b.reverse := by rw [hW]; simp
  rw [← er]
  rw [hrev]
  refine left_keep (keep_of (.inr (.inr ?_)))
  rcases hq with hq | hq
  · have hqW := mW q hq
    obtain ⟨r', hr', er'⟩ := List.mem_map.mp hqW
    obtain ⟨i, hi⟩ := List.mem_iff_getElem?.mp hr'
    have ha := f.ahead i r' hi
    rw [er'] at ha
    have ha : q.dropLast ∈ plW (W.take i) := ha.resolve_left fun h => h0 (List.mem_singleton.mp h)
    -- q stands behind r
    have hqa : q ∈ plW a := by
      have hil : b.length < i := by
        refine Decidable.byContradiction fun hn => ?_
        have ht : W.take i = b.take i := by rw [hW, List.take_append_of_le_length (by omega)]
        rw [ht, ← er] at ha
        have hb : r.1 ∈ plW b := (List.take_sublist i b).map (·.1) |>.subset ha
        rw [hW] at ndW
        unfold plW at ndW hb
        rw [List.map_append, List.map_cons] at ndW
        exact (List.nodup_append.mp ndW).2.2 r.1 hb r.1 List.mem_cons_self rfl
      rw [hW, List.getElem?_append_right (by omega)] at hi
      obtain ⟨j, hj⟩ : ∃ j, i - b.length = j + 1 := ⟨i - b.length - 1, by omega⟩
      rw [hj, List.getElem?_cons_succ] at hi
      exact List.mem_map.mpr ⟨r', List.mem_of_getElem? hi, er'⟩
    rw [er]
    refine left_cnt pl a.reverse (cnt0 K) q ?_ h0
    rw [hrev, left_app, plW_app] at hq
    rcases List.mem_append.mp hq with h | h
    · exact h
    · have hs := (left_sub pl (r :: b.reverse) (cntF pl a.reverse (cnt0 K))).subset h
      have : q ∈ plW (b ++ [r]) := by
        unfold plW at hs ⊢
        simp only [List.map_cons, List.map_reverse, List.mem_cons, List.mem_reverse, List.map_append, List.mem_append, List.map_nil, List.not_mem_nil, or_false] at hs ⊢
        exact hs.symm
      rw [hW, show b ++ r :: a = (b ++ [r]) ++ a by simp, plW_app] at ndW
      exact absurd rfl ((List.nodup_append.mp ndW).2.2 q this q hqa)
  · rw [er]
    refine Nat.lt_of_lt_of_le ?_ (cnt_le pl _ _ _)
    obtain ⟨t, ht, et⟩ := List.mem_map.mp hq
    rw [← et]
    exact cnt0_pos K t ht _
end Toy
set_option Elab.async false
set_option linter.all false
set_option maxRecDepth 100000
set_option maxHeartbeats 4000000
namespace Toy
open PySem L2 Sh ShL LamX NdefX
/-! ### the merge of three trees -/
noncomputable def numO (ps : List Prt) (rs : List Rw) (p : Wd) : OI := if p ∈ rs.map (·.1) then some (idxP ps (prt rs p) : Nat) else none
noncomputable def mgOf (pl : Pl) (z : Wd) (ps : List Prt) (r0 r1 r2 : List Rw) : Mg where
  way p := wayM pl (numO ps r0 p) (numO ps r1 p) (numO ps r2 p)
  cell p := mergedM pl (metB (r0.lookup p)) ((r1.lookup p).getD (metG pl (r0.lookup p))) ((r2.lookup p).getD (metG pl (r0.lookup p)))
  ch p := (z.filter fun c => decide (p ++ [c] ∈ r0.map (·.1)) || (decide (p ++ [c] ∈ r1.map (·.1)) || decide (p ++ [c] ∈ r2.map (·.1)))).map fun c => p ++ [c]
def allP (r0 r1 r2 : List Rw) : List Wd := r0.map (·.1) ++ (r1.map (·.1) ++ r2.map (·.1))
structure Three (z : Wd) (ps : List Prt) (r0 r1 r2 : List Rw) : Prop where
  zn : z.Nodup
  t0 : TrOk z r0
  t1 : TrOk z r1
  t2 : TrOk z r2
  p0 : ∀ r ∈ r0, prt r0 r.1 ∈ ps
  p1 : ∀ r ∈ r1, prt r1 r.1 ∈ ps
  p2 : ∀ r ∈ r2, prt r2 r.1 ∈ ps
theorem mem_all {r0 r1 r2 : List Rw} {p : Wd} : p ∈ allP r0 r1 r2 ↔ p ∈ r0.map (·.1) ∨ p ∈ r1.map (·.1) ∨ p ∈ r2.map (·.1) := by
  unfold allP
  rw [List.mem_append, List.mem_append]
theorem ch_mem {pl : Pl} {z : Wd} {ps : List Prt} {r0 r1 r2 : List Rw} {p q : Wd} : q ∈ (mgOf pl z ps r0 r1 r2).ch p ↔ ∃ c ∈ z, q = p ++ [c] ∧ q ∈ allP r0 r1 r2 := by
  show q ∈ List.map _ _ ↔ _
  rw [List.mem_map]
  constructor
  · rintro ⟨c, hc, rfl⟩
    obtain ⟨h1, h2⟩ := List.mem_filter.mp hc
    exact ⟨c, h1, rfl, mem_all.mpr (by simpa using h2)⟩
  · rintro ⟨c, hc, rfl, h⟩
    exact ⟨c, List.mem_filter.mpr ⟨hc, by simpa using mem_all.mp h⟩, rfl⟩
theorem mg_ok {pl : Pl} {z : Wd} {ps : List Prt} {r0 r1 r2 : List Rw} (h : Three z ps r0 r1 r2) : MgOk (mgOf pl z ps r0 r1 r2) (allP r0 r1 r2) := by
  refine ⟨fun p q hq => ?_, fun p => ?_, fun p hp => ?_⟩
  · obtain ⟨c, _, rfl, hm⟩ := ch_mem.mp hq
    exact ⟨hm, by simp, by simp⟩
  · refine List.Pairwise.map _ ?_ (List.Pairwise.filter _ h.zn)
    intro a b hne e
    simp at e
    exact hne e
  · rcases mem_all.mp hp with hp | hp | hp
    · exact h.t0.l200 p hp
    · exact h.t1.l200 p hp
    · exact h.t2.l200 p hp
theorem num_eq {z : Wd} {ps : List Prt} {ra rb : List Rw} (ta : TrOk z ra) (tb : TrOk z rb) (pa : ∀ r ∈ ra, prt ra r.1 ∈ ps) (pb : ∀ r ∈ rb, prt rb r.1 ∈ ps) (p : Wd) (h : numO ps ra p = numO ps rb p) : prt ra p = prt rb p := by
  unfold numO at h
  by_cases ha : p ∈ ra.map (·.1) <;> by_cases hb : p ∈ rb.map (·.1)
  · rw [if_pos ha, if_pos hb] at h
    obtain ⟨x, hx, ex⟩ := List.mem_map.mp ha
    obtain ⟨y, hy, ey⟩ := List.mem_map.mp hb
    have a := pa x hx
    have b := pb y hy
    rw [ex] at a
    rw [ey] at b
    exact (idxP_inj a b).mp (by have := Option.some.inj h; omega)
  · rw [if_pos ha, if_neg hb] at h
    cases h
  · rw [if_neg ha, if_pos hb] at h
    cases h
  · rw [prt_none ta ha, prt_none tb hb]
theorem num_none {ps : List Prt} {rs : List Rw} {p : Wd} : numO ps rs p = none ↔ p ∉ rs.map (·.1) := by
  unfold numO
  by_cases h : p ∈ rs.map (·.1) <;> simp [h]
def vO (rs : List Rw) (p : Wd) : OI := (rs.lookup p).bind (·.1)
theorem vO_prt {ra rb : List Rw} {q w : Wd} (h : prt ra q = prt rb q) (hq : q <+: w) : vO ra w = vO rb w := by
  obtain ⟨s, rfl⟩ := hq
  have := congrFun h s
  unfold prt at this
  unfold vO
  rw [this]
theorem vO_no {z : Wd} {rs : List Rw} (t : TrOk z rs) {q w : Wd} (h : q ∉ rs.map (·.1)) (hq : q <+: w) : vO rs w = none := by
  obtain ⟨s, rfl⟩ := hq
  have := congrFun (prt_none t h) s
  unfold prt at this
  unfold vO
  rw [this]
  rfl
theorem vO_of {rs : List Rw} (nd : (rs.map (·.1)).Nodup) {r : Rw} (h : r ∈ rs) : vO rs r.1 = r.2.1 := by
  unfold vO
  rw [lookup_of nd h]
  rfl
theorem vO_out {rs : List Rw} {p : Wd} (h : p ∉ rs.map (·.1)) : vO rs p = none := by
  unfold vO
  rw [lookup_no h]
  rfl
theorem way_one {pl : Pl} {b o t : OI} (hg : pl.go ≠ .kept) (h : wayM pl b o t = .one) : t = b := by
  unfold wayM at h
  repeat' split at h
  all_goals simp_all
theorem way_other {pl : Pl} {b o t : OI} (hg : pl.go ≠ .kept) (h : wayM pl b o t = .other) : o = b := by
  unfold wayM at h
  repeat' split at h
  all_goals simp_all
theorem way_none {pl : Pl} {b o t : OI} (h1 : wayM pl b o t ≠ .clash) (h2 : wayM pl b o t ≠ .one) (h3 : wayM pl b o t ≠ .other) (h4 : wayM pl b o t ≠ .on) : (o = b ∧ t = none) ∨ (t = b ∧ o = none) ∨ (o = none ∧ t = none) := by
  unfold wayM at h1 h2 h3 h4
  repeat' split at h4
  all_goals simp_all
theorem way_clash {pl : Pl} {b o t : OI} (h : wayM pl b o t = .clash) : pl.al = .clash ∨ pl.go = .clash := by
  unfold wayM at h
  repeat' split at h
  all_goals simp_all
/-- one, other: whose part is there -/
theorem way_in {pl : Pl} {b o t : OI} (h : wayM pl b o t = .one) : o ≠ none := by
  unfold wayM at h
  repeat' split at h
  all_goals simp_all
theorem way_in2 {pl : Pl} {b o t : OI} (h : wayM pl b o t = .other) : t ≠ none := by
  unfold wayM at h
  repeat' split at h
  all_goals simp_all
theorem merged_none {pl : Pl} {b o t : Cl} (h : mergedM pl b o t = none) : pl.al = .clash ∨ pl.un = .clash := by
  unfold mergedM at h
  repeat' split at h
  all_goals simp_all
theorem merged_due {pl : Pl} {b o t c : Cl} (h : mergedM pl b o t = some c) : c.1 ∈ dueM b.1 o.1 t.1 ∧ ((dueM b.1 o.1 t.1).length = 2 → pl.un ≠ .clash ∧ c.1 = if pl.un = .one then o.1 else t.1) := by
  unfold mergedM at h
  unfold dueM
  repeat' split at h
  all_goals simp_all
  all_goals first
    | (subst h; simp; done)
    | (subst h; split <;> simp; done)
    | skip
theorem merged_from {pl : Pl} {b o t c : Cl} (h : mergedM pl b o t = some c) : c.1 = o.1 ∨ c.1 = t.1 := by
  unfold mergedM at h
  repeat' split at h
  all_goals simp_all
  all_goals first
    | (subst h; simp; done)
    | (subst h; split <;> simp; done)
    | skip
/-! the rows of the merged tree -/
def sdK (b : Bool) (K : List Tk) : List Wd := plK (K.filter fun t => t.2 == b)
def finR (pl : Pl) (W : List Rw) (K : List Tk) (r1 r2 : List Rw) : List Rw :=
  leftF pl W.reverse (cnt0 K) ++ (r1.filter (fun r => inT (sdK true K) r.1) ++ r2.filter (fun r => inT (sdK false K) r.1))
theorem sd_mem {b : Bool} {K : List Tk} {p : Wd} : p ∈ sdK b K ↔ (p, b) ∈ K := by
  unfold sdK plK
  rw [List.mem_map]
  constructor
  · rintro ⟨t, h, rfl⟩
    obtain ⟨h1, h2⟩ := List.mem_filter.mp h
    rw [← (show t.2 = b by simpa using h2)]
    exact h1
  · intro h
    exact ⟨_, List.mem_filter.mpr ⟨h, by simp⟩, rfl⟩
theorem inT_iff {hs : List Wd} {p : Wd} : inT hs p = true ↔ ∃ h ∈ hs, h <+: p := by
  unfold inT
  rw [List.any_eq_true]
  constructor
  · rintro ⟨h, a, b⟩
    exact ⟨h, a, of_decide_eq_true b⟩
  · rintro ⟨h, a, b⟩
    exact ⟨h, a, decide_eq_true b⟩
theorem tk_uniq {M : Mg} {W : List Rw} {K : List Tk} {qs : List Wd} (f : Fine M qs W K) {t u : Tk} (ht : t ∈ K) (hu : u ∈ K) {w : Wd} (h1 : t.1 <+: w) (h2 : u.1 <+: w) : t = u := by
  have mt : t.1 ∈ plK K := List.mem_map.mpr ⟨t, ht, rfl⟩
  have mu : u.1 ∈ plK K := List.mem_map.mpr ⟨u, hu, rfl⟩
  have e : t.1 = u.1 := by
    rcases List.prefix_or_prefix_of_prefix h1 h2 with h | h
    · exact (f.anti _ mt _ (List.mem_append_right _ mu) h).symm
    · exact f.anti _ mu _ (List.mem_append_right _ mt) h
  have nd : (plK K).Nodup := (List.nodup_append.mp f.nd).2.1
  unfold plK at nd
  obtain ⟨i, hi⟩ := List.mem_iff_getElem?.mp ht
  obtain ⟨j, hj⟩ := List.mem_iff_getElem?.mp hu
  have : i = j := by
    have il : i < (K.map (·.1)).length := by rw [List.length_map]; exact (List.getElem?_eq_some_iff.mp hi).1
    refine (List.getElem?_inj il nd).mp ?_
    rw [List.getElem?_map, List.getElem?_map, hi, hj]
    exact congrArg some e
  subst this
  rw [hi] at hj
  exact Option.some.inj hj
theorem w_not {M : Mg} {W : List Rw} {K : List Tk} {qs : List Wd} (f : Fine M qs W K) {t : Tk} (ht : t ∈ K) {w : Wd} (h : t.1 <+: w) : w ∉ plW W := fun hw => by
  have mt : t.1 ∈ plK K := List.mem_map.mpr ⟨t, ht, rfl⟩
  have := f.anti _ mt w (List.mem_append_left _ hw) h
  exact (List.nodup_append.mp f.nd).2.2 w hw t.1 mt this
theorem left_in {pl : Pl} {W : List Rw} {c : Wd → Nat} {p : Wd} (h : p ∈ plW (leftF pl W.reverse c)) : p ∈ plW W := by
  have := (left_sub pl W.reverse c).subset h
  unfold plW at this ⊢
  rw [List.map_reverse] at this
  exact List.mem_reverse.mp this
theorem fin_mem {pl : Pl} {W : List Rw} {K : List Tk} {r1 r2 : List Rw} {p : Wd} : p ∈ plW (finR pl W K r1 r2) ↔ p ∈ plW (leftF pl W.reverse (cnt0 K)) ∨ (p ∈ r1.map (·.1) ∧ ∃ t ∈ sdK true K, t <+: p) ∨ (p ∈ r2.map (·.1) ∧ ∃ t ∈ sdK false K, t <+: p) := by
  have key : ∀ (rs : List Rw) (hs : List Wd), p ∈ plW (rs.filter fun r => inT hs r.1) ↔ p ∈ rs.map (·.1) ∧ ∃ t ∈ hs, t <+: p := fun rs hs => by
    unfold plW
    constructor
    · intro h
      obtain ⟨r, h1, rfl⟩ := List.mem_map.mp h
      obtain ⟨h2, h3⟩ := List.mem_filter.mp h1
      exact ⟨List.mem_map.mpr ⟨r, h2, rfl⟩, inT_iff.mp h3⟩
    · rintro ⟨h1, h2⟩
      obtain ⟨r, h3, rfl⟩ := List.mem_map.mp h1
      exact List.mem_map.mpr ⟨r, List.mem_filter.mpr ⟨h3, inT_iff.mpr h2⟩, rfl⟩
  unfold finR
  rw [plW_app, plW_app, List.mem_append, List.mem_append, key, key]
theorem fin_nd {M : Mg} {pl : Pl} {W : List Rw} {K : List Tk} {qs : List Wd} (f : Fine M qs W K) {r1 r2 : List Rw} (n1 : (r1.map (·.1)).Nodup) (n2 : (r2.map (·.1)).Nodup) : (plW (finR pl W K r1 r2)).Nodup := by
  unfold finR
  rw [plW_app, plW_app]
  have ndW : (plW W).Nodup := (List.nodup_append.mp f.nd).1
  refine List.nodup_append.mpr ⟨?_, List.nodup_append.mpr ⟨?_, ?_, ?_⟩, ?_⟩
  · refine (left_sub pl _ _).nodup ?_
    unfold plW at ndW ⊢
    rw [List.map_reverse]
    exact (List.reverse_perm _).nodup_iff.mpr ndW
  · exact (List.filter_sublist.map _).nodup n1
  · exact (List.filter_sublist.map _).nodup n2
  · intro a ha b hb e
    subst e
    obtain ⟨x, hx, ex⟩ := List.mem_map.mp ha
    obtain ⟨y, hy, ey⟩ := List.mem_map.mp hb
    obtain ⟨t, ht, pt⟩ := inT_iff.mp (List.mem_filter.mp hx).2
    obtain ⟨u, hu, pu⟩ := inT_iff.mp (List.mem_filter.mp hy).2
    have := tk_uniq f (sd_mem.mp ht) (sd_mem.mp hu) (w := a) (by rw [← ex]; exact pt) (by rw [← ey]; exact pu)
    simp at this
  · intro a ha b hb e
    subst e
    have hW := left_in ha
    rcases List.mem_append.mp hb with hb | hb
    all_goals
      obtain ⟨y, hy, ey⟩ := List.mem_map.mp hb
      obtain ⟨u, hu, pu⟩ := inT_iff.mp (List.mem_filter.mp hy).2
      exact w_not f (sd_mem.mp hu) (w := a) (by rw [← ey]; exact pu) hW
theorem clo_par {z : Wd} {rs : List Rw} (t : TrOk z rs) {p : Wd} (h : p ∈ rs.map (·.1)) : p.dropLast ∈ rs.map (·.1) := by
  rw [List.dropLast_eq_take]
  exact t.clo p h _
section
variable {pl : Pl} {z : Wd} {ps : List Prt} {r0 r1 r2 : List Rw} {W : List Rw} {K : List Tk}
theorem fin_root (th : Three z ps r0 r1 r2) (f : Fine (mgOf pl z ps r0 r1 r2) [[]] W K) : [] ∈ plW (finR pl W K r1 r2) := by
  rw [fin_mem]
  rcases f.self [] (List.mem_singleton.mpr rfl) with h | h | h
  · obtain ⟨r, hr, er⟩ := List.mem_map.mp h
    refine .inl ?_
    rw [← er]
    exact left_value (List.mem_reverse.mpr hr) (.inl er)
  · obtain ⟨t, ht, et⟩ := List.mem_map.mp h
    obtain ⟨p, b⟩ := t
    dsimp only at et
    subst et
    cases b
    · exact .inr (.inr ⟨th.t2.root, [], sd_mem.mpr ht, List.prefix_refl _⟩)
    · exact .inr (.inl ⟨th.t1.root, [], sd_mem.mpr ht, List.prefix_refl _⟩)
  · exfalso
    rcases way_none h.1 h.2.1 h.2.2.1 h.2.2.2 with ⟨_, h⟩ | ⟨_, h⟩ | ⟨h, _⟩
    · exact num_none.mp h th.t2.root
    · exact num_none.mp h th.t1.root
    · exact num_none.mp h th.t1.root
theorem fin_par (th : Three z ps r0 r1 r2) (f : Fine (mgOf pl z ps r0 r1 r2) [[]] W K) : ∀ p ∈ plW (finR pl W K r1 r2), p.dropLast ∈ plW (finR pl W K r1 r2) := by
  intro p hp
  by_cases h0 : p = []
  · rw [h0]
    exact fin_root th f
  have side : ∀ (b : Bool) (rs : List Rw), TrOk z rs → p ∈ rs.map (·.1) → (∃ t ∈ sdK b K, t <+: p) → p.dropLast ∈ plW (leftF pl W.reverse (cnt0 K)) ∨ (p.dropLast ∈ rs.map (·.1) ∧ ∃ t ∈ sdK b K, t <+: p.dropLast) := fun b rs ok h1 ⟨t, ht, pt⟩ => by
    by_cases e : t = p
    · subst e
      exact .inl (left_par f _ (.inr (List.mem_map.mpr ⟨_, sd_mem.mp ht, rfl⟩)) h0)
    · refine .inr ⟨clo_par ok h1, t, ht, ?_⟩
      rw [← List.dropLast_concat_getLast h0, List.prefix_concat_iff] at pt
      rcases pt with h | h
      · rw [List.dropLast_concat_getLast h0] at h
        exact absurd h e
      · exact h
  rw [fin_mem] at hp ⊢
  rcases hp with h | ⟨h1, h2⟩ | ⟨h1, h2⟩
  · exact .inl (left_par f _ (.inl h) h0)
  · rcases side true r1 th.t1 h1 h2 with h | h
    · exact .inl h
    · exact .inr (.inl h)
  · rcases side false r2 th.t2 h1 h2 with h | h
    · exact .inl h
    · exact .inr (.inr h)
theorem cell_at (hb : pl.go ≠ .base) {p : Wd} {c : Cl} (h : (mgOf pl z ps r0 r1 r2).cell p = some c) : ∃ b o t : Cl, b.1 = vO r0 p ∧ o.1 = vO r1 p ∧ t.1 = vO r2 p ∧ mergedM pl b o t = some c := by
  have hG : metG pl (r0.lookup p) = (none, false) := by unfold metG; rw [if_neg hb]
  have h : mergedM pl (metB (r0.lookup p)) ((r1.lookup p).getD (metG pl (r0.lookup p))) ((r2.lookup p).getD (metG pl (r0.lookup p))) = some c := h
  rw [hG] at h
  have e : ∀ rs : List Rw, ((rs.lookup p).getD (none, false)).1 = vO rs p := fun rs => by
    unfold vO
    cases rs.lookup p <;> rfl
  exact ⟨_, _, _, e r0, e r1, e r2, h⟩
theorem fin_w (f : Fine (mgOf pl z ps r0 r1 r2) [[]] W K) (n1 : (r1.map (·.1)).Nodup) (n2 : (r2.map (·.1)).Nodup) {r : Rw} (hr : r ∈ W) : vO (finR pl W K r1 r2) r.1 = r.2.1 := by
  have nd := fin_nd (pl := pl) f n1 n2
  have ndW : (plW W).Nodup := (List.nodup_append.mp f.nd).1
  by_cases h : r.1 ∈ plW (leftF pl W.reverse (cnt0 K))
  · obtain ⟨x, hx, ex⟩ := List.mem_map.mp h
    have hF : x ∈ finR pl W K r1 r2 := List.mem_append_left _ hx
    obtain ⟨r', hr', n, rfl⟩ := left_from pl _ _ x hx
    have hr' := List.mem_reverse.mp hr'
    have e1 : r'.1 = r.1 := ex
    have e2 : r'.2 = r.2 := by
      have a := lookup_of ndW hr'
      have b := lookup_of ndW hr
      rw [e1, b] at a
      exact (Option.some.inj a).symm
    have := vO_of nd hF
    rw [← e1]
    rw [show (outR pl n r').1 = r'.1 from rfl] at this
    rw [this]
    show r'.2.1 = r.2.1
    rw [e2]
  · have hv : r.2.1 = none := by
      refine Classical.byContradiction fun hne => h ?_
      exact left_value (List.mem_reverse.mpr hr) (.inr hne)
    rw [hv]
    refine vO_out fun hm => ?_
    have hW : r.1 ∈ plW W := List.mem_map.mpr ⟨r, hr, rfl⟩
    rcases fin_mem.mp hm with h1 | ⟨_, t, ht, pt⟩ | ⟨_, t, ht, pt⟩
    · exact h h1
    · exact w_not f (sd_mem.mp ht) pt hW
    · exact w_not f (sd_mem.mp ht) pt hW
theorem fin_k (f : Fine (mgOf pl z ps r0 r1 r2) [[]] W K) (n1 : (r1.map (·.1)).Nodup) (n2 : (r2.map (·.1)).Nodup) {t : Tk} (ht : t ∈ K) {w : Wd} (hw : t.1 <+: w) : vO (finR pl W K r1 r2) w = vO (if t.2 = true then r1 else r2) w := by
  have nd := fin_nd (pl := pl) f n1 n2
  have hW := w_not f ht hw
  have out : w ∉ (if t.2 = true then r1 else r2).map (·.1) → w ∉ plW (finR pl W K r1 r2) := fun hn hm => by
    rcases fin_mem.mp hm with h1 | ⟨h1, u, hu, pu⟩ | ⟨h1, u, hu, pu⟩
    · exact hW (left_in h1)
    all_goals
      have := tk_uniq f ht (sd_mem.mp hu) hw pu
      subst this
      exact hn h1
  by_cases h : w ∈ (if t.2 = true then r1 else r2).map (·.1)
  · obtain ⟨r, hr, rfl⟩ := List.mem_map.mp h
    obtain ⟨p, b⟩ := t
    cases b
    · have hF : r ∈ finR pl W K r1 r2 := List.mem_append_right _ (List.mem_append_right _ (List.mem_filter.mpr ⟨hr, inT_iff.mpr ⟨p, sd_mem.mpr ht, hw⟩⟩))
      exact (vO_of nd hF).trans (vO_of n2 hr).symm
    · have hF : r ∈ finR pl W K r1 r2 := List.mem_append_right _ (List.mem_append_left _ (List.mem_filter.mpr ⟨hr, inT_iff.mpr ⟨p, sd_mem.mpr ht, hw⟩⟩))
      exact (vO_of nd hF).trans (vO_of n1 hr).symm
  · rw [vO_out h]
    exact vO_out (out h)
theorem reach (th : Three z ps r0 r1 r2) (f : Fine (mgOf pl z ps r0 r1 r2) [[]] W K) {w : Wd} (hw : w ∈ allP r0 r1 r2) : w ∈ plW W ∨ (∃ t ∈ K, t.1 <+: w) ∨ ∃ q, q <+: w ∧ ((numO ps r1 q = numO ps r0 q ∧ numO ps r2 q = none) ∨ (numO ps r2 q = numO ps r0 q ∧ numO ps r1 q = none) ∨ (numO ps r1 q = none ∧ numO ps r2 q = none)) := by
  have clo : ∀ n, w.take n ∈ allP r0 r1 r2 := fun n => by
    rcases mem_all.mp hw with h | h | h
    · exact mem_all.mpr (.inl (th.t0.clo w h n))
    · exact mem_all.mpr (.inr (.inl (th.t1.clo w h n)))
    · exact mem_all.mpr (.inr (.inr (th.t2.clo w h n)))
  have wd : ∀ c ∈ w, c ∈ z := by
    rcases mem_all.mp hw with h | h | h
    · exact th.t0.wd w h
    · exact th.t1.wd w h
    · exact th.t2.wd w h
  have case : ∀ s, s <+: w → (s ∈ plW W ∨ s ∈ plK K ∨ ((mgOf pl z ps r0 r1 r2).way s ≠ .clash ∧ (mgOf pl z ps r0 r1 r2).way s ≠ .one ∧ (mgOf pl z ps r0 r1 r2).way s ≠ .other ∧ (mgOf pl z ps r0 r1 r2).way s ≠ .on)) → s ∈ plW W ∨ (∃ t ∈ K, t.1 <+: w) ∨ ∃ q, q <+: w ∧ ((numO ps r1 q = numO ps r0 q ∧ numO ps r2 q = none) ∨ (numO ps r2 q = numO ps r0 q ∧ numO ps r1 q = none) ∨ (numO ps r1 q = none ∧ numO ps r2 q = none)) := fun s hs h => by
    rcases h with h | h | ⟨h1, h2, h3, h4⟩
    · exact .inl h
    · obtain ⟨t, ht, et⟩ := List.mem_map.mp h
      exact .inr (.inl ⟨t, ht, by rw [et]; exact hs⟩)
    · exact .inr (.inr ⟨s, hs, way_none h1 h2 h3 h4⟩)
  have key : ∀ n, n ≤ w.length → w.take n ∈ plW W ∨ (∃ t ∈ K, t.1 <+: w) ∨ ∃ q, q <+: w ∧ ((numO ps r1 q = numO ps r0 q ∧ numO ps r2 q = none) ∨ (numO ps r2 q = numO ps r0 q ∧ numO ps r1 q = none) ∨ (numO ps r1 q = none ∧ numO ps r2 q = none)) := by
    intro n
    induction n with
    | zero =>
      intro _
      rw [List.take_zero]
      exact case [] List.nil_prefix (f.self [] (List.mem_singleton.mpr rfl))
    | succ n ih =>
      intro hn
      rcases ih (by omega) with h | h | h
      · refine case _ (List.take_prefix _ _) (f.cover _ h _ ?_)
        refine ch_mem.mpr ⟨w[n], wd _ (List.getElem_mem (by omega)), ?_, clo _⟩
        rw [List.take_add_one, List.getElem?_eq_getElem (by omega)]
        rfl
      · exact .inr (.inl h)
      · exact .inr (.inr h)
  have := key w.length (Nat.le_refl _)
  rw [List.take_length] at this
  exact this
theorem fin_val (th : Three z ps r0 r1 r2) (f : Fine (mgOf pl z ps r0 r1 r2) [[]] W K) (hb : pl.go ≠ .base) (hk : pl.go ≠ .kept) (w : Wd) :
    vO (finR pl W K r1 r2) w ∈ dueM (vO r0 w) (vO r1 w) (vO r2 w) ∧ ((dueM (vO r0 w) (vO r1 w) (vO r2 w)).length = 2 → pl.un ≠ .clash ∧ vO (finR pl W K r1 r2) w = if pl.un = .one then vO r1 w else vO r2 w) := by
  have n1 := th.t1.nd
  have n2 := th.t2.nd
  by_cases hU : w ∉ allP r0 r1 r2
  · have h0 : w ∉ r0.map (·.1) := fun h => hU (mem_all.mpr (.inl h))
    have h1 : w ∉ r1.map (·.1) := fun h => hU (mem_all.mpr (.inr (.inl h)))
    have h2 : w ∉ r2.map (·.1) := fun h => hU (mem_all.mpr (.inr (.inr h)))
    rw [vO_out h0, vO_out h1, vO_out h2]
    have hF : w ∉ plW (finR pl W K r1 r2) := fun hm => by
      rcases fin_mem.mp hm with h | ⟨h, _⟩ | ⟨h, _⟩
      · obtain ⟨r, hr, er⟩ := List.mem_map.mp (left_in h)
        subst er
        have hon : wayM pl (numO ps r0 r.1) (numO ps r1 r.1) (numO ps r2 r.1) = .on := (f.on r hr).1
        rw [num_none.mpr h0, num_none.mpr h1, num_none.mpr h2] at hon
        simp [wayM] at hon
      · exact h1 h
      · exact h2 h
    rw [vO_out hF]
    simp [dueM]
  have hU := Decidable.not_not.mp hU
  rcases reach th f hU with h | ⟨t, ht, hw⟩ | ⟨q, hq, h⟩
  · obtain ⟨r, hr, er⟩ := List.mem_map.mp h
    subst er
    rw [fin_w f n1 n2 hr]
    obtain ⟨b, o, t, e0, e1, e2, hm⟩ := cell_at hb (f.on r hr).2
    rw [← e0, ← e1, ← e2]
    exact merged_due hm
  · rw [fin_k f n1 n2 ht hw]
    have hway := f.tk t ht
    have hway : wayM pl (numO ps r0 t.1) (numO ps r1 t.1) (numO ps r2 t.1) = if t.2 = true then .one else .other := hway
    by_cases hs : t.2 = true
    · rw [if_pos hs] at hway ⊢
      have e := vO_prt (num_eq th.t2 th.t0 th.p2 th.p0 _ (way_one hk hway)) hw
      rw [e]
      unfold dueM
      split <;> simp_all
    · rw [if_neg hs] at hway ⊢
      have e := vO_prt (num_eq th.t1 th.t0 th.p1 th.p0 _ (way_other hk hway)) hw
      rw [e]
      simp [dueM]
  · by_cases hF : w ∈ plW (finR pl W K r1 r2)
    · -- then it is right by its own row
      rcases fin_mem.mp hF with h' | ⟨h', t, ht, hw⟩ | ⟨h', t, ht, hw⟩
      · obtain ⟨r, hr, er⟩ := List.mem_map.mp (left_in h')
        subst er
        rw [fin_w f n1 n2 hr]
        obtain ⟨b, o, t, e0, e1, e2, hm⟩ := cell_at hb (f.on r hr).2
        rw [← e0, ← e1, ← e2]
        exact merged_due hm
      · have hway : wayM pl (numO ps r0 t) (numO ps r1 t) (numO ps r2 t) = .one := f.tk _ (sd_mem.mp ht)
        rw [fin_k f n1 n2 (sd_mem.mp ht) hw]
        have e := vO_prt (num_eq th.t2 th.t0 th.p2 th.p0 _ (way_one hk hway)) hw
        rw [e]
        unfold dueM
        split <;> simp_all
      · have hway : wayM pl (numO ps r0 t) (numO ps r1 t) (numO ps r2 t) = .other := f.tk _ (sd_mem.mp ht)
        rw [fin_k f n1 n2 (sd_mem.mp ht) hw]
        have e := vO_prt (num_eq th.t1 th.t0 th.p1 th.p0 _ (way_other hk hway)) hw
        rw [e]
        simp [dueM]
    · rw [vO_out hF]
      rcases h with ⟨h1, h2⟩ | ⟨h1, h2⟩ | ⟨h1, h2⟩
      · rw [vO_prt (num_eq th.t1 th.t0 th.p1 th.p0 _ h1) hq, vO_no th.t2 (num_none.mp h2) hq]
        simp [dueM]
      · rw [vO_prt (num_eq th.t2 th.t0 th.p2 th.p0 _ h1) hq, vO_no th.t1 (num_none.mp h2) hq]
        unfold dueM
        split <;> simp_all
      · rw [vO_no th.t1 (num_none.mp h1) hq, vO_no th.t2 (num_none.mp h2) hq]
        unfold dueM
        split <;> simp_all
/-- a row of the merged tree: a place that there is, a value that there is -/
theorem fin_row (f : Fine (mgOf pl z ps r0 r1 r2) [[]] W K) : ∀ r ∈ finR pl W K r1 r2, r.1 ∈ allP r0 r1 r2 ∧ (r.2.1 = none ∨ ∃ r' ∈ r0 ++ (r1 ++ r2), r'.2.1 = r.2.1) := by
  intro r hr
  have gen : ∀ p c, (p, c) ∈ W → p ∈ allP r0 r1 r2 ∧ (c.1 = none ∨ ∃ r' ∈ r0 ++ (r1 ++ r2), r'.2.1 = c.1) := fun p c h => by
    obtain ⟨h1, h2⟩ := f.on _ h
    have hU : p ∈ allP r0 r1 r2 := by
      refine Classical.byContradiction fun hU => ?_
      have h0 : p ∉ r0.map (·.1) := fun h => hU (mem_all.mpr (.inl h))
      have h1' : p ∉ r1.map (·.1) := fun h => hU (mem_all.mpr (.inr (.inl h)))
      have h2' : p ∉ r2.map (·.1) := fun h => hU (mem_all.mpr (.inr (.inr h)))
      have h1 : wayM pl (numO ps r0 p) (numO ps r1 p) (numO ps r2 p) = .on := h1
      rw [num_none.mpr h0, num_none.mpr h1', num_none.mpr h2'] at h1
      simp [wayM] at h1
    refine ⟨hU, ?_⟩
    have h2 : mergedM pl (metB (r0.lookup p)) ((r1.lookup p).getD (metG pl (r0.lookup p))) ((r2.lookup p).getD (metG pl (r0.lookup p))) = some c := h2
    have inB : (metB (r0.lookup p)).1 = none ∨ ∃ r' ∈ r0 ++ (r1 ++ r2), r'.2.1 = (metB (r0.lookup p)).1 := by
      unfold metB
      cases hb : r0.lookup p with
      | none => exact .inl rfl
      | some x => exact .inr ⟨_, List.mem_append_left _ (lookup_mem hb), rfl⟩
    have inG : (metG pl (r0.lookup p)).1 = none ∨ ∃ r' ∈ r0 ++ (r1 ++ r2), r'.2.1 = (metG pl (r0.lookup p)).1 := by
      unfold metG
      split
      · exact inB
      · exact .inl rfl
    rcases merged_from h2 with e | e
    · rw [e]
      cases hb : r1.lookup p with
      | none => exact inG
      | some x => exact .inr ⟨_, List.mem_append_right _ (List.mem_append_left _ (lookup_mem hb)), rfl⟩
    · rw [e]
      cases hb : r2.lookup p with
      | none => exact inG
      | some x => exact .inr ⟨_, List.mem_append_right _ (List.mem_append_right _ (lookup_mem hb)), rfl⟩
  unfold finR at hr
  rcases List.mem_append.mp hr with h | h
  · obtain ⟨r', hr', n, rfl⟩ := left_from pl _ _ r h
    exact gen r'.1 r'.2 (List.mem_reverse.mp hr')
  · rcases List.mem_append.mp h with h | h
    · have := (List.mem_filter.mp h).1
      exact ⟨mem_all.mpr (.inr (.inl (List.mem_map.mpr ⟨r, this, rfl⟩))), .inr ⟨r, List.mem_append_right _ (List.mem_append_left _ this), rfl⟩⟩
    · have := (List.mem_filter.mp h).1
      exact ⟨mem_all.mpr (.inr (.inr (List.mem_map.mpr ⟨r, this, rfl⟩))), .inr ⟨r, List.mem_append_right _ (List.mem_append_right _ this), rfl⟩⟩
theorem fin_clash {M : Mg} {p : Wd} (h : ∀ q, M.way q ≠ .clash) (h2 : ∀ q, M.cell q ≠ none) : ∀ n q, trF M n q ≠ .error p := by
  intro n
  induction n with
  | zero =>
    intro q e
    rw [trF] at e
    rw [if_neg (h q)] at e
    cases hc : M.cell q with
    | none => exact h2 q hc
    | some c =>
      rw [hc] at e
      split at e
      · cases e
      split at e
      · cases e
      split at e
      · cases e
      · cases e
  | succ n ih =>
    intro q e
    have key : ∀ l : List Wd, l.foldr (fun q r => seqR (trF M n q) r) (.ok ([], [])) ≠ .error p := by
      intro l
      induction l with
      | nil => intro e; cases e
      | cons x l ihl =>
        intro e
        rw [List.foldr_cons] at e
        have h1 := ih x
        cases h3 : trF M n x with
        | error y =>
          rw [h3] at e
          simp only [seqR] at e
          rw [h3] at h1
          exact h1 e
        | ok y =>
          rw [h3] at e
          cases h4 : l.foldr (fun q r => seqR (trF M n q) r) (.ok ([], [])) with
          | error u => rw [h4] at e ihl; exact ihl e
          | ok u => rw [h4] at e; cases e
    have := key (M.ch q)
    rw [trF] at e
    rw [if_neg (h q)] at e
    cases hc : M.cell q with
    | none => exact h2 q hc
    | some c =>
      rw [hc] at e
      dsimp only at e
      generalize (M.ch q).foldr (fun q r => seqR (trF M n q) r) (.ok ([], [])) = x at e this
      cases x with
      | error u =>
        simp only [seqR] at e
        repeat' split at e
        all_goals first | cases e; done | exact this e
      | ok u =>
        simp only [seqR] at e
        repeat' split at e
        all_goals cases e
theorem no_clash (hal : pl.al ≠ .clash) (hgo : pl.go ≠ .clash) (hun : pl.un ≠ .clash) {p q : Wd} : trP (mgOf pl z ps r0 r1 r2) q ≠ .error p :=
  fin_clash (fun _ h => (way_clash h).elim hal hgo) (fun _ h => (merged_none h).elim hal hun) _ _
end
theorem on_in {pl : Pl} {z : Wd} {ps : List Prt} {r0 r1 r2 : List Rw} {q : Wd} (h : (mgOf pl z ps r0 r1 r2).way q ≠ .none) : q ∈ allP r0 r1 r2 := by
  refine Classical.byContradiction fun hU => h ?_
  have h0 : q ∉ r0.map (·.1) := fun h => hU (mem_all.mpr (.inl h))
  have h1 : q ∉ r1.map (·.1) := fun h => hU (mem_all.mpr (.inr (.inl h)))
  have h2 : q ∉ r2.map (·.1) := fun h => hU (mem_all.mpr (.inr (.inr h)))
  show wayM pl (numO ps r0 q) (numO ps r1 q) (numO ps r2 q) = .none
  rw [num_none.mpr h0, num_none.mpr h1, num_none.mpr h2]
  simp [wayM]
theorem fine_in {pl : Pl} {z : Wd} {ps : List Prt} {r0 r1 r2 : List Rw} {qs : List Wd} {W : List Rw} {K : List Tk} (f : Fine (mgOf pl z ps r0 r1 r2) qs W K) : (∀ r ∈ W, r.1 ∈ allP r0 r1 r2) ∧ (∀ t ∈ K, t.1 ∈ allP r0 r1 r2) :=
  ⟨fun r hr => on_in (by rw [(f.on r hr).1]; decide), fun t ht => on_in (by rw [f.tk t ht]; split <;> decide)⟩
end Toy
set_option Elab.async false
set_option linter.all false
set_option maxRecDepth 100000
set_option maxHeartbeats 4000000
namespace Toy
open PySem L2 Sh ShL LamX NdefX
/-! ### merge_part: dicts of cells -/
def CelR (H : Hp) (v : V) (rs : List Rw) : Prop := ∃ d l, v = .ref d ∧ H d = some (.dK (kdl l)) ∧ Paired (fun (q : Wd × V) (r : Rw) => q.1 = r.1 ∧ IsC H q.2 (some r.2)) l rs
theorem CelR.same {H H' : Hp} {v : V} {rs : List Rw} (s : Same H H') (h : CelR H v rs) : CelR H' v rs := let ⟨d, l, e, h1, h2⟩ := h; ⟨d, l, e, s _ _ h1, paired_mono (fun _ _ h => ⟨h.1, h.2.same s⟩) h2⟩
theorem cel_fst {H : Hp} : ∀ {l : List (Wd × V)} {rs : List Rw}, Paired (fun (q : Wd × V) (r : Rw) => q.1 = r.1 ∧ IsC H q.2 (some r.2)) l rs → l.map (·.1) = rs.map (·.1)
  | _, _, .nil => rfl
  | _, _, .cons h t => by rw [List.map_cons, List.map_cons, h.1, cel_fst t]
theorem cel_val {H : Hp} (p : Wd) : ∀ {l : List (Wd × V)} {rs : List Rw}, Paired (fun (q : Wd × V) (r : Rw) => q.1 = r.1 ∧ IsC H q.2 (some r.2)) l rs → IsC H ((valV (kdl l) (.inr (sw p))).getD .non) (rs.lookup p) ∧ (valV (kdl l) (.inr (sw p))).isSome = decide (p ∈ rs.map (·.1))
  | _, _, .nil => ⟨rfl, rfl⟩
  | (k, v) :: l, r :: rs, .cons h t => by
    obtain ⟨e, hv⟩ := h
    dsimp only at e hv
    subst e
    rw [List.lookup_cons]
    show IsC H ((valV ((Sum.inr (sw r.1), v) :: kdl l) (.inr (sw p))).getD .non) _ ∧ (valV ((Sum.inr (sw r.1), v) :: kdl l) (.inr (sw p))).isSome = _
    by_cases hp : p = r.1
    · subst hp
      rw [valV_pos rfl]
      simp only [beq_self_eq_true]
      exact ⟨hv, by simp⟩
    · rw [valV_neg (fun z => hp (sw_inj (Sum.inr.inj z)).symm)]
      have : (p == r.1) = false := by simpa using hp
      rw [this]
      obtain ⟨h1, h2⟩ := cel_val p t
      refine ⟨h1, ?_⟩
      rw [h2, List.map_cons]
      refine decide_eq_decide.mpr ⟨List.mem_cons_of_mem _, fun h => (List.mem_cons.mp h).resolve_left hp⟩
theorem CelR.get {H : Hp} {d : Addr} {rs : List Rw} (h : CelR H (.ref d) rs) (p : Wd) : ∃ o, DGet H d (.str (sw p)) o ∧ IsC H (o.getD .non) (rs.lookup p) ∧ o.isSome = decide (p ∈ rs.map (·.1)) := by
  obtain ⟨d', l, e, h1, h2⟩ := h
  cases e
  exact ⟨_, dget_kdl h1 p, (cel_val p h2).1, (cel_val p h2).2⟩
theorem CelR.isd {H : Hp} {d : Addr} {rs : List Rw} (h : CelR H (.ref d) rs) : IsD H d := by
  obtain ⟨d', l, e, h1, h2⟩ := h
  cases e
  exact .inl ⟨_, .inl h1⟩
theorem num_get {H : Hp} {ps : List Prt} {d : Addr} {rs : List Rw} (nd : (rs.map (·.1)).Nodup) (h : NumR ps H (.ref d) rs) (p : Wd) : ∃ o, DGet H d (.str (sw p)) o ∧ o.getD .non = oV (numO ps rs p) := by
  obtain ⟨d', e, h1⟩ := h
  cases e
  refine ⟨_, dget_kdl h1 p, ?_⟩
  have e1 : (numL ps rs).map (·.1) = (rs.map (·.1)).reverse := by
    unfold numL
    rw [List.map_map, ← List.map_reverse]
    rfl
  have nd2 : ((numL ps rs).map (·.1)).Nodup := by rw [e1]; exact (List.reverse_perm _).nodup_iff.mpr nd
  unfold numO
  by_cases hp : p ∈ rs.map (·.1)
  · rw [if_pos hp]
    obtain ⟨r, hr, er⟩ := List.mem_map.mp hp
    have hm : (p, V.int (idxP ps (prt rs p) : Nat)) ∈ numL ps rs := by
      unfold numL
      refine List.mem_map.mpr ⟨r, List.mem_reverse.mpr hr, ?_⟩
      rw [show r.1 = p from er]
    rw [kdl_some nd2 hm]
    rfl
  · rw [if_neg hp, kdl_none (by rw [e1]; exact fun h => hp (List.mem_reverse.mp h))]
    rfl
/-- the dict of a tree's cells -/
theorem dc_cells {K : PySem.W.Frag} {σ : L2.St} {H1 : Hp} {t D : Addr} {vs : List V} {rs : List Rw} {Qd : Hp → Prop} {j k m : Nat} (ht : H1 t = some (.tup vs)) (pv : Paired (RwT H1) vs rs) (nd : (rs.map (·.1)).Nodup) (hl : rs.length ≤ 2000) (hD : H1 D = none)
    (hσ : ∀ x y z, wipe ((((wipe σ [j, k, m]).set j x).set k y).set m z) [j, k, m] = wipe σ [j, k, m]) (e1 : ∀ x y z, ((((wipe σ [j, k, m]).set j (some x)).set k (some y)).set m (some z))[j]? = some (some x))
    (e2 : ∀ x y z, ((((wipe σ [j, k, m]).set j (some x)).set k (some y)).set m (some z))[k]? = some (some y)) (e3 : ∀ x y z, ((((wipe σ [j, k, m]).set j (some x)).set k (some y)).set m (some z))[m]? = some (some z))
    (hd : ∀ H', Same H1 H' → CelR H' (.ref D) rs → Qd H') :
    ∃ W : Nat → Nat → Hp → Prop, (∃ m, W 0 m (upd H1 D (.dK []))) ∧ ∀ i m' H, W i m' H → ((Itt K t).stop i H ∧ Qd H) ∨ ((Itt K t).go i H ∧ ∃ Nx : Hp → Prop, (∀ H', Nx H' → ∃ m'', m'' < m' ∧ W (i + 1) m'' H') ∧ ∀ x H', (Itt K t).yld i H x H' → gTup K 3 (gCons (gName j) (gCons (gName k) (gCons (gName m) gNil))) x (wipe σ [j, k, m]) H' fun σ2 H2 => wipe σ2 [j, k, m] = wipe σ [j, k, m] ∧ tYes σ2 H2 fun b H3 =>
        if b = true then tVar j σ2 H3 fun y H4 => tTup (tCons (tVar k) (tCons (tVar m) tNil)) σ2 H4 fun z H5 => ∃ kvs k, y = kV k ∧ H5 D = some (.dK kvs) ∧ kvs.length < sizeLine ∧ Nx (upd H5 D (.dK (putK kvs k z))) else Nx H3) := by
  have vl : vs.length = rs.length := pv.length
  refine dc_it (walk_tup (K := K) (a := t) (xs := vs)) (fun i H => Same H1 H ∧ ∃ l : List (Wd × V), H D = some (.dK (kdl l)) ∧ Paired (fun (q : Wd × V) (r : Rw) => q.1 = r.1 ∧ IsC H q.2 (some r.2)) l (rs.take i)) ⟨same_upd hD, [], upd_same, .nil⟩ (fun i H _ ⟨s, _⟩ => SqT.of (s _ _ ht)) (fun i x H H' hi ⟨s, l, l1, l2⟩ y => ?_) fun H ⟨s, l, l1, l2⟩ => ?_
  · obtain ⟨rfl, hx⟩ := y
    obtain ⟨r, hr, g, rfl, hg⟩ := paired_ix pv hx
    refine ⟨g, _, rfl, SqT.of (s _ _ hg), rfl, _, _, rfl, _, _, rfl, _, _, rfl, rfl, ?_⟩
    refine ⟨hσ _ _ _, yes_ite ⟨_, e1 _ _ _, _, e2 _ _ _, _, e3 _ _ _, by show 2 ≤ sizeLine; decide, fun a ha => ?_⟩⟩
    have s2 := same_upd (o := .tup [oV r.2.1, .bl r.2.2]) ha
    have hD2 := s2 _ _ l1
    have ga : (upd H' a (.tup [oV r.2.1, .bl r.2.2])) a = some (.tup [oV r.2.1, .bl r.2.2]) := upd_same
    have l2' := paired_mono (fun (q : Wd × V) (r : Rw) (h : q.1 = r.1 ∧ IsC H' q.2 (some r.2)) => (⟨h.1, h.2.same s2⟩ : q.1 = r.1 ∧ IsC _ q.2 (some r.2))) l2
    have s2 := s.trans s2
    generalize upd H' a (.tup [oV r.2.1, .bl r.2.2]) = H2 at hD2 ga l2' s2
    have hn : r.1 ∉ l.map (·.1) := by
      rw [cel_fst l2, List.map_take]
      exact nd_take nd (by rw [List.getElem?_map, hr]; rfl)
    have tp : ∀ {v : V} {c : Cl} (o : HO), IsC H2 v (some c) → IsC (upd H2 D o) v (some c) := fun {v c} o ⟨t, e, h⟩ => ⟨t, e, by rw [upd_ne (ne_of h hD2 (by intro z; cases z))]; exact h⟩
    refine ⟨_, .inr (sw r.1), rfl, hD2, ?_, same_of_new s2 hD, l ++ [(r.1, .ref a)], ?_, ?_⟩
    · rw [kdl_len, l2.length, List.length_take, sizeLine_eq]
      omega
    · rw [upd_same, kdl_new _ hn]
    · rw [List.take_add_one, hr]
      exact paired_app (paired_mono (fun _ _ h => ⟨h.1, tp _ h.2⟩) l2') (.cons ⟨rfl, tp _ ⟨a, rfl, ga⟩⟩ .nil)
  · rw [vl, List.take_of_length_le (Nat.le_refl _)] at l2
    exact hd H s ⟨D, l, rfl, l1, l2⟩
/-! merge_part's promise -/
def spMergePart (P : Program) (w : World) (K : PySem.W.Frag) (C CT : Addr) : Sp := fun vs H Q _ => ∃ (p ta a b c : Addr) (pl : Pl) (z s : Wd) (r0 r1 r2 : List Rw), vs = [.ref p, .ref ta, .str (sw s)] ∧ PlanAt P w K C H p pl ∧ H ta = some (.lst [.ref a, .ref b, .ref c]) ∧
  TreeAt CT H a z r0 ∧ TreeAt CT H b z r1 ∧ TreeAt CT H c z r2 ∧ TrOk z r0 ∧ TrOk z r1 ∧ TrOk z r2 ∧ z.Nodup ∧ z.length ≤ 26 ∧ s ∈ allP r0 r1 r2 ∧
  ∀ H' t ps, Same H H' → Three z ps r0 r1 r2 →
    (∀ q, trP (mgOf pl z ps r0 r1 r2) s = .error q → ∀ l1 l2, H' t = some (.tup [.str (sw q), .ref l1, .ref l2]) → H' l1 = some (.lst []) → H' l2 = some (.lst []) → Q (.ref t) H') ∧
    (∀ W Kt, trP (mgOf pl z ps r0 r1 r2) s = .ok (W, Kt) → ∀ l1 l2 vs ts, H' t = some (.tup [.non, .ref l1, .ref l2]) → H' l1 = some (.lst vs) → Paired (RwT H') vs (finR pl W Kt r1 r2) → H' l2 = some (.lst ts) → Paired (TkT H') ts Kt → Q (.ref t) H')
/-- how much is left to do, by the list of places -/
def costV (M : Mg) : V → Nat
  | .str z => costP M z.cps.toList
  | _ => 0
def costL (M : Mg) (ah : Addr) (H : Hp) : Nat := match H ah with
  | some (.lst vs) => (vs.map (costV M)).sum
  | _ => 0
theorem sum_rev : ∀ l : List Nat, l.reverse.sum = l.sum
  | [] => rfl
  | x :: l => by rw [List.reverse_cons, List.sum_append, sum_rev l]; simp; omega
theorem costL_at {M : Mg} {ah : Addr} {H : Hp} {st : List Wd} (h : H ah = some (.lst (wsV st.reverse))) : costL M ah H = costS M st := by
  unfold costL costS
  rw [h]
  show ((wsV st.reverse).map (costV M)).sum = _
  rw [List.map_map, ← sum_rev (st.map (costP M)), ← List.map_reverse]
  rfl
end Toy
set_option Elab.async false
set_option linter.all false
set_option maxRecDepth 100000
set_option maxHeartbeats 4000000
namespace Toy
open PySem L2 Sh ShL LamX NdefX
/-! ### merge_part: the walk -/
theorem cost_len (M : Mg) : ∀ rest : List Wd, rest.length ≤ costS M rest
  | [] => Nat.zero_le _
  | q :: l => by
    have := cost_pos M q
    have := cost_len M l
    show l.length + 1 ≤ costP M q + costS M l
    omega
theorem side_eq (a b : Bool) : decide (V.str (sideS a) = V.str (sideS b)) = (a == b) := by cases a <;> cases b <;> decide +kernel
section
variable {P : Program} {w : World} {K : PySem.W.Frag} {mg : Str → Option Value} {base : Heap}
theorem ok_merge_part (T : Tx P K mg) (B : Bx T base) : FnOk P w K mg base CX0 2 T.a_merge_part T.fd_merge_part ["plan", "trees", "start"] (spMergePart P w K T.c_Plan T.c_Tree) := by
  refine okT T.F_merge_part sc_merge_part (fun vs H Q E h => ?_) (fun cdv A outer s H vs Q E hcd hr h => ?_)
  · obtain ⟨p, ta, a, b, c, pl, z, s, r0, r1, r2, rfl, _⟩ := h
    rfl
  have hu := hu_of hr
  have hu65 := hu65_of hr
  obtain ⟨p, ta, a, b, c, pl, z, st, r0, r1, r2, rfl, hP, hta, x0, x1, x2, t0, t1, t2, hz, hz26, hst, q⟩ := h
  refine ⟨_, (pss_cons (ps_set (i := 3) sc_merge_part.nd rfl (by first | exact Or.inl rfl | exact Or.inr rfl) (pe_call (ok_part_numbers (w := w) T B) (hr.mono (by decide)) (by rfl) T.m_part_numbers T.F_part_numbers.kp T.bi_part_numbers .nil pass0 (pa_cons (pv 1) pa_nil)))
 (pss_cons (ps_set (i := 4) sc_merge_part.nd rfl (by first | exact Or.inl rfl | exact Or.inr rfl) (pe_lc (own := [("tree", 16)]) (g := gName 16) rfl sc_merge_part.nd (pi_list (pv 1)) (blkOk_by (own := [("tree", 16)]) (N := N_merge_part) (sc := defScope s_merge_part) (by decide +kernel)) (fun _ _ _ _ _ => (pg_name (i := 16) sc_merge_part.nd rfl (by first | exact Or.inl rfl | exact Or.inr rfl))) (fun _ _ _ _ _ => pts_nil) (fun _ _ _ _ _ => (pe_dc (own := [("place", 8), ("value", 18), ("flag", 19)]) (g := gTup K 3 (gCons (gName 8) (gCons (gName 18) (gCons (gName 19) gNil)))) rfl sc_merge_part.nd (by exact pi_tup (pe_fld (pv 16) rfl) : PI _ _ _ (iTup K (tFld K (tVar 16) "rows"))) (blkOk_by (own := [("place", 8), ("value", 18), ("flag", 19)]) (N := N_merge_part) (by kernel_rfl)) (fun _ _ _ _ _ => (pg_tup rfl (pgs_cons (pg_name (i := 8) sc_merge_part.nd rfl (by first | exact Or.inl rfl | exact Or.inr rfl)) (pgs_cons (pg_name (i := 18) sc_merge_part.nd rfl (by first | exact Or.inl rfl | exact Or.inr rfl)) (pgs_cons (pg_name (i := 19) sc_merge_part.nd rfl (by first | exact Or.inl rfl | exact Or.inr rfl)) pgs_nil))))) (fun _ _ _ _ _ => pts_nil) (fun _ _ _ _ _ => (pv 8)) (fun _ _ _ _ _ => (pe_tup (pa_cons (pv 18) (pa_cons (pv 19) pa_nil))))))))
 (pss_cons (ps_par3 (i := 5) (j := 6) (l := 7) (by rfl) sc_merge_part.nd rfl rfl rfl (by decide) (by decide) (by decide) rfl rfl rfl (pa_cons (pe_lst pa_nil) (pa_cons (pe_lst pa_nil) (pa_cons (pe_lst (pa_cons (pv 2) pa_nil)) pa_nil))) (by rfl))
 (pss_cons (ps_while PassesOwn.never (pt_truth (pv 7) (by intro _; rfl))
 (pss_cons (ps_set (i := 8) sc_merge_part.nd rfl (by first | exact Or.inl rfl | exact Or.inr rfl) (pe_bm0 PySem.F.plainAttrs_list PySem.F.slot_list_pop PySem.F.type_list_pop mt_pop (pv 7)))
 (pss_cons (ps_asg (pe_lc (own := [("found", 20)]) (g := gName 20) rfl sc_merge_part.nd (pi_list (pv 3)) (blkOk_by (own := [("found", 20)]) (N := N_merge_part) (sc := defScope s_merge_part) (by decide +kernel)) (fun _ _ _ _ _ => (pg_name (i := 20) sc_merge_part.nd rfl (by first | exact Or.inl rfl | exact Or.inr rfl))) (fun _ _ _ _ _ => pts_nil) (fun _ _ _ _ _ => (pe_dget1 hu (pv 20) (pv 8) ⟨by rfl, by rfl, by rfl, by rfl⟩))) (pg_unl rfl (pgs_cons (pg_name (i := 9) sc_merge_part.nd rfl (by first | exact Or.inl rfl | exact Or.inr rfl)) (pgs_cons (pg_name (i := 10) sc_merge_part.nd rfl (by first | exact Or.inl rfl | exact Or.inr rfl)) (pgs_cons (pg_name (i := 11) sc_merge_part.nd rfl (by first | exact Or.inl rfl | exact Or.inr rfl)) pgs_nil)))))
 (pss_cons (ps_set (i := 12) sc_merge_part.nd rfl (by first | exact Or.inl rfl | exact Or.inr rfl) (pe_call (ok_way_of (w := w) T B) (hr.mono (by decide)) (by rfl) T.m_way_of T.F_way_of.kp T.bi_way_of .nil pass0 (pa_cons (pv 0) (pa_cons (pv 9) (pa_cons (pv 10) (pa_cons (pv 11) pa_nil))))))
 (pss_cons (ps_if (pt_cmpR op_eq (pv 12) pe_str (nomark _))
 (pss_one (ps_ret (pe_tup (pa_cons (pv 8) (pa_cons (pe_lst pa_nil) (pa_cons (pe_lst pa_nil) pa_nil))))))
 pss_nil)
 (pss_cons (ps_if (PW.pt (pw_or (pt_cmpR op_eq (pv 12) pe_str (nomark _)) (pw_or1 (pt_cmpR op_eq (pv 12) pe_str (nomark _)))))
 (pss_one (ps_expr (pe_bm PySem.F.plainAttrs_list PySem.F.slot_list_append PySem.F.type_list_append mt_append (pv 6) (pa_cons (pe_tup (pa_cons (pv 8) (pa_cons (pv 12) pa_nil))) pa_nil))))
 pss_nil)
 (pss_one (ps_if (pt_cmpR op_eq (pv 12) pe_str (nomark _))
 (pss_cons (ps_set (i := 13) sc_merge_part.nd rfl (by first | exact Or.inl rfl | exact Or.inr rfl) (pe_call (ok_cell_merged (w := w) T B) (hr.mono (by decide)) (by rfl) T.m_cell_merged T.F_cell_merged.kp T.bi_cell_merged .nil pass0 (pa_cons (pv 0) (pa_cons (pe_call (ok_cells_met (w := w) T B) (hr.mono (by decide)) (by rfl) T.m_cells_met T.F_cells_met.kp T.bi_cells_met .nil pass0 (pa_cons (pv 0) (pa_cons (pe_lc (own := [("found", 20)]) (g := gName 20) rfl sc_merge_part.nd (pi_list (pv 4)) (blkOk_by (own := [("found", 20)]) (N := N_merge_part) (sc := defScope s_merge_part) (by decide +kernel)) (fun _ _ _ _ _ => (pg_name (i := 20) sc_merge_part.nd rfl (by first | exact Or.inl rfl | exact Or.inr rfl))) (fun _ _ _ _ _ => pts_nil) (fun _ _ _ _ _ => (pe_dget1 hu (pv 20) (pv 8) ⟨by rfl, by rfl, by rfl, by rfl⟩))) pa_nil))) pa_nil))))
 (pss_cons (ps_if (pt_cmpR op_isN (pv 13) pe_non (nomark _))
 (pss_one (ps_ret (pe_tup (pa_cons (pv 8) (pa_cons (pe_lst pa_nil) (pa_cons (pe_lst pa_nil) pa_nil))))))
 pss_nil)
 (pss_cons (ps_expr (pe_bm PySem.F.plainAttrs_list PySem.F.slot_list_append PySem.F.type_list_append mt_append (pv 5) (pa_cons (pe_tup (pa_cons (pv 8) (pa_cons (pe_ix ix_tup (pv 13) pe_int (fun _ _ => rfl)) (pa_cons (pe_ix ix_tup (pv 13) pe_int (fun _ _ => rfl)) pa_nil)))) pa_nil)))
 (pss_cons (ps_setLc (i := 14) (own := [("letter", 21)]) (g := gName 21) rfl sc_merge_part.nd rfl rfl (sw_true rfl rfl rfl (by decide +kernel)) (pi_str (pe_fld (pe_ix ix_list (pv 1) pe_int (fun _ _ => rfl)) rfl)) (blkOk_by (own := [("letter", 21)]) (N := N_merge_part) (sc := defScope s_merge_part) (by decide +kernel)) (fun _ _ _ _ _ => (pg_name (i := 21) sc_merge_part.nd rfl (by first | exact Or.inl rfl | exact Or.inr rfl))) (fun _ _ _ _ _ => (pts_one (pt_val (pe_callB (by exact (cr_any rfl) : CallR _ (.builtin "any") (rAny K)) (by rfl) T.b_any (by decide +kernel) (pa_cons (pe_lc (own := [("found", 20)]) (g := gName 20) rfl sc_merge_part.nd (by exact pi_list (pv 4) : PI _ _ _ (iList K (tVar 4))) (blkOk_by (own := [("found", 20)]) (N := N_merge_part) (by kernel_rfl)) (fun _ _ _ _ _ => (pg_name (i := 20) sc_merge_part.nd rfl (by first | exact Or.inl rfl | exact Or.inr rfl))) (fun _ _ _ _ _ => pts_nil) (fun _ _ _ _ _ => (pe_cmp (pc_din hu (pe_op op_add_str (pv 8) (pv 21)) (pv 20))))) pa_nil))))) (fun _ _ _ _ _ => (pv 21)))
 (pss_one (ps_expr (pe_bm PySem.F.plainAttrs_list PySem.F.slot_list_extend PySem.F.type_list_extend mt_extend (pv 7) (pa_cons (pe_lc (own := [("letter", 21)]) (g := gName 21) rfl sc_merge_part.nd (pi_list (pe_revL (pv 14))) (blkOk_by (own := [("letter", 21)]) (N := N_merge_part) (sc := defScope s_merge_part) (by decide +kernel)) (fun _ _ _ _ _ => (pg_name (i := 21) sc_merge_part.nd rfl (by first | exact Or.inl rfl | exact Or.inr rfl))) (fun _ _ _ _ _ => pts_nil) (fun _ _ _ _ _ => (pe_op op_add_str (pv 8) (pv 21)))) pa_nil))))))))
 pss_nil))))))))
 (pss_cons (ps_set (i := 15) sc_merge_part.nd rfl (by first | exact Or.inl rfl | exact Or.inr rfl) (pe_call (ok_rows_left (w := w) T B) (hr.mono (by decide)) (by rfl) T.m_rows_left T.F_rows_left.kp T.bi_rows_left .nil pass0 (pa_cons (pv 0) (pa_cons (pv 5) (pa_cons (pv 6) pa_nil)))))
 (pss_cons (ps_for PassesOwn.never rfl (pi_list (pe_lst (pa_cons (pe_tup (pa_cons (pe_ix ix_list (pv 1) pe_int (fun _ _ => rfl)) (pa_cons pe_str pa_nil))) (pa_cons (pe_tup (pa_cons (pe_ix ix_list (pv 1) pe_int (fun _ _ => rfl)) (pa_cons pe_str pa_nil))) pa_nil)))) (pg_tup rfl (pgs_cons (pg_name (i := 16) sc_merge_part.nd rfl (by first | exact Or.inl rfl | exact Or.inr rfl)) (pgs_cons (pg_name (i := 17) sc_merge_part.nd rfl (by first | exact Or.inl rfl | exact Or.inr rfl)) pgs_nil)))
 (pss_one (ps_expr (pe_bm PySem.F.plainAttrs_list PySem.F.slot_list_extend PySem.F.type_list_extend mt_extend (pv 15) (pa_cons (pe_call (ok_rows_taken (w := w) T B) (hr.mono (by decide)) (by rfl) T.m_rows_taken T.F_rows_taken.kp T.bi_rows_taken .nil pass0 (pa_cons (pv 16) (pa_cons (pe_lc (own := [("place", 8), ("whose", 22)]) (g := gTup K 2 (gCons (gName 8) (gCons (gName 22) gNil))) rfl sc_merge_part.nd (pi_list (pv 6)) (blkOk_by (own := [("place", 8), ("whose", 22)]) (N := N_merge_part) (sc := defScope s_merge_part) (by decide +kernel)) (fun _ _ _ _ _ => (pg_tup rfl (pgs_cons (pg_name (i := 8) sc_merge_part.nd rfl (by first | exact Or.inl rfl | exact Or.inr rfl)) (pgs_cons (pg_name (i := 22) sc_merge_part.nd rfl (by first | exact Or.inl rfl | exact Or.inr rfl)) pgs_nil)))) (fun _ _ _ _ _ => (pts_one (pt_cmpR op_eq (pv 22) (pv 17) (nomark _)))) (fun _ _ _ _ _ => (pv 8))) pa_nil))) pa_nil)))))
 (pss_one (ps_ret (pe_tup (pa_cons pe_non (pa_cons (pv 15) (pa_cons (pv 6) pa_nil)))))))))))), ?_⟩
  refine ⟨_, rfl, ta, z, _, [r0, r1, r2], rfl, hta, .cons ⟨a, rfl, x0, t0⟩ (.cons ⟨b, rfl, x1, t1⟩ (.cons ⟨c, rfl, x2, t2⟩ .nil)), Nat.le_refl _, hz, fun H1 nb ds ps s1 hnb0 hnb pds pso pin => ?_⟩
  have th : Three z ps r0 r1 r2 := ⟨hz, t0, t1, t2, pin r0 (by simp), pin r1 (by simp), pin r2 (by simp)⟩
  dsimp only [gName]
  obtain ⟨n0, n1, n2, rfl⟩ : ∃ n0 n1 n2, ds = [n0, n1, n2] := by
    cases pds with
    | cons h t => cases t with
      | cons h t => cases t with
        | cons h t => cases t; exact ⟨_, _, _, rfl⟩
  -- cells
  refine asgS (fun v H2 => Same H1 H2 ∧ ∃ cs cvs, v = .ref cs ∧ H2 cs = some (.lst cvs) ∧ Paired (CelR H2) cvs [r0, r1, r2]) (fun R hR => ?_) ?_
  · refine ⟨_, rfl, ta, rfl, ⟨_, SqL.of (s1 _ _ hta)⟩, fun D hD => ?_⟩
    have pt : Paired (TrR T.c_Tree z H) [V.ref a, .ref b, .ref c] [r0, r1, r2] := .cons ⟨a, rfl, x0, t0⟩ (.cons ⟨b, rfl, x1, t1⟩ (.cons ⟨c, rfl, x2, t2⟩ .nil))
    refine lcG (walk_list (K := K) (a := ta) (xs := [V.ref a, .ref b, .ref c])) yat pt (fun _ H2 => Same H1 H2) (same_upd hD) (fun _ H' acc s => same_of_new s hD) (fun m H' _ s => SqL.of ((s1.trans s) _ _ hta)) (by show 3 ≤ 40000; omega) (fun _ => true) CelR (fun H' acc acc' v rs hDl h => ?_) (fun m x rs H' acc R' N hr' ex s hDH k1 _ => ?_) (fun H' acc s hDH p => ?_)
    · obtain ⟨d, l, e, h1, h2⟩ := h
      exact ⟨d, l, e, by rw [upd_ne (ne_of h1 hDl (by intro z; cases z))]; exact h1, paired_mono (fun _ _ ⟨e, t, h, k⟩ => ⟨e, t, h, by rw [upd_ne (ne_of k hDl (by intro z; cases z))]; exact k⟩) h2⟩
    · obtain ⟨o, rfl, hx, tr⟩ := ex
      have hx := hx.same (s1.trans s)
      obtain ⟨dx, t, d, e, m', tvs, us, y1, y2, y3, _⟩ := hx.ex
      refine ⟨rfl, yes_ite ?_⟩
      refine ⟨_, rfl, o, _, dx, _, _, rfl, y1, T.cl_Tree, T.na_Tree_rows, tf_rows, t, rfl, ⟨_, SqT.of y2⟩, fun D' hD' => ?_⟩
      exact dc_cells (K := K) y2 y3 tr.nd tr.len hD' (fun _ _ _ => rfl) (fun _ _ _ => rfl) (fun _ _ _ => rfl) (fun _ _ _ => rfl) fun H5 s5 hc => k1 rfl _ _ (s.trans s5) (s5 _ _ hDH) (fun v u h => h.same s5) hc
    · rw [filter_tt] at p
      exact hR _ _ ⟨s, D, acc, rfl, hDH, p⟩
  rintro v H2 ⟨s2, cs, cvs, rfl, hcs, pcs⟩
  obtain ⟨c0, c1, c2, rfl⟩ : ∃ n0 n1 n2, cvs = [n0, n1, n2] := by
    cases pcs with
    | cons h t => cases t with
      | cons h t => cases t with
        | cons h t => cases t; exact ⟨_, _, _, rfl⟩
  dsimp only [gName]
  refine ⟨Nat.zero_le _, fun we hwe => ?_⟩
  have s3 := same_upd (o := .lst []) hwe
  have g3 : (upd H2 we (.lst [])) we = some (.lst []) := upd_same
  have s03 := (s1.trans s2).trans s3
  have s13 := s2.trans s3
  have hcs := s3 _ _ hcs
  have pcs := paired_mono (fun _ _ h => CelR.same s3 h) pcs
  generalize upd H2 we (.lst []) = H3 at s3 g3 s03 s13 hcs pcs
  refine ⟨Nat.zero_le _, fun tk htk => ?_⟩
  have s4 := same_upd (o := .lst []) htk
  have g4 : (upd H3 tk (.lst [])) tk = some (.lst []) := upd_same
  have nwt : we ≠ tk := ne_of_none g3 htk
  have g3 := s4 _ _ g3
  have s04 := s03.trans s4
  have s14 := s13.trans s4
  have hcs := s4 _ _ hcs
  have pcs := paired_mono (fun _ _ h => CelR.same s4 h) pcs
  have htk0 : H tk = none := s03.free htk
  have hwe0 : H we = none := (s1.trans s2).free hwe
  generalize upd H3 tk (.lst []) = H4 at s4 g3 g4 s04 s14 hcs pcs
  refine ⟨_, rfl, by show 1 ≤ sizeLine; decide, fun ah hah => ?_⟩
  have s5 := same_upd (o := .lst [V.str (sw st)]) hah
  have g5 : (upd H4 ah (.lst [V.str (sw st)])) ah = some (.lst (wsV [st])) := upd_same
  have nwa : we ≠ ah := ne_of_none g3 hah
  have nta : tk ≠ ah := ne_of_none g4 hah
  have g3 := s5 _ _ g3
  have g4 := s5 _ _ g4
  have hah0 : H ah = none := s04.free hah
  have s05 := s04.trans s5
  have s15 := s14.trans s5
  have hcs := s5 _ _ hcs
  have pcs := paired_mono (fun _ _ h => CelR.same s5 h) pcs
  generalize upd H4 ah (.lst [V.str (sw st)]) = H5 at s5 g3 g4 g5 s05 s15 hcs pcs
  refine ⟨_, _, _, rfl, ?_⟩
  have hnb := s15 _ _ hnb
  have pds : Paired (NumR ps H5) [n0, n1, n2] [r0, r1, r2] := paired_mono (fun _ _ ⟨d, e, h⟩ => ⟨d, e, s15 _ _ h⟩) pds
  have hta5 := s05 _ _ hta
  have x05 := x0.same s05
  have x15 := x1.same s05
  have x25 := x2.same s05
  have hP5 := hP.same s05
  generalize hM : mgOf pl z ps r0 r1 r2 = M
  have hMo : MgOk M (allP r0 r1 r2) := by rw [← hM]; exact mg_ok th
  have l200 : ∀ q ∈ allP r0 r1 r2, q.length ≤ 200 := hMo.l200
  have hc0 : costP M st ≤ 6000 := by
    have h1 := cost_le hMo (201 - st.length) st hst
    have h2 : below (allP r0 r1 r2) st ≤ (allP r0 r1 r2).length := List.countP_le_length
    have h3 : (allP r0 r1 r2).length ≤ 6000 := by
      unfold allP
      rw [List.length_append, List.length_append, List.length_map, List.length_map, List.length_map]
      have := t0.len
      have := t1.len
      have := t2.len
      omega
    exact Nat.le_trans h1 (Nat.le_trans h2 h3)
  have kw : ∀ {Hc : Hp} {b : Addr} {o : HO}, KpL [we, tk, ah] H5 Hc → H5 b = some o → (∀ us, o ≠ .lst us) → Hc b = some o := fun {Hc b o} k h ho => k b o h fun hb => by
    rcases List.mem_cons.mp hb with e | hb
    · rw [e, g3] at h; exact ho _ (Option.some.inj h).symm
    rcases List.mem_cons.mp hb with e | hb
    · rw [e, g4] at h; exact ho _ (Option.some.inj h).symm
    rw [List.mem_singleton.mp hb, g5] at h
    exact ho _ (Option.some.inj h).symm
  dsimp only
  refine seqW (fun σ' H' => (∃ v8 v9 v10 v11 v12 v13 v14 v15 v16 v17 v18 v19 v20 v21 v22, σ' = [some (.ref p), some (.ref ta), some (.str (sw st)), some (.ref nb), some (.ref cs), some (.ref we), some (.ref tk), some (.ref ah), v8, v9, v10, v11, v12, v13, v14, v15, v16, v17, v18, v19, v20, v21, v22]) ∧
      KpL [we, tk, ah] H5 H' ∧ ∃ went taken wvs tvs, H' we = some (.lst wvs) ∧ Paired (RwT H') wvs went ∧ H' tk = some (.lst tvs) ∧ Paired (TkT H') tvs taken ∧ trP M st = .ok (went, taken) ∧ went.length + taken.length ≤ 6000) (fun N hN => ?_) (fun σ' H' ⟨⟨v8, v9, v10, v11, v12, v13, v14, v15, v16, v17, v18, v19, v20, v21, v22, e1⟩, kp, went, taken, wvs, tvs, hw, pw, ht, pt, eq, le⟩ => ?_)
  rotate_left
  · subst e1
    have f : Fine M [st] went taken := fine_of hMo _ st hst (Nat.le_refl _) went taken eq
    have kS : ∀ a ∈ [we, tk, ah], H a = none := fun x hx => by
      rcases List.mem_cons.mp hx with rfl | hx
      · exact hwe0
      rcases List.mem_cons.mp hx with rfl | hx
      · exact htk0
      rw [List.mem_singleton.mp hx]
      exact hah0
    have sA : Same H H' := KpL.old s05 kp kS
    obtain ⟨fw, fk⟩ : (∀ r ∈ went, r.1 ∈ allP r0 r1 r2) ∧ (∀ t ∈ taken, t.1 ∈ allP r0 r1 r2) := by
      rw [← hM] at f
      exact fine_in f
    refine ⟨_, rfl, _, rfl, _, rfl, p, we, tk, pl, wvs, tvs, went, taken, rfl, hP.same sA, hw, pw, ht, pt, by omega, by omega, fun r hr => Nat.le_trans (l200 _ (fw r hr)) (by decide), fun r hr => Nat.le_trans (l200 _ (fk r hr)) (by decide), fun H6 l lvs s6 hl0 hl pl6 => ?_⟩
    dsimp only [gName]
    have sB := sA.trans s6
    have ht6 := s6 _ _ ht
    have pt6 := paired_mono (fun _ _ h => TkT.same s6 h) pt
    have hl00 : H l = none := sA.free hl0
    have x06 := x0.same sB
    have x16 := x1.same sB
    have x26 := x2.same sB
    refine ⟨_, rfl, ta, _, 1, .ref b, rfl, rfl, SqL.of (sB _ _ hta), rfl, by show 2 ≤ sizeLine; decide, fun u1 hu1 => ?_⟩
    have s7 := same_upd (o := .tup [V.ref b, .str "one"]) hu1
    have g7 : (upd H6 u1 (.tup [V.ref b, .str "one"])) u1 = some (.tup [V.ref b, .str (sideS true)]) := upd_same
    have hl7 := s7 _ _ hl
    have pl7 := paired_mono (fun _ _ h => RwT.same s7 h) pl6
    have sC := sB.trans s7
    have ht7 := s7 _ _ ht6
    have pt7 := paired_mono (fun _ _ h => TkT.same s7 h) pt6
    generalize upd H6 u1 (.tup [V.ref b, .str "one"]) = H7 at s7 g7 hl7 pl7 sC ht7 pt7
    refine ⟨_, rfl, ta, _, 2, .ref c, rfl, rfl, SqL.of (sC _ _ hta), rfl, by show 2 ≤ sizeLine; decide, fun u2 hu2 => ?_⟩
    have s8 := same_upd (o := .tup [V.ref c, .str "other"]) hu2
    have g8 : (upd H7 u2 (.tup [V.ref c, .str "other"])) u2 = some (.tup [V.ref c, .str (sideS false)]) := upd_same
    have hl8 := s8 _ _ hl7
    have pl8 := paired_mono (fun _ _ h => RwT.same s8 h) pl7
    have sD := sC.trans s8
    have ht8 := s8 _ _ ht7
    have pt8 := paired_mono (fun _ _ h => TkT.same s8 h) pt7
    have g7 := s8 _ _ g7
    generalize upd H7 u2 (.tup [V.ref c, .str "other"]) = H8 at s8 g7 g8 hl8 pl8 sD ht8 pt8
    refine ⟨by show 2 ≤ sizeLine; decide, fun lp hlp => ⟨lp, rfl, ⟨_, SqL.of upd_same⟩, ?_⟩⟩
    have s9 := same_upd (o := .lst [V.ref u1, .ref u2]) hlp
    have g9 : (upd H8 lp (.lst [V.ref u1, .ref u2])) lp = some (.lst [V.ref u1, .ref u2]) := upd_same
    have hl9 := s9 _ _ hl8
    have pl9 := paired_mono (fun _ _ h => RwT.same s9 h) pl8
    have sE := sD.trans s9
    have ht9 := s9 _ _ ht8
    have pt9 := paired_mono (fun _ _ h => TkT.same s9 h) pt8
    have g7 := s9 _ _ g7
    have g8 := s9 _ _ g8
    generalize upd H8 lp (.lst [V.ref u1, .ref u2]) = H9 at s9 g7 g8 g9 hl9 pl9 sE ht9 pt9
    have pu : Paired (fun (v : V) (x : Addr × Bool × List Rw) => ∃ u, v = .ref u ∧ H9 u = some (.tup [.ref x.1, .str (sideS x.2.1)]) ∧ TreeAt T.c_Tree H x.1 z x.2.2 ∧ TrOk z x.2.2) [V.ref u1, .ref u2] [(b, true, r1), (c, false, r2)] := .cons ⟨u1, rfl, g7, x1, t1⟩ (.cons ⟨u2, rfl, g8, x2, t2⟩ .nil)
    have nll : l ≠ lp := fun e => by rw [e, g9] at hl9; exact absurd (s9 _ _ hl8) (by rw [e] at hl8; rw [hl8] at hlp; cases hlp)
    have ntl : tk ≠ l := fun e => by rw [e] at ht; rw [hl0] at ht; cases ht
    have ll : (leftF pl went.reverse (cnt0 taken)).length ≤ 6000 := by
      have := (left_sub pl went.reverse (cnt0 taken)).length_le
      unfold plW at this
      rw [List.length_map, List.length_map, List.length_reverse] at this
      omega
    refine for_it (walk_list (K := K) (a := lp) (xs := [V.ref u1, .ref u2])) (fun i σ Hc => (∃ v8 v9 v10 v11 v12 v13 v14 v16 v17 v18 v19 v20 v21 v22, σ = [some (.ref p), some (.ref ta), some (.str (sw st)), some (.ref nb), some (.ref cs), some (.ref we), some (.ref tk), some (.ref ah), v8, v9, v10, v11, v12, v13, v14, some (.ref l), v16, v17, v18, v19, v20, v21, v22]) ∧
        KpL [l] H9 Hc ∧ ∃ lvs, Hc l = some (.lst lvs) ∧ Paired (RwT Hc) lvs (leftF pl went.reverse (cnt0 taken) ++ (([(b, true, r1), (c, false, r2)] : List (Addr × Bool × List Rw)).take i).flatMap fun x => x.2.2.filter fun r => inT (sdK x.2.1 taken) r.1))
      ⟨⟨_, _, _, _, _, _, _, _, _, _, _, _, _, _, rfl⟩, KpL.refl _ _, lvs, hl9, by simpa using pl9⟩ (fun i σ Hc _ ⟨_, k, _⟩ => SqL.of (k _ _ g9 (by simpa using nll.symm))) (fun i u σ H0 Hc hi ⟨⟨v8, v9, v10, v11, v12, v13, v14, v16, v17, v18, v19, v20, v21, v22, e1⟩, k, lvs, hlc, plc⟩ yl => ?_) (fun σ Hc ⟨⟨v8, v9, v10, v11, v12, v13, v14, v16, v17, v18, v19, v20, v21, v22, e1⟩, k, lvs, hlc, plc⟩ => ?_)
    rotate_left
    · subst e1
      have sF : Same H Hc := KpL.old sE k (by simpa using hl00)
      have tp : ∀ b us, H9 b = some (.tup us) → Hc b = some (.tup us) := fun b us h => k _ _ h (by simp only [List.mem_singleton]; exact fun e => by rw [e, hl9] at h; cases h)
      refine ⟨_, rfl, _, rfl, by show 3 ≤ sizeLine; decide, fun t ht' => ?_⟩
      have sG := same_upd (o := .tup [V.non, .ref l, .ref tk]) ht'
      have q2 := (q _ t ps (sF.trans sG) th).2 went taken (by rw [hM]; exact eq) l tk lvs tvs upd_same (sG _ _ hlc) ?_ (sG _ _ (k _ _ ht9 (by simpa using ntl))) (paired_mono (fun _ _ h => let ⟨b, e, h⟩ := h; ⟨b, e, sG _ _ (tp _ _ h)⟩) pt9)
      · exact q2
      · have : finR pl went taken r1 r2 = leftF pl went.reverse (cnt0 taken) ++ (([(b, true, r1), (c, false, r2)] : List (Addr × Bool × List Rw)).take 2).flatMap fun x => x.2.2.filter fun r => inT (sdK x.2.1 taken) r.1 := by
          simp [finR]
        rw [this]
        exact paired_mono (fun _ _ h => h.same sG) plc
    obtain ⟨rfl, hu'⟩ := yl
    subst e1
    obtain ⟨⟨o, sd, rs⟩, hx', g, rfl, hg, xo, tro⟩ := paired_ix pu hu'
    dsimp only at hg xo tro
    have sF : Same H Hc := KpL.old sE k (by simpa using hl00)
    have tp : ∀ b us, H9 b = some (.tup us) → Hc b = some (.tup us) := fun b us h => k _ _ h (by simp only [List.mem_singleton]; exact fun e => by rw [e, hl9] at h; cases h)
    refine ⟨g, _, rfl, SqT.of (tp _ _ hg), rfl, _, _, rfl, _, _, rfl, rfl, ?_⟩
    dsimp only [gName]
    refine ⟨_, rfl, .inl ⟨rfl, _, SqL.of hlc⟩, _, rfl, _, rfl, tk, rfl, ⟨_, SqL.of (k _ _ ht9 (by simpa using ntl))⟩, fun D hD => ?_⟩
    have ptc := paired_mono (fun _ _ h => let ⟨b, e, h⟩ := h; (⟨b, e, tp _ _ h⟩ : TkT Hc _ _)) pt9
    have tkl : taken.length ≤ 6000 := by omega
    have nd2 : (sdK sd taken).Nodup := (List.filter_sublist.map _).nodup (List.nodup_append.mp f.nd).2.1
    have len2 : (sdK sd taken).length ≤ 9000 := by
      unfold sdK plK
      rw [List.length_map]
      exact Nat.le_trans (List.length_filter_le _ _) (by omega)
    refine lcF (walk_list (K := K) (a := tk) (xs := tvs)) yat ptc hD (fun H' s => SqL.of (s _ _ (k _ _ ht9 (by simpa using ntl)))) (by omega) (fun t => t.2 == sd) (fun t => V.str (sw t.1)) (fun x t H' R N hm hx s k1 k2 => ?_) (fun H' s hDH => ?_)
    · obtain ⟨g2, rfl, hg2⟩ := hx
      refine ⟨g2, _, rfl, SqT.of (s _ _ hg2), rfl, _, _, rfl, _, _, rfl, rfl, rfl, ?_⟩
      refine ⟨_, rfl, _, rfl, rfl, _, rfl, ?_⟩
      rw [side_eq]
      exact ite2 (fun h => ⟨_, rfl, k1 h⟩) (fun h => k2 (Bool.eq_false_iff.mpr h))
    have hDH : H' D = some (.lst (wsV (sdK sd taken))) := by
      have e : wsV (sdK sd taken) = (taken.filter fun t => t.2 == sd).map fun t => V.str (sw t.1) := by
        unfold wsV sdK plK
        rw [List.map_map]
        rfl
      rw [hDH, e]
    refine ⟨o, D, z, rs, sdK sd taken, rfl, (xo.same sF).same s, hDH, nd2, len2, tro.len, tro.nd, tro.par, fun r hr => Nat.le_trans (tro.l200 _ (List.mem_map.mpr ⟨r, hr, rfl⟩)) (by decide), fun H'' l2 vs2 s2' hl2 hl2' pv2 => ?_⟩
    have hlc2 := s2' _ _ (s _ _ hlc)
    have nl2 : l ≠ l2 := fun e => by rw [← e] at hl2; rw [s _ _ hlc] at hl2; cases hl2
    refine ⟨l, l2, lvs, vs2, rfl, rfl, hlc2, hl2', ?_, ?_⟩
    · rw [plc.length, pv2.length, List.length_append]
      have h1 : (rs.filter fun r => inT (sdK sd taken) r.1).length ≤ 2000 := Nat.le_trans (List.length_filter_le _ _) tro.len
      have h2 : ((([(b, true, r1), (c, false, r2)] : List (Addr × Bool × List Rw)).take i).flatMap fun x => x.2.2.filter fun r => inT (sdK x.2.1 taken) r.1).length ≤ 2000 := by
        have hi2 : i < 2 := hi
        have : i = 0 ∨ i = 1 := by omega
        rcases this with rfl | rfl
        · exact Nat.zero_le _
        · simp only [List.take_succ_cons, List.take_zero, List.flatMap_cons, List.flatMap_nil, List.append_nil]
          exact Nat.le_trans (List.length_filter_le _ _) t1.len
      rw [sizeLine_eq]
      omega
    have tp2 : ∀ {Ha : Hp}, (∀ b us, Ha b = some (.tup us) → H'' b = some (.tup us)) → ∀ b us, Ha b = some (.tup us) → (upd H'' l (.lst (lvs ++ vs2))) b = some (.tup us) := fun {Ha} h b us hb => by rw [upd_ne (ne_of (h b us hb) hlc2 (by intro z; cases z))]; exact h b us hb
    refine ⟨⟨_, _, _, _, _, _, _, _, _, _, _, _, _, _, rfl⟩, ((k.same s).same s2').put (List.mem_singleton.mpr rfl) _, lvs ++ vs2, upd_same, ?_⟩
    rw [List.take_add_one, hx', List.flatMap_append, ← List.append_assoc]
    refine paired_app (paired_mono (fun _ _ h => RwT.tup (tp2 fun b us h => s2' _ _ (s _ _ h)) h) plc) ?_
    show Paired _ vs2 (((rs.filter fun r => inT (sdK sd taken) r.1)) ++ [])
    rw [List.append_nil]
    exact paired_mono (fun _ _ h => RwT.tup (tp2 fun b us h => h) h) pv2
  refine while_by (fun σ Hc => (∃ v8 v9 v10 v11 v12 v13 v14 v15 v16 v17 v18 v19 v20 v21 v22, σ = [some (.ref p), some (.ref ta), some (.str (sw st)), some (.ref nb), some (.ref cs), some (.ref we), some (.ref tk), some (.ref ah), v8, v9, v10, v11, v12, v13, v14, v15, v16, v17, v18, v19, v20, v21, v22]) ∧
      KpL [we, tk, ah] H5 Hc ∧ ∃ went taken stack wvs tvs, Hc we = some (.lst wvs) ∧ Paired (RwT Hc) wvs went ∧ Hc tk = some (.lst tvs) ∧ Paired (TkT Hc) tvs taken ∧ Hc ah = some (.lst (wsV stack.reverse)) ∧ seqR (.ok (went, taken)) (trS M stack) = trP M st ∧ (∀ q ∈ stack, q ∈ allP r0 r1 r2) ∧ went.length + taken.length + costS M stack ≤ 6000)
    (fun _ H => costL M ah H) ?_ (fun σ Hc ⟨⟨v8, v9, v10, v11, v12, v13, v14, v15, v16, v17, v18, v19, v20, v21, v22, e1⟩, kp, went, taken, stack, wvs, tvs, hw, pw, ht, pt, ha, eq, sin, le⟩ => ?_) (fun σ H Q Q' h ⟨x, e, k, t, q⟩ => ⟨x, e, k, t, h _ _ q⟩)
  · refine ⟨⟨_, _, _, _, _, _, _, _, _, _, _, _, _, _, _, rfl⟩, KpL.refl _ _, [], [], [st], [], [], g3, .nil, g4, .nil, g5, ?_, fun q hq => by rw [List.mem_singleton.mp hq]; exact hst, ?_⟩
    · show seqR (.ok ([], [])) (seqR (trP M st) (.ok ([], []))) = _
      rw [seqR_nil]
      cases trP M st <;> simp [seqR]
    · show 0 + 0 + (costP M st + 0) ≤ 6000
      omega
  subst e1
  have hwe5 : we ∈ [we, tk, ah] := List.mem_cons_self
  have htk5 : tk ∈ [we, tk, ah] := List.mem_cons_of_mem _ List.mem_cons_self
  have hah5 : ah ∈ [we, tk, ah] := List.mem_cons_of_mem _ (List.mem_cons_of_mem _ List.mem_cons_self)
  have kS : ∀ a ∈ [we, tk, ah], H a = none := fun x hx => by
    rcases List.mem_cons.mp hx with rfl | hx
    · exact hwe0
    rcases List.mem_cons.mp hx with rfl | hx
    · exact htk0
    rw [List.mem_singleton.mp hx]
    exact hah0
  cases stack with
  | nil =>
    refine ⟨_, rfl, false, .inl ⟨_, SqL.of ha, rfl⟩, iteF (hN _ _ ⟨⟨_, _, _, _, _, _, _, _, _, _, _, _, _, _, _, rfl⟩, kp, went, taken, wvs, tvs, hw, pw, ht, pt, ?_, by omega⟩)⟩
    exact eq.symm.trans (seqR_nil _)
  | cons pc rest =>
  have hpc := sin pc List.mem_cons_self
  have pc200 := l200 pc hpc
  have ews : wsV (pc :: rest).reverse = wsV rest.reverse ++ [V.str (sw pc)] := by
    unfold wsV
    rw [List.reverse_cons, List.map_append]
    rfl
  rw [ews] at ha
  have hμ : costL M ah Hc = costP M pc + costS M rest := by
    rw [← ews] at ha
    exact costL_at ha
  have le : went.length + taken.length + (costP M pc + costS M rest) ≤ 6000 := le
  refine ⟨_, rfl, true, .inl ⟨_, SqL.of ha, by simp⟩, iteT ?_⟩
  rw [hμ]
  clear hμ
  refine ⟨_, rfl, .inl ⟨rfl, _, SqL.of ha⟩, ah, _, .str (sw pc), rfl, rfl, ha, by simp, ?_⟩
  rw [List.dropLast_concat]
  have kp1 := kp.put hah5 (.lst (wsV rest.reverse))
  have ha1 : (upd Hc ah (.lst (wsV rest.reverse))) ah = some (.lst (wsV rest.reverse)) := upd_same
  have tp1 : ∀ b us, Hc b = some (.tup us) → (upd Hc ah (.lst (wsV rest.reverse))) b = some (.tup us) := fun b us h => by rw [upd_ne (ne_of h ha (by intro z; cases z))]; exact h
  have hw1 : (upd Hc ah (.lst (wsV rest.reverse))) we = some (.lst wvs) := by rw [upd_ne nwa]; exact hw
  have ht1 : (upd Hc ah (.lst (wsV rest.reverse))) tk = some (.lst tvs) := by rw [upd_ne nta]; exact ht
  have pw1 := paired_mono (fun _ _ h => RwT.tup tp1 h) pw
  have pt1 : Paired (TkT (upd Hc ah (.lst (wsV rest.reverse)))) tvs taken := paired_mono (fun _ _ ⟨b, e, h⟩ => ⟨b, e, tp1 _ _ h⟩) pt
  generalize upd Hc ah (.lst (wsV rest.reverse)) = Hd at kp1 ha1 tp1 hw1 ht1 pw1 pt1
  clear hw ht pw pt ha tp1 kp
  dsimp only [gName]
  -- the lists of the loop's heap stand
  have kl : ∀ {Hx : Hp} {b : Addr} {us : List V}, KpL [we, tk, ah] H5 Hx → H5 b = some (.lst us) → us.length = 3 → Hx b = some (.lst us) := fun {Hx b us} k h h3 => k _ _ h fun hb => by
    rcases List.mem_cons.mp hb with e | hb
    · rw [e, g3] at h; cases h; cases h3
    rcases List.mem_cons.mp hb with e | hb
    · rw [e, g4] at h; cases h; cases h3
    rw [List.mem_singleton.mp hb, g5] at h
    cases h
    cases h3
  have sH : ∀ {Hx : Hp}, KpL [we, tk, ah] H5 Hx → Same H Hx := fun k => KpL.old s05 k kS
  have ndr : ∀ rs ∈ [r0, r1, r2], (rs.map (·.1)).Nodup := fun rs hm => by
    rcases List.mem_cons.mp hm with rfl | hm
    · exact t0.nd
    rcases List.mem_cons.mp hm with rfl | hm
    · exact t1.nd
    rw [List.mem_singleton.mp hm]
    exact t2.nd
  -- the three numbers
  refine asgS (fun v H' => Same Hd H' ∧ ∃ l, v = .ref l ∧ H' l = some (.lst [oV (numO ps r0 pc), oV (numO ps r1 pc), oV (numO ps r2 pc)])) (fun R hR => ?_) ?_
  · refine ⟨_, rfl, nb, rfl, ⟨_, SqL.of (kl kp1 hnb rfl)⟩, fun D hD => ?_⟩
    have pds' : Paired (NumR ps Hd) [n0, n1, n2] [r0, r1, r2] := paired_mono (fun _ _ ⟨d, e, h⟩ => ⟨d, e, kw kp1 h (by intro us z; cases z)⟩) pds
    refine lcF (walk_list (K := K) (a := nb) (xs := [n0, n1, n2])) yat pds' hD (fun H' s => SqL.of (s _ _ (kl kp1 hnb rfl))) (by show 3 ≤ 40000; omega) (fun _ => true) (fun rs => oV (numO ps rs pc)) (fun x rs H' R N hm hx s k1 _ => ⟨rfl, yes_ite ?_⟩) (fun H' s hDH => ?_)
    · obtain ⟨d, rfl, hd⟩ := hx
      have hd' := s _ _ hd
      obtain ⟨o, hg, e⟩ := num_get (ps := ps) (ndr rs hm) ⟨d, rfl, hd'⟩ pc
      refine ⟨_, rfl, d, rfl, .inl ⟨_, .inl hd'⟩, _, rfl, o, hg, ?_⟩
      rw [e]
      exact k1 rfl
    · rw [filter_tt] at hDH
      exact hR _ _ ⟨s, D, rfl, hDH⟩
  rintro v He ⟨se, l, rfl, hl⟩
  have kp2 := kp1.same se
  have ha2 := se _ _ ha1
  have hw2 := se _ _ hw1
  have ht2 := se _ _ ht1
  have pw2 := paired_mono (fun _ _ h => RwT.same se h) pw1
  have pt2 := paired_mono (fun _ _ h => TkT.same se h) pt1
  clear ha1 hw1 ht1 pw1 pt1 kp1 se
  refine ⟨l, _, rfl, SqL.of hl, rfl, _, _, rfl, _, _, rfl, _, _, rfl, rfl, ?_⟩
  refine ⟨_, rfl, _, rfl, _, rfl, _, rfl, p, pl, numO ps r0 pc, numO ps r1 pc, numO ps r2 pc, rfl, hP.same (sH kp2), ?_⟩
  have hway : M.way pc = wayM pl (numO ps r0 pc) (numO ps r1 pc) (numO ps r2 pc) := by rw [← hM]; rfl
  rw [← hway]
  try dsimp only [gName]
  -- a clash is told
  have ret : ∀ {Hx : Hp}, KpL [we, tk, ah] H5 Hx → trP M pc = .error pc → ∀ l1, Hx l1 = none → ∀ l2, (upd Hx l1 (.lst [])) l2 = none → ∀ t, (upd (upd Hx l1 (.lst [])) l2 (.lst [])) t = none → Q (.ref t) (upd (upd (upd Hx l1 (.lst [])) l2 (.lst [])) t (.tup [.str (sw pc), .ref l1, .ref l2])) := fun {Hx} k e l1 h1 l2 h2 t h3 => by
    have sa := same_upd (o := .lst []) h1
    have sb := same_upd (o := .lst []) h2
    have sc := same_upd (o := .tup [.str (sw pc), .ref l1, .ref l2]) h3
    refine (q _ t ps ((((sH k).trans sa).trans sb).trans sc) th).1 pc ?_ l1 l2 upd_same (sc _ _ (sb _ _ upd_same)) (sc _ _ upd_same)
    rw [hM, ← eq, trS_cons, e]
    rfl
  refine seqW (fun σ' H' => H' = He ∧ M.way pc ≠ .clash ∧ σ' = [some (.ref p), some (.ref ta), some (.str (sw st)), some (.ref nb), some (.ref cs), some (.ref we), some (.ref tk), some (.ref ah), some (.str (sw pc)), some (oV (numO ps r0 pc)), some (oV (numO ps r1 pc)), some (oV (numO ps r2 pc)), some (.str (M.way pc).s), v13, v14, v15, v16, v17, v18, v19, v20, v21, v22]) (fun N' hN' => ?_) (fun σ' H' ⟨eh, hncl, es⟩ => ?_)
  · refine ⟨_, rfl, rfl, _, rfl, ?_⟩
    rw [show decide (V.str (M.way pc).s = V.str "clash") = decide (M.way pc = .clash) from oc_eq _ .clash]
    refine iteD (fun h => ?_) (fun h => hN' _ _ ⟨rfl, h, rfl⟩)
    exact ⟨_, rfl, Nat.zero_le _, fun l1 h1 => ⟨Nat.zero_le _, fun l2 h2 => ⟨by show 3 ≤ sizeLine; decide, fun t h3 => ret kp2 (trP_clash h) l1 h1 l2 h2 t h3⟩⟩⟩
  subst eh es
  -- taken whole
  refine seqW (fun σ' Hf => σ' = [some (.ref p), some (.ref ta), some (.str (sw st)), some (.ref nb), some (.ref cs), some (.ref we), some (.ref tk), some (.ref ah), some (.str (sw pc)), some (oV (numO ps r0 pc)), some (oV (numO ps r1 pc)), some (oV (numO ps r2 pc)), some (.str (M.way pc).s), v13, v14, v15, v16, v17, v18, v19, v20, v21, v22] ∧
      KpL [we, tk, ah] H5 Hf ∧ Hf we = some (.lst wvs) ∧ Paired (RwT Hf) wvs went ∧ Hf ah = some (.lst (wsV rest.reverse)) ∧ ∃ tvs', Hf tk = some (.lst tvs') ∧ Paired (TkT Hf) tvs' (taken ++ (if M.way pc = .one then [(pc, true)] else if M.way pc = .other then [(pc, false)] else []))) (fun N' hN' => ?_) (fun σ' Hf ⟨es, kp3, hw3, pw3, ha3, tvs', ht3, pt3⟩ => ?_)
  · have tvl : tvs.length < sizeLine := by rw [pt2.length, sizeLine_eq]; omega
    have app : ∀ (b : Bool) (D' : Ends), V.str (M.way pc).s = .str (sideS b) → ([(pc, b)] = if M.way pc = .one then [(pc, true)] else if M.way pc = .other then [(pc, false)] else []) → (∀ σ' H', D'.nx σ' H' = N' σ' H') → tDrop (tBM K "list" rAppend (tVar 6) (tCons (tTup (tCons (tVar 8) (tCons (tVar 12) tNil))) tNil)) D' [some (.ref p), some (.ref ta), some (.str (sw st)), some (.ref nb), some (.ref cs), some (.ref we), some (.ref tk), some (.ref ah), some (.str (sw pc)), some (oV (numO ps r0 pc)), some (oV (numO ps r1 pc)), some (oV (numO ps r2 pc)), some (.str (M.way pc).s), v13, v14, v15, v16, v17, v18, v19, v20, v21, v22] H' := fun b D' hb hl hD' => by
      refine ⟨_, rfl, .inl ⟨rfl, _, SqL.of ht2⟩, _, rfl, _, rfl, by show 2 ≤ sizeLine; decide, fun u hu => ?_⟩
      have su := same_upd (o := .tup [V.str (sw pc), V.str (M.way pc).s]) hu
      have gu : (upd H' u (.tup [V.str (sw pc), V.str (M.way pc).s])) u = some (.tup [V.str (sw pc), V.str (sideS b)]) := by rw [upd_same, hb]
      have ht2u := su _ _ ht2
      have hw2u := su _ _ hw2
      have ha2u := su _ _ ha2
      have kp2u := kp2.same su
      have pw2u := paired_mono (fun _ _ h => RwT.same su h) pw2
      have pt2u := paired_mono (fun _ _ h => TkT.same su h) pt2
      generalize upd H' u (.tup [V.str (sw pc), V.str (M.way pc).s]) = Hu at su gu ht2u hw2u ha2u kp2u pw2u pt2u
      refine ⟨tk, tvs, _, rfl, rfl, ht2u, tvl, ?_⟩
      have tp : ∀ b us, Hu b = some (.tup us) → (upd Hu tk (.lst (tvs ++ [.ref u]))) b = some (.tup us) := fun b us h => by rw [upd_ne (ne_of h ht2u (by intro z; cases z))]; exact h
      show D'.nx _ _
      rw [hD']
      refine hN' _ _ ⟨rfl, kp2u.put htk5 _, by rw [upd_ne nwt]; exact hw2u, paired_mono (fun _ _ h => RwT.tup tp h) pw2u, by rw [upd_ne nta.symm]; exact ha2u, tvs ++ [.ref u], upd_same, ?_⟩
      rw [← hl]
      exact paired_app (paired_mono (fun _ _ ⟨b, e, h⟩ => ⟨b, e, tp _ _ h⟩) pt2u) (.cons ⟨u, rfl, tp _ _ gu⟩ .nil)
    refine ⟨_, rfl, rfl, _, rfl, ?_⟩
    rw [show decide (V.str (M.way pc).s = V.str "one") = decide (M.way pc = .one) from oc_eq _ .one]
    refine iteD (fun h => ?_) (fun h => ?_)
    · exact iteT (app true _ (by rw [h]; rfl) (by rw [if_pos h]) fun _ _ => rfl)
    refine ⟨_, rfl, rfl, _, rfl, ?_⟩
    rw [show decide (V.str (M.way pc).s = V.str "other") = decide (M.way pc = .other) from oc_eq _ .other]
    refine iteD (fun h2 => ?_) (fun h2 => ?_)
    · exact app false _ (by rw [h2]; rfl) (by rw [if_neg h, if_pos h2]) fun _ _ => rfl
    · refine hN' _ _ ⟨rfl, kp2, hw2, pw2, ha2, tvs, ht2, ?_⟩
      rw [if_neg h, if_neg h2, List.append_nil]
      exact pt2
  subst es
  have le1 : (taken ++ (if M.way pc = .one then [(pc, true)] else if M.way pc = .other then [(pc, false)] else [])).length ≤ taken.length + 1 := by
    rw [List.length_append]
    split
    · simp
    · split <;> simp
  have cp := cost_pos M pc
  refine ⟨_, rfl, rfl, _, rfl, ?_⟩
  rw [show decide (V.str (M.way pc).s = V.str "on") = decide (M.way pc = .on) from oc_eq _ .on]
  refine iteD (fun hon => ?_) (fun hon => ?_)
  rotate_left
  · refine ⟨⟨⟨_, _, _, _, _, _, _, _, _, _, _, _, _, _, _, rfl⟩, kp3, went, _, rest, wvs, tvs', hw3, pw3, ht3, pt3, ha3, ?_, fun q hq => sin q (List.mem_cons_of_mem _ hq), by omega⟩, by rw [costL_at ha3]; omega⟩
    rw [← eq, trS_cons, ← seqR_assoc]
    congr 1
    by_cases h1 : M.way pc = .one
    · rw [trP_one h1, if_pos h1]
      simp [seqR]
    by_cases h2 : M.way pc = .other
    · rw [trP_other h2, if_neg h1, if_pos h2]
      simp [seqR]
    · rw [trP_none hncl h1 h2 hon, if_neg h1, if_neg h2]
      simp [seqR]
  rw [if_neg (by rw [hon]; decide), if_neg (by rw [hon]; decide), List.append_nil] at pt3
  have hcs3 := kl kp3 hcs rfl
  have pcs3 : Paired (CelR Hf) [c0, c1, c2] [r0, r1, r2] := paired_mono (fun _ _ ⟨d, l, e, h1, h2⟩ => ⟨d, l, e, kw kp3 h1 (by intro us z; cases z), paired_mono (fun _ _ ⟨e, t, e2, h⟩ => ⟨e, t, e2, kw kp3 h (by intro us z; cases z)⟩) h2⟩) pcs
  -- the cell
  refine asgS (fun v H' => Same Hf H' ∧ IsC H' v (M.cell pc)) (fun R hR => ?_) ?_
  · refine ⟨_, rfl, _, rfl, _, rfl, cs, rfl, ⟨_, SqL.of hcs3⟩, fun D hD => ?_⟩
    refine lcG (walk_list (K := K) (a := cs) (xs := [c0, c1, c2])) yat pcs3 (fun _ H' => Same Hf H') (same_upd hD) (fun _ H' acc s => same_of_new s hD) (fun m H' _ s => SqL.of (s _ _ hcs3)) (by show 3 ≤ 40000; omega) (fun _ => true) (fun H' v rs => IsC H' v (rs.lookup pc)) (fun H' acc acc' v rs hDl h => ?_) (fun m x rs H' acc R' N hr' ex s hDH k1 _ => ?_) (fun H' acc s hDH pa => ?_)
    · cases hc : rs.lookup pc with
      | none => rw [hc] at h; exact h
      | some c =>
        rw [hc] at h
        obtain ⟨t, e, h⟩ := h
        exact ⟨t, e, by rw [upd_ne (ne_of h hDl (by intro z; cases z))]; exact h⟩
    · obtain ⟨d, l, rfl, e1, e2⟩ := id ex
      have ex' := CelR.same s ex
      obtain ⟨o, hg, hi, _⟩ := ex'.get pc
      exact ⟨rfl, yes_ite ⟨_, rfl, d, rfl, ex'.isd, _, rfl, o, hg, k1 rfl _ _ s hDH (fun _ _ h => h) hi⟩⟩
    · rw [filter_tt] at pa
      obtain ⟨u0, u1, u2, rfl⟩ : ∃ n0 n1 n2, acc = [n0, n1, n2] := by
        cases pa with
        | cons h t => cases t with
          | cons h t => cases t with
            | cons h t => cases t; exact ⟨_, _, _, rfl⟩
      cases pa with
      | cons i0 pa => cases pa with
        | cons i1 pa => cases pa with
          | cons i2 pa =>
            have k' := kp3.same s
            refine ⟨p, D, pl, u0, u1, u2, _, _, _, rfl, hP.same (sH k'), hDH, i0, i1, i2, fun H'' l w0 w1 w2 s' hl j0 j1 j2 => ?_⟩
            have k'' := k'.same s'
            refine ⟨p, l, pl, w0, w1, w2, _, _, _, rfl, hP.same (sH k''), hl, j0, j1, j2, fun H3 v s3 iv => hR _ _ ⟨(s.trans s').trans s3, ?_⟩⟩
            have e : M.cell pc = mergedM pl (metB (r0.lookup pc)) ((r1.lookup pc).getD (metG pl (r0.lookup pc))) ((r2.lookup pc).getD (metG pl (r0.lookup pc))) := by rw [← hM]; rfl
            rw [e]
            exact iv
  rintro v Hg ⟨sg, iv⟩
  have kp4 := kp3.same sg
  have ha4 := sg _ _ ha3
  have hw4 := sg _ _ hw3
  have ht4 := sg _ _ ht3
  have pw4 := paired_mono (fun _ _ h => RwT.same sg h) pw3
  have pt4 := paired_mono (fun _ _ h => TkT.same sg h) pt3
  clear ha3 hw3 ht3 pw3 pt3 kp3 hcs3 pcs3
  dsimp only [gName]
  refine seqW (fun σ' H' => H' = Hg ∧ M.cell pc ≠ none ∧ σ' = [some (.ref p), some (.ref ta), some (.str (sw st)), some (.ref nb), some (.ref cs), some (.ref we), some (.ref tk), some (.ref ah), some (.str (sw pc)), some (oV (numO ps r0 pc)), some (oV (numO ps r1 pc)), some (oV (numO ps r2 pc)), some (.str (M.way pc).s), some v, v14, v15, v16, v17, v18, v19, v20, v21, v22]) (fun N' hN' => ?_) (fun σ' H' ⟨eh, hcell, es⟩ => ?_)
  · refine ⟨_, rfl, rfl, _, rfl, iteD (fun h => ?_) (fun h => ?_)⟩
    all_goals rw [iv.iff] at h
    · exact ⟨_, rfl, Nat.zero_le _, fun l1 h1 => ⟨Nat.zero_le _, fun l2 h2 => ⟨by show 3 ≤ sizeLine; decide, fun t h3 => ret kp4 (trP_bad hon h) l1 h1 l2 h2 t h3⟩⟩⟩
    · exact hN' _ _ ⟨rfl, h, rfl⟩
  subst eh es
  obtain ⟨ce, hce⟩ := Option.ne_none_iff_exists'.mp hcell
  rw [hce] at iv
  obtain ⟨g, rfl, hg⟩ := iv
  have hon' := trP_on hMo pc200 hon hce
  have hcost := costP_eq hMo pc200
  have wvl : wvs.length < sizeLine := by rw [pw4.length, sizeLine_eq]; omega
  refine ⟨_, rfl, .inl ⟨rfl, _, SqL.of hw4⟩, _, rfl, ?_⟩
  refine ⟨_, rfl, g, _, _, _, rfl, rfl, SqT.of hg, atI_nat (j := 0) rfl, ?_⟩
  refine ⟨_, rfl, g, _, _, _, rfl, rfl, SqT.of hg, atI_nat (j := 1) rfl, ?_⟩
  refine ⟨by show 3 ≤ sizeLine; decide, fun u hu => ?_⟩
  obtain ⟨cv, cf⟩ := ce
  have su := same_upd (o := .tup [V.str (sw pc), oV cv, V.bl cf]) hu
  have gu : (upd H' u (.tup [V.str (sw pc), oV cv, V.bl cf])) u = some (.tup (rwVs (pc, cv, cf))) := upd_same
  have ht4u := su _ _ ht4
  have hw4u := su _ _ hw4
  have ha4u := su _ _ ha4
  have kp4u := kp4.same su
  have pw4u := paired_mono (fun _ _ h => RwT.same su h) pw4
  have pt4u := paired_mono (fun _ _ h => TkT.same su h) pt4
  generalize upd H' u (.tup [V.str (sw pc), oV cv, V.bl cf]) = Hu at su gu ht4u hw4u ha4u kp4u pw4u pt4u
  refine ⟨we, wvs, _, rfl, rfl, hw4u, wvl, ?_⟩
  have tp : ∀ b us, Hu b = some (.tup us) → (upd Hu we (.lst (wvs ++ [.ref u]))) b = some (.tup us) := fun b us h => by rw [upd_ne (ne_of h hw4u (by intro z; cases z))]; exact h
  have kp5 := kp4u.put hwe5 (.lst (wvs ++ [.ref u]))
  have hw5 : (upd Hu we (.lst (wvs ++ [.ref u]))) we = some (.lst (wvs ++ [.ref u])) := upd_same
  have ht5 : (upd Hu we (.lst (wvs ++ [.ref u]))) tk = some (.lst tvs') := by rw [upd_ne nwt.symm]; exact ht4u
  have ha5 : (upd Hu we (.lst (wvs ++ [.ref u]))) ah = some (.lst (wsV rest.reverse)) := by rw [upd_ne nwa.symm]; exact ha4u
  have pw5 : Paired (RwT (upd Hu we (.lst (wvs ++ [.ref u])))) (wvs ++ [.ref u]) (went ++ [(pc, cv, cf)]) := paired_app (paired_mono (fun _ _ h => RwT.tup tp h) pw4u) (.cons ⟨u, rfl, tp _ _ gu⟩ .nil)
  have pt5 : Paired (TkT (upd Hu we (.lst (wvs ++ [.ref u])))) tvs' taken := paired_mono (fun _ _ ⟨b, e, h⟩ => ⟨b, e, tp _ _ h⟩) pt4u
  generalize upd Hu we (.lst (wvs ++ [.ref u])) = Hv at kp5 hw5 ht5 ha5 pw5 pt5
  clear tp pw4u pt4u ht4u hw4u ha4u kp4u gu su
  dsimp only
  -- the letters
  let kpc : Nat → Bool := fun c => decide (pc ++ [c] ∈ r0.map (·.1)) || (decide (pc ++ [c] ∈ r1.map (·.1)) || decide (pc ++ [c] ∈ r2.map (·.1)))
  have hchM : M.ch pc = (z.filter kpc).map fun c => pc ++ [c] := by rw [← hM]; rfl
  have chl : (z.filter kpc).length ≤ 26 := Nat.le_trans (List.length_filter_le _ _) hz26
  refine asgS (fun v H' => Same Hv H' ∧ ∃ lt, v = .ref lt ∧ H' lt = some (.lst (sgs (z.filter kpc)))) (fun R hR => ?_) ?_
  · have x05v := x0.same (sH kp5)
    obtain ⟨dx, t, d, e, m', tvs, us, y1, y2, y3, _⟩ := x05v.ex
    refine ⟨_, rfl, ta, _, 0, .ref a, rfl, rfl, SqL.of (sH kp5 _ _ hta), rfl, a, _, dx, _, _, rfl, y1, T.cl_Tree, T.na_Tree_letters, tf_letters, sw z, rfl, fun D hD => ?_⟩
    refine lcG (walk_sgs z) yat (pr_sgs z) (fun _ H' => Same Hv H') (same_upd hD) (fun _ H' acc s => same_of_new s hD) (fun _ _ _ _ => trivial) (by omega) kpc (fun _ v c => v = V.str (sw [c])) (fun _ _ _ _ _ _ h => h) (fun m x c H' acc R N hm hx s hDH k1 k2 => ?_) (fun H' acc s hDH pa => by rw [paired_eq pa] at hDH; exact hR _ _ ⟨s, D, rfl, hDH⟩)
    subst hx
    refine ⟨rfl, ?_⟩
    have kpx := kp5.same s
    refine ⟨_, rfl, cs, rfl, ⟨_, SqL.of (kl kpx hcs rfl)⟩, fun D' hD' => ?_⟩
    have pcsx : Paired (CelR H') [c0, c1, c2] [r0, r1, r2] := paired_mono (fun _ _ ⟨d, l, e, h1, h2⟩ => ⟨d, l, e, kw kpx h1 (by intro us z; cases z), paired_mono (fun _ _ ⟨e, t, e2, h⟩ => ⟨e, t, e2, kw kpx h (by intro us z; cases z)⟩) h2⟩) pcs
    refine lcF (walk_list (K := K) (a := cs) (xs := [c0, c1, c2])) yat pcsx hD' (fun H'' s' => SqL.of (kl (kpx.same s') hcs rfl)) (by show 3 ≤ 40000; omega) (fun _ => true) (fun rs => V.bl (decide (pc ++ [c] ∈ rs.map (·.1)))) (fun x rs H'' R' N' hm' hx' s' k1' _ => ⟨rfl, yes_ite ?_⟩) (fun H'' s' hDH' => ?_)
    · obtain ⟨d, l, rfl, e1, e2⟩ := id hx'
      have ex' := CelR.same s' hx'
      obtain ⟨o, hg, _, hi⟩ := ex'.get (pc ++ [c])
      refine ⟨_, rfl, _, rfl, sw pc, sw [c], rfl, rfl, by rw [sw_len, sw_len, sizeLine_eq]; simp; omega, ?_⟩
      refine ⟨_, rfl, d, o, rfl, by rw [sw_app]; exact hg, ?_⟩
      rw [hi]
      exact k1' rfl
    · refine ⟨D', [decide (pc ++ [c] ∈ r0.map (·.1)), decide (pc ++ [c] ∈ r1.map (·.1)), decide (pc ++ [c] ∈ r2.map (·.1))], rfl, SqL.of hDH', _, rfl, ?_⟩
      have e : ([decide (pc ++ [c] ∈ r0.map (·.1)), decide (pc ++ [c] ∈ r1.map (·.1)), decide (pc ++ [c] ∈ r2.map (·.1))]).any id = kpc c := by
        show (_ || (_ || (_ || false))) = _
        rw [Bool.or_false]
        rfl
      rw [e]
      refine ite2 (fun h => ⟨_, rfl, k1 h _ _ (s.trans s') (s' _ _ hDH) (fun _ _ h => h) rfl⟩) (fun h => k2 (Bool.eq_false_iff.mpr h) _ (s.trans s') (s' _ _ hDH) (fun _ _ h => h))
  rintro v Hx ⟨sx, lt, rfl, hlt⟩
  have kp6 := kp5.same sx
  have ha6 := sx _ _ ha5
  have hw6 := sx _ _ hw5
  have ht6 := sx _ _ ht5
  have pw6 := paired_mono (fun _ _ h => RwT.same sx h) pw5
  have pt6 := paired_mono (fun _ _ h => TkT.same sx h) pt5
  clear ha5 hw5 ht5 pw5 pt5 kp5
  dsimp only [gName]
  have eex : ∀ l : List Nat, (l.map fun c => V.str (sw (pc ++ [c]))) = wsV (l.map fun c => pc ++ [c]) := fun l => by
    unfold wsV
    rw [List.map_map]
    rfl
  have rsl := cost_len M rest
  refine ⟨_, rfl, .inl ⟨rfl, _, SqL.of ha6⟩, _, rfl, lt, _, rfl, SqL.of hlt, fun rv hrv => ⟨rv, rfl, ⟨_, SqL.of upd_same⟩, fun D hD => ?_⟩⟩
  have sr := same_upd (o := .lst (sgs (z.filter kpc)).reverse) hrv
  have gr : (upd Hx rv (.lst (sgs (z.filter kpc)).reverse)) rv = some (.lst (sgs (z.filter kpc).reverse)) := by rw [upd_same]; congr 2; exact (List.map_reverse).symm
  have kp7 := kp6.same sr
  have ha7 := sr _ _ ha6
  have hw7 := sr _ _ hw6
  have ht7 := sr _ _ ht6
  have pw7 := paired_mono (fun _ _ h => RwT.same sr h) pw6
  have pt7 := paired_mono (fun _ _ h => TkT.same sr h) pt6
  generalize upd Hx rv (.lst (sgs (z.filter kpc)).reverse) = Hy at sr gr kp7 ha7 hw7 ht7 pw7 pt7 hD ⊢
  refine lcF (walk_list (K := K) (a := rv) (xs := sgs (z.filter kpc).reverse)) yat (pr_sgs _) hD (fun H' s => SqL.of (s _ _ gr)) (by rw [List.length_reverse]; omega) (fun _ => true) (fun c => V.str (sw (pc ++ [c]))) (fun x c H' R N hm hx s k1 _ => ?_) (fun H' s hDH => ?_)
  · subst hx
    refine ⟨rfl, yes_ite ⟨_, rfl, _, rfl, sw pc, sw [c], rfl, rfl, by rw [sw_len, sw_len, sizeLine_eq]; simp; omega, ?_⟩⟩
    rw [sw_app]
    exact k1 rfl
  rw [filter_tt, eex] at hDH
  have ha8 := s _ _ ha7
  refine ⟨ah, D, _, _, rfl, rfl, ha8, hDH, ?_, ?_⟩
  · unfold wsV
    rw [List.length_map, List.length_map, List.length_map, List.length_reverse, List.length_reverse, sizeLine_eq]
    omega
  have kp8 := kp7.same s
  have tp : ∀ b us, H' b = some (.tup us) → (upd H' ah (.lst (wsV rest.reverse ++ wsV ((z.filter kpc).reverse.map fun c => pc ++ [c])))) b = some (.tup us) := fun b us h => by rw [upd_ne (ne_of h ha8 (by intro z; cases z))]; exact h
  have eah : wsV rest.reverse ++ wsV ((z.filter kpc).reverse.map fun c => pc ++ [c]) = wsV (M.ch pc ++ rest).reverse := by
    rw [hchM, List.reverse_append, ← List.map_reverse]
    unfold wsV
    rw [List.map_append]
  rw [eah] at tp ⊢
  have ecs : costS M (M.ch pc ++ rest) = costS M (M.ch pc) + costS M rest := by unfold costS; rw [List.map_append, List.sum_append]
  refine ⟨⟨⟨_, _, _, _, _, _, _, _, _, _, _, _, _, _, _, rfl⟩, kp8.put hah5 _, went ++ [(pc, cv, cf)], taken, M.ch pc ++ rest, wvs ++ [.ref u], tvs', by rw [upd_ne nwa]; exact s _ _ hw7, paired_mono (fun _ _ h => RwT.tup tp (RwT.same s h)) pw7, by rw [upd_ne nta]; exact s _ _ ht7, paired_mono (fun _ _ h => let ⟨b, e, h⟩ := TkT.same s h; ⟨b, e, tp _ _ h⟩) pt7, upd_same, ?_, ?_, ?_⟩, ?_⟩
  · rw [← eq, trS_cons, trS_app, hon', ← seqR_assoc, ← seqR_assoc, ← seqR_assoc]
    congr 2
    simp [seqR]
  · intro x hx
    rcases List.mem_append.mp hx with hx | hx
    · exact (hMo.ch pc x hx).1
    · exact sin x (List.mem_cons_of_mem _ hx)
  · rw [ecs, List.length_append]
    show went.length + 1 + _ + _ ≤ 6000
    omega
  · show costL M ah _ < _
    rw [costL_at (st := M.ch pc ++ rest) upd_same, ecs]
    omega
end
end Toy
set_option Elab.async false
set_option linter.all false
set_option maxRecDepth 100000
set_option maxHeartbeats 4000000
namespace Toy
open PySem L2 Sh ShL LamX NdefX
/-! ### making a tree of right rows -/
theorem some_inj {α : Type} : ∀ {xs ys : List α}, xs.map some = ys.map some → xs = ys
  | [], [], _ => rfl
  | [], _ :: _, h => by cases h
  | _ :: _, [], h => by cases h
  | x :: xs, y :: ys, h => by
    rw [List.map_cons, List.map_cons, List.cons.injEq] at h
    rw [Option.some.inj h.1, some_inj h.2]
theorem fineR_inj {us vs : List Rw} (h : FineR (us.map some) vs) : vs = us := (some_inj h.1).symm
theorem wrongR_no {us : List Rw} (nd : (us.map (·.1)).Nodup) {i : Nat} (h : WrongR (us.map some) i) : False := by
  obtain ⟨o, vs, h1, h2, h3⟩ := h
  rw [List.getElem?_map] at h1
  obtain ⟨r, hr, rfl⟩ := Option.map_eq_some_iff.mp h1
  rcases h3 with h3 | ⟨r', e, h3⟩
  · cases h3
  cases e
  have e : us.take i = vs := some_inj (by rw [List.map_take]; exact h2.1)
  rw [← e, List.map_take] at h3
  exact nd_take nd (by rw [List.getElem?_map, hr]; rfl) h3
theorem lone_of_par {z : Wd} {us : List Rw} (h : ∀ p ∈ us.map (·.1), p.dropLast ∈ us.map (·.1)) : loneP z us = none :=
  List.find?_eq_none.mpr fun q hq => by
    have := h q (ordW_mem.mp hq)
    intro e
    exact (of_decide_eq_true e).2 this
theorem rowO_of {H : Hp} {z : Wd} : ∀ {xs : List V} {us : List Rw}, Paired (RwE H) xs us → (∀ r ∈ us, RwOk z r) → Paired (RowO H z) xs (us.map some)
  | _, _, .nil, _ => .nil
  | _, _, .cons h t, ok => .cons ⟨h, ok _ List.mem_cons_self⟩ (rowO_of t fun r hr => ok r (List.mem_cons_of_mem _ hr))
theorem mk_treeG {T : List (Addr × Str)} {C CL CM CR CN : Addr} {H : Hp} {z : Wd} {a : Addr} {xs : List V} {os : List (Option Rw)} {Q : VK} {E : XK} (hz : LetOk z) (ha : SqA H a xs) (hl : xs.length ≤ 20000) (tb : Tabs T H)
    (pr : 1 ≤ xs.length → xs.length ≤ 2000 → Paired (RowO H z) xs os)
    (q2 : ¬ (1 ≤ xs.length ∧ xs.length ≤ 2000) → ∀ H' d, Sm T H H' → H' d = some (exd d [("most", .int 2000), ("many", .int (xs.length : Nat)), ("what", .str "places")]) → E (.ref CM) (some d) H')
    (q3 : 1 ≤ xs.length → xs.length ≤ 2000 → ∀ i, WrongR os i → ∀ H' d, Sm T H H' → H' d = some (exd d [("number", .int (i : Nat))]) → E (.ref CR) (some d) H')
    (q4 : 1 ≤ xs.length → xs.length ≤ 2000 → ∀ us p, FineR os us → loneP z us = some p → ∀ H' d, Sm T H H' → H' d = some (exd d [("place", .str (sw p))]) → E (.ref CN) (some d) H')
    (q5 : 1 ≤ xs.length → xs.length ≤ 2000 → ∀ us rs, FineR os us → loneP z us = none → us.Perm rs → rs.map (·.1) = ordW z (us.map (·.1)) → ∀ H' o, Sm T H H' → TreeAt C H' o z rs → Q (.ref o) H') :
    ∀ x dx, H x = none → H dx = none → dx ≠ x → spInit T C CL CM CR CN (.ref x :: ([.str (sw z), .ref a] ++ [])) (upd (upd H dx (.own x)) x (.ins C dx [])) (fun v H2 => v = .non ∧ Q (.ref x) H2) E := by
  intro x dx hx hdx hne
  have s1 := same_upd (o := .own x) hdx
  have s2 : Same H (upd (upd H dx (.own x)) x (.ins C dx [])) := same_of_new s1 hx
  have up : ∀ {H'}, SmK T x (upd (upd H dx (.own x)) x (.ins C dx [])) H' → Sm T H H' := fun k => ⟨fun b u hb nt => k.1 b u (s2 _ _ hb) nt (ne_of_none hb hx), k.2⟩
  exact ⟨x, dx, a, _, xs, true, z, os, rfl, upd_same, .inl ⟨z, rfl, by have := hz.l26; omega, (decide_eq_true hz).symm⟩, ha.kp (kpS_same s2), hl, tb.ext s2, fun _ l1 l2 => ⟨rfl, paired_mono (fun v o h => RowO.kp (kpS_same s2) h) (pr l1 l2)⟩, (fun e => nomatch e),
    fun _ h H' d k e => q2 h H' d (up k) e, fun _ l1 l2 i w H' d k e => q3 l1 l2 i w H' d (up k) e, fun _ l1 l2 us p f l H' d k e => q4 l1 l2 us p f l H' d (up k) e, fun _ l1 l2 us rs f l pm od H' k t => ⟨rfl, q5 l1 l2 us rs f l pm od H' x (up k) t⟩⟩
theorem mk_tree0 {T : List (Addr × Str)} {C CL CM CR CN : Addr} {H : Hp} {z : Wd} {a : Addr} {xs : List V} {us : List Rw} {Q : VK} {E : XK} (hz : LetOk z) (ha : H a = some (.lst xs)) (tb : Tabs T H) (pr : Paired (RwT H) xs us) (ok : ∀ r ∈ us, RwOk z r) (nd : (us.map (·.1)).Nodup) (par : ∀ p ∈ us.map (·.1), p.dropLast ∈ us.map (·.1)) (h1 : 1 ≤ us.length) (h2 : us.length ≤ 2000)
    (q : ∀ rs, us.Perm rs → rs.map (·.1) = ordW z (us.map (·.1)) → ∀ H' o, Sm T H H' → TreeAt C H' o z rs → Q (.ref o) H') :
    ∀ x dx, H x = none → H dx = none → dx ≠ x → spInit T C CL CM CR CN (.ref x :: ([.str (sw z), .ref a] ++ [])) (upd (upd H dx (.own x)) x (.ins C dx [])) (fun v H2 => v = .non ∧ Q (.ref x) H2) E := by
  have xl : xs.length = us.length := pr.length
  refine mk_treeG (os := us.map some) hz (.inl ha) (by omega) tb (fun _ _ => rowO_of (paired_mono (fun _ _ h => RwT.e h) pr) ok) (fun hn => absurd ⟨by omega, by omega⟩ hn) (fun _ _ i w => (wrongR_no nd w).elim) (fun _ _ vs p f l => ?_) (fun _ _ vs rs f _ pm od H' o sm t => ?_)
  · rw [fineR_inj f, lone_of_par par] at l
    cases l
  · have e := fineR_inj f
    subst e
    exact q rs pm od H' o sm t
theorem tree_mk {T : List (Addr × Str)} {C CL CM CR CN : Addr} {targs : TA} {σ : L2.St} {H : Hp} {Q : VK} {E : XK} {z : Wd} (hz : LetOk z)
    (hargs : ∀ R : List V → Hp → Prop, (∀ (H2 : Hp) (a : Addr) (xs : List V) (us : List Rw), H2 a = some (.lst xs) → Tabs T H2 → Paired (RwT H2) xs us → (∀ r ∈ us, RwOk z r) → (us.map (·.1)).Nodup → (∀ p ∈ us.map (·.1), p.dropLast ∈ us.map (·.1)) → 1 ≤ us.length → us.length ≤ 2000 →
      (∀ rs, us.Perm rs → rs.map (·.1) = ordW z (us.map (·.1)) → ∀ H' o, Sm T H2 H' → TreeAt C H' o z rs → Q (.ref o) H') → R [.str (sw z), .ref a] H2) → targs σ H R) :
    tMake C (spInit T C CL CM CR CN) [] E targs σ H Q :=
  hargs _ fun H2 a xs us ha tb pr ok nd par h1 h2 q => mk_tree0 hz ha tb pr ok nd par h1 h2 q

theorem kW_lt {z : Wd} : ∀ {p : Wd}, p ≠ [] → kW z p.dropLast ≤ kW z p := by
  intro p hp
  have e := List.dropLast_concat_getLast hp
  conv => rhs; rw [← e]
  unfold kW
  rw [List.map_append]
  have : ∀ a b : List Int, a ≤ a ++ b := fun a b => by
    induction a with
    | nil => exact List.nil_le _
    | cons x a ih => exact List.cons_le_cons_iff.mpr (.inr ⟨rfl, ih⟩)
  exact this _ _
/-- sorted rows, closed: a tree -/
theorem trok_of {z : Wd} {us rs : List Rw} (wd : ∀ r ∈ us, ∀ c ∈ r.1, c ∈ z) (l2 : ∀ r ∈ us, r.1.length ≤ 200) (nd : (us.map (·.1)).Nodup) (root : [] ∈ us.map (·.1)) (par : ∀ p ∈ us.map (·.1), p.dropLast ∈ us.map (·.1)) (len : us.length ≤ 2000) (pm : us.Perm rs) (od : rs.map (·.1) = ordW z (us.map (·.1))) : TrOk z rs := by
  have pmm := pm.map (·.1)
  have nd' := pmm.nodup_iff.mp nd
  have par' : ∀ p ∈ rs.map (·.1), p.dropLast ∈ rs.map (·.1) := fun p hp => pmm.mem_iff.mp (par p (pmm.mem_iff.mpr hp))
  have wd' : ∀ p ∈ rs.map (·.1), ∀ c ∈ p, c ∈ z := fun p hp c hc => by
    obtain ⟨r, hr, rfl⟩ := List.mem_map.mp hp
    exact wd r (pm.mem_iff.mpr hr) c hc
  have srt : (rs.map (·.1)).Pairwise fun p q => kW z p ≤ kW z q := by
    rw [od]
    exact ordW_sorted z _
  refine ⟨nd', pmm.mem_iff.mp root, fun p hp n => ?_, wd', fun p hp => ?_, fun i r hi h0 => ?_, by rw [← pm.length_eq]; exact len, ?_⟩
  · have key : ∀ k (p : Wd), p ∈ rs.map (·.1) → p.take (p.length - k) ∈ rs.map (·.1) := by
      intro k
      induction k with
      | zero => intro p hp; rw [Nat.sub_zero, List.take_length]; exact hp
      | succ k ih =>
        intro p hp
        have := par' _ (ih p hp)
        rw [List.dropLast_eq_take, List.length_take, List.take_take] at this
        rw [show min (min (p.length - k) p.length - 1) (p.length - k) = p.length - (k + 1) by omega] at this
        exact this
    by_cases hn : n ≤ p.length
    · have := key (p.length - n) p hp
      rw [show p.length - (p.length - n) = n by omega] at this
      exact this
    · rw [List.take_of_length_le (by omega)]
      exact hp
  · obtain ⟨r, hr, rfl⟩ := List.mem_map.mp hp
    exact l2 r (pm.mem_iff.mpr hr)
  · have hri : (rs.map (·.1))[i]? = some r.1 := by rw [List.getElem?_map, hi]; rfl
    have hp := par' r.1 (List.mem_of_getElem? hri)
    obtain ⟨j, hj⟩ := List.mem_iff_getElem?.mp hp
    have ij : j < i := by
      refine Decidable.byContradiction fun hn => ?_
      have hl : (r.1.dropLast).length < r.1.length := by
        rw [List.length_dropLast]
        have := List.length_pos_iff.mpr h0
        omega
      by_cases e : i = j
      · subst e
        rw [hri] at hj
        have := Option.some.inj hj
        rw [← this] at hl
        omega
      · have il := (List.getElem?_eq_some_iff.mp hri)
        have jl := (List.getElem?_eq_some_iff.mp hj)
        have hle := (List.pairwise_iff_getElem.mp srt) i j il.1 jl.1 (by omega)
        rw [il.2, jl.2] at hle
        have h2 := kW_lt (z := z) h0
        have heq := Std.le_antisymm h2 hle
        have := congrArg List.length heq
        unfold kW at this
        rw [List.length_map, List.length_map] at this
        omega
    rw [List.map_take]
    refine List.mem_iff_getElem?.mpr ⟨j, ?_⟩
    rw [List.getElem?_take, if_pos ij]
    exact hj
  · have : (rs.map (·.1)) = ordW z (rs.map (·.1)) := by
      conv => lhs; rw [od]
      exact ordW_uniq pmm fun p hp c hc => by
        obtain ⟨r, hr, rfl⟩ := List.mem_map.mp hp
        exact wd r hr c hc
    exact this
/-! heads, one step inside -/
theorem asgI {te : TE} {g : TG} {u : TS} {D : Ends} {σ : L2.St} {H : Hp} (h : te σ H fun v H1 => g v σ H1 (u D)) : tSeq (tAsg te g) u D σ H := h
theorem asgE {te : TE} {g : TG} {D : Ends} {σ : L2.St} {H : Hp} (h : te σ H fun v H1 => g v σ H1 D.nx) : tAsg te g D σ H := h
theorem opI {r : R2} {ta tb : TE} {σ : L2.St} {H : Hp} {Q : VK} (h : ta σ H fun x H1 => tb σ H1 fun y H2 => r x y H2 Q) : tOp r ta tb σ H Q := h
theorem consI {te : TE} {ts : TA} {σ : L2.St} {H : Hp} {k : List V → Hp → Prop} (h : te σ H fun v H1 => ts σ H1 fun vs H2 => k (v :: vs) H2) : tCons te ts σ H k := h
theorem retE {te : TE} {D : Ends} {σ : L2.St} {H : Hp} (h : te σ H D.rt) : tRet te D σ H := h
theorem makeI {C : Addr} {sp : Sp} {dvs : List V} {E : XK} {t : TA} {σ : L2.St} {H : Hp} {Q : VK} (h : t σ H fun vs H1 => ∀ x dx, H1 x = none → H1 dx = none → dx ≠ x → sp (.ref x :: (vs ++ dvs)) (upd (upd H1 dx (.own x)) x (.ins C dx [])) (fun v H2 => v = .non ∧ Q (.ref x) H2) E) : tMake C sp dvs E t σ H Q := h
theorem callI {sp : Sp} {dvs : List V} {E : XK} {t : TA} {σ : L2.St} {H : Hp} {Q : VK} (h : t σ H fun vs H1 => sp (vs ++ dvs) H1 Q E) : tCall sp dvs E t σ H Q := h
end Toy
set_option Elab.async false
set_option linter.all false
set_option maxRecDepth 100000
set_option maxHeartbeats 4000000
namespace Toy
open PySem L2 Sh ShL LamX NdefX
/-! ### merged -/
def tkS (K : List Tk) : List (List Str) := K.map fun t => [sw t.1, sideS t.2]
def spMergedF (P : Program) (w : World) (K : PySem.W.Frag) (T : List (Addr × Str)) (C CT CM CC : Addr) : Sp := fun vs H Q _ => ∃ (p a b c : Addr) (pl : Pl) (z : Wd) (r0 r1 r2 : List Rw), vs = [.ref p, .ref a, .ref b, .ref c] ∧ PlanAt P w K C H p pl ∧
  TreeAt CT H a z r0 ∧ TreeAt CT H b z r1 ∧ TreeAt CT H c z r2 ∧ TrOk z r0 ∧ TrOk z r1 ∧ TrOk z r2 ∧ LetOk z ∧ (∀ r ∈ r0 ++ (r1 ++ r2), RwOk z r) ∧ r0.length + 2 * (r1.length + r2.length) ≤ 2000 ∧ Tabs T H ∧
  ∀ H' o dx ps, Sm T H H' → Three z ps r0 r1 r2 →
    (∀ q, trP (mgOf pl z ps r0 r1 r2) [] = .error q → H' o = some (.ins CC dx (putF "place" (.str (sw q)) [])) → Q (.ref o) H') ∧
    (∀ W Kt t u rs, trP (mgOf pl z ps r0 r1 r2) [] = .ok (W, Kt) → (finR pl W Kt r1 r2).Perm rs → rs.map (·.1) = ordW z ((finR pl W Kt r1 r2).map (·.1)) → TreeAt CT H' t z rs → H' o = some (.ins CM dx (putF "taken" u (putF "tree" (.ref t) []))) → TkR H' u (tkS Kt) → Q (.ref o) H')
theorem cost_ok {M : Mg} {U : List Wd} (ok : MgOk M U) : ∀ (n : Nat) (p : Wd), p ∈ U → 201 - p.length ≤ n → ∀ W K, trP M p = .ok (W, K) → W.length + K.length ≤ costP M p := by
  intro n
  induction n with
  | zero => intro p hp hn; have := ok.l200 p hp; omega
  | succ n ih =>
    intro p hp hn W K e
    have l2 := ok.l200 p hp
    have cp := cost_pos M p
    by_cases h1 : M.way p = .clash
    · rw [trP_clash h1] at e; cases e
    by_cases h2 : M.way p = .one
    · rw [trP_one h2] at e
      cases e
      exact cp
    by_cases h3 : M.way p = .other
    · rw [trP_other h3] at e
      cases e
      exact cp
    by_cases h4 : M.way p = .on
    · cases hc : M.cell p with
      | none => rw [trP_bad h4 hc] at e; cases e
      | some c =>
        rw [trP_on ok l2 h4 hc] at e
        rw [costP_eq ok l2]
        have list : ∀ (qs : List Wd), (∀ q ∈ qs, q ∈ M.ch p) → ∀ W K, trS M qs = .ok (W, K) → W.length + K.length ≤ costS M qs := by
          intro qs
          induction qs with
          | nil =>
            intro _ W K e
            cases e
            exact Nat.le_refl _
          | cons q qs ih2 =>
            intro hq W K e
            rw [trS_cons] at e
            have hqm := hq q List.mem_cons_self
            cases e1 : trP M q with
            | error x => rw [e1] at e; cases e
            | ok a =>
              cases e2 : trS M qs with
              | error x => rw [e1, e2] at e; cases e
              | ok b =>
                rw [e1, e2] at e
                cases e
                have f1 := ih q (ok.ch p q hqm).1 (by have := ok.len hqm; omega) a.1 a.2 e1
                have f2 := ih2 (fun x hx => hq x (List.mem_cons_of_mem _ hx)) b.1 b.2 e2
                show (a.1 ++ b.1).length + (a.2 ++ b.2).length ≤ costP M q + costS M qs
                rw [List.length_append, List.length_append]
                omega
        cases e2 : trS M (M.ch p) with
        | error x => rw [e2] at e; cases e
        | ok b =>
          rw [e2] at e
          cases e
          have := list _ (fun _ h => h) b.1 b.2 e2
          show ([(p, c)] ++ b.1).length + ([] ++ b.2).length ≤ _
          rw [List.length_append, List.nil_append]
          show 1 + b.1.length + b.2.length ≤ _
          omega
    · rw [trP_none h1 h2 h3 h4] at e
      cases e
      exact Nat.zero_le _
theorem all_len {z : Wd} {ps : List Prt} {r0 r1 r2 : List Rw} : (allP r0 r1 r2).length = r0.length + (r1.length + r2.length) := by
  unfold allP
  rw [List.length_append, List.length_append, List.length_map, List.length_map, List.length_map]
theorem fin_len {pl : Pl} {W : List Rw} {K : List Tk} {r1 r2 : List Rw} : (finR pl W K r1 r2).length ≤ W.length + (r1.length + r2.length) := by
  unfold finR
  rw [List.length_append, List.length_append]
  have h1 := (left_sub pl W.reverse (cnt0 K)).length_le
  unfold plW at h1
  rw [List.length_map, List.length_map, List.length_reverse] at h1
  have h2 := List.length_filter_le (fun r : Rw => inT (sdK true K) r.1) r1
  have h3 := List.length_filter_le (fun r : Rw => inT (sdK false K) r.1) r2
  omega
theorem TreeAt.mono1 {C : Addr} {H H' : Hp} {o : Addr} {z : Wd} {rs : List Rw} (h : TreeAt C H o z rs) (k1 : ∀ C dx fs, H o = some (.ins C dx fs) → H' o = some (.ins C dx fs)) (k2 : ∀ b xs, H b = some (.tup xs) → H' b = some (.tup xs))
    (k3 : ∀ b l, [] ∈ l.map (·.1) → H b = some (.dK (kdl l)) → H' b = some (.dK (kdl l))) : TreeAt C H' o z rs := by
  obtain ⟨dx, t, d, e, m, vs, us, h1, h2, h3, h4, h5, h6, h7⟩ := h.ex
  have f : ∀ v r, RwT H v r → RwT H' v r := fun v r ⟨a, e, q⟩ => ⟨a, e, k2 _ _ q⟩
  exact ⟨h.root, h.low, dx, t, d, e, m, vs, us, k1 _ _ _ h1, k2 _ _ h2, paired_mono f h3, tri_mono ((h5.map _).mem_iff.mpr h.root) (k3 d) f h4, h5, k3 _ _ (by rw [wayl_fst]; exact h.root) h6, h7⟩
theorem tabs_kpI {T : List (Addr × Str)} {H H' : Hp} {x C dx : Addr} {fs : List (Str × V)} (t : Tabs T H) (hx : H x = some (.ins C dx fs)) (s : Kp x H H') : Tabs T H' := fun p hp => by
  obtain ⟨ps, h1, h2, h3⟩ := t p hp
  refine ⟨ps, s _ _ h1 (ne_of h1 hx (by intro z; cases z)), h2, fun pos cv hc => ?_⟩
  obtain ⟨c, e1, e2⟩ := h3 pos cv hc
  exact ⟨c, e1, s _ _ e2 (ne_of e2 hx (by intro z; unfold CodeO at z; cases z))⟩
section
variable {P : Program} {w : World} {K : PySem.W.Frag} {mg : Str → Option Value} {base : Heap}
theorem ok_merged (T : Tx P K mg) (B : Bx T base) : FnOk P w K mg base CX0 8 T.a_merged T.fd_merged ["plan", "base", "one", "other"] (spMergedF P w K (tabs T) T.c_Plan T.c_Tree T.c_Merged T.c_Clash) := by
  refine okT T.F_merged sc_merged (fun vs H Q E h => ?_) (fun cdv A outer s H vs Q E hcd hr h => ?_)
  · obtain ⟨p, a, b, c, pl, z, r0, r1, r2, rfl, _⟩ := h
    rfl
  have hu := hu_of hr
  have hu65 := hu65_of hr
  obtain ⟨p, a, b, c, pl, z, r0, r1, r2, rfl, hP, x0, x1, x2, t0, t1, t2, lz, rok, len, tb, q⟩ := h
  refine ⟨_, (pss_cons (ps_expr (pe_call (ok_check_letters (w := w) T B) (hr.mono (by decide)) (by rfl) T.m_check_letters T.F_check_letters.kp T.bi_check_letters .nil pass0 (pa_cons (pv 1) (pa_cons (pv 2) (pa_cons (pv 3) pa_nil)))))
 (pss_cons (ps_asg (pe_call (ok_merge_part (w := w) T B) (hr.mono (by decide)) (by rfl) T.m_merge_part T.F_merge_part.kp T.bi_merge_part .nil pass0 (pa_cons (pv 0) (pa_cons (pe_lst (pa_cons (pv 1) (pa_cons (pv 2) (pa_cons (pv 3) pa_nil)))) (pa_cons pe_str pa_nil)))) (pg_tup rfl (pgs_cons (pg_name (i := 4) sc_merged.nd rfl (by first | exact Or.inl rfl | exact Or.inr rfl)) (pgs_cons (pg_name (i := 5) sc_merged.nd rfl (by first | exact Or.inl rfl | exact Or.inr rfl)) (pgs_cons (pg_name (i := 6) sc_merged.nd rfl (by first | exact Or.inl rfl | exact Or.inr rfl)) pgs_nil)))))
 (pss_cons (ps_if (pt_cmpR op_notN (pv 4) pe_non (nomark _))
 (pss_one (ps_ret (pe_make T.mk_Clash (ok_Clash_init (w := w) T B) (hr.mono (by decide)) (by rfl) T.m_Clash T.bi_Clash_init .nil pass0 (pa_cons (pv 4) pa_nil))))
 pss_nil)
 (pss_one (ps_ret (pe_make T.mk_Merged (ok_Merged_init (w := w) T B) (hr.mono (by decide)) (by rfl) T.m_Merged T.bi_Merged_init .nil pass0 (pa_cons (pe_make (E := fun _ _ _ => False) T.mk_Tree (ok_Tree_init (w := w) T B) (hr.mono (by decide)) (by rfl) T.m_Tree T.bi_Tree_init .nil (passes_call LamX.takes0 (fun _ _ _ _ h => h)) (pa_cons (pe_fld (pv 1) rfl) (pa_cons (pv 5) pa_nil))) (pa_cons (pv 6) pa_nil)))))))), ?_⟩
  refine ⟨_, rfl, _, rfl, _, rfl, a, b, c, z, r0, r1, r2, rfl, x0, x1, x2, ?_⟩
  refine ⟨_, rfl, _, rfl, _, rfl, _, rfl, by show 3 ≤ sizeLine; decide, fun l hl => ?_⟩
  have s1 := same_upd (o := .lst [V.ref a, .ref b, .ref c]) hl
  have g1 : (upd H l (.lst [V.ref a, .ref b, .ref c])) l = some (.lst [V.ref a, .ref b, .ref c]) := upd_same
  generalize upd H l (.lst [V.ref a, .ref b, .ref c]) = H1 at s1 g1
  have hroot : [] ∈ allP r0 r1 r2 := mem_all.mpr (.inl t0.root)
  refine ⟨p, l, a, b, c, pl, z, [], r0, r1, r2, by rw [mt_eq]; rfl, hP.same s1, g1, x0.same s1, x1.same s1, x2.same s1, t0, t1, t2, lz.nd, lz.l26, hroot, fun H2 t ps s2 th => ⟨fun q' e l1 l2 ht h1 h2 => ?_, fun W Kt e l1 l2 vs ts ht h1 pv h2 pt => ?_⟩⟩
  · refine ⟨t, _, rfl, SqT.of ht, rfl, _, _, rfl, _, _, rfl, _, _, rfl, rfl, ?_⟩
    refine ⟨_, rfl, rfl, _, rfl, ?_⟩
    refine iteN (fun _ => ?_) (fun h => by cases h)
    refine ⟨_, rfl, fun x dx hx hdx hne => ?_⟩
    have s3 := same_upd (o := .own x) hdx
    have s4 : Same H2 (upd (upd H2 dx (.own x)) x (.ins T.c_Clash dx [])) := same_of_new s3 hx
    have hx0 : H x = none := (s1.trans s2).free hx
    refine ⟨x, dx, sw q', rfl, upd_same, fun H3 k3 h3 => ⟨rfl, ?_⟩⟩
    have sA : Same H H3 := fun b o hb => k3 _ _ (s4 _ _ (s2 _ _ (s1 _ _ hb))) (ne_of_none hb hx0)
    exact (q H3 x dx ps (Sm.of tb sA) th).1 q' e h3
  · refine ⟨t, _, rfl, SqT.of ht, rfl, _, _, rfl, _, _, rfl, _, _, rfl, rfl, ?_⟩
    refine ⟨_, rfl, rfl, _, rfl, ?_⟩
    refine iteN (fun h => absurd rfl h) (fun _ => ?_)
    refine nextS ?_
    have sB := s1.trans s2
    have f := fine_of (mg_ok th) _ [] hroot (Nat.le_refl _) W Kt e
    have wk := cost_ok (mg_ok th) _ [] hroot (Nat.le_refl _) W Kt e
    have cr := cost_root (mg_ok (pl := pl) th) hroot
    have al : (allP r0 r1 r2).length = r0.length + (r1.length + r2.length) := all_len (z := z) (ps := ps)
    have fl : (finR pl W Kt r1 r2).length ≤ 2000 := by
      have := fin_len (pl := pl) (W := W) (K := Kt) (r1 := r1) (r2 := r2)
      omega
    have froot := fin_root th f
    have frow := fin_row f
    have fok : ∀ r ∈ finR pl W Kt r1 r2, RwOk z r := fun r hr => by
      obtain ⟨h1, h2⟩ := frow r hr
      obtain ⟨y, hy, ey⟩ : ∃ y ∈ r0 ++ (r1 ++ r2), y.1 = r.1 := by
        rcases mem_all.mp h1 with h | h | h
        · obtain ⟨y, hy, e⟩ := List.mem_map.mp h
          exact ⟨y, List.mem_append_left _ hy, e⟩
        · obtain ⟨y, hy, e⟩ := List.mem_map.mp h
          exact ⟨y, List.mem_append_right _ (List.mem_append_left _ hy), e⟩
        · obtain ⟨y, hy, e⟩ := List.mem_map.mp h
          exact ⟨y, List.mem_append_right _ (List.mem_append_right _ hy), e⟩
      have oy := rok y hy
      refine ⟨by rw [← ey]; exact oy.wd, by rw [← ey]; exact oy.l200, fun i hi => ?_⟩
      rcases h2 with h2 | ⟨y', hy', e'⟩
      · rw [h2] at hi; cases hi
      · exact (rok y' hy').vl i (by rw [e']; exact hi)
    obtain ⟨dxa, _, _, _, _, _, _, y1, _⟩ := (x0.same sB).ex
    have fpos : 1 ≤ (finR pl W Kt r1 r2).length := by
      have := List.length_pos_of_mem froot
      unfold plW at this
      rw [List.length_map] at this
      exact this
    dsimp only
    refine retE (makeI (consI (tree_mk (z := z) lz fun R hR => ?_)))
    refine ⟨_, rfl, a, _, dxa, _, _, rfl, y1, T.cl_Tree, T.na_Tree_letters, tf_letters, _, rfl, ?_⟩
    refine hR H2 l1 vs (finR pl W Kt r1 r2) h1 (tb.ext sB) pv fok (fin_nd f t1.nd t2.nd) (fin_par th f) fpos fl fun rs pm od H3 o sm ho => ?_
    have h23 := sm.get h2 (by intro ps z; cases z)
    have ht3 : ∀ {b us}, H2 b = some (.tup us) → H3 b = some (.tup us) := fun h => sm.get h (by intro ps z; cases z)
    have pt3 : Paired (TkT H3) ts Kt := paired_mono (fun _ _ ⟨b, e, h⟩ => ⟨b, e, ht3 h⟩) pt
    refine ⟨_, rfl, fun x dx hx hdx hne => ?_⟩
    have s3 := same_upd (o := .own x) hdx
    have s4 : Same H3 (upd (upd H3 dx (.own x)) x (.ins T.c_Merged dx [])) := same_of_new s3 hx
    obtain ⟨dxo, _, _, _, _, _, _, z1, _⟩ := ho.ex
    have nox : o ≠ x := ne_of_none z1 hx
    refine ⟨x, dx, o, l2, tkS Kt, rfl, upd_same, ?_, ?_, fun H4 u k4 h4 hu4 => ⟨rfl, ?_⟩⟩
    · exact ⟨.ref T.c_Tree, fun H' s' => .base (.ins (s' _ _ (s4 _ _ z1)) T.cl_Tree T.ca_Tree T.o_get T.o_tk T.ob_Tree), kitAny_cons (b := false) T.kl_Tree (fun _ => kitAny_cons (b := false) T.kt_Tree (fun _ => rfl) fun z => nomatch z) fun z => nomatch z⟩
    · refine ⟨l2, ts, rfl, .inl (s4 _ _ h23), ?_, by unfold tkS; rw [List.length_map]; omega⟩
      unfold tkS
      refine paired_map (fun v t ⟨b, e, h⟩ => ?_) pt3
      exact ⟨b, _, e, .inr (s4 _ _ h), .cons rfl (.cons rfl .nil), by show 2 ≤ 9000; omega⟩
    · have smx : Sm (tabs T) H H4 := by
        have a1 : Sm (tabs T) H H3 := (Sm.of tb sB).trans sm
        refine ⟨fun b o' hb nt => ?_, ?_⟩
        · have := s4 _ _ (a1.get hb nt)
          exact k4 _ _ this (ne_of_none (a1.get hb nt) hx)
        · exact tabs_kpI (a1.2.ext s4) upd_same k4
      have to : TreeAt T.c_Tree H4 o z rs := by
        have := ho.same s4
        exact this.mono1 (fun C dx' fs h => k4 _ _ h nox) (fun b xs h => k4 _ _ h (ne_of h upd_same (by intro z; cases z))) (fun b l _ h => k4 _ _ h (ne_of h upd_same (by intro z; cases z)))
      exact (q H4 x dx ps smx th).2 W Kt o u rs e pm od to h4 hu4
end
end Toy
set_option Elab.async false
set_option linter.all false
set_option maxRecDepth 100000
set_option maxHeartbeats 4000000
namespace Toy
open PySem L2 Sh ShL LamX NdefX
/-! ### the law's letters and cells -/
theorem letok_dec {z : Wd} (h : (decide (2 ≤ z.length) && decide (z.length ≤ 26) && decide z.Nodup && z.all (fun c => decide (c ∈ small))) = true) : LetOk z := by
  simp only [Bool.and_eq_true, decide_eq_true_eq, List.all_eq_true] at h
  exact ⟨h.1.1.1, h.1.1.2, h.1.2, h.2⟩
def spLettersD : Sp := fun vs H Q _ => ∃ (d c : Addr) (n : Nat), vs = [.ref d] ∧ Pen H d c n ∧ n ≤ 90000 ∧ ∀ H' z, LetOk z → Kp d H H' → Pen H' d c (n + 1) → Q (.str (sw z)) H'
def ClOk (c : Cl) : Prop := ∀ i, c.1 = some i → 1 ≤ i ∧ i ≤ 9
def spCellD : Sp := fun vs H Q _ => ∃ (d c : Addr) (n : Nat), vs = [.ref d] ∧ Pen H d c n ∧ n ≤ 90000 ∧ ∀ H' v k, IsC H' v (some k) → ClOk k → Kp d H H' → Pen H' d c (n + 3) → Q v H'
section
variable {P : Program} {w : World} {K : PySem.W.Frag} {mg : Str → Option Value} {base : Heap}
theorem ok_l_letters (T : Tx P K mg) (B : Bx T base) : FnOk P w K mg base CX0 3 T.a_l_letters T.fd_l_letters ["_law_pen"] spLettersD := by
  refine okT T.F_l_letters sc_l_letters (fun vs H Q E h => ?_) (fun cdv A outer s H vs Q E hcd hr h => ?_)
  · obtain ⟨d, c, n, rfl, _⟩ := h
    rfl
  have hu := hu_of hr
  have hu65 := hu65_of hr
  obtain ⟨d, c, n, rfl, hp, hn, q⟩ := h
  refine ⟨_, (pss_one (ps_ret (pe_call (ok_l_pick (w := w) T B) (hr.mono (by decide)) (by rfl) T.m_l_pick T.F_l_pick.kp T.bi_l_pick .nil pass0 (pa_cons (pv 0) (pa_cons (pe_lst (pa_cons pe_str (pa_cons pe_str (pa_cons pe_str (pa_cons pe_str (pa_cons pe_str (pa_cons pe_str (pa_cons pe_str (pa_cons pe_str pa_nil))))))))) pa_nil))))), ?_⟩
  refine ⟨_, rfl, by show 8 ≤ sizeLine; decide, fun a ha => .inl ?_⟩
  have s1 := same_upd (o := .lst [V.str "ab", .str "ba", .str "abc", .str "cab", .str "zyx", .str "bcda", .str "qwertyuiopasdfghjklzxcvbnm", .str "ca"]) ha
  have nad : a ≠ d := by
    obtain ⟨kvs, hd⟩ := hp.at
    exact (ne_of_none hd ha).symm
  refine ⟨d, c, a, n, _, rfl, hp.same s1, by omega, SqL.of upd_same, by show 0 < 8; decide, by show 8 ≤ 1000; decide, nad, fun H' x hx kp p => ?_⟩
  have kp := (Same.kp s1).trans kp
  simp only [List.mem_cons, List.not_mem_nil, or_false] at hx
  have fin : ∀ (z : Wd) (y : Str), y = sw z → x = .str y → LetOk z → Q x H' := fun z y e1 e2 lz => by
    rw [e2, e1]
    exact q H' z lz kp p
  rcases hx with h | h | h | h | h | h | h | h
  · exact fin [97, 98] _ (by decide +kernel) h (letok_dec (by decide +kernel))
  · exact fin [98, 97] _ (by decide +kernel) h (letok_dec (by decide +kernel))
  · exact fin [97, 98, 99] _ (by decide +kernel) h (letok_dec (by decide +kernel))
  · exact fin [99, 97, 98] _ (by decide +kernel) h (letok_dec (by decide +kernel))
  · exact fin [122, 121, 120] _ (by decide +kernel) h (letok_dec (by decide +kernel))
  · exact fin [98, 99, 100, 97] _ (by decide +kernel) h (letok_dec (by decide +kernel))
  · exact fin [113, 119, 101, 114, 116, 121, 117, 105, 111, 112, 97, 115, 100, 102, 103, 104, 106, 107, 108, 122, 120, 99, 118, 98, 110, 109] _ (by decide +kernel) h (letok_dec (by decide +kernel))
  · exact fin [99, 97] _ (by decide +kernel) h (letok_dec (by decide +kernel))
theorem ok_l_cell (T : Tx P K mg) (B : Bx T base) : FnOk P w K mg base CX0 3 T.a_l_cell T.fd_l_cell ["_law_pen"] spCellD := by
  refine okT T.F_l_cell sc_l_cell (fun vs H Q E h => ?_) (fun cdv A outer s H vs Q E hcd hr h => ?_)
  · obtain ⟨d, c, n, rfl, _⟩ := h
    rfl
  have hu := hu_of hr
  have hu65 := hu65_of hr
  obtain ⟨d, c, n, rfl, hp, hn, q⟩ := h
  refine ⟨_, (pss_cons (ps_set (i := 1) sc_l_cell.nd rfl (by first | exact Or.inl rfl | exact Or.inr rfl) (pe_call (ok_l_pick (w := w) T B) (hr.mono (by decide)) (by rfl) T.m_l_pick T.F_l_pick.kp T.bi_l_pick .nil pass0 (pa_cons (pv 0) (pa_cons (pe_lst (pa_cons pe_non (pa_cons pe_non (pa_cons pe_non (pa_cons pe_int (pa_cons pe_int (pa_cons pe_int (pa_cons pe_int (pa_cons pe_int (pa_cons pe_int (pa_cons (pe_op op_add pe_int (pe_call (ok_l_draw (w := w) T B) (hr.mono (by decide)) (by rfl) T.m_l_draw T.F_l_draw.kp T.bi_l_draw .nil pass0 (pa_cons (pv 0) (pa_cons pe_int pa_nil)))) pa_nil))))))))))) pa_nil))))
 (pss_one (ps_ret (pe_tup (pa_cons (pv 1) (pa_cons (pe_cmpR op_eq (pe_call (ok_l_draw (w := w) T B) (hr.mono (by decide)) (by rfl) T.m_l_draw T.F_l_draw.kp T.bi_l_draw .nil pass0 (pa_cons (pv 0) (pa_cons pe_int pa_nil))) pe_int (nomark _)) pa_nil)))))), ?_⟩
  refine ⟨_, rfl, _, rfl, d, c, n, 9, rfl, hp, by omega, by decide, by decide, fun H1 r r0 r1 kp1 p1 => ⟨1, r, rfl, rfl, by show 10 ≤ sizeLine; decide, fun a ha => .inl ?_⟩⟩
  have s1 := same_upd (o := .lst [V.non, .non, .non, .int 1, .int 1, .int 2, .int 2, .int 3, .int 9, .int (1 + r)]) ha
  have nad : a ≠ d := by
    obtain ⟨kvs, hd⟩ := p1.at
    exact (ne_of_none hd ha).symm
  refine ⟨d, c, a, n + 1, _, rfl, p1.same s1, by omega, SqL.of upd_same, by show 0 < 10; decide, by show 10 ≤ 1000; decide, nad, fun H2 x hx kp2 p2 => ?_⟩
  have kp2 := (kp1.trans (Same.kp s1)).trans kp2
  obtain ⟨v, rfl, hv⟩ : ∃ v : OI, x = oV v ∧ ∀ i, v = some i → 1 ≤ i ∧ i ≤ 9 := by
    simp only [List.mem_cons, List.not_mem_nil, or_false] at hx
    have int : ∀ i : Int, 1 ≤ i → i ≤ 9 → x = .int i → ∃ v : OI, x = oV v ∧ ∀ i, v = some i → 1 ≤ i ∧ i ≤ 9 := fun i h1 h2 e => ⟨some i, e, fun j hj => by cases hj; exact ⟨h1, h2⟩⟩
    rcases hx with h | h | h | h | h | h | h | h | h | h
    · exact ⟨none, h, fun i hi => by cases hi⟩
    · exact ⟨none, h, fun i hi => by cases hi⟩
    · exact ⟨none, h, fun i hi => by cases hi⟩
    all_goals exact int _ (by omega) (by omega) h
  dsimp only [gName]
  refine ⟨_, rfl, _, rfl, d, c, n + 2, 3, rfl, p2, by omega, by decide, by decide, fun H3 r' r0' r1' kp3 p3 => ⟨rfl, by show 2 ≤ sizeLine; decide, fun t ht => ?_⟩⟩
  have s3 := same_upd (o := .tup [oV v, .bl (decide (V.int r' = V.int 0))]) ht
  exact q _ _ (v, decide (V.int r' = V.int 0)) ⟨t, rfl, upd_same⟩ hv ((kp2.trans kp3).trans (Same.kp s3)) (p3.same s3)
end
end Toy
set_option Elab.async false
set_option linter.all false
set_option maxRecDepth 100000
set_option maxHeartbeats 4000000
namespace Toy
open PySem L2 Sh ShL LamX NdefX
/-! ### the law's trees: dicts of cells -/
theorem starts_sw (q p : Wd) : Txt.startswith (sw q) (sw p) = decide (p <+: q) := by
  unfold Txt.startswith
  have sub : Builtin.Str.subAt (sw q) (sw p) 0 = ((q.drop 0).take p.length == p) := by
    unfold Builtin.Str.subAt
    rw [Bool.eq_iff_iff, beq_iff_eq, beq_iff_eq, sw_len, Nat.zero_add]
    show (q.toArray.extract 0 p.length) = p.toArray ↔ _
    rw [List.drop_zero]
    constructor
    · intro h
      have := congrArg Array.toList h
      simpa using this
    · intro h
      apply Array.toList_inj.mp
      simpa using h
  rw [sub, sw_len, sw_len, List.drop_zero]
  rw [Bool.eq_iff_iff, Bool.and_eq_true, decide_eq_true_eq, decide_eq_true_eq, beq_iff_eq]
  constructor
  · rintro ⟨_, h⟩
    rw [← h]
    exact List.take_prefix _ _
  · intro h
    refine ⟨by rw [Nat.zero_add]; exact h.length_le, ?_⟩
    exact (List.prefix_iff_eq_take.mp h).symm
structure Lw (z : Wd) (rs : List Rw) : Prop where
  nd : (rs.map (·.1)).Nodup
  root : [] ∈ rs.map (·.1)
  par : ∀ p ∈ rs.map (·.1), p.dropLast ∈ rs.map (·.1)
  wd : ∀ p ∈ rs.map (·.1), ∀ c ∈ p, c ∈ z
  vl : ∀ r ∈ rs, ClOk r.2
theorem Lw.new {z : Wd} {rs : List Rw} (h : Lw z rs) {q : Wd} {c : Nat} {k : Cl} (hq : q ∈ rs.map (·.1)) (hc : c ∈ z) (hk : ClOk k) (hn : q ++ [c] ∉ rs.map (·.1)) : Lw z (rs ++ [(q ++ [c], k)]) := by
  have e : (rs ++ [(q ++ [c], k)]).map (·.1) = rs.map (·.1) ++ [q ++ [c]] := by rw [List.map_append]; rfl
  refine ⟨?_, ?_, fun p hp => ?_, fun p hp x hx => ?_, fun r hr => ?_⟩
  · rw [e]
    exact List.nodup_append.mpr ⟨h.nd, by simp, fun a ha b hb e => hn (by rw [← List.mem_singleton.mp hb, ← e]; exact ha)⟩
  · rw [e]
    exact List.mem_append_left _ h.root
  · rw [e] at hp ⊢
    rcases List.mem_append.mp hp with hp | hp
    · exact List.mem_append_left _ (h.par p hp)
    · rw [List.mem_singleton.mp hp, List.dropLast_concat]
      exact List.mem_append_left _ hq
  · rw [e] at hp
    rcases List.mem_append.mp hp with hp | hp
    · exact h.wd p hp x hx
    · rw [List.mem_singleton.mp hp] at hx
      rcases List.mem_append.mp hx with hx | hx
      · exact h.wd q hq x hx
      · rw [List.mem_singleton.mp hx]
        exact hc
  · rcases List.mem_append.mp hr with hr | hr
    · exact h.vl r hr
    · rw [List.mem_singleton.mp hr]
      exact hk
def setR (rs : List Rw) (p : Wd) (k : Cl) : List Rw := rs.map fun r => if r.1 = p then (r.1, k) else r
theorem setR_fst (rs : List Rw) (p : Wd) (k : Cl) : (setR rs p k).map (·.1) = rs.map (·.1) := by
  unfold setR
  rw [List.map_map]
  refine List.map_congr_left fun r _ => ?_
  show (if r.1 = p then (r.1, k) else r).1 = r.1
  split <;> rfl
theorem Lw.set {z : Wd} {rs : List Rw} (h : Lw z rs) (p : Wd) {k : Cl} (hk : ClOk k) : Lw z (setR rs p k) := by
  refine ⟨by rw [setR_fst]; exact h.nd, by rw [setR_fst]; exact h.root, by rw [setR_fst]; exact h.par, by rw [setR_fst]; exact h.wd, fun r hr => ?_⟩
  unfold setR at hr
  obtain ⟨x, hx, rfl⟩ := List.mem_map.mp hr
  split
  · exact hk
  · exact h.vl x hx
theorem filt_fst (rs : List Rw) (f : Wd → Bool) : (rs.filter fun r => f r.1).map (·.1) = (rs.map (·.1)).filter f := by
  rw [List.filter_map]
  rfl
theorem Lw.cut {z : Wd} {rs : List Rw} (h : Lw z rs) {p : Wd} (hp : p ≠ []) : Lw z (rs.filter fun r => !decide (p <+: r.1)) := by
  have e := filt_fst rs fun q => !decide (p <+: q)
  have mem : ∀ q, q ∈ (rs.filter fun r => !decide (p <+: r.1)).map (·.1) ↔ q ∈ rs.map (·.1) ∧ ¬ p <+: q := fun q => by
    rw [e, List.mem_filter]
    simp
  refine ⟨(List.filter_sublist.map _).nodup h.nd, (mem _).mpr ⟨h.root, fun hh => hp (List.prefix_nil.mp hh)⟩, fun q hq => ?_, fun q hq => h.wd q ((mem q).mp hq).1, fun r hr => h.vl r (List.mem_filter.mp hr).1⟩
  obtain ⟨h1, h2⟩ := (mem q).mp hq
  exact (mem _).mpr ⟨h.par q h1, fun hh => h2 (hh.trans (List.dropLast_prefix q))⟩
theorem len_of {os : List Wd} (nd : os.Nodup) (par : ∀ p ∈ os, p.dropLast ∈ os) : ∀ p ∈ os, p.length < os.length := by
  intro p hp
  have clo : ∀ k, p.take (p.length - k) ∈ os := by
    intro k
    induction k with
    | zero => rw [Nat.sub_zero, List.take_length]; exact hp
    | succ k ih =>
      have := par _ ih
      rw [List.dropLast_eq_take, List.length_take, List.take_take] at this
      rw [show min (min (p.length - k) p.length - 1) (p.length - k) = p.length - (k + 1) by omega] at this
      exact this
  have hs : ∀ x ∈ (List.range (p.length + 1)).map (fun k => p.take k), x ∈ os := fun x hx => by
    obtain ⟨k, hk, rfl⟩ := List.mem_map.mp hx
    have := List.mem_range.mp hk
    have := clo (p.length - k)
    rw [show p.length - (p.length - k) = k by omega] at this
    exact this
  have nd2 : ((List.range (p.length + 1)).map (fun k => p.take k)).Nodup := by
    refine List.Pairwise.map _ ?_ (List.nodup_range.and ?_ : List.Pairwise (fun a b => a ≠ b ∧ (a ≤ p.length ∧ b ≤ p.length)) _)
    · rintro a b ⟨ne, ha, hb⟩ e
      have := congrArg List.length e
      rw [List.length_take, List.length_take] at this
      omega
    · refine List.pairwise_iff_getElem.mpr fun i j hi hj _ => ?_
      rw [List.getElem_range, List.getElem_range]
      rw [List.length_range] at hi hj
      omega
  have := nd_len nd2 hs
  rw [List.length_map, List.length_range] at this
  omega
/-! the dicts under the pen and under changes -/
theorem IsC.tup {H H' : Hp} (k : ∀ b us, H b = some (.tup us) → H' b = some (.tup us)) {v : V} {c : Cl} (h : IsC H v (some c)) : IsC H' v (some c) := let ⟨t, e, h⟩ := h; ⟨t, e, k _ _ h⟩
theorem CelR.kp {H H' : Hp} {d c : Addr} {n : Nat} {v : V} {rs : List Rw} (hr : [] ∈ rs.map (·.1)) (hp : Pen H d c n) (s : Kp d H H') (h : CelR H v rs) : CelR H' v rs := by
  obtain ⟨e, l, rfl, h1, h2⟩ := h
  obtain ⟨ns, b, l', hd, _⟩ := hp
  refine ⟨e, l, rfl, s _ _ h1 (ne_of h1 hd fun z => ?_), paired_mono (fun _ _ h => ⟨h.1, h.2.tup fun b us q => s _ _ q (ne_of q hd (by intro z; cases z))⟩) h2⟩
  exact pen_kdl (by rw [cel_fst h2]; exact hr) (HO.dK.inj z).symm
theorem CelR.at {H : Hp} {e : Addr} {rs : List Rw} (h : CelR H (.ref e) rs) : ∃ l, H e = some (.dK (kdl l)) ∧ Paired (fun (q : Wd × V) (r : Rw) => q.1 = r.1 ∧ IsC H q.2 (some r.2)) l rs := by
  obtain ⟨d, l, e', h1, h2⟩ := h
  cases e'
  exact ⟨l, h1, h2⟩
theorem CelR.ne {H : Hp} {d c e : Addr} {n : Nat} {rs : List Rw} (hr : [] ∈ rs.map (·.1)) (hp : Pen H d c n) (h : CelR H (.ref e) rs) : e ≠ d := by
  obtain ⟨l, h1, h2⟩ := h.at
  obtain ⟨ns, b, l', hd, _⟩ := hp
  exact ne_of h1 hd fun z => pen_kdl (by rw [cel_fst h2]; exact hr) (HO.dK.inj z).symm
theorem CelR.put {H : Hp} {e : Addr} {rs : List Rw} (h : CelR H (.ref e) rs) {p : Wd} {v : V} {k : Cl} (hn : p ∉ rs.map (·.1)) (hv : IsC H v (some k)) (hl : rs.length ≤ 30000) : ∃ o, DPut H e (.str (sw p)) v (upd H e o) ∧ CelR (upd H e o) (.ref e) (rs ++ [(p, k)]) := by
  obtain ⟨l, h1, h2⟩ := h.at
  have tp : ∀ (o : HO) b us, H b = some (.tup us) → (upd H e o) b = some (.tup us) := fun o b us q => by rw [upd_ne (ne_of q h1 (by intro z; cases z))]; exact q
  refine ⟨_, dput_kdl h1 p v (by rw [h2.length]; omega), e, l ++ [(p, v)], rfl, ?_, ?_⟩
  · rw [upd_same, kdl_new _ (by rw [cel_fst h2]; exact hn)]
  · exact paired_app (paired_mono (fun _ _ h => ⟨h.1, h.2.tup (tp _)⟩) h2) (.cons ⟨rfl, hv.tup (tp _)⟩ .nil)
theorem CelR.set {H : Hp} {e : Addr} {rs : List Rw} (h : CelR H (.ref e) rs) {p : Wd} {v : V} {k : Cl} (hn : p ∈ rs.map (·.1)) (hv : IsC H v (some k)) (hl : rs.length ≤ 30000) : ∃ o, DPut H e (.str (sw p)) v (upd H e o) ∧ CelR (upd H e o) (.ref e) (setR rs p k) := by
  obtain ⟨l, h1, h2⟩ := h.at
  have tp : ∀ (o : HO) b us, H b = some (.tup us) → (upd H e o) b = some (.tup us) := fun o b us q => by rw [upd_ne (ne_of q h1 (by intro z; cases z))]; exact q
  refine ⟨_, dput_kdl h1 p v (by rw [h2.length]; omega), e, l.map fun q => if q.1 = p then (q.1, v) else q, rfl, ?_, ?_⟩
  · rw [upd_same, kdl_old _ (by rw [cel_fst h2]; exact hn)]
  · unfold setR
    have : ∀ {o : HO} {l : List (Wd × V)} {rs : List Rw}, Paired (fun (q : Wd × V) (r : Rw) => q.1 = r.1 ∧ IsC H q.2 (some r.2)) l rs → Paired (fun (q : Wd × V) (r : Rw) => q.1 = r.1 ∧ IsC (upd H e o) q.2 (some r.2)) (l.map fun q => if q.1 = p then (q.1, v) else q) (rs.map fun r => if r.1 = p then (r.1, k) else r) := fun {o l rs} q => by
      induction q with
      | nil => exact .nil
      | @cons a b as bs h t ih =>
        rw [List.map_cons, List.map_cons]
        refine .cons ?_ ih
        obtain ⟨h1, h2⟩ := h
        by_cases ea : a.1 = p
        · rw [if_pos ea, if_pos (h1 ▸ ea)]
          exact ⟨h1, hv.tup (tp _)⟩
        · rw [if_neg ea, if_neg (h1 ▸ ea)]
          exact ⟨h1, h2.tup (tp _)⟩
    exact this h2
theorem CelR.pop {H : Hp} {e : Addr} {rs : List Rw} (h : CelR H (.ref e) rs) {p : Wd} (hm : p ∈ rs.map (·.1)) : ∃ kvs v, H e = some (.dK kvs) ∧ valV kvs (.inr (sw p)) = some v ∧ CelR (upd H e (.dK (dropK kvs (.inr (sw p))))) (.ref e) (rs.filter fun r => decide (r.1 ≠ p)) := by
  obtain ⟨l, h1, h2⟩ := h.at
  have tp : ∀ (o : HO) b us, H b = some (.tup us) → (upd H e o) b = some (.tup us) := fun o b us q => by rw [upd_ne (ne_of q h1 (by intro z; cases z))]; exact q
  obtain ⟨_, hs⟩ := cel_val p h2
  rw [decide_eq_true hm] at hs
  obtain ⟨v, hv⟩ := Option.isSome_iff_exists.mp hs
  refine ⟨_, v, h1, hv, e, l.filter fun q => decide (q.1 ≠ p), rfl, ?_, ?_⟩
  · rw [upd_same]
    unfold dropK kdl
    rw [List.filter_map]
    congr 3
    refine List.filter_congr fun q _ => ?_
    show decide ((Sum.inr (sw q.1) : Key) ≠ Sum.inr (sw p)) = decide (q.1 ≠ p)
    refine decide_eq_decide.mpr ⟨fun h e => h (by rw [e]), fun h e => h (sw_inj (Sum.inr.inj e))⟩
  · have : ∀ {o : HO} {l : List (Wd × V)} {rs : List Rw}, Paired (fun (q : Wd × V) (r : Rw) => q.1 = r.1 ∧ IsC H q.2 (some r.2)) l rs → Paired (fun (q : Wd × V) (r : Rw) => q.1 = r.1 ∧ IsC (upd H e o) q.2 (some r.2)) (l.filter fun q => decide (q.1 ≠ p)) (rs.filter fun r => decide (r.1 ≠ p)) := fun {o l rs} q => by
      induction q with
      | nil => exact .nil
      | @cons a b as bs h t ih =>
        obtain ⟨h1, h2⟩ := h
        by_cases ea : a.1 = p
        · rw [List.filter_cons_of_neg (by simpa using ea), List.filter_cons_of_neg (by rw [← h1]; simpa using ea)]
          exact ih
        · rw [List.filter_cons_of_pos (by simpa using ea), List.filter_cons_of_pos (by rw [← h1]; simpa using ea)]
          exact .cons ⟨h1, h2.tup (tp _)⟩ ih
    exact this h2
theorem CelR.copy {H : Hp} {e : Addr} {rs : List Rw} (h : CelR H (.ref e) rs) : ∃ kvs, H e = some (.dK kvs) ∧ ∀ q, H q = none → CelR (upd H q (.dK kvs)) (.ref q) rs := by
  obtain ⟨l, h1, h2⟩ := h.at
  refine ⟨_, h1, fun q hq => ⟨q, l, rfl, upd_same, ?_⟩⟩
  have s := same_upd (o := .dK (kdl l)) hq
  exact paired_mono (fun _ _ h => ⟨h.1, h.2.same s⟩) h2
/-- list(found) -/
theorem CelR.keys {H : Hp} {e : Addr} {rs : List Rw} (h : CelR H (.ref e) rs) : ∃ kvs : List (Key × V), H e = some (.dK kvs) ∧ (kvs.map fun kv => kV kv.1) = wsV (rs.map (·.1)) := by
  obtain ⟨l, h1, h2⟩ := h.at
  exact ⟨_, h1, by rw [kdl_keys, cel_fst h2]⟩
end Toy
set_option Elab.async false
set_option linter.all false
set_option maxRecDepth 100000
set_option maxHeartbeats 4000000
namespace Toy
open PySem L2 Sh ShL LamX NdefX
/-! ### grown -/
def spGrown : Sp := fun vs H Q _ => ∃ (d c e : Addr) (n m : Nat) (z : Wd) (rs : List Rw), vs = [.ref d, .str (sw z), .ref e, .int (m : Nat)] ∧ Pen H d c n ∧ n ≤ 80000 ∧ m ≤ 10 ∧ LetOk z ∧ CelR H (.ref e) rs ∧ Lw z rs ∧ rs.length ≤ 60 ∧
  ∀ H' e' rs', CelR H' (.ref e') rs' → Lw z rs' → rs'.length ≤ rs.length + m → H e' = none → Kp d H H' → Pen H' d c (n + 5 * m) → Q (.ref e') H'
section
variable {P : Program} {w : World} {K : PySem.W.Frag} {mg : Str → Option Value} {base : Heap}
theorem ok_l_grown (T : Tx P K mg) (B : Bx T base) : FnOk P w K mg base CX0 4 T.a_l_grown T.fd_l_grown ["_law_pen", "_law_letters_here", "_law_found", "_law_many"] spGrown := by
  refine okT T.F_l_grown sc_l_grown (fun vs H Q E h => ?_) (fun cdv A outer s H vs Q E hcd hr h => ?_)
  · obtain ⟨d, c, e, n, m, z, rs, rfl, _⟩ := h
    rfl
  have hu := hu_of hr
  have hu65 := hu65_of hr
  obtain ⟨d, c, e0, n, m, z, rs0, rfl, hp, hn, hm, lz, ce0, lw0, rl0, q⟩ := h
  have z2 := lz.l2
  have z26 := lz.l26
  refine ⟨_, (pss_cons (ps_set (i := 2) sc_l_grown.nd rfl (by first | exact Or.inl rfl | exact Or.inr rfl) (pe_callTy call_dictD (by rfl) T.b_dict (by decide +kernel) (pa_cons (pv 2) pa_nil)))
 (pss_cons (ps_for PassesOwn.never rfl (pi_range1 (by rfl) T.b_range (pa_cons (pv 3) pa_nil)) (pg_name (i := 4) sc_l_grown.nd rfl (by first | exact Or.inl rfl | exact Or.inr rfl))
 (pss_cons (ps_set (i := 5) sc_l_grown.nd rfl (by first | exact Or.inl rfl | exact Or.inr rfl) (pe_op op_add_str (pe_call (ok_l_pick (w := w) T B) (hr.mono (by decide)) (by rfl) T.m_l_pick T.F_l_pick.kp T.bi_l_pick .nil pass0 (pa_cons (pv 0) (pa_cons (pe_callTy (call_list_dK rfl) (by rfl) T.b_list (by decide +kernel) (pa_cons (pv 2) pa_nil)) pa_nil))) (pe_call (ok_l_pick (w := w) T B) (hr.mono (by decide)) (by rfl) T.m_l_pick T.F_l_pick.kp T.bi_l_pick .nil pass0 (pa_cons (pv 0) (pa_cons (pe_slice sl_str (pv 1) po_none (po_some pe_int)) pa_nil)))))
 (pss_one (ps_if (pt_cmp (pc_dnotin hu (pv 5) (pv 2)))
 (pss_one (ps_dput hu (pv 2) (pv 5) (pe_call (ok_l_cell (w := w) T B) (hr.mono (by decide)) (by rfl) T.m_l_cell T.F_l_cell.kp T.bi_l_cell .nil pass0 (pa_cons (pv 0) pa_nil)) rfl))
 pss_nil))))
 (pss_one (ps_ret (pv 2))))), ?_⟩
  obtain ⟨kvs, hk, hcp⟩ := ce0.copy
  refine ⟨_, rfl, e0, kvs, rfl, .inl hk, fun e he => ?_⟩
  have s1 := same_upd (o := .dK kvs) he
  have ce1 := hcp e he
  have p1 := hp.same s1
  generalize upd H e (.dK kvs) = H1 at s1 ce1 p1
  dsimp only [gName]
  have kpe : ∀ {H2 : Hp} {o : HO}, Kp d H H2 → Kp d H (upd H2 e o) := fun k b o hb nb => by rw [upd_ne (ne_of_none hb he)]; exact k b o hb nb
  refine ⟨_, rfl, (m : Int), rfl, by omega, by omega, ?_⟩
  show ∃ W, _
  rw [show ((m : Int)).toNat = m by omega]
  refine for_range (fun i σ Hc => ∃ v4 v5 rs, σ = [some (.ref d), some (.str (sw z)), some (.ref e), some (.int (m : Nat)), v4, v5] ∧ Kp d H Hc ∧ Pen Hc d c (n + 5 * i) ∧ CelR Hc (.ref e) rs ∧ Lw z rs ∧ rs.length ≤ rs0.length + i)
    ⟨_, _, rs0, rfl, Same.kp s1, p1, ce1, lw0, Nat.le_refl _⟩ (fun i σ Hc hi ⟨v4, v5, rs, e1, kp, pe, ce, lw, rl⟩ => ?_) (fun σ Hc ⟨v4, v5, rs, e1, kp, pe, ce, lw, rl⟩ => ?_)
  rotate_left
  · subst e1
    exact ⟨_, rfl, q _ e rs ce lw rl he kp pe⟩
  subst e1
  have ned := ce.ne lw.root pe
  -- a place
  refine asgS (fun v H' => Kp d H H' ∧ Pen H' d c (n + 5 * i + 2) ∧ CelR H' (.ref e) rs ∧ ∃ p ch, v = .str (sw (p ++ [ch])) ∧ p ∈ rs.map (·.1) ∧ ch ∈ z) (fun R hR => ?_) ?_
  · obtain ⟨kvs2, hk2, hkv2⟩ := ce.keys
    refine ⟨_, rfl, _, rfl, e, kvs2, rfl, hk2, fun la hla => .inl ?_⟩
    rw [hkv2]
    have s2 := same_upd (o := .lst (wsV (rs.map (·.1)))) hla
    have pl := List.length_pos_of_mem lw.root
    rw [List.length_map] at pl
    refine ⟨d, c, la, n + 5 * i, _, rfl, pe.same s2, by omega, SqL.of upd_same, by unfold wsV; rw [List.length_map, List.length_map]; omega, by unfold wsV; rw [List.length_map, List.length_map]; omega, (ne_of_none (pe.at).choose_spec hla).symm, fun H2 x hx kp2 p2 => ?_⟩
    obtain ⟨p, hp', rfl⟩ := List.mem_map.mp hx
    have kpa := (kp.trans (Same.kp s2)).trans kp2
    have cea := (CelR.same s2 ce).kp lw.root (pe.same s2) kp2
    have l200 : p.length ≤ 200 := by
      have := len_of lw.nd lw.par p hp'
      rw [List.length_map] at this
      omega
    refine ⟨_, rfl, _, rfl, _, rfl, _, rfl, by rw [sw_len, sizeLine_eq]; omega, .inr ?_⟩
    refine ⟨d, c, n + 5 * i + 1, sw (z.take 3), by rw [show (3 : Int) = ((3 : Nat) : Int) from rfl, cut_to]; rfl, p2, by omega, by rw [sw_len, List.length_take]; omega, by rw [sw_len, List.length_take]; omega, fun H3 ch hch kp3 p3 => ?_⟩
    have hch' : ch ∈ z := by
      rw [sw_list] at hch
      exact List.mem_of_mem_take hch
    refine ⟨sw p, ⟨#[ch]⟩, rfl, rfl, by rw [sw_len, sizeLine_eq]; show p.length + 1 ≤ _; omega, hR _ _ ⟨kpa.trans kp3, p3, cea.kp lw.root p2 kp3, p, ch, ?_, hp', hch'⟩⟩
    rw [sw_one, sw_app]
  rintro v H2 ⟨kp2, p2, ce2, p, ch, rfl, hp', hch⟩
  dsimp only [gName]
  obtain ⟨o, hg, _, his⟩ := ce2.get (p ++ [ch])
  refine ⟨_, rfl, _, rfl, e, o, rfl, hg, _, rfl, ?_⟩
  rw [his]
  by_cases hin : p ++ [ch] ∈ rs.map (·.1)
  · rw [decide_eq_true hin]
    exact iteF ⟨_, _, rs, rfl, kp2, p2.mono (by omega), ce2, lw, by omega⟩
  · rw [decide_eq_false hin]
    refine iteT ?_
    refine ⟨_, rfl, d, c, _, rfl, p2, by omega, fun H3 v k iv ok kp3 p3 => ⟨_, rfl, _, rfl, ?_⟩⟩
    have ce3 := ce2.kp lw.root p2 kp3
    obtain ⟨o', hput, ce4⟩ := ce3.put hin iv (by omega)
    refine ⟨e, _, rfl, hput, _, _, rs ++ [(p ++ [ch], k)], rfl, kpe (kp2.trans kp3), ?_, ce4, lw.new hp' hch ok hin, by rw [List.length_append]; simp; omega⟩
    obtain ⟨ns, b, l, g1, g2, g3, g4, g5⟩ := p3
    obtain ⟨l', h1, h2⟩ := ce3.at
    have nec : c ≠ e := ne_of g2 h1 (by intro z; cases z)
    exact ⟨ns, b, l, by rw [upd_ne ned.symm]; exact g1, by rw [upd_ne nec]; exact g2, g3, by omega, g5⟩
end
end Toy
set_option Elab.async false
set_option linter.all false
set_option maxRecDepth 100000
set_option maxHeartbeats 4000000
namespace Toy
open PySem L2 Sh ShL LamX NdefX
/-! ### edited -/
theorem CelR.cell {H : Hp} {e : Addr} {rs : List Rw} (nd : (rs.map (·.1)).Nodup) (h : CelR H (.ref e) rs) {p : Wd} (hp : p ∈ rs.map (·.1)) : ∃ t k, rs.lookup p = some k ∧ (p, k) ∈ rs ∧ DGet H e (.str (sw p)) (some (.ref t)) ∧ H t = some (.tup [oV k.1, .bl k.2]) := by
  obtain ⟨o, hg, hi, hs⟩ := h.get p
  rw [decide_eq_true hp] at hs
  obtain ⟨v, rfl⟩ := Option.isSome_iff_exists.mp hs
  obtain ⟨k, hk⟩ := Option.ne_none_iff_exists'.mp (lookup_ne.mpr hp)
  rw [hk] at hi
  obtain ⟨t, e', ht⟩ := hi
  have e' : v = .ref t := e'
  subst e'
  exact ⟨t, k, hk, lookup_mem hk, hg, ht⟩
/-- [p for p in d if ..] -/
theorem lc_lockF {H : Hp} {e : Addr} {l : List (Wd × V)} {k j : Nat} {tt : TT} {σ : L2.St} {Q : VK} (he : H e = some (.dK (kdl l))) (hσ : σ[k]? = some (some (.ref e))) (hl : l.length ≤ 40000) (keep : Wd → Bool)
    (hw : ∀ x, wipe ((wipe σ [j]).set j x) [j] = wipe σ [j]) (hw2 : ∀ x, ((wipe σ [j]).set j (some x))[j]? = some (some x))
    (hs : ∀ p ∈ l.map (·.1), ∀ H' (R : Bool → Hp → Prop), R (keep p) H' → tt ((wipe σ [j]).set j (some (.str (sw p)))) H' R)
    (q : ∀ H' D, Same H H' → H D = none → H' D = some (.lst (wsV ((l.map (·.1)).filter keep))) → Q (.ref D) H') : tLockE (tLc (iKeys (tVar k)) (gName j) tt (tVar j) [j]) σ H Q := by
  refine ⟨e, _, he, trivial, fun od => ?_⟩
  refine ⟨_, hσ, e, od, rfl, .inl ⟨_, upd_same, fun D hD => ?_⟩⟩
  have hDe : D ≠ e := fun z => by rw [z, upd_same] at hD; cases hD
  have hD0 : H D = none := by rw [upd_ne hDe] at hD; exact hD
  refine lcF (walk_wkeys l) yat (paired_self (l.map (·.1))) hD (fun H' s => s _ _ upd_same) (by rw [List.length_map]; exact hl) keep (fun p => V.str (sw p)) (fun x p H' R N hp ex s k1 k2 => ?_) (fun H' s hD2 => ?_)
  · subst ex
    refine ⟨hw _, hs p hp H' _ ?_⟩
    exact ite2 (fun h => ⟨_, hw2 _, k1 h⟩) (fun h => k2 (Bool.eq_false_iff.mpr h))
  · refine ⟨s _ _ upd_same, q _ D (fun b u hb => ?_) hD0 ?_⟩
    · by_cases z : b = e
      · rw [z, upd_same, ← he, ← z]; exact hb
      · rw [upd_ne z]; exact s _ _ (by rw [upd_ne z]; exact hb)
    · rw [upd_ne hDe]
      exact hD2
theorem forE {K : PySem.W.Frag} {te : TE} {g : TG} {tb : TS} {D : Ends} {σ : L2.St} {H : Hp}
    (h : te σ H fun x H1 => ∃ a, x = .ref a ∧ (∃ xs, SqL K H1 a xs) ∧ ∃ W : Nat → Nat → L2.St → Hp → Prop, (∃ m, W 0 m σ H1) ∧ ∀ i m σ H, W i m σ H →
      ((Itl K a).stop i H ∧ D.nx σ H) ∨ ((Itl K a).go i H ∧ ∃ N : L2.St → Hp → Prop, (∀ σ' H', N σ' H' → ∃ m', m' < m ∧ W (i + 1) m' σ' H') ∧ ∀ x H', (Itl K a).yld i H x H' → g x σ H' fun σ2 H2 => tb { D with nx := N, ct := N, bk := D.nx } σ2 H2)) : tFor (iList K te) g tb D σ H := h
theorem cell_mem {z : Wd} {rs : List Rw} (lw : Lw z rs) {p : Wd} {k : Cl} (h : (p, k) ∈ rs) : ClOk k := lw.vl _ h
def spEdited : Sp := fun vs H Q _ => ∃ (d c e : Addr) (n m : Nat) (z : Wd) (rs : List Rw), vs = [.ref d, .str (sw z), .ref e, .int (m : Nat)] ∧ Pen H d c n ∧ n ≤ 70000 ∧ m ≤ 10 ∧ LetOk z ∧ CelR H (.ref e) rs ∧ Lw z rs ∧ rs.length ≤ 30 ∧
  ∀ H' e' rs', CelR H' (.ref e') rs' → Lw z rs' → rs'.length ≤ rs.length + 2 * m → H e' = none → Kp d H H' → Pen H' d c (n + 12 * m) → Q (.ref e') H'
section
variable {P : Program} {w : World} {K : PySem.W.Frag} {mg : Str → Option Value} {base : Heap}
theorem ok_l_edited (T : Tx P K mg) (B : Bx T base) : FnOk P w K mg base CX0 5 T.a_l_edited T.fd_l_edited ["_law_pen", "_law_letters_here", "_law_found", "_law_many"] spEdited := by
  refine okT T.F_l_edited sc_l_edited (fun vs H Q E h => ?_) (fun cdv A outer s H vs Q E hcd hr h => ?_)
  · obtain ⟨d, c, e, n, m, z, rs, rfl, _⟩ := h
    rfl
  have hu := hu_of hr
  have hu65 := hu65_of hr
  obtain ⟨d, c, e0, n, m, z, rs0, rfl, hp, hn, hm, lz, ce0, lw0, rl0, q⟩ := h
  have z2 := lz.l2
  have z26 := lz.l26
  refine ⟨_, (pss_cons (ps_set (i := 2) sc_l_edited.nd rfl (by first | exact Or.inl rfl | exact Or.inr rfl) (pe_callTy call_dictD (by rfl) T.b_dict (by decide +kernel) (pa_cons (pv 2) pa_nil)))
 (pss_cons (ps_for PassesOwn.never rfl (pi_range1 (by rfl) T.b_range (pa_cons (pv 3) pa_nil)) (pg_name (i := 4) sc_l_edited.nd rfl (by first | exact Or.inl rfl | exact Or.inr rfl))
 (pss_cons (ps_asg (pe_tup (pa_cons (pe_call (ok_l_draw (w := w) T B) (hr.mono (by decide)) (by rfl) T.m_l_draw T.F_l_draw.kp T.bi_l_draw .nil pass0 (pa_cons (pv 0) (pa_cons pe_int pa_nil))) (pa_cons (pe_call (ok_l_pick (w := w) T B) (hr.mono (by decide)) (by rfl) T.m_l_pick T.F_l_pick.kp T.bi_l_pick .nil pass0 (pa_cons (pv 0) (pa_cons (pe_callTy (call_list_dK rfl) (by rfl) T.b_list (by decide +kernel) (pa_cons (pv 2) pa_nil)) pa_nil))) pa_nil))) (pg_tup rfl (pgs_cons (pg_name (i := 5) sc_l_edited.nd rfl (by first | exact Or.inl rfl | exact Or.inr rfl)) (pgs_cons (pg_name (i := 6) sc_l_edited.nd rfl (by first | exact Or.inl rfl | exact Or.inr rfl)) pgs_nil))))
 (pss_one (ps_if (pt_cmpR op_lt (pv 5) pe_int (nomark _))
 (pss_one (ps_dput hu (pv 2) (pv 6) (pe_tup (pa_cons (pe_ix ix_tup (pe_call (ok_l_cell (w := w) T B) (hr.mono (by decide)) (by rfl) T.m_l_cell T.F_l_cell.kp T.bi_l_cell .nil pass0 (pa_cons (pv 0) pa_nil)) pe_int (fun _ _ => rfl)) (pa_cons (pe_ix ix_tup (pe_dget hu (pv 2) (pv 6) (fun _ _ => rfl)) pe_int (fun _ _ => rfl)) pa_nil))) rfl))
 (pss_one (ps_if (pt_cmpR op_eq (pv 5) pe_int (nomark _))
 (pss_one (ps_dput hu (pv 2) (pv 6) (pe_tup (pa_cons (pe_ix ix_tup (pe_dget hu (pv 2) (pv 6) (fun _ _ => rfl)) pe_int (fun _ _ => rfl)) (pa_cons (pe_not (pe_ix ix_tup (pe_dget hu (pv 2) (pv 6) (fun _ _ => rfl)) pe_int (fun _ _ => rfl))) pa_nil))) rfl))
 (pss_one (ps_if (PW.pt (pw_and (pt_cmpR op_eq (pv 5) pe_int (nomark _)) (pw_and1 (pt_cmpR op_ne (pv 6) pe_str (nomark _)))))
 (pss_one (ps_for PassesOwn.never rfl (pi_list (pe_lock (pe_lc (own := [("_law_other", 8)]) (g := gName 8) rfl sc_l_edited.nd (pi_keys (pv 2)) (blkOk_by (own := [("_law_other", 8)]) (N := N_l_edited) (sc := defScope s_l_edited) (by decide +kernel)) (fun _ _ _ _ _ => (pg_name (i := 8) sc_l_edited.nd rfl (by first | exact Or.inl rfl | exact Or.inr rfl))) (fun _ _ _ _ _ => (pts_one (pt_val (pe_m1 PySem.F.slot_str_startswith PySem.F.type_str_startswith mt_startswith (pv 8) (pv 6))))) (fun _ _ _ _ _ => (pv 8))))) (pg_name (i := 7) sc_l_edited.nd rfl (by first | exact Or.inl rfl | exact Or.inr rfl))
 (pss_one (ps_expr (pe_dpop1 (pv 2) (pv 7) ⟨by rfl, by rfl, by rfl, by rfl⟩)))))
 (pss_one (ps_set (i := 2) sc_l_edited.nd rfl (by first | exact Or.inl rfl | exact Or.inr rfl) (pe_call (ok_l_grown (w := w) T B) (hr.mono (by decide)) (by rfl) T.m_l_grown T.F_l_grown.kp T.bi_l_grown .nil pass0 (pa_cons (pv 0) (pa_cons (pv 1) (pa_cons (pv 2) (pa_cons pe_int pa_nil)))))))))))))))
 (pss_one (ps_ret (pv 2))))), ?_⟩
  obtain ⟨kvs, hk, hcp⟩ := ce0.copy
  refine ⟨_, rfl, e0, kvs, rfl, .inl hk, fun e he => ?_⟩
  have s1 := same_upd (o := .dK kvs) he
  have ce1 := hcp e he
  have p1 := hp.same s1
  generalize upd H e (.dK kvs) = H1 at s1 ce1 p1
  dsimp only [gName]
  refine ⟨_, rfl, (m : Int), rfl, by omega, by omega, ?_⟩
  show ∃ W, _
  rw [show ((m : Int)).toNat = m by omega]
  refine for_range (fun i σ Hc => ∃ e v4 v5 v6 v7 v8 rs, σ = [some (.ref d), some (.str (sw z)), some (.ref e), some (.int (m : Nat)), v4, v5, v6, v7, v8] ∧ H e = none ∧ Kp d H Hc ∧ Pen Hc d c (n + 12 * i) ∧ CelR Hc (.ref e) rs ∧ Lw z rs ∧ rs.length ≤ rs0.length + 2 * i)
    ⟨e, _, _, _, _, _, rs0, rfl, he, Same.kp s1, p1, ce1, lw0, Nat.le_refl _⟩ (fun i σ Hc hi ⟨e, v4, v5, v6, v7, v8, rs, e1, he, kp, pe, ce, lw, rl⟩ => ?_) (fun σ Hc ⟨e, v4, v5, v6, v7, v8, rs, e1, he, kp, pe, ce, lw, rl⟩ => ?_)
  rotate_left
  · subst e1
    exact ⟨_, rfl, q _ e rs ce lw rl he kp pe⟩
  subst e1
  have kpe : ∀ {H2 : Hp} {o : HO}, Kp d H H2 → Kp d H (upd H2 e o) := fun k b o hb nb => by rw [upd_ne (ne_of_none hb he)]; exact k b o hb nb
  refine asgI ?_
  refine ⟨_, rfl, d, c, n + 12 * i, 6, rfl, pe, by omega, by decide, by decide, fun H1 r r0 r1 kp1 p1 => ?_⟩
  have ce1 := ce.kp lw.root pe kp1
  have ned := ce1.ne lw.root p1
  obtain ⟨kvs2, hk2, hkv2⟩ := ce1.keys
  refine ⟨_, rfl, _, rfl, e, kvs2, rfl, hk2, fun la hla => .inl ?_⟩
  rw [hkv2]
  have s2 := same_upd (o := .lst (wsV (rs.map (·.1)))) hla
  have pl := List.length_pos_of_mem lw.root
  rw [List.length_map] at pl
  refine ⟨d, c, la, _, _, rfl, p1.same s2, by omega, SqL.of upd_same, by unfold wsV; rw [List.length_map, List.length_map]; omega, by unfold wsV; rw [List.length_map, List.length_map]; omega, (ne_of_none (p1.at).choose_spec hla).symm, fun H2 x hx kp2 p2 => ?_⟩
  obtain ⟨p, hpm, rfl⟩ := List.mem_map.mp hx
  have kpa := ((kp.trans kp1).trans (Same.kp s2)).trans kp2
  have cea := (CelR.same s2 ce1).kp lw.root (p1.same s2) kp2
  refine ⟨by show 2 ≤ sizeLine; decide, fun t ht => ?_⟩
  have s3 := same_upd (o := .tup [V.int r, .str (sw p)]) ht
  have g3 : (upd H2 t (.tup [V.int r, .str (sw p)])) t = some (.tup [V.int r, .str (sw p)]) := upd_same
  have p3 := p2.same s3
  have ce3 := CelR.same s3 cea
  have kp3 := kpa.trans (Same.kp s3)
  generalize upd H2 t (.tup [V.int r, .str (sw p)]) = H3 at s3 g3 p3 ce3 kp3
  refine ⟨t, _, rfl, SqT.of g3, rfl, _, _, rfl, _, _, rfl, rfl, ?_⟩
  have l200 : p.length ≤ 200 := by
    have := len_of lw.nd lw.par p hpm
    rw [List.length_map] at this
    omega
  have penw : ∀ {H4 : Hp} {o : HO} {n' : Nat}, Pen H4 d c n' → CelR H4 (.ref e) rs → Pen (upd H4 e o) d c n' := fun {H4 o n'} p ce => by
    obtain ⟨ns, b, l, g1, g2, g3, g4, g5⟩ := p
    obtain ⟨l', h1, h2⟩ := ce.at
    have nec : c ≠ e := ne_of g2 h1 (by intro z; cases z)
    exact ⟨ns, b, l, by rw [upd_ne ned.symm]; exact g1, by rw [upd_ne nec]; exact g2, g3, g4, g5⟩
  -- the ways
  refine ⟨_, rfl, _, _, rfl, rfl, _, rfl, ?_⟩
  refine ite2 (fun _ => ?_) (fun _ => ?_)
  · refine ⟨_, rfl, d, c, _, rfl, p3, by omega, fun H4 v k iv ok kp4 p4 => ?_⟩
    have ce4 := ce3.kp lw.root p3 kp4
    obtain ⟨t', rfl, ht'⟩ := iv
    obtain ⟨t2, k2, _, hkm, hg2, ht2⟩ := ce4.cell lw.nd hpm
    refine ⟨t', _, _, _, rfl, rfl, SqT.of ht', atI_nat (j := 0) rfl, _, rfl, _, rfl, e, _, rfl, hg2, t2, _, _, _, rfl, rfl, SqT.of ht2, atI_nat (j := 1) rfl, by show 2 ≤ sizeLine; decide, fun u hu => ?_⟩
    have s5 := same_upd (o := .tup [oV k.1, .bl k2.2]) hu
    have g5 : IsC (upd H4 u (.tup [oV k.1, .bl k2.2])) (.ref u) (some (k.1, k2.2)) := ⟨u, rfl, upd_same⟩
    have p5 := p4.same s5
    have ce5 := CelR.same s5 ce4
    have kp5 := (kp3.trans kp4).trans (Same.kp s5)
    generalize upd H4 u (.tup [oV k.1, .bl k2.2]) = H5 at s5 g5 p5 ce5 kp5
    obtain ⟨o', hput, ce6⟩ := ce5.set hpm g5 (by omega)
    refine ⟨_, rfl, _, rfl, e, _, rfl, hput, e, _, _, _, _, _, setR rs p (k.1, k2.2), rfl, he, kpe kp5, (penw p5 ce5).mono (by omega), ce6, lw.set p (k := (k.1, k2.2)) ok, by unfold setR; rw [List.length_map]; omega⟩
  refine ⟨_, rfl, rfl, _, rfl, ?_⟩
  refine ite2 (fun _ => ?_) (fun _ => ?_)
  · obtain ⟨t2, k2, _, hkm, hg2, ht2⟩ := ce3.cell lw.nd hpm
    refine ⟨_, rfl, _, rfl, e, _, rfl, hg2, t2, _, _, _, rfl, rfl, SqT.of ht2, atI_nat (j := 0) rfl, ?_⟩
    refine ⟨_, rfl, _, rfl, e, _, rfl, hg2, t2, _, _, _, rfl, rfl, SqT.of ht2, atI_nat (j := 1) rfl, _, rfl, by show 2 ≤ sizeLine; decide, fun u hu => ?_⟩
    have s5 := same_upd (o := .tup [oV k2.1, .bl (!k2.2)]) hu
    have g5 : IsC (upd H3 u (.tup [oV k2.1, .bl (!k2.2)])) (.ref u) (some (k2.1, !k2.2)) := ⟨u, rfl, upd_same⟩
    have p5 := p3.same s5
    have ce5 := CelR.same s5 ce3
    have kp5 := kp3.trans (Same.kp s5)
    generalize upd H3 u (.tup [oV k2.1, .bl (!k2.2)]) = H5 at s5 g5 p5 ce5 kp5
    obtain ⟨o', hput, ce6⟩ := ce5.set hpm g5 (by omega)
    refine ⟨_, rfl, _, rfl, e, _, rfl, hput, e, _, _, _, _, _, setR rs p (k2.1, !k2.2), rfl, he, kpe kp5, (penw p5 ce5).mono (by omega), ce6, lw.set p (k := (k2.1, !k2.2)) (lw.vl _ hkm), by unfold setR; rw [List.length_map]; omega⟩
  have grow : ∀ {D' : Ends} {v7 v8 : Option V}, (∀ e' rs' H', CelR H' (.ref e') rs' → Lw z rs' → rs'.length ≤ rs.length + 2 → H3 e' = none → Kp d H3 H' → Pen H' d c (n + 12 * i + 2 + 10) → D'.nx [some (.ref d), some (.str (sw z)), some (.ref e'), some (.int (m : Nat)), some (.int (0 + (i : Int))), some (.int r), some (.str (sw p)), v7, v8] H') → tAsg (tCall spGrown [] E0 (tCons (tVar 0) (tCons (tVar 1) (tCons (tVar 2) (tCons (tC (V.int 2)) tNil))))) (gName 2) D' [some (.ref d), some (.str (sw z)), some (.ref e), some (.int (m : Nat)), some (.int (0 + (i : Int))), some (.int r), some (.str (sw p)), v7, v8] H3 := fun {D' v7 v8} hD => by
    refine ⟨_, rfl, _, rfl, _, rfl, d, c, e, _, 2, z, rs, rfl, p3, by omega, by omega, lz, ce3, lw, by omega, fun H' e' rs' h1 h2 h3 h4 h5 h6 => ?_⟩
    exact hD e' rs' H' h1 h2 h3 h4 h5 h6
  have he3 : ∀ {e'}, H3 e' = none → H e' = none := fun {e'} h4 => by
    cases ho : H e' with
    | none => rfl
    | some o =>
      by_cases ed : e' = d
      · obtain ⟨kv, hd⟩ := p3.at
        rw [ed, hd] at h4
        cases h4
      · rw [kp3 _ _ ho ed] at h4
        cases h4
  have fin : ∀ e' rs' H' v7 v8, CelR H' (.ref e') rs' → Lw z rs' → rs'.length ≤ rs.length + 2 → H3 e' = none → Kp d H3 H' → Pen H' d c (n + 12 * i + 2 + 10) → ∃ e v4 v5 v6 v7' v8' rs, [some (V.ref d), some (.str (sw z)), some (.ref e'), some (.int (m : Nat)), some (.int (0 + (i : Int))), some (.int r), some (.str (sw p)), v7, v8] = [some (V.ref d), some (.str (sw z)), some (.ref e), some (.int (m : Nat)), v4, v5, v6, v7', v8'] ∧ H e = none ∧ Kp d H H' ∧ Pen H' d c (n + 12 * (i + 1)) ∧ CelR H' (.ref e) rs ∧ Lw z rs ∧ rs.length ≤ rs0.length + 2 * (i + 1) := fun e' rs' H' v7 v8 h1 h2 h3 h4 h5 h6 =>
    ⟨e', _, _, _, _, _, rs', rfl, he3 h4, kp3.trans h5, h6.mono (by omega), h1, h2, by omega⟩
  refine ⟨_, rfl, rfl, _, rfl, ?_⟩
  refine ite2 (fun _ => ?_) (fun _ => iteF (grow fun e' rs' H' h1 h2 h3 h4 h5 h6 => fin e' rs' H' _ _ h1 h2 h3 h4 h5 h6))
  refine ⟨_, rfl, rfl, _, rfl, ?_⟩
  rw [mt_eq, sw_dec]
  by_cases h0 : p = []
  · rw [decide_eq_true h0]
    exact iteF (grow fun e' rs' H' h1 h2 h3 h4 h5 h6 => fin e' rs' H' _ _ h1 h2 h3 h4 h5 h6)
  rw [decide_eq_false h0]
  refine iteT ?_
  obtain ⟨l, hl1, hl2⟩ := ce3.at
  have lf := cel_fst hl2
  refine forE (lc_lockF (k := 2) (j := 8) (l := l) hl1 rfl (by rw [hl2.length]; omega) (fun q => decide (p <+: q)) (by exact fun _ => rfl) (by exact fun _ => rfl) (fun q hq H' R k1 => ?_) fun H4 D s4 hD0 hD => ?_)
  · refine ⟨_, rfl, ⟨_, rfl⟩, _, rfl, sw q, sw p, rfl, rfl, _, rfl, ?_⟩
    rw [starts_sw]
    exact k1
  rw [lf] at hD
  generalize hgo : (rs.map (·.1)).filter (fun q => decide (p <+: q)) = gone at hD
  have gm : ∀ q, q ∈ gone ↔ q ∈ rs.map (·.1) ∧ p <+: q := fun q => by
    rw [← hgo, List.mem_filter]
    simp
  have gnd : gone.Nodup := by rw [← hgo]; exact List.Pairwise.filter _ lw.nd
  have p4 := p3.same s4
  have ce4 := CelR.same s4 ce3
  have kp4 := kp3.trans (Same.kp s4)
  have nDe : D ≠ e := fun z => by rw [z, hl1] at hD0; cases hD0
  refine ⟨D, rfl, ⟨_, SqL.of hD⟩, ?_⟩
  refine for_it (walk_list (K := K) (a := D) (xs := wsV gone)) (fun j σ Hx => (∃ v7 v8, σ = [some (.ref d), some (.str (sw z)), some (.ref e), some (.int (m : Nat)), some (.int (0 + (i : Int))), some (.int r), some (.str (sw p)), v7, v8]) ∧ Kp d H Hx ∧ Pen Hx d c (n + 12 * i + 2) ∧ CelR Hx (.ref e) (rs.filter fun r => !decide (r.1 ∈ gone.take j)) ∧ Hx D = some (.lst (wsV gone)))
    ⟨⟨_, _, rfl⟩, kp4, p4, by rw [show (rs.filter fun r => !decide (r.1 ∈ gone.take 0)) = rs from by simp [filter_tt]]; exact ce4, hD⟩ (fun j σ Hx _ ⟨_, _, _, _, h⟩ => SqL.of h) (fun j u σ H0 Hx hj ⟨⟨v7, v8, e1⟩, kpx, px, cx, hDx⟩ yl => ?_) (fun σ Hx ⟨⟨v7, v8, e1⟩, kpx, px, cx, hDx⟩ => ?_)
  · obtain ⟨rfl, hu'⟩ := yl
    subst e1
    rw [List.getElem?_map] at hu'
    obtain ⟨g, hg, rfl⟩ := Option.map_eq_some_iff.mp hu'
    have hgm := (gm g).mp (List.mem_of_getElem? hg)
    have hgn : g ∉ gone.take j := nd_take gnd hg
    have hgi : g ∈ (rs.filter fun r => !decide (r.1 ∈ gone.take j)).map (·.1) := by
      rw [filt_fst rs fun q => !decide (q ∈ gone.take j), List.mem_filter]
      exact ⟨hgm.1, by simp [hgn]⟩
    obtain ⟨kv, v, hk1, hk2, hk3⟩ := cx.pop hgi
    have nroot : [] ∈ (rs.filter fun r => !decide (r.1 ∈ gone.take j)).map (·.1) := by
      rw [filt_fst rs fun q => !decide (q ∈ gone.take j), List.mem_filter]
      refine ⟨lw.root, ?_⟩
      have : ([] : Wd) ∉ gone.take j := fun h => h0 (List.prefix_nil.mp ((gm []).mp (List.mem_of_mem_take h)).2)
      simp [this]
    have nde := cx.ne nroot px
    refine ⟨_, rfl, e, rfl, .inl ⟨_, .inl hk1⟩, _, rfl, kv, .inr (sw g), v, hk1, rfl, hk2, ⟨_, _, rfl⟩, kpe kpx, ?_, ?_, by rw [upd_ne nDe]; exact hDx⟩
    · obtain ⟨ns, b, l', g1, g2, g3, g4, g5⟩ := px
      have nec : c ≠ e := ne_of g2 hk1 (by intro z; cases z)
      exact ⟨ns, b, l', by rw [upd_ne nde.symm]; exact g1, by rw [upd_ne nec]; exact g2, g3, g4, g5⟩
    · rw [List.filter_filter] at hk3
      have ee : (rs.filter fun r => !decide (r.1 ∈ gone.take (j + 1))) = rs.filter fun a => decide (a.1 ≠ g) && !decide (a.1 ∈ gone.take j) := by
        refine List.filter_congr fun r _ => ?_
        rw [List.take_add_one, hg]
        show (!decide (r.1 ∈ gone.take j ++ [g])) = _
        by_cases h1 : r.1 = g <;> by_cases h2 : r.1 ∈ gone.take j <;> simp [h1, h2]
      rw [ee]
      exact hk3
  · subst e1
    rw [show (wsV gone).length = gone.length by unfold wsV; rw [List.length_map], List.take_length] at cx
    have ee : (rs.filter fun r => !decide (r.1 ∈ gone)) = rs.filter fun r => !decide (p <+: r.1) := by
      refine List.filter_congr fun r hr => ?_
      congr 1
      refine decide_eq_decide.mpr ⟨fun h => ((gm _).mp h).2, fun h => (gm _).mpr ⟨List.mem_map.mpr ⟨r, hr, rfl⟩, h⟩⟩
    rw [ee] at cx
    exact ⟨e, _, _, _, _, _, _, rfl, he, kpx, px.mono (by omega), cx, lw.cut h0, Nat.le_trans (List.length_filter_le _ _) (by omega)⟩
end
end Toy
set_option Elab.async false
set_option linter.all false
set_option maxRecDepth 100000
set_option maxHeartbeats 4000000
namespace Toy
open PySem L2 Sh ShL LamX NdefX
/-! ### three trees -/
structure Tri (H : Hp) (l : Addr) (z : Wd) (r0 r1 r2 : List Rw) : Prop where
  ex : ∃ e0 e1 e2, H l = some (.lst [.ref e0, .ref e1, .ref e2]) ∧ CelR H (.ref e0) r0 ∧ CelR H (.ref e1) r1 ∧ CelR H (.ref e2) r2
  w0 : Lw z r0
  w1 : Lw z r1
  w2 : Lw z r2
  l0 : r0.length ≤ 27
  l1 : r1.length ≤ 27
  l2 : r2.length ≤ 27
def spThree : Sp := fun vs H Q _ => ∃ (d c : Addr) (n m : Nat) (z : Wd), vs = [.ref d, .str (sw z), .int (m : Nat)] ∧ Pen H d c n ∧ n ≤ 60000 ∧ m ≤ 10 ∧ LetOk z ∧
  ∀ H' l r0 r1 r2, Tri H' l z r0 r1 r2 → Kp d H H' → Pen H' d c (n + 160) → Q (.ref l) H'
theorem toN (r : Int) (h : 0 ≤ r) : V.int (1 + r) = V.int (((1 + r).toNat : Nat) : Int) := by rw [Int.toNat_of_nonneg (by omega)]
section
variable {P : Program} {w : World} {K : PySem.W.Frag} {mg : Str → Option Value} {base : Heap}
theorem ok_l_three (T : Tx P K mg) (B : Bx T base) : FnOk P w K mg base CX0 6 T.a_l_three T.fd_l_three ["_law_pen", "_law_letters_here", "_law_many"] spThree := by
  refine okT T.F_l_three sc_l_three (fun vs H Q E h => ?_) (fun cdv A outer s H vs Q E hcd hr h => ?_)
  · obtain ⟨d, c, n, m, z, rfl, _⟩ := h
    rfl
  have hu := hu_of hr
  have hu65 := hu65_of hr
  obtain ⟨d, c, n, m, z, rfl, hp, hn, hm, lz, q⟩ := h
  refine ⟨_, (pss_cons (ps_set (i := 3) sc_l_three.nd rfl (by first | exact Or.inl rfl | exact Or.inr rfl) (pe_call (ok_l_grown (w := w) T B) (hr.mono (by decide)) (by rfl) T.m_l_grown T.F_l_grown.kp T.bi_l_grown .nil pass0 (pa_cons (pv 0) (pa_cons (pv 1) (pa_cons (pe_disp (pps_cons pe_str (pe_call (ok_l_cell (w := w) T B) (hr.mono (by decide)) (by rfl) T.m_l_cell T.F_l_cell.kp T.bi_l_cell .nil pass0 (pa_cons (pv 0) pa_nil)) pps_nil) (by rfl) (by rfl) (fun z => by cases z) (by decide)) (pa_cons (pv 2) pa_nil))))))
 (pss_cons (ps_par (i := 4) (j := 5) (by rfl) sc_l_three.nd rfl rfl (by decide) rfl rfl (pa_cons (pe_call (ok_l_draw (w := w) T B) (hr.mono (by decide)) (by rfl) T.m_l_draw T.F_l_draw.kp T.bi_l_draw .nil pass0 (pa_cons (pv 0) (pa_cons pe_int pa_nil))) (pa_cons (pe_call (ok_l_edited (w := w) T B) (hr.mono (by decide)) (by rfl) T.m_l_edited T.F_l_edited.kp T.bi_l_edited .nil pass0 (pa_cons (pv 0) (pa_cons (pv 1) (pa_cons (pv 3) (pa_cons (pe_op op_add pe_int (pe_call (ok_l_draw (w := w) T B) (hr.mono (by decide)) (by rfl) T.m_l_draw T.F_l_draw.kp T.bi_l_draw .nil pass0 (pa_cons (pv 0) (pa_cons pe_int pa_nil)))) pa_nil))))) pa_nil)) (by rfl))
 (pss_cons (ps_set (i := 6) sc_l_three.nd rfl (by first | exact Or.inl rfl | exact Or.inr rfl) (pe_call (ok_l_edited (w := w) T B) (hr.mono (by decide)) (by rfl) T.m_l_edited T.F_l_edited.kp T.bi_l_edited .nil pass0 (pa_cons (pv 0) (pa_cons (pv 1) (pa_cons (pe_ifExp (pt_cmpR op_lt (pv 4) pe_int (nomark _)) (pv 5) (pv 3)) (pa_cons (pe_op op_add pe_int (pe_call (ok_l_draw (w := w) T B) (hr.mono (by decide)) (by rfl) T.m_l_draw T.F_l_draw.kp T.bi_l_draw .nil pass0 (pa_cons (pv 0) (pa_cons pe_int pa_nil)))) pa_nil))))))
 (pss_cons (ps_if (pt_cmpR op_eq (pv 4) pe_int (nomark _))
 (pss_one (ps_ret (pe_lst (pa_cons (pv 3) (pa_cons (pv 5) (pa_cons (pe_callTy call_dictD (by rfl) T.b_dict (by decide +kernel) (pa_cons (pv 5) pa_nil)) pa_nil))))))
 pss_nil)
 (pss_cons (ps_if (pt_cmpR op_eq (pv 4) pe_int (nomark _))
 (pss_one (ps_ret (pe_lst (pa_cons (pv 3) (pa_cons (pe_callTy call_dictD (by rfl) T.b_dict (by decide +kernel) (pa_cons (pv 3) pa_nil)) (pa_cons (pv 6) pa_nil))))))
 pss_nil)
 (pss_cons (ps_if (pt_cmpR op_eq (pv 4) pe_int (nomark _))
 (pss_one (ps_ret (pe_lst (pa_cons (pv 3) (pa_cons (pv 5) (pa_cons (pe_callTy call_dictD (by rfl) T.b_dict (by decide +kernel) (pa_cons (pv 3) pa_nil)) pa_nil))))))
 pss_nil)
 (pss_one (ps_ret (pe_ifExp (pt_cmpR op_eq (pv 4) pe_int (nomark _)) (pe_lst (pa_cons (pv 3) (pa_cons (pv 6) (pa_cons (pv 5) pa_nil)))) (pe_lst (pa_cons (pv 3) (pa_cons (pv 5) (pa_cons (pv 6) pa_nil))))))))))))), ?_⟩
  refine ⟨_, rfl, _, rfl, fun p0 hp0 => ?_⟩
  have s1 := same_upd (o := .dK []) hp0
  have g1 : (upd H p0 (.dK [])) p0 = some (.dK []) := upd_same
  have p1 := hp.same s1
  have npd : p0 ≠ d := (ne_of_none hp.at.choose_spec hp0).symm
  generalize upd H p0 (.dK []) = H1 at s1 g1 p1
  refine ⟨_, rfl, d, c, n, rfl, p1, by omega, fun H2 v k iv ok kp2 p2 => ⟨kp2 _ _ g1 npd, [(.inr "", v)], rfl, by show 1 ≤ 15; decide, _, rfl, ?_⟩⟩
  have g2 := kp2 _ _ g1 npd
  have ce2 : CelR (upd H2 p0 (.dK (mergeK [] [(.inr "", v)]))) (.ref p0) [([], k)] := by
    refine ⟨p0, [([], v)], rfl, ?_, .cons ⟨rfl, iv.tup fun b us h => by rw [upd_ne (ne_of h g2 (by intro z; cases z))]; exact h⟩ .nil⟩
    rw [upd_same]
    show some (HO.dK (putK [] (.inr "") v)) = some (HO.dK [(.inr (sw []), v)])
    rw [mt_eq]
    rfl
  have kpa : Kp d H (upd H2 p0 (.dK (mergeK [] [(.inr "", v)]))) := fun b o hb nb => by
    rw [upd_ne (ne_of_none hb hp0)]
    exact kp2 _ _ (s1 _ _ hb) nb
  have pa : Pen (upd H2 p0 (.dK (mergeK [] [(.inr "", v)]))) d c (n + 3) := by
    obtain ⟨ns, b, l, h1, h2, h3⟩ := p2
    exact ⟨ns, b, l, by rw [upd_ne npd.symm]; exact h1, by rw [upd_ne (ne_of h2 g2 (by intro z; cases z))]; exact h2, h3⟩
  generalize upd H2 p0 (.dK (mergeK [] [(.inr "", v)])) = H3 at ce2 kpa pa
  have lw0 : Lw z [([], k)] := ⟨by simp, by simp, fun p hp => by simp at hp; subst hp; simp, fun p hp c hc => (by simp at hp; subst hp; cases hc), fun r hr => (by rw [List.mem_singleton.mp hr]; exact ok)⟩
  refine ⟨d, c, p0, n + 3, m, z, [([], k)], rfl, pa, by omega, hm, lz, ce2, lw0, by simp, fun H4 e0 rs0 ce0 w0 rl0 he0 kp4 p4 => ?_⟩
  have kp4 := kpa.trans kp4
  replace rl0 : rs0.length ≤ 1 + m := rl0
  dsimp only [gName]
  -- way, one
  refine ⟨_, rfl, d, c, _, 9, rfl, p4, by omega, by decide, by decide, fun H5 r r0 r1 kp5 p5 => ⟨_, rfl, _, rfl, _, rfl, _, rfl, d, c, _, 4, rfl, p5, by omega, by decide, by decide, fun H6 r' r0' r1' kp6 p6 => ⟨1, r', rfl, rfl, ?_⟩⟩⟩
  have ce05 := (ce0.kp w0.root p4 kp5).kp w0.root p5 kp6
  have kp6 := (kp4.trans kp5).trans kp6
  refine ⟨d, c, e0, _, (1 + r').toNat, z, rs0, by rw [← toN r' r0']; rfl, p6, by omega, by omega, lz, ce05, w0, by omega, fun H7 e1 rs1 ce1 w1 rl1 he1 kp7 p7 => ?_⟩
  have ce07 := ce05.kp w0.root p6 kp7
  have kp7 := kp6.trans kp7
  have p7 := p7.mono (m := n + 110) (by omega)
  have rl1' : rs1.length ≤ 19 := by omega
  refine ⟨_, _, rfl, ?_⟩
  -- other
  dsimp only
  refine asgS (fun v H' => ∃ e2 rs2, v = .ref e2 ∧ CelR H' (.ref e2) rs2 ∧ Lw z rs2 ∧ rs2.length ≤ 27 ∧ Kp d H7 H' ∧ Pen H' d c (n + 160)) (fun R hR => ?_) ?_
  · have go : ∀ (eX : Addr) (rsX : List Rw), CelR H7 (.ref eX) rsX → Lw z rsX → rsX.length ≤ 19 → ∀ R' : List V → Hp → Prop, (∀ H8 r0, 0 ≤ r0 → r0 < 4 → CelR H8 (.ref eX) rsX → Pen H8 d c (n + 111) → Kp d H7 H8 → R' [.int (1 + r0)] H8) → tCons (tOp (rI0 fun i j => V.int (i + j)) (tC (V.int 1)) (tCall spDraw [] E0 (tCons (tVar 0) (tCons (tC (V.int 4)) tNil)))) tNil ([some (.ref d), some (.str (sw z)), some (.int (m : Nat)), some (.ref e0), some (.int r), some (.ref e1), none]) H7 R' := fun eX rsX ceX wX lX R' k1 => by
      refine ⟨_, rfl, d, c, _, 4, rfl, p7, by omega, by decide, by decide, fun H8 r8 h0 h1 kp8 p8 => ⟨1, r8, rfl, rfl, ?_⟩⟩
      exact k1 H8 r8 h0 h1 (ceX.kp wX.root p7 kp8) p8 kp8
    refine ⟨_, rfl, _, rfl, _, rfl, _, _, rfl, rfl, _, rfl, ?_⟩
    have end2 : ∀ (eX : Addr) (rsX : List Rw), CelR H7 (.ref eX) rsX → Lw z rsX → rsX.length ≤ 19 → tCons (tOp (rI0 fun i j => V.int (i + j)) (tC (V.int 1)) (tCall spDraw [] E0 (tCons (tVar 0) (tCons (tC (V.int 4)) tNil)))) tNil ([some (.ref d), some (.str (sw z)), some (.int (m : Nat)), some (.ref e0), some (.int r), some (.ref e1), none]) H7 fun xs H2 => spEdited (V.ref d :: V.str (sw z) :: V.ref eX :: xs ++ []) H2 R E0 := fun eX rsX ceX wX lX => by
      refine go eX rsX ceX wX lX _ fun H8 r8 h0 h1 ce8 p8 kp8 => ?_
      refine ⟨d, c, eX, _, (1 + r8).toNat, z, rsX, by rw [← toN r8 h0]; rfl, p8, by omega, by omega, lz, ce8, wX, by omega, fun H9 e2 rs2 ce9 w9 rl9 he9 kp9 p9 => hR _ _ ⟨e2, rs2, rfl, ce9, w9, by omega, kp8.trans kp9, p9.mono (by omega)⟩⟩
    refine ite2 (fun _ => ⟨_, rfl, end2 e1 rs1 ce1 w1 rl1'⟩) (fun _ => ⟨_, rfl, end2 e0 rs0 ce07 w0 (by omega)⟩)
  rintro v H8 ⟨e2, rs2, rfl, ce2', w2, rl2, kp8, p8⟩
  have ce08 := ce07.kp w0.root p7 kp8
  have ce18 := ce1.kp w1.root p7 kp8
  have kp8 := kp7.trans kp8
  dsimp only [gName]
  -- the list
  have fin : ∀ {Hx : Hp} {a b c' : Addr} {ra rb rc : List Rw}, Kp d H Hx → Pen Hx d c (n + 160) → CelR Hx (.ref a) ra → CelR Hx (.ref b) rb → CelR Hx (.ref c') rc → Lw z ra → Lw z rb → Lw z rc → ra.length ≤ 27 → rb.length ≤ 27 → rc.length ≤ 27 → ∀ l, Hx l = none → Q (.ref l) (upd Hx l (.lst [.ref a, .ref b, .ref c'])) := fun {Hx a b c' ra rb rc} k p h1 h2 h3 l1 l2 l3 n1 n2 n3 l hl => by
    have s := same_upd (o := .lst [V.ref a, .ref b, .ref c']) hl
    exact q _ l ra rb rc ⟨⟨a, b, c', upd_same, CelR.same s h1, CelR.same s h2, CelR.same s h3⟩, l1, l2, l3, n1, n2, n3⟩ (k.trans (Same.kp s)) (p.same s)
  -- a copy
  have copy : ∀ {eX : Addr} {rsX : List Rw}, CelR H8 (.ref eX) rsX → ∃ kvs, H8 eX = some (.dK kvs) ∧ ∀ u, H8 u = none → Same H8 (upd H8 u (.dK kvs)) ∧ CelR (upd H8 u (.dK kvs)) (.ref u) rsX := fun {eX rsX} h => by
    obtain ⟨kvs, h1, h2⟩ := h.copy
    exact ⟨kvs, h1, fun u hu => ⟨same_upd hu, h2 u hu⟩⟩
  refine ⟨_, rfl, rfl, _, rfl, ?_⟩
  refine ite2 (fun _ => ?_) (fun _ => ?_)
  · obtain ⟨kv, hk, hc⟩ := copy ce18
    refine ⟨_, rfl, _, rfl, _, rfl, e1, kv, rfl, .inl hk, fun u hu => ⟨by show 3 ≤ sizeLine; decide, ?_⟩⟩
    obtain ⟨s, ceu⟩ := hc u hu
    exact fin (kp8.trans (Same.kp s)) (p8.same s) (CelR.same s ce08) (CelR.same s ce18) ceu w0 w1 w1 (by omega) (by omega) (by omega)
  refine nextS ?_
  dsimp only
  refine ⟨_, rfl, rfl, _, rfl, ?_⟩
  refine ite2 (fun _ => ?_) (fun _ => ?_)
  · obtain ⟨kv, hk, hc⟩ := copy ce08
    refine ⟨_, rfl, _, rfl, e0, kv, rfl, .inl hk, fun u hu => ⟨_, rfl, by show 3 ≤ sizeLine; decide, ?_⟩⟩
    obtain ⟨s, ceu⟩ := hc u hu
    exact fin (kp8.trans (Same.kp s)) (p8.same s) (CelR.same s ce08) ceu (CelR.same s ce2') w0 w0 w2 (by omega) (by omega) (by omega)
  refine nextS ?_
  dsimp only
  refine ⟨_, rfl, rfl, _, rfl, ?_⟩
  refine ite2 (fun _ => ?_) (fun _ => ?_)
  · obtain ⟨kv, hk, hc⟩ := copy ce08
    refine ⟨_, rfl, _, rfl, _, rfl, e0, kv, rfl, .inl hk, fun u hu => ⟨by show 3 ≤ sizeLine; decide, ?_⟩⟩
    obtain ⟨s, ceu⟩ := hc u hu
    exact fin (kp8.trans (Same.kp s)) (p8.same s) (CelR.same s ce08) (CelR.same s ce18) ceu w0 w1 w0 (by omega) (by omega) (by omega)
  refine nextS ?_
  dsimp only
  refine ⟨_, rfl, rfl, _, rfl, ?_⟩
  refine ite2 (fun _ => ?_) (fun _ => ?_)
  · exact ⟨_, rfl, _, rfl, _, rfl, by show 3 ≤ sizeLine; decide, fin kp8 p8 ce08 ce2' ce18 w0 w2 w1 (by omega) (by omega) (by omega)⟩
  · exact ⟨_, rfl, _, rfl, _, rfl, by show 3 ≤ sizeLine; decide, fin kp8 p8 ce08 ce18 ce2' w0 w1 w2 (by omega) (by omega) (by omega)⟩
end
end Toy
set_option Elab.async false
set_option linter.all false
set_option maxRecDepth 100000
set_option maxHeartbeats 4000000
namespace Toy
open PySem L2 Sh ShL LamX NdefX
/-! ### the law's rows, trees, values -/
def cellR (rs : List Rw) (p : Wd) : Rw := (p, (rs.lookup p).getD (none, false))
theorem rows_of {z : Wd} {rs : List Rw} (nd : (rs.map (·.1)).Nodup) : ((ordW z (rs.map (·.1))).map (cellR rs)).Perm rs ∧ ((ordW z (rs.map (·.1))).map (cellR rs)).map (·.1) = ordW z (rs.map (·.1)) := by
  have e : (rs.map (·.1)).map (cellR rs) = rs := by
    rw [List.map_map]
    have : ∀ r ∈ rs, ((cellR rs) ∘ (fun x : Rw => x.1)) r = id r := fun r hr => by
      show cellR rs r.1 = r
      unfold cellR
      rw [lookup_of nd hr]
      rfl
    rw [List.map_congr_left this, List.map_id]
  constructor
  · have := (ordW_perm z (rs.map (·.1))).map (cellR rs)
    rw [e] at this
    exact this
  · rw [List.map_map]
    exact List.map_id _
theorem mk_tree0S {T : List (Addr × Str)} {C CL CM CR CN : Addr} {H : Hp} {z : Wd} {a : Addr} {xs : List V} {us : List Rw} {Q : VK} {E : XK} (hz : LetOk z) (ha : SqA H a xs) (tb : Tabs T H) (pr : Paired (RwT H) xs us) (ok : ∀ r ∈ us, RwOk z r) (nd : (us.map (·.1)).Nodup) (par : ∀ p ∈ us.map (·.1), p.dropLast ∈ us.map (·.1)) (h1 : 1 ≤ us.length) (h2 : us.length ≤ 2000)
    (q : ∀ rs, us.Perm rs → rs.map (·.1) = ordW z (us.map (·.1)) → ∀ H' o, Sm T H H' → TreeAt C H' o z rs → Q (.ref o) H') :
    ∀ x dx, H x = none → H dx = none → dx ≠ x → spInit T C CL CM CR CN (.ref x :: ([.str (sw z), .ref a] ++ [])) (upd (upd H dx (.own x)) x (.ins C dx [])) (fun v H2 => v = .non ∧ Q (.ref x) H2) E := by
  have xl : xs.length = us.length := pr.length
  refine mk_treeG (os := us.map some) hz ha (by omega) tb (fun _ _ => rowO_of (paired_mono (fun _ _ h => RwT.e h) pr) ok) (fun hn => absurd ⟨by omega, by omega⟩ hn) (fun _ _ i w => (wrongR_no nd w).elim) (fun _ _ vs p f l => ?_) (fun _ _ vs rs f _ pm od H' o sm t => ?_)
  · rw [fineR_inj f, lone_of_par par] at l
    cases l
  · have e := fineR_inj f
    subst e
    exact q rs pm od H' o sm t
theorem Lw.l200 {z : Wd} {rs : List Rw} (lw : Lw z rs) (hl : rs.length ≤ 200) : ∀ p ∈ rs.map (·.1), p.length ≤ 200 := fun p hp => by
  have := len_of lw.nd lw.par p hp
  rw [List.length_map] at this
  omega
theorem Lw.rok {z : Wd} {rs : List Rw} (lw : Lw z rs) (hl : rs.length ≤ 200) : ∀ r ∈ rs, RwOk z r := fun r hr =>
  ⟨lw.wd _ (List.mem_map.mpr ⟨r, hr, rfl⟩), lw.l200 hl _ (List.mem_map.mpr ⟨r, hr, rfl⟩), lw.vl r hr⟩
def spLRows (T : List (Addr × Str)) : Sp := fun vs H Q _ => ∃ (e : Addr) (z : Wd) (rs : List Rw), vs = [.str (sw z), .ref e] ∧ CelR H (.ref e) rs ∧ Lw z rs ∧ rs.length ≤ 200 ∧ Tabs T H ∧
  ∀ H' t ws, Sm T H H' → H' t = some (.tup ws) → Paired (RwT H') ws ((ordW z (rs.map (·.1))).map (cellR rs)) → Q (.ref t) H'
def spLTree (T : List (Addr × Str)) (C : Addr) : Sp := fun vs H Q _ => ∃ (e : Addr) (z : Wd) (rs : List Rw), vs = [.str (sw z), .ref e] ∧ CelR H (.ref e) rs ∧ Lw z rs ∧ rs.length ≤ 200 ∧ LetOk z ∧ Tabs T H ∧
  ∀ H' o us, Sm T H H' → TreeAt C H' o z us → TrOk z us → us.Perm rs → Q (.ref o) H'
def spLVal : Sp := fun vs H Q _ => ∃ (e : Addr) (p : Wd) (rs : List Rw), vs = [.ref e, .str (sw p)] ∧ CelR H (.ref e) rs ∧ (rs.map (·.1)).Nodup ∧ Q (oV (vO rs p)) H
def spLDue : Sp := fun vs H Q _ => ∃ (l : Addr) (z p : Wd) (r0 r1 r2 : List Rw), vs = [.ref l, .str (sw p)] ∧ Tri H l z r0 r1 r2 ∧
  ∀ H' t, Same H H' → H' t = some (.tup ((dueM (vO r0 p) (vO r1 p) (vO r2 p)).map oV)) → Q (.ref t) H'
section
variable {P : Program} {w : World} {K : PySem.W.Frag} {mg : Str → Option Value} {base : Heap}
theorem ok_l_rows (T : Tx P K mg) (B : Bx T base) : FnOk P w K mg base CX0 5 T.a_l_rows T.fd_l_rows ["_law_letters_here", "_law_found"] (spLRows (tabs T)) := by
  refine okT T.F_l_rows sc_l_rows (fun vs H Q E h => ?_) (fun cdv A outer s H vs Q E hcd hr h => ?_)
  · obtain ⟨e, z, rs, rfl, _⟩ := h
    rfl
  have hu := hu_of hr
  have hu65 := hu65_of hr
  obtain ⟨e, z, rs, rfl, ce, lw, rl, tb, q⟩ := h
  refine ⟨_, (pss_one (ps_ret (pe_callTy call_tuple_of (by rfl) T.b_tuple (by decide +kernel) (pa_cons (pe_lc (own := [("_law_place", 2)]) (g := gName 2) rfl sc_l_rows.nd (pi_list (pe_call (ok_l_order (w := w) T B) (hr.mono (by decide)) (by rfl) T.m_l_order T.F_l_order.kp T.bi_l_order .nil pass0 (pa_cons (pv 0) (pa_cons (pe_callTy (call_list_dK rfl) (by rfl) T.b_list (by decide +kernel) (pa_cons (pv 1) pa_nil)) pa_nil)))) (blkOk_by (own := [("_law_place", 2)]) (N := N_l_rows) (sc := defScope s_l_rows) (by decide +kernel)) (fun _ _ _ _ _ => (pg_name (i := 2) sc_l_rows.nd rfl (by first | exact Or.inl rfl | exact Or.inr rfl))) (fun _ _ _ _ _ => pts_nil) (fun _ _ _ _ _ => (pe_tup (pa_cons (pv 2) (pa_cons (pe_ix (by exact ix_tup : IxR _ (rIxT K)) (pe_dget hu (pv 1) (pv 2) (fun _ _ => rfl)) pe_int (fun _ _ => rfl)) (pa_cons (pe_ix (by exact ix_tup : IxR _ (rIxT K)) (pe_dget hu (pv 1) (pv 2) (fun _ _ => rfl)) pe_int (fun _ _ => rfl)) pa_nil)))))) pa_nil)))), ?_⟩
  obtain ⟨kvs, hk, hkv⟩ := ce.keys
  refine ⟨_, rfl, _, rfl, e, kvs, rfl, hk, fun la hla => ?_⟩
  rw [hkv]
  have s1 := same_upd (o := .lst (wsV (rs.map (·.1)))) hla
  refine ⟨z, la, rs.map (·.1), rfl, SqL.of upd_same, fun p hp => ⟨lw.l200 rl p hp, lw.wd p hp⟩, tb.ext s1, fun H2 a sm ha => ⟨a, rfl, ⟨_, SqL.of ha⟩, fun D hD => ?_⟩⟩
  have smA : Sm (tabs T) H H2 := (Sm.of tb s1).trans sm
  have ce2 : CelR H2 (.ref e) rs := by
    obtain ⟨l, h1, h2⟩ := ce.at
    exact ⟨e, l, rfl, smA.get h1, paired_mono (fun _ _ h => ⟨h.1, h.2.tup fun b us q => smA.get q⟩) h2⟩
  have ol : (ordW z (rs.map (·.1))).length ≤ 200 := by rw [ordW_len, List.length_map]; exact rl
  refine lcG (walk_list (K := K) (a := a) (xs := wsV (ordW z (rs.map (·.1))))) yat (paired_self _) (fun _ H' => Same H2 H') (same_upd hD) (fun _ H' acc s => same_of_new s hD) (fun _ H' _ s => SqL.of (s _ _ ha)) (by omega) (fun _ => true) (fun H' v p => RwT H' v (cellR rs p)) (fun H' acc acc' v p hDl h => h.tup fun b us hb => by rw [upd_ne (ne_of hb hDl (by intro z; cases z))]; exact hb) (fun m x p H' acc R N hm hx s hDH k1 _ => ?_) (fun H' acc s hDH pa => ?_)
  · subst hx
    have hp : p ∈ rs.map (·.1) := ordW_mem.mp (List.mem_of_getElem? hm)
    obtain ⟨t, k, hk1, _, hg, ht⟩ := (CelR.same s ce2).cell lw.nd hp
    have ek : cellR rs p = (p, k) := by unfold cellR; rw [hk1]; rfl
    refine ⟨rfl, yes_ite ⟨_, rfl, _, rfl, _, rfl, e, _, rfl, hg, t, _, _, _, rfl, rfl, SqT.of ht, atI_nat (j := 0) rfl, _, rfl, _, rfl, e, _, rfl, hg, t, _, _, _, rfl, rfl, SqT.of ht, atI_nat (j := 1) rfl, by show 3 ≤ sizeLine; decide, fun u hu => ?_⟩⟩
    have su := same_upd (o := .tup [V.str (sw p), oV k.1, .bl k.2]) hu
    exact k1 rfl _ _ (s.trans su) (su _ _ hDH) (fun v p h => h.same su) (by rw [ek]; exact ⟨u, rfl, upd_same⟩)
  · rw [filter_tt] at pa
    refine ⟨D, acc, rfl, .inl ⟨SqL.of hDH, fun l hl => ?_⟩⟩
    have sl := same_upd (o := .tup acc) hl
    exact q _ l acc ((smA.ext s).ext sl) upd_same (paired_map (fun v p h => RwT.same sl h) pa)
theorem ok_l_tree (T : Tx P K mg) (B : Bx T base) : FnOk P w K mg base CX0 7 T.a_l_tree T.fd_l_tree ["_law_letters_here", "_law_found"] (spLTree (tabs T) T.c_Tree) := by
  refine okT T.F_l_tree sc_l_tree (fun vs H Q E h => ?_) (fun cdv A outer s H vs Q E hcd hr h => ?_)
  · obtain ⟨e, z, rs, rfl, _⟩ := h
    rfl
  have hu := hu_of hr
  have hu65 := hu65_of hr
  obtain ⟨e, z, rs, rfl, ce, lw, rl, lz, tb, q⟩ := h
  refine ⟨_, (pss_one (ps_ret (pe_make (E := fun _ _ _ => False) T.mk_Tree (ok_Tree_init (w := w) T B) (hr.mono (by decide)) (by rfl) T.m_Tree T.bi_Tree_init .nil (passes_call LamX.takes0 (fun _ _ _ _ h => h)) (pa_cons (pv 0) (pa_cons (pe_call (ok_l_rows (w := w) T B) (hr.mono (by decide)) (by rfl) T.m_l_rows T.F_l_rows.kp T.bi_l_rows .nil pass0 (pa_cons (pv 0) (pa_cons (pv 1) pa_nil))) pa_nil))))), ?_⟩
  obtain ⟨pm, od⟩ := rows_of (z := z) lw.nd
  generalize hus : (ordW z (rs.map (·.1))).map (cellR rs) = us at pm od
  have pmm := pm.map (·.1)
  refine retE (makeI ?_)
  refine ⟨_, rfl, _, rfl, _, rfl, e, z, rs, rfl, ce, lw, rl, tb, fun H2 t ws sm ht pr => ?_⟩
  rw [hus] at pr
  show ∀ x dx, H2 x = none → H2 dx = none → dx ≠ x → spInit (tabs T) T.c_Tree T.c_BadLetters T.c_TooMany T.c_BadRow T.c_Lone (.ref x :: ([.str (sw z), .ref t] ++ [])) (upd (upd H2 dx (.own x)) x (.ins T.c_Tree dx [])) (fun v H2 => v = .non ∧ Q (.ref x) H2) _
  have lpos : 1 ≤ us.length := by
    have := List.length_pos_of_mem lw.root
    rw [List.length_map, ← pm.length_eq] at this
    exact this
  refine mk_tree0S (Q := Q) lz (.inr ht) sm.2 pr (fun r hr => lw.rok rl r (pm.mem_iff.mp hr)) (pmm.nodup_iff.mpr lw.nd) (fun p hp => pmm.mem_iff.mpr (lw.par p (pmm.mem_iff.mp hp))) lpos (by rw [pm.length_eq]; omega) fun rs' pm' od' H3 o sm3 ho => ?_
  have pm2 : rs.Perm rs' := pm.symm.trans pm'
  have od2 : rs'.map (·.1) = ordW z (rs.map (·.1)) := by
    rw [od', od]
    exact ordW_idem lw.wd
  have tr := trok_of (fun r hr => lw.wd _ (List.mem_map.mpr ⟨r, hr, rfl⟩)) (fun r hr => lw.l200 rl _ (List.mem_map.mpr ⟨r, hr, rfl⟩)) lw.nd lw.root lw.par (by omega) pm2 od2
  exact q H3 o rs' (sm.trans sm3) ho tr pm2.symm
theorem ok_l_value_of (T : Tx P K mg) (B : Bx T base) : FnOk P w K mg base CX0 1 T.a_l_value_of T.fd_l_value_of ["_law_found", "_law_word"] spLVal := by
  refine okT T.F_l_value_of sc_l_value_of (fun vs H Q E h => ?_) (fun cdv A outer s H vs Q E hcd hr h => ?_)
  · obtain ⟨e, p, rs, rfl, _⟩ := h
    rfl
  have hu := hu_of hr
  have hu65 := hu65_of hr
  obtain ⟨e, p, rs, rfl, ce, nd, q⟩ := h
  refine ⟨_, (pss_one (ps_ret (pe_ifExp (pt_cmp (pc_din hu (pv 1) (pv 0))) (pe_ix ix_tup (pe_dget hu (pv 0) (pv 1) (fun _ _ => rfl)) pe_int (fun _ _ => rfl)) pe_non))), ?_⟩
  obtain ⟨o, hg, hi, hs⟩ := ce.get p
  refine ⟨_, rfl, _, rfl, e, o, rfl, hg, _, rfl, ?_⟩
  rw [hs]
  by_cases hp : p ∈ rs.map (·.1)
  · rw [decide_eq_true hp]
    refine iteT ?_
    obtain ⟨t, k, hk1, _, hg, ht⟩ := ce.cell nd hp
    refine ⟨_, rfl, _, rfl, e, _, rfl, hg, t, _, _, _, rfl, rfl, SqT.of ht, atI_nat (j := 0) rfl, ?_⟩
    have : vO rs p = k.1 := by unfold vO; rw [hk1]; rfl
    rw [← this]
    exact q
  · rw [decide_eq_false hp]
    refine iteF ?_
    rw [vO_out hp] at q
    exact q
theorem ok_l_due (T : Tx P K mg) (B : Bx T base) : FnOk P w K mg base CX0 2 T.a_l_due T.fd_l_due ["_law_three_here", "_law_word"] spLDue := by
  refine okT T.F_l_due sc_l_due (fun vs H Q E h => ?_) (fun cdv A outer s H vs Q E hcd hr h => ?_)
  · obtain ⟨l, z, p, r0, r1, r2, rfl, _⟩ := h
    rfl
  have hu := hu_of hr
  have hu65 := hu65_of hr
  obtain ⟨l, z, p, r0, r1, r2, rfl, tri, q⟩ := h
  obtain ⟨e0, e1, e2, hl, c0, c1, c2⟩ := tri.ex
  refine ⟨_, (pss_cons (ps_asg (pe_lc (own := [("_law_found", 5)]) (g := gName 5) rfl sc_l_due.nd (pi_list (pv 0)) (blkOk_by (own := [("_law_found", 5)]) (N := N_l_due) (sc := defScope s_l_due) (by decide +kernel)) (fun _ _ _ _ _ => (pg_name (i := 5) sc_l_due.nd rfl (by first | exact Or.inl rfl | exact Or.inr rfl))) (fun _ _ _ _ _ => pts_nil) (fun _ _ _ _ _ => (pe_call (ok_l_value_of (w := w) T B) (hr.mono (by decide)) (by rfl) T.m_l_value_of T.F_l_value_of.kp T.bi_l_value_of .nil pass0 (pa_cons (pv 5) (pa_cons (pv 1) pa_nil))))) (pg_unl rfl (pgs_cons (pg_name (i := 2) sc_l_due.nd rfl (by first | exact Or.inl rfl | exact Or.inr rfl)) (pgs_cons (pg_name (i := 3) sc_l_due.nd rfl (by first | exact Or.inl rfl | exact Or.inr rfl)) (pgs_cons (pg_name (i := 4) sc_l_due.nd rfl (by first | exact Or.inl rfl | exact Or.inr rfl)) pgs_nil)))))
 (pss_cons (ps_if (pt_cmpR op_eq (pv 3) (pv 2) (nomark _))
 (pss_one (ps_ret (pe_tup (pa_cons (pv 4) pa_nil))))
 pss_nil)
 (pss_one (ps_ret (pe_ifExp (PW.pt (pw_or (pt_cmpR op_eq (pv 4) (pv 2) (nomark _)) (pw_or1 (pt_cmpR op_eq (pv 3) (pv 4) (nomark _))))) (pe_tup (pa_cons (pv 3) pa_nil)) (pe_tup (pa_cons (pv 3) (pa_cons (pv 4) pa_nil)))))))), ?_⟩
  refine asgS (fun v H' => Same H H' ∧ ∃ l', v = .ref l' ∧ H' l' = some (.lst [oV (vO r0 p), oV (vO r1 p), oV (vO r2 p)])) (fun R hR => ?_) ?_
  · refine ⟨_, rfl, l, rfl, ⟨_, SqL.of hl⟩, fun D hD => ?_⟩
    have pr : Paired (fun v (rs : List Rw) => CelR H v rs ∧ (∃ e, v = .ref e) ∧ (rs.map (·.1)).Nodup) [V.ref e0, .ref e1, .ref e2] [r0, r1, r2] := .cons ⟨c0, ⟨_, rfl⟩, tri.w0.nd⟩ (.cons ⟨c1, ⟨_, rfl⟩, tri.w1.nd⟩ (.cons ⟨c2, ⟨_, rfl⟩, tri.w2.nd⟩ .nil))
    refine lcF (walk_list (K := K) (a := l) (xs := [V.ref e0, .ref e1, .ref e2])) yat pr hD (fun H' s => SqL.of (s _ _ hl)) (by show 3 ≤ 40000; omega) (fun _ => true) (fun rs => oV (vO rs p)) (fun x rs H' R' N hm hx s k1 _ => ⟨rfl, yes_ite ?_⟩) (fun H' s hDH => ?_)
    · obtain ⟨hc, ⟨e, rfl⟩, nd⟩ := hx
      exact ⟨_, rfl, _, rfl, e, p, rs, rfl, CelR.same s hc, nd, k1 rfl⟩
    · rw [filter_tt] at hDH
      exact hR _ _ ⟨s, D, rfl, hDH⟩
  rintro v H1 ⟨s1, l', rfl, hl'⟩
  refine ⟨l', _, rfl, SqL.of hl', rfl, _, _, rfl, _, _, rfl, _, _, rfl, rfl, ?_⟩
  generalize vO r0 p = b at q
  generalize vO r1 p = o at q
  generalize vO r2 p = t at q
  have fin : ∀ ls : List OI, dueM b o t = ls → ∀ r, H1 r = none → Q (.ref r) (upd H1 r (.tup (ls.map oV))) := fun ls e r hr' => q _ _ (s1.trans (same_upd hr')) (by rw [e, upd_same])
  refine ⟨_, rfl, _, rfl, ov_scal _ _, _, rfl, iteD (fun h1 => ?_) (fun h1 => ?_)⟩
  all_goals rw [oveq_iff] at h1
  · exact ⟨_, rfl, by show 1 ≤ sizeLine; decide, fin [t] (by unfold dueM; rw [if_pos h1])⟩
  refine nextS ?_
  dsimp only
  refine ⟨_, rfl, _, rfl, ov_scal _ _, _, rfl, iteD (fun h2 => ?_) (fun h2 => ?_)⟩
  all_goals rw [oveq_iff] at h2
  · refine iteT ?_
    exact ⟨_, rfl, by show 1 ≤ sizeLine; decide, fin [o] (by unfold dueM; rw [if_neg h1, if_pos (.inl h2)])⟩
  refine ⟨_, rfl, _, rfl, ov_scal _ _, _, rfl, iteD (fun h3 => ?_) (fun h3 => ?_)⟩
  all_goals rw [oveq_iff] at h3
  · exact ⟨_, rfl, by show 1 ≤ sizeLine; decide, fin [o] (by unfold dueM; rw [if_neg h1, if_pos (.inr h3)])⟩
  · exact ⟨_, rfl, _, rfl, by show 2 ≤ sizeLine; decide, fin [o, t] (by unfold dueM; rw [if_neg h1, if_neg (fun z => z.elim h2 h3)])⟩
end
end Toy
set_option Elab.async false
set_option linter.all false
set_option maxRecDepth 100000
set_option maxHeartbeats 4000000
namespace Toy
open PySem L2 Sh ShL LamX NdefX
/-! ### words that are asked; values that are none -/
def spAsked : Sp := fun vs H Q _ => ∃ (d c l : Addr) (n : Nat) (z : Wd) (r0 r1 r2 : List Rw), vs = [.ref d, .str (sw z), .ref l] ∧ Pen H d c n ∧ n ≤ 60000 ∧ LetOk z ∧ Tri H l z r0 r1 r2 ∧
  ∀ H' a (ws : List Wd), H' a = some (.lst (wsV ws)) → ws.length ≤ 100 → Kp d H H' → Pen H' d c (n + 1) → Q (.ref a) H'
structure Trs (C : Addr) (H : Hp) (tr : Addr) (z : Wd) (u0 u1 u2 : List Rw) : Prop where
  ex : ∃ a b c, H tr = some (.lst [.ref a, .ref b, .ref c]) ∧ TreeAt C H a z u0 ∧ TreeAt C H b z u1 ∧ TreeAt C H c z u2
  t0 : TrOk z u0
  t1 : TrOk z u1
  t2 : TrOk z u2
theorem Trs.same {C : Addr} {H H' : Hp} {tr : Addr} {z : Wd} {u0 u1 u2 : List Rw} (h : Trs C H tr z u0 u1 u2) (s : Same H H') : Trs C H' tr z u0 u1 u2 := by
  obtain ⟨⟨a, b, c, h1, h2, h3, h4⟩, t0, t1, t2⟩ := h
  exact ⟨⟨a, b, c, s _ _ h1, h2.same s, h3.same s, h4.same s⟩, t0, t1, t2⟩
theorem Trs.kp {C : Addr} {H H' : Hp} {tr d c : Addr} {n : Nat} {z : Wd} {u0 u1 u2 : List Rw} (h : Trs C H tr z u0 u1 u2) (hp : Pen H d c n) (s : Kp d H H') : Trs C H' tr z u0 u1 u2 := by
  obtain ⟨⟨a, b, e, h1, h2, h3, h4⟩, t0, t1, t2⟩ := h
  obtain ⟨kv, hd⟩ := hp.at
  exact ⟨⟨a, b, e, s _ _ h1 (ne_of h1 hd (by intro z; cases z)), h2.kp hp s, h3.kp hp s, h4.kp hp s⟩, t0, t1, t2⟩
theorem Trs.sm {T : List (Addr × Str)} {C : Addr} {H H' : Hp} {tr : Addr} {z : Wd} {u0 u1 u2 : List Rw} (h : Trs C H tr z u0 u1 u2) (s : Sm T H H') : Trs C H' tr z u0 u1 u2 := by
  obtain ⟨⟨a, b, c, h1, h2, h3, h4⟩, t0, t1, t2⟩ := h
  exact ⟨⟨a, b, c, s.get h1, h2.sm s, h3.sm s, h4.sm s⟩, t0, t1, t2⟩
theorem Tri.same {H H' : Hp} {l : Addr} {z : Wd} {r0 r1 r2 : List Rw} (h : Tri H l z r0 r1 r2) (s : Same H H') : Tri H' l z r0 r1 r2 := by
  obtain ⟨⟨a, b, c, h1, h2, h3, h4⟩, w0, w1, w2, l0, l1, l2⟩ := h
  exact ⟨⟨a, b, c, s _ _ h1, CelR.same s h2, CelR.same s h3, CelR.same s h4⟩, w0, w1, w2, l0, l1, l2⟩
theorem Tri.kp {H H' : Hp} {l d c : Addr} {n : Nat} {z : Wd} {r0 r1 r2 : List Rw} (h : Tri H l z r0 r1 r2) (hp : Pen H d c n) (s : Kp d H H') : Tri H' l z r0 r1 r2 := by
  obtain ⟨⟨a, b, e, h1, h2, h3, h4⟩, w0, w1, w2, l0, l1, l2⟩ := h
  obtain ⟨kv, hd⟩ := hp.at
  exact ⟨⟨a, b, e, s _ _ h1 (ne_of h1 hd (by intro z; cases z)), h2.kp w0.root hp s, h3.kp w1.root hp s, h4.kp w2.root hp s⟩, w0, w1, w2, l0, l1, l2⟩
theorem CelR.sm {T : List (Addr × Str)} {H H' : Hp} {v : V} {rs : List Rw} (s : Sm T H H') (h : CelR H v rs) : CelR H' v rs := let ⟨d, l, e, h1, h2⟩ := h; ⟨d, l, e, s.get h1, paired_mono (fun _ _ h => ⟨h.1, h.2.tup fun b us q => s.get q⟩) h2⟩
theorem Tri.sm {T : List (Addr × Str)} {H H' : Hp} {l : Addr} {z : Wd} {r0 r1 r2 : List Rw} (h : Tri H l z r0 r1 r2) (s : Sm T H H') : Tri H' l z r0 r1 r2 := by
  obtain ⟨⟨a, b, c, h1, h2, h3, h4⟩, w0, w1, w2, l0, l1, l2⟩ := h
  exact ⟨⟨a, b, c, s.get h1, h2.sm s, h3.sm s, h4.sm s⟩, w0, w1, w2, l0, l1, l2⟩
def spOdd (C : Addr) : Sp := fun vs H Q _ => ∃ (d c tr : Addr) (n : Nat) (z : Wd) (u0 u1 u2 : List Rw), vs = [.ref d, .ref tr] ∧ Pen H d c n ∧ n ≤ 60000 ∧ LetOk z ∧ Trs C H tr z u0 u1 u2 ∧
  ∀ H', Kp d H H' → Pen H' d c (n + 1) → Q (.bl true) H'
section
variable {P : Program} {w : World} {K : PySem.W.Frag} {mg : Str → Option Value} {base : Heap}
theorem ok_l_asked_words (T : Tx P K mg) (B : Bx T base) : FnOk P w K mg base CX0 3 T.a_l_asked_words T.fd_l_asked_words ["_law_pen", "_law_letters_here", "_law_three_here"] spAsked := by
  refine okT T.F_l_asked_words sc_l_asked_words (fun vs H Q E h => ?_) (fun cdv A outer s H vs Q E hcd hr h => ?_)
  · obtain ⟨d, c, l, n, z, r0, r1, r2, rfl, _⟩ := h
    rfl
  have hu := hu_of hr
  have hu65 := hu65_of hr
  obtain ⟨d, c, l, n, z, r0, r1, r2, rfl, hp, hn, lz, tri, q⟩ := h
  have z2 := lz.l2
  refine ⟨_, (pss_cons (ps_set (i := 3) sc_l_asked_words.nd rfl (by first | exact Or.inl rfl | exact Or.inr rfl) (pe_op op_cat (pe_op op_cat (pe_callTy (call_list_dK rfl) (by rfl) T.b_list (by decide +kernel) (pa_cons (pe_ix ix_list (pv 2) pe_int (fun _ _ => rfl)) pa_nil)) (pe_callTy (call_list_dK rfl) (by rfl) T.b_list (by decide +kernel) (pa_cons (pe_ix ix_list (pv 2) pe_int (fun _ _ => rfl)) pa_nil))) (pe_callTy (call_list_dK rfl) (by rfl) T.b_list (by decide +kernel) (pa_cons (pe_ix ix_list (pv 2) pe_int (fun _ _ => rfl)) pa_nil))))
 (pss_one (ps_ret (pe_op op_cat (pv 3) (pe_lst (pa_cons (pe_op op_add_str (pe_ix ix_list (pv 3) (pe_un un_neg pe_int) (fun _ _ => rfl)) (pe_ix ix_str (pv 1) pe_int (fun _ _ => rfl))) (pa_cons (pe_op op_add_str (pe_ix ix_list (pv 3) pe_int (fun _ _ => rfl)) (pe_op op_mulS (pe_ix ix_str (pv 1) pe_int (fun _ _ => rfl)) pe_int)) (pa_cons (pe_op op_add_str (pe_call (ok_l_pick (w := w) T B) (hr.mono (by decide)) (by rfl) T.m_l_pick T.F_l_pick.kp T.bi_l_pick .nil pass0 (pa_cons (pv 0) (pa_cons (pv 3) pa_nil))) pe_str) (pa_cons pe_str (pa_cons pe_str pa_nil)))))))))), ?_⟩
  obtain ⟨e0, e1, e2, hl, c0, c1, c2⟩ := tri.ex
  have tl0 := tri.l0
  have tl1 := tri.l1
  have tl2 := tri.l2
  refine asgS (fun v H' => Same H H' ∧ ∃ a, v = .ref a ∧ H' a = some (.lst (wsV (r0.map (·.1) ++ (r1.map (·.1) ++ r2.map (·.1)))))) (fun R hR => ?_) ?_
  · obtain ⟨k0, hk0, ek0⟩ := c0.keys
    refine ⟨_, rfl, l, _, 0, .ref e0, rfl, rfl, SqL.of hl, rfl, e0, k0, rfl, hk0, fun a0 ha0 => ?_⟩
    rw [ek0]
    have s0 := same_upd (o := .lst (wsV (r0.map (·.1)))) ha0
    have g0 : (upd H a0 (.lst (wsV (r0.map (·.1))))) a0 = some (.lst (wsV (r0.map (·.1)))) := upd_same
    generalize upd H a0 (.lst (wsV (r0.map (·.1)))) = H1 at s0 g0
    obtain ⟨k1, hk1, ek1⟩ := (CelR.same s0 c1).keys
    refine ⟨_, rfl, l, _, 1, .ref e1, rfl, rfl, SqL.of (s0 _ _ hl), rfl, e1, k1, rfl, hk1, fun a1 ha1 => ?_⟩
    rw [ek1]
    have s1 := same_upd (o := .lst (wsV (r1.map (·.1)))) ha1
    have g1 : (upd H1 a1 (.lst (wsV (r1.map (·.1))))) a1 = some (.lst (wsV (r1.map (·.1)))) := upd_same
    have g0 := s1 _ _ g0
    have s1 := s0.trans s1
    generalize upd H1 a1 (.lst (wsV (r1.map (·.1)))) = H2 at s1 g1 g0
    refine ⟨a0, a1, _, _, rfl, rfl, g0, g1, by unfold wsV; simp only [List.length_map]; rw [sizeLine_eq]; omega, fun a2 ha2 => ?_⟩
    have s2 := same_upd (o := .lst (wsV (r0.map (·.1)) ++ wsV (r1.map (·.1)))) ha2
    have g2 : (upd H2 a2 (.lst (wsV (r0.map (·.1)) ++ wsV (r1.map (·.1))))) a2 = some (.lst (wsV (r0.map (·.1)) ++ wsV (r1.map (·.1)))) := upd_same
    have s2 := s1.trans s2
    generalize upd H2 a2 (.lst (wsV (r0.map (·.1)) ++ wsV (r1.map (·.1)))) = H3 at s2 g2
    obtain ⟨k2, hk2, ek2⟩ := (CelR.same s2 c2).keys
    refine ⟨_, rfl, l, _, 2, .ref e2, rfl, rfl, SqL.of (s2 _ _ hl), rfl, e2, k2, rfl, hk2, fun a3 ha3 => ?_⟩
    rw [ek2]
    have s3 := same_upd (o := .lst (wsV (r2.map (·.1)))) ha3
    have g3 : (upd H3 a3 (.lst (wsV (r2.map (·.1))))) a3 = some (.lst (wsV (r2.map (·.1)))) := upd_same
    have g2 := s3 _ _ g2
    have s3 := s2.trans s3
    generalize upd H3 a3 (.lst (wsV (r2.map (·.1)))) = H4 at s3 g3 g2
    refine ⟨a2, a3, _, _, rfl, rfl, g2, g3, by unfold wsV; simp only [List.length_append, List.length_map]; rw [sizeLine_eq]; omega, fun a4 ha4 => hR _ _ ⟨s3.trans (same_upd ha4), a4, rfl, ?_⟩⟩
    rw [upd_same]
    unfold wsV
    rw [List.map_append, List.map_append, List.append_assoc]
  rintro v H1 ⟨s1, a, rfl, ha⟩
  dsimp only [gName]
  generalize hws : r0.map (·.1) ++ (r1.map (·.1) ++ r2.map (·.1)) = ws at ha
  have wl : ws.length ≤ 81 := by rw [← hws]; simp only [List.length_append, List.length_map]; omega
  have wpos : 0 < ws.length := by
    have := List.length_pos_of_mem tri.w0.root
    rw [← hws]
    simp only [List.length_append, List.length_map] at this ⊢
    omega
  have w200 : ∀ p ∈ ws, p.length ≤ 200 := fun p hp => by
    rw [← hws] at hp
    rcases List.mem_append.mp hp with h | h
    · exact tri.w0.l200 (by omega) p h
    · rcases List.mem_append.mp h with h | h
      · exact tri.w1.l200 (by omega) p h
      · exact tri.w2.l200 (by omega) p h
  have p1 := hp.same s1
  have kp1 := Same.kp (d := d) s1
  have wvl : (wsV ws).length = ws.length := by unfold wsV; rw [List.length_map]
  -- words[-1] + letters[1]
  obtain ⟨pl, hpl, elast⟩ : ∃ p ∈ ws, atI (wsV ws) (-1) = some (.str (sw p)) := by
    have hne : ws ≠ [] := List.length_pos_iff.mp wpos
    refine ⟨ws.getLast hne, List.getLast_mem hne, ?_⟩
    unfold atI ixN
    rw [wvl, if_neg (by decide), if_pos (by omega)]
    show (wsV ws)[((-1 : Int) + (ws.length : Int)).toNat]? = _
    rw [show ((-1 : Int) + (ws.length : Int)).toNat = ws.length - 1 by omega]
    unfold wsV
    rw [List.getElem?_map, List.getLast_eq_getElem, List.getElem?_eq_getElem (by omega)]
    rfl
  obtain ⟨c1', hc1⟩ : ∃ c1', z[1]? = some c1' := ⟨_, List.getElem?_eq_getElem (by omega)⟩
  obtain ⟨c0', hc0⟩ : ∃ c0', z[0]? = some c0' := ⟨_, List.getElem?_eq_getElem (by omega)⟩
  obtain ⟨pf, hpf, efirst⟩ : ∃ p ∈ ws, atI (wsV ws) 0 = some (.str (sw p)) := by
    refine ⟨ws[0], List.getElem_mem wpos, atI_nat (j := 0) ?_⟩
    unfold wsV
    rw [List.getElem?_map, List.getElem?_eq_getElem wpos]
    rfl
  have zl : (sw z).length ≤ sizeLine := by rw [sw_len, sizeLine_eq]; have := lz.l26; omega
  refine ⟨_, rfl, _, rfl, _, rfl, a, _, -1, _, rfl, rfl, SqL.of ha, elast, ?_⟩
  refine ⟨_, rfl, sw z, 1, c1', rfl, rfl, zl, (by rw [sw_list]; exact atI_nat (j := 1) hc1), sw pl, ⟨#[c1']⟩, rfl, rfl, by rw [sw_len, sizeLine_eq]; have := w200 pl hpl; show _ + 1 ≤ _; omega, ?_⟩
  refine ⟨_, rfl, a, _, 0, _, rfl, rfl, SqL.of ha, efirst, ?_⟩
  refine ⟨_, rfl, sw z, 0, c0', rfl, rfl, zl, (by rw [sw_list]; exact atI_nat (j := 0) hc0), ?_⟩
  have rep3 : (repS ⟨#[c0']⟩ 3).length ≤ 3 := by
    have : repS ⟨#[c0']⟩ 3 = ⟨#[c0', c0', c0']⟩ := rfl
    rw [this]
    exact Nat.le_refl _
  refine ⟨⟨#[c0']⟩, 3, rfl, rfl, by decide, by show 1 ≤ 1000; decide, sw pf, repS ⟨#[c0']⟩ 3, rfl, rfl, by rw [sw_len, sizeLine_eq]; have := w200 pf hpf; omega, ?_⟩
  obtain ⟨kv, hd⟩ := p1.at
  have nad : a ≠ d := ne_of ha hd (by intro z; cases z)
  refine ⟨_, rfl, _, rfl, .inl ⟨d, c, a, n, wsV ws, rfl, p1, by omega, SqL.of ha, by omega, by omega, nad, fun H2 x hx kp2 p2 => ?_⟩⟩
  obtain ⟨pp, hpp, rfl⟩ := List.mem_map.mp hx
  have ha2 := kp2 _ _ ha nad
  refine ⟨sw pp, "zz", rfl, rfl, by rw [sw_len, sizeLine_eq]; have := w200 pp hpp; show _ + 2 ≤ _; omega, ?_⟩
  refine ⟨by show 5 ≤ sizeLine; decide, fun b hb => ?_⟩
  have s3 := same_upd (o := .lst [V.str (sw pl ++ ⟨#[c1']⟩), .str (sw pf ++ repS ⟨#[c0']⟩ 3), .str (sw pp ++ "zz"), .str "none", .str "Z"]) hb
  have g3 : (upd H2 b (.lst [V.str (sw pl ++ ⟨#[c1']⟩), .str (sw pf ++ repS ⟨#[c0']⟩ 3), .str (sw pp ++ "zz"), .str "none", .str "Z"])) b = some (.lst [V.str (sw pl ++ ⟨#[c1']⟩), .str (sw pf ++ repS ⟨#[c0']⟩ 3), .str (sw pp ++ "zz"), .str "none", .str "Z"]) := upd_same
  have p3 := p2.same s3
  have ha3 := s3 _ _ ha2
  have kp3 := (kp1.trans kp2).trans (Same.kp s3)
  generalize upd H2 b (.lst [V.str (sw pl ++ ⟨#[c1']⟩), .str (sw pf ++ repS ⟨#[c0']⟩ 3), .str (sw pp ++ "zz"), .str "none", .str "Z"]) = H3 at s3 g3 p3 ha3 kp3
  refine ⟨a, b, _, _, rfl, rfl, ha3, g3, by rw [wvl, sizeLine_eq]; show ws.length + 5 ≤ _; omega, fun u hu => ?_⟩
  have s4 := same_upd (o := .lst (wsV ws ++ [V.str (sw pl ++ ⟨#[c1']⟩), .str (sw pf ++ repS ⟨#[c0']⟩ 3), .str (sw pp ++ "zz"), .str "none", .str "Z"])) hu
  refine q _ u (ws ++ [(sw pl ++ ⟨#[c1']⟩ : Str).cps.toList, (sw pf ++ repS ⟨#[c0']⟩ 3 : Str).cps.toList, (sw pp ++ "zz" : Str).cps.toList, ("none" : Str).cps.toList, ("Z" : Str).cps.toList]) ?_ (by rw [List.length_append]; show _ + 5 ≤ _; omega) (kp3.trans (Same.kp s4)) (p3.same s4)
  rw [upd_same]
  unfold wsV
  rw [List.map_append]
  simp only [List.map_cons, List.map_nil, ← sw_of]
theorem ok_l_odd_so (T : Tx P K mg) (B : Bx T base) : FnOk P w K mg base CX0 4 T.a_l_odd_so T.fd_l_odd_so ["_law_pen", "_law_trees"] (spOdd T.c_Tree) := by
  refine okT T.F_l_odd_so sc_l_odd_so (fun vs H Q E h => ?_) (fun cdv A outer s H vs Q E hcd hr h => ?_)
  · obtain ⟨d, c, tr, n, z, u0, u1, u2, rfl, _⟩ := h
    rfl
  have hu := hu_of hr
  have hu65 := hu65_of hr
  obtain ⟨d, c, tr, n, z, u0, u1, u2, rfl, hp, hn, lz, ts, q⟩ := h
  refine ⟨_, (pss_cons (ps_set (i := 2) sc_l_odd_so.nd rfl (by first | exact Or.inl rfl | exact Or.inr rfl) (pe_call (ok_l_pick (w := w) T B) (hr.mono (by decide)) (by rfl) T.m_l_pick T.F_l_pick.kp T.bi_l_pick .nil pass0 (pa_cons (pv 0) (pa_cons (pe_lst (pa_cons pe_non (pa_cons pe_int (pa_cons pe_int (pa_cons pe_bl (pa_cons (pe_tup (pa_cons pe_str pa_nil)) (pa_cons (pe_lst (pa_cons pe_str pa_nil)) (pa_cons (pe_lst pa_nil) (pa_cons pe_dnewK (pa_cons (pe_tup pa_nil) (pa_cons pe_str (pa_cons (pe_un un_neg pe_int) (pa_cons pe_str pa_nil))))))))))))) pa_nil))))
 (pss_one (ps_ret (pe_cmpR (op_eqD hr.units) (pe_call (ok_due (w := w) T B) (hr.mono (by decide)) (by rfl) T.m_due T.F_due.kp T.bi_due .nil pass0 (pa_cons (pe_ix ix_list (pv 1) pe_int (fun _ _ => rfl)) (pa_cons (pe_ix ix_list (pv 1) pe_int (fun _ _ => rfl)) (pa_cons (pe_ix ix_list (pv 1) pe_int (fun _ _ => rfl)) (pa_cons (pv 2) pa_nil))))) (pe_tup (pa_cons pe_non pa_nil)) (nomark _))))), ?_⟩
  refine ⟨_, rfl, by show 1 ≤ sizeLine; decide, fun b0 h0 => ?_⟩
  have s0 := same_upd (o := .tup [V.str "a"]) h0
  have g0 : (upd H b0 (.tup [V.str "a"])) b0 = some (.tup [V.str "a"]) := upd_same
  generalize upd H b0 (.tup [V.str "a"]) = H0 at s0 g0
  refine ⟨by show 1 ≤ sizeLine; decide, fun b1 h1 => ?_⟩
  have s1 := same_upd (o := .lst [V.str "a"]) h1
  have g1 : (upd H0 b1 (.lst [V.str "a"])) b1 = some (.lst [V.str "a"]) := upd_same
  have g0 := s1 _ _ g0
  have s1 := s0.trans s1
  generalize upd H0 b1 (.lst [V.str "a"]) = H1 at s1 g0 g1
  refine ⟨Nat.zero_le _, fun b2 h2 => ?_⟩
  have s2 := same_upd (o := .lst []) h2
  have g2 : (upd H1 b2 (.lst [])) b2 = some (.lst []) := upd_same
  have g0 := s2 _ _ g0
  have g1 := s2 _ _ g1
  have s2 := s1.trans s2
  generalize upd H1 b2 (.lst []) = H2 at s2 g0 g1 g2
  intro b3 h3
  have s3 := same_upd (o := .dK []) h3
  have g3 : (upd H2 b3 (.dK [])) b3 = some (.dK []) := upd_same
  have g0 := s3 _ _ g0
  have g1 := s3 _ _ g1
  have g2 := s3 _ _ g2
  have s3 := s2.trans s3
  generalize upd H2 b3 (.dK []) = H3 at s3 g0 g1 g2 g3
  refine ⟨Nat.zero_le _, fun b4 h4 => ?_⟩
  have s4 := same_upd (o := .tup []) h4
  have g4 : (upd H3 b4 (.tup [])) b4 = some (.tup []) := upd_same
  have g0 := s4 _ _ g0
  have g1 := s4 _ _ g1
  have g2 := s4 _ _ g2
  have g3 := s4 _ _ g3
  have s4 := s3.trans s4
  generalize upd H3 b4 (.tup []) = H4 at s4 g0 g1 g2 g3 g4
  refine ⟨_, rfl, by show 12 ≤ sizeLine; decide, fun la hla => .inl ?_⟩
  have s5 := same_upd (o := .lst [V.non, .int 0, .int 1, .bl true, .ref b0, .ref b1, .ref b2, .ref b3, .ref b4, .str "a b", .int (-1), .str "A"]) hla
  have g5 : (upd H4 la (.lst [V.non, .int 0, .int 1, .bl true, .ref b0, .ref b1, .ref b2, .ref b3, .ref b4, .str "a b", .int (-1), .str "A"])) la = some (.lst [V.non, .int 0, .int 1, .bl true, .ref b0, .ref b1, .ref b2, .ref b3, .ref b4, .str "a b", .int (-1), .str "A"]) := upd_same
  have g0 := s5 _ _ g0
  have g1 := s5 _ _ g1
  have g2 := s5 _ _ g2
  have g3 := s5 _ _ g3
  have g4 := s5 _ _ g4
  have s5 := s4.trans s5
  have p5 := hp.same s5
  generalize upd H4 la (.lst [V.non, .int 0, .int 1, .bl true, .ref b0, .ref b1, .ref b2, .ref b3, .ref b4, .str "a b", .int (-1), .str "A"]) = H5 at s5 g0 g1 g2 g3 g4 g5 p5
  obtain ⟨kv, hd⟩ := hp.at
  have hd5 := s5 _ _ hd
  refine ⟨d, c, la, n, _, rfl, p5, by omega, SqL.of g5, by show 0 < 12; decide, by show 12 ≤ 1000; decide, ne_of g5 hd5 (by intro z; cases z), fun H6 x hx kp6 p6 => ?_⟩
  have nd3 : b3 ≠ d := fun e => by rw [e] at h3; rw [s2 _ _ hd] at h3; cases h3
  have g0 := kp6 _ _ g0 (ne_of g0 hd5 (by intro z; cases z))
  have g1 := kp6 _ _ g1 (ne_of g1 hd5 (by intro z; cases z))
  have g2 := kp6 _ _ g2 (ne_of g2 hd5 (by intro z; cases z))
  have g3 := kp6 _ _ g3 nd3
  have g4 := kp6 _ _ g4 (ne_of g4 hd5 (by intro z; cases z))
  have kpA := (Same.kp (d := d) s5).trans kp6
  have ts6 := (ts.same s5).kp p5 kp6
  have no : ∀ t, t ∈ tyNs → t ≠ "str" → PySem.W.kitOne K (.type t) (.type "str") = some false := fun t h h2 => by rw [kit_str h, decide_eq_false h2]
  have sml : ∀ (u : List Rw), TrOk z u → ∀ (p : Wd) (ch : Nat), ch ∈ p → ch ∉ small → valO u (some p) = none := fun u tu p ch h1 h2 => by
    unfold valO
    rw [Option.bind_some, lookup_no (fun h => h2 (lz.sm _ (tu.wd p h ch h1)))]
    rfl
  obtain ⟨pw, hpl, v0, v1, v2⟩ : ∃ pw, PlV K H6 x pw ∧ valO u0 pw = none ∧ valO u1 pw = none ∧ valO u2 pw = none := by
    simp only [List.mem_cons, List.not_mem_nil, or_false] at hx
    have txt : ∀ (p : Wd) (ch : Nat) (y : Str), y = sw p → x = .str y → ch ∈ p → ch ∉ small → ∃ pw, PlV K H6 x pw ∧ valO u0 pw = none ∧ valO u1 pw = none ∧ valO u2 pw = none := fun p ch y e1 e2 h1 h2 => ⟨some p, by rw [e2, e1]; rfl, sml u0 ts.t0 p ch h1 h2, sml u1 ts.t1 p ch h1 h2, sml u2 ts.t2 p ch h1 h2⟩
    have odd : ∀ t, TyX K H6 x (.type t) → t ∈ tyNs → t ≠ "str" → ∃ pw, PlV K H6 x pw ∧ valO u0 pw = none ∧ valO u1 pw = none ∧ valO u2 pw = none := fun t h1 h2 h3 => ⟨none, ⟨_, h1, no t h2 h3⟩, rfl, rfl, rfl⟩
    rcases hx with h | h | h | h | h | h | h | h | h | h | h | h
    · subst h; exact odd _ (.base .non) (by decide) (by decide)
    · subst h; exact odd _ (.base (.int _)) (by decide) (by decide)
    · subst h; exact odd _ (.base (.int _)) (by decide) (by decide)
    · subst h; exact odd _ (.base (.bl _)) (by decide) (by decide)
    · subst h; exact odd _ (.base (.tup g0)) (by decide) (by decide)
    · subst h; exact odd _ (.base (.lst g1)) (by decide) (by decide)
    · subst h; exact odd _ (.base (.lst g2)) (by decide) (by decide)
    · subst h; exact odd _ (.base (.dK g3)) (by decide) (by decide)
    · subst h; exact odd _ (.base (.tup g4)) (by decide) (by decide)
    · exact txt [97, 32, 98] 32 _ (by decide +kernel) h (by decide) (by decide)
    · subst h; exact odd _ (.base (.int _)) (by decide) (by decide)
    · exact txt [65] 65 _ (by decide +kernel) h (by decide) (by decide)
  obtain ⟨a0, a1, a2, htr, x0, x1, x2⟩ := ts6.ex
  dsimp only [gName]
  refine ⟨_, rfl, tr, _, 0, _, rfl, rfl, SqL.of htr, rfl, _, rfl, tr, _, 1, _, rfl, rfl, SqL.of htr, rfl, _, rfl, tr, _, 2, _, rfl, rfl, SqL.of htr, rfl, _, rfl, ?_⟩
  refine ⟨a0, a1, a2, z, u0, u1, u2, x, pw, rfl, x0, x1, x2, ts.t0.nd, ts.t1.nd, ts.t2.nd, hpl, fun H7 t s7 ht => ⟨by show 1 ≤ sizeLine; decide, fun u hu => ?_⟩⟩
  rw [v0, v1, v2] at ht
  have s8 := same_upd (o := .tup [V.non]) hu
  have ht8 := s8 _ _ ht
  refine ⟨.tuple [.none], .tuple [.none], .tup (SqT.of ht8) (.cons .non .nil), .tup (SqT.of upd_same) (.cons .non .nil), rfl, rfl, ?_⟩
  exact q _ (kpA.trans ((Same.kp s7).trans (Same.kp s8))) ((p6.same s7).same s8)
end
end Toy
set_option Elab.async false
set_option linter.all false
set_option maxRecDepth 100000
set_option maxHeartbeats 4000000
namespace Toy
open PySem L2 Sh ShL LamX NdefX
/-! ### merges have values that are due -/
def spMSo (K : PySem.W.Frag) (T : List (Addr × Str)) (C : Addr) : Sp := fun vs H Q _ => ∃ (d c tr l wa : Addr) (n : Nat) (z : Wd) (r0 r1 r2 u0 u1 u2 : List Rw) (ws : List Wd), vs = [.ref d, .ref tr, .ref l, .ref wa] ∧ Pen H d c n ∧ n ≤ 60000 ∧ LetOk z ∧ Tri H l z r0 r1 r2 ∧ Trs C H tr z u0 u1 u2 ∧ u0.Perm r0 ∧ u1.Perm r1 ∧ u2.Perm r2 ∧ H wa = some (.lst (wsV ws)) ∧ ws.length ≤ 100 ∧ Tabs T H ∧
  ∀ H', SmK T d H H' → Pen H' d c (n + 2) → Q (.bl true) H'
theorem vO_perm {us rs : List Rw} (nd : (us.map (·.1)).Nodup) (pm : us.Perm rs) (p : Wd) : vO us p = vO rs p := by
  have pmm := pm.map (·.1)
  by_cases hp : p ∈ us.map (·.1)
  · obtain ⟨r, hr, rfl⟩ := List.mem_map.mp hp
    rw [vO_of nd hr, vO_of (pmm.nodup_iff.mp nd) (pm.mem_iff.mp hr)]
  · rw [vO_out hp, vO_out (fun h => hp (pmm.mem_iff.mpr h))]
theorem inV_ov (x : OI) (l : List OI) : inV (oV x) (l.map oV) = decide (x ∈ l) := by
  induction l with
  | nil => rfl
  | cons y l ih =>
    show (eqV (oV y) (oV x) || inV (oV x) (l.map oV)) = _
    rw [ih]
    have : eqV (oV y) (oV x) = decide (x = y) := by
      cases x <;> cases y <;> simp [oV, eqV, Bool.beq_eq_decide_eq, eq_comm]
    rw [this, Bool.eq_iff_iff, Bool.or_eq_true, decide_eq_true_eq, decide_eq_true_eq, decide_eq_true_eq, List.mem_cons]
theorem flat_ov (x : OI) : flatV (oV x) = true := by cases x <;> rfl
theorem flat_ovs (l : List OI) : (l.map oV).all flatV = true := by
  rw [List.all_map, List.all_eq_true]
  exact fun x _ => flat_ov x
theorem un_other (a : Un) : V.str a.s = V.str "other" ↔ a = .other := by cases a <;> decide +kernel
theorem tabs_kp {T : List (Addr × Str)} {H H' : Hp} {d c : Addr} {n : Nat} (t : Tabs T H) (p : Pen H d c n) (s : Kp d H H') : Tabs T H' := by
  obtain ⟨ns, b, l, h1, _⟩ := p
  exact Sh.Tabs.kp t h1 s
section
variable {P : Program} {w : World} {K : PySem.W.Frag} {mg : Str → Option Value} {base : Heap}
theorem ok_l_merged_so (T : Tx P K mg) (B : Bx T base) : FnOk P w K mg base CX0 9 T.a_l_merged_so T.fd_l_merged_so ["_law_pen", "_law_trees", "_law_three_here", "_law_words"] (spMSo K (tabs T) T.c_Tree) := by
  refine okT T.F_l_merged_so sc_l_merged_so (fun vs H Q E h => ?_) (fun cdv A outer s H vs Q E hcd hr h => ?_)
  · obtain ⟨d, c, tr, l, wa, n, z, r0, r1, r2, u0, u1, u2, ws, rfl, _⟩ := h
    rfl
  have hu := hu_of hr
  have hu65 := hu65_of hr
  obtain ⟨d, c, tr, l, wa, n, z, r0, r1, r2, u0, u1, u2, ws, rfl, hp, hn, lz, tri, ts, pm0, pm1, pm2, hwa, wl, tb, q⟩ := h
  obtain ⟨ds1_Plan_init, vd1_Plan_init, bd1_Plan_init⟩ := T.bd1_Plan_init
  refine ⟨_, (pss_cons (ps_set (i := 4) sc_l_merged_so.nd rfl (by first | exact Or.inl rfl | exact Or.inr rfl) (pe_make T.mk_Plan (ok_Plan_init (w := w) T B) (hr.mono (by decide)) (by rfl) T.m_Plan bd1_Plan_init vd1_Plan_init pass0 (pa_cons pe_str (pa_cons (pe_call (ok_l_pick (w := w) T B) (hr.mono (by decide)) (by rfl) T.m_l_pick T.F_l_pick.kp T.bi_l_pick .nil pass0 (pa_cons (pv 0) (pa_cons (pe_lst (pa_cons pe_str (pa_cons pe_str pa_nil))) pa_nil))) (pa_cons (pe_call (ok_l_pick (w := w) T B) (hr.mono (by decide)) (by rfl) T.m_l_pick T.F_l_pick.kp T.bi_l_pick .nil pass0 (pa_cons (pv 0) (pa_cons (pe_lst (pa_cons pe_str (pa_cons pe_str (pa_cons pe_str pa_nil)))) pa_nil))) (pa_cons pe_bl pa_nil))))))
 (pss_cons (ps_set (i := 5) sc_l_merged_so.nd rfl (by first | exact Or.inl rfl | exact Or.inr rfl) (pe_call (ok_merged (w := w) T B) (hr.mono (by decide)) (by rfl) T.m_merged T.F_merged.kp T.bi_merged .nil pass0 (pa_cons (pv 4) (pa_cons (pe_ix ix_list (pv 1) pe_int (fun _ _ => rfl)) (pa_cons (pe_ix ix_list (pv 1) pe_int (fun _ _ => rfl)) (pa_cons (pe_ix ix_list (pv 1) pe_int (fun _ _ => rfl)) pa_nil))))))
 (pss_cons (ps_if (pt_val (pe_callB call_isi (by rfl) T.b_isinstance (by decide +kernel) (pa_cons (pv 5) (pa_cons (pe_glob (v := .ref T.c_Clash) (by rfl) T.m_Clash rfl) pa_nil))))
 (pss_one (ps_ret (pe_or (pe_cmpR op_eq (pe_fld (pv 4) rfl) pe_str (nomark _)) (pe_one (pe_cmpR op_eq (pe_fld (pv 4) rfl) pe_str (nomark _))))))
 pss_nil)
 (pss_cons (ps_for PassesOwn.never rfl (pi_list (pv 3)) (pg_name (i := 6) sc_l_merged_so.nd rfl (by first | exact Or.inl rfl | exact Or.inr rfl))
 (pss_cons (ps_set (i := 7) sc_l_merged_so.nd rfl (by first | exact Or.inl rfl | exact Or.inr rfl) (pe_call (ok_l_due (w := w) T B) (hr.mono (by decide)) (by rfl) T.m_l_due T.F_l_due.kp T.bi_l_due .nil pass0 (pa_cons (pv 2) (pa_cons (pv 6) pa_nil))))
 (pss_cons (ps_if (pt_cmpR op_notIn_seq (pe_meth (pe_fld (pv 5) rfl) T.cl_Tree T.me_Tree_value_of (ok_Tree_value_of (w := w) T B) (hr.mono (by decide)) T.bi_Tree_value_of .nil pass0 (pa_cons (pv 6) pa_nil)) (pv 7) (by rfl))
 (pss_one (ps_ret pe_bl))
 pss_nil)
 (pss_one (ps_if (PW.pt (pw_and (pt_cmpR op_eq (pe_callB call_len_seq (by rfl) T.b_len (by decide +kernel) (pa_cons (pv 7) pa_nil)) pe_int (nomark _)) (pw_and1 (pt_cmpR op_ne (pe_meth (pe_fld (pv 5) rfl) T.cl_Tree T.me_Tree_value_of (ok_Tree_value_of (w := w) T B) (hr.mono (by decide)) T.bi_Tree_value_of .nil pass0 (pa_cons (pv 6) pa_nil)) (pe_ix ix_tup (pv 7) (pe_callTy call_int1 (by rfl) T.b_int (by decide +kernel) (pa_cons (pe_cmpR op_eq (pe_fld (pv 4) rfl) pe_str (nomark _)) pa_nil)) (fun _ _ => rfl)) (nomark _)))))
 (pss_one (ps_ret pe_bl))
 pss_nil)))))
 (pss_one (ps_ret pe_bl)))))), ?_⟩
  obtain ⟨kvd, hd⟩ := hp.at
  -- the plan
  refine asgS (fun v H' => ∃ p pl, v = .ref p ∧ PlanAt P w K T.c_Plan H' p pl ∧ pl.go = .bare ∧ Kp d H H' ∧ Pen H' d c (n + 2)) (fun R hR => ?_) ?_
  · refine makeI ?_
    refine ⟨_, rfl, by show 2 ≤ sizeLine; decide, fun la hla => .inl ?_⟩
    have s1 := same_upd (o := .lst [V.str "take", .str "clash"]) hla
    have n1 : la ≠ d := (ne_of_none hd hla).symm
    refine ⟨d, c, la, n, _, rfl, hp.same s1, by omega, SqL.of upd_same, by show 0 < 2; decide, by show 2 ≤ 1000; decide, n1, fun H2 x hx kp2 p2 => ?_⟩
    have kp2 := (Same.kp s1).trans kp2
    obtain ⟨al, rfl⟩ : ∃ al : Al, x = .str al.s := by
      simp only [List.mem_cons, List.not_mem_nil, or_false] at hx
      rcases hx with h | h
      · exact ⟨.take, h⟩
      · exact ⟨.clash, h⟩
    refine ⟨_, rfl, by show 3 ≤ sizeLine; decide, fun lb hlb => .inl ?_⟩
    have s3 := same_upd (o := .lst [V.str "one", .str "other", .str "clash"]) hlb
    obtain ⟨kvd2, hd2⟩ := p2.at
    have n3 : lb ≠ d := (ne_of_none hd2 hlb).symm
    refine ⟨d, c, lb, n + 1, _, rfl, p2.same s3, by omega, SqL.of upd_same, by show 0 < 3; decide, by show 3 ≤ 1000; decide, n3, fun H4 y hy kp4 p4 => ?_⟩
    have kp4 := (kp2.trans (Same.kp s3)).trans kp4
    obtain ⟨un, rfl⟩ : ∃ un : Un, y = .str un.s := by
      simp only [List.mem_cons, List.not_mem_nil, or_false] at hy
      rcases hy with h | h | h
      · exact ⟨.one, h⟩
      · exact ⟨.other, h⟩
      · exact ⟨.clash, h⟩
    intro x dx hx hdx hne
    have s5 := same_upd (o := .own x) hdx
    have s6 : Same H4 (upd (upd H4 dx (.own x)) x (.ins T.c_Plan dx [])) := same_of_new s5 hx
    refine ⟨x, dx, ⟨.bare, al, un, true, none⟩, rfl, rfl, upd_same, fun H7 k7 hP => ⟨rfl, hR _ _ ⟨x, ⟨.bare, al, un, true, none⟩, rfl, hP, rfl, fun b o hb nb => ?_, ?_⟩⟩⟩
    · by_cases e : b = x
      · rw [e] at hb nb
        have := kp4 _ _ hb nb
        rw [hx] at this
        cases this
      · exact k7 _ _ (s6 _ _ (kp4 _ _ hb nb)) e
    · obtain ⟨ns, b, l', g1, g2, g3⟩ := p4
      exact ⟨ns, b, l', k7 _ _ (s6 _ _ g1) (ne_of_none g1 hx), k7 _ _ (s6 _ _ g2) (ne_of_none g2 hx), g3⟩
  rintro v H1 ⟨p, pl, rfl, hP, hgo, kp1, p1⟩
  have tb1 := tabs_kp tb hp kp1
  have ts1 := ts.kp hp kp1
  have tri1 := tri.kp hp kp1
  have hwa1 := kp1 _ _ hwa (ne_of hwa hd (by intro z; cases z))
  obtain ⟨kvd1, hd1⟩ := p1.at
  obtain ⟨a0, a1, a2, htr, x0, x1, x2⟩ := ts1.ex
  have rok : ∀ r ∈ u0 ++ (u1 ++ u2), RwOk z r := fun r hr => by
    rcases List.mem_append.mp hr with h | h
    · exact tri.w0.rok (by have := tri.l0; omega) r (pm0.mem_iff.mp h)
    · rcases List.mem_append.mp h with h | h
      · exact tri.w1.rok (by have := tri.l1; omega) r (pm1.mem_iff.mp h)
      · exact tri.w2.rok (by have := tri.l2; omega) r (pm2.mem_iff.mp h)
  have l0 := tri.l0
  have l1 := tri.l1
  have l2 := tri.l2
  rw [← pm0.length_eq] at l0
  rw [← pm1.length_eq] at l1
  rw [← pm2.length_eq] at l2
  have hb : pl.go ≠ .base := by rw [hgo]; decide
  have hk : pl.go ≠ .kept := by rw [hgo]; decide
  have hg : pl.go ≠ .clash := by rw [hgo]; decide
  have due : ∀ w, dueM (vO u0 w) (vO u1 w) (vO u2 w) = dueM (vO r0 w) (vO r1 w) (vO r2 w) := fun w => by rw [vO_perm ts.t0.nd pm0, vO_perm ts.t1.nd pm1, vO_perm ts.t2.nd pm2]
  have smk : ∀ {H'}, Sm (tabs T) H1 H' → SmK (tabs T) d H H' := fun sm => ⟨fun b u hb nt nb => sm.get (kp1 _ _ hb nb) nt, sm.2⟩
  have pen2 : ∀ {H'}, Sm (tabs T) H1 H' → Pen H' d c (n + 2) := fun {H'} sm => by
    obtain ⟨ns, b, l', g1, g2, g3⟩ := p1
    exact ⟨ns, b, l', sm.get g1, sm.get g2, g3⟩
  dsimp only [gName]
  refine ⟨_, rfl, _, rfl, tr, _, 0, _, rfl, rfl, SqL.of htr, rfl, _, rfl, tr, _, 1, _, rfl, rfl, SqL.of htr, rfl, _, rfl, tr, _, 2, _, rfl, rfl, SqL.of htr, rfl, ?_⟩
  refine ⟨p, a0, a1, a2, pl, z, u0, u1, u2, rfl, hP, x0, x1, x2, ts.t0, ts.t1, ts.t2, lz, rok, by omega, tb1, fun H2 o dxo ps sm th => ⟨fun q' e ho => ?_, fun W Kt t u rs e pm od ht ho htk => ?_⟩⟩
  · -- a clash
    have hP2 : PlanAt P w K T.c_Plan H2 p pl := by
      obtain ⟨dx, v, h1, h2⟩ := hP
      refine ⟨dx, v, sm.get h1, ?_⟩
      cases hfl : pl.fl with
      | none => rw [hfl] at h2; exact h2
      | some f =>
        rw [hfl] at h2
        obtain ⟨d', e, xs, g1, g2, g3⟩ := h2
        refine ⟨d', e, xs, sm.get g1 (by intro ps z; unfold DNo at z; cases z), g2, fun x hx => (g3 x hx).mono fun c u r => ?_⟩
        rcases r with r | ⟨ob, r⟩
        · exact .inl (sm.get r)
        · exact .inr ⟨ob, sm.get r⟩
    refine ⟨_, rfl, _, _, _, _, true, rfl, .own _, .base (.ins ho T.cl_Clash T.ca_Clash T.o_get T.o_tk T.ob_Clash), (by unfold PySem.W.kitOne; rw [if_pos (by simp)]), _, rfl, iteT ?_⟩
    obtain ⟨dx, fv, hp2, _⟩ := hP2
    refine ⟨_, rfl, p, T.c_Plan, dx, _, _, rfl, hp2, T.cl_Plan, T.na_Plan_alike, pf_alike _ _, rfl, _, rfl, iteD (fun h => q _ (smk sm) (pen2 sm)) (fun h => ?_)⟩
    refine ⟨_, rfl, p, T.c_Plan, dx, _, _, rfl, hp2, T.cl_Plan, T.na_Plan_unlike, pf_unlike _ _, rfl, ?_⟩
    rw [al_clash] at h
    have : pl.un = .clash := Classical.byContradiction fun hn => no_clash h hg hn e
    rw [decide_eq_true ((un_clash _).mpr this)]
    exact q _ (smk sm) (pen2 sm)
  -- a merged tree
  refine ⟨_, rfl, _, _, _, _, false, rfl, .own _, .base (.ins ho T.cl_Merged T.ca_Merged T.o_get T.o_tk T.ob_Merged), T.kmc, _, rfl, iteF ?_⟩
  refine nextS ?_
  dsimp only
  have f := fine_of (mg_ok th) _ [] (mem_all.mpr (.inl ts.t0.root)) (Nat.le_refl _) W Kt e
  have fnd : (plW (finR pl W Kt u1 u2)).Nodup := fin_nd f ts.t1.nd ts.t2.nd
  have rnd : (rs.map (·.1)).Nodup := (pm.map (fun x : Rw => x.1)).nodup_iff.mp fnd
  have val : ∀ w, vO rs w = vO (finR pl W Kt u1 u2) w := fun w => (vO_perm fnd pm w).symm
  have fv := fun w => fin_val th f hb hk w
  have hwa2 := sm.get hwa1
  have tri2 := tri1.sm sm
  obtain ⟨dx, fpv, hp1, _⟩ := hP
  have hp2 := sm.get hp1
  refine ⟨_, rfl, wa, rfl, ⟨_, SqL.of hwa2⟩, ?_⟩
  refine for_it (walk_list (K := K) (a := wa) (xs := wsV ws)) (fun i σ H3 => (∃ v6 v7, σ = [some (.ref d), some (.ref tr), some (.ref l), some (.ref wa), some (.ref p), some (.ref o), v6, v7]) ∧ Same H2 H3)
    ⟨⟨_, _, rfl⟩, Same.refl _⟩ (fun i σ H3 _ ⟨_, s3⟩ => SqL.of (s3 _ _ hwa2)) (fun i x σ H0 H3 hi ⟨⟨v6, v7, e1⟩, s3⟩ yl => ?_) (fun σ H3 ⟨⟨v6, v7, e1⟩, s3⟩ => ?_)
  rotate_left
  · subst e1
    exact q _ (smk (sm.ext s3)) (pen2 (sm.ext s3))
  obtain ⟨rfl, hx'⟩ := yl
  subst e1
  rw [List.getElem?_map] at hx'
  obtain ⟨wd, hwd, rfl⟩ := Option.map_eq_some_iff.mp hx'
  dsimp only [gName]
  refine ⟨_, rfl, _, rfl, l, z, wd, r0, r1, r2, rfl, tri2.same s3, fun H4 t' s4 ht' => ?_⟩
  dsimp only [gName]
  obtain ⟨hin, h2⟩ := fv wd
  rw [due] at hin h2
  rw [← val] at hin h2
  have s34 := s3.trans s4
  obtain ⟨dxt, _, _, _, _, _, _, y1, _⟩ := (ht.same s34).ex
  have ho4 := s34 _ _ ho
  have lk : List.lookup ("tree" : Str) (putF "taken" u (putF "tree" (.ref t) [])) = some (V.ref t) := by
    rw [lookup_putF, if_neg (by decide +kernel), lookup_putF, if_pos rfl]
  refine seqW (fun σ' H' => H' = H4 ∧ σ' = [some (.ref d), some (.ref tr), some (.ref l), some (.ref wa), some (.ref p), some (.ref o), some (.str (sw wd)), some (.ref t')]) (fun N hN => ?_) (fun σ' H' ⟨eh, es⟩ => ?_)
  · refine ⟨_, rfl, o, _, dxo, _, _, rfl, ho4, T.cl_Merged, T.na_Merged_tree, lk, ?_⟩
    refine ⟨t, dxt, _, rfl, y1, tf_no (by decide +kernel), _, rfl, ?_⟩
    dsimp only [tNil, List.cons_append, List.nil_append, List.append_nil]
    refine value_sp (ht.same s34) rnd (p := some wd) rfl ?_
    refine ⟨_, rfl, t', _, rfl, .inr (SqT.of ht'), flat_ov _, flat_ovs _, _, rfl, ?_⟩
    rw [show inV (oV (valO rs (some wd))) ((dueM (vO r0 wd) (vO r1 wd) (vO r2 wd)).map oV) = true from by rw [inV_ov]; exact decide_eq_true hin]
    exact iteF (hN _ _ ⟨rfl, rfl⟩)
  subst eh es
  have vals : (dueM (vO u0 wd) (vO u1 wd) (vO u2 wd)).length = 2 → dueM (vO r0 wd) (vO r1 wd) (vO r2 wd) = [vO r1 wd, vO r2 wd] := fun h => by
    rw [due] at h
    unfold dueM at h ⊢
    split at h
    · cases h
    · split at h
      · cases h
      · rename_i g1 g2
        rw [if_neg g1, if_neg g2]
  rw [← due] at h2
  generalize hL : dueM (vO r0 wd) (vO r1 wd) (vO r2 wd) = L at ht' vals
  rw [due, hL] at vals h2
  refine ⟨_, rfl, t', _, rfl, .inr (SqT.of ht'), rfl, _, rfl, ?_⟩
  rw [List.length_map]
  refine iteD (fun h => ?_) (fun _ => iteF ⟨⟨_, _, rfl⟩, s34⟩)
  have h : L.length = 2 := by
    have := V.int.inj h
    omega
  obtain ⟨hun, hv⟩ := h2 h
  rw [vals h] at ht'
  refine ⟨_, rfl, o, _, dxo, _, _, rfl, ho4, T.cl_Merged, T.na_Merged_tree, lk, ?_⟩
  refine ⟨t, dxt, _, rfl, y1, tf_no (by decide +kernel), _, rfl, ?_⟩
  dsimp only [tNil, List.cons_append, List.nil_append, List.append_nil]
  refine value_sp (ht.same s34) rnd (p := some wd) rfl ?_
  refine ⟨_, rfl, ?_⟩
  refine ⟨_, rfl, p, T.c_Plan, dx, _, _, rfl, s34 _ _ hp2, T.cl_Plan, T.na_Plan_unlike, pf_unlike _ _, rfl, .inr ⟨_, rfl, ?_⟩⟩
  rw [show valO rs (some wd) = vO rs wd from rfl, hv]
  cases hpu : pl.un with
  | clash => exact absurd hpu hun
  | one =>
    rw [show decide (V.str (Un.s .one) = V.str "other") = false from by decide +kernel]
    refine ⟨t', _, 0, _, rfl, rfl, SqT.of ht', rfl, ov_scal _ _, _, rfl, ?_⟩
    have e : (if Un.one = Un.one then vO u1 wd else vO u2 wd) = vO r1 wd := (if_pos rfl).trans (vO_perm ts.t1.nd pm1 wd)
    rw [e, decide_eq_true rfl]
    exact iteF ⟨⟨_, _, rfl⟩, s34⟩
  | other =>
    rw [show decide (V.str (Un.s .other) = V.str "other") = true from by decide +kernel]
    refine ⟨t', _, 1, _, rfl, rfl, SqT.of ht', rfl, ov_scal _ _, _, rfl, ?_⟩
    have e : (if Un.other = Un.one then vO u1 wd else vO u2 wd) = vO r2 wd := (if_neg (by decide)).trans (vO_perm ts.t2.nd pm2 wd)
    rw [e, decide_eq_true rfl]
    exact iteF ⟨⟨_, _, rfl⟩, s34⟩
end
end Toy
set_option Elab.async false
set_option linter.all false
set_option maxRecDepth 100000
set_option maxHeartbeats 4000000
namespace Toy
open PySem L2 Sh ShL LamX NdefX
/-! ### the law -/
theorem due_rev (b o t : OI) : dueM b t o = (dueM b o t).reverse := by
  unfold dueM
  by_cases h1 : t = b <;> by_cases h2 : o = b <;> by_cases h3 : o = t <;> simp_all
  · intro h; exact absurd h.symm h3
theorem ovs_dp {K : PySem.W.Frag} {H : Hp} : ∀ l : List OI, DpAll K H (l.map oV) (l.map ovD)
  | [] => .nil
  | x :: l => .cons (ov_dp x) (ovs_dp l)
theorem ovs_eqv : ∀ l : List OI, PyData.eqvAll (l.map ovD) (l.map ovD) = true
  | [] => rfl
  | x :: l => by
    show PyData.eqvAll (ovD x :: l.map ovD) (ovD x :: l.map ovD) = true
    unfold PyData.eqvAll
    rw [ovD_eqv, ovs_eqv l]
    simp
theorem ovs_lay : ∀ l : List OI, PyData.canLayAll0 (l.map ovD) = true ∧ PyData.depthAll (l.map ovD) ≤ 1
  | [] => ⟨rfl, by simp [PyData.depthAll]⟩
  | x :: l => by
    obtain ⟨h1, h2⟩ := ovs_lay l
    obtain ⟨h3, h4⟩ := ovD_lay x
    refine ⟨by simp only [List.map_cons, PyData.canLayAll0, h1, h3]; rfl, ?_⟩
    simp only [List.map_cons, PyData.depthAll, h4]
    omega
theorem ovs_shaped (l : List OI) : SeqAt.shaped (.tuple (l.map ovD)) = true := by
  obtain ⟨h1, h2⟩ := ovs_lay l
  exact shaped_of (by simp only [PyData.canLay0]; exact h1) (by simp only [PyData.depth]; omega)
theorem Pen.sm {T : List (Addr × Str)} {H H' : Hp} {d c : Addr} {n : Nat} (p : Pen H d c n) (s : Sm T H H') : Pen H' d c n := by
  obtain ⟨ns, b, l, h1, h2, h3⟩ := p
  exact ⟨ns, b, l, s.get h1, s.get h2, h3⟩
def TreeS (C : Addr) (z : Wd) (H : Hp) (v : V) (rs : List Rw) : Prop := ∃ o us, v = .ref o ∧ TreeAt C H o z us ∧ TrOk z us ∧ us.Perm rs
theorem TreeS.sm {T : List (Addr × Str)} {C : Addr} {z : Wd} {H H' : Hp} {v : V} {rs : List Rw} (s : Sm T H H') (h : TreeS C z H v rs) : TreeS C z H' v rs := let ⟨o, us, e, h1, h2, h3⟩ := h; ⟨o, us, e, h1.sm s, h2, h3⟩
def spLaw (K : PySem.W.Frag) (T : List (Addr × Str)) : Sp := fun vs H Q _ => ∃ (a : Addr) (ns : List Int), vs = [.ref a] ∧ SqL K H a (ns.map V.int) ∧ Tabs T H ∧ ∀ H', Q (.bl true) H'
section
variable {P : Program} {w : World} {K : PySem.W.Frag} {mg : Str → Option Value} {base : Heap}
theorem ok_law (T : Tx P K mg) (B : Bx T base) : FnOk P w K mg base CX0 10 T.a_law T.fd_law ["_law_script"] (spLaw K (tabs T)) := by
  refine okT T.F_law sc_law (fun vs H Q E h => ?_) (fun cdv A outer s H vs Q E hcd hr h => ?_)
  · obtain ⟨a, ns, rfl, _⟩ := h
    rfl
  have hu := hu_of hr
  have hu65 := hu65_of hr
  obtain ⟨a, ns, rfl, hS, tb, q⟩ := h
  refine ⟨_, (pss_cons (ps_set (i := 1) sc_law.nd rfl (by first | exact Or.inl rfl | exact Or.inr rfl) (pe_call (ok_l_pen_of (w := w) T B) (hr.mono (by decide)) (by rfl) T.m_l_pen_of T.F_l_pen_of.kp T.bi_l_pen_of .nil pass0 (pa_cons (pv 0) pa_nil)))
 (pss_cons (ps_for PassesOwn.never rfl (pi_range1 (by rfl) T.b_range (pa_cons pe_int pa_nil)) (pg_name (i := 2) sc_law.nd rfl (by first | exact Or.inl rfl | exact Or.inr rfl))
 (pss_cons (ps_set (i := 3) sc_law.nd rfl (by first | exact Or.inl rfl | exact Or.inr rfl) (pe_call (ok_l_letters (w := w) T B) (hr.mono (by decide)) (by rfl) T.m_l_letters T.F_l_letters.kp T.bi_l_letters .nil pass0 (pa_cons (pv 1) pa_nil)))
 (pss_cons (ps_set (i := 4) sc_law.nd rfl (by first | exact Or.inl rfl | exact Or.inr rfl) (pe_call (ok_l_three (w := w) T B) (hr.mono (by decide)) (by rfl) T.m_l_three T.F_l_three.kp T.bi_l_three .nil pass0 (pa_cons (pv 1) (pa_cons (pv 3) (pa_cons (pe_call (ok_l_pick (w := w) T B) (hr.mono (by decide)) (by rfl) T.m_l_pick T.F_l_pick.kp T.bi_l_pick .nil pass0 (pa_cons (pv 1) (pa_cons (pe_lst (pa_cons pe_int (pa_cons pe_int (pa_cons pe_int (pa_cons pe_int (pa_cons pe_int pa_nil)))))) pa_nil))) pa_nil)))))
 (pss_cons (ps_par (i := 5) (j := 6) (by rfl) sc_law.nd rfl rfl (by decide) rfl rfl (pa_cons (pe_lc (own := [("_law_found", 9)]) (g := gName 9) rfl sc_law.nd (pi_list (pv 4)) (blkOk_by (own := [("_law_found", 9)]) (N := N_law) (sc := defScope s_law) (by decide +kernel)) (fun _ _ _ _ _ => (pg_name (i := 9) sc_law.nd rfl (by first | exact Or.inl rfl | exact Or.inr rfl))) (fun _ _ _ _ _ => pts_nil) (fun _ _ _ _ _ => (pe_call (ok_l_tree (w := w) T B) (hr.mono (by decide)) (by rfl) T.m_l_tree T.F_l_tree.kp T.bi_l_tree .nil pass0 (pa_cons (pv 3) (pa_cons (pv 9) pa_nil))))) (pa_cons (pe_call (ok_l_asked_words (w := w) T B) (hr.mono (by decide)) (by rfl) T.m_l_asked_words T.F_l_asked_words.kp T.bi_l_asked_words .nil pass0 (pa_cons (pv 1) (pa_cons (pv 3) (pa_cons (pv 4) pa_nil)))) pa_nil)) (by rfl))
 (pss_cons (ps_for PassesOwn.never rfl (pi_list (pv 6)) (pg_name (i := 7) sc_law.nd rfl (by first | exact Or.inl rfl | exact Or.inr rfl))
 (pss_cons (ps_set (i := 8) sc_law.nd rfl (by first | exact Or.inl rfl | exact Or.inr rfl) (pe_call (ok_due (w := w) T B) (hr.mono (by decide)) (by rfl) T.m_due T.F_due.kp T.bi_due .nil pass0 (pa_cons (pe_ix ix_list (pv 5) pe_int (fun _ _ => rfl)) (pa_cons (pe_ix ix_list (pv 5) pe_int (fun _ _ => rfl)) (pa_cons (pe_ix ix_list (pv 5) pe_int (fun _ _ => rfl)) (pa_cons (pv 7) pa_nil))))))
 (pss_cons (ps_if (PW.pt (pw_or (pt_cmpR (op_neD hr.units) (pv 8) (pe_call (ok_l_due (w := w) T B) (hr.mono (by decide)) (by rfl) T.m_l_due T.F_l_due.kp T.bi_l_due .nil pass0 (pa_cons (pv 4) (pa_cons (pv 7) pa_nil))) (nomark _)) (pw_or1 (pt_not (pt_val (pe_callB call_isi (by rfl) T.b_isinstance (by decide +kernel) (pa_cons (pv 8) (pa_cons (pe_bltn (v := .ty "tuple") (by rfl) T.b_tuple (by decide +kernel) rfl) pa_nil))))))))
 (pss_one (ps_ret pe_bl))
 pss_nil)
 (pss_one (ps_if (pt_cmpR (op_neD hr.units) (pe_call (ok_due (w := w) T B) (hr.mono (by decide)) (by rfl) T.m_due T.F_due.kp T.bi_due .nil pass0 (pa_cons (pe_ix ix_list (pv 5) pe_int (fun _ _ => rfl)) (pa_cons (pe_ix ix_list (pv 5) pe_int (fun _ _ => rfl)) (pa_cons (pe_ix ix_list (pv 5) pe_int (fun _ _ => rfl)) (pa_cons (pv 7) pa_nil))))) (pe_revT (pv 8)) (nomark _))
 (pss_one (ps_ret pe_bl))
 pss_nil)))))
 (pss_one (ps_if (PW.pt (pw_or (pt_not (pt_val (pe_call (ok_l_odd_so (w := w) T B) (hr.mono (by decide)) (by rfl) T.m_l_odd_so T.F_l_odd_so.kp T.bi_l_odd_so .nil pass0 (pa_cons (pv 1) (pa_cons (pv 5) pa_nil))))) (pw_or1 (pt_not (pt_val (pe_call (ok_l_merged_so (w := w) T B) (hr.mono (by decide)) (by rfl) T.m_l_merged_so T.F_l_merged_so.kp T.bi_l_merged_so .nil pass0 (pa_cons (pv 1) (pa_cons (pv 5) (pa_cons (pv 4) (pa_cons (pv 6) pa_nil))))))))))
 (pss_one (ps_ret pe_bl))
 pss_nil)))))))
 (pss_one (ps_ret pe_bl)))), ?_⟩
  refine ⟨_, rfl, a, ns, rfl, hS, fun H1 d c s1 p1 => ?_⟩
  have t1 := tb.ext s1
  dsimp only [gName]
  refine ⟨6, rfl, by decide, by decide, ?_⟩
  show ∃ W, _
  rw [show ((6 : Int)).toNat = 6 from rfl]
  refine for_range (fun k σ Hc => (∃ v2 v3 v4 v5 v6 v7 v8 v9, σ = [some (.ref a), some (.ref d), v2, v3, v4, v5, v6, v7, v8, v9]) ∧ Tabs (tabs T) Hc ∧ Pen Hc d c (200 * k))
    ⟨⟨_, _, _, _, _, _, _, _, rfl⟩, t1, p1⟩ (fun k σ Hc hk ⟨⟨v2, v3, v4, v5, v6, v7, v8, v9, e1⟩, tc, pc⟩ => ?_) (fun σ Hc ⟨⟨v2, v3, v4, v5, v6, v7, v8, v9, e1⟩, tc, pc⟩ => ?_)
  rotate_left
  · subst e1
    exact q Hc
  subst e1
  have hk6 : k < 6 := hk
  dsimp only [gName]
  -- letters
  refine asgI ?_
  refine ⟨_, rfl, d, c, 200 * k, rfl, pc, by omega, fun H2 z lz kp2 p2 => ?_⟩
  have t2 := tabs_kp tc pc kp2
  obtain ⟨kvd2, hd2⟩ := p2.at
  dsimp only [gName]
  -- the three
  refine asgI ?_
  refine ⟨_, rfl, _, rfl, _, rfl, by show 5 ≤ sizeLine; decide, fun la hla => .inl ?_⟩
  have s2 := same_upd (o := .lst [V.int 1, .int 2, .int 4, .int 7, .int 10]) hla
  refine ⟨d, c, la, _, _, rfl, p2.same s2, by omega, SqL.of upd_same, by show 0 < 5; decide, by show 5 ≤ 1000; decide, (ne_of_none hd2 hla).symm, fun H3 x hx kp3 p3 => ?_⟩
  have t3 := tabs_kp (t2.ext s2) (p2.same s2) kp3
  obtain ⟨m, rfl, hm⟩ : ∃ m : Nat, x = .int (m : Nat) ∧ m ≤ 10 := by
    simp only [List.mem_cons, List.not_mem_nil, or_false] at hx
    rcases hx with h | h | h | h | h
    · exact ⟨1, h, by decide⟩
    · exact ⟨2, h, by decide⟩
    · exact ⟨4, h, by decide⟩
    · exact ⟨7, h, by decide⟩
    · exact ⟨10, h, by decide⟩
  refine ⟨d, c, _, m, z, rfl, p3, by omega, hm, lz, fun H4 l r0 r1 r2 tri kp4 p4 => ?_⟩
  have t4 := tabs_kp t3 p3 kp4
  obtain ⟨e0, e1, e2, hl, c0, c1, c2⟩ := tri.ex
  dsimp only [gName]
  -- the trees
  refine ⟨_, rfl, l, rfl, ⟨_, SqL.of hl⟩, fun D hD => ?_⟩
  have pr : Paired (fun v (rs : List Rw) => CelR H4 v rs ∧ (∃ e, v = .ref e) ∧ Lw z rs ∧ rs.length ≤ 27) [V.ref e0, .ref e1, .ref e2] [r0, r1, r2] := .cons ⟨c0, ⟨_, rfl⟩, tri.w0, tri.l0⟩ (.cons ⟨c1, ⟨_, rfl⟩, tri.w1, tri.l1⟩ (.cons ⟨c2, ⟨_, rfl⟩, tri.w2, tri.l2⟩ .nil))
  refine lcG (walk_list (K := K) (a := l) (xs := [V.ref e0, .ref e1, .ref e2])) yat pr (fun _ H' => Sm (tabs T) H4 H' ∧ ∃ acc, H' D = some (.lst acc)) ⟨Sm.of t4 (same_upd hD), [], upd_same⟩ (fun _ H' acc ⟨s, acc0, hDl⟩ => ⟨⟨fun b u hb nt => ?_, tabs_put s.2 hDl (by intro ps z; cases z) (by intro c q z; unfold CodeO at z; cases z)⟩, acc, upd_same⟩) (fun _ H' _ ⟨s, _⟩ => SqL.of (s.get hl)) (by show 3 ≤ 40000; omega) (fun _ => true) (TreeS T.c_Tree z) (fun H' acc acc' v rs hDl h => ?_) (fun i x rs H' acc R N hm hx ⟨s, _⟩ hDH k1 _ => ⟨rfl, yes_ite ?_⟩) (fun H5 acc ⟨s5, _⟩ hDH pa => ?_)
  · rw [upd_ne (ne_of_none hb hD)]
    exact s.1 _ _ hb nt
  · obtain ⟨o, us, e, h1, h2, h3⟩ := h
    exact ⟨o, us, e, h1.mono (fun b C dx fs q => by rw [upd_ne (ne_of q hDl (by intro z; cases z))]; exact q) (fun b xs q => by rw [upd_ne (ne_of q hDl (by intro z; cases z))]; exact q) (fun b l _ q => by rw [upd_ne (ne_of q hDl (by intro z; cases z))]; exact q), h2, h3⟩
  · obtain ⟨ce, ⟨e, rfl⟩, lw, rl⟩ := hx
    refine ⟨_, rfl, _, rfl, e, z, rs, rfl, CelR.sm s ce, lw, by omega, lz, s.2, fun H5 o us sm ht tr pm => ?_⟩
    exact k1 rfl _ _ ⟨s.trans sm, acc, sm.get hDH⟩ (sm.get hDH) (fun v u h => h.sm sm) ⟨o, us, rfl, ht, tr, pm⟩
  rw [filter_tt] at pa
  have p5 := p4.sm s5
  have tri5 := tri.sm s5
  obtain ⟨u0, u1, u2, ts5, pm0, pm1, pm2⟩ : ∃ u0 u1 u2, Trs T.c_Tree H5 D z u0 u1 u2 ∧ u0.Perm r0 ∧ u1.Perm r1 ∧ u2.Perm r2 := by
    cases pa with
    | cons i0 pa => cases pa with
      | cons i1 pa => cases pa with
        | cons i2 pa =>
          cases pa
          obtain ⟨o0, u0, rfl, h0, g0, q0⟩ := i0
          obtain ⟨o1, u1, rfl, h1, g1, q1⟩ := i1
          obtain ⟨o2, u2, rfl, h2, g2, q2⟩ := i2
          exact ⟨u0, u1, u2, ⟨⟨o0, o1, o2, hDH, h0, h1, h2⟩, g0, g1, g2⟩, q0, q1, q2⟩
  clear pa hDH
  -- the words
  refine ⟨_, rfl, _, rfl, _, rfl, d, c, l, _, z, r0, r1, r2, rfl, p5, by omega, lz, tri5, fun H6 wa ws hwa wl kp6 p6 => ?_⟩
  have t6 := tabs_kp s5.2 p5 kp6
  have ts6 := ts5.kp p5 kp6
  have tri6 := tri5.kp p5 kp6
  refine ⟨_, _, rfl, ?_⟩
  dsimp only
  have w0 : ∀ p, vO u0 p = vO r0 p := vO_perm ts6.t0.nd pm0
  have w1 : ∀ p, vO u1 p = vO r1 p := vO_perm ts6.t1.nd pm1
  have w2 : ∀ p, vO u2 p = vO r2 p := vO_perm ts6.t2.nd pm2
  refine seqW (fun σ' H' => (∃ v2 v7 v8 v9, σ' = [some (.ref a), some (.ref d), v2, some (.str (sw z)), some (.ref l), some (.ref D), some (.ref wa), v7, v8, v9]) ∧ Same H6 H') (fun N hN => ?_) (fun σ' H7 ⟨⟨v2, v7, v8, v9, e1⟩, s7⟩ => ?_)
  · refine ⟨_, rfl, wa, rfl, ⟨_, SqL.of hwa⟩, ?_⟩
    refine for_it (walk_list (K := K) (a := wa) (xs := wsV ws)) (fun i σ Hx => (∃ v2 v7 v8 v9, σ = [some (.ref a), some (.ref d), v2, some (.str (sw z)), some (.ref l), some (.ref D), some (.ref wa), v7, v8, v9]) ∧ Same H6 Hx)
      ⟨⟨_, _, _, _, rfl⟩, Same.refl _⟩ (fun i σ Hx _ ⟨_, s⟩ => SqL.of (s _ _ hwa)) (fun i x σ H0 Hx hi ⟨⟨v2, v7, v8, v9, e1⟩, sx⟩ yl => ?_) (fun σ Hx h => hN _ _ h)
    obtain ⟨rfl, hx'⟩ := yl
    subst e1
    rw [List.getElem?_map] at hx'
    obtain ⟨wd, hwd, rfl⟩ := Option.map_eq_some_iff.mp hx'
    obtain ⟨a0, a1, a2, htr, y0, y1, y2⟩ := (ts6.same sx).ex
    have n0 := ts6.t0.nd
    have n1 := ts6.t1.nd
    have n2 := ts6.t2.nd
    dsimp only [gName]
    refine asgI ?_
    refine ⟨_, rfl, D, _, 0, _, rfl, rfl, SqL.of htr, rfl, _, rfl, D, _, 1, _, rfl, rfl, SqL.of htr, rfl, _, rfl, D, _, 2, _, rfl, rfl, SqL.of htr, rfl, _, rfl, ?_⟩
    refine ⟨a0, a1, a2, z, u0, u1, u2, .str (sw wd), some wd, rfl, y0, y1, y2, n0, n1, n2, rfl, fun H7 t s7 ht => ?_⟩
    rw [show valO u0 (some wd) = vO r0 wd from w0 wd, show valO u1 (some wd) = vO r1 wd from w1 wd, show valO u2 (some wd) = vO r2 wd from w2 wd] at ht
    dsimp only [gName]
    have sx7 := sx.trans s7
    refine seqW (fun σ' H' => (∃ v2 v9, σ' = [some (.ref a), some (.ref d), v2, some (.str (sw z)), some (.ref l), some (.ref D), some (.ref wa), some (.str (sw wd)), some (.ref t), v9]) ∧ Same H7 H') (fun N2 hN2 => ?_) (fun σ' H8 ⟨⟨v2, v9, e1⟩, s8⟩ => ?_)
    · refine ⟨_, rfl, _, rfl, _, rfl, l, z, wd, r0, r1, r2, rfl, tri6.same sx7, fun H8 t' s8 ht' => ?_⟩
      have ht8 := s8 _ _ ht
      refine ⟨.tuple ((dueM (vO r0 wd) (vO r1 wd) (vO r2 wd)).map ovD), .tuple ((dueM (vO r0 wd) (vO r1 wd) (vO r2 wd)).map ovD), .tup (SqT.of ht8) (ovs_dp _), .tup (SqT.of ht') (ovs_dp _), ovs_shaped _, ovs_shaped _, _, rfl, ?_⟩
      rw [show PyData.eqv (.tuple ((dueM (vO r0 wd) (vO r1 wd) (vO r2 wd)).map ovD)) (.tuple ((dueM (vO r0 wd) (vO r1 wd) (vO r2 wd)).map ovD)) = true from ovs_eqv _]
      refine iteF ?_
      refine ⟨_, rfl, _, _, _, _, true, rfl, .ty _, .base (.tup ht8), isi_tt, _, rfl, iteF (hN2 _ _ ⟨⟨_, _, rfl⟩, s8⟩)⟩
    subst e1
    have sx8 := sx7.trans s8
    have ht8 := s8 _ _ ht
    obtain ⟨a0, a1, a2, htr, y0, y1, y2⟩ := (ts6.same sx8).ex
    refine ⟨_, rfl, D, _, 0, _, rfl, rfl, SqL.of htr, rfl, _, rfl, D, _, 2, _, rfl, rfl, SqL.of htr, rfl, _, rfl, D, _, 1, _, rfl, rfl, SqL.of htr, rfl, _, rfl, ?_⟩
    refine ⟨a0, a2, a1, z, u0, u2, u1, .str (sw wd), some wd, rfl, y0, y2, y1, n0, n2, n1, rfl, fun H9 t2 s9 ht9 => ?_⟩
    rw [show valO u0 (some wd) = vO r0 wd from w0 wd, show valO u1 (some wd) = vO r1 wd from w1 wd, show valO u2 (some wd) = vO r2 wd from w2 wd, due_rev] at ht9
    refine ⟨_, rfl, t, _, rfl, SqT.of (s9 _ _ ht8), fun u hu => ?_⟩
    have s10 := same_upd (o := .tup ((dueM (vO r0 wd) (vO r1 wd) (vO r2 wd)).map oV).reverse) hu
    have ht10 := s10 _ _ ht9
    refine ⟨.tuple ((dueM (vO r0 wd) (vO r1 wd) (vO r2 wd)).reverse.map ovD), .tuple ((dueM (vO r0 wd) (vO r1 wd) (vO r2 wd)).reverse.map ovD), .tup (SqT.of ht10) (ovs_dp _), .tup (SqT.of upd_same) (by rw [← List.map_reverse]; exact ovs_dp _), ovs_shaped _, ovs_shaped _, _, rfl, ?_⟩
    rw [show PyData.eqv (.tuple ((dueM (vO r0 wd) (vO r1 wd) (vO r2 wd)).reverse.map ovD)) (.tuple ((dueM (vO r0 wd) (vO r1 wd) (vO r2 wd)).reverse.map ovD)) = true from ovs_eqv _]
    exact iteF ⟨⟨_, _, _, _, rfl⟩, (sx8.trans s9).trans s10⟩
  subst e1
  have p7 := p6.same s7
  have ts7 := ts6.same s7
  refine ⟨_, rfl, _, rfl, d, c, D, _, z, u0, u1, u2, rfl, p7, by omega, lz, ts7, fun H8 kp8 p8 => ⟨_, rfl, ?_⟩⟩
  refine iteF ?_
  have t8 := tabs_kp (t6.ext s7) p7 kp8
  obtain ⟨kvd7, hd7⟩ := p7.at
  refine ⟨_, rfl, _, rfl, _, rfl, _, rfl, d, c, D, l, wa, _, z, r0, r1, r2, u0, u1, u2, ws, rfl, p8, by omega, lz, (tri6.same s7).kp p7 kp8, ts7.kp p7 kp8, pm0, pm1, pm2, kp8 _ _ (s7 _ _ hwa) (ne_of (s7 _ _ hwa) hd7 (by intro z; cases z)), wl, t8, fun H9 smk p9 => ⟨_, rfl, ?_⟩⟩
  exact iteF ⟨⟨_, _, _, _, _, _, _, _, rfl⟩, smk.2, p9.mono (by omega)⟩
end
end Toy
set_option Elab.async false
set_option linter.all false
set_option maxRecDepth 100000
set_option maxHeartbeats 4000000
namespace Toy
open PySem L2 Sh ShL LamX NdefX
theorem nil_binds {K : PySem.W.Frag} {fd : FuncData} {ps : List Str} (h : ∃ ds, Vals [] ds ∧ Binds K fd ps ds) : Binds K fd ps [] := by
  obtain ⟨ds, v, b⟩ := h
  cases v
  exact b
abbrev PP : Program := (PySem.Challenge.rw_treeshed_k55_due_values).prog
def hFa : List He.Fa := [.free "len", .free "isinstance", .free "int", .free "list", .free "sorted", .free "abs", .free "range", .free "tuple", .free "max", .free "min", .free "all", .free "any", .free "enumerate", .free "str", .free "bool", .free "dict", .free "super", .glo "ShedError", .glo "BadLetters", .glo "TooMany", .glo "BadRow", .glo "Lone", .glo "NoPlace", .glo "Tree", .cls "Tree", .noat "Tree" "letters", .noat "Tree" "rows", .noat "Tree" "size", .noat "Tree" "height", .noat "Tree" "triples", .noat "Tree" "ways", .glo "Merged", .cls "Merged", .noat "Merged" "tree", .noat "Merged" "taken", .glo "Clash", .cls "Clash", .noat "Clash" "place", .glo "Plan", .cls "Plan", .noat "Plan" "gone", .noat "Plan" "alike", .noat "Plan" "unlike", .noat "Plan" "tidy", .noat "Plan" "by_kind", .str "SMALL" "abcdefghijklmnopqrstuvwxyz", .int "MOST_LETTERS" 200, .int "MOST_PLACES" 2000, .int "MOST_VALUE" 9, .glo "GONE", .glo "ALIKE", .glo "UNLIKE", .glo "KEYS", .glo "is_letters", .glo "is_word", .glo "is_value", .glo "is_row", .glo "in_order", .mkr "Tree", .meth "Tree" "has", .meth "Tree" "value_of", .glo "as_tuples", .mkr "Merged", .mkr "Clash", .glo "check_letters", .glo "part_numbers", .glo "way_of", .glo "cells_met", .glo "cell_merged", .glo "rows_left", .glo "rows_taken", .glo "merge_part", .glo "merged", .glo "due_values", .glo "due", .glo "is_one_of", .glo "are_flags", .mkr "Plan", .glo "_law_pen_of", .glo "_law_draw", .glo "_law_pick", .glo "_law_letters", .glo "_law_cell", .glo "_law_grown", .glo "_law_edited", .glo "_law_three", .glo "_law_order", .glo "_law_rows", .glo "_law_tree", .glo "_law_value_of", .glo "_law_due", .glo "_law_asked_words", .glo "_law_odd_so", .glo "_law_merged_so", .glo "law"]
def hFn : List He.DefD := [⟨("is_letters", none), "is_letters", "is_letters", defArgs s_is_letters, defBody s_is_letters, defScope s_is_letters, [], []⟩, ⟨("is_word", none), "is_word", "is_word", defArgs s_is_word, defBody s_is_word, defScope s_is_word, [], []⟩, ⟨("is_value", none), "is_value", "is_value", defArgs s_is_value, defBody s_is_value, defScope s_is_value, [], []⟩, ⟨("is_row", none), "is_row", "is_row", defArgs s_is_row, defBody s_is_row, defScope s_is_row, [], []⟩, ⟨("in_order", none), "in_order", "in_order", defArgs s_in_order, defBody s_in_order, defScope s_in_order, [], []⟩, ⟨("Tree", some "__init__"), "__init__", "Tree.__init__", defArgs s_Tree_init, defBody s_Tree_init, defScope s_Tree_init, [], []⟩, ⟨("Tree", some "has"), "has", "Tree.has", defArgs s_Tree_has, defBody s_Tree_has, defScope s_Tree_has, [], []⟩, ⟨("Tree", some "value_of"), "value_of", "Tree.value_of", defArgs s_Tree_value_of, defBody s_Tree_value_of, defScope s_Tree_value_of, [], []⟩, ⟨("as_tuples", none), "as_tuples", "as_tuples", defArgs s_as_tuples, defBody s_as_tuples, defScope s_as_tuples, [], []⟩, ⟨("Merged", some "__init__"), "__init__", "Merged.__init__", defArgs s_Merged_init, defBody s_Merged_init, defScope s_Merged_init, [], []⟩, ⟨("Clash", some "__init__"), "__init__", "Clash.__init__", defArgs s_Clash_init, defBody s_Clash_init, defScope s_Clash_init, [], []⟩, ⟨("check_letters", none), "check_letters", "check_letters", defArgs s_check_letters, defBody s_check_letters, defScope s_check_letters, [], []⟩, ⟨("part_numbers", none), "part_numbers", "part_numbers", defArgs s_part_numbers, defBody s_part_numbers, defScope s_part_numbers, [], []⟩, ⟨("way_of", none), "way_of", "way_of", defArgs s_way_of, defBody s_way_of, defScope s_way_of, [], []⟩, ⟨("cells_met", none), "cells_met", "cells_met", defArgs s_cells_met, defBody s_cells_met, defScope s_cells_met, [], []⟩, ⟨("cell_merged", none), "cell_merged", "cell_merged", defArgs s_cell_merged, defBody s_cell_merged, defScope s_cell_merged, [], []⟩, ⟨("rows_left", none), "rows_left", "rows_left", defArgs s_rows_left, defBody s_rows_left, defScope s_rows_left, [], []⟩, ⟨("rows_taken", none), "rows_taken", "rows_taken", defArgs s_rows_taken, defBody s_rows_taken, defScope s_rows_taken, [], []⟩, ⟨("merge_part", none), "merge_part", "merge_part", defArgs s_merge_part, defBody s_merge_part, defScope s_merge_part, [], []⟩, ⟨("merged", none), "merged", "merged", defArgs s_merged, defBody s_merged, defScope s_merged, [], []⟩, ⟨("due_values", none), "due_values", "due_values", defArgs s_due_values, defBody s_due_values, defScope s_due_values, [], []⟩, ⟨("due", none), "due", "due", defArgs s_due, defBody s_due, defScope s_due, [], []⟩, ⟨("is_one_of", none), "is_one_of", "is_one_of", defArgs s_is_one_of, defBody s_is_one_of, defScope s_is_one_of, [], []⟩, ⟨("are_flags", none), "are_flags", "are_flags", defArgs s_are_flags, defBody s_are_flags, defScope s_are_flags, [], []⟩, ⟨("Plan", some "__init__"), "__init__", "Plan.__init__", defArgs s_Plan_init, defBody s_Plan_init, defScope s_Plan_init, [.non], []⟩, ⟨("_law_pen_of", none), "_law_pen_of", "_law_pen_of", defArgs s_l_pen_of, defBody s_l_pen_of, defScope s_l_pen_of, [], []⟩, ⟨("_law_draw", none), "_law_draw", "_law_draw", defArgs s_l_draw, defBody s_l_draw, defScope s_l_draw, [], []⟩, ⟨("_law_pick", none), "_law_pick", "_law_pick", defArgs s_l_pick, defBody s_l_pick, defScope s_l_pick, [], []⟩, ⟨("_law_letters", none), "_law_letters", "_law_letters", defArgs s_l_letters, defBody s_l_letters, defScope s_l_letters, [], []⟩, ⟨("_law_cell", none), "_law_cell", "_law_cell", defArgs s_l_cell, defBody s_l_cell, defScope s_l_cell, [], []⟩, ⟨("_law_grown", none), "_law_grown", "_law_grown", defArgs s_l_grown, defBody s_l_grown, defScope s_l_grown, [], []⟩, ⟨("_law_edited", none), "_law_edited", "_law_edited", defArgs s_l_edited, defBody s_l_edited, defScope s_l_edited, [], []⟩, ⟨("_law_three", none), "_law_three", "_law_three", defArgs s_l_three, defBody s_l_three, defScope s_l_three, [], []⟩, ⟨("_law_order", none), "_law_order", "_law_order", defArgs s_l_order, defBody s_l_order, defScope s_l_order, [], []⟩, ⟨("_law_rows", none), "_law_rows", "_law_rows", defArgs s_l_rows, defBody s_l_rows, defScope s_l_rows, [], []⟩, ⟨("_law_tree", none), "_law_tree", "_law_tree", defArgs s_l_tree, defBody s_l_tree, defScope s_l_tree, [], []⟩, ⟨("_law_value_of", none), "_law_value_of", "_law_value_of", defArgs s_l_value_of, defBody s_l_value_of, defScope s_l_value_of, [], []⟩, ⟨("_law_due", none), "_law_due", "_law_due", defArgs s_l_due, defBody s_l_due, defScope s_l_due, [], []⟩, ⟨("_law_asked_words", none), "_law_asked_words", "_law_asked_words", defArgs s_l_asked_words, defBody s_l_asked_words, defScope s_l_asked_words, [], []⟩, ⟨("_law_odd_so", none), "_law_odd_so", "_law_odd_so", defArgs s_l_odd_so, defBody s_l_odd_so, defScope s_l_odd_so, [], []⟩, ⟨("_law_merged_so", none), "_law_merged_so", "_law_merged_so", defArgs s_l_merged_so, defBody s_l_merged_so, defScope s_l_merged_so, [], []⟩, ⟨("law", none), "law", "law", defArgs s_law, defBody s_law, defScope s_law, [], []⟩]
def hEx : List (PySem.W.Frag → Bool) := [fun K => (PySem.W.clsIn K (He.ga K "ShedError")).isSome,
  fun K => decide (PySem.W.typeIn K (.ref (He.ga K "ShedError")) = some (.type "type")),
  fun K => decide (PySem.W.specialIn K (.builtin "object.__class__") "__get__" = some (some (.builtin "getset_descriptor.__get__"))),
  fun K => decide (PySem.W.takesIn K (.builtin "object.__class__") = some true),
  fun K => xclsB K (He.ga K "ShedError") (He.ga K "BadLetters"),
  fun K => xclsB K (He.ga K "ShedError") (He.ga K "TooMany"),
  fun K => xclsB K (He.ga K "ShedError") (He.ga K "BadRow"),
  fun K => xclsB K (He.ga K "ShedError") (He.ga K "Lone"),
  fun K => xclsB K (He.ga K "ShedError") (He.ga K "NoPlace"),
  fun K => xinitB PP.main.file K (He.ga K "BadLetters") (He.ma K (He.ga K "BadLetters") "__init__") "BadLetters.__init__",
  fun K => decide (PySem.W.nsIn K cStatics "thirdparty.any" = some none),
  fun K => decide (PySem.W.findIn K (.ref (He.ga K "BadLetters")) "letters" = some none),
  fun K => xinitB PP.main.file K (He.ga K "TooMany") (He.ma K (He.ga K "TooMany") "__init__") "TooMany.__init__",
  fun K => decide (PySem.W.findIn K (.ref (He.ga K "TooMany")) "what" = some none),
  fun K => decide (PySem.W.findIn K (.ref (He.ga K "TooMany")) "many" = some none),
  fun K => decide (PySem.W.findIn K (.ref (He.ga K "TooMany")) "most" = some none),
  fun K => xinitB PP.main.file K (He.ga K "BadRow") (He.ma K (He.ga K "BadRow") "__init__") "BadRow.__init__",
  fun K => decide (PySem.W.findIn K (.ref (He.ga K "BadRow")) "number" = some none),
  fun K => xinitB PP.main.file K (He.ga K "Lone") (He.ma K (He.ga K "Lone") "__init__") "Lone.__init__",
  fun K => decide (PySem.W.findIn K (.ref (He.ga K "Lone")) "place" = some none),
  fun K => xinitB PP.main.file K (He.ga K "NoPlace") (He.ma K (He.ga K "NoPlace") "__init__") "NoPlace.__init__",
  fun K => decide (PySem.W.findIn K (.ref (He.ga K "NoPlace")) "place" = some none),
  fun K => decide ([He.ga K "BadLetters", He.ga K "TooMany", He.ga K "BadRow", He.ga K "Lone", He.ga K "NoPlace", He.ga K "ShedError"].Nodup),
  fun K => Sh.tupB K (He.ga K "GONE") [.str "clash", .str "kept", .str "bare", .str "base"],
  fun K => Sh.tupB K (He.ga K "ALIKE") [.str "take", .str "clash"],
  fun K => Sh.tupB K (He.ga K "UNLIKE") [.str "clash", .str "one", .str "other"],
  fun K => Sh.tupB K (Sh.kidC K (He.ga K "KEYS") 0) [.bl true, .bl true, .int 0],
  fun K => Sh.tupB K (Sh.kidC K (He.ga K "KEYS") 1) [.bl true, .bl true, .int 1],
  fun K => Sh.tupB K (Sh.kidC K (He.ga K "KEYS") 2) [.bl true, .bl true, .int 2],
  fun K => Sh.tupB K (Sh.kidC K (He.ga K "KEYS") 3) [.bl true, .bl false, .int 0],
  fun K => Sh.tupB K (Sh.kidC K (He.ga K "KEYS") 4) [.bl true, .bl false, .int 1],
  fun K => Sh.tupB K (Sh.kidC K (He.ga K "KEYS") 5) [.bl true, .bl false, .int 2],
  fun K => Sh.tupB K (Sh.kidC K (He.ga K "KEYS") 6) [.bl false, .bl true, .int 0],
  fun K => Sh.tupB K (Sh.kidC K (He.ga K "KEYS") 7) [.bl false, .bl true, .int 1],
  fun K => Sh.tupB K (Sh.kidC K (He.ga K "KEYS") 8) [.bl false, .bl true, .int 2],
  fun K => Sh.tupB K (Sh.kidC K (He.ga K "KEYS") 9) [.bl false, .bl false, .int 0],
  fun K => Sh.tupB K (Sh.kidC K (He.ga K "KEYS") 10) [.bl false, .bl false, .int 1],
  fun K => Sh.tupB K (Sh.kidC K (He.ga K "KEYS") 11) [.bl false, .bl false, .int 2],
  fun K => Sh.tupB K (He.ga K "KEYS") [.ref (Sh.kidC K (He.ga K "KEYS") 0), .ref (Sh.kidC K (He.ga K "KEYS") 1), .ref (Sh.kidC K (He.ga K "KEYS") 2), .ref (Sh.kidC K (He.ga K "KEYS") 3), .ref (Sh.kidC K (He.ga K "KEYS") 4), .ref (Sh.kidC K (He.ga K "KEYS") 5), .ref (Sh.kidC K (He.ga K "KEYS") 6), .ref (Sh.kidC K (He.ga K "KEYS") 7), .ref (Sh.kidC K (He.ga K "KEYS") 8), .ref (Sh.kidC K (He.ga K "KEYS") 9), .ref (Sh.kidC K (He.ga K "KEYS") 10), .ref (Sh.kidC K (He.ga K "KEYS") 11)],
  fun K => decide (PySem.W.kitOne K (.ref (He.ga K "Tree")) (.type "list") = some false),
  fun K => decide (PySem.W.kitOne K (.ref (He.ga K "Tree")) (.type "tuple") = some false),
  fun K => decide (PySem.W.kitOne K (.ref (He.ga K "Merged")) (.ref (He.ga K "Clash")) = some false),
  fun K => decide (PySem.W.findIn K (.ref (He.ga K "Tree")) "__class__" = some (some (.builtin "object.__class__"))),
  fun K => decide (PySem.W.mroIn K (He.ga K "Tree") (.type "object") = some true),
  fun K => decide (PySem.W.findIn K (.ref (He.ga K "Merged")) "__class__" = some (some (.builtin "object.__class__"))),
  fun K => decide (PySem.W.mroIn K (He.ga K "Merged") (.type "object") = some true),
  fun K => decide (PySem.W.findIn K (.ref (He.ga K "Clash")) "__class__" = some (some (.builtin "object.__class__"))),
  fun K => decide (PySem.W.mroIn K (He.ga K "Clash") (.type "object") = some true),
  fun K => decide ([He.tabOf K (He.codeOf K ("in_order", none)), He.tabOf K (He.codeOf K ("_law_order", none))].Nodup)]
def hXs : List XD := [⟨"BadLetters", "BadLetters.__init__", s_x_BadLetters⟩, ⟨"TooMany", "TooMany.__init__", s_x_TooMany⟩, ⟨"BadRow", "BadRow.__init__", s_x_BadRow⟩, ⟨"Lone", "Lone.__init__", s_x_Lone⟩, ⟨"NoPlace", "NoPlace.__init__", s_x_NoPlace⟩]
abbrev Says (K : PySem.W.Frag) : Prop := SaysX hFa hFn hEx hXs K
def lawAt : Nat := 64
def loose : List PySem.Str := (["_wall", "__name__", "ShedError", "BadLetters", "TooMany", "BadRow", "Lone", "NoPlace", "BadItem", "BadPlan", "OtherLetters", "SMALL", "MOST_LETTERS", "MOST_PLACES", "MOST_VALUE", "is_letters", "is_word", "is_value", "is_row", "in_order", "values_of", "beginnings", "Tree", "as_tuples", "Merged", "Clash", "check_letters", "part_numbers", "way_of", "cells_met"] : List PySem.Str) ++ (["cell_merged", "merge_part", "rows_left", "rows_taken", "merged", "due_values", "due", "GONE", "ALIKE", "UNLIKE", "KEYS", "is_one_of", "are_flags", "Plan", "_law_pen_of", "_law_draw", "_law_pick", "_law_letters", "_law_cell", "_law_grown", "_law_edited", "_law_three", "_law_order", "_law_rows", "_law_tree", "_law_value_of", "_law_due", "_law_asked_words", "_law_odd_so", "_law_merged_so"] : List PySem.Str)
theorem IXe_BadLetters {K : PySem.W.Frag} {h : Heap} {mg : Str → Option Value} (X : K.In h) (G : h.Ns mainGlobals mg) (c : Says K) : ∃ fd, XInit PP K mg (He.ga K "BadLetters") (He.ma K (He.ga K "BadLetters") "__init__") "BadLetters.__init__" s_x_BadLetters fd := (xinit_of (P := PP) (mg := mg) (d := ⟨"BadLetters", "BadLetters.__init__", s_x_BadLetters⟩) (xclsB_ok (c.e 4 (f := fun K => xclsB K (He.ga K "ShedError") (He.ga K "BadLetters")) rfl)) (c.x 0 rfl) (c.e 9 (f := fun K => xinitB PP.main.file K (He.ga K "BadLetters") (He.ma K (He.ga K "BadLetters") "__init__") "BadLetters.__init__") rfl) (He.free_ok X G (c.d.fact 16 (f := .free "super") rfl)) (of_decide_eq_true (c.e 10 (f := fun K => decide (PySem.W.nsIn K cStatics "thirdparty.any" = some none)) rfl)) (by decide +kernel) ⟨_, rfl, rfl⟩ (by decide +kernel) (by decide +kernel) (by decide +kernel))
theorem IX_BadLetters {K : PySem.W.Frag} {h : Heap} {mg : Str → Option Value} (X : K.In h) (G : h.Ns mainGlobals mg) (c : Says K) : XInit PP K mg (He.ga K "BadLetters") (He.ma K (He.ga K "BadLetters") "__init__") "BadLetters.__init__" s_x_BadLetters (IXe_BadLetters X G c).choose := (IXe_BadLetters X G c).choose_spec
theorem IXe_TooMany {K : PySem.W.Frag} {h : Heap} {mg : Str → Option Value} (X : K.In h) (G : h.Ns mainGlobals mg) (c : Says K) : ∃ fd, XInit PP K mg (He.ga K "TooMany") (He.ma K (He.ga K "TooMany") "__init__") "TooMany.__init__" s_x_TooMany fd := (xinit_of (P := PP) (mg := mg) (d := ⟨"TooMany", "TooMany.__init__", s_x_TooMany⟩) (xclsB_ok (c.e 5 (f := fun K => xclsB K (He.ga K "ShedError") (He.ga K "TooMany")) rfl)) (c.x 1 rfl) (c.e 12 (f := fun K => xinitB PP.main.file K (He.ga K "TooMany") (He.ma K (He.ga K "TooMany") "__init__") "TooMany.__init__") rfl) (He.free_ok X G (c.d.fact 16 (f := .free "super") rfl)) (of_decide_eq_true (c.e 10 (f := fun K => decide (PySem.W.nsIn K cStatics "thirdparty.any" = some none)) rfl)) (by decide +kernel) ⟨_, rfl, rfl⟩ (by decide +kernel) (by decide +kernel) (by decide +kernel))
theorem IX_TooMany {K : PySem.W.Frag} {h : Heap} {mg : Str → Option Value} (X : K.In h) (G : h.Ns mainGlobals mg) (c : Says K) : XInit PP K mg (He.ga K "TooMany") (He.ma K (He.ga K "TooMany") "__init__") "TooMany.__init__" s_x_TooMany (IXe_TooMany X G c).choose := (IXe_TooMany X G c).choose_spec
theorem IXe_BadRow {K : PySem.W.Frag} {h : Heap} {mg : Str → Option Value} (X : K.In h) (G : h.Ns mainGlobals mg) (c : Says K) : ∃ fd, XInit PP K mg (He.ga K "BadRow") (He.ma K (He.ga K "BadRow") "__init__") "BadRow.__init__" s_x_BadRow fd := (xinit_of (P := PP) (mg := mg) (d := ⟨"BadRow", "BadRow.__init__", s_x_BadRow⟩) (xclsB_ok (c.e 6 (f := fun K => xclsB K (He.ga K "ShedError") (He.ga K "BadRow")) rfl)) (c.x 2 rfl) (c.e 16 (f := fun K => xinitB PP.main.file K (He.ga K "BadRow") (He.ma K (He.ga K "BadRow") "__init__") "BadRow.__init__") rfl) (He.free_ok X G (c.d.fact 16 (f := .free "super") rfl)) (of_decide_eq_true (c.e 10 (f := fun K => decide (PySem.W.nsIn K cStatics "thirdparty.any" = some none)) rfl)) (by decide +kernel) ⟨_, rfl, rfl⟩ (by decide +kernel) (by decide +kernel) (by decide +kernel))
theorem IX_BadRow {K : PySem.W.Frag} {h : Heap} {mg : Str → Option Value} (X : K.In h) (G : h.Ns mainGlobals mg) (c : Says K) : XInit PP K mg (He.ga K "BadRow") (He.ma K (He.ga K "BadRow") "__init__") "BadRow.__init__" s_x_BadRow (IXe_BadRow X G c).choose := (IXe_BadRow X G c).choose_spec
theorem IXe_Lone {K : PySem.W.Frag} {h : Heap} {mg : Str → Option Value} (X : K.In h) (G : h.Ns mainGlobals mg) (c : Says K) : ∃ fd, XInit PP K mg (He.ga K "Lone") (He.ma K (He.ga K "Lone") "__init__") "Lone.__init__" s_x_Lone fd := (xinit_of (P := PP) (mg := mg) (d := ⟨"Lone", "Lone.__init__", s_x_Lone⟩) (xclsB_ok (c.e 7 (f := fun K => xclsB K (He.ga K "ShedError") (He.ga K "Lone")) rfl)) (c.x 3 rfl) (c.e 18 (f := fun K => xinitB PP.main.file K (He.ga K "Lone") (He.ma K (He.ga K "Lone") "__init__") "Lone.__init__") rfl) (He.free_ok X G (c.d.fact 16 (f := .free "super") rfl)) (of_decide_eq_true (c.e 10 (f := fun K => decide (PySem.W.nsIn K cStatics "thirdparty.any" = some none)) rfl)) (by decide +kernel) ⟨_, rfl, rfl⟩ (by decide +kernel) (by decide +kernel) (by decide +kernel))
theorem IX_Lone {K : PySem.W.Frag} {h : Heap} {mg : Str → Option Value} (X : K.In h) (G : h.Ns mainGlobals mg) (c : Says K) : XInit PP K mg (He.ga K "Lone") (He.ma K (He.ga K "Lone") "__init__") "Lone.__init__" s_x_Lone (IXe_Lone X G c).choose := (IXe_Lone X G c).choose_spec
theorem IXe_NoPlace {K : PySem.W.Frag} {h : Heap} {mg : Str → Option Value} (X : K.In h) (G : h.Ns mainGlobals mg) (c : Says K) : ∃ fd, XInit PP K mg (He.ga K "NoPlace") (He.ma K (He.ga K "NoPlace") "__init__") "NoPlace.__init__" s_x_NoPlace fd := (xinit_of (P := PP) (mg := mg) (d := ⟨"NoPlace", "NoPlace.__init__", s_x_NoPlace⟩) (xclsB_ok (c.e 8 (f := fun K => xclsB K (He.ga K "ShedError") (He.ga K "NoPlace")) rfl)) (c.x 4 rfl) (c.e 20 (f := fun K => xinitB PP.main.file K (He.ga K "NoPlace") (He.ma K (He.ga K "NoPlace") "__init__") "NoPlace.__init__") rfl) (He.free_ok X G (c.d.fact 16 (f := .free "super") rfl)) (of_decide_eq_true (c.e 10 (f := fun K => decide (PySem.W.nsIn K cStatics "thirdparty.any" = some none)) rfl)) (by decide +kernel) ⟨_, rfl, rfl⟩ (by decide +kernel) (by decide +kernel) (by decide +kernel))
theorem IX_NoPlace {K : PySem.W.Frag} {h : Heap} {mg : Str → Option Value} (X : K.In h) (G : h.Ns mainGlobals mg) (c : Says K) : XInit PP K mg (He.ga K "NoPlace") (He.ma K (He.ga K "NoPlace") "__init__") "NoPlace.__init__" s_x_NoPlace (IXe_NoPlace X G c).choose := (IXe_NoPlace X G c).choose_spec
def hTf : List He.Defn := [("in_order", none), ("_law_order", none)]
def hCm : List CD := []
abbrev SaysT (h : Heap) (K : PySem.W.Frag) : Prop := SaysXT hFa hFn hEx hXs hTf hCm h K
noncomputable def tx_of {K : PySem.W.Frag} {h : Heap} {mg : Str → Option Value} (X : K.In h) (G : h.Ns mainGlobals mg) (c : SaysT h K) : Tx PP K mg where
  b_len := He.free_ok X G (c.s.d.fact 0 (f := .free "len") rfl)
  b_isinstance := He.free_ok X G (c.s.d.fact 1 (f := .free "isinstance") rfl)
  b_int := He.free_ok X G (c.s.d.fact 2 (f := .free "int") rfl)
  b_list := He.free_ok X G (c.s.d.fact 3 (f := .free "list") rfl)
  b_sorted := He.free_ok X G (c.s.d.fact 4 (f := .free "sorted") rfl)
  b_abs := He.free_ok X G (c.s.d.fact 5 (f := .free "abs") rfl)
  b_range := He.free_ok X G (c.s.d.fact 6 (f := .free "range") rfl)
  b_tuple := He.free_ok X G (c.s.d.fact 7 (f := .free "tuple") rfl)
  b_max := He.free_ok X G (c.s.d.fact 8 (f := .free "max") rfl)
  b_min := He.free_ok X G (c.s.d.fact 9 (f := .free "min") rfl)
  b_all := He.free_ok X G (c.s.d.fact 10 (f := .free "all") rfl)
  b_any := He.free_ok X G (c.s.d.fact 11 (f := .free "any") rfl)
  b_enumerate := He.free_ok X G (c.s.d.fact 12 (f := .free "enumerate") rfl)
  b_str := He.free_ok X G (c.s.d.fact 13 (f := .free "str") rfl)
  b_bool := He.free_ok X G (c.s.d.fact 14 (f := .free "bool") rfl)
  b_dict := He.free_ok X G (c.s.d.fact 15 (f := .free "dict") rfl)
  b_super := He.free_ok X G (c.s.d.fact 16 (f := .free "super") rfl)
  c_ShedError := He.ga K "ShedError"
  m_ShedError := He.glo_ok X G (c.s.d.fact 17 (f := .glo "ShedError") rfl)
  iS := (c.s.e 0 (f := fun K => (PySem.W.clsIn K (He.ga K "ShedError")).isSome) rfl)
  tS := of_decide_eq_true (c.s.e 1 (f := fun K => decide (PySem.W.typeIn K (.ref (He.ga K "ShedError")) = some (.type "type"))) rfl)
  o_get := of_decide_eq_true (c.s.e 2 (f := fun K => decide (PySem.W.specialIn K (.builtin "object.__class__") "__get__" = some (some (.builtin "getset_descriptor.__get__")))) rfl)
  o_tk := of_decide_eq_true (c.s.e 3 (f := fun K => decide (PySem.W.takesIn K (.builtin "object.__class__") = some true)) rfl)
  c_BadLetters := He.ga K "BadLetters"
  m_BadLetters := He.glo_ok X G (c.s.d.fact 18 (f := .glo "BadLetters") rfl)
  x_BadLetters := xclsB_ok (c.s.e 4 (f := fun K => xclsB K (He.ga K "ShedError") (He.ga K "BadLetters")) rfl)
  c_TooMany := He.ga K "TooMany"
  m_TooMany := He.glo_ok X G (c.s.d.fact 19 (f := .glo "TooMany") rfl)
  x_TooMany := xclsB_ok (c.s.e 5 (f := fun K => xclsB K (He.ga K "ShedError") (He.ga K "TooMany")) rfl)
  c_BadRow := He.ga K "BadRow"
  m_BadRow := He.glo_ok X G (c.s.d.fact 20 (f := .glo "BadRow") rfl)
  x_BadRow := xclsB_ok (c.s.e 6 (f := fun K => xclsB K (He.ga K "ShedError") (He.ga K "BadRow")) rfl)
  c_Lone := He.ga K "Lone"
  m_Lone := He.glo_ok X G (c.s.d.fact 21 (f := .glo "Lone") rfl)
  x_Lone := xclsB_ok (c.s.e 7 (f := fun K => xclsB K (He.ga K "ShedError") (He.ga K "Lone")) rfl)
  c_NoPlace := He.ga K "NoPlace"
  m_NoPlace := He.glo_ok X G (c.s.d.fact 22 (f := .glo "NoPlace") rfl)
  x_NoPlace := xclsB_ok (c.s.e 8 (f := fun K => xclsB K (He.ga K "ShedError") (He.ga K "NoPlace")) rfl)
  a_x_BadLetters := He.ma K (He.ga K "BadLetters") "__init__"
  fd_x_BadLetters := (IXe_BadLetters X G c.s).choose
  i_BadLetters := IX_BadLetters X G c.s
  nf_BadLetters_letters := of_decide_eq_true (c.s.e 11 (f := fun K => decide (PySem.W.findIn K (.ref (He.ga K "BadLetters")) "letters" = some none)) rfl)
  a_x_TooMany := He.ma K (He.ga K "TooMany") "__init__"
  fd_x_TooMany := (IXe_TooMany X G c.s).choose
  i_TooMany := IX_TooMany X G c.s
  nf_TooMany_what := of_decide_eq_true (c.s.e 13 (f := fun K => decide (PySem.W.findIn K (.ref (He.ga K "TooMany")) "what" = some none)) rfl)
  nf_TooMany_many := of_decide_eq_true (c.s.e 14 (f := fun K => decide (PySem.W.findIn K (.ref (He.ga K "TooMany")) "many" = some none)) rfl)
  nf_TooMany_most := of_decide_eq_true (c.s.e 15 (f := fun K => decide (PySem.W.findIn K (.ref (He.ga K "TooMany")) "most" = some none)) rfl)
  a_x_BadRow := He.ma K (He.ga K "BadRow") "__init__"
  fd_x_BadRow := (IXe_BadRow X G c.s).choose
  i_BadRow := IX_BadRow X G c.s
  nf_BadRow_number := of_decide_eq_true (c.s.e 17 (f := fun K => decide (PySem.W.findIn K (.ref (He.ga K "BadRow")) "number" = some none)) rfl)
  a_x_Lone := He.ma K (He.ga K "Lone") "__init__"
  fd_x_Lone := (IXe_Lone X G c.s).choose
  i_Lone := IX_Lone X G c.s
  nf_Lone_place := of_decide_eq_true (c.s.e 19 (f := fun K => decide (PySem.W.findIn K (.ref (He.ga K "Lone")) "place" = some none)) rfl)
  a_x_NoPlace := He.ma K (He.ga K "NoPlace") "__init__"
  fd_x_NoPlace := (IXe_NoPlace X G c.s).choose
  i_NoPlace := IX_NoPlace X G c.s
  nf_NoPlace_place := of_decide_eq_true (c.s.e 21 (f := fun K => decide (PySem.W.findIn K (.ref (He.ga K "NoPlace")) "place" = some none)) rfl)
  kb_BadLetters_1 := kbn_x (IX_BadLetters X G c.s) fun cc kV doc pm an cda ct us ws h1 h2 => match us, ws, h1, h2 with | [_, _], [], _, _ => rfl
  kb_TooMany_3 := kbn_x (IX_TooMany X G c.s) fun cc kV doc pm an cda ct us ws h1 h2 => match us, ws, h1, h2 with | [_, _, _, _], [], _, _ => rfl
  kb_BadRow_1 := kbn_x (IX_BadRow X G c.s) fun cc kV doc pm an cda ct us ws h1 h2 => match us, ws, h1, h2 with | [_, _], [], _, _ => rfl
  kb_Lone_1 := kbn_x (IX_Lone X G c.s) fun cc kV doc pm an cda ct us ws h1 h2 => match us, ws, h1, h2 with | [_, _], [], _, _ => rfl
  xnd := of_decide_eq_true (c.s.e 22 (f := fun K => decide ([He.ga K "BadLetters", He.ga K "TooMany", He.ga K "BadRow", He.ga K "Lone", He.ga K "NoPlace", He.ga K "ShedError"].Nodup)) rfl)
  c_Tree := He.ga K "Tree"
  m_Tree := He.glo_ok X G (c.s.d.fact 23 (f := .glo "Tree") rfl)
  cl_Tree := He.cls_ok (c.s.d.fact 24 (f := .cls "Tree") rfl)
  na_Tree_letters := He.noat_ok (c.s.d.fact 25 (f := .noat "Tree" "letters") rfl)
  na_Tree_rows := He.noat_ok (c.s.d.fact 26 (f := .noat "Tree" "rows") rfl)
  na_Tree_size := He.noat_ok (c.s.d.fact 27 (f := .noat "Tree" "size") rfl)
  na_Tree_height := He.noat_ok (c.s.d.fact 28 (f := .noat "Tree" "height") rfl)
  na_Tree_triples := He.noat_ok (c.s.d.fact 29 (f := .noat "Tree" "triples") rfl)
  na_Tree_ways := He.noat_ok (c.s.d.fact 30 (f := .noat "Tree" "ways") rfl)
  c_Merged := He.ga K "Merged"
  m_Merged := He.glo_ok X G (c.s.d.fact 31 (f := .glo "Merged") rfl)
  cl_Merged := He.cls_ok (c.s.d.fact 32 (f := .cls "Merged") rfl)
  na_Merged_tree := He.noat_ok (c.s.d.fact 33 (f := .noat "Merged" "tree") rfl)
  na_Merged_taken := He.noat_ok (c.s.d.fact 34 (f := .noat "Merged" "taken") rfl)
  c_Clash := He.ga K "Clash"
  m_Clash := He.glo_ok X G (c.s.d.fact 35 (f := .glo "Clash") rfl)
  cl_Clash := He.cls_ok (c.s.d.fact 36 (f := .cls "Clash") rfl)
  na_Clash_place := He.noat_ok (c.s.d.fact 37 (f := .noat "Clash" "place") rfl)
  c_Plan := He.ga K "Plan"
  m_Plan := He.glo_ok X G (c.s.d.fact 38 (f := .glo "Plan") rfl)
  cl_Plan := He.cls_ok (c.s.d.fact 39 (f := .cls "Plan") rfl)
  na_Plan_gone := He.noat_ok (c.s.d.fact 40 (f := .noat "Plan" "gone") rfl)
  na_Plan_alike := He.noat_ok (c.s.d.fact 41 (f := .noat "Plan" "alike") rfl)
  na_Plan_unlike := He.noat_ok (c.s.d.fact 42 (f := .noat "Plan" "unlike") rfl)
  na_Plan_tidy := He.noat_ok (c.s.d.fact 43 (f := .noat "Plan" "tidy") rfl)
  na_Plan_by_kind := He.noat_ok (c.s.d.fact 44 (f := .noat "Plan" "by_kind") rfl)
  m_SMALL := He.str_ok X G (c.s.d.fact 45 (f := .str "SMALL" "abcdefghijklmnopqrstuvwxyz") rfl)
  m_MOST_LETTERS := He.int_ok X G (c.s.d.fact 46 (f := .int "MOST_LETTERS" 200) rfl)
  m_MOST_PLACES := He.int_ok X G (c.s.d.fact 47 (f := .int "MOST_PLACES" 2000) rfl)
  m_MOST_VALUE := He.int_ok X G (c.s.d.fact 48 (f := .int "MOST_VALUE" 9) rfl)
  g_GONE := (He.ga K "GONE")
  m_GONE := He.glo_ok X G (c.s.d.fact 49 (f := .glo "GONE") rfl)
  y_GONE := (Sh.tupB_ok (c.s.e 23 (f := fun K => Sh.tupB K (He.ga K "GONE") [.str "clash", .str "kept", .str "bare", .str "base"]) rfl) (by show 4 ≤ sizeLine; decide)).2
  q_GONE := (Sh.tupB_ok (c.s.e 23 (f := fun K => Sh.tupB K (He.ga K "GONE") [.str "clash", .str "kept", .str "bare", .str "base"]) rfl) (by show 4 ≤ sizeLine; decide)).1
  g_ALIKE := (He.ga K "ALIKE")
  m_ALIKE := He.glo_ok X G (c.s.d.fact 50 (f := .glo "ALIKE") rfl)
  y_ALIKE := (Sh.tupB_ok (c.s.e 24 (f := fun K => Sh.tupB K (He.ga K "ALIKE") [.str "take", .str "clash"]) rfl) (by show 2 ≤ sizeLine; decide)).2
  q_ALIKE := (Sh.tupB_ok (c.s.e 24 (f := fun K => Sh.tupB K (He.ga K "ALIKE") [.str "take", .str "clash"]) rfl) (by show 2 ≤ sizeLine; decide)).1
  g_UNLIKE := (He.ga K "UNLIKE")
  m_UNLIKE := He.glo_ok X G (c.s.d.fact 51 (f := .glo "UNLIKE") rfl)
  y_UNLIKE := (Sh.tupB_ok (c.s.e 25 (f := fun K => Sh.tupB K (He.ga K "UNLIKE") [.str "clash", .str "one", .str "other"]) rfl) (by show 3 ≤ sizeLine; decide)).2
  q_UNLIKE := (Sh.tupB_ok (c.s.e 25 (f := fun K => Sh.tupB K (He.ga K "UNLIKE") [.str "clash", .str "one", .str "other"]) rfl) (by show 3 ≤ sizeLine; decide)).1
  g_KEYS_0 := (Sh.kidC K (He.ga K "KEYS") 0)
  q_KEYS_0 := (Sh.tupB_ok (c.s.e 26 (f := fun K => Sh.tupB K (Sh.kidC K (He.ga K "KEYS") 0) [.bl true, .bl true, .int 0]) rfl) (by show 3 ≤ sizeLine; decide)).1
  g_KEYS_1 := (Sh.kidC K (He.ga K "KEYS") 1)
  q_KEYS_1 := (Sh.tupB_ok (c.s.e 27 (f := fun K => Sh.tupB K (Sh.kidC K (He.ga K "KEYS") 1) [.bl true, .bl true, .int 1]) rfl) (by show 3 ≤ sizeLine; decide)).1
  g_KEYS_2 := (Sh.kidC K (He.ga K "KEYS") 2)
  q_KEYS_2 := (Sh.tupB_ok (c.s.e 28 (f := fun K => Sh.tupB K (Sh.kidC K (He.ga K "KEYS") 2) [.bl true, .bl true, .int 2]) rfl) (by show 3 ≤ sizeLine; decide)).1
  g_KEYS_3 := (Sh.kidC K (He.ga K "KEYS") 3)
  q_KEYS_3 := (Sh.tupB_ok (c.s.e 29 (f := fun K => Sh.tupB K (Sh.kidC K (He.ga K "KEYS") 3) [.bl true, .bl false, .int 0]) rfl) (by show 3 ≤ sizeLine; decide)).1
  g_KEYS_4 := (Sh.kidC K (He.ga K "KEYS") 4)
  q_KEYS_4 := (Sh.tupB_ok (c.s.e 30 (f := fun K => Sh.tupB K (Sh.kidC K (He.ga K "KEYS") 4) [.bl true, .bl false, .int 1]) rfl) (by show 3 ≤ sizeLine; decide)).1
  g_KEYS_5 := (Sh.kidC K (He.ga K "KEYS") 5)
  q_KEYS_5 := (Sh.tupB_ok (c.s.e 31 (f := fun K => Sh.tupB K (Sh.kidC K (He.ga K "KEYS") 5) [.bl true, .bl false, .int 2]) rfl) (by show 3 ≤ sizeLine; decide)).1
  g_KEYS_6 := (Sh.kidC K (He.ga K "KEYS") 6)
  q_KEYS_6 := (Sh.tupB_ok (c.s.e 32 (f := fun K => Sh.tupB K (Sh.kidC K (He.ga K "KEYS") 6) [.bl false, .bl true, .int 0]) rfl) (by show 3 ≤ sizeLine; decide)).1
  g_KEYS_7 := (Sh.kidC K (He.ga K "KEYS") 7)
  q_KEYS_7 := (Sh.tupB_ok (c.s.e 33 (f := fun K => Sh.tupB K (Sh.kidC K (He.ga K "KEYS") 7) [.bl false, .bl true, .int 1]) rfl) (by show 3 ≤ sizeLine; decide)).1
  g_KEYS_8 := (Sh.kidC K (He.ga K "KEYS") 8)
  q_KEYS_8 := (Sh.tupB_ok (c.s.e 34 (f := fun K => Sh.tupB K (Sh.kidC K (He.ga K "KEYS") 8) [.bl false, .bl true, .int 2]) rfl) (by show 3 ≤ sizeLine; decide)).1
  g_KEYS_9 := (Sh.kidC K (He.ga K "KEYS") 9)
  q_KEYS_9 := (Sh.tupB_ok (c.s.e 35 (f := fun K => Sh.tupB K (Sh.kidC K (He.ga K "KEYS") 9) [.bl false, .bl false, .int 0]) rfl) (by show 3 ≤ sizeLine; decide)).1
  g_KEYS_10 := (Sh.kidC K (He.ga K "KEYS") 10)
  q_KEYS_10 := (Sh.tupB_ok (c.s.e 36 (f := fun K => Sh.tupB K (Sh.kidC K (He.ga K "KEYS") 10) [.bl false, .bl false, .int 1]) rfl) (by show 3 ≤ sizeLine; decide)).1
  g_KEYS_11 := (Sh.kidC K (He.ga K "KEYS") 11)
  q_KEYS_11 := (Sh.tupB_ok (c.s.e 37 (f := fun K => Sh.tupB K (Sh.kidC K (He.ga K "KEYS") 11) [.bl false, .bl false, .int 2]) rfl) (by show 3 ≤ sizeLine; decide)).1
  g_KEYS := (He.ga K "KEYS")
  m_KEYS := He.glo_ok X G (c.s.d.fact 52 (f := .glo "KEYS") rfl)
  y_KEYS := (Sh.tupB_ok (c.s.e 38 (f := fun K => Sh.tupB K (He.ga K "KEYS") [.ref (Sh.kidC K (He.ga K "KEYS") 0), .ref (Sh.kidC K (He.ga K "KEYS") 1), .ref (Sh.kidC K (He.ga K "KEYS") 2), .ref (Sh.kidC K (He.ga K "KEYS") 3), .ref (Sh.kidC K (He.ga K "KEYS") 4), .ref (Sh.kidC K (He.ga K "KEYS") 5), .ref (Sh.kidC K (He.ga K "KEYS") 6), .ref (Sh.kidC K (He.ga K "KEYS") 7), .ref (Sh.kidC K (He.ga K "KEYS") 8), .ref (Sh.kidC K (He.ga K "KEYS") 9), .ref (Sh.kidC K (He.ga K "KEYS") 10), .ref (Sh.kidC K (He.ga K "KEYS") 11)]) rfl) (by show 12 ≤ sizeLine; decide)).2
  q_KEYS := (Sh.tupB_ok (c.s.e 38 (f := fun K => Sh.tupB K (He.ga K "KEYS") [.ref (Sh.kidC K (He.ga K "KEYS") 0), .ref (Sh.kidC K (He.ga K "KEYS") 1), .ref (Sh.kidC K (He.ga K "KEYS") 2), .ref (Sh.kidC K (He.ga K "KEYS") 3), .ref (Sh.kidC K (He.ga K "KEYS") 4), .ref (Sh.kidC K (He.ga K "KEYS") 5), .ref (Sh.kidC K (He.ga K "KEYS") 6), .ref (Sh.kidC K (He.ga K "KEYS") 7), .ref (Sh.kidC K (He.ga K "KEYS") 8), .ref (Sh.kidC K (He.ga K "KEYS") 9), .ref (Sh.kidC K (He.ga K "KEYS") 10), .ref (Sh.kidC K (He.ga K "KEYS") 11)]) rfl) (by show 12 ≤ sizeLine; decide)).1
  a_is_letters := (He.ga K "is_letters")
  fd_is_letters := (c.s.d.def_ 0 (d := ⟨("is_letters", none), "is_letters", "is_letters", defArgs s_is_letters, defBody s_is_letters, defScope s_is_letters, [], []⟩) rfl).choose
  F_is_letters := fun_of (st := s_is_letters) (c.s.d.def_ 0 (d := ⟨("is_letters", none), "is_letters", "is_letters", defArgs s_is_letters, defBody s_is_letters, defScope s_is_letters, [], []⟩) rfl).choose_spec
  bi_is_letters := (fun_of (st := s_is_letters) (c.s.d.def_ 0 (d := ⟨("is_letters", none), "is_letters", "is_letters", defArgs s_is_letters, defBody s_is_letters, defScope s_is_letters, [], []⟩) rfl).choose_spec).binds (ps := ["letters"]) fun _ _ _ _ _ _ us hl => match us, hl with | [_], _ => rfl
  m_is_letters := He.glo_ok X G (c.s.d.fact 53 (f := .glo "is_letters") rfl)
  a_is_word := (He.ga K "is_word")
  fd_is_word := (c.s.d.def_ 1 (d := ⟨("is_word", none), "is_word", "is_word", defArgs s_is_word, defBody s_is_word, defScope s_is_word, [], []⟩) rfl).choose
  F_is_word := fun_of (st := s_is_word) (c.s.d.def_ 1 (d := ⟨("is_word", none), "is_word", "is_word", defArgs s_is_word, defBody s_is_word, defScope s_is_word, [], []⟩) rfl).choose_spec
  bi_is_word := (fun_of (st := s_is_word) (c.s.d.def_ 1 (d := ⟨("is_word", none), "is_word", "is_word", defArgs s_is_word, defBody s_is_word, defScope s_is_word, [], []⟩) rfl).choose_spec).binds (ps := ["letters", "word"]) fun _ _ _ _ _ _ us hl => match us, hl with | [_, _], _ => rfl
  m_is_word := He.glo_ok X G (c.s.d.fact 54 (f := .glo "is_word") rfl)
  a_is_value := (He.ga K "is_value")
  fd_is_value := (c.s.d.def_ 2 (d := ⟨("is_value", none), "is_value", "is_value", defArgs s_is_value, defBody s_is_value, defScope s_is_value, [], []⟩) rfl).choose
  F_is_value := fun_of (st := s_is_value) (c.s.d.def_ 2 (d := ⟨("is_value", none), "is_value", "is_value", defArgs s_is_value, defBody s_is_value, defScope s_is_value, [], []⟩) rfl).choose_spec
  bi_is_value := (fun_of (st := s_is_value) (c.s.d.def_ 2 (d := ⟨("is_value", none), "is_value", "is_value", defArgs s_is_value, defBody s_is_value, defScope s_is_value, [], []⟩) rfl).choose_spec).binds (ps := ["value"]) fun _ _ _ _ _ _ us hl => match us, hl with | [_], _ => rfl
  m_is_value := He.glo_ok X G (c.s.d.fact 55 (f := .glo "is_value") rfl)
  a_is_row := (He.ga K "is_row")
  fd_is_row := (c.s.d.def_ 3 (d := ⟨("is_row", none), "is_row", "is_row", defArgs s_is_row, defBody s_is_row, defScope s_is_row, [], []⟩) rfl).choose
  F_is_row := fun_of (st := s_is_row) (c.s.d.def_ 3 (d := ⟨("is_row", none), "is_row", "is_row", defArgs s_is_row, defBody s_is_row, defScope s_is_row, [], []⟩) rfl).choose_spec
  bi_is_row := (fun_of (st := s_is_row) (c.s.d.def_ 3 (d := ⟨("is_row", none), "is_row", "is_row", defArgs s_is_row, defBody s_is_row, defScope s_is_row, [], []⟩) rfl).choose_spec).binds (ps := ["letters", "row"]) fun _ _ _ _ _ _ us hl => match us, hl with | [_, _], _ => rfl
  m_is_row := He.glo_ok X G (c.s.d.fact 56 (f := .glo "is_row") rfl)
  kc_in_order := He.codeOf K ("in_order", none)
  tb_in_order := He.tabOf K (He.codeOf K ("in_order", none))
  ec_in_order := ec_of (p := ("in_order", none)) (fun_of (st := s_in_order) (c.s.d.def_ 4 (d := ⟨("in_order", none), "in_order", "in_order", defArgs s_in_order, defBody s_in_order, defScope s_in_order, [], []⟩) rfl).choose_spec)
  a_in_order := (He.ga K "in_order")
  fd_in_order := (c.s.d.def_ 4 (d := ⟨("in_order", none), "in_order", "in_order", defArgs s_in_order, defBody s_in_order, defScope s_in_order, [], []⟩) rfl).choose
  F_in_order := fun_of (st := s_in_order) (c.s.d.def_ 4 (d := ⟨("in_order", none), "in_order", "in_order", defArgs s_in_order, defBody s_in_order, defScope s_in_order, [], []⟩) rfl).choose_spec
  bi_in_order := (fun_of (st := s_in_order) (c.s.d.def_ 4 (d := ⟨("in_order", none), "in_order", "in_order", defArgs s_in_order, defBody s_in_order, defScope s_in_order, [], []⟩) rfl).choose_spec).binds (ps := ["letters", "places"]) fun _ _ _ _ _ _ us hl => match us, hl with | [_, _], _ => rfl
  m_in_order := He.glo_ok X G (c.s.d.fact 57 (f := .glo "in_order") rfl)
  a_Tree_init := (He.ma K (He.ga K "Tree") "__init__")
  fd_Tree_init := (c.s.d.def_ 5 (d := ⟨("Tree", some "__init__"), "__init__", "Tree.__init__", defArgs s_Tree_init, defBody s_Tree_init, defScope s_Tree_init, [], []⟩) rfl).choose
  F_Tree_init := fun_of (st := s_Tree_init) (c.s.d.def_ 5 (d := ⟨("Tree", some "__init__"), "__init__", "Tree.__init__", defArgs s_Tree_init, defBody s_Tree_init, defScope s_Tree_init, [], []⟩) rfl).choose_spec
  bi_Tree_init := (fun_of (st := s_Tree_init) (c.s.d.def_ 5 (d := ⟨("Tree", some "__init__"), "__init__", "Tree.__init__", defArgs s_Tree_init, defBody s_Tree_init, defScope s_Tree_init, [], []⟩) rfl).choose_spec).binds (ps := ["self", "letters", "rows"]) fun _ _ _ _ _ _ us hl => match us, hl with | [_, _, _], _ => rfl
  mk_Tree := He.mkr_ok (c.s.d.fact 58 (f := .mkr "Tree") rfl)
  a_Tree_has := (He.ma K (He.ga K "Tree") "has")
  fd_Tree_has := (c.s.d.def_ 6 (d := ⟨("Tree", some "has"), "has", "Tree.has", defArgs s_Tree_has, defBody s_Tree_has, defScope s_Tree_has, [], []⟩) rfl).choose
  F_Tree_has := fun_of (st := s_Tree_has) (c.s.d.def_ 6 (d := ⟨("Tree", some "has"), "has", "Tree.has", defArgs s_Tree_has, defBody s_Tree_has, defScope s_Tree_has, [], []⟩) rfl).choose_spec
  bi_Tree_has := (fun_of (st := s_Tree_has) (c.s.d.def_ 6 (d := ⟨("Tree", some "has"), "has", "Tree.has", defArgs s_Tree_has, defBody s_Tree_has, defScope s_Tree_has, [], []⟩) rfl).choose_spec).binds (ps := ["self", "place"]) fun _ _ _ _ _ _ us hl => match us, hl with | [_, _], _ => rfl
  me_Tree_has := He.meth_ok (c.s.d.fact 59 (f := .meth "Tree" "has") rfl)
  a_Tree_value_of := (He.ma K (He.ga K "Tree") "value_of")
  fd_Tree_value_of := (c.s.d.def_ 7 (d := ⟨("Tree", some "value_of"), "value_of", "Tree.value_of", defArgs s_Tree_value_of, defBody s_Tree_value_of, defScope s_Tree_value_of, [], []⟩) rfl).choose
  F_Tree_value_of := fun_of (st := s_Tree_value_of) (c.s.d.def_ 7 (d := ⟨("Tree", some "value_of"), "value_of", "Tree.value_of", defArgs s_Tree_value_of, defBody s_Tree_value_of, defScope s_Tree_value_of, [], []⟩) rfl).choose_spec
  bi_Tree_value_of := (fun_of (st := s_Tree_value_of) (c.s.d.def_ 7 (d := ⟨("Tree", some "value_of"), "value_of", "Tree.value_of", defArgs s_Tree_value_of, defBody s_Tree_value_of, defScope s_Tree_value_of, [], []⟩) rfl).choose_spec).binds (ps := ["self", "word"]) fun _ _ _ _ _ _ us hl => match us, hl with | [_, _], _ => rfl
  me_Tree_value_of := He.meth_ok (c.s.d.fact 60 (f := .meth "Tree" "value_of") rfl)
  a_as_tuples := (He.ga K "as_tuples")
  fd_as_tuples := (c.s.d.def_ 8 (d := ⟨("as_tuples", none), "as_tuples", "as_tuples", defArgs s_as_tuples, defBody s_as_tuples, defScope s_as_tuples, [], []⟩) rfl).choose
  F_as_tuples := fun_of (st := s_as_tuples) (c.s.d.def_ 8 (d := ⟨("as_tuples", none), "as_tuples", "as_tuples", defArgs s_as_tuples, defBody s_as_tuples, defScope s_as_tuples, [], []⟩) rfl).choose_spec
  bi_as_tuples := (fun_of (st := s_as_tuples) (c.s.d.def_ 8 (d := ⟨("as_tuples", none), "as_tuples", "as_tuples", defArgs s_as_tuples, defBody s_as_tuples, defScope s_as_tuples, [], []⟩) rfl).choose_spec).binds (ps := ["value"]) fun _ _ _ _ _ _ us hl => match us, hl with | [_], _ => rfl
  m_as_tuples := He.glo_ok X G (c.s.d.fact 61 (f := .glo "as_tuples") rfl)
  a_Merged_init := (He.ma K (He.ga K "Merged") "__init__")
  fd_Merged_init := (c.s.d.def_ 9 (d := ⟨("Merged", some "__init__"), "__init__", "Merged.__init__", defArgs s_Merged_init, defBody s_Merged_init, defScope s_Merged_init, [], []⟩) rfl).choose
  F_Merged_init := fun_of (st := s_Merged_init) (c.s.d.def_ 9 (d := ⟨("Merged", some "__init__"), "__init__", "Merged.__init__", defArgs s_Merged_init, defBody s_Merged_init, defScope s_Merged_init, [], []⟩) rfl).choose_spec
  bi_Merged_init := (fun_of (st := s_Merged_init) (c.s.d.def_ 9 (d := ⟨("Merged", some "__init__"), "__init__", "Merged.__init__", defArgs s_Merged_init, defBody s_Merged_init, defScope s_Merged_init, [], []⟩) rfl).choose_spec).binds (ps := ["self", "tree", "taken"]) fun _ _ _ _ _ _ us hl => match us, hl with | [_, _, _], _ => rfl
  mk_Merged := He.mkr_ok (c.s.d.fact 62 (f := .mkr "Merged") rfl)
  a_Clash_init := (He.ma K (He.ga K "Clash") "__init__")
  fd_Clash_init := (c.s.d.def_ 10 (d := ⟨("Clash", some "__init__"), "__init__", "Clash.__init__", defArgs s_Clash_init, defBody s_Clash_init, defScope s_Clash_init, [], []⟩) rfl).choose
  F_Clash_init := fun_of (st := s_Clash_init) (c.s.d.def_ 10 (d := ⟨("Clash", some "__init__"), "__init__", "Clash.__init__", defArgs s_Clash_init, defBody s_Clash_init, defScope s_Clash_init, [], []⟩) rfl).choose_spec
  bi_Clash_init := (fun_of (st := s_Clash_init) (c.s.d.def_ 10 (d := ⟨("Clash", some "__init__"), "__init__", "Clash.__init__", defArgs s_Clash_init, defBody s_Clash_init, defScope s_Clash_init, [], []⟩) rfl).choose_spec).binds (ps := ["self", "place"]) fun _ _ _ _ _ _ us hl => match us, hl with | [_, _], _ => rfl
  mk_Clash := He.mkr_ok (c.s.d.fact 63 (f := .mkr "Clash") rfl)
  a_check_letters := (He.ga K "check_letters")
  fd_check_letters := (c.s.d.def_ 11 (d := ⟨("check_letters", none), "check_letters", "check_letters", defArgs s_check_letters, defBody s_check_letters, defScope s_check_letters, [], []⟩) rfl).choose
  F_check_letters := fun_of (st := s_check_letters) (c.s.d.def_ 11 (d := ⟨("check_letters", none), "check_letters", "check_letters", defArgs s_check_letters, defBody s_check_letters, defScope s_check_letters, [], []⟩) rfl).choose_spec
  bi_check_letters := (fun_of (st := s_check_letters) (c.s.d.def_ 11 (d := ⟨("check_letters", none), "check_letters", "check_letters", defArgs s_check_letters, defBody s_check_letters, defScope s_check_letters, [], []⟩) rfl).choose_spec).binds (ps := ["base", "one", "other"]) fun _ _ _ _ _ _ us hl => match us, hl with | [_, _, _], _ => rfl
  m_check_letters := He.glo_ok X G (c.s.d.fact 64 (f := .glo "check_letters") rfl)
  a_part_numbers := (He.ga K "part_numbers")
  fd_part_numbers := (c.s.d.def_ 12 (d := ⟨("part_numbers", none), "part_numbers", "part_numbers", defArgs s_part_numbers, defBody s_part_numbers, defScope s_part_numbers, [], []⟩) rfl).choose
  F_part_numbers := fun_of (st := s_part_numbers) (c.s.d.def_ 12 (d := ⟨("part_numbers", none), "part_numbers", "part_numbers", defArgs s_part_numbers, defBody s_part_numbers, defScope s_part_numbers, [], []⟩) rfl).choose_spec
  bi_part_numbers := (fun_of (st := s_part_numbers) (c.s.d.def_ 12 (d := ⟨("part_numbers", none), "part_numbers", "part_numbers", defArgs s_part_numbers, defBody s_part_numbers, defScope s_part_numbers, [], []⟩) rfl).choose_spec).binds (ps := ["trees"]) fun _ _ _ _ _ _ us hl => match us, hl with | [_], _ => rfl
  m_part_numbers := He.glo_ok X G (c.s.d.fact 65 (f := .glo "part_numbers") rfl)
  a_way_of := (He.ga K "way_of")
  fd_way_of := (c.s.d.def_ 13 (d := ⟨("way_of", none), "way_of", "way_of", defArgs s_way_of, defBody s_way_of, defScope s_way_of, [], []⟩) rfl).choose
  F_way_of := fun_of (st := s_way_of) (c.s.d.def_ 13 (d := ⟨("way_of", none), "way_of", "way_of", defArgs s_way_of, defBody s_way_of, defScope s_way_of, [], []⟩) rfl).choose_spec
  bi_way_of := (fun_of (st := s_way_of) (c.s.d.def_ 13 (d := ⟨("way_of", none), "way_of", "way_of", defArgs s_way_of, defBody s_way_of, defScope s_way_of, [], []⟩) rfl).choose_spec).binds (ps := ["plan", "base", "one", "other"]) fun _ _ _ _ _ _ us hl => match us, hl with | [_, _, _, _], _ => rfl
  m_way_of := He.glo_ok X G (c.s.d.fact 66 (f := .glo "way_of") rfl)
  a_cells_met := (He.ga K "cells_met")
  fd_cells_met := (c.s.d.def_ 14 (d := ⟨("cells_met", none), "cells_met", "cells_met", defArgs s_cells_met, defBody s_cells_met, defScope s_cells_met, [], []⟩) rfl).choose
  F_cells_met := fun_of (st := s_cells_met) (c.s.d.def_ 14 (d := ⟨("cells_met", none), "cells_met", "cells_met", defArgs s_cells_met, defBody s_cells_met, defScope s_cells_met, [], []⟩) rfl).choose_spec
  bi_cells_met := (fun_of (st := s_cells_met) (c.s.d.def_ 14 (d := ⟨("cells_met", none), "cells_met", "cells_met", defArgs s_cells_met, defBody s_cells_met, defScope s_cells_met, [], []⟩) rfl).choose_spec).binds (ps := ["plan", "cells"]) fun _ _ _ _ _ _ us hl => match us, hl with | [_, _], _ => rfl
  m_cells_met := He.glo_ok X G (c.s.d.fact 67 (f := .glo "cells_met") rfl)
  a_cell_merged := (He.ga K "cell_merged")
  fd_cell_merged := (c.s.d.def_ 15 (d := ⟨("cell_merged", none), "cell_merged", "cell_merged", defArgs s_cell_merged, defBody s_cell_merged, defScope s_cell_merged, [], []⟩) rfl).choose
  F_cell_merged := fun_of (st := s_cell_merged) (c.s.d.def_ 15 (d := ⟨("cell_merged", none), "cell_merged", "cell_merged", defArgs s_cell_merged, defBody s_cell_merged, defScope s_cell_merged, [], []⟩) rfl).choose_spec
  bi_cell_merged := (fun_of (st := s_cell_merged) (c.s.d.def_ 15 (d := ⟨("cell_merged", none), "cell_merged", "cell_merged", defArgs s_cell_merged, defBody s_cell_merged, defScope s_cell_merged, [], []⟩) rfl).choose_spec).binds (ps := ["plan", "cells"]) fun _ _ _ _ _ _ us hl => match us, hl with | [_, _], _ => rfl
  m_cell_merged := He.glo_ok X G (c.s.d.fact 68 (f := .glo "cell_merged") rfl)
  a_rows_left := (He.ga K "rows_left")
  fd_rows_left := (c.s.d.def_ 16 (d := ⟨("rows_left", none), "rows_left", "rows_left", defArgs s_rows_left, defBody s_rows_left, defScope s_rows_left, [], []⟩) rfl).choose
  F_rows_left := fun_of (st := s_rows_left) (c.s.d.def_ 16 (d := ⟨("rows_left", none), "rows_left", "rows_left", defArgs s_rows_left, defBody s_rows_left, defScope s_rows_left, [], []⟩) rfl).choose_spec
  bi_rows_left := (fun_of (st := s_rows_left) (c.s.d.def_ 16 (d := ⟨("rows_left", none), "rows_left", "rows_left", defArgs s_rows_left, defBody s_rows_left, defScope s_rows_left, [], []⟩) rfl).choose_spec).binds (ps := ["plan", "went", "taken"]) fun _ _ _ _ _ _ us hl => match us, hl with | [_, _, _], _ => rfl
  m_rows_left := He.glo_ok X G (c.s.d.fact 69 (f := .glo "rows_left") rfl)
  a_rows_taken := (He.ga K "rows_taken")
  fd_rows_taken := (c.s.d.def_ 17 (d := ⟨("rows_taken", none), "rows_taken", "rows_taken", defArgs s_rows_taken, defBody s_rows_taken, defScope s_rows_taken, [], []⟩) rfl).choose
  F_rows_taken := fun_of (st := s_rows_taken) (c.s.d.def_ 17 (d := ⟨("rows_taken", none), "rows_taken", "rows_taken", defArgs s_rows_taken, defBody s_rows_taken, defScope s_rows_taken, [], []⟩) rfl).choose_spec
  bi_rows_taken := (fun_of (st := s_rows_taken) (c.s.d.def_ 17 (d := ⟨("rows_taken", none), "rows_taken", "rows_taken", defArgs s_rows_taken, defBody s_rows_taken, defScope s_rows_taken, [], []⟩) rfl).choose_spec).binds (ps := ["tree", "places"]) fun _ _ _ _ _ _ us hl => match us, hl with | [_, _], _ => rfl
  m_rows_taken := He.glo_ok X G (c.s.d.fact 70 (f := .glo "rows_taken") rfl)
  a_merge_part := (He.ga K "merge_part")
  fd_merge_part := (c.s.d.def_ 18 (d := ⟨("merge_part", none), "merge_part", "merge_part", defArgs s_merge_part, defBody s_merge_part, defScope s_merge_part, [], []⟩) rfl).choose
  F_merge_part := fun_of (st := s_merge_part) (c.s.d.def_ 18 (d := ⟨("merge_part", none), "merge_part", "merge_part", defArgs s_merge_part, defBody s_merge_part, defScope s_merge_part, [], []⟩) rfl).choose_spec
  bi_merge_part := (fun_of (st := s_merge_part) (c.s.d.def_ 18 (d := ⟨("merge_part", none), "merge_part", "merge_part", defArgs s_merge_part, defBody s_merge_part, defScope s_merge_part, [], []⟩) rfl).choose_spec).binds (ps := ["plan", "trees", "start"]) fun _ _ _ _ _ _ us hl => match us, hl with | [_, _, _], _ => rfl
  m_merge_part := He.glo_ok X G (c.s.d.fact 71 (f := .glo "merge_part") rfl)
  a_merged := (He.ga K "merged")
  fd_merged := (c.s.d.def_ 19 (d := ⟨("merged", none), "merged", "merged", defArgs s_merged, defBody s_merged, defScope s_merged, [], []⟩) rfl).choose
  F_merged := fun_of (st := s_merged) (c.s.d.def_ 19 (d := ⟨("merged", none), "merged", "merged", defArgs s_merged, defBody s_merged, defScope s_merged, [], []⟩) rfl).choose_spec
  bi_merged := (fun_of (st := s_merged) (c.s.d.def_ 19 (d := ⟨("merged", none), "merged", "merged", defArgs s_merged, defBody s_merged, defScope s_merged, [], []⟩) rfl).choose_spec).binds (ps := ["plan", "base", "one", "other"]) fun _ _ _ _ _ _ us hl => match us, hl with | [_, _, _, _], _ => rfl
  m_merged := He.glo_ok X G (c.s.d.fact 72 (f := .glo "merged") rfl)
  a_due_values := (He.ga K "due_values")
  fd_due_values := (c.s.d.def_ 20 (d := ⟨("due_values", none), "due_values", "due_values", defArgs s_due_values, defBody s_due_values, defScope s_due_values, [], []⟩) rfl).choose
  F_due_values := fun_of (st := s_due_values) (c.s.d.def_ 20 (d := ⟨("due_values", none), "due_values", "due_values", defArgs s_due_values, defBody s_due_values, defScope s_due_values, [], []⟩) rfl).choose_spec
  bi_due_values := (fun_of (st := s_due_values) (c.s.d.def_ 20 (d := ⟨("due_values", none), "due_values", "due_values", defArgs s_due_values, defBody s_due_values, defScope s_due_values, [], []⟩) rfl).choose_spec).binds (ps := ["was", "left", "right"]) fun _ _ _ _ _ _ us hl => match us, hl with | [_, _, _], _ => rfl
  m_due_values := He.glo_ok X G (c.s.d.fact 73 (f := .glo "due_values") rfl)
  a_due := (He.ga K "due")
  fd_due := (c.s.d.def_ 21 (d := ⟨("due", none), "due", "due", defArgs s_due, defBody s_due, defScope s_due, [], []⟩) rfl).choose
  F_due := fun_of (st := s_due) (c.s.d.def_ 21 (d := ⟨("due", none), "due", "due", defArgs s_due, defBody s_due, defScope s_due, [], []⟩) rfl).choose_spec
  bi_due := (fun_of (st := s_due) (c.s.d.def_ 21 (d := ⟨("due", none), "due", "due", defArgs s_due, defBody s_due, defScope s_due, [], []⟩) rfl).choose_spec).binds (ps := ["base", "one", "other", "word"]) fun _ _ _ _ _ _ us hl => match us, hl with | [_, _, _, _], _ => rfl
  m_due := He.glo_ok X G (c.s.d.fact 74 (f := .glo "due") rfl)
  a_is_one_of := (He.ga K "is_one_of")
  fd_is_one_of := (c.s.d.def_ 22 (d := ⟨("is_one_of", none), "is_one_of", "is_one_of", defArgs s_is_one_of, defBody s_is_one_of, defScope s_is_one_of, [], []⟩) rfl).choose
  F_is_one_of := fun_of (st := s_is_one_of) (c.s.d.def_ 22 (d := ⟨("is_one_of", none), "is_one_of", "is_one_of", defArgs s_is_one_of, defBody s_is_one_of, defScope s_is_one_of, [], []⟩) rfl).choose_spec
  bi_is_one_of := (fun_of (st := s_is_one_of) (c.s.d.def_ 22 (d := ⟨("is_one_of", none), "is_one_of", "is_one_of", defArgs s_is_one_of, defBody s_is_one_of, defScope s_is_one_of, [], []⟩) rfl).choose_spec).binds (ps := ["value", "names"]) fun _ _ _ _ _ _ us hl => match us, hl with | [_, _], _ => rfl
  m_is_one_of := He.glo_ok X G (c.s.d.fact 75 (f := .glo "is_one_of") rfl)
  a_are_flags := (He.ga K "are_flags")
  fd_are_flags := (c.s.d.def_ 23 (d := ⟨("are_flags", none), "are_flags", "are_flags", defArgs s_are_flags, defBody s_are_flags, defScope s_are_flags, [], []⟩) rfl).choose
  F_are_flags := fun_of (st := s_are_flags) (c.s.d.def_ 23 (d := ⟨("are_flags", none), "are_flags", "are_flags", defArgs s_are_flags, defBody s_are_flags, defScope s_are_flags, [], []⟩) rfl).choose_spec
  bi_are_flags := (fun_of (st := s_are_flags) (c.s.d.def_ 23 (d := ⟨("are_flags", none), "are_flags", "are_flags", defArgs s_are_flags, defBody s_are_flags, defScope s_are_flags, [], []⟩) rfl).choose_spec).binds (ps := ["flags"]) fun _ _ _ _ _ _ us hl => match us, hl with | [_], _ => rfl
  m_are_flags := He.glo_ok X G (c.s.d.fact 76 (f := .glo "are_flags") rfl)
  a_Plan_init := (He.ma K (He.ga K "Plan") "__init__")
  fd_Plan_init := (c.s.d.def_ 24 (d := ⟨("Plan", some "__init__"), "__init__", "Plan.__init__", defArgs s_Plan_init, defBody s_Plan_init, defScope s_Plan_init, [.non], []⟩) rfl).choose
  F_Plan_init := (c.s.d.def_ 24 (d := ⟨("Plan", some "__init__"), "__init__", "Plan.__init__", defArgs s_Plan_init, defBody s_Plan_init, defScope s_Plan_init, [.non], []⟩) rfl).choose_spec
  bd1_Plan_init := ((c.s.d.def_ 24 (d := ⟨("Plan", some "__init__"), "__init__", "Plan.__init__", defArgs s_Plan_init, defBody s_Plan_init, defScope s_Plan_init, [.non], []⟩) rfl).choose_spec).binds1 (ps := ["self", "gone", "alike", "unlike", "tidy", "flags"]) 5 0 (fun z => nomatch z) rfl fun T kV doc pm an cdv ct us its h1 h2 => match us, its, h1, h2 with | [_, _, _, _, _], [_], _, _ => ⟨_, rfl, rfl⟩
  bi_Plan_init := nil_binds (((c.s.d.def_ 24 (d := ⟨("Plan", some "__init__"), "__init__", "Plan.__init__", defArgs s_Plan_init, defBody s_Plan_init, defScope s_Plan_init, [.non], []⟩) rfl).choose_spec).binds1 (ps := ["self", "gone", "alike", "unlike", "tidy", "flags"]) 6 1 (fun z => nomatch z) rfl fun T kV doc pm an cdv ct us its h1 h2 => match us, its, h1, h2 with | [_, _, _, _, _, _], [_], _, _ => ⟨_, rfl, rfl⟩)
  mk_Plan := He.mkr_ok (c.s.d.fact 77 (f := .mkr "Plan") rfl)
  a_l_pen_of := (He.ga K "_law_pen_of")
  fd_l_pen_of := (c.s.d.def_ 25 (d := ⟨("_law_pen_of", none), "_law_pen_of", "_law_pen_of", defArgs s_l_pen_of, defBody s_l_pen_of, defScope s_l_pen_of, [], []⟩) rfl).choose
  F_l_pen_of := fun_of (st := s_l_pen_of) (c.s.d.def_ 25 (d := ⟨("_law_pen_of", none), "_law_pen_of", "_law_pen_of", defArgs s_l_pen_of, defBody s_l_pen_of, defScope s_l_pen_of, [], []⟩) rfl).choose_spec
  bi_l_pen_of := (fun_of (st := s_l_pen_of) (c.s.d.def_ 25 (d := ⟨("_law_pen_of", none), "_law_pen_of", "_law_pen_of", defArgs s_l_pen_of, defBody s_l_pen_of, defScope s_l_pen_of, [], []⟩) rfl).choose_spec).binds (ps := ["_law_script"]) fun _ _ _ _ _ _ us hl => match us, hl with | [_], _ => rfl
  m_l_pen_of := He.glo_ok X G (c.s.d.fact 78 (f := .glo "_law_pen_of") rfl)
  a_l_draw := (He.ga K "_law_draw")
  fd_l_draw := (c.s.d.def_ 26 (d := ⟨("_law_draw", none), "_law_draw", "_law_draw", defArgs s_l_draw, defBody s_l_draw, defScope s_l_draw, [], []⟩) rfl).choose
  F_l_draw := fun_of (st := s_l_draw) (c.s.d.def_ 26 (d := ⟨("_law_draw", none), "_law_draw", "_law_draw", defArgs s_l_draw, defBody s_l_draw, defScope s_l_draw, [], []⟩) rfl).choose_spec
  bi_l_draw := (fun_of (st := s_l_draw) (c.s.d.def_ 26 (d := ⟨("_law_draw", none), "_law_draw", "_law_draw", defArgs s_l_draw, defBody s_l_draw, defScope s_l_draw, [], []⟩) rfl).choose_spec).binds (ps := ["_law_pen", "_law_many"]) fun _ _ _ _ _ _ us hl => match us, hl with | [_, _], _ => rfl
  m_l_draw := He.glo_ok X G (c.s.d.fact 79 (f := .glo "_law_draw") rfl)
  a_l_pick := (He.ga K "_law_pick")
  fd_l_pick := (c.s.d.def_ 27 (d := ⟨("_law_pick", none), "_law_pick", "_law_pick", defArgs s_l_pick, defBody s_l_pick, defScope s_l_pick, [], []⟩) rfl).choose
  F_l_pick := fun_of (st := s_l_pick) (c.s.d.def_ 27 (d := ⟨("_law_pick", none), "_law_pick", "_law_pick", defArgs s_l_pick, defBody s_l_pick, defScope s_l_pick, [], []⟩) rfl).choose_spec
  bi_l_pick := (fun_of (st := s_l_pick) (c.s.d.def_ 27 (d := ⟨("_law_pick", none), "_law_pick", "_law_pick", defArgs s_l_pick, defBody s_l_pick, defScope s_l_pick, [], []⟩) rfl).choose_spec).binds (ps := ["_law_pen", "_law_items"]) fun _ _ _ _ _ _ us hl => match us, hl with | [_, _], _ => rfl
  m_l_pick := He.glo_ok X G (c.s.d.fact 80 (f := .glo "_law_pick") rfl)
  a_l_letters := (He.ga K "_law_letters")
  fd_l_letters := (c.s.d.def_ 28 (d := ⟨("_law_letters", none), "_law_letters", "_law_letters", defArgs s_l_letters, defBody s_l_letters, defScope s_l_letters, [], []⟩) rfl).choose
  F_l_letters := fun_of (st := s_l_letters) (c.s.d.def_ 28 (d := ⟨("_law_letters", none), "_law_letters", "_law_letters", defArgs s_l_letters, defBody s_l_letters, defScope s_l_letters, [], []⟩) rfl).choose_spec
  bi_l_letters := (fun_of (st := s_l_letters) (c.s.d.def_ 28 (d := ⟨("_law_letters", none), "_law_letters", "_law_letters", defArgs s_l_letters, defBody s_l_letters, defScope s_l_letters, [], []⟩) rfl).choose_spec).binds (ps := ["_law_pen"]) fun _ _ _ _ _ _ us hl => match us, hl with | [_], _ => rfl
  m_l_letters := He.glo_ok X G (c.s.d.fact 81 (f := .glo "_law_letters") rfl)
  a_l_cell := (He.ga K "_law_cell")
  fd_l_cell := (c.s.d.def_ 29 (d := ⟨("_law_cell", none), "_law_cell", "_law_cell", defArgs s_l_cell, defBody s_l_cell, defScope s_l_cell, [], []⟩) rfl).choose
  F_l_cell := fun_of (st := s_l_cell) (c.s.d.def_ 29 (d := ⟨("_law_cell", none), "_law_cell", "_law_cell", defArgs s_l_cell, defBody s_l_cell, defScope s_l_cell, [], []⟩) rfl).choose_spec
  bi_l_cell := (fun_of (st := s_l_cell) (c.s.d.def_ 29 (d := ⟨("_law_cell", none), "_law_cell", "_law_cell", defArgs s_l_cell, defBody s_l_cell, defScope s_l_cell, [], []⟩) rfl).choose_spec).binds (ps := ["_law_pen"]) fun _ _ _ _ _ _ us hl => match us, hl with | [_], _ => rfl
  m_l_cell := He.glo_ok X G (c.s.d.fact 82 (f := .glo "_law_cell") rfl)
  a_l_grown := (He.ga K "_law_grown")
  fd_l_grown := (c.s.d.def_ 30 (d := ⟨("_law_grown", none), "_law_grown", "_law_grown", defArgs s_l_grown, defBody s_l_grown, defScope s_l_grown, [], []⟩) rfl).choose
  F_l_grown := fun_of (st := s_l_grown) (c.s.d.def_ 30 (d := ⟨("_law_grown", none), "_law_grown", "_law_grown", defArgs s_l_grown, defBody s_l_grown, defScope s_l_grown, [], []⟩) rfl).choose_spec
  bi_l_grown := (fun_of (st := s_l_grown) (c.s.d.def_ 30 (d := ⟨("_law_grown", none), "_law_grown", "_law_grown", defArgs s_l_grown, defBody s_l_grown, defScope s_l_grown, [], []⟩) rfl).choose_spec).binds (ps := ["_law_pen", "_law_letters_here", "_law_found", "_law_many"]) fun _ _ _ _ _ _ us hl => match us, hl with | [_, _, _, _], _ => rfl
  m_l_grown := He.glo_ok X G (c.s.d.fact 83 (f := .glo "_law_grown") rfl)
  a_l_edited := (He.ga K "_law_edited")
  fd_l_edited := (c.s.d.def_ 31 (d := ⟨("_law_edited", none), "_law_edited", "_law_edited", defArgs s_l_edited, defBody s_l_edited, defScope s_l_edited, [], []⟩) rfl).choose
  F_l_edited := fun_of (st := s_l_edited) (c.s.d.def_ 31 (d := ⟨("_law_edited", none), "_law_edited", "_law_edited", defArgs s_l_edited, defBody s_l_edited, defScope s_l_edited, [], []⟩) rfl).choose_spec
  bi_l_edited := (fun_of (st := s_l_edited) (c.s.d.def_ 31 (d := ⟨("_law_edited", none), "_law_edited", "_law_edited", defArgs s_l_edited, defBody s_l_edited, defScope s_l_edited, [], []⟩) rfl).choose_spec).binds (ps := ["_law_pen", "_law_letters_here", "_law_found", "_law_many"]) fun _ _ _ _ _ _ us hl => match us, hl with | [_, _, _, _], _ => rfl
  m_l_edited := He.glo_ok X G (c.s.d.fact 84 (f := .glo "_law_edited") rfl)
  a_l_three := (He.ga K "_law_three")
  fd_l_three := (c.s.d.def_ 32 (d := ⟨("_law_three", none), "_law_three", "_law_three", defArgs s_l_three, defBody s_l_three, defScope s_l_three, [], []⟩) rfl).choose
  F_l_three := fun_of (st := s_l_three) (c.s.d.def_ 32 (d := ⟨("_law_three", none), "_law_three", "_law_three", defArgs s_l_three, defBody s_l_three, defScope s_l_three, [], []⟩) rfl).choose_spec
  bi_l_three := (fun_of (st := s_l_three) (c.s.d.def_ 32 (d := ⟨("_law_three", none), "_law_three", "_law_three", defArgs s_l_three, defBody s_l_three, defScope s_l_three, [], []⟩) rfl).choose_spec).binds (ps := ["_law_pen", "_law_letters_here", "_law_many"]) fun _ _ _ _ _ _ us hl => match us, hl with | [_, _, _], _ => rfl
  m_l_three := He.glo_ok X G (c.s.d.fact 85 (f := .glo "_law_three") rfl)
  kc_l_order := He.codeOf K ("_law_order", none)
  tb_l_order := He.tabOf K (He.codeOf K ("_law_order", none))
  ec_l_order := ec_of (p := ("_law_order", none)) (fun_of (st := s_l_order) (c.s.d.def_ 33 (d := ⟨("_law_order", none), "_law_order", "_law_order", defArgs s_l_order, defBody s_l_order, defScope s_l_order, [], []⟩) rfl).choose_spec)
  a_l_order := (He.ga K "_law_order")
  fd_l_order := (c.s.d.def_ 33 (d := ⟨("_law_order", none), "_law_order", "_law_order", defArgs s_l_order, defBody s_l_order, defScope s_l_order, [], []⟩) rfl).choose
  F_l_order := fun_of (st := s_l_order) (c.s.d.def_ 33 (d := ⟨("_law_order", none), "_law_order", "_law_order", defArgs s_l_order, defBody s_l_order, defScope s_l_order, [], []⟩) rfl).choose_spec
  bi_l_order := (fun_of (st := s_l_order) (c.s.d.def_ 33 (d := ⟨("_law_order", none), "_law_order", "_law_order", defArgs s_l_order, defBody s_l_order, defScope s_l_order, [], []⟩) rfl).choose_spec).binds (ps := ["_law_letters_here", "_law_places"]) fun _ _ _ _ _ _ us hl => match us, hl with | [_, _], _ => rfl
  m_l_order := He.glo_ok X G (c.s.d.fact 86 (f := .glo "_law_order") rfl)
  a_l_rows := (He.ga K "_law_rows")
  fd_l_rows := (c.s.d.def_ 34 (d := ⟨("_law_rows", none), "_law_rows", "_law_rows", defArgs s_l_rows, defBody s_l_rows, defScope s_l_rows, [], []⟩) rfl).choose
  F_l_rows := fun_of (st := s_l_rows) (c.s.d.def_ 34 (d := ⟨("_law_rows", none), "_law_rows", "_law_rows", defArgs s_l_rows, defBody s_l_rows, defScope s_l_rows, [], []⟩) rfl).choose_spec
  bi_l_rows := (fun_of (st := s_l_rows) (c.s.d.def_ 34 (d := ⟨("_law_rows", none), "_law_rows", "_law_rows", defArgs s_l_rows, defBody s_l_rows, defScope s_l_rows, [], []⟩) rfl).choose_spec).binds (ps := ["_law_letters_here", "_law_found"]) fun _ _ _ _ _ _ us hl => match us, hl with | [_, _], _ => rfl
  m_l_rows := He.glo_ok X G (c.s.d.fact 87 (f := .glo "_law_rows") rfl)
  a_l_tree := (He.ga K "_law_tree")
  fd_l_tree := (c.s.d.def_ 35 (d := ⟨("_law_tree", none), "_law_tree", "_law_tree", defArgs s_l_tree, defBody s_l_tree, defScope s_l_tree, [], []⟩) rfl).choose
  F_l_tree := fun_of (st := s_l_tree) (c.s.d.def_ 35 (d := ⟨("_law_tree", none), "_law_tree", "_law_tree", defArgs s_l_tree, defBody s_l_tree, defScope s_l_tree, [], []⟩) rfl).choose_spec
  bi_l_tree := (fun_of (st := s_l_tree) (c.s.d.def_ 35 (d := ⟨("_law_tree", none), "_law_tree", "_law_tree", defArgs s_l_tree, defBody s_l_tree, defScope s_l_tree, [], []⟩) rfl).choose_spec).binds (ps := ["_law_letters_here", "_law_found"]) fun _ _ _ _ _ _ us hl => match us, hl with | [_, _], _ => rfl
  m_l_tree := He.glo_ok X G (c.s.d.fact 88 (f := .glo "_law_tree") rfl)
  a_l_value_of := (He.ga K "_law_value_of")
  fd_l_value_of := (c.s.d.def_ 36 (d := ⟨("_law_value_of", none), "_law_value_of", "_law_value_of", defArgs s_l_value_of, defBody s_l_value_of, defScope s_l_value_of, [], []⟩) rfl).choose
  F_l_value_of := fun_of (st := s_l_value_of) (c.s.d.def_ 36 (d := ⟨("_law_value_of", none), "_law_value_of", "_law_value_of", defArgs s_l_value_of, defBody s_l_value_of, defScope s_l_value_of, [], []⟩) rfl).choose_spec
  bi_l_value_of := (fun_of (st := s_l_value_of) (c.s.d.def_ 36 (d := ⟨("_law_value_of", none), "_law_value_of", "_law_value_of", defArgs s_l_value_of, defBody s_l_value_of, defScope s_l_value_of, [], []⟩) rfl).choose_spec).binds (ps := ["_law_found", "_law_word"]) fun _ _ _ _ _ _ us hl => match us, hl with | [_, _], _ => rfl
  m_l_value_of := He.glo_ok X G (c.s.d.fact 89 (f := .glo "_law_value_of") rfl)
  a_l_due := (He.ga K "_law_due")
  fd_l_due := (c.s.d.def_ 37 (d := ⟨("_law_due", none), "_law_due", "_law_due", defArgs s_l_due, defBody s_l_due, defScope s_l_due, [], []⟩) rfl).choose
  F_l_due := fun_of (st := s_l_due) (c.s.d.def_ 37 (d := ⟨("_law_due", none), "_law_due", "_law_due", defArgs s_l_due, defBody s_l_due, defScope s_l_due, [], []⟩) rfl).choose_spec
  bi_l_due := (fun_of (st := s_l_due) (c.s.d.def_ 37 (d := ⟨("_law_due", none), "_law_due", "_law_due", defArgs s_l_due, defBody s_l_due, defScope s_l_due, [], []⟩) rfl).choose_spec).binds (ps := ["_law_three_here", "_law_word"]) fun _ _ _ _ _ _ us hl => match us, hl with | [_, _], _ => rfl
  m_l_due := He.glo_ok X G (c.s.d.fact 90 (f := .glo "_law_due") rfl)
  a_l_asked_words := (He.ga K "_law_asked_words")
  fd_l_asked_words := (c.s.d.def_ 38 (d := ⟨("_law_asked_words", none), "_law_asked_words", "_law_asked_words", defArgs s_l_asked_words, defBody s_l_asked_words, defScope s_l_asked_words, [], []⟩) rfl).choose
  F_l_asked_words := fun_of (st := s_l_asked_words) (c.s.d.def_ 38 (d := ⟨("_law_asked_words", none), "_law_asked_words", "_law_asked_words", defArgs s_l_asked_words, defBody s_l_asked_words, defScope s_l_asked_words, [], []⟩) rfl).choose_spec
  bi_l_asked_words := (fun_of (st := s_l_asked_words) (c.s.d.def_ 38 (d := ⟨("_law_asked_words", none), "_law_asked_words", "_law_asked_words", defArgs s_l_asked_words, defBody s_l_asked_words, defScope s_l_asked_words, [], []⟩) rfl).choose_spec).binds (ps := ["_law_pen", "_law_letters_here", "_law_three_here"]) fun _ _ _ _ _ _ us hl => match us, hl with | [_, _, _], _ => rfl
  m_l_asked_words := He.glo_ok X G (c.s.d.fact 91 (f := .glo "_law_asked_words") rfl)
  a_l_odd_so := (He.ga K "_law_odd_so")
  fd_l_odd_so := (c.s.d.def_ 39 (d := ⟨("_law_odd_so", none), "_law_odd_so", "_law_odd_so", defArgs s_l_odd_so, defBody s_l_odd_so, defScope s_l_odd_so, [], []⟩) rfl).choose
  F_l_odd_so := fun_of (st := s_l_odd_so) (c.s.d.def_ 39 (d := ⟨("_law_odd_so", none), "_law_odd_so", "_law_odd_so", defArgs s_l_odd_so, defBody s_l_odd_so, defScope s_l_odd_so, [], []⟩) rfl).choose_spec
  bi_l_odd_so := (fun_of (st := s_l_odd_so) (c.s.d.def_ 39 (d := ⟨("_law_odd_so", none), "_law_odd_so", "_law_odd_so", defArgs s_l_odd_so, defBody s_l_odd_so, defScope s_l_odd_so, [], []⟩) rfl).choose_spec).binds (ps := ["_law_pen", "_law_trees"]) fun _ _ _ _ _ _ us hl => match us, hl with | [_, _], _ => rfl
  m_l_odd_so := He.glo_ok X G (c.s.d.fact 92 (f := .glo "_law_odd_so") rfl)
  a_l_merged_so := (He.ga K "_law_merged_so")
  fd_l_merged_so := (c.s.d.def_ 40 (d := ⟨("_law_merged_so", none), "_law_merged_so", "_law_merged_so", defArgs s_l_merged_so, defBody s_l_merged_so, defScope s_l_merged_so, [], []⟩) rfl).choose
  F_l_merged_so := fun_of (st := s_l_merged_so) (c.s.d.def_ 40 (d := ⟨("_law_merged_so", none), "_law_merged_so", "_law_merged_so", defArgs s_l_merged_so, defBody s_l_merged_so, defScope s_l_merged_so, [], []⟩) rfl).choose_spec
  bi_l_merged_so := (fun_of (st := s_l_merged_so) (c.s.d.def_ 40 (d := ⟨("_law_merged_so", none), "_law_merged_so", "_law_merged_so", defArgs s_l_merged_so, defBody s_l_merged_so, defScope s_l_merged_so, [], []⟩) rfl).choose_spec).binds (ps := ["_law_pen", "_law_trees", "_law_three_here", "_law_words"]) fun _ _ _ _ _ _ us hl => match us, hl with | [_, _, _, _], _ => rfl
  m_l_merged_so := He.glo_ok X G (c.s.d.fact 93 (f := .glo "_law_merged_so") rfl)
  a_law := (He.ga K "law")
  fd_law := (c.s.d.def_ 41 (d := ⟨("law", none), "law", "law", defArgs s_law, defBody s_law, defScope s_law, [], []⟩) rfl).choose
  F_law := fun_of (st := s_law) (c.s.d.def_ 41 (d := ⟨("law", none), "law", "law", defArgs s_law, defBody s_law, defScope s_law, [], []⟩) rfl).choose_spec
  bi_law := (fun_of (st := s_law) (c.s.d.def_ 41 (d := ⟨("law", none), "law", "law", defArgs s_law, defBody s_law, defScope s_law, [], []⟩) rfl).choose_spec).binds (ps := ["_law_script"]) fun _ _ _ _ _ _ us hl => match us, hl with | [_], _ => rfl
  m_law := He.glo_ok X G (c.s.d.fact 94 (f := .glo "law") rfl)
  kl_Tree := of_decide_eq_true (c.s.e 39 (f := fun K => decide (PySem.W.kitOne K (.ref (He.ga K "Tree")) (.type "list") = some false)) rfl)
  kt_Tree := of_decide_eq_true (c.s.e 40 (f := fun K => decide (PySem.W.kitOne K (.ref (He.ga K "Tree")) (.type "tuple") = some false)) rfl)
  kmc := of_decide_eq_true (c.s.e 41 (f := fun K => decide (PySem.W.kitOne K (.ref (He.ga K "Merged")) (.ref (He.ga K "Clash")) = some false)) rfl)
  ca_Tree := of_decide_eq_true (c.s.e 42 (f := fun K => decide (PySem.W.findIn K (.ref (He.ga K "Tree")) "__class__" = some (some (.builtin "object.__class__")))) rfl)
  ob_Tree := of_decide_eq_true (c.s.e 43 (f := fun K => decide (PySem.W.mroIn K (He.ga K "Tree") (.type "object") = some true)) rfl)
  ca_Merged := of_decide_eq_true (c.s.e 44 (f := fun K => decide (PySem.W.findIn K (.ref (He.ga K "Merged")) "__class__" = some (some (.builtin "object.__class__")))) rfl)
  ob_Merged := of_decide_eq_true (c.s.e 45 (f := fun K => decide (PySem.W.mroIn K (He.ga K "Merged") (.type "object") = some true)) rfl)
  ca_Clash := of_decide_eq_true (c.s.e 46 (f := fun K => decide (PySem.W.findIn K (.ref (He.ga K "Clash")) "__class__" = some (some (.builtin "object.__class__")))) rfl)
  ob_Clash := of_decide_eq_true (c.s.e 47 (f := fun K => decide (PySem.W.mroIn K (He.ga K "Clash") (.type "object") = some true)) rfl)
  tnd := of_decide_eq_true (c.s.e 48 (f := fun K => decide ([He.tabOf K (He.codeOf K ("in_order", none)), He.tabOf K (He.codeOf K ("_law_order", none))].Nodup)) rfl)
end Toy
set_option Elab.async false
set_option linter.all false
set_option maxRecDepth 100000
set_option maxHeartbeats 4000000
namespace Toy
open PySem L2 Sh ShL LamX NdefX
/-! ### the end -/
theorem facts {w : World} {K : PySem.W.Frag} {h : Heap} {mg : Str → Option Value} {fa : Addr} (X : K.In h) (G : h.Ns mainGlobals mg) (hfa : mg ("law" : Str) = some (.ref fa)) (c : SaysT h K) :
    LamX.LawAtS PySem.Challenge.rw_treeshed_k55_due_values w K CX0 10 63 "_law_script" mg fa h := by
  have e := hfa.symm.trans (tx_of X G c).m_law
  cases e
  have m1 : ∀ q ∈ hTf, He.cT K q ∈ hTf.map (He.cT K) := fun q hq => List.mem_map.mpr ⟨q, hq, rfl⟩
  have q1 : (("in_order", none) : He.Defn) ∈ hTf := .head _
  have q2 : (("_law_order", none) : He.Defn) ∈ hTf := .tail _ (.head _)
  refine ⟨(tx_of X G c).fd_law, hTf.map (He.cT K), spLaw K (tabs (tx_of X G c)), fun p hp => ?_, fun p hp => ?_, fun p hp => ?_, fun s v => ?_, fun H a ns hl _ ht hS => ⟨a, ns, rfl, hS, fun p hp => ?_, fun _ => rfl⟩, fun base _ _ hB => ok_law (tx_of X G c) ⟨hB _ (m1 _ q1), hB _ (m1 _ q2)⟩⟩
  · obtain ⟨q, hq, rfl⟩ := List.mem_map.mp hp
    exact c.empty q hq
  · obtain ⟨q, hq, rfl⟩ := List.mem_map.mp hp
    exact c.out q hq
  · obtain ⟨q, hq, rfl⟩ := List.mem_map.mp hp
    exact PySem.W.codeHd_of_K X (c.hd q hq)
  · obtain ⟨oc, od, kV, doc, pm, an, cdv, ct, osl, h, _⟩ := (tx_of X G c).F_law.ex
    rw [h]
    exact .of_eq rfl
  · unfold tabs at hp
    rcases List.mem_cons.mp hp with rfl | hp
    · exact LamX.TabS.nil (ht _ (m1 _ q1))
    rcases List.mem_cons.mp hp with rfl | hp
    · exact LamX.TabS.nil (ht _ (m1 _ q2))
    cases hp
end Toy
set_option Elab.async false
set_option linter.all false
set_option maxRecDepth 100000
set_option maxHeartbeats 4000000
namespace Toy
open PySem L2 Sh ShL LamX NdefX
/-! ### the head: the run of the top, in the kernel -/
abbrev R : PySem.W.OpenRow := PySem.W.OpenLaw.row PySem.Challenge.rw_treeshed_k55_due_values
abbrev hk : PySem.W.Hook := hookXT 4 hFa hFn hEx hXs hTf hCm
def ob (s : PySem.W.SharedT) : AlXT := obsXT hFa hFn hEx hXs hTf hCm 4 (HandSHeadRun.getT s)
theorem ob_eq (s : PySem.W.SharedT) : ob s = hk.obs s.abs := obsXT_eq (HandSHeadRun.getT_eq s)
set_option maxHeartbeats 0 in
theorem run (w : World) : HandSHeadRun.RunEq R (PySem.W.view R.prog [64]) hk ob 20000 loose w := by
  intro os
  kernel_rfl
end Toy
set_option Elab.async false
set_option linter.all false
set_option maxRecDepth 100000
set_option maxHeartbeats 4000000
namespace Toy
open PySem L2 Sh ShL LamX NdefX
end Toy
open PySem PySem.W PySem.Calls PyProof.Rows
set_option maxRecDepth 100000 in
set_option maxHeartbeats 0 in
theorem PySem.Challenge.cw_treeshed_k55_due_values_holds : PySem.Challenge.rw_treeshed_k55_due_values.Holds := by
  w_on; o_law
  refine HandSHeadRun.head_any (r := OpenLaw.row PySem.Challenge.rw_treeshed_k55_due_values) (q := view (OpenLaw.row PySem.Challenge.rw_treeshed_k55_due_values).prog [64]) (H := Toy.hk) (ob := Toy.ob) (M := 20000) (loose := Toy.loose) (d := HandSHeadRun.topDef (OpenLaw.row PySem.Challenge.rw_treeshed_k55_due_values).prog 64) (kwd := []) Toy.ob_eq
    (by kernel_rfl) (fun s => by kernel_rfl) Toy.run (by kernel_rfl) (by kernel_rfl) (by kernel_rfl) (by rfl) (by first | assumption | decide +kernel) (by decide +kernel) ⟨rfl, rfl, rfl, rfl, rfl, by decide +kernel⟩ ?hw ?hc
  case hw => w_witness2
  case hc =>
    refine LamX.walk_ofTsE (l := PySem.Challenge.rw_treeshed_k55_due_values) (n := 63) (k := 10) (x := "_law_script") (CX := fun _ => L2.CX0) rfl (by decide) (by kernel_rfl) ⟨rfl, by decide, by decide⟩ ?F (fun _ _ _ _ _ h => h)
    intro w mg fa h Y G hmg0
    obtain ⟨K, KX, c⟩ := Y
    have hmg : mg ("law" : PySem.Str) = some (.ref fa) := by
      have e : (HandSHeadRun.topDef (OpenLaw.row PySem.Challenge.rw_treeshed_k55_due_values).prog 64).name = ("law" : PySem.Str) := by kernel_rfl
      rw [← e]
      exact hmg0
    exact ⟨K, KX, Toy.facts (w := w) KX G hmg c⟩
#print axioms PySem.Challenge.cw_treeshed_k55_due_values_holds
namespace Toy
end Toy
