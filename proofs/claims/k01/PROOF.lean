import PyProof.Rows.All
import Wide.All
import OpenK.AllK
import Wide.FinOn
import HandS.ForMost
import HandS.Deep
import HandS.Style
import HandS.IsInst
import HandS.TupAny
import HandS.Codes
import KE.SortData
import HandS.Exc
import HandS.ExcInit
import HandS.Nested
import KE.KSuper
import KE.KExcSuper
import HandS.Defaults
import HandS.MakeKw
import HandS.ExcValue
import KE.KExcIs
import PyProof.ReprReads
import PyProof.StrHeap
import PyProof.ReprHeadsEmpty
import HandS.RaiseMore
import KE.KStateDown
import HandS.Head0
import HandS.Head1
import HandS.Head2
import HandS.HeadEnd
import HandS.HeadHook1
import HandS.HeadHook2
import HandS.TryMany
import KE.SortKeyHeap
import HandS.OwnEq
import HandS.More
import HandS.NamedTupSort
import PyProof.InstNe
import HandS.NoneIn
import PyProof.StrOps2
import PyProof.SliceStr2
import KE.KRevSl
import HandS.Conv
import KE.KDictList
import PyProof.StrWalks
import HandS.Lambda
import HandS.ClsMeth
import HandS.DictComp
import HandS.HeadWalk
import HandS.DeepEq
import HandS.Base
import HandS.Call
import HandS.HeadHook4
import HandS.EndTab
import HandS.Steps
import HandS.WordsExc
import HandS.SortInts
import HandS.Flow
import HandS.StrMore
import HandS.Replace
import HandS.Iter
import HandS.Walk
import PySem.Challenge.RW_treeshed_k01_whole_trees_read
set_option Elab.async false
set_option linter.all false
set_option maxRecDepth 100000
set_option maxHeartbeats 4000000
namespace Sh
open PySem PySem.Spec PyProof.Rows L2
/-! ### rules of my own over the hand layer -/
section
variable {X : Cx}
def rInDT (K : PySem.W.Frag) : R2 := fun x y H Q => ∃ d ds, Dp K H x d ∧ Dp K H y (.tuple ds) ∧ SeqAt.shaped d = true ∧ SeqAt.shaped (.tuple ds) = true ∧ Q (.bl (ds.any fun z => PyData.eqv z d)) H
def rNotInDT (K : PySem.W.Frag) : R2 := fun x y H Q => ∃ d ds, Dp K H x d ∧ Dp K H y (.tuple ds) ∧ SeqAt.shaped d = true ∧ SeqAt.shaped (.tuple ds) = true ∧ Q (.bl (!ds.any fun z => PyData.eqv z d)) H
theorem op_inDT (hu : X.A.units + 65 < cLine) : OpR X (compareOp .In) (rInDT X.K) := by
  intro pins s σ H x y v u Q I rx ry h
  obtain ⟨d, ds, hd, he, sd, se, q⟩ := h
  obtain ⟨as, r1⟩ := Dp.reads I d x v hd rx
  obtain ⟨bs, r2⟩ := Dp.reads I (.tuple ds) y u he ry
  exact SeqAt.in_tuple_reads r2 r1 (SeqAt.canLay_of_shaped se) (SeqAt.canLay_of_shaped sd) (room_in_shaped sd hu) ⟨.bl _, H, I, rfl, q⟩
theorem op_notInDT (hu : X.A.units + 65 < cLine) : OpR X (compareOp .NotIn) (rNotInDT X.K) := by
  intro pins s σ H x y v u Q I rx ry h
  obtain ⟨d, ds, hd, he, sd, se, q⟩ := h
  obtain ⟨as, r1⟩ := Dp.reads I d x v hd rx
  obtain ⟨bs, r2⟩ := Dp.reads I (.tuple ds) y u he ry
  exact SeqAt.notIn_tuple_reads r2 r1 (SeqAt.canLay_of_shaped se) (SeqAt.canLay_of_shaped sd) (room_in_shaped sd hu) ⟨.bl _, H, I, rfl, q⟩
/-! sorted of a list that reads as data -/
def sortPairs (xs : List V) (ds : List PyData) : List (V × PyData) := (xs.zip ds).mergeSort (PySem.W.dataLe false Prod.snd)
def rSortedDD (K : PySem.W.Frag) : List V → Hp → VK → Prop := fun vs H Q => ∃ (a : Addr) (xs : List V) (ds : List PyData), vs = [V.ref a] ∧ SqL K H a xs ∧ DpAll K H xs ds ∧ PySem.W.AllAlike ds ∧ PySem.W.Sortable ds ∧ (∀ d ∈ ds, d.depth ≤ 60) ∧
  ∀ p, H p = none → Q (.ref p) (upd H p (.lst ((sortPairs xs ds).map Prod.fst)))
theorem DpAll.len {K : PySem.W.Frag} {H : Hp} : ∀ {xs : List V} {ds : List PyData}, DpAll K H xs ds → xs.length = ds.length
  | _, _, .nil => rfl
  | _, _, .cons _ t => by
    show _ + 1 = _ + 1
    rw [DpAll.len t]
theorem zip_snd {α β : Type} : ∀ {xs : List α} {ds : List β}, xs.length = ds.length → (xs.zip ds).map Prod.snd = ds
  | [], [], _ => rfl
  | x :: xs, d :: ds, h => by
    show d :: (xs.zip ds).map Prod.snd = d :: ds
    rw [zip_snd (Nat.succ.inj h)]
theorem each_rel {K : PySem.W.Frag} {H : Hp} : ∀ {xs : List V} {ds : List PyData} {its : List Value}, Vals xs its → xs.length = ds.length → PySem.W.EachIs (fun (v : Value) (b : V × PyData) => RelV b.1 v) its (xs.zip ds)
  | [], [], _, .nil, _ => .nil
  | _ :: _, _ :: _, _, .cons r t, h => .cons r (each_rel (K := K) (H := H) t (Nat.succ.inj h))
theorem each_reads {pins : List (Addr × Obj)} {σ : L2.St} {H : Hp} {s : Shared} (I : L2.Inv X pins σ H s) : ∀ {xs : List V} {ds : List PyData} {its : List Value}, Vals xs its → DpAll X.K H xs ds → PySem.W.EachIs (fun (v : Value) (b : V × PyData) => ∃ as, Reads s.heap v b.2 as) its (xs.zip ds)
  | [], [], _, .nil, _ => .nil
  | _ :: _, _ :: _, _, .cons r t, .cons h hs => .cons (Dp.reads I _ _ _ h r) (each_reads I t hs)
theorem vals_of_each : ∀ {out : List Value} {bs : List (V × PyData)}, PySem.W.EachIs (fun (v : Value) (b : V × PyData) => RelV b.1 v) out bs → Vals (bs.map Prod.fst) out
  | _, _, .nil => .nil
  | _, _, .cons r t => .cons r (vals_of_each t)
theorem cr_sortedDD (hu : X.A.units + 65 < cLine) : CallR X (.builtin "sorted") (rSortedDD X.K) := by
  intro pins s σ H vs us Q I r h
  obtain ⟨a, xs, ds, rfl, hs, hd, hal, hk, hdp, q⟩ := h
  obtain ⟨its, rv, hl, hz⟩ := I.list hs
  rw [Vals.ref1 r]
  have el := DpAll.len hd
  have ez : (xs.zip ds).map Prod.snd = ds := zip_snd el
  have elz : (xs.zip ds).length = xs.length := by rw [List.length_zip, el, Nat.min_self]
  refine PySem.W.sorted_data (enc := Prod.snd) (bs := xs.zip ds) hl.isList (each_rel (K := X.K) (H := H) rv el) (each_reads I rv hd) (by rw [ez]; exact hal) (by rw [ez]; exact hk) (by rw [elz]; exact hz) (fun b hb => ?_) fun out ho eo => ?_
  · have hm : b.2 ∈ ds := by
      rw [← ez]
      exact List.mem_map.mpr ⟨b, hb, rfl⟩
    have := hdp _ hm
    omega
  · obtain ⟨ep, he'⟩ := PyProof.Rows.sortedAll_at s.heap its out.toArray
    have hlen : ((sortPairs xs ds).map Prod.fst).length ≤ sizeLine := by
      rw [List.length_map, sortPairs, List.length_mergeSort, elz]
      exact hz
    refine ⟨.ref _, upd H (s.heap.objs.size + 1) (.lst ((sortPairs xs ds).map Prod.fst)), I.laid (t' := s.toks) (fun _ _ => PyProof.Rows.sortedAll_old) (Nat.le_succ _) ⟨hlen, out, ep, vals_of_each eo, he'⟩, rfl, q _ (I.hok.fresh (Nat.le_succ _))⟩
end
/-! ### heaps -/
/-- all that was tracked is as it was, but for d -/
def Kp (d : Addr) (H H' : Hp) : Prop := ∀ b o, H b = some o → b ≠ d → H' b = some o
theorem Kp.refl (d : Addr) (H : Hp) : Kp d H H := fun _ _ h _ => h
theorem Kp.trans {d : Addr} {H H1 H2 : Hp} (a : Kp d H H1) (b : Kp d H1 H2) : Kp d H H2 := fun c o h n => b c o (a c o h n) n
theorem same_upd {H : Hp} {p : Addr} {o : HO} (h : H p = none) : Same H (upd H p o) := fun b x e => by
  rw [upd_ne (ne_of_none e h)]
  exact e
theorem Same.kp {d : Addr} {H H' : Hp} (s : Same H H') : Kp d H H' := fun b o h _ => s b o h
theorem kp_new {d : Addr} {H : Hp} {p : Addr} {o : HO} (h : H p = none) : Kp d H (upd H p o) := Same.kp (same_upd h)
theorem kp_put {d : Addr} {H : Hp} {o : HO} : Kp d H (upd H d o) := fun b x e n => by
  rw [upd_ne n]
  exact e
/-- a place that was free stays apart -/
theorem Kp.free {d : Addr} {H H' : Hp} (e : Kp d H H') {o : HO} (hd : H' d = some o) {l : Addr} (h : H' l = none) : H l = none := by
  cases q : H l with
  | none => rfl
  | some u =>
    by_cases hl : l = d
    · subst hl
      rw [hd] at h
      cases h
    · rw [e l u q hl] at h
      cases h
mutual
theorem dp_keep {K : PySem.W.Frag} {H H' : Hp} (k : ∀ a u, Rd H a u → (∃ xs, u = .lst xs ∨ u = .tup xs) → Rd H' a u) : ∀ (d : PyData) (v : V), Dp K H v d → Dp K H' v d
  | .none, _, h => by cases h; exact .non
  | .bool b, _, h => by cases h; exact .bl b
  | .int i, _, h => by cases h; exact .int i
  | .str x, _, h => by cases h; exact .str x
  | .list ds, _, h => by
    cases h with
    | lst h1 h2 =>
      refine .lst ?_ (dpAll_keep k ds _ h2)
      rcases h1 with h1 | h1
      · exact .inl (k _ _ h1 ⟨_, .inl rfl⟩)
      · exact .inr h1
  | .tuple ds, _, h => by
    cases h with
    | tup h1 h2 =>
      refine .tup ?_ (dpAll_keep k ds _ h2)
      rcases h1 with h1 | h1
      · exact .inl (k _ _ h1 ⟨_, .inr rfl⟩)
      · exact .inr h1
theorem dpAll_keep {K : PySem.W.Frag} {H H' : Hp} (k : ∀ a u, Rd H a u → (∃ xs, u = .lst xs ∨ u = .tup xs) → Rd H' a u) : ∀ (ds : List PyData) (vs : List V), DpAll K H vs ds → DpAll K H' vs ds
  | [], _, h => by cases h; exact .nil
  | d :: ds, _, h => by
    cases h with
    | cons h1 h2 => exact .cons (dp_keep k d _ h1) (dpAll_keep k ds _ h2)
end
/-! ### loops -/
theorem for_enum {K : PySem.W.Frag} {a : Addr} {xs : List V} {g : TG} {tb : TS} {D : Ends} {σ : L2.St} {H : Hp} (Pv : Nat → L2.St → Hp → Prop) (h0 : Pv 0 σ H) (hl : ∀ i σ H, i ≤ xs.length → Pv i σ H → SqL K H a xs)
    (hs : ∀ (i : Nat) (x : V) (σ : L2.St) (H : Hp) (T : Addr), xs[i]? = some x → H T = none → Pv i σ H → g (.ref T) σ (upd H T (.tup [.int (i : Nat), x])) fun σ2 H2 => tb { D with nx := Pv (i + 1), ct := Pv (i + 1), bk := D.nx } σ2 H2) (hd : ∀ σ H, Pv xs.length σ H → D.nx σ H) :
    ∃ W : Nat → Nat → L2.St → Hp → Prop, (∃ m, W 0 m σ H) ∧ ∀ i m σ H, W i m σ H →
      ((Ite K a).stop i H ∧ D.nx σ H) ∨ ((Ite K a).go i H ∧ ∃ N : L2.St → Hp → Prop, (∀ σ' H', N σ' H' → ∃ m', m' < m ∧ W (i + 1) m' σ' H') ∧ ∀ x H', (Ite K a).yld i H x H' → g x σ H' fun σ2 H2 => tb { D with nx := N, ct := N, bk := D.nx } σ2 H2) := by
  refine ⟨fun i m σ H => m = xs.length - i ∧ i ≤ xs.length ∧ Pv i σ H, ⟨xs.length, by simp, Nat.zero_le _, h0⟩, ?_⟩
  rintro i m σ H ⟨rfl, hi, p⟩
  have q := hl i σ H hi p
  by_cases hlt : i < xs.length
  · refine .inr ⟨⟨xs, xs[i], q, by simp [hlt]⟩, Pv (i + 1), fun σ' H' p' => ⟨xs.length - (i + 1), by omega, rfl, hlt, p'⟩, fun x H' y => ?_⟩
    obtain ⟨T, x, rfl, nT, rfl, y⟩ := y
    exact hs i x σ _ T (y xs q) nT p
  · have e : i = xs.length := by omega
    subst e
    exact .inl ⟨⟨xs, q, Nat.le_refl _⟩, hd σ H p⟩
/-- a cut: what is known of the value that is stored -/
theorem asgW {te : TE} {g : TG} {D : Ends} {σ : L2.St} {H : Hp} (W : VK) (h1 : ∀ R : VK, (∀ v H2, W v H2 → R v H2) → te σ H R) (h2 : ∀ v H2, W v H2 → g v σ H2 D.nx) : tAsg te g D σ H := h1 _ h2
theorem asgS {te : TE} {g : TG} {u : TS} {D : Ends} {σ : L2.St} {H : Hp} (W : VK) (h1 : ∀ R : VK, (∀ v H2, W v H2 → R v H2) → te σ H R) (h2 : ∀ v H2, W v H2 → g v σ H2 (u D)) : tSeq (tAsg te g) u D σ H := h1 _ h2
/-- a cut behind a statement -/
theorem seqW {t u : TS} {D : Ends} {σ : L2.St} {H : Hp} (W : L2.St → Hp → Prop) (h1 : ∀ N : L2.St → Hp → Prop, (∀ σ' H', W σ' H' → N σ' H') → t { D with nx := N } σ H) (h2 : ∀ σ' H', W σ' H' → u D σ' H') : tSeq t u D σ H := h1 _ h2
theorem nextS {D : Ends} {σ : L2.St} {H : Hp} (h : D.nx σ H) : tNext D σ H := h
theorem yes_ite {σ : L2.St} {H : Hp} {A B : Hp → Prop} (h : A H) : tYes σ H fun b H3 => if b = true then A H3 else B H3 := (iteT h : if true = true then A H else B H)
/-- a new object: the heap behind it by what is known of it -/
theorem newW {G : VK} {H : Hp} {o : HO} (h : ∀ p H1, H p = none → Same H H1 → H1 p = some o → G (.ref p) H1) : ∀ p, H p = none → G (.ref p) (upd H p o) := fun p hp => h p _ hp (same_upd hp) upd_same
theorem seqT {K : PySem.W.Frag} {H H' : Hp} {a : Addr} {xs : List V} (e : Same H H') (h : SqT K H a xs) : SqT K H' a xs := by
  rcases h with (h | ⟨o, h⟩) | h
  · exact .inl (.inl (e _ _ h))
  · exact .inl (.inr ⟨o, e _ _ h⟩)
  · exact .inr h
end Sh
set_option Elab.async false
set_option linter.all false
set_option maxRecDepth 100000
set_option maxHeartbeats 4000000
namespace Sh
open PySem PySem.Spec PySem.W PyProof.Rows L2 NdefX
/-! ### own exceptions whose __init__ says super().__init__(..) -/
/-- what the written part says of such an __init__ -/
structure SupF (P : Program) (K : Frag) (mg : Str → Option Value) (cc cda D : Addr) (params : Arguments) (scope : Scope) (sn : Str) : Prop where
  head : ∃ ar : Arg, (params.posonlyargs ++ params.args).head? = some ar ∧ ar.arg = sn
  code : ∃ ccl cdd vs ccs file tf, K.lookup cda = some ⟨ccl, cdd, .fields vs, ccs⟩ ∧ vs[2]? = some (.str file tf) ∧ ((P.main.file : Str) == file) = true
  cell : ∃ cl cld csl, K.lookup cc = some ⟨cl, cld, .cell (some (.ref D)), csl⟩
  clsD : ∃ cdD, clsIn K D = some cdD
  ks : scope.names.lookup ("super" : Str) = some .globalImplicit
  kc : scope.names.lookup ("__class__" : Str) = some .free
  ka : scope.names.lookup sn = some .local
  top : (P.main.scope.names.lookup ("super" : Str)).isSome = false
  mgs : mg "super" = none
  opq : nsIn K cStatics "thirdparty.any" = some none
theorem boot_super : bootBuiltins "super" = some (.type "super") := by decide +kernel
theorem call_mw {prog : Program} {w : World} {A : Around} {E : Value → Shared → Prop} {h : Heap} {g : Array GenState} {d : Drawn} {t : Nat} {os : OsState} {nm q : Str} {C N : Addr} {bs bm : List Value} {hdct : Bool} {sn : List Str} {sub : List Value} {ab : Bool} {col : Option Bool} {dd : Option Addr} {k0 k1 k2 k3 k5 : Option Value}
    {u e t0 : Addr} {rest : List Value} {Q : Value → Shared → Prop}
    (hC : h.get? C = some (excClassObj nm q C N bs bm hdct sn sub ab col dd k0 k1 k2 k3 k5 "ValueError.__new__")) (he : h.get? e = some (excObj C t0 none .none)) (hu : h.get? u = some (kxs_mw "ValueError.__init__" e)) (hz : rest.length ≤ sizeLine)
    (hq : ∀ h', (∀ b o, b ≠ e → h.get? b = some o → h'.get? b = some o) → h'.get? e = some (excObj C h.objs.size none .none) → Q .none ⟨h', g, d, t, os⟩) :
    wpAny (model prog w) A (call (.ref u) rest) Q E ⟨h, g, d, t, os⟩ := by
  have FB := F.excBase_ValueError
  refine wpAny_call (codeAny_of_tree ?_)
  show wpAny _ A.in1 (callAny (.ref u) ⟨rest, []⟩) _ _ _
  simp only [callAny]
  refine wpAny_bind (wpAny_load hu ?_)
  simp only [kxs_mw, show (Value.type "method-wrapper" == Value.type "method" || Value.type "method-wrapper" == Value.type "builtin_function_or_method" || Value.type "method-wrapper" == Value.type "method-wrapper") = true by decide, if_true]
  refine KFB.if_so (by decide) ?_
  refine wpAny_bind (check_bound_init FB.toExcCallFacts hC he rfl ?_)
  refine wpAny_bind (wpAny_pure (wpAny_pure ?_))
  refine ⟨plainId_quiet FB.init.plain _, codeAny_builtin FB.initEntry ?_⟩
  exact exc_init_tree (cls := .ref C) (t0 := t0) (dv := none) (c2 := .none) (c3 := .none) (b4 := .bool false) he hz fun h' k e' _ => hq h' k e'
/-- what is asked of the class of the exception that is made -/
structure SupC (K : Frag) (C D : Addr) : Prop where
  ox : OexC K C
  mro : mroIn K C (.ref D) = some true
  sup : ks_superIn K C D "__init__" = some (some (.builtin "ValueError.__init__"))
  sub : subIn K (.ref C) (.type "ValueError") = some true
section
variable {CX : CXT} {P : Program} {w : World} {K : Frag} {mg : Str → Option Value} {base : Heap} {k : Nat} {f cc cda D : Addr} {name qual : Str} {params : Arguments} {body rest : List Stmt} {scope : Scope} {dV kV doc pm oc ct : Value} {an od : Option Addr} {osl : Array (Option Value)} {N ps : List Str} {sp : Sp} {sn : Str}
  {p0 p1 p2 p3 p4 : Pos} {e : Expr} {es : List Expr}
theorem fn_super (lk : K.lookup f = some ⟨oc, od, .func (fnX name qual params body scope [("__class__", cc)] dV kV doc pm an (.ref cda) ct), osl⟩) (hcd : codeIn K (.ref cda) qual = true)
    (S : NScope N ps ["__class__"] scope) (hN0 : N[0]? = some sn) (SF : SupF P K mg cc cda D params scope sn)
    (hb : body = .Expr (.Call (.Attribute (.Call (.Name "super" p0) [] [] p1) "__init__" p2) (e :: es) [] p3) p4 :: rest)
    (len : ∀ vs H Q E, sp vs H Q E → vs.length = ps.length)
    (hbody : ∀ (A : Around) (outer : List Env) (s : Shared) (H : Hp) (vs : List V) (Q : VK) (E : XK), Room k (A.deeper (envF ⟨name, qual, params, body, scope, [("__class__", cc)], cda⟩ f s.heap.objs.size)) → sp vs H Q E →
      ∃ (a C : Addr) (ta : TA) (t : TS), (startF N vs [some (.ref D)])[0]? = some (some (.ref a)) ∧ H a = some (exo a C none) ∧ SupC K C D ∧
        PA (ncx CX P w K mg base N ⟨name, qual, params, body, scope, [("__class__", cc)], cda⟩ f A outer s H E) (e :: es) ta ∧ PSs (ncx CX P w K mg base N ⟨name, qual, params, body, scope, [("__class__", cc)], cda⟩ f A outer s H E) rest t ∧
        ta (startF N vs [some (.ref D)]) H (fun ws H1 => ws.length ≤ 1000 ∧ H1 a = some (exo a C none) ∧ t { nx := fun _ H' => Q .non H', rt := Q } (startF N vs [some (.ref D)]) H1))
    (hc : ∀ env : Env, ∃ pl : Sem Bool, eval (.Call (.Attribute (.Call (.Name "super" p0) [] [] p1) "__init__" p2) (e :: es) [] p3) env = (do
      let ov ← attributeBase (.Call (.Name "super" p0) [] [] p1) "__init__" env (eval (.Call (.Name "super" p0) [] [] p1) env)
      standAt p2.atName
      let (f, first) ← holding [ov] (getMethod ov "__init__" pl)
      callWith p3 f first (backTo p3 (starEach (e :: es) env)) []) := by exact fun env => ⟨_, rfl⟩)
    (hsw : ∀ env : Env, swapsWith (.Call (.Attribute (.Call (.Name "super" p0) [] [] p1) "__init__" p2) (e :: es) [] p3) none p4.line env = pure false := by intro _; rfl)
    (he : ∀ env, starEach (e :: es) env = (false, eval e env) :: starEach es env := by intro _; rfl) (hpl : ∀ env, (backTo p3 (starEach es env)).any (·.1) = false := by intro _; rfl) :
    FnOk P w K mg base CX (k + 1) f (fnX name qual params body scope [("__class__", cc)] dV kV doc pm an (.ref cda) ct) ps sp := by
  refine ⟨len, fun A outer s H args us vs Q E hr e0 hbi r hsp => ?_⟩
  have hl := len _ _ _ _ hsp
  have KX : K.In s.heap := e0.mod.kin.keeps fun b o z => (e0.bs b o z).1
  have lim : s.heap.NoLimit := e0.mod.nolimit.keeps fun b o z => (e0.bs b o z).1
  obtain ⟨a, C, ta, t, h0, ea, SC, hPA, hPS, hq⟩ := hbody A outer s H vs Q E (hr.deeper _) hsp
  obtain ⟨ar, hhead, har⟩ := SF.head
  obtain ⟨ccl, cdd, vsC, ccs, file, tf, hcode, hvs, hfile⟩ := SF.code
  obtain ⟨ccl', cld, csl, hcell⟩ := SF.cell
  obtain ⟨cdD, hD⟩ := SF.clsD
  have hCA : CellsAt [("__class__", cc)] ["__class__"] [some (V.ref D)] s.heap H := by
    have hn : H cc = none := (e0.bs cc _ (e0.mod.kin _ _ hcell)).2
    have hc : s.heap.IsCell cc (some (.ref D)) := ⟨_, KX _ _ hcell, rfl⟩
    refine ⟨rfl, fun y c z => ?_, fun x y c z1 z2 => ?_, fun i y z => ?_⟩
    · have : c = cc := by
        simp only [List.lookup] at z
        split at z
        · cases z; rfl
        · cases z
      subst this
      exact ⟨hn, _, hc⟩
    · simp only [List.lookup] at z1 z2
      split at z1
      · rename_i q1
        split at z2
        · rename_i q2
          rw [beq_iff_eq] at q1 q2
          rw [q1, q2]
        · cases z2
      · cases z1
    · match i, z with
      | 0, z =>
        cases z
        refine ⟨cc, rfl, fun v z => ?_⟩
        cases z
        exact ⟨_, rfl, hc⟩
      | i + 1, z => simp at z
  refine ks_codeAny_call_defAt hr.depth (KX _ _ lk) rfl lim (codeRec_of KX hcd) rfl hbi S.nocell (fun ⟨n, _⟩ hy => S.par n (List.of_mem_zip hy).1) (fun h₁ hns hk => ?_) S.co S.gen S.kind
  have I : Inv (ncx CX P w K mg base N ⟨name, qual, params, body, scope, [("__class__", cc)], cda⟩ f A outer s H E) [] (startF N vs [some (.ref D)]) H { s with heap := h₁, toks := s.toks + (ps.zip us).length } :=
    inv_startN (F := ⟨name, qual, params, body, scope, [("__class__", cc)], cda⟩) S hr.hd e0 hl r hCA hns hk
  have Ih : K.In h₁ := KX.keeps hk
  subst hb
  have hC' : ∃ cd, clsIn K C = some cd := by
    have := SC.sup
    unfold ks_superIn at this
    cases hc : clsIn K C with
    | none => rw [hc] at this; cases this
    | some cd => exact ⟨cd, rfl⟩
  obtain ⟨cd, hcC⟩ := hC'
  obtain ⟨t1, hoe⟩ := exo_at I.hok ea
  have IA : InstAt h₁ a { cls := .ref C, dict := none, data := .fields #[.ref t1, .none, .none, .none, .bool false, .none] } C none := ⟨hoe, rfl, rfl, trivial⟩
  obtain ⟨oD, hD1, hD2⟩ : ∃ oD, h₁.get? D = some oD ∧ oD.data = .cls cdD := by
    unfold clsIn at hD
    split at hD
    · rename_i c d cd' sl ho
      cases hD
      exact ⟨_, Ih _ _ ho, rfl⟩
    · cases hD
  obtain ⟨pl, hpe⟩ := hc (callEnv (fnX name qual params (.Expr (.Call (.Attribute (.Call (.Name "super" p0) [] [] p1) "__init__" p2) (e :: es) [] p3) p4 :: rest) scope [("__class__", cc)] dV kV doc pm an (.ref cda) ct) s.heap.objs.size f)
  refine ks_wpAt_execs_cons (ks_wpAt_Expr_any (ks_wpAt_MethodCall (pl := pl) ?_ hpe) I.quiet (hsw _))
  refine ks_wpAt_super_base (fd := fnX name qual params _ scope [("__class__", cc)] dV kV doc pm an (.ref cda) ct) (ar := ar) SF.ks SF.kc (by decide) rfl (Ih _ _ lk) rfl hhead rfl (Ih _ _ hcode) rfl hvs hfile SF.top ?_
  obtain ⟨mb, hb1, hb2⟩ := I.mod.blt
  refine ks_loadName_global S.kind SF.ks (Calls.loadGlobal_builtin (mg := mg) (mb := mb) (I.mod.glob.keeps I.bk) SF.mgs (hb1.keeps I.bk) ((hb2 "super" (by decide)).trans boot_super) ⟨rfl, ?_⟩)
  refine wpAny_loadName_free S.kind SF.kc rfl ⟨_, Ih _ _ hcell, rfl⟩ ?_
  obtain ⟨m, hm, hloc⟩ := I.loc
  obtain ⟨u, ru, hlk⟩ := hloc 0 sn (.ref a) hN0 h0 (.inl SF.ka)
  obtain rfl : u = Value.ref a := ru
  have hmv : m ar.arg = some (.ref a) := by
    rw [har]
    rcases hlk with ⟨_, z⟩ | ⟨z, _⟩
    · exact z
    · rcases z with z | z <;> (exfalso; have y := SF.ka; rw [show (ncx CX P w K mg base N _ f A outer s H E).env.kindOf sn = scope.names.lookup sn from rfl, y] at z; cases z)
  refine wpAny_loadName_local S.kind (har ▸ SF.ka) hm hmv ?_
  refine ks_wpAny_isType_cls hD1 hD2 ⟨rfl, ?_⟩
  refine ks_wpAny_call_super hD1 hD2 IA.at_ IA.cls (fun c e => by cases e) (looks_mroIn Ih SC.mro) (fun h2 hso k2 => ?_)
  have Ih2 : K.In h2 := Ih.keeps k2
  have IA2 : InstAt h2 a { cls := .ref C, dict := none, data := .fields #[.ref t1, .none, .none, .none, .bool false, .none] } C none := ⟨k2 _ _ hoe, rfl, rfl, trivial⟩
  have hsup := SC.sup
  unfold ks_superIn at hsup
  rw [hcC] at hsup
  refine kxs_getMethod kxs_ValueError hso (looks_opaque Ih2 SF.opq) (l₀ := cd.mro) (fun A Q E s k q => wpAny_bind ((looks_clsIn Ih2 hcC) A _ E s k (wpAny_pure q))) rfl Ih2 hsup (IA2.type.andThen (looks_subIn Ih2 SC.sub)) (ks_ne Ih2 IA2 hcC) (by decide) ?_
  have hlt : h₁.objs.size < h2.objs.size := Heap.lt_size hso
  have I2 : Inv (ncx CX P w K mg base N ⟨name, qual, params, _, scope, [("__class__", cc)], cda⟩ f A outer s H E) [] (startF N vs [some (.ref D)]) H ⟨h2.push (kxs_mw "ValueError.__init__" a), s.gens, s.drawn, s.toks + (ps.zip us).length + 1, s.os⟩ :=
    I.kept (h' := h2.push (kxs_mw "ValueError.__init__" a)) (t' := s.toks + (ps.zip us).length + 1) fun b o z => Heap.get?_push_of_some _ (k2 b o z)
  have I3 := I2.pins_of (pins' := [(h2.objs.size, kxs_mw "ValueError.__init__" a)]) (fun p hp => by
    rw [List.mem_singleton.mp hp]
    exact ⟨Heap.get?_push_at rfl rfl, I.hok.fresh (Nat.le_of_lt hlt), Nat.ne_of_gt (Nat.lt_trans I.lt hlt), I.nofs (Nat.le_of_lt hlt), fun v z => by cases z⟩)
  have hstar := he (envF ⟨name, qual, params, .Expr (.Call (.Attribute (.Call (.Name "super" p0) [] [] p1) "__init__" p2) (e :: es) [] p3) p4 :: rest, scope, [("__class__", cc)], cda⟩ f s.heap.objs.size)
  have hplain := hpl (envF ⟨name, qual, params, .Expr (.Call (.Attribute (.Call (.Name "super" p0) [] [] p1) "__init__" p2) (e :: es) [] p3) p4 :: rest, scope, [("__class__", cc)], cda⟩ f s.heap.objs.size)
  have key := hPA.run p3 [(h2.objs.size, kxs_mw "ValueError.__init__" a)] _ _ H _ I3 hq
  show wpAny _ _ (callWith p3 (.ref h2.objs.size) [] (backTo p3 (starEach (e :: es) (envF ⟨name, qual, params, .Expr (.Call (.Attribute (.Call (.Name "super" p0) [] [] p1) "__init__" p2) (e :: es) [] p3) p4 :: rest, scope, [("__class__", cc)], cda⟩ f s.heap.objs.size))) []) _ _ _
  change wpAny _ _ (spliced (backTo p3 (starEach (e :: es) (envF ⟨name, qual, params, .Expr (.Call (.Attribute (.Call (.Name "super" p0) [] [] p1) "__init__" p2) (e :: es) [] p3) p4 :: rest, scope, [("__class__", cc)], cda⟩ f s.heap.objs.size)))) _ _ _ at key
  rw [hstar] at key ⊢
  refine kxs_callWith (i := "ValueError.__init__") (x := a) (by show (false || (backTo p3 (starEach es _)).any (·.1)) = false; rw [hplain]; rfl) (Calls.evalArgs_plain ?_)
  refine wpAny_mono key (fun us' s1 hv => ?_) fun _ _ z => z
  obtain ⟨ws, H1, I1, r1, hz, ea1, q1⟩ := hv
  refine ⟨(I1.pin _ (List.mem_append_right _ (List.mem_singleton.mpr rfl))).1, ?_⟩
  have hpin := (I1.pin _ (List.mem_append_right _ (List.mem_singleton.mpr rfl))).1
  obtain ⟨nm, qn, NN, bs, bm, sn', sub, ab, col, dd, k0, k1, k2', k3, k5, hCl, hbm⟩ := SC.ox.cls
  obtain ⟨t2, hoe2⟩ := exo_at I1.hok ea1
  obtain ⟨hp, g1, d1, tk1, os1⟩ := s1
  refine call_mw (I1.kIn _ _ hCl) hoe2 hpin (by show us'.length ≤ sizeLine; rw [← Paired.length r1, sizeLine_eq]; omega) fun h' k' e' => ?_
  have J := I1.write (t' := tk1) (x := a) (e := a) (o := exo a C none) (by rw [ea1]; exact True.intro) (.inl rfl) k' ⟨_, e'⟩ (exo_ok e')
  have eu : upd H1 a (exo a C none) = H1 := by
    funext b
    by_cases hb : b = a
    · rw [hb, upd_same, ea1]
    · rw [upd_ne hb]
  rw [eu] at J
  have J0 := J.pins_of (pins' := []) (fun p hp => by cases hp)
  refine wpAt_of_wpAny (wpAny_mono (hPS.run [] _ _ H1 _ J0 q1) (fun fl s' hs => ?_) fun e s' hs => hs)
  have fin : ∀ {σ' : L2.St} {H' : Hp} {v : V} {u : Value}, Inv (ncx CX P w K mg base N ⟨name, qual, params, .Expr (.Call (.Attribute (.Call (.Name "super" p0) [] [] p1) "__init__" p2) (e :: es) [] p3) p4 :: rest, scope, [("__class__", cc)], cda⟩ f A outer s H E) [] σ' H' s' → L2.RelV v u → Q v H' → CE outer P w H s Q u s' :=
    fun {σ' H' v u} J rv q => ⟨v, H', J.os, J.bare, J.base, J.hok, rv, q⟩
  cases fl with
  | ret u =>
    obtain ⟨v, σ', H', J, rv, q⟩ := hs
    exact fin J rv q
  | next =>
    obtain ⟨σ', H', J, q⟩ := hs
    exact fin (v := V.non) (u := Value.none) J rfl q
  | brk =>
    obtain ⟨_, _, _, q⟩ := hs
    exact False.elim q
  | cont =>
    obtain ⟨_, _, _, q⟩ := hs
    exact False.elim q
end
end Sh
set_option Elab.async false
set_option linter.all false
set_option maxRecDepth 100000
set_option maxHeartbeats 4000000
namespace Sh
open PySem PySem.Spec PySem.W PyProof.Rows L2
/-! ### own exceptions as values -/
/-- the class's facts that a reader of its instances asks -/
structure ExR (K : Frag) (C : Addr) : Prop where
  ox : OexC K C
  ga : findIn K (.ref C) "__getattribute__" = some (some (.builtin "BaseException.__getattribute__"))
  gg : findIn K (.ref C) "__getattr__" = some none
  hd : hasDictIn K C = true
  cl : findIn K (.ref C) "__class__" = some (some (.builtin "object.__class__"))
  ob : mroIn K C (.type "object") = some true
theorem ExR.isCls {K : Frag} {C : Addr} (R : ExR K C) : (clsIn K C).isSome = true := by
  have h := R.hd
  unfold hasDictIn at h
  cases q : clsIn K C with
  | none => rw [q] at h; cases h
  | some cd => rfl
/-- an exception's object is an instance of its class -/
theorem exo_inst {P : Program} {w : World} {H : Hp} {h : Heap} {a C : Addr} {d : Option Addr} {fs : List (Str × V)} (hok : HOk P w H h) (ea : H a = some (exo a C d)) (ed : ∀ dx, d = some dx → ∃ fs, H dx = some (exd dx fs)) : ∃ ox od, InstAt h a ox C od ∧ (d = none → od = none) := by
  obtain ⟨t1, ho⟩ := exo_at hok ea
  cases d with
  | none => exact ⟨_, none, ⟨ho, rfl, rfl, trivial⟩, fun _ => rfl⟩
  | some dx =>
    obtain ⟨fs, e⟩ := ed dx rfl
    obtain ⟨mA, hns, _⟩ := exd_at hok e
    obtain ⟨od, h1, _⟩ := lookIn_ns hns
    exact ⟨_, some od, ⟨ho, rfl, rfl, h1⟩, fun z => by cases z⟩
section
variable {X : Cx}
/-- e.f of an exception that is held -/
def tXGet (K : Frag) (f : Str) (te : TE) : TE := fun σ H Q => te σ H fun x H1 => ∃ (a C dx : Addr) (fs : List (Str × V)) (v : V), x = .ref a ∧ ExR K C ∧ findIn K (.ref C) f = some none ∧ H1 a = some (exo a C (some dx)) ∧ H1 dx = some (exd dx fs) ∧ fs.lookup f = some v ∧ Q v H1
theorem pe_xget {e : Expr} {te : TE} {f : Str} {pos : Pos} (he : PE X e te) (hb : attributeBase e f X.env (eval e X.env) = eval e X.env := by rfl) : PE X (.Attribute e f pos) (tXGet X.K f te) := by
  refine ⟨fun pins s σ H Q I h => attr_of hb (thn (he.run pins s σ H _ I h) fun u s1 hh => ?_)⟩
  obtain ⟨x, H1, I1, rx, a, C, dx, fs, v, rfl, R, hno, ea, ed, hl, q⟩ := hh
  obtain rfl : u = Value.ref a := rx
  obtain ⟨t1, ho⟩ := exo_at I1.hok ea
  obtain ⟨mA, hns, hr⟩ := exd_at I1.hok ed
  obtain ⟨od, hod, hlk⟩ := lookIn_ns hns
  obtain ⟨u, hu, ru⟩ := RelO.some_of (v := v) (o := mA f) (by rw [← hl]; exact hr f)
  have J : InstAt s1.heap a _ C (some od) := ⟨ho, rfl, rfl, hod⟩
  exact HandSPX.exc_get I1.kIn J R.ga R.gg R.ox.exC (findObj_own R.hd hno rfl (by rw [hlk, hu])) (handed_of ru) ⟨v, H1, I1.tok _, ru, q⟩
/-- isinstance(e, C) -/
def rIsX (K : Frag) : List V → Hp → VK → Prop := fun xs H Q => ∃ (a C : Addr) (d : Option Addr) (c : V) (u : Value) (b : Bool), xs = [.ref a, c] ∧ ClsV c u ∧ ExR K C ∧ H a = some (exo a C d) ∧ (∀ dx, d = some dx → ∃ fs, H dx = some (exd dx fs)) ∧ kitOne K (.ref C) u = some b ∧ Q (.bl b) H
theorem call_isX (hn : specialIn X.K (.builtin "object.__class__") "__get__" = some (some (.builtin "getset_descriptor.__get__"))) (htk : takesIn X.K (.builtin "object.__class__") = some true) : CallR X (.builtin "isinstance") (rIsX X.K) := by
  intro pins s σ H xs us Q I r h
  obtain ⟨a, C, d, c, u, b, rfl, k, R, ea, ed, e, q⟩ := h
  obtain ⟨u1, u2, rfl, r1, r2⟩ := vals2 r
  obtain rfl := k.eq r2
  obtain rfl : u1 = Value.ref a := r1
  obtain ⟨ox, od, J, _⟩ := exo_inst (fs := []) I.hok ea ed
  exact kia_one (kitx_exc R.isCls R.ga R.gg R.ox.exC R.cl hn htk R.ob) I.kIn J e (fun z => nomatch z) fun tk => ⟨.bl b, H, I.tok tk, rfl, q⟩
end
/-! ### C(e, .., k = v, ..): a new exception, as a value -/
section
variable {prog : Program} {w : World} {M : Model} {A : Around} {E : Value → Shared → Prop} {R : Result → Shared → Prop} {hh : Heap} {gs : Array GenState} {dr : Drawn} {tk : Nat} {os : OsState}
variable {nm q : Str} {C N : Addr} {bs bm : List Value} {hdct : Bool} {sn : List Str} {sub : List Value} {ab : Bool} {col : Option Bool} {dd : Option Addr} {k0 k1 k2 k3 k5 : Option Value} {kw : List (Str × Value)} {rest : List Value}
theorem check_newK (hT : HandSPX.refsVE bm = true) {Q : Unit → Shared → Prop} (hC : hh.get? C = some (excClassObj nm q C N bs bm hdct sn sub ab col dd k0 k1 k2 k3 k5 "ValueError.__new__")) (hq : Q () ⟨hh, gs, dr, tk, os⟩) : wpAny M A (checkBuiltinCall "ValueError.__new__" ⟨.ref C :: rest, kw⟩) Q E ⟨hh, gs, dr, tk, os⟩ := by
  have FB := F.excBase_ValueError
  have hcont : (Value.ref C :: bm).contains (.type "ValueError") = true := by rw [List.contains_cons, HandSPX.refsVE_contains "ValueError" bm hT, FB.hasB, Bool.or_true]
  have hstar := FB.noStar
  simp only [checkBuiltinCall, FB.newKind, FB.newSplit, FB.newRow]
  repeat (first | refine wpAny_loadPart_at hC ?_ | (refine wpAny_isSubtype_exc hC ?_; rw [hcont]) | refine wpAny_staticBase_exc hC ?_ | refine wpAny_madeBy_exc hC ?_ | simp only [bne_self_eq_false, Bool.false_eq_true, if_false] | wp_step)
  exact hq
theorem new_K (hT : HandSPX.refsVE bm = true) (hC : hh.get? C = some (excClassObj nm q C N bs bm hdct sn sub ab col dd k0 k1 k2 k3 k5 "ValueError.__new__")) (hz : rest.length ≤ sizeLine)
    (hq : R (.ok (.ret (.ref (hh.objs.size + 1)))) ⟨(hh.push (kdv_tup rest)).push (HandSPX.excO C hh.objs.size), gs, dr, tk, os⟩) : codeAny (model prog w) A (.builtin "ValueError.__new__" ⟨.ref C :: rest, kw⟩) R ⟨hh, gs, dr, tk, os⟩ := by
  have FB := F.excBase_ValueError
  have hends := FB.ends
  have hcB : (Value.ref C :: bm).contains (.type "ValueError") = true := by rw [List.contains_cons, HandSPX.refsVE_contains "ValueError" bm hT, FB.hasB, Bool.or_true]
  have hcA : (Value.ref C :: bm).contains (.type "AttributeError") = false := by rw [List.contains_cons, HandSPX.refsVE_contains "AttributeError" bm hT, FB.noAttr]; rfl
  have hcN : (Value.ref C :: bm).contains (.type "NameError") = false := by rw [List.contains_cons, HandSPX.refsVE_contains "NameError" bm hT, FB.noName]; rfl
  refine codeAny_builtinAt FB.entry ?_
  unfold Builtin.«BaseException.__new__»
  refine PySem.wpAt_bind ?_
  show PySem.wpAt _ _ _ (stack >>= _) _ _ _
  refine PySem.wpAt_bind (PySem.wpAt_stack fun p below => PySem.wpAt_of_wpAny ?_)
  wp_walk
  refine PySem.wpAt_of_wpAny ?_
  rw [FB.owner]
  repeat (first | with_reducible refine wpAny_madeHere_exc FB.canon hC ?_ | with_reducible refine wpAny_loadPart_at hC ?_ | (with_reducible refine wpAny_isSubtype_exc hC ?_; first | rw [hcB] | rw [hcA] | rw [hcN]) | wp_step)
  show R _ _
  rw [Heap.size_push]
  exact hq
theorem type_callK (hT : HandSPX.refsVE bm = true) {fI : Addr} {Q : Fin → Shared → Prop} (hC : hh.get? C = some (excClassObj nm q C N bs bm hdct sn sub ab col dd k0 k1 k2 k3 k5 "ValueError.__new__"))
    (hi : Looks (model prog w) hh (typeLookup (.ref C) "__init__") (some (.ref fI))) (hb : ∀ self, Looks (model prog w) hh (bindSpecial (.ref fI) self) (.ref fI, [self])) (hz : rest.length ≤ sizeLine)
    (hq : codeAny (model prog w) A (.call (.ref fI) ⟨.ref (hh.objs.size + 1) :: rest, kw⟩)
      (fun r s' => match r with | .ok (.ret v) => v = .none ∧ Q (.done (.ret (.ref (hh.objs.size + 1)))) s' | .ok _ => False | .error e => E e s') ⟨(hh.push (kdv_tup rest)).push (HandSPX.excO C hh.objs.size), gs, dr, tk, os⟩) :
    wpAny (model prog w) A (Builtin.«type.__call__» ⟨.ref C :: rest, kw⟩) Q E ⟨hh, gs, dr, tk, os⟩ := by
  have FB := F.excBase_ValueError
  repeat (first | with_reducible refine wpAny_loadPart_at hC ?_ | with_reducible refine wpAny_madeBy_exc hC ?_ | wp_step)
  refine codeAny_call_builtin_code (Code.quiet_builtin _ FB.quiet) (check_newK hT hC ?_)
  refine new_K hT hC hz ?_
  show wpAny _ _ _ _ _ _
  have k : ∀ b o, hh.get? b = some o → ((hh.push (kdv_tup rest)).push (HandSPX.excO C hh.objs.size)).get? b = some o := fun b o e => Heap.get?_push_of_some _ (Heap.get?_push_of_some _ e)
  have hC₁ := k _ _ hC
  have hget : ((hh.push (kdv_tup rest)).push (HandSPX.excO C hh.objs.size)).get? (hh.objs.size + 1) = some (HandSPX.excO C hh.objs.size) := by heap_get
  have hcC : (Value.ref C :: bm).contains (.ref C) = true := by simp
  have i1 := hi.keeps k
  have b1 := (hb (.ref (hh.objs.size + 1))).keeps k
  unfold isInstance
  repeat (first | with_reducible refine wpAny_loadPart_at hget ?_ | (with_reducible refine wpAny_isSubtype_exc hC₁ ?_; rw [hcC]) | wp_step)
  show wpAny _ _ (typeLookup (.ref C) _) _ _ _
  refine i1.at (wpAny_holding (wpAny_bind (b1.at (wpAny_bind (wpAny_call (codeAny_mono hq fun r s' z => ?_))))))
  rcases r with e | (v | _ | _ | _) <;> first | exact z | exact z.elim | skip
  obtain ⟨rfl, z⟩ := z
  first | exact wpAny_pure (wpAny_pure z) | (wp_walk; exact z)
theorem check_tcK {Q : Unit → Shared → Prop} (hC : hh.get? C = some (excClassObj nm q C N bs bm hdct sn sub ab col dd k0 k1 k2 k3 k5 "ValueError.__new__")) (hq : Q () ⟨hh, gs, dr, tk, os⟩) : wpAny M A (checkBuiltinCall "type.__call__" ⟨.ref C :: rest, kw⟩) Q E ⟨hh, gs, dr, tk, os⟩ := by
  have f3 := tc_sub
  have hT : (⟨hh, gs, dr, tk, os⟩ : Shared).TypeIs (.ref C) "type" := ⟨_, hC, rfl⟩
  simp only [checkBuiltinCall, tc_kind, tc_split]
  repeat (any_goals (first | assumption | with_reducible refine wpAny_loadPart_at hC ?_ | with_reducible refine wpAny_onRaise ?_ | with_reducible refine wpAny_map ?_ | wp_step))
theorem call_K (hT : HandSPX.refsVE bm = true) {fI : Addr} (hC : hh.get? C = some (excClassObj nm q C N bs bm hdct sn sub ab col dd k0 k1 k2 k3 k5 "ValueError.__new__"))
    (hi : Looks (model prog w) hh (typeLookup (.ref C) "__init__") (some (.ref fI))) (hb : ∀ self, Looks (model prog w) hh (bindSpecial (.ref fI) self) (.ref fI, [self])) (hz : rest.length ≤ sizeLine)
    (hq : codeAny (model prog w) (A.under (.builtin "type.__call__" ⟨.ref C :: rest, kw⟩)) (.call (.ref fI) ⟨.ref (hh.objs.size + 1) :: rest, kw⟩) (InitBack (hh.objs.size + 1) R) ⟨(hh.push (kdv_tup rest)).push (HandSPX.excO C hh.objs.size), gs, dr, tk, os⟩) :
    codeAny (model prog w) A (.call (.ref C) ⟨rest, kw⟩) R ⟨hh, gs, dr, tk, os⟩ := by
  have f1 := tc_lookup
  have f2 := tc_bind (.ref C)
  have hTy : (⟨hh, gs, dr, tk, os⟩ : Shared).TypeIs (.ref C) "type" := ⟨_, hC, rfl⟩
  refine codeAny_of_tree ?_
  show wpAny _ _ (callAny (.ref C) _) _ _ _
  repeat (any_goals (first | assumption | with_reducible refine wpAny_loadPart_at hC ?_ | wp_step))
  refine ⟨rfl, ?_⟩
  refine codeAny_call_builtin_at (Code.quiet_builtin _ (by decide +kernel)) entry_typeCall (check_tcK hC (type_callK hT hC hi hb hz ?_))
  refine codeAny_mono hq fun r s' z => ?_
  rcases r with e | (v | _ | _ | _) <;> exact z
end
/-- what a maker of its instances asks -/
structure ExM (K : Frag) (C fI : Addr) : Prop where
  ox : OexC K C
  iC : findIn K (.ref C) "__init__" = some (some (.ref fI))
  tI : typeIn K (.ref fI) = some (.type "function")
section
variable {X : Cx} {CX : CXT} {k n : Nat} {fI C : Addr} {fd : FuncData} {ps ks : List Str} {sp : Sp} {x : Str} {p pos : Pos} {e : Expr} {es : List Expr} {kws : List Keyword} {t tk : TA} {g : List Value → List Value → List Value} {gV : List V → List V → List V}
theorem run_oex {pins : List (Addr × Obj)} {σ : L2.St} {H : Hp} {s : Shared} {Q : VK} {us ws : List Value} {vs zs : List V} (T : ExM X.K C fI) (F1 : FnOk X.prog X.w X.K X.mg X.base CX k fI fd ps sp) (hr : Room (k + 1) X.A) (hb : KBn X.K fd ps (n + 1) ks g gV)
    (hx : Passes CX X (fun _ _ _ => False)) (I : Inv X pins σ H s) (r : Vals vs us) (rz : Vals zs ws) (l1 : vs.length = n) (l2 : zs.length = ks.length) (hn : n ≤ 1000)
    (h : ∀ a, H a = none → sp (gV (.ref a :: vs) zs) (upd H a (exo a C none)) (fun v H2 => v = .non ∧ Q (.ref a) H2) (fun _ _ _ => False)) :
    wpAny (model X.prog X.w) X.A (call (.ref C) us (ks.zip ws)) (EP X pins σ Q) X.xe s := by
  obtain ⟨nm, q, N, bs, bm, sn, sub, ab, col, dd, k0, k1, k2, k3, k5, hC, hbm⟩ := T.ox.cls
  obtain ⟨hp, gs, dr, tk, os⟩ := s
  have hsz : hp.objs.size ≤ hp.objs.size + 1 := Nat.le_succ _
  have hq := h (hp.objs.size + 1) (I.hok.fresh hsz)
  have kk : ∀ b o, hp.get? b = some o → ((hp.push (kdv_tup us)).push (HandSPX.excO C hp.objs.size)).get? b = some o := fun b o e => Heap.get?_push_of_some _ (Heap.get?_push_of_some _ e)
  have hget : ((hp.push (kdv_tup us)).push (HandSPX.excO C hp.objs.size)).get? (hp.objs.size + 1) = some (HandSPX.excO C hp.objs.size) := by heap_get
  have I2 : Inv X pins σ (upd H (hp.objs.size + 1) (exo (hp.objs.size + 1) C none)) ⟨(hp.push (kdv_tup us)).push (HandSPX.excO C hp.objs.size), gs, dr, tk, os⟩ :=
    I.laid (t' := tk) (a := hp.objs.size + 1) (o := exo (hp.objs.size + 1) C none) (h' := (hp.push (kdv_tup us)).push (HandSPX.excO C hp.objs.size)) kk hsz (exo_ok hget)
  have r1 : Vals (V.ref (hp.objs.size + 1) :: vs) (Value.ref (hp.objs.size + 1) :: us) := .cons rfl r
  have r2 := hb.rel r1 rz
  have e1 : (Value.ref (hp.objs.size + 1) :: us).length = n + 1 := r1.length.symm.trans (congrArg Nat.succ l1)
  have e2 : ws.length = ks.length := rz.length.symm.trans l2
  have hus : us.length ≤ sizeLine := by
    rw [← Paired.length r, l1, sizeLine_eq]
    omega
  refine wpAny_call (call_K hbm (I.kIn _ _ hC) (looks_findIn I.kIn T.iC) (fun self => bind_fn I.kIn self T.tI) hus
    (codeAny_mono (F1.run _ X.stack _ _ ⟨Value.ref (hp.objs.size + 1) :: us, ks.zip ws⟩ (g (Value.ref (hp.objs.size + 1) :: us) ws) _ _ (fun _ _ _ => False) (hr.make C us (ks.zip ws)) (I2.env0.make C us (ks.zip ws)) (hb.to _ (Value.ref (hp.objs.size + 1) :: us) ws I2.kIn e1 e2) r2 hq) fun r s' hq' => ?_))
  cases r with
  | error er => exact hx pins σ _ _ er s' I2 hq'
  | ok fl =>
    cases fl with
    | ret u =>
      obtain ⟨v, H', I3, rv, ev, q3⟩ := I2.after hq'
      subst ev
      exact ⟨rv, ⟨V.ref (hp.objs.size + 1), H', I3, rfl, q3⟩⟩
    | next => exact False.elim hq'
    | brk => exact False.elim hq'
    | cont => exact False.elim hq'
/-- C(e, .., k = v, ..) -/
def tOex (C : Addr) (n m : Nat) (sp : Sp) (gV : List V → List V → List V) (t tk : TA) : TE := fun σ H Q => t σ H fun vs H1 => tk σ H1 fun zs H2 => vs.length = n ∧ zs.length = m ∧
  ∀ a, H2 a = none → sp (gV (.ref a :: vs) zs) (upd H2 a (exo a C none)) (fun v H3 => v = .non ∧ Q (.ref a) H3) (fun _ _ _ => False)
theorem pe_oexN (T : ExM X.K C fI) (F1 : FnOk X.prog X.w X.K X.mg X.base CX k fI fd ps sp) (hr : Room (k + 1) X.A) (hg : Gl X x) (hm : X.mg x = some (.ref C)) (hb : KBn X.K fd ps (n + 1) ks g gV) (hx : Passes CX X (fun _ _ _ => False))
    (ha : PA X (e :: es) t) (hkw : PK X kws tk) (hn : n ≤ 1000 := by decide) (hall : (backToKw pos (keywordEach kws X.env)).all (·.1.isSome) = true := by rfl) (hks : (backToKw pos (keywordEach kws X.env)).filterMap (·.1) = ks := by rfl)
    (hdb : (x == ("__debug__" : Str)) = false := by decide) (he : starEach (e :: es) X.env = (false, eval e X.env) :: starEach es X.env := by rfl)
    (hpl : ((backTo pos (starEach (e :: es) X.env)).any (·.1) || (backToKw pos (keywordEach kws X.env)).any (·.1.isNone)) = false := by rfl) :
    PE X (.Call (.Name x p) (e :: es) kws pos) (tOex C n ks.length sp gV t tk) := by
  refine ⟨fun pins s σ H Q I h => wpAny_Call_Name_kw (ld_glob I hg hm ?_ hdb)⟩
  refine callWith_KW (h₀ := X.base) I.ok.mod.kin T.ox.kC hall (thn (ha.run pos pins s σ H _ I h) fun us s1 ⟨vs, H1, I1, r, q⟩ => ?_) hpl he
  refine thn (hkw.run pos pins s1 σ H1 _ I1 q) fun ws s2 ⟨zs, H2, I2, rz, l1, l2, q2⟩ => ⟨I2.kIn, ?_⟩
  rw [hks]
  exact run_oex T F1 hr hb hx I2 r rz l1 l2 hn q2
theorem pe_oex0 (T : ExM X.K C fI) (F1 : FnOk X.prog X.w X.K X.mg X.base CX k fI fd ps sp) (hr : Room (k + 1) X.A) (hg : Gl X x) (hm : X.mg x = some (.ref C)) (hb : KBn X.K fd ps 1 ks g gV) (hx : Passes CX X (fun _ _ _ => False))
    (hkw : PK X kws tk) (hall : (backToKw pos (keywordEach kws X.env)).all (·.1.isSome) = true := by rfl) (hks : (backToKw pos (keywordEach kws X.env)).filterMap (·.1) = ks := by rfl)
    (hdb : (x == ("__debug__" : Str)) = false := by decide) (hpl : ((backTo pos (starEach [] X.env)).any (·.1) || (backToKw pos (keywordEach kws X.env)).any (·.1.isNone)) = false := by rfl) :
    PE X (.Call (.Name x p) [] kws pos) (tOex C 0 ks.length sp gV tNil tk) := by
  refine ⟨fun pins s σ H Q I h => wpAny_Call_Name_kw (ld_glob I hg hm ?_ hdb)⟩
  refine callWith_KW0 (h₀ := X.base) I.ok.mod.kin T.ox.kC hall ?_ hpl
  refine thn (hkw.run pos pins s σ H _ I h) fun ws s2 ⟨zs, H2, I2, rz, l1, l2, q2⟩ => ⟨I2.kIn, ?_⟩
  rw [hks]
  exact run_oex T F1 hr hb hx I2 .nil rz l1 l2 (by decide) q2
end
/-- C(), an own exception class without own __init__ -/
theorem pe_exn0 {X : Cx} {C : Addr} {x : Str} {p pos : Pos} (q : excIn X.K C [.type "ValueError", .type "Exception", .type "BaseException", .type "object"] "ValueError.__new__" = true) (gC : X.mg x = some (.ref C)) (kC : keepIn X.K (.ref C) = true) (hg : Gl X x) (hdb : (x == ("__debug__" : Str)) = false := by decide) :
    PE X (.Call (.Name x p) [] [] pos) (fun _ H Q => ∀ a, H a = none → Q (.ref a) (upd H a (exo a C none))) := by
  refine ⟨fun pins s σ H Q I h => wpAny_Call_Name_kw (ld_glob I hg gC ?_ hdb)⟩
  refine callWith_KW0 (h₀ := X.base) I.ok.mod.kin kC (by rfl) (wpAny_evalAll_nil ⟨I.kIn, ?_⟩) (by rfl)
  show wpAny _ _ (call (.ref C) []) _ _ _
  obtain ⟨bm, N, nm, qn, bs, hdct, sn, sub, ab, col, dd, k0, k1, k2, k3, k5, mN, hC, hN, hni, T⟩ := exc_obj I.kIn q
  refine wpAny_call_exc_subT F.excBase_ValueError T hC hN hni (fun h' a hm => ?_) (Nat.zero_le _)
  obtain ⟨t, ht, _, _⟩ := hm.there
  have hn : H a = none := I.hok.gone hm.new
  exact ⟨.ref a, upd H a (exo a C none), I.laidN hm.keeps hm.new hn (exo_ok ht), rfl, h a hn⟩
end Sh
set_option Elab.async false
set_option linter.all false
set_option maxRecDepth 100000
set_option maxHeartbeats 4000000
namespace Sh
open PySem PySem.Spec PySem.W PyProof.Rows L2 NdefX
/-! ### the facts of an own exception class, bundled -/
abbrev veTail : List Value := [.type "ValueError", .type "Exception", .type "BaseException", .type "object"]
/-- the class at C, right below the class at S, which is right below ValueError -/
structure XCls (K : Frag) (S C : Addr) : Prop where
  r : ExR K C
  sub : ∀ b : Value, mroIn K C b = some ((Value.ref C :: .ref S :: veTail).contains b)
  ty : typeIn K (.ref C) = some (.type "type")
  isC : (clsIn K C).isSome = true
theorem xcls_mk {K : Frag} {S C N : Addr} {nm q : Str} {bs : List Value} {sn : List Str} {sub : List Value} {ab : Bool} {col : Option Bool} {dd : Option Addr} {k0 k1 k2 k3 k5 : Option Value}
    (xL : K.lookup C = some (excClassObj nm q C N bs [.ref S, .type "ValueError", .type "Exception", .type "BaseException", .type "object"] true sn sub ab col dd k0 k1 k2 k3 k5 "ValueError.__new__"))
    (sa : findIn K (.ref C) "__setattr__" = some (some (.builtin "object.__setattr__"))) (ga : findIn K (.ref C) "__getattribute__" = some (some (.builtin "BaseException.__getattribute__"))) (gg : findIn K (.ref C) "__getattr__" = some none)
    (cl : findIn K (.ref C) "__class__" = some (some (.builtin "object.__class__"))) (kC : keepIn K (.ref C) = true) : XCls K S C := by
  have hcl : clsIn K C = some { name := nm, bases := bs, mro := .ref C :: [.ref S, .type "ValueError", .type "Exception", .type "BaseException", .type "object"], ns := N, qualname := q, hasDict := true, slotNames := sn, subclasses := sub, abstract := ab, collection := col, hasDel := false } := by
    unfold clsIn
    rw [xL]
  have hm : ∀ b : Value, mroIn K C b = some ((Value.ref C :: .ref S :: veTail).contains b) := fun b => by
    unfold mroIn
    rw [hcl]
    rfl
  have hty : typeIn K (.ref C) = some (.type "type") := by
    show (K.lookup C).map (·.cls) = _
    rw [xL]
    rfl
  have hin : ∀ T : String, veTail.contains (.type T) = true → (Value.ref C :: .ref S :: veTail).contains (.type T) = true := fun T z => by
    rw [List.contains_cons, List.contains_cons, z]
    simp
  refine ⟨⟨⟨⟨nm, q, N, bs, _, sn, sub, ab, col, dd, k0, k1, k2, k3, k5, xL, rfl⟩, sa, ?_, hty, kC⟩, ga, gg, ?_, cl, ?_⟩, hm, hty, by rw [hcl]; rfl⟩
  · show mroIn K C _ = _
    rw [hm, hin "BaseException" (by decide +kernel)]
  · unfold hasDictIn
    rw [hcl]
    rfl
  · rw [hm, hin "object" (by decide +kernel)]
/-- isinstance of an instance of C, asked of another such class -/
theorem XCls.own {K : Frag} {S C D : Addr} (x : XCls K S C) (y : XCls K S D) (h : D ≠ S) : kitOne K (.ref C) (.ref D) = some (decide (C = D)) := by
  unfold kitOne
  by_cases e : C = D
  · subst e
    rw [if_pos (by simp), decide_eq_true rfl]
  · rw [if_neg (by simp [e]), decide_eq_false e]
    unfold kitCls
    simp only [y.isC, y.ty, beq_self_eq_true, Bool.and_self, if_true]
    show mroIn K C (.ref D) = some false
    rw [x.sub]
    have e1 : (Value.ref D == Value.ref C) = false := by simp [Ne.symm e]
    have e2 : (Value.ref D == Value.ref S) = false := by simp [h]
    simp only [List.contains_cons, e1, e2, Bool.false_or]
    have e3 : ∀ T : String, (Value.ref D == Value.type T) = false := fun T => by simp
    simp [e3]
theorem XCls.base {K : Frag} {S C : Addr} (x : XCls K S C) (y : XCls K S C) (hS : (clsIn K S).isSome = true) (tS : typeIn K (.ref S) = some (.type "type")) : kitOne K (.ref C) (.ref S) = some true := by
  unfold kitOne
  split
  · rfl
  · unfold kitCls
    simp only [hS, tS, beq_self_eq_true, Bool.and_self, if_true]
    show mroIn K C (.ref S) = some true
    rw [x.sub]
    simp
theorem XCls.blt {K : Frag} {S C : Addr} (x : XCls K S C) (T : String) (hm : kitMeta T = true) : kitOne K (.ref C) (.type T) = some (veTail.contains (.type T)) := by
  unfold kitOne
  rw [if_neg (by simp)]
  unfold kitCls
  simp only [hm, if_true]
  show mroIn K C (.type T) = _
  rw [x.sub]
  simp [List.contains_cons]
/-- its __init__ -/
structure XInit (P : Program) (K : Frag) (mg : Str → Option Value) (C f : Addr) (qual : Str) (st : Stmt) (fd : FuncData) : Prop where
  m : ExM K C f
  sc : SupC K C C
  fn : ∃ oc od kV doc pm an ct osl cc cda, fd = fnX "__init__" qual (defArgs st) (defBody st) (defScope st) [("__class__", cc)] .none kV doc pm an (.ref cda) ct ∧ K.lookup f = some ⟨oc, od, .func fd, osl⟩ ∧ codeIn K (.ref cda) qual = true ∧ SupF P K mg cc cda C (defArgs st) (defScope st) "self"
theorem xinit_mk {P : Program} {K : Frag} {mg : Str → Option Value} {S C f cc cda : Addr} {qual file : Str} {st : Stmt} {oc kV doc pm ct ccl cl : Value} {od an cdd cld : Option Addr} {osl ccs csl : Array (Option Value)} {vs : Array Value} {tf : Tok} (x : XCls K S C)
    (iC : findIn K (.ref C) "__init__" = some (some (.ref f))) (tI : typeIn K (.ref f) = some (.type "function")) (lf : K.lookup f = some ⟨oc, od, .func (fnX "__init__" qual (defArgs st) (defBody st) (defScope st) [("__class__", cc)] .none kV doc pm an (.ref cda) ct), osl⟩)
    (c : codeIn K (.ref cda) qual = true) (lc : K.lookup cda = some ⟨ccl, cdd, .fields vs, ccs⟩) (hv : vs[2]? = some (.str file tf)) (hf : ((P.main.file : Str) == file) = true) (lx : K.lookup cc = some ⟨cl, cld, .cell (some (.ref C)), csl⟩)
    (sup : ks_superIn K C C "__init__" = some (some (.builtin "ValueError.__init__"))) (mgs : mg "super" = none) (opq : nsIn K cStatics "thirdparty.any" = some none) (top : (P.main.scope.names.lookup ("super" : Str)).isSome = false)
    (hh : ∃ ar : Arg, ((defArgs st).posonlyargs ++ (defArgs st).args).head? = some ar ∧ ar.arg = "self") (ks : (defScope st).names.lookup ("super" : Str) = some .globalImplicit) (kc : (defScope st).names.lookup ("__class__" : Str) = some .free) (ka : (defScope st).names.lookup ("self" : Str) = some .local) :
    XInit P K mg C f qual st (fnX "__init__" qual (defArgs st) (defBody st) (defScope st) [("__class__", cc)] .none kV doc pm an (.ref cda) ct) := by
  obtain ⟨cd, hcd⟩ := Option.isSome_iff_exists.mp x.isC
  refine ⟨⟨x.r.ox, iC, tI⟩, ⟨x.r.ox, ?_, sup, ?_⟩, oc, od, kV, doc, pm, an, ct, osl, cc, cda, rfl, lf, c, ⟨hh, ⟨ccl, cdd, vs, ccs, file, tf, lc, hv, hf⟩, ⟨cl, cld, csl, lx⟩, ⟨cd, hcd⟩, ks, kc, ka, top, mgs, opq⟩⟩
  · rw [x.sub]
    simp
  · show mroIn K C _ = _
    rw [x.sub]
    simp
/-- the arguments as they are bound: behind the positional ones the keywords', the first one last -/
def rotV (vs zs : List V) : List V := vs ++ (zs.drop 1 ++ zs.take 1)
def rotU (us ws : List Value) : List Value := us ++ (ws.drop 1 ++ ws.take 1)
theorem vals_take : ∀ {vs : List V} {us : List Value} (n : Nat), Vals vs us → Vals (vs.take n) (us.take n)
  | _, _, 0, _ => .nil
  | _, _, _ + 1, .nil => .nil
  | _, _, n + 1, .cons r t => .cons r (vals_take n t)
theorem vals_drop : ∀ {vs : List V} {us : List Value} (n : Nat), Vals vs us → Vals (vs.drop n) (us.drop n)
  | _, _, 0, h => h
  | _, _, _ + 1, .nil => .nil
  | _, _, n + 1, .cons _ t => vals_drop n t
theorem kbn_rot {K : Frag} {fd : FuncData} {ps ks : List Str} {n : Nat} (h : ∀ us ws : List Value, us.length = n → ws.length = ks.length → bindArgs fd ⟨us, ks.zip ws⟩ = pure (ps.zip (rotU us ws))) : KBn K fd ps n ks rotU rotV :=
  ⟨fun s us ws _ l1 l2 => .of_eq (h us ws l1 l2), fun r1 r2 => r1.append ((vals_drop 1 r2).append (vals_take 1 r2))⟩
theorem kbn_x {P : Program} {K : Frag} {mg : Str → Option Value} {C f : Addr} {qual : Str} {st : Stmt} {fd : FuncData} {ps ks : List Str} {n : Nat} (i : XInit P K mg C f qual st fd)
    (h : ∀ (cc : Addr) (kV doc pm : Value) (an : Option Addr) (cda : Addr) (ct : Value) (us ws : List Value), us.length = n → ws.length = ks.length → bindArgs (fnX "__init__" qual (defArgs st) (defBody st) (defScope st) [("__class__", cc)] .none kV doc pm an (.ref cda) ct) ⟨us, ks.zip ws⟩ = pure (ps.zip (rotU us ws))) : KBn K fd ps n ks rotU rotV := by
  obtain ⟨oc, od, kV, doc, pm, an, ct, osl, cc, cda, rfl, _⟩ := i.fn
  exact kbn_rot (h cc kV doc pm an cda ct)
/-- what is left of a new exception: its dict holds the fields -/
def spXI (C : Addr) (fs : List Str) : Sp := fun vs H Q _ => ∃ (a : Addr) (ws : List V), vs = .ref a :: ws ∧ ws.length = fs.length ∧ H a = some (exo a C none) ∧
  ∀ (H' : Hp) (d : Addr), Kp a H H' → H d = none → d ≠ a → H' a = some (exo a C (some d)) → H' d = some (exd d (fs.zip ws).reverse) → Q .non H'
/-- an exception that is held: of the class at C, with these fields -/
def ErrAt (H : Hp) (a C : Addr) (fs : List (Str × V)) : Prop := ∃ d, H a = some (exo a C (some d)) ∧ H d = some (exd d fs)
theorem ErrAt.same {H H' : Hp} {a C : Addr} {fs : List (Str × V)} (e : Same H H') (h : ErrAt H a C fs) : ErrAt H' a C fs := let ⟨d, h1, h2⟩ := h; ⟨d, e _ _ h1, e _ _ h2⟩
theorem mk_err {C : Addr} {n m : Nat} {fs : List Str} {t tk : TA} {σ : L2.St} {H : Hp} {Q : VK} {vs zs : List V}
    (h1 : ∀ R : List V → Hp → Prop, R vs H → t σ H R) (h2 : ∀ R : List V → Hp → Prop, R zs H → tk σ H R) (l1 : vs.length = n) (l2 : zs.length = m) (l3 : n + m = fs.length)
    (q : ∀ H' a, Same H H' → ErrAt H' a C (fs.zip (rotV vs zs)).reverse → Q (.ref a) H') : tOex C n m (spXI C fs) rotV t tk σ H Q := by
  refine h1 _ (h2 _ ⟨l1, l2, fun a ha => ⟨a, rotV vs zs, rfl, ?_, upd_same, fun H' d kp hd hne ea ed => ⟨rfl, q H' a (fun b o e => ?_) ⟨d, ea, ed⟩⟩⟩⟩)
  · unfold rotV
    rw [List.length_append, List.length_append, List.length_drop, List.length_take, l1, l2]
    omega
  · exact kp b o (by rw [upd_ne (ne_of_none e ha)]; exact e) (ne_of_none e ha)
end Sh
set_option Elab.async false
set_option linter.all false
set_option maxRecDepth 100000
set_option maxHeartbeats 4000000
namespace Sh
open PySem PySem.Spec PyProof.Rows
/-! ### repr of data, where no repr is under way -/
section
variable {prog : Program} {w : World} {A : Around} {E : Value → Shared → Prop} {s : Shared}
theorem repr_reads {v : Value} {d : PyData} {as : List Addr} {Q : Value → Shared → Prop} (r : Reads s.heap v d as) (hs : d.showable = true) (hsm : d.hasDict = true → sysModules ∉ as) (hz : d.shown.length ≤ sizeLine) (hg : A.guards = some []) (hu : A.units + 3 + d.depth < cLine)
    (hQ : ∀ h' u tk, (∀ b o, s.heap.get? b = some o → h'.get? b = some o) → Q (.str d.shown u) { s with heap := h', toks := tk }) : wpAny (model prog w) A (call (.builtin "repr") [v]) Q E s := by
  have here : ∀ {u : Nat} {x : Str}, x = d.shown → Q (.str x u) { s with toks := s.toks + 1 } := fun {u x} e => by
    rw [e]
    exact hQ s.heap u (s.toks + 1) fun _ _ z => z
  have keep : ∀ b o, s.heap.get? b = some o → s.heap.get? b = some o := fun _ _ z => z
  cases r with
  | none => exact P.repr_of_none (here (by simp only [PyData.shown]))
  | bool b => exact P.repr_of_bool (here (by simp only [PyData.shown]))
  | int i t => exact P.repr_of_int (by simpa [PyData.showable] using hs) (here (by simp only [PyData.shown]))
  | str x t => exact P.repr_of_str (here (by simp only [PyData.shown])) (by simpa only [PyData.shown] using hz)
  | @list a o vs n xs as h1 h2 h3 h4 =>
    have hz' : (listText (PyData.shownAll xs)).length ≤ sizeLine := by simpa only [PyData.shown] using hz
    obtain ⟨bs, hb, hk⟩ := ReprAllK.of_readsAll (prog := prog) (w := w) h4 (by simpa [PyData.showable] using hs) (fun hx hm => hsm (by simpa [PyData.hasDict] using hx) (List.mem_cons_of_mem _ hm)) (fun t ht => Nat.le_trans (listText_mem_le ht) hz')
    have hna : a ∉ bs := not_mem_of_deeper (.list h1 h2 h3 h4) (by simp only [PyData.depth]; omega) hb
    simp only [PyData.depth] at hu
    simp only [PyData.shown] at hQ
    refine call_repr_slot (by omega) ⟨o, h1, h2⟩ F.slot_list_repr.toG ?_
    obtain ⟨l⟩ := vs
    cases l with
    | nil =>
      have h4' : ReadsAll s.heap [] xs _ := h4
      cases h4'
      simp only [PyData.shownAll, listText_nil] at hQ
      exact call_list_repr_empty ⟨o, h1, h2⟩ h1 h3 ⟨_, _, rfl, hQ s.heap _ _ keep⟩
    | cons x l => exact call_list_reprK h1 h2 h3 hna (by simpa using hk.length_eq) (fun i y e => hk.item i y (by simpa using e)) hg (fun b _ => Clear.nil b) (by show A.units + 1 + _ < cLine; omega) keep (fun h' u tk hk' => ⟨_, _, rfl, hQ h' u tk hk'⟩) hz'
  | @tuple a o vs n xs as h1 h2 h3 h4 =>
    have hz' : (tupleText (PyData.shownAll xs)).length ≤ sizeLine := by simpa only [PyData.shown] using hz
    obtain ⟨bs, hb, hk⟩ := ReprAllK.of_readsAll (prog := prog) (w := w) h4 (by simpa [PyData.showable] using hs) (fun hx => hsm (by simpa [PyData.hasDict] using hx)) (fun t ht => Nat.le_trans (tupleText_mem_le ht) hz')
    have hna : a ∉ bs := not_mem_of_deeper (.tuple h1 h2 h3 h4) (by simp only [PyData.depth]; omega) hb
    simp only [PyData.depth] at hu
    simp only [PyData.shown] at hQ
    exact call_repr_slot (by omega) ⟨o, h1, h2⟩ F.slot_tuple_repr (call_tuple_reprK h1 h2 h3 hna hk hg (fun b _ => Clear.nil b) (by show A.units + 1 + _ < cLine; omega) keep (fun h' u tk hk' => ⟨_, _, rfl, hQ h' u tk hk'⟩) hz')
  | @dict a o es n kvs as bs h1 h2 h3 h4 h5 =>
    have hz' : (dictText (PyData.shownKv kvs)).length ≤ sizeLine := by simpa only [PyData.shown] using hz
    have hno : sysModules ∉ a :: as ++ bs := hsm (by simp only [PyData.hasDict])
    obtain ⟨hs1, hs2⟩ := PyData.showableKv_split kvs (by simpa [PyData.showable] using hs)
    obtain ⟨b1, hb1, k1⟩ := ReprAllK.of_readsAll (prog := prog) (w := w) h4 hs1 (fun _ hm => hno (List.mem_cons_of_mem _ (List.mem_append_left _ hm))) (fun t ht => let ⟨p, hp, hl⟩ := PyData.shownKv_key_le kvs t ht; Nat.le_trans hl (Nat.le_trans (dictText_mem_le hp) hz'))
    obtain ⟨b2, hb2, k2⟩ := ReprAllK.of_readsAll (prog := prog) (w := w) h5 hs2 (fun _ hm => hno (List.mem_cons_of_mem _ (List.mem_append_right _ hm))) (fun t ht => let ⟨p, hp, hl⟩ := PyData.shownKv_val_le kvs t ht; Nat.le_trans hl (Nat.le_trans (dictText_mem_le hp) hz'))
    have hb : ReadAtMost s.heap (PyData.depthKv kvs) (b1 ++ b2) := (hb1.mono (PyData.depthAll_keys_le kvs)).append (hb2.mono (PyData.depthAll_vals_le kvs))
    have hna : a ∉ b1 ++ b2 := not_mem_of_deeper (.dict h1 h2 h3 h4 h5) (by simp only [PyData.depth]; omega) hb
    have hsys : (a == sysModules) = false := beq_eq_false_iff_ne.mpr fun e => hno (e ▸ List.mem_cons_self ..)
    simp only [PyData.depth] at hu
    simp only [PyData.shown, PyData.shownKv_eq] at hQ
    exact call_repr_slot (by omega) ⟨o, h1, h2⟩ F.slot_dict_repr (call_dict_reprK h1 h2 h3 hsys hna (ReprEntriesK.of_two es.toList _ _
      (k1.more_le (fun b hb => List.mem_append_left _ hb) (PyData.depthAll_keys_le kvs)) (k2.more_le (fun b hb => List.mem_append_right _ hb) (PyData.depthAll_vals_le kvs)))
      hg (fun b _ => Clear.nil b) (by show A.units + 1 + _ < cLine; omega) keep (fun h' u tk hk' => ⟨_, _, rfl, hQ h' u tk hk'⟩) (by rw [← PyData.shownKv_eq]; exact hz'))
end
/-! ### the values that are told -/
open L2 in
/-- a value of any kind -/
inductive Thing (H : Hp) : V → PyData → Prop
  | non : Thing H .non .none
  | bl (b : Bool) : Thing H (.bl b) (.bool b)
  | int (i : Int) (h : i.natAbs < 10 ^ 31) : Thing H (.int i) (.int i)
  | str (x : Str) (h : (reprText x).length ≤ 40) : Thing H (.str x) (.str x)
  | tupS {a : Addr} (x : Str) (h : (reprText x).length ≤ 40) : H a = some (.tup [.str x]) → Thing H (.ref a) (.tuple [.str x])
  | tupN {a b : Addr} (i : Int) (h : i.natAbs < 10 ^ 31) : H a = some (.tup [.int 1, .ref b]) → H b = some (.tup [.int i]) → Thing H (.ref a) (.tuple [.int 1, .tuple [.int i]])
  | lst0 {a : Addr} : H a = some (.lst []) → (a == sysModules) = false → Thing H (.ref a) (.list [])
  | lst1 {a : Addr} (i : Int) (h : i.natAbs < 10 ^ 31) : H a = some (.lst [.int i]) → (a == sysModules) = false → Thing H (.ref a) (.list [.int i])
  | dic0 {a : Addr} : H a = some (.dK []) → Thing H (.ref a) (.dict [])
  | dic1 {a : Addr} (i : Int) (h : i.natAbs < 10 ^ 31) : H a = some (.dK [(Sum.inr "a", .int i)]) → Thing H (.ref a) (.dict [(.str "a", .int i)])
open L2 in
theorem Thing.same {H H' : Hp} {v : V} {d : PyData} (s : Same H H') (h : Thing H v d) : Thing H' v d := by
  cases h with
  | non => exact .non
  | bl b => exact .bl b
  | int i h => exact .int i h
  | str x h => exact .str x h
  | tupS x h e => exact .tupS x h (s _ _ e)
  | tupN i h e1 e2 => exact .tupN i h (s _ _ e1) (s _ _ e2)
  | lst0 e z => exact .lst0 (s _ _ e) z
  | lst1 i h e z => exact .lst1 i h (s _ _ e) z
  | dic0 e => exact .dic0 (s _ _ e)
  | dic1 i h e => exact .dic1 i h (s _ _ e)
theorem int_show {i : Int} (h : i.natAbs < 10 ^ 31) : (Str.ofString (toString i)).length ≤ 32 ∧ i.natAbs.log2 < 1920 := by
  have e := int_text_length_le10 (k := 31) (by decide) h
  refine ⟨by rw [PySem.ofString_length]; omega, ?_⟩
  by_cases h0 : i.natAbs = 0
  · rw [h0]
    decide
  · refine (Nat.log2_lt h0).mpr (Nat.lt_of_lt_of_le h (Nat.le_trans (by decide : 10 ^ 31 ≤ 2 ^ 104) (Nat.pow_le_pow_right (by decide) (by decide))))
theorem tupText_le (ts : List Str) : (tupleText ts).length ≤ 4 + piled ts := by
  unfold tupleText
  rw [strLen_append, strLen_append]
  have e1 : (("(" : Str)).length = 1 := by decide +kernel
  have e2 : ∀ b : Bool, (((if b = true then ",)" else ")" : String) : Str)).length ≤ 2 := by decide +kernel
  have e3 := e2 (ts.length == 1)
  by_cases h : ts = []
  · subst h
    have e4 : (Str.join ", " []).length = 0 := by decide +kernel
    omega
  · have e4 := join_length_add ts h
    omega
theorem dicText_le (ts : List Str) : (dictText ts).length ≤ 4 + piled ts := by
  unfold dictText
  rw [strLen_append, strLen_append]
  have e1 : (("{" : Str)).length = 1 := by decide +kernel
  have e2 : (("}" : Str)).length = 1 := by decide +kernel
  by_cases h : ts = []
  · subst h
    have e4 : (Str.join ", " []).length = 0 := by decide +kernel
    omega
  · have e4 := join_length_add ts h
    omega
open L2 in
theorem Thing.show {H : Hp} {v : V} {d : PyData} (h : Thing H v d) : d.showable = true ∧ d.shown.length ≤ 200 ∧ d.depth ≤ 2 := by
  cases h with
  | non => exact ⟨by simp [PyData.showable], by simp only [PyData.shown]; decide +kernel, by simp [PyData.depth]⟩
  | bl b => exact ⟨by simp [PyData.showable], by simp only [PyData.shown]; cases b <;> decide +kernel, by simp [PyData.depth]⟩
  | int i h => 
    have := int_show h
    exact ⟨by simp [PyData.showable, this.2], by simp only [PyData.shown]; exact Nat.le_trans this.1 (by decide), by simp [PyData.depth]⟩
  | str x h => exact ⟨by simp [PyData.showable], by simp only [PyData.shown]; omega, by simp [PyData.depth]⟩
  | tupS x h e =>
    refine ⟨by simp [PyData.showable, PyData.showableAll], ?_, by simp [PyData.depth, PyData.depthAll]⟩
    simp only [PyData.shown, PyData.shownAll]
    have := tupText_le [reprText x]
    simp only [piled_cons, piled_nil] at this
    omega
  | tupN i h e1 e2 =>
    have q := int_show h
    refine ⟨by simp [PyData.showable, PyData.showableAll, q.2]; decide, ?_, by simp [PyData.depth, PyData.depthAll]⟩
    simp only [PyData.shown, PyData.shownAll]
    have t1 := tupText_le [Str.ofString (toString i)]
    have t2 := tupText_le [Str.ofString (toString (1 : Int)), tupleText [Str.ofString (toString i)]]
    have t3 : (Str.ofString (toString (1 : Int))).length ≤ 2 := by decide +kernel
    simp only [piled_cons, piled_nil] at t1 t2
    omega
  | lst0 e z => exact ⟨by simp [PyData.showable, PyData.showableAll], by simp only [PyData.shown, PyData.shownAll]; decide +kernel, by simp [PyData.depth, PyData.depthAll]⟩
  | lst1 i h e z =>
    have q := int_show h
    refine ⟨by simp [PyData.showable, PyData.showableAll, q.2], ?_, by simp [PyData.depth, PyData.depthAll]⟩
    simp only [PyData.shown, PyData.shownAll]
    have e1 : listText [Str.ofString (toString i)] = ("[" : Str) ++ ("" : String) ++ Str.ofString (toString i) ++ "]" := rfl
    rw [e1, strLen_append, strLen_append, strLen_append]
    have e2 : (("[" : Str)).length = 1 := by decide +kernel
    have e3 : (("]" : Str)).length = 1 := by decide +kernel
    have e4 : ((("" : String) : Str)).length = 0 := by decide +kernel
    omega
  | dic0 e => exact ⟨by simp [PyData.showable, PyData.showableKv], by simp only [PyData.shown, PyData.shownKv]; decide +kernel, by simp [PyData.depth, PyData.depthKv]⟩
  | dic1 i h e =>
    have q := int_show h
    refine ⟨by simp [PyData.showable, PyData.showableKv, q.2], ?_, by simp [PyData.depth, PyData.depthKv]⟩
    simp only [PyData.shown, PyData.shownKv]
    have t1 := dicText_le [reprText "a" ++ ": " ++ Str.ofString (toString i)]
    simp only [piled_cons, piled_nil] at t1
    rw [strLen_append, strLen_append] at t1
    have t2 : (reprText "a").length ≤ 10 := by decide +kernel
    have t3 : ((": " : Str)).length = 2 := by decide +kernel
    omega
open L2
section
variable {X : Cx} {pins : List (Addr × Obj)} {σ : L2.St} {H : Hp} {s : Shared}
theorem Thing.reads {v : V} {d : PyData} {u : Value} (I : Inv X pins σ H s) (h : Thing H v d) (r : RelV v u) : ∃ as, Reads s.heap u d as ∧ sysModules ∉ as := by
  have nosys : ∀ {a : Addr}, (a == sysModules) = false → sysModules ∉ [a] := fun z m => by
    rw [List.mem_singleton.mp m] at z
    simp at z
  cases h with
  | non => cases r; exact ⟨_, .none, List.not_mem_nil⟩
  | bl b => cases r; exact ⟨_, .bool b, List.not_mem_nil⟩
  | int i h => obtain ⟨t, rfl⟩ := r; exact ⟨_, .int i t, List.not_mem_nil⟩
  | str x h => obtain ⟨t, rfl⟩ := r; exact ⟨_, .str x t, List.not_mem_nil⟩
  | @tupS a x h e =>
    obtain rfl : u = Value.ref a := r
    obtain ⟨its, rv, ⟨o, h1, h2, n, h3⟩, _⟩ := I.tuple (SqT.of (K := X.K) e)
    cases rv with
    | cons r1 rn =>
      cases rn
      obtain ⟨t, rfl⟩ := r1
      exact ⟨_, .tuple h1 h2 h3 (.cons (.str x t) .nil), List.not_mem_nil⟩
  | @tupN a b i h e1 e2 =>
    obtain rfl : u = Value.ref a := r
    obtain ⟨its, rv, ⟨o, h1, h2, n, h3⟩, _⟩ := I.tuple (SqT.of (K := X.K) e1)
    obtain ⟨its2, rv2, ⟨o2, g1, g2, n2, g3⟩, _⟩ := I.tuple (SqT.of (K := X.K) e2)
    cases rv2 with
    | cons r2 rn2 =>
      cases rn2
      obtain ⟨t2, rfl⟩ := r2
      cases rv with
      | cons r1 rn =>
        obtain ⟨t1, rfl⟩ := r1
        cases rn with
        | @cons _ u3 _ _ r3 rn3 =>
          obtain rfl : u3 = Value.ref b := r3
          cases rn3
          exact ⟨_, .tuple h1 h2 h3 (.cons (.int 1 t1) (.cons (.tuple g1 g2 g3 (.cons (.int i t2) .nil)) .nil)), List.not_mem_nil⟩
  | @lst0 a e z =>
    obtain rfl : u = Value.ref a := r
    obtain ⟨its, rv, ⟨o, n, h1, h2, _, h3⟩, _⟩ := I.list (SqL.of (K := X.K) e)
    cases rv
    exact ⟨_, .list h1 h2 h3 .nil, nosys z⟩
  | @lst1 a i h e z =>
    obtain rfl : u = Value.ref a := r
    obtain ⟨its, rv, ⟨o, n, h1, h2, _, h3⟩, _⟩ := I.list (SqL.of (K := X.K) e)
    cases rv with
    | cons r1 rn =>
      cases rn
      obtain ⟨t, rfl⟩ := r1
      exact ⟨_, .list h1 h2 h3 (.cons (.int i t) .nil), nosys z⟩
  | @dic0 a e =>
    obtain rfl : u = Value.ref a := r
    obtain ⟨_, z, vs, kv, o, es, ep, h1, h2, h3, _, hp, _⟩ := (show ObjOk X.prog X.w H s.heap a (.dK []) from I.hok a _ e)
    cases kv
    cases hes : es.toList with
    | cons e1 r1 => rw [hes] at hp; cases hp
    | nil => exact ⟨_, .dict (kvs := []) h1 h2.1 h3 (by rw [hes]; exact .nil) (by rw [hes]; exact .nil), nosys z⟩
  | @dic1 a i h e =>
    obtain rfl : u = Value.ref a := r
    obtain ⟨_, z, vs, kv, o, es, ep, h1, h2, h3, _, hp, _⟩ := (show ObjOk X.prog X.w H s.heap a (.dK [(Sum.inr "a", .int i)]) from I.hok a _ e)
    cases kv with
    | @cons _ q _ _ r1 rn =>
      cases rn
      obtain ⟨qk, qv⟩ := q
      obtain ⟨rfl, t, rfl⟩ := r1
      cases hes : es.toList with
      | nil => rw [hes] at hp; cases hp
      | cons e1 rest =>
        rw [hes] at hp
        cases hp with
        | cons k1 v1 hr =>
          cases hr
          rcases keyIs_shape (show keyIs (Sum.inr ("a" : Str)) e1.key = true from k1) with ⟨j, t', e2, _⟩ | ⟨y, t', e2, e3⟩
          · cases e2
          · cases e2
            exact ⟨_, .dict (kvs := [(.str "a", .int i)]) h1 h2.1 h3 (by rw [hes]; show ReadsAll _ [e1.key] _ _; rw [e3]; exact .cons (.str _ t') .nil) (by rw [hes]; show ReadsAll _ [e1.val] _ _; rw [v1]; exact .cons (.int i t) .nil), nosys z⟩
/-- things, one by one -/
inductive Things (H : Hp) : List V → List PyData → Prop
  | nil : Things H [] []
  | cons {v : V} {vs : List V} {d : PyData} {ds : List PyData} : Thing H v d → Things H vs ds → Things H (v :: vs) (d :: ds)
theorem Things.same {H H' : Hp} (e : Same H H') : ∀ {vs : List V} {ds : List PyData}, Things H vs ds → Things H' vs ds
  | _, _, .nil => .nil
  | _, _, .cons h t => .cons (h.same e) (Things.same e t)
theorem Things.reads (I : Inv X pins σ H s) : ∀ {vs : List V} {ds : List PyData} {us : List Value}, Things H vs ds → Vals vs us → ∃ as, ReadsAll s.heap us ds as ∧ sysModules ∉ as
  | _, _, _, .nil, .nil => ⟨_, .nil, List.not_mem_nil⟩
  | _, _, _, .cons h t, .cons r rs => by
    obtain ⟨as, q1, n1⟩ := h.reads I r
    obtain ⟨bs, q2, n2⟩ := Things.reads I t rs
    exact ⟨_, .cons q1 q2, fun z => (List.mem_append.mp z).elim n1 n2⟩
theorem Things.show {H : Hp} : ∀ {vs : List V} {ds : List PyData}, Things H vs ds → PyData.showableAll ds = true ∧ piled (PyData.shownAll ds) ≤ 202 * ds.length ∧ PyData.depthAll ds ≤ 2
  | _, _, .nil => ⟨rfl, by simp only [PyData.shownAll]; exact Nat.zero_le _, by simp [PyData.depthAll]⟩
  | _, d :: ds, .cons h t => by
    obtain ⟨a1, a2, a3⟩ := h.show
    obtain ⟨b1, b2, b3⟩ := Things.show t
    refine ⟨by simp [PyData.showableAll, a1, b1], ?_, by simp only [PyData.depthAll]; omega⟩
    simp only [PyData.shownAll, piled_cons, List.length_cons]
    omega
end
section
variable {X : Cx}
/-- repr(x), x a thing or a tuple of a few of them -/
def rRepr (xs : List V) (H : Hp) (Q : VK) : Prop := ∃ v, xs = [v] ∧ ((∃ d, Thing H v d ∧ Q (.str d.shown) H) ∨ ∃ (a : Addr) (vs : List V) (ds : List PyData), v = .ref a ∧ H a = some (.tup vs) ∧ Things H vs ds ∧ ds.length ≤ 10 ∧ Q (.str (PyData.tuple ds).shown) H)
theorem call_repr (hg : X.A.guards = some []) (hu : X.A.units + 65 < cLine) : CallR X (.builtin "repr") rRepr := by
  intro pins s σ H xs us Q I r h
  obtain ⟨v, rfl, h⟩ := h
  cases r with
  | @cons _ u _ _ r1 rn =>
    cases rn
    rcases h with ⟨d, hd, q⟩ | ⟨a, vs, ds, rfl, ha, hd, hl, q⟩
    · obtain ⟨as, rd, ns⟩ := hd.reads I r1
      obtain ⟨s1, s2, s3⟩ := hd.show
      exact repr_reads rd s1 (fun _ => ns) (by rw [sizeLine_eq]; omega) hg (by omega) fun h' u tk k => ⟨.str _, H, I.kept (t' := tk) k, ⟨u, rfl⟩, q⟩
    · obtain rfl : u = Value.ref a := r1
      obtain ⟨its, rv, ⟨o, h1, h2, n, h3⟩, _⟩ := I.tuple (SqT.of (K := X.K) ha)
      obtain ⟨as, rd, ns⟩ := Things.reads I hd rv
      obtain ⟨s1, s2, s3⟩ := Things.show hd
      have hz : (PyData.tuple ds).shown.length ≤ sizeLine := by
        simp only [PyData.shown]
        have := tupText_le (PyData.shownAll ds)
        rw [sizeLine_eq]
        omega
      exact repr_reads (.tuple h1 h2 h3 rd) (by simp [PyData.showable, s1]) (fun _ => ns) hz hg (by simp only [PyData.depth]; omega) fun h' u tk k => ⟨.str _, H, I.kept (t' := tk) k, ⟨u, rfl⟩, q⟩
/-- [e, ..]: the new list is not the modules' own dict -/
def tLstB (t : TA) : TE := fun σ H Q => t σ H fun xs H1 => xs.length ≤ sizeLine ∧ ∀ p, H1 p = none → (p == sysModules) = false → Q (.ref p) (upd H1 p (.lst xs))
theorem pe_lstB {es : List Expr} {t : TA} {pos : Pos} (h : PA X es t) : PE X (.List es pos) (tLstB t) := by
  refine ⟨fun pins s σ H Q I hq => wpAny_List_spliced (thn (h.run pos pins s σ H _ I hq) fun us s1 ⟨xs, H1, I1, r, z, q⟩ => ⟨by rw [← r.length]; exact z, ?_⟩)⟩
  have hf : H1 s1.heap.objs.size = none := I1.hok.fresh (Nat.le_refl _)
  have hne : (s1.heap.objs.size == sysModules) = false := beq_eq_false_iff_ne.mpr (Nat.ne_of_gt I1.big)
  exact ⟨.ref s1.heap.objs.size, upd H1 s1.heap.objs.size (.lst xs), I1.laid (t' := s1.toks) (fun b u e => Heap.get?_push_of_some _ e) (Nat.le_refl _) ⟨z, us, 0, r, Heap.get?_push_size _ rfl⟩, rfl, q _ hf hne⟩
end
end Sh
set_option Elab.async false
set_option linter.all false
set_option maxRecDepth 100000
set_option maxHeartbeats 4000000
namespace Sh
open PySem PySem.Spec PyProof.Rows L2
/-! ### a law that asks for a repr: its promise where no repr is under way -/
structure FnG (P : Program) (w : World) (K : PySem.W.Frag) (mg : Str → Option Value) (base : Heap) (CX : CXT) (k : Nat) (f : Addr) (fd : FuncData) (ps : List Str) (sp : Sp) : Prop where
  run : ∀ (A : Around) (outer : List Env) (s : Shared) (H : Hp) (args : Args) (us : List Value) (vs : List V) (Q : VK) (E : XK), A.guards = some [] → Room k A → Env0 P w K mg base A outer s H → BindsTo s fd args (ps.zip us) → Vals vs us → sp vs H Q E →
    codeAny (model P w) A (.call (.ref f) args) (CR CX outer P w H s Q E) s
section
variable {P : Program} {w : World} {K : PySem.W.Frag} {mg : Str → Option Value} {base : Heap}
/-- a promise at one place in the stack, from the promise over all of them that the body keeps -/
theorem okG {x qual : Str} {st : Stmt} {f : Addr} {fd : FuncData} {N ps : List Str} {k : Nat} {sp : Sp} (F : Fun K x qual st f fd) (S : FnScope N ps (defScope st)) (len : ∀ vs H Q E, sp vs H Q E → vs.length = ps.length)
    (hbody : ∀ (cdv : Value) (A : Around) (outer : List Env) (s : Shared) (H : Hp) (vs : List V) (Q : VK) (E : XK), (A.deeper (envOfC qual (defScope st) s.heap.objs.size f cdv)).guards = some [] → Room k (A.deeper (envOfC qual (defScope st) s.heap.objs.size f cdv)) → sp vs H Q E →
      ∃ t, PSs (cxOf CX0 P w K mg base N qual (defScope st) f cdv A outer s H E).nox (defBody st) t ∧ t { nx := fun _ H' => Q .non H', rt := Q } (start N vs) H) : FnG P w K mg base CX0 (k + 1) f fd ps sp := by
  refine ⟨fun A outer s H args us vs Q E hgd hr e0 hb r hsp => ?_⟩
  obtain ⟨oc, od, kV, doc, pm, an, cdv, ct, osl, rfl, lk, hcd⟩ := F.ex
  have hl := len _ _ _ _ hsp
  have KX : K.In s.heap := e0.mod.kin.keeps fun b o z => (e0.bs b o z).1
  have hkind : ∀ y ∈ ps.zip us, (defScope st).names.lookup y.1 = some .local ∨ ((defScope st).names.lookup y.1 = some .cell ∧ ((cellsFrom (s.heap.objs.size + 1) (defScope st).names []).lookup y.1).isSome = true) := fun y hy =>
    (S.par y.1 (List.of_mem_zip (a := y.1) (b := y.2) hy).1).imp id fun z => ⟨z, PySem.W.cellsFrom_some _ _ _ (.inl z)⟩
  refine codeAny_call_function hr.depth (KX _ _ lk) rfl S.co S.gen rfl (PySem.W.codeRec_of KX hcd) (hb _ _ _ _ (wpAny_newFunctionEnv_cells S.kind hkind fun env he s1 y => ?_))
  subst he
  refine ⟨(e0.mod.nolimit.keeps fun b o z => (e0.bs b o z).1).keeps y.toInCall.keep, codeAny_func ?_⟩
  obtain ⟨t, ht, hq⟩ := hbody cdv A outer s H vs Q E hgd (hr.deeper _) hsp
  have I : Inv (cxOf CX0 P w K mg base N qual (defScope st) f cdv A outer s H E) [] (start N vs) H s1 := inv_start S hr.hd e0 hl r y
  refine wpAny_mono (ht.nox.run [] s1 (start N vs) H _ I hq) (fun fl s' hs => ?_) fun e s' hs => hs
  cases fl with
  | ret u =>
    obtain ⟨v, _, H', J, rv, q⟩ := hs
    exact ⟨v, H', J.os, J.bare, J.base, J.hok, rv, q⟩
  | next =>
    obtain ⟨_, H', J, q⟩ := hs
    exact ⟨V.non, H', J.os, J.bare, J.base, J.hok, rfl, q⟩
  | brk => exact False.elim hs.choose_spec.choose_spec.2
  | cont => exact False.elim hs.choose_spec.choose_spec.2
end
section
variable {P : Program} {w : World} {K : PySem.W.Frag} {mg mb : Str → Option Value} {k : Nat} {fa a : Addr} {fd : FuncData} {x : Str} {sp : Sp} {t : Shared} {vs : List Value} {ns : List Int}
abbrev Told (t : Shared) (r : Result) (t' : Shared) : Prop := r = .ok (.ret (.bool true)) ∧ OldK t.heap t'.heap ∧ t'.os = t.os ∧ AllBare t'.gens
/-- the call, over an abstract heap in which at most the script is tracked -/
theorem call_over {H : Hp} (KX : K.In t.heap) (hns : t.heap.Ns mainGlobals mg) (hb : t.heap.Ns builtinsNs mb) (hbb : ∀ x : Str, x ≠ "__name__" → mb x = bootBuiltins x) (hlim : t.heap.NoLimit) (hg : t.gens = #[])
    (ha : t.heap.get? a = some { cls := .type "list", data := .seq vs.toArray }) (hr : Room k callerA)
    (G : ∀ base : Heap, K.In base → base.Ns mainGlobals mg → FnG P w K mg base CX0 k fa fd [x] sp) (hbind : ∀ (s : Shared) (u : Value), BindsTo s fd ⟨[u], []⟩ [(x, u)])
    (hO : Only H) (hsp : sp [.ref a] H (fun v _ => v = .bl true) fun _ _ _ => False) (hok : HOk P w H t.heap) (hA : ∀ b, H b ≠ none → b = a) (hK : H a ≠ none → K.lookup a = none) :
    codeAny (model P w) callerA (.call (.ref fa) ⟨[.ref a], []⟩) (Told t) t := by
  have free : ∀ {b : Addr}, b ≠ a → H b = none := fun {b} hb' => Classical.byContradiction fun z => hb' (hA b z)
  have nsK : ∀ {b : Addr} {m : Str → Option Value}, t.heap.Ns b m → (hidT t.heap H).Ns b m := fun {b m} ⟨o, es, ep, e, d, r⟩ => by
    refine ⟨o, es, ep, hidT_get e (free fun z => ?_), d, r⟩
    subst z
    rw [ha] at e
    cases e
    cases d
  have hKb : K.In (hidT t.heap H) := fun b o e => hidT_get (KX b o e) (Classical.byContradiction fun z => by
    have hba := hA b z
    subst hba
    rw [hK z] at e
    cases e)
  obtain ⟨mc, l1, l2⟩ := hlim
  have e0 : Env0 P w K mg (hidT t.heap H) callerA [] t H := ⟨rfl, ⟨hKb, nsK hns, ⟨mb, nsK hb, hbb⟩, mc, nsK l1, l2⟩, fun b o e => of_hidT e, Nat.le_of_eq (hidT_size _ _), trivial, fun b z => (nomatch z), hok, .of_eq hg⟩
  refine codeAny_mono ((G _ hKb (nsK hns)).run callerA [] t H ⟨[.ref a], []⟩ [.ref a] [.ref a] _ _ rfl hr e0 (hbind t (.ref a)) (.cons rfl .nil) hsp) fun r t' hres => ?_
  match r, hres with
  | .ok (.ret u), hres =>
    obtain ⟨v, H', ho, hbare, un, hok', r', q⟩ := hres
    obtain rfl : v = .bl true := q
    obtain rfl : u = Value.bool true := r'
    refine ⟨rfl, OldK.of_keep fun b o e => ?_, ho, hbare⟩
    cases hb' : H b with
    | none => exact un.keep b o e hb' (fun z => nomatch (show b ∈ ([] : List Addr) from z)) (fun z => nomatch z)
    | some y =>
      rcases hO b with z | ⟨ob, xs, z⟩
      · rw [hb'] at z
        cases z
      · obtain ⟨e1, _⟩ := hok b _ z
        obtain ⟨e2, _⟩ := hok' b _ (un.frzs b ob _ z)
        rw [e] at e1
        cases e1
        exact e2
  | .ok .next, hres => exact False.elim hres
  | .ok .brk, hres => exact False.elim hres
  | .ok .cont, hres => exact False.elim hres
  | .error e, hres => exact False.elim hres
theorem law_callG (KX : K.In t.heap) (hns : t.heap.Ns mainGlobals mg) (hb : t.heap.Ns builtinsNs mb) (hbb : ∀ x : Str, x ≠ "__name__" → mb x = bootBuiltins x) (hlim : t.heap.NoLimit) (hg : t.gens = #[])
    (ha : t.heap.get? a = some { cls := .type "list", data := .seq vs.toArray }) (hi : IntsAre vs ns) (hl : ns.length ≤ sizeLine) (hr : Room k callerA)
    (G : ∀ base : Heap, K.In base → base.Ns mainGlobals mg → FnG P w K mg base CX0 k fa fd [x] sp) (hbind : ∀ (s : Shared) (u : Value), BindsTo s fd ⟨[u], []⟩ [(x, u)])
    (hsp : ∀ H : Hp, Only H → SqL K H a (ns.map V.int) → sp [.ref a] H (fun v _ => v = .bl true) fun _ _ _ => False) : codeAny (model P w) callerA (.call (.ref fa) ⟨[.ref a], []⟩) (Told t) t := by
  have rv := vals_ints hi
  have lenV := hi.length
  cases hk : K.lookup a with
  | some o =>
    have e := KX a o hk
    rw [ha] at e
    cases e
    have hO : Only (fun _ => none) := fun _ => .inl rfl
    refine call_over KX hns hb hbb hlim hg ha hr G hbind hO (hsp _ hO (.inr ⟨_, vs.toArray, _, hk, rfl, rfl, rfl, by rw [List.size_toArray, lenV]; exact hl, by simpa using rv⟩)) (fun b u z => nomatch z) (fun b z => absurd rfl z) fun z => absurd rfl z
  | none =>
    have hO : Only (upd (fun _ => none) a (.frz { cls := .type "list", data := .seq vs.toArray } (.lst (ns.map V.int)))) := fun b => by
      by_cases hb' : b = a
      · subst hb'
        exact .inr ⟨_, _, upd_same⟩
      · exact .inl (upd_ne hb')
    refine call_over KX hns hb hbb hlim hg ha hr G hbind hO (hsp _ hO (.inl (.inr ⟨_, upd_same⟩))) (fun b u z => ?_) (fun b z => ?_) fun _ => hk
    · by_cases hb' : b = a
      · subst hb'
        rw [upd_same] at z
        cases z
        exact ⟨ha, by rw [List.length_map]; exact hl, vs, _, rv, ha⟩
      · rw [upd_ne hb'] at z
        cases z
    · by_cases hb' : b = a
      · exact hb'
      · exact absurd (upd_ne hb') z
end
theorem walk_ofG {l : PySem.W.OpenLaw} {n k : Nat} {q : Program} {loose : List Str} {XP : (Str → Option Value) → Heap → Prop} {YP : World → Heap → Prop} {d : DefRec} {K : Params → PySem.W.Frag} {sp : PySem.W.Frag → Sp} {x : Str}
    (hn : l.most = some n) (hn2 : n ≤ sizeLine) (hdf : d.params.defaults = []) (hr : Room k callerA) (hY : ∀ (w : World) (h : Heap), YP w h → (K w.params).In h)
    (G : ∀ (w : World) (mg : Str → Option Value) (fa : Addr) (h : Heap), (K w.params).In h → h.Ns mainGlobals mg → mg d.name = some (.ref fa) →
      ∃ fd : FuncData, (∀ (s : Shared) (u : Value), BindsTo s fd ⟨[u], []⟩ [(x, u)]) ∧ ∀ base : Heap, (K w.params).In base → base.Ns mainGlobals mg → FnG l.prog w (K w.params) mg base CX0 k fa fd [x] (sp (K w.params)))
    (hsp : ∀ (K : PySem.W.Frag) (H : Hp) (a : Addr) (ns : List Int), ns.length ≤ n → SqL K H a (ns.map V.int) → sp K [.ref a] H (fun v _ => v = .bl true) fun _ _ _ => False) :
    PySem.W.WalkO q loose XP YP l.row.toRowW d [] (fun f vs => PySem.call f vs) := by
  refine Att.attach_call hn hdf fun w s₀ t mg mb fa o pm cd doc a vs ns Gr Y ho hd hcd hmg hobj hints hlen hg => ?_
  have KX := hY w _ Y
  obtain ⟨fd, hb, hF⟩ := G w mg fa _ KX Gr.T.g hmg
  exact law_callG KX Gr.T.g Gr.T.b Gr.T.builtins Gr.T.nolimit hg hobj hints (Nat.le_trans hlen hn2) hr hF hb fun H _ hS => hsp (K w.params) H a ns hlen hS
end Sh
set_option Elab.async false
set_option linter.all false
set_option maxRecDepth 100000
set_option maxHeartbeats 4000000
namespace Sh
open PySem PySem.Spec PySem.W PyProof.Rows L2 NdefX
/-! ### a head by facts, own exceptions among them -/
theorem andB {a b : Bool} (h : (a && b) = true) : a = true ∧ b = true := Bool.and_eq_true_iff.mp h
/-- the cells that functions hold -/
def cellsG (g : Addr → Option Obj) (as : List Addr) : List Addr := as.flatMap fun a => match g a with
  | some ⟨_, _, .func fd, _⟩ => fd.closure.map (·.2)
  | _ => []
def asX (g : Addr → Option Obj) (n : Nat) : List Addr := cStatics :: (He.asD g n ++ cellsG g (He.asD g n))
/-- an own exception class right below S -/
def xclsB (K : Frag) (S C : Addr) : Bool := (match K.lookup C with
  | some ⟨.type t, _, .cls cd, sl⟩ => decide (t = "type") && (decide (cd.mro = [.ref C, .ref S, .type "ValueError", .type "Exception", .type "BaseException", .type "object"]) && (cd.hasDict && (!cd.hasDel && (match sl.toList with
    | [_, _, _, _, some (.builtin n), _] => decide (n = "ValueError.__new__")
    | _ => false))))
  | _ => false) && (decide (findIn K (.ref C) "__setattr__" = some (some (.builtin "object.__setattr__"))) && (decide (findIn K (.ref C) "__getattribute__" = some (some (.builtin "BaseException.__getattribute__"))) && (decide (findIn K (.ref C) "__getattr__" = some none) &&
    (decide (findIn K (.ref C) "__class__" = some (some (.builtin "object.__class__"))) && keepIn K (.ref C)))))
theorem xclsB_ok {K : Frag} {S C : Addr} (h : xclsB K S C = true) : XCls K S C := by
  obtain ⟨h1, h⟩ := andB h
  obtain ⟨h2, h⟩ := andB h
  obtain ⟨h3, h⟩ := andB h
  obtain ⟨h4, h⟩ := andB h
  obtain ⟨h5, h6⟩ := andB h
  cases q : K.lookup C with
  | none => rw [q] at h1; cases h1
  | some o =>
    obtain ⟨oc, dd, dt, sl⟩ := o
    rw [q] at h1
    cases oc with
    | type t =>
      cases dt with
      | cls cd =>
        obtain ⟨nm, bs, mro, ns, qn, hd, sn, sb, ab, col, del⟩ := cd
        obtain ⟨a1, h1⟩ := andB h1
        obtain ⟨a2, h1⟩ := andB h1
        obtain ⟨a3, h1⟩ := andB h1
        obtain ⟨a4, a5⟩ := andB h1
        have e1 : t = "type" := of_decide_eq_true a1
        have e2 : mro = _ := of_decide_eq_true a2
        have e3 : hd = true := a3
        have e4 : del = false := by
          cases del
          · rfl
          · cases a4
        subst e1 e2 e3 e4
        have es : ∃ k0 k1 k2 k3 k5, sl = #[k0, k1, k2, k3, some (.builtin "ValueError.__new__"), k5] := by
          obtain ⟨l⟩ := sl
          match l, a5 with
          | [k0, k1, k2, k3, some (.builtin n), k5], a5 =>
            have e5 : n = "ValueError.__new__" := of_decide_eq_true a5
            subst e5
            exact ⟨k0, k1, k2, k3, k5, rfl⟩
        obtain ⟨k0, k1, k2, k3, k5, rfl⟩ := es
        exact xcls_mk q (of_decide_eq_true h2) (of_decide_eq_true h3) (of_decide_eq_true h4) (of_decide_eq_true h5) h6
      | _ => cases h1
    | _ => cases h1
def fileB (file : Str) (vs : Array Value) : Bool := match vs[2]? with
  | some (Value.str fl _) => file == fl
  | _ => false
theorem fileB_ok {file : Str} {vs : Array Value} (h : fileB file vs = true) : ∃ fl tf, vs[2]? = some (.str fl tf) ∧ (file == fl) = true := by
  unfold fileB at h
  cases q : vs[2]? with
  | none => rw [q] at h; cases h
  | some v =>
    rw [q] at h
    cases v with
    | str fl tf => exact ⟨fl, tf, rfl, h⟩
    | _ => cases h
/-- its __init__: what it holds beside its text -/
def xinitB (file : Str) (K : Frag) (C f : Addr) (qual : Str) : Bool := decide (findIn K (.ref C) "__init__" = some (some (.ref f))) && (decide (typeIn K (.ref f) = some (.type "function")) &&
  ((match K.lookup f with
    | some ⟨_, _, .func fd, _⟩ => (match fd.code, fd.closure with
      | .ref cd, [(_, cc)] => codeIn K (.ref cd) qual && ((match K.lookup cd with
          | some ⟨_, _, .fields vs, _⟩ => fileB file vs
          | _ => false) && (match K.lookup cc with
          | some ⟨_, _, .cell (some (.ref D)), _⟩ => decide (D = C)
          | _ => false))
      | _, _ => false)
    | _ => false) && decide (ks_superIn K C C "__init__" = some (some (.builtin "ValueError.__init__")))))
abbrev XV : Type := Option (Str × Str × Arguments × FuncBody × Scope × Addr × List Str × Value × Addr)
def xvOf (K : Frag) (f : Addr) : XV := match K.lookup f with
  | some ⟨_, _, .func fd, _⟩ => some (fd.name, fd.qualname, fd.params, fd.body, fd.scope, fd.globals, fd.closure.map (·.1), fd.defaults, fd.builtins)
  | _ => none
structure XD where
  cls : Str
  qual : Str
  st : Stmt
def XD.val (d : XD) : XV := some ("__init__", d.qual, defArgs d.st, .stmts (defBody d.st), defScope d.st, mainGlobals, ["__class__"], .none, builtinsNs)
def XD.fn (K : Frag) (d : XD) : Addr := He.ma K (He.ga K d.cls) "__init__"
theorem xinit_of {P : Program} {K : Frag} {mg : Str → Option Value} {S C f : Addr} {d : XD} (x : XCls K S C) (e : xvOf K f = d.val) (b : xinitB P.main.file K C f d.qual = true) (mgs : mg "super" = none) (opq : nsIn K cStatics "thirdparty.any" = some none)
    (top : (P.main.scope.names.lookup ("super" : Str)).isSome = false) (hh : ∃ ar : Arg, ((defArgs d.st).posonlyargs ++ (defArgs d.st).args).head? = some ar ∧ ar.arg = "self") (ks : (defScope d.st).names.lookup ("super" : Str) = some .globalImplicit)
    (kc : (defScope d.st).names.lookup ("__class__" : Str) = some .free) (ka : (defScope d.st).names.lookup ("self" : Str) = some .local) : ∃ fd, XInit P K mg C f d.qual d.st fd := by
  obtain ⟨b1, b⟩ := andB b
  obtain ⟨b2, b⟩ := andB b
  obtain ⟨b3, b4⟩ := andB b
  unfold xvOf at e
  cases q : K.lookup f with
  | none => rw [q] at b3; cases b3
  | some o =>
    obtain ⟨oc, od, dt, osl⟩ := o
    rw [q] at b3 e
    cases dt with
    | func fd =>
      obtain ⟨n1, n2, n3, n4, n5, n6, n7, n8, n9, n10, n11, n12, n13, n14, n15⟩ := fd
      have e2 : (some (n1, n2, n3, n4, n5, n6, n7.map (·.1), n8, n15) : XV) = (some (("__init__" : Str), d.qual, defArgs d.st, .stmts (defBody d.st), defScope d.st, mainGlobals, ["__class__"], .none, builtinsNs) : XV) := e
      simp only [Option.some.injEq, Prod.mk.injEq] at e2
      obtain ⟨h1, h2, h3, h4, h5, h6, h7, h8, h9⟩ := e2
      subst h1 h2 h3 h4 h5 h6 h8 h9
      cases n7 with
      | nil => cases h7
      | cons p r =>
        cases r with
        | cons p2 r2 => exact nomatch (List.cons.inj h7).2
        | nil =>
          obtain ⟨nn, cc⟩ := p
          have en : nn = "__class__" := (List.cons.inj h7).1
          subst en
          cases n13 with
          | ref cd =>
            obtain ⟨c1, c2⟩ := andB b3
            obtain ⟨c2, c3⟩ := andB c2
            cases q2 : K.lookup cd with
            | none => rw [q2] at c2; cases c2
            | some o2 =>
              obtain ⟨oc2, od2, dt2, osl2⟩ := o2
              rw [q2] at c2
              cases dt2 with
              | fields vs =>
                obtain ⟨fl, tf, hv1, hv2⟩ := fileB_ok c2
                cases q3 : K.lookup cc with
                | none => rw [q3] at c3; cases c3
                | some o3 =>
                  obtain ⟨oc3, od3, dt3, osl3⟩ := o3
                  rw [q3] at c3
                  cases dt3 with
                  | cell co =>
                    cases co with
                    | none => cases c3
                    | some v =>
                      cases v with
                      | ref D =>
                        have eD : D = C := of_decide_eq_true c3
                        subst eD
                        exact ⟨_, xinit_mk (st := d.st) x (of_decide_eq_true b1) (of_decide_eq_true b2) q c1 q2 hv1 hv2 q3 (of_decide_eq_true b4) mgs opq top hh ks kc ka⟩
                      | _ => cases c3
                  | _ => cases c3
              | _ => cases c2
          | _ => cases b3
    | _ => cases b3
/-! the Hook -/
abbrev AlX : Type := He.AlD × Bool × List XV
def obsX (fa : List He.Fa) (fn : List He.DefD) (ex : List (Frag → Bool)) (xs : List XD) (K : Frag) : AlX := (He.obsD fa fn K, ex.all (fun f => f K), xs.map fun d => xvOf K (d.fn K))
def valX (fn : List He.DefD) (xs : List XD) : AlX := (He.valD fn, true, xs.map XD.val)
structure SaysX (fa : List He.Fa) (fn : List He.DefD) (ex : List (Frag → Bool)) (xs : List XD) (K : Frag) : Prop where
  d : He.SaysD fa fn K
  e : ∀ (i : Nat) {f : Frag → Bool}, ex[i]? = some f → f K = true
  x : ∀ (i : Nat) {d : XD}, xs[i]? = some d → xvOf K (d.fn K) = d.val
theorem says_of {fa : List He.Fa} {fn : List He.DefD} {ex : List (Frag → Bool)} {xs : List XD} {K : Frag} (h : obsX fa fn ex xs K = valX fn xs) : SaysX fa fn ex xs K := by
  have h1 : He.obsD fa fn K = He.valD fn := congrArg (fun z : AlX => z.1) h
  have h2 : ex.all (fun f => f K) = true := congrArg (fun z : AlX => z.2.1) h
  have h3 : xs.map (fun d => xvOf K (d.fn K)) = xs.map XD.val := congrArg (fun z : AlX => z.2.2) h
  refine ⟨h1, fun i f e => List.all_eq_true.mp h2 f (List.mem_of_getElem? e), fun i d e => ?_⟩
  have e2 : (xs.map fun d => xvOf K (d.fn K))[i]? = (xs.map XD.val)[i]? := by rw [h3]
  rw [List.getElem?_map, List.getElem?_map, e] at e2
  exact Option.some.inj e2
def obsXG (n : Nat) (fa : List He.Fa) (fn : List He.DefD) (ex : List (Frag → Bool)) (xs : List XD) (g : Addr → Option Obj) : AlX := obsX fa fn ex xs (He.frG g (asX g n))
def hookX (n : Nat) (fa : List He.Fa) (fn : List He.DefD) (ex : List (Frag → Bool)) (xs : List XD) : PySem.W.Hook where
  α := AlX
  obs := fun s => obsXG n fa fn ex xs s.heap.get?
  val := fun _ => valX fn xs
  says := fun _ h => ∃ K : Frag, K.In h ∧ SaysX fa fn ex xs K
  of := fun _ _ e => ⟨_, He.frG_in, says_of e⟩
  keeps := fun _ _ _ ⟨K, hK, c⟩ k => ⟨K, Frag.In.keeps hK k, c⟩
theorem obsXG_eq {n : Nat} {fa : List He.Fa} {fn : List He.DefD} {ex : List (Frag → Bool)} {xs : List XD} {g : Addr → Option Obj} {s : Shared} (h : ∀ a, g a = s.heap.get? a) : obsXG n fa fn ex xs g = (hookX n fa fn ex xs).obs s := by
  have e : g = s.heap.get? := funext h
  rw [e] <;> rfl
/-- a def without defaults -/
theorem fun_of {K : Frag} {x qual : Str} {st : Stmt} {f : Addr} {fd : FuncData} (F : FunD K x qual (defArgs st) (defBody st) (defScope st) [] [] f fd) : Fun K x qual st f fd := by
  obtain ⟨oc, od, dV, kV, doc, pm, an, cdv, ct, osl, rfl, lk, hcd, hD, hK⟩ := F.ex
  rcases hD with ⟨_, rfl⟩ | ⟨z, _⟩
  · exact ⟨⟨oc, od, kV, doc, pm, an, cdv, ct, osl, rfl, lk, hcd⟩, F.kp⟩
  · exact absurd rfl z
theorem walk_ofEG {l : PySem.W.OpenLaw} {n k : Nat} {q : Program} {loose : List Str} {XP : (Str → Option Value) → Heap → Prop} {YP : World → Heap → Prop} {d : DefRec} {x : Str}
    (hn : l.most = some n) (hn2 : n ≤ sizeLine) (hdf : d.params.defaults = []) (hr : Room k callerA)
    (G : ∀ (w : World) (mg : Str → Option Value) (fa : Addr) (h : Heap), YP w h → h.Ns mainGlobals mg → mg d.name = some (.ref fa) →
      ∃ (K : Frag) (fd : FuncData) (sp : Sp), K.In h ∧ (∀ (s : Shared) (u : Value), BindsTo s fd ⟨[u], []⟩ [(x, u)]) ∧
        (∀ (H : Hp) (a : Addr) (ns : List Int), ns.length ≤ n → SqL K H a (ns.map V.int) → sp [.ref a] H (fun v _ => v = .bl true) fun _ _ _ => False) ∧
        ∀ base : Heap, K.In base → base.Ns mainGlobals mg → FnG l.prog w K mg base CX0 k fa fd [x] sp) :
    WalkO q loose XP YP l.row.toRowW d [] (fun f vs => PySem.call f vs) := by
  refine Att.attach_call hn hdf fun w s₀ t mg mb fa o pm cd doc a vs ns Gr Y ho hd hcd hmg hobj hints hlen hg => ?_
  obtain ⟨K, fd, sp, KX, hb, hsp, hF⟩ := G w mg fa _ Y Gr.T.g hmg
  exact law_callG KX Gr.T.g Gr.T.b Gr.T.builtins Gr.T.nolimit hg hobj hints (Nat.le_trans hlen hn2) hr hF hb fun H _ hS => hsp H a ns hlen hS
end Sh
set_option Elab.async false
set_option linter.all false
set_option maxRecDepth 100000
set_option maxHeartbeats 4000000
namespace Sh
open PySem PySem.Spec PySem.W PyProof.Rows L2
/-! ### raise X(..), X an own exception with super().__init__(..) -/
section
variable {X : Cx}
theorem pmk_x {e : Expr} {te : TE} (hx : X.ex = []) (he : PE X e te) :
    PMk X e (fun σ H Q => te σ H fun x H1 => ∃ (a C dx : Addr) (fs : List (Str × V)), x = .ref a ∧ H1 a = some (exo a C (some dx)) ∧ H1 dx = some (exd dx fs) ∧ Fr0 X.H_0 a ∧ Raises X (.ref C) ∧ Q (.ref C) (some dx) (delH H1 a)) := by
  intro pins s σ H Q I h
  refine thn (he.run pins s σ H _ I h) fun u s1 hu => ?_
  obtain ⟨v, H1, I1, r1, a, C, dx, fs, rfl, ha, hd, h0, hr, q⟩ := hu
  cases r1
  obtain ⟨t1, ho⟩ := exo_at I1.hok ha
  obtain ⟨G, gs, ga, J⟩ := I1.untrack ha h0 hx
  exact ⟨a, _, _, { s1 with heap := G }, delH H1 a, .ref C, some dx, rfl, J, gs, ga, ho, ⟨rfl, rfl⟩, rfl, rfl, delH_same, rfl, I1.bare, hr, q⟩
theorem pmk_x0 {e : Expr} {te : TE} (hx : X.ex = []) (he : PE X e te) :
    PMk X e (fun σ H Q => te σ H fun x H1 => ∃ (a C : Addr), x = .ref a ∧ H1 a = some (exo a C none) ∧ Fr0 X.H_0 a ∧ Raises X (.ref C) ∧ Q (.ref C) none (delH H1 a)) := by
  intro pins s σ H Q I h
  refine thn (he.run pins s σ H _ I h) fun u s1 hu => ?_
  obtain ⟨v, H1, I1, r1, a, C, rfl, ha, h0, hr, q⟩ := hu
  cases r1
  obtain ⟨t1, ho⟩ := exo_at I1.hok ha
  obtain ⟨G, gs, ga, J⟩ := I1.untrack ha h0 hx
  exact ⟨a, _, _, { s1 with heap := G }, delH H1 a, .ref C, none, rfl, J, gs, ga, ho, ⟨rfl, rfl⟩, rfl, rfl, delH_same, rfl, I1.bare, hr, q⟩
def tRaiseX (X : Cx) (W : WX) (te : TE) : TS := fun _ σ H => te σ H fun x H1 => ∃ (a C dx : Addr) (fs : List (Str × V)), x = .ref a ∧ H1 a = some (exo a C (some dx)) ∧ H1 dx = some (exd dx fs) ∧ Fr0 X.H_0 a ∧ Raises X (.ref C) ∧ W (.ref C) (some dx) σ (delH H1 a)
theorem ps_raiseX {W : WX} {e : Expr} {te : TE} {pos : Pos} (hc : X.calm = true) (hx : X.ex = []) (tk : Takes X W) (he : PE X e te) : PS X (.Raise (some e) none pos) (tRaiseX X W te) := ps_raise hc tk (pmk_x hx he)
def tRaiseX0 (X : Cx) (W : WX) (te : TE) : TS := fun _ σ H => te σ H fun x H1 => ∃ (a C : Addr), x = .ref a ∧ H1 a = some (exo a C none) ∧ Fr0 X.H_0 a ∧ Raises X (.ref C) ∧ W (.ref C) none σ (delH H1 a)
theorem ps_raiseX0 {W : WX} {e : Expr} {te : TE} {pos : Pos} (hc : X.calm = true) (hx : X.ex = []) (tk : Takes X W) (he : PE X e te) : PS X (.Raise (some e) none pos) (tRaiseX0 X W te) := ps_raise hc tk (pmk_x0 hx he)
/-- what a raise asks, when the exception is made of its arguments -/
theorem mk_raise {C : Addr} {n m : Nat} {fs : List Str} {t tk : TA} {σ : L2.St} {H : Hp} {W : WX} {D : Ends} {vs zs : List V} (h0 : ∀ a, H a = none → Fr0 X.H_0 a) (R : Raises X (.ref C))
    (h1 : ∀ R : List V → Hp → Prop, R vs H → t σ H R) (h2 : ∀ R : List V → Hp → Prop, R zs H → tk σ H R) (l1 : vs.length = n) (l2 : zs.length = m) (l3 : n + m = fs.length)
    (q : ∀ H' d, Same H H' → H d = none → H' d = some (exd d (fs.zip (rotV vs zs)).reverse) → W (.ref C) (some d) σ H') : tRaiseX X W (tOex C n m (spXI C fs) rotV t tk) D σ H := by
  refine h1 _ (h2 _ ⟨l1, l2, fun a ha => ⟨a, rotV vs zs, rfl, ?_, upd_same, fun H' d kp hd hne ea ed => ⟨rfl, a, C, d, _, rfl, ea, ed, h0 a ha, R, q _ d (fun b o e => ?_) ?_ ?_⟩⟩⟩)
  · unfold rotV
    rw [List.length_append, List.length_append, List.length_drop, List.length_take, l1, l2]
    omega
  · have ne := ne_of_none e ha
    rw [delH_ne ne]
    exact kp b o (by rw [upd_ne ne]; exact e) ne
  · rw [upd_ne hne] at hd
    exact hd
  · rw [delH_ne hne]
    exact ed
theorem XCls.raises {S C : Addr} (x : XCls X.K S C) : Raises X (.ref C) := raises_own (by show mroIn X.K C _ = some true; rw [x.sub]; simp [List.contains_cons]) x.ty
/-- e.f of the exception that a suite holds -/
def tXBy (K : Frag) (f : Str) (a : Addr) (cls : Value) (d : Option Addr) (te : TE) : TE := fun σ H Q => te σ H fun x H1 => x = .ref a ∧ ∃ (C dx : Addr) (fs : List (Str × V)) (v : V), cls = .ref C ∧ d = some dx ∧ ExR K C ∧ findIn K (.ref C) f = some none ∧ H1 dx = some (exd dx fs) ∧ fs.lookup f = some v ∧ Q v H1
theorem pe_xby {a : Addr} {oe : Obj} {cls : Value} {d : Option Addr} {pn : List (Addr × Obj)} {e : Expr} {te : TE} {f : Str} {pos : Pos} (hz : Zc cls d oe) (hf : ∃ vs, oe.data = .fields vs) (he : PE (X.suite a ((a, oe) :: pn)) e te)
    (hb : attributeBase e f X.env (eval e X.env) = eval e X.env := by rfl) : PE (X.suite a ((a, oe) :: pn)) (.Attribute e f pos) (tXBy X.K f a cls d te) := by
  refine ⟨fun pins s σ H Q I h => attr_of hb (thn (he.run pins s σ H _ I h) fun u s1 hh => ?_)⟩
  obtain ⟨x, H1, I1, rx, rfl, C, dx, fs, v, rfl, rfl, R, hno, ed, hl, q⟩ := hh
  obtain rfl : u = Value.ref a := rx
  have hp := (I1.pin (a, oe) (List.mem_append_left _ List.mem_cons_self)).1
  obtain ⟨vs, hd⟩ := hf
  obtain ⟨mA, hns, hr⟩ := exd_at I1.hok ed
  obtain ⟨od, hod, hlk⟩ := lookIn_ns hns
  obtain ⟨u, hu, ru⟩ := RelO.some_of (v := v) (o := mA f) (by rw [← hl]; exact hr f)
  have J : InstAt s1.heap a oe C (some od) := ⟨hp, hz.1, (by unfold notCls; rw [hd] <;> rfl), (by rw [hz.2]; exact hod)⟩
  exact HandSPX.exc_get I1.kIn J R.ga R.gg R.ox.exC (findObj_own R.hd hno rfl (by rw [hlk, hu])) (handed_of ru) ⟨v, H1, I1.tok _, ru, q⟩
/-- isinstance(e, C) of the exception that a suite holds -/
def rIsXBy (K : Frag) (a : Addr) (cls : Value) (d : Option Addr) : List V → Hp → VK → Prop := fun xs H Q => ∃ (C dx : Addr) (fs : List (Str × V)) (c : V) (u : Value) (b : Bool), xs = [.ref a, c] ∧ ClsV c u ∧ cls = .ref C ∧ d = some dx ∧ ExR K C ∧ H dx = some (exd dx fs) ∧ kitOne K (.ref C) u = some b ∧ Q (.bl b) H
theorem call_isXBy {a : Addr} {oe : Obj} {cls : Value} {d : Option Addr} {pn : List (Addr × Obj)} (hz : Zc cls d oe) (hf : ∃ vs, oe.data = .fields vs) (hn : specialIn X.K (.builtin "object.__class__") "__get__" = some (some (.builtin "getset_descriptor.__get__"))) (htk : takesIn X.K (.builtin "object.__class__") = some true) :
    CallR (X.suite a ((a, oe) :: pn)) (.builtin "isinstance") (rIsXBy X.K a cls d) := by
  intro pins s σ H xs us Q I r h
  obtain ⟨C, dx, fs, c, u, b, rfl, k, rfl, rfl, R, ed, e, q⟩ := h
  obtain ⟨u1, u2, rfl, r1, r2⟩ := vals2 r
  obtain rfl := k.eq r2
  obtain rfl : u1 = Value.ref a := r1
  have hp := (I.pin (a, oe) (List.mem_append_left _ List.mem_cons_self)).1
  obtain ⟨vs, hd⟩ := hf
  obtain ⟨mA, hns, hr⟩ := exd_at I.hok ed
  obtain ⟨od, hod, hlk⟩ := lookIn_ns hns
  have J : InstAt s.heap a oe C (some od) := ⟨hp, hz.1, (by unfold notCls; rw [hd] <;> rfl), (by rw [hz.2]; exact hod)⟩
  exact kia_one (kitx_exc R.isCls R.ga R.gg R.ox.exC R.cl hn htk R.ob) I.kIn J e (fun z => nomatch z) fun tk => ⟨.bl b, H, I.tok tk, rfl, q⟩
end
/-! ### which clause takes it -/
theorem XCls.subBE {K : Frag} {S C : Addr} (x : XCls K S C) : subIn K (.ref C) (.type "BaseException") = some true := by
  show mroIn K C _ = some true
  rw [x.sub]
  simp [List.contains_cons]
theorem exmOne_of {K : Frag} {cls c : Value} {b : Bool} (h : subIn K c (.type "BaseException") = some true) (k : kitCls K cls c = some b) : exmOne K cls c = some b := by
  unfold exmOne
  rw [h]
  simpa using k
theorem XCls.kit {K : Frag} {S C D : Addr} (x : XCls K S C) (y : XCls K S D) (h : D ≠ S) : kitCls K (.ref C) (.ref D) = some (decide (C = D)) := by
  unfold kitCls
  simp only [y.isC, y.ty, beq_self_eq_true, Bool.and_self, if_true]
  show mroIn K C (.ref D) = _
  rw [x.sub]
  by_cases e : C = D
  · subst e
    simp
  · have e1 : (Value.ref D == Value.ref C) = false := by simp [Ne.symm e]
    have e2 : (Value.ref D == Value.ref S) = false := by simp [h]
    have e3 : ∀ T : String, (Value.ref D == Value.type T) = false := fun T => by simp
    simp [List.contains_cons, e1, e2, e3, e]
    exact ⟨Ne.symm e, h⟩
theorem XCls.exm {K : Frag} {S C D : Addr} (x : XCls K S C) (y : XCls K S D) (h : D ≠ S) : exmOne K (.ref C) (.ref D) = some (decide (C = D)) := exmOne_of y.subBE (x.kit y h)
end Sh
set_option Elab.async false
set_option linter.all false
set_option maxRecDepth 100000
set_option maxHeartbeats 4000000
namespace ShL
open PySem PySem.W PySem.Calls PyProof.Rows
/-! ### sorted(xs, key=f), f's keys lists that are new -/
/-- h's objects stand in g; those of F may have other slots -/
def KB (F : List Addr) (h g : Heap) : Prop := ∀ b o, h.get? b = some o → (∃ sl, g.get? b = some { o with slots := sl }) ∧ (b ∉ F → g.get? b = some o)
/-- .. all but the one at l -/
def KBx (l : Addr) (F : List Addr) (h g : Heap) : Prop := ∀ b o, b ≠ l → h.get? b = some o → (∃ sl, g.get? b = some { o with slots := sl }) ∧ (b ∉ F → g.get? b = some o)
theorem KB.of {F : List Addr} {h g : Heap} (k : ∀ b o, h.get? b = some o → g.get? b = some o) : KB F h g := fun b o q => ⟨⟨o.slots, k b o q⟩, fun _ => k b o q⟩
theorem KB.trans {F : List Addr} {h g k : Heap} (x : KB F h g) (y : KB F g k) : KB F h k := fun b o q => by
  obtain ⟨⟨sl, q1⟩, q2⟩ := x b o q
  obtain ⟨⟨sl', r1⟩, r2⟩ := y b _ q1
  exact ⟨⟨sl', r1⟩, fun n => (y b o (q2 n)).2 n⟩
theorem KBx.trans {l : Addr} {F : List Addr} {h g k : Heap} (x : KBx l F h g) (y : KB F g k) : KBx l F h k := fun b o hb q => by
  obtain ⟨⟨sl, q1⟩, q2⟩ := x b o hb q
  obtain ⟨⟨sl', r1⟩, r2⟩ := y b _ q1
  exact ⟨⟨sl', r1⟩, fun n => (y b o (q2 n)).2 n⟩
theorem KBx.same {l c : Addr} {F : List Addr} {h g k : Heap} (x : KBx l F h g) (hc : h.get? c = none) (y : ∀ b, b ≠ c → k.get? b = g.get? b) : KBx l F h k := fun b o hb q => by
  have ne : b ≠ c := fun z => by rw [z, hc] at q; cases q
  obtain ⟨⟨sl, q1⟩, q2⟩ := x b o hb q
  exact ⟨⟨sl, (y b ne).trans q1⟩, fun n => (y b ne).trans (q2 n)⟩
section
variable {prog : Program} {w : World} {A : Around} {E : Value → Shared → Prop} {s : Shared} {l st : Addr} {its : List Value} {e1 : Nat} {Z : PySem.Fin → Shared → Prop} {ks : List PyData} {J : Shared → Prop} {F : List Addr}
/-- a call of f on x keeps what was there; its key is a new object -/
def KeyNew (J : Shared → Prop) (F : List Addr) (d : PyData) (s₁ : Shared) (v : Value) (s₂ : Shared) : Prop := J s₂ ∧ KB F s₁.heap s₂.heap ∧ ∃ a o, v = .ref a ∧ s₁.heap.get? a = none ∧ a ∉ F ∧ s₂.heap.get? a = some o ∧ ∀ g : Heap, g.get? a = some o → ∃ as, Reads g (.ref a) d as
theorem kn_rest {f : Value} {h0 : Heap} (hJ : ∀ s g tk, J s → J { s with heap := g, toks := tk }) (j0 : J s) (kb : KBx l F h0 s.heap) (hst : h0.get? st = none) (ns : s.heap.get? st = some (seqObj "list" #[] 0)) (nl : s.heap.get? l = some (seqObj "list" #[] e1)) (hne : st ≠ l) (hsF : st ∉ F) (hlF : l ∉ F)
    (hlen : ks.length = its.length) (hZ : its.length ≤ sizeLine) (hal : AllAlike ks) (hsk : Sortable ks) (hu : ∀ d ∈ ks, A.units + d.depth < cLine)
    (one : ∀ (i : Nat) (v : Value) (d : PyData), its[i]? = some v → ks[i]? = some d → ∀ (s₁ : Shared), J s₁ → KBx l F h0 s₁.heap → wpAny (model prog w) A (call f [v]) (KeyNew J F d s₁) (fun _ _ => False) s₁)
    (fin : ∀ s₁ out c, J s₁ → KBx l F h0 s₁.heap → s₁.heap.get? l = some (seqObj "list" (List.toArray out) c) → KeyedOut false ks its out → Z (.done (.ret .none)) s₁) :
    wpAny (model prog w) A (ksk_rest l f false its.toArray e1 (.ref st)) Z E s := by
  unfold ksk_rest; refine wpAny_bind (wpAny_rule ?_)
  first
    | rw [List.forIn_toArray]
    | (rw [← Array.forIn_toList]; simp only [List.toList_toArray])
    | rw [← Array.forIn_toList]
  let R : Heap → Value → PyData → Prop := fun g v d => ∃ a o, v = .ref a ∧ a ≠ st ∧ a ∉ F ∧ g.get? a = some o ∧ ∀ g' : Heap, g'.get? a = some o → ∃ as, Reads g' (.ref a) d as
  refine wpAny_bind (ksk_fold (fun i s₁ => ∃ kA e, J s₁ ∧ KBx l F h0 s₁.heap ∧ s₁.heap.get? st = some (seqObj "list" kA e) ∧ s₁.heap.get? l = some (seqObj "list" #[] e1) ∧ EachIs (R s₁.heap) kA.toList (ks.take i)) its 0 s
    ⟨#[], 0, j0, kb, ns, nl, by rw [List.take_zero]; exact EachIs.nil⟩ ?step ?done)
  case step =>
    rintro j x s₁ hx ⟨kA, e, j1, kg, ns', nl', hk⟩
    simp only [Nat.zero_add] at hk ⊢
    have hj : j < its.length := (List.getElem?_eq_some_iff.mp hx).1
    obtain ⟨d, hd⟩ : ∃ d, ks[j]? = some d := ⟨_, List.getElem?_eq_getElem (by omega)⟩
    have hz : kA.size ≤ its.length := by
      have q := hk.length
      rw [Array.length_toList, List.length_take] at q; omega
    refine wpAny_bind (wpAny_attempt (wpAny_mono (one j x d hx hd s₁ j1 kg) (fun v s₂ he => ?_) fun _ _ z => z.elim))
    obtain ⟨j2, up, a, o, rfl, hn, haF, hao, hr⟩ := he; try dsimp only
    have has : a ≠ st := fun z => by rw [z, ns'] at hn; cases hn
    have ns2 : s₂.heap.get? st = some (seqObj "list" kA e) := (up _ _ ns').2 hsF
    have nl2 : s₂.heap.get? l = some (seqObj "list" #[] e1) := (up _ _ nl').2 hlF
    have sb := Heap.SameBut.update s₂.heap st (Obj.mapSeq (·.push (.ref a)))
    obtain ⟨c2, hc2⟩ : ∃ c2, (s₂.heap.update st (Obj.mapSeq (·.push (.ref a)))).get? st = some (seqObj "list" (kA.push (.ref a)) c2) := ⟨_, get?_update_seq ns2 (·.push (.ref a))⟩
    refine wpAny_bind (listUpdate_at ns2 rfl ?_ (Nat.le_trans hz hZ) (by rw [Array.size_push]; omega))
    refine wpAny_pure ⟨rfl, kA.push (.ref a), c2, hJ s₂ _ s₂.toks j2, (kg.trans up).same hst sb.2, hc2, (sb.2 l hne.symm).trans nl2, ?_⟩
    rw [show (kA.push (Value.ref a)).toList = kA.toList ++ [.ref a] by simp, show ks.take (j + 1) = ks.take j ++ [d] by rw [List.take_add_one, hd]; rfl]
    refine each_snoc (R := R (s₂.heap.update st (Obj.mapSeq (·.push (.ref a))))) ⟨a, o, rfl, has, haF, (sb.2 a has).trans hao, hr⟩ (hk.mono ?_)
    rintro u d' ⟨b, ob, rfl, hb1, hb2, hb3, hb4⟩
    exact ⟨b, ob, rfl, hb1, hb2, (sb.2 b hb1).trans ((up _ _ hb3).2 hb2), hb4⟩
  case done =>
    rintro s₁ ⟨kA, e, j1, kg, ns', nl', hk⟩
    have hk' : EachIs (fun v d => ∃ as, Reads s₁.heap v d as) kA.toList ks := by
      rw [show ks.take (0 + its.length) = ks from List.take_of_length_le (by omega)] at hk
      refine hk.mono ?_
      rintro u d ⟨b, ob, rfl, _, _, hb3, hb4⟩
      exact hb4 _ hb3
    have hsz : kA.size = its.length := by
      have q := hk'.length
      rw [Array.length_toList] at q; omega
    try dsimp only
    refine wpAny_bind (listItems_at ns' rfl ?_)
    obtain ⟨G, g1, g2⟩ := L2.restrict s₁.heap fun b => decide (b ≠ st)
    have kG : KeepsBut l G s₁.heap := fun b o _ q => by
      by_cases z : b = st
      · rw [g2 b (decide_eq_false (by simpa using z))] at q; cases q
      · rw [g1 b (decide_eq_true z)] at q; exact q
    refine keyH_end (κ := dataKind s₁.heap ks) (h₁ := G) kG (g2 st (by simp)) ns' nl' hne (SortsAt.data (s := s₁) hk' hal hsk hu) hsz hZ fun g3 tk3 c k3 n3 => fin _ _ c (hJ s₁ g3 tk3 j1) ?_ n3 ⟨s₁.heap, kA.toList, hal, rfl, hk'⟩
    intro b o hb q
    have ne : b ≠ st := fun z => by rw [z, hst] at q; cases q
    obtain ⟨⟨sl, q1⟩, q2⟩ := kg b o hb q
    exact ⟨⟨sl, k3 b _ hb ((g1 b (decide_eq_true ne)).trans q1)⟩, fun n => k3 b _ hb ((g1 b (decide_eq_true ne)).trans (q2 n))⟩
theorem kn_tree {f : Value} {n : Nat} (hJ : ∀ s g tk, J s → J { s with heap := g, toks := tk }) (j0 : J s) (hF : ∀ b ∈ F, b < s.heap.objs.size ∧ b ≠ l) (ho : s.heap.get? l = some (seqObj "list" its.toArray n)) (hlen : ks.length = its.length) (hZ : its.length ≤ sizeLine) (hal : AllAlike ks) (hsk : Sortable ks) (hu : ∀ d ∈ ks, A.units + d.depth < cLine)
    (one : ∀ (i : Nat) (v : Value) (d : PyData), its[i]? = some v → ks[i]? = some d → ∀ (s₁ : Shared), J s₁ → KBx l F s.heap s₁.heap → wpAny (model prog w) A (call f [v]) (KeyNew J F d s₁) (fun _ _ => False) s₁)
    (fin : ∀ s₁ out c, J s₁ → KBx l F s.heap s₁.heap → s₁.heap.get? l = some (seqObj "list" (List.toArray out) c) → KeyedOut false ks its out → Z (.done (.ret .none)) s₁) :
    wpAny (model prog w) A (ksk_tree l f false) Z E s := by
  have hl : l < s.heap.objs.size := Heap.lt_size ho
  obtain ⟨e1, q1⟩ : ∃ e1, (s.heap.update l (Obj.mapSeq fun _ => (#[] : Array Value))).get? l = some (seqObj "list" #[] e1) := ⟨_, get?_update_seq ho fun _ => #[]⟩
  have zS : ((s.heap.update l (Obj.mapSeq fun _ => (#[] : Array Value))).push (seqObj "tuple" its.toArray 0)).objs.size = s.heap.objs.size + 1 := by rw [size_push', Heap.size_update]
  unfold ksk_tree; refine wpAny_bind (listItems_at ho rfl ?_)
  refine wpAny_bind (listUpdate_at ho rfl ?_ (by rw [List.size_toArray]; exact hZ) (Nat.zero_le _)); refine wpAny_bind (seqEpoch_at q1 rfl ?_)
  refine wpAny_bind (wpAny_newTuple ?_ (by show its.length ≤ _; exact hZ)); refine wpAny_bind (wpAny_newList ?_ (Nat.zero_le _))
  refine wpAny_holding ?_
  refine kn_rest (ks := ks) (F := F) (h0 := s.heap) (s := { s with heap := ((s.heap.update l (Obj.mapSeq fun _ => (#[] : Array Value))).push (seqObj "tuple" its.toArray 0)).push (seqObj "list" #[] 0) }) (st := ((s.heap.update l (Obj.mapSeq fun _ => (#[] : Array Value))).push (seqObj "tuple" its.toArray 0)).objs.size)
    hJ (hJ s _ s.toks j0) (fun b o hb q => ⟨⟨o.slots, sortingHeap_old hb q⟩, fun _ => sortingHeap_old hb q⟩) (Heap.get?_none_of_le (by rw [zS]; exact Nat.le_succ _)) (Heap.get?_push_size _ rfl) (Heap.get?_push_of_some _ (Heap.get?_push_of_some _ q1)) (by rw [zS]; exact Nat.ne_of_gt (Nat.lt_succ_of_lt hl)) ?_ (fun z => (hF l z).2 rfl) hlen hZ hal hsk hu one fin
  rw [zS]
  exact fun z => Nat.lt_irrefl _ (Nat.lt_trans (Nat.lt_succ_self _) (hF _ z).1)
end
section
variable {prog : Program} {w : World} {A : Around} {E : Value → Shared → Prop} {s : Shared} {β : Type} {its : List Value} {bs : List β} {R : Value → β → Prop} {J : Shared → Prop} {F : List Addr}
theorem kn_turns {l : Addr} {f : Value} {k : β → PyData} {h0 : Heap} (e : EachIs R its bs)
    (one : ∀ (v : Value) (x : β), R v x → x ∈ bs → ∀ (s₁ : Shared), J s₁ → KBx l F h0 s₁.heap → wpAny (model prog w) A (call f [v]) (KeyNew J F (k x) s₁) (fun _ _ => False) s₁) :
    ∀ (i : Nat) (v : Value) (d : PyData), its[i]? = some v → (bs.map k)[i]? = some d → ∀ (s₁ : Shared), J s₁ → KBx l F h0 s₁.heap → wpAny (model prog w) A (call f [v]) (KeyNew J F d s₁) (fun _ _ => False) s₁ := by
  intro i v d hv hd s₁ j1 kb
  rw [List.getElem?_map] at hd
  obtain ⟨x, q, rfl⟩ := Option.map_eq_some_iff.mp hd
  have m : (v, x) ∈ its.zip bs := List.mem_of_getElem? (i := i) (by rw [List.getElem?_zip_eq_some]; exact ⟨hv, q⟩)
  exact one v x (e.zip _ m) (List.mem_of_getElem? q) s₁ j1 kb
/-- sorted(xs, key=f) -/
theorem sorted_key_new {a q : Addr} {Q : Value → Shared → Prop} (k : β → PyData) (hJ : ∀ s g tk, J s → J { s with heap := g, toks := tk }) (j0 : J s) (hF : ∀ b ∈ F, b < s.heap.objs.size) (hl : s.heap.IsList a its.toArray) (e : EachIs R its bs) (hal : AllAlike (bs.map k)) (hk : Sortable (bs.map k)) (hL : bs.length ≤ sizeLine) (hu : ∀ x ∈ bs, A.units + 2 + (k x).depth < cLine)
    (one : ∀ (v : Value) (x : β), R v x → x ∈ bs → ∀ (s₁ : Shared), J s₁ → KB F s.heap s₁.heap → wpAny (model prog w) A.in1.in1 (call (.ref q) [v]) (KeyNew J F (k x) s₁) (fun _ _ => False) s₁)
    (fin : ∀ s₁ out c, J s₁ → KB F s.heap s₁.heap → s₁.heap.get? (s.heap.objs.size + 1) = some (seqObj "list" (List.toArray out) c) → out.length = bs.length → EachIs R out (bs.mergeSort (dataLe false k)) → Q (.ref (s.heap.objs.size + 1)) s₁) :
    wpAny (model prog w) A (call (.builtin "sorted") [.ref a] [(Str.ofString "key", .ref q)]) Q E s := by
  have lb : (bs.map k).length = its.length := by rw [List.length_map]; exact e.length.symm
  have up : ∀ {g : Heap}, KBx (s.heap.objs.size + 1) F (copyHeap s.heap its) g → KB F s.heap g := fun {g} kb b o z => kb b o (Nat.ne_of_lt (Nat.lt_succ_of_lt (Heap.lt_size z))) (copyHeap_old z)
  have zc : s.heap.objs.size ≤ (copyHeap s.heap its).objs.size := Nat.le_of_lt (Nat.lt_of_succ_lt (Heap.lt_size (copyHeap_at s.heap its)))
  refine sorted_of_sort hl (by rw [e.length]; exact hL) (ksk_s1 _ _) (fun _ => ksk_l1 _ _) fun E' => ?_
  rw [ksk_t1]
  refine kn_tree (ks := bs.map k) (F := F) (s := { s with heap := copyHeap s.heap its }) hJ (hJ s _ s.toks j0) (fun b z => ⟨Nat.lt_of_lt_of_le (hF b z) zc, Nat.ne_of_lt (Nat.lt_succ_of_lt (hF b z))⟩) (copyHeap_at s.heap its) lb (by rw [e.length]; exact hL) hal hk (bound_map (A := A.in1.in1) hu) (kn_turns e fun v x hR hx s₁ j1 kb => one v x hR hx s₁ j1 (up kb)) fun s₁ out c j1 kb hD ko => ⟨rfl, ?_⟩
  exact fin s₁ out c j1 (up kb) hD ((ko.length lb).trans e.length) (keyedOut_each k ko e)
end
/-! ### the lambda handed to sorted -/
open PySem.Spec L2 LamX NdefX
abbrev lamF (X : Cx) (params : Arguments) (scope : Scope) (c' : Addr) : NF := ⟨"<lambda>", X.env.qual ++ "<lambda>", params, [], scope, cloFrom X.env.cells scope.names [], c'⟩
abbrev keyD (key : Str → List Int) (z : Str) : PyData := .list ((key z).map .int)
/-- sorted(xs, key=lambda y: body): xs texts, the keys lists of ints -/
def tSL (K : PySem.W.Frag) (T : List (Addr × Str)) (N : List Str) (js : List Nat) (ta : TA) (tb : TE) : TE := fun σ H Q => ta σ H fun vs H1 => ∃ (a : Addr) (xs : List Str) (key : Str → List Int), vs = [.ref a] ∧ SqL K H1 a (xs.map V.str) ∧ Tabs T H1 ∧
  (∀ z ∈ xs, tb (startF N [.str z] (js.map (slotAt σ))) (fun _ => none) fun v H' => ∃ l, v = .ref l ∧ H' l = some (.lst ((key z).map V.int))) ∧
  ∀ H2 p, ExtN H1 H2 → Tabs T H2 → H2 p = none → Q (.ref p) (upd H2 p (.lst ((xs.mergeSort (dataLe false (keyD key))).map V.str)))
theorem sqL_extN {K : PySem.W.Frag} {H H' : Hp} {a : Addr} {xs : List V} (h : SqL K H a xs) (e : ExtN H H') : SqL K H' a xs := by
  rcases h with (h | ⟨o, h⟩) | h
  · exact .inl (.inl (e _ _ h fun ps z => by cases z))
  · exact .inl (.inr ⟨o, e _ _ h fun ps z => by cases z⟩)
  · exact .inr h
theorem vals_strs : ∀ {xs : List Str} {its : List Value}, Vals (xs.map V.str) its → EachIs (fun v z => ∃ t, v = Value.str z t) its xs
  | [], _, .nil => .nil
  | x :: xs, _, .cons r t => .cons r (vals_strs t)
theorem strs_vals : ∀ {xs : List Str} {its : List Value}, EachIs (fun v z => ∃ t, v = Value.str z t) its xs → Vals (xs.map V.str) its
  | [], _, .nil => .nil
  | x :: xs, _, .cons r t => .cons r (strs_vals t)
theorem reads_ints {h : Heap} : ∀ {ns : List Int} {its : List Value}, Vals (ns.map V.int) its → ReadsAll h its (ns.map PyData.int) []
  | [], _, .nil => .nil
  | n :: ns, _, .cons ⟨t, rfl⟩ r => by
    have q := ReadsAll.cons (Reads.int (h := h) n t) (reads_ints r)
    exact q
section
variable {X : Cx}
theorem pe_sortLam {T : List (Addr × Str)} {c P : Addr} {k : Nat} {x y : Str} {e : Expr} {ta : TA} {tb : TE} {params : Arguments} {body : Expr} {scope : Scope} {lpos kpos p pos : Pos} {N fr : List Str} {js : List Nat}
    (hg : Gl X x) (hm : X.mg x = none) (hv : bootBuiltins x = some (.builtin "sorted")) (hA : PA X [e] ta) (TB : TabB X.base X.mg c P) (hcode : X.env.code = .ref c) (hmT : (P, X.env.qual ++ "<lambda>") ∈ T) (huT : ∀ p ∈ T, p.1 = P → p.2 = X.env.qual ++ "<lambda>")
    (hr : Room (k + 3) X.A) (hdef : defaultsOf params X.env = ([], [])) (S : NScope N [y] fr scope) (hfree : ndefB X.env.scope scope fr = true) (hjs : js.map (fun j => X.N[j]?) = fr.map some)
    (hbind : ∀ (q : Str) (cl : List (Str × Addr)) (pm cv ctv u : Value), bindArgs (PySem.W.kla_fn "<lambda>" q params body scope cl pm cv ctv) ⟨[u], []⟩ = pure [(y, u)])
    (hbody : ∀ (A : Around) (outer : List Env) (s : Shared) (H : Hp) (E : XK) (f c' : Addr), Room k (A.deeper (envF (lamF X params scope c') f s.heap.objs.size)) → PE (ncx C8.CX0 X.prog X.w X.K X.mg X.base N (lamF X params scope c') f A outer s H E) body tb)
    (hn : x ≠ "__name__" := by decide) (hdb : (x == ("__debug__" : Str)) = false := by decide)
    (hpl : (backTo pos (starEach [e] X.env)).any (·.1) = false := by rfl) (hsa : backTo pos (starEach [e] X.env) = (false, eval e X.env) :: backTo pos (starEach [] X.env) := by rfl) :
    PE X (.Call (.Name x p) [e] [⟨some "key", .Lambda params body scope lpos, kpos⟩] pos) (tSL X.K T N js ta tb) := by
  refine ⟨fun pins s σ H Q I h => ?_⟩
  refine wpAny_Call_Name_kw (ld_blt I hg hm hv ?_ hn hdb)
  refine PyProof.Rows.callWith_kw (thn (hA.run pos pins s σ H _ I h) fun us s1 ⟨vs, H1, I1, r1, q1⟩ => ?_) hsa hpl rfl rfl
  obtain ⟨a, xs, key, rfl, hs, hT, hk, q⟩ := q1
  obtain rfl := Vals.ref1 r1
  show wpAny _ _ (evalAll ((do let v ← eval (.Lambda params body scope lpos) X.env; standAt pos; pure v) :: [])) _ _ s1
  refine wpAny_evalAll_cons (wpAny_bind (lam_make2 I1 TB hcode hmT huT hT hdef (fun y hy e => (ndef_free hfree y hy e).elim (fun z => I1.ok.has _ (.inl z)) fun z => I1.ok.has _ (.inr z)) fun f c' pm ctv H2 s2 I2 eN T2 hf hfn hfr hco => wpAny_bind (wpAny_standAt (wpAny_pure ?_))))
  refine wpAny_evalAll_nil ?_
  show wpAny _ _ (call (.builtin "sorted") [.ref a] [(Str.ofString "key", .ref f)]) _ _ s2
  have hs2 := sqL_extN hs eN
  obtain ⟨its, rv, hl, hz⟩ := I2.list hs2
  have ev := vals_strs rv
  have zl : xs.length ≤ sizeLine := by rw [List.length_map] at hz; exact hz
  have cp : Caps X (cloFrom X.env.cells scope.names []) fr js := Caps.made I2.ok (ndef_free hfree) (ndef_fr hfree) hjs
  have hr2 : Room (k + 1) X.A.in1.in1 := (Room.in1 (k := k + 2) hr).in1
  have un := hr.un
  have fl : ∀ b ∈ frs X.stack, ∃ o, s2.heap.get? b = some o ∧ ∀ vs, o.data ≠ .fields vs := fun b z => (I2.env0.funs.mem z).2
  refine sorted_key_new (R := fun v z => ∃ t, v = Value.str z t) (F := frs X.stack) (keyD key) (J := fun s' => s'.os = s2.os ∧ AllBare s'.gens) (fun s g tk j => j) ⟨rfl, I2.bare⟩ (fun b z => let ⟨o, q, _⟩ := fl b z; Heap.lt_size q) hl.isList ev (AllAlike.of fun z z' => by unfold keyD; rw [alike]; exact alike_ints _ _) (Sortable.others fun z => ⟨(fun q => (by cases q)), (fun xs q => (by cases q))⟩) zl (fun z _ => ?_) (fun v z hv hz s₁ j1 up => ?_) fun s₁ out ce j1 up hat hlen ho => ?_
  · have e : (keyD key z).depth = 1 := by unfold keyD; rw [PyData.depth, depth_ints]
    rw [e]
    omega
  · obtain ⟨t, rfl⟩ := hv
    have kg : ∀ b o, H2 b = some o → ∀ u, s2.heap.get? b = some u → s₁.heap.get? b = some u := fun b o q u r => (up b u r).2 fun z => by rw [I2.stkFree b z] at q; cases q
    have u3 : Un (frs X.stack) [] H2 H2 s2.heap s₁.heap := ⟨fun b ob q _ n _ => (up b ob q).2 n, fun b ob q _ _ _ => (up b ob q).1, fun _ _ _ n _ => n, fun b ob q _ => let ⟨sl, r⟩ := (up b ob q).1; ⟨_, r⟩, fun _ _ q => q, fun _ _ _ q => q, fun _ ps q => ⟨#[], by rw [q]; simp⟩⟩
    have k3 : HOk X.prog X.w H2 s₁.heap := fun b o q => (I2.hok b o q).stay (fun d u hd r => hd.elim (fun z => kg d o (by rw [z]; exact q) u r) fun z => kg d _ z u r) (fun _ q => q) fun _ _ q => q
    have I3 : L2.Inv X pins σ H2 s₁ := I2.call' j1.1 u3 k3 j1.2 (fun b z => absurd z (by simp))
    have e3 := I3.env0
    have e4 : Env0 X.prog X.w X.K X.mg X.base X.A.in1.in1 X.stack s₁ (fun _ => none) := ⟨e3.in1.in1.frames, e3.mod, fun b o q => ⟨(e3.bs b o q).1, rfl⟩, e3.bsz, e3.funs, fun _ _ => rfl, (fun b o q => (by cases q)), e3.bare⟩
    have of1 : s₁.heap.get? f = some (PySem.W.kla_obj "<lambda>" (X.env.qual ++ "<lambda>") params body scope (cloFrom X.env.cells scope.names []) pm c' ctv) := (up _ _ hf).2 hfr
    obtain ⟨⟨oc, us', tc, hoc, hdc, hvc⟩, _, _⟩ := I3.hok c' _ hco
    have C3 := cells_of I3 cp
    have rc : codeAny (model X.prog X.w) X.A.in1.in1 (.call (.ref f) ⟨[.str z t], []⟩) (CR C8.CX0 X.stack X.prog X.w (fun _ => none) s₁ (fun v H' => ∃ l, v = .ref l ∧ H' l = some (.lst ((key z).map V.int))) C8.E0) s₁ := by
      refine PySem.W.kla_callFunE hr2.depth of1 rfl S.co S.gen rfl ⟨c', oc, us', tc, rfl, hoc, hdc, hvc⟩ ?_
      rw [hbind]
      refine wpAny_pure (wpAny_newFunctionEnv S.nocell (fun yy hy => by
        rw [List.mem_singleton] at hy
        rw [hy]
        exact S.par y List.mem_cons_self) (fun h₁ hns hsb => ⟨I3.nolimit.fresh _ hsb, ?_⟩) S.kind)
      show codeAny _ _ (.expr body (envF (lamF X params scope c') f s₁.heap.objs.size)) _ _
      have kp : ∀ b o, s₁.heap.get? b = some o → h₁.get? b = some o := fun b o e => hsb.extBut b o (Nat.ne_of_lt (Heap.lt_size e)) (Heap.get?_push_of_some _ e)
      have J := inv_startN (CX := C8.CX0) (E := C8.E0) (F := lamF X params scope c') (f := f) (tk := s₁.toks + 1) S hr2.hd e4 (vs := [.str z]) (us := [.str z t]) rfl (.cons ⟨t, rfl⟩ .nil) ⟨C3.len, fun y c q => ⟨rfl, (C3.all y c q).2⟩, C3.inj, C3.has⟩ hns kp
      refine PySem.W.kla_codeExpr (wpAny_mono ((hbody _ X.stack s₁ _ C8.E0 f c' (hr2.deeper _)).run [] _ _ _ _ J (hk z hz)) (fun v s' hq => ?_) fun e s' hq => hq)
      obtain ⟨w', H', J', rv, q⟩ := hq
      exact ⟨w', H', J'.os, J'.bare, J'.base, J'.hok, rv, q⟩
    refine wpAny_call (codeAny_mono rc fun r s' hq => ?_)
    cases r with
    | error e => exact (show False from hq).elim
    | ok fl =>
      cases fl with
      | next => exact False.elim hq
      | brk => exact False.elim hq
      | cont => exact False.elim hq
      | ret u =>
        obtain ⟨v, H', os, bare, un', hok, rv', l, rfl, hl'⟩ := hq
        obtain rfl : u = Value.ref l := rv'
        obtain ⟨zl', its', n', rvl, hob⟩ := hok l _ hl'
        have hn : s₁.heap.get? l = none := by
          cases q : s₁.heap.get? l with
          | none => rfl
          | some o =>
            have := un'.free l o q rfl (by simp)
            rw [hl'] at this
            cases this
        refine ⟨⟨os.trans j1.1, bare⟩, fun b o q => ⟨un'.any q rfl (by simp), fun n => un'.keep b o q rfl n (by simp)⟩, l, _, rfl, hn, fun z => ?_, hob, fun g hg => ?_⟩
        · obtain ⟨o, q, _⟩ := (e3.funs.mem z).2
          rw [hn] at q
          cases q
        · exact ⟨_, Reads.list hg rfl rfl (by simpa using reads_ints rvl)⟩
  · have nP : H2 (s2.heap.objs.size + 1) = none := I2.hok.fresh (Nat.le_succ _)
    have kg : ∀ b o, H2 b = some o → ∀ u, s2.heap.get? b = some u → s₁.heap.get? b = some u := fun b o q u r => (up b u r).2 fun z => by rw [I2.stkFree b z] at q; cases q
    have at_ : ∀ b o, H2 b = some o → upd H2 (s2.heap.objs.size + 1) (.lst ((xs.mergeSort (dataLe false (keyD key))).map V.str)) b = some o := fun b o q => by rw [upd_ne (ne_of_none q nP)]; exact q
    have u3 : Un (frs X.stack) [] H2 (upd H2 (s2.heap.objs.size + 1) (.lst ((xs.mergeSort (dataLe false (keyD key))).map V.str))) s2.heap s₁.heap :=
      ⟨fun b ob q _ n _ => (up b ob q).2 n, fun b ob q _ _ _ => (up b ob q).1, fun b ob q n _ => by rw [upd_ne (Nat.ne_of_lt (Nat.lt_succ_of_lt (Heap.lt_size q)))]; exact n, fun b ob q _ => let ⟨sl, r⟩ := (up b ob q).1; ⟨_, r⟩, fun _ _ q => at_ _ _ q, fun _ _ _ q => at_ _ _ q, fun b ps q => ⟨#[], by rw [at_ _ _ q]; simp⟩⟩
    have k3 : HOk X.prog X.w (upd H2 (s2.heap.objs.size + 1) (.lst ((xs.mergeSort (dataLe false (keyD key))).map V.str))) s₁.heap := fun b o q => by
      by_cases hb : b = s2.heap.objs.size + 1
      · rw [hb, upd_same] at q
        cases q
        rw [hb]
        exact ⟨by rw [List.length_map, ← ho.length, hlen]; exact zl, out, ce, strs_vals ho, hat⟩
      · rw [upd_ne hb] at q
        exact (I2.hok b o q).stay (fun d u hd r => hd.elim (fun z => kg d o (by rw [z]; exact q) u r) fun z => kg d _ z u r) (fun _ q => at_ _ _ q) fun _ _ q => at_ _ _ q
    exact ⟨.ref _, _, I2.call' j1.1 u3 k3 j1.2 (fun b z => absurd z (by simp)), rfl, q _ _ eN T2 nP⟩
end
end ShL
set_option Elab.async false
set_option linter.all false
set_option maxRecDepth 100000
set_option maxHeartbeats 4000000
namespace Sh
open PySem PySem.Spec PyProof.Rows L2
/-! ### own == and != -/
/-- a class of the text's own with an __eq__ at f and no __ne__ -/
structure EqC (K : PySem.W.Frag) (C f : Addr) : Prop where
  eq : PySem.W.findIn K (.ref C) "__eq__" = some (some (.ref f))
  fn : PySem.W.isFn K (.ref f) = true
  ne : PySem.W.findIn K (.ref C) "__ne__" = some (some (.builtin "object.__ne__"))
  ob : PySem.W.mroIn K C (.type "object") = some true
  nl : PySem.W.mroIn K C (.type "list") = some false
  nt : PySem.W.mroIn K C (.type "tuple") = some false
section
variable {prog : Program} {w : World} {A : Around} {E : Value → Shared → Prop} {s : Shared} {K : PySem.W.Frag} {x C f : Addr} {ox : Obj} {od : Option Obj} {b : Value}
theorem ne_entry {Q : Fin → Shared → Prop} (e : EqC K C f) (X : K.In s.heap) (I : PySem.W.InstAt s.heap x ox C od) (hu : A.units < cLine)
    (h : wpAny (model prog w) A (call (.ref f) [.ref x, b]) (fun v s' => ∃ k, v = .bool k ∧ Q (.done (.ret (.bool (!k)))) s') E s) : wpAny (model prog w) A (Builtin.«object.__ne__» ⟨[.ref x, b], []⟩) Q E s := by
  unfold Builtin.«object.__ne__»
  repeat (first
    | with_reducible refine wpAny_cRoomFor hu ?_
    | (refine wpAny_bind (m := callSpecialIfBound? (.ref x) (Str.ofString "__eq__") [b]) (PySem.W.ifBound_K X I e.eq e.fn (wpAny_mono h (fun r s' hr => by
          obtain ⟨k, rfl, hq⟩ := hr
          repeat (first | exact hq | exact wpAny_pure hq | exact wpAny_truthy_bool hq | (refine wpAny_bind (m := truthy (.bool _)) (wpAny_truthy_bool ?_)) | wp_step)) fun _ _ e => e)))
    | wp_step)
theorem rc_ne {Q : Value → Shared → Prop} {tb : Value} (e : EqC K C f) (X : K.In s.heap) (I : PySem.W.InstAt s.heap x ox C od) (hu : A.units + 1 < cLine) (hb : PySem.W.Looks (model prog w) s.heap (typeOf b) tb) (hn : PySem.W.notFirst K C tb = true)
    (h : wpAny (model prog w) A.in1 (call (.ref f) [.ref x, b]) (fun v s' => ∃ k, v = .bool k ∧ Q (.bool (!k)) s') E s) : wpAny (model prog w) A (richCompare .NotEq (.ref x) b) Q E s := by
  have one : wpAny (model prog w) A (tryCompare (.ref x) "__ne__" b) (fun r s' => ∃ v, r = some v ∧ Q v s') E s := by
    unfold tryCompare
    refine wpAny_bind (NtL.csib (I.type.andThen (PySem.W.looks_findIn X e.ne)) (F.cmp_object.ne.bind _) (wpAny_call (codeAny_call_builtin F.cmp_object.ne.plain F.cmpEntry_ne
      (PySem.W.check_slot F.cmpKind_ne F.cmpSplit_ne (I.type.andThen (PySem.W.looks_mroIn X e.ob)) (F.cmpArgs_ne _ _) (ne_entry (A := A.in1) e X I hu (wpAny_mono h (fun v s' hv => ?_) fun _ _ e => e))))))
    obtain ⟨k, rfl, hq⟩ := hv
    exact ⟨k, rfl, wpAny_pure ⟨_, rfl, hq⟩⟩
  simp only [richCompare, cmpInfo_NotEq, oneThing_ref]
  refine wpAny_holding (wpAny_bind (wpAny_cRoomFor (Nat.lt_of_succ_lt hu) ?_))
  refine wpAny_bind (I.type.here (wpAny_bind (hb.here ?_)))
  have fin : wpAny (model prog w) A (tryCompare (.ref x) "__ne__" b) (fun r s' => ∃ v, r = some v ∧ Q v s') E s := one
  split
  · rename_i q
    have e2 : PySem.W.subIn K tb (.ref C) = some false := by
      rcases Bool.or_eq_true_iff.mp hn with e | e
      · rw [beq_iff_eq.mp e] at q; simp at q
      · exact beq_iff_eq.mp e
    refine wpAny_bind ((PySem.W.looks_subIn X e2).here ?_)
    simp only [Bool.false_eq_true, if_false]
    refine wpAny_bind (wpAny_mono one (fun r s' z => ?_) fun _ _ e => e)
    obtain ⟨v, rfl, hq⟩ := z
    exact wpAny_pure hq
  · refine wpAny_bind (wpAny_pure ?_)
    simp only [Bool.false_eq_true, if_false]
    refine wpAny_bind (wpAny_mono one (fun r s' z => ?_) fun _ _ e => e)
    obtain ⟨v, rfl, hq⟩ := z
    exact wpAny_pure hq
end
section
variable {X : Cx} {CX : CXT} {k : Nat} {C f : Addr} {fd : FuncData} {ps : List Str} {sp : Sp}
def rEqO (C : Addr) (sp : Sp) : R2 := fun x y H Q => ∃ a b dx dy fs gs, x = .ref a ∧ y = .ref b ∧ H a = some (.ins C dx fs) ∧ H b = some (.ins C dy gs) ∧ sp [.ref a, .ref b] H (fun v H' => ∃ k, v = .bl k ∧ Q (.bl k) H') (fun _ _ _ => False)
def rNeO (C : Addr) (sp : Sp) : R2 := fun x y H Q => ∃ a b dx dy fs gs, x = .ref a ∧ y = .ref b ∧ H a = some (.ins C dx fs) ∧ H b = some (.ins C dy gs) ∧ sp [.ref a, .ref b] H (fun v H' => ∃ k, v = .bl k ∧ Q (.bl (!k)) H') (fun _ _ _ => False)
theorem run_eqO {A : Around} {pins : List (Addr × Obj)} {σ : L2.St} {H : Hp} {s : Shared} {a b : Addr} {R : Bool → Hp → Prop} (F : FnOk X.prog X.w X.K X.mg X.base CX k f fd ps sp) (hb : Binds X.K fd ps []) (hx : Passes CX X (fun _ _ _ => False)) (hr : Room k A) (hf : A.frames = X.A.frames) (I : L2.Inv X pins σ H s)
    (h : sp [.ref a, .ref b] H (fun v H' => ∃ k, v = .bl k ∧ R k H') (fun _ _ _ => False)) : wpAny (model X.prog X.w) A (call (.ref f) [.ref a, .ref b]) (fun v s' => ∃ k, v = .bool k ∧ ∃ H', L2.Inv X pins σ H' s' ∧ R k H') X.xe s := by
  have e := I.env0
  have e0 : Env0 X.prog X.w X.K X.mg X.base A X.stack s H := ⟨by rw [hf]; exact e.frames, e.mod, e.bs, e.bsz, e.funs, e.frf, e.hok, e.bare⟩
  have hl := F.len _ _ _ _ h
  refine wpAny_call (codeAny_mono (F.run A X.stack s H ⟨[.ref a, .ref b], []⟩ [.ref a, .ref b] [.ref a, .ref b] _ _ hr e0 (by
    have := hb s [.ref a, .ref b] I.kIn (by simpa using hl)
    simpa using this) (.cons rfl (.cons rfl .nil)) h) fun r s' hq => ?_)
  cases r with
  | error e => exact hx pins σ H s e s' I hq
  | ok fl =>
    cases fl with
    | ret w =>
      obtain ⟨z, H', I', rz, k, ez, q⟩ := I.after hq
      subst ez
      cases rz
      exact ⟨k, rfl, H', I', q⟩
    | next => exact False.elim hq
    | brk => exact False.elim hq
    | cont => exact False.elim hq
theorem op_eqO (e : EqC X.K C f) (F : FnOk X.prog X.w X.K X.mg X.base CX k f fd ps sp) (hb : Binds X.K fd ps []) (hx : Passes CX X (fun _ _ _ => False)) (hr : Room k X.A) : OpR X (compareOp .Eq) (rEqO C sp) := by
  intro pins s σ H x y v u Q I rx ry h
  obtain ⟨a, b, dx, dy, fs, gs, rfl, rfl, ha, hb', hs⟩ := h
  cases rx
  cases ry
  obtain ⟨mA, J, _⟩ := ins_get I.hok ha
  obtain ⟨mB, J', _⟩ := ins_get I.hok hb'
  obtain ⟨od, J, _⟩ := J.look
  obtain ⟨od', J', _⟩ := J'.look
  obtain ⟨m, hF⟩ := I.fr
  show wpAny (model X.prog X.w) X.A (richCompare .Eq (.ref a) (.ref b)) (EP X pins σ Q) X.xe s
  refine PySem.W.cmp_K (op := .Eq) (tb := .ref C) hr.units0 hF I.ok.mod.kin J J'.type (by simp [PySem.W.notFirst]) e.eq e.fn (wpAny_mono (run_eqO F hb hx hr rfl I hs) (fun v s' q => ?_) fun _ _ z => z)
  obtain ⟨k, rfl, H', I', q⟩ := q
  exact ⟨.bl k, H', I', rfl, q⟩
theorem op_neO (e : EqC X.K C f) (F : FnOk X.prog X.w X.K X.mg X.base CX k f fd ps sp) (hb : Binds X.K fd ps []) (hx : Passes CX X (fun _ _ _ => False)) (hr : Room (k + 1) X.A) : OpR X (compareOp .NotEq) (rNeO C sp) := by
  intro pins s σ H x y v u Q I rx ry h
  obtain ⟨a, b, dx, dy, fs, gs, rfl, rfl, ha, hb', hs⟩ := h
  cases rx
  cases ry
  obtain ⟨mA, J, _⟩ := ins_get I.hok ha
  obtain ⟨mB, J', _⟩ := ins_get I.hok hb'
  obtain ⟨od, J, _⟩ := J.look
  obtain ⟨od', J', _⟩ := J'.look
  have un := hr.un
  show wpAny (model X.prog X.w) X.A (richCompare .NotEq (.ref a) (.ref b)) (EP X pins σ Q) X.xe s
  refine rc_ne (tb := .ref C) e I.kIn J (by omega) J'.type (by simp [PySem.W.notFirst]) (wpAny_mono (run_eqO F hb hx hr.in1 rfl I hs) (fun v s' q => ?_) fun _ _ z => z)
  obtain ⟨k, rfl, H', I', q⟩ := q
  exact ⟨k, rfl, .bl (!k), H', I', rfl, q⟩
end
/-! ### an own == that returns NotImplemented: of a list -/
section
variable {X : Cx} {C f : Addr} {fd : FuncData}
theorem run_ni {P : Program} {w : World} {K : PySem.W.Frag} {mg : Str → Option Value} {base : Heap} {qual : Str} {st : Stmt} {N : List Str} {c : Expr} {rest : List Stmt} {p p2 p3 : Pos} {tt : TT} {A : Around} {outer : List Env} {s : Shared} {H : Hp} {us : List Value} {vs : List V} {R : Hp → Prop}
    (F : Fun K "__eq__" qual st f fd) (S : FnScope N ["self", "other"] (defScope st)) (hbd : defBody st = .If c [.Return (some (.Name "NotImplemented" p)) p2] [] p3 :: rest) (hbi : Binds K fd ["self", "other"] [])
    (hg : (defScope st).names.lookup ("NotImplemented" : Str) = some .globalImplicit) (hm : mg "NotImplemented" = none)
    (ht : ∀ (cdv : Value) (A : Around) (outer : List Env) (s : Shared) (H : Hp) (E : XK), Room 0 A → PT (cxOf CX0 P w K mg base N qual (defScope st) f cdv A outer s H E) c tt)
    (hr : Room 1 A) (e0 : Env0 P w K mg base A outer s H) (r : Vals vs us) (hl : vs.length = 2) (q : tt (L2.start N vs) H (fun b H' => b = true ∧ R H')) :
    wpAny (model P w) A (call (.ref f) us) (fun v s' => v = .notImplemented ∧ ∃ H', s'.os = s.os ∧ AllBare s'.gens ∧ Un (frs outer) [] H H' s.heap s'.heap ∧ HOk P w H' s'.heap ∧ R H') (fun _ _ => False) s := by
  have KX : K.In s.heap := e0.mod.kin.keeps fun b o z => (e0.bs b o z).1
  have hb := hbi s us KX (by rw [List.append_nil, ← r.length, hl]; rfl)
  obtain ⟨oc, od, kV, doc, pm, an, cdv, ct, osl, rfl, lk, hcd⟩ := F.ex
  have hl2 : vs.length = (["self", "other"] : List Str).length := hl
  have hkind : ∀ y ∈ (["self", "other"] : List Str).zip us, (defScope st).names.lookup y.1 = some .local ∨ ((defScope st).names.lookup y.1 = some .cell ∧ ((cellsFrom (s.heap.objs.size + 1) (defScope st).names []).lookup y.1).isSome = true) := fun y hy =>
    (S.par y.1 (List.of_mem_zip (a := y.1) (b := y.2) hy).1).imp id fun z => ⟨z, PySem.W.cellsFrom_some _ _ _ (.inl z)⟩
  rw [List.append_nil] at hb
  refine wpAny_call (codeAny_call_function hr.depth (KX _ _ lk) rfl S.co S.gen rfl (PySem.W.codeRec_of KX hcd) (hb _ _ _ _ (wpAny_newFunctionEnv_cells S.kind hkind fun env he s1 y => ?_)))
  subst he
  refine ⟨(e0.mod.nolimit.keeps fun b o z => (e0.bs b o z).1).keeps y.toInCall.keep, codeAny_func ?_⟩
  have I := inv_start (CX := CX0) (E := fun _ _ _ => False) S hr.hd e0 hl2 r y
  rw [hbd]
  refine wpAny_mono (wpAny_execs_cons (wpAny_If (thn ((ht cdv A outer s H (fun _ _ _ => False) (hr.mono (by decide))).run [] s1 _ H _ I q) fun d s2 ⟨H1, I1, ed, qn⟩ => ?_))) (fun fl s' hs => hs) fun e s' hs => hs
  subst ed
  refine wpAny_execs_cons (wpAny_Return_some (ld_blt I1 hg hm rfl ?_))
  exact ⟨rfl, H1, I1.os, I1.bare, I1.base, I1.hok, qn⟩
theorem sub_list {K : PySem.W.Frag} {C : Addr} : PySem.W.subIn K (.type "list") (.ref C) = some false := by
  have e : fastBuiltinMro "list" = some [.type "list", .type "object"] := by decide +kernel
  show (fastBuiltinMro "list").map (·.contains (.ref C)) = some false
  rw [e]
  first
    | rfl
    | simp
theorem list_eq_ins {prog : Program} {w : World} {A : Around} {E : Value → Shared → Prop} {s : Shared} {K : PySem.W.Frag} {x b C : Addr} {ox ob : Obj} {od : Option Obj} {Q : Option Value → Shared → Prop} (X : K.In s.heap) (I : PySem.W.InstAt s.heap x ox C od) (nl : PySem.W.mroIn K C (.type "list") = some false)
    (hb : s.heap.get? b = some ob) (hc : ob.cls = .type "list") (h : Q none s) : wpAny (model prog w) A (tryCompare (.ref b) "__eq__" (.ref x)) Q E s := by
  refine wpAny_tryCompare_declines (show s.TypeIs (.ref b) "list" from ⟨ob, hb, hc⟩) F.slot_list_eq (GQ.call_here F.slot_list_eq ⟨ob, hb, hc⟩ F.entry_list_eq (F.args_list_eq_2 _ _) ?_)
  have L : PySem.W.Looks (model prog w) s.heap (isInstance (.ref x) (.type "list")) false := I.type.andThen (PySem.W.looks_mroIn X nl)
  unfold Builtin.«list.__eq__»
  repeat (first | with_reducible refine wpAny_bind (L.here ?_) | wp_step)
  exact ⟨rfl, h⟩
/-- o == xs, where o's own == gives NotImplemented: False -/
def rEqNL (N : List Str) (C : Addr) (tt : TT) : R2 := fun x y H Q => ∃ a b dx fs xs, x = .ref a ∧ y = .ref b ∧ H a = some (.ins C dx fs) ∧ H b = some (.lst xs) ∧
  tt (L2.start N [x, y]) H (fun k H' => k = true ∧ H' a = some (.ins C dx fs) ∧ H' b = some (.lst xs) ∧ Q (.bl false) H')
theorem op_eqNL {qual : Str} {st : Stmt} {N : List Str} {c : Expr} {rest : List Stmt} {p p2 p3 : Pos} {tt : TT} (e : EqC X.K C f)
    (F : Fun X.K "__eq__" qual st f fd) (S : FnScope N ["self", "other"] (defScope st)) (hbd : defBody st = .If c [.Return (some (.Name "NotImplemented" p)) p2] [] p3 :: rest) (hbi : Binds X.K fd ["self", "other"] [])
    (hg : (defScope st).names.lookup ("NotImplemented" : Str) = some .globalImplicit) (hm : X.mg "NotImplemented" = none)
    (ht : ∀ (cdv : Value) (A : Around) (outer : List Env) (s : Shared) (H : Hp) (E : XK), Room 0 A → PT (cxOf CX0 X.prog X.w X.K X.mg X.base N qual (defScope st) f cdv A outer s H E) c tt) (hr : Room 1 X.A) : OpR X (compareOp .Eq) (rEqNL N C tt) := by
  intro pins s σ H x y v u Q I rx ry h
  obtain ⟨a, b, dx, fs, xs, rfl, rfl, ha, hb, hq⟩ := h
  cases rx
  cases ry
  have hab : a ≠ b := ne_of ha hb (by intro z; cases z)
  obtain ⟨mA, J, _⟩ := ins_get I.hok ha
  obtain ⟨od, J, _⟩ := J.look
  obtain ⟨_, its, n, _, hob⟩ := I.hok b _ hb
  have un := hr.un
  have one : wpAny (model X.prog X.w) X.A (tryCompare (.ref a) "__eq__" (.ref b)) (fun r s' => r = none ∧ ∃ H', L2.Inv X pins σ H' s' ∧ H' a = some (.ins C dx fs) ∧ H' b = some (.lst xs) ∧ Q (.bl false) H') X.xe s := by
    unfold tryCompare
    refine wpAny_bind (PySem.W.ifBound_K I.kIn J e.eq e.fn (wpAny_mono (run_ni F S hbd hbi hg hm ht hr I.env0 (us := [.ref a, .ref b]) (vs := [.ref a, .ref b]) (.cons rfl (.cons rfl .nil)) rfl hq) (fun v s' z => ?_) fun _ _ z => z.elim))
    obtain ⟨rfl, H', os, bare, un, hok, q1, q2, q3⟩ := z
    exact wpAny_pure ⟨rfl, H', I.call' os un hok bare (fun b z => absurd z (by simp)), q1, q2, q3⟩
  show wpAny (model X.prog X.w) X.A (richCompare .Eq (.ref a) (.ref b)) (EP X pins σ Q) X.xe s
  simp only [richCompare, cmpInfo_Eq, oneThing_ref]
  refine wpAny_holding (wpAny_bind (wpAny_cRoomFor (by omega) ?_))
  refine wpAny_bind (J.type.here ?_)
  refine wpAny_bind (wpAny_typeOf (show s.TypeIs (.ref b) "list" from ⟨_, hob, rfl⟩) ?_)
  have tail : ∀ s1, (∃ H', L2.Inv X pins σ H' s1 ∧ H' a = some (.ins C dx fs) ∧ H' b = some (.lst xs) ∧ Q (.bl false) H') → wpAny (model X.prog X.w) X.A (tryCompare (.ref b) "__eq__" (.ref a)) (fun r s' => r = none ∧ s' = s1) X.xe s1 ∧ wpAny (model X.prog X.w) X.A (isSame (.ref a) (.ref b)) (fun r s' => r = false ∧ s' = s1) X.xe s1 := by
    rintro s1 ⟨H', I1, q1, q2, _⟩
    obtain ⟨mB, J1, _⟩ := ins_get I1.hok q1
    obtain ⟨od1, J1, _⟩ := J1.look
    obtain ⟨_, its1, n1, _, hob1⟩ := I1.hok b _ q2
    exact ⟨list_eq_ins I1.kIn J1 e.nl hob1 rfl ⟨rfl, rfl⟩, PySem.SeqAt.wpAny_isSame_ref_other' hab J1.at_ hob1 (by intro z; injection z with z; exact absurd z (by decide)) ⟨rfl, rfl⟩⟩
  split
  · refine wpAny_bind ((PySem.W.looks_subIn I.kIn sub_list).here ?_)
    simp only [Bool.false_eq_true, if_false, Bool.not_false, if_true]
    refine wpAny_bind (m := tryCompare (.ref a) _ (.ref b)) (wpAny_mono one (fun r s1 z => ?_) fun _ _ e => e)
    obtain ⟨rfl, z⟩ := z
    refine wpAny_bind (m := tryCompare (.ref b) _ (.ref a)) (wpAny_mono (tail s1 z).1 (fun r s2 y => ?_) fun _ _ e => e)
    obtain ⟨rfl, rfl⟩ := y
    refine wpAny_bind (wpAny_rule (wpAny_bind (wpAny_mono (tail s2 z).2 (fun r s3 y => ?_) fun _ _ e => e)))
    obtain ⟨rfl, rfl⟩ := y
    obtain ⟨H', I1, _, _, q⟩ := z
    exact wpAny_pure ⟨.bl false, H', I1, rfl, q⟩
  · refine wpAny_bind (wpAny_pure ?_)
    simp only [Bool.false_eq_true, if_false, Bool.not_false, if_true]
    refine wpAny_bind (m := tryCompare (.ref a) _ (.ref b)) (wpAny_mono one (fun r s1 z => ?_) fun _ _ e => e)
    obtain ⟨rfl, z⟩ := z
    refine wpAny_bind (m := tryCompare (.ref b) _ (.ref a)) (wpAny_mono (tail s1 z).1 (fun r s2 y => ?_) fun _ _ e => e)
    obtain ⟨rfl, rfl⟩ := y
    refine wpAny_bind (wpAny_rule (wpAny_bind (wpAny_mono (tail s2 z).2 (fun r s3 y => ?_) fun _ _ e => e)))
    obtain ⟨rfl, rfl⟩ := y
    obtain ⟨H', I1, _, _, q⟩ := z
    exact wpAny_pure ⟨.bl false, H', I1, rfl, q⟩
end
end Sh
set_option Elab.async false
set_option linter.all false
set_option maxRecDepth 100000
set_option maxHeartbeats 4000000
namespace Sh
open PySem PySem.Spec PyProof.Rows L2
/-! ### (a, b, ..) = a list or tuple -/
section
variable {X : Cx} {pos : Pos}
def gUnE (K : PySem.W.Frag) (n : Nat) (t : TGs) : TG := fun v σ H Q => ∃ a xs, v = .ref a ∧ (SqL K H a xs ∨ SqT K H a xs) ∧ xs.length = n ∧ t xs σ H Q
theorem pg_unE {es : List Expr} {k : Nat} {t : TGs} {n : Nat} (hc : X.calm = true) (h : PGs X es t)
    (hn : (assignEach es X.env).length = n := by rfl) (hst : (assignEach es X.env).findIdx? (·.1) = none := by rfl) : PG X (.Tuple es k pos) (gUnE X.K n t) := by
  refine ⟨fun pins s σ H v u Q I r hw => ?_⟩
  obtain ⟨a, xs, e1, hq | hq, hl, hw⟩ := hw
  · exact (pg_unl hc h hn hst).run pins s σ H v u Q I r ⟨a, xs, e1, hq, hl, hw⟩
  · exact (pg_tup hc h hn hst).run pins s σ H v u Q I r ⟨a, xs, e1, hq, hl, hw⟩
/-! ### s * n -/
def repS (z : Str) (n : Nat) : Str := ⟨(List.replicate n z.cps.toList).flatten.toArray⟩
theorem fold_app (xs : List Nat) : ∀ (n : Nat) (acc : Array Nat), ((List.replicate n xs.toArray).foldl (· ++ ·) acc) = acc ++ (List.replicate n xs).flatten.toArray
  | 0, acc => by simp
  | n + 1, acc => by
    rw [List.replicate_succ, List.foldl_cons, fold_app xs n, List.replicate_succ, List.flatten_cons]
    apply Array.ext'
    simp
theorem repS_fold (z : Str) (n : Nat) : (⟨(List.replicate n z.cps).foldl (· ++ ·) #[]⟩ : Str) = repS z n := by
  have e := fold_app z.cps.toList n #[]
  rw [Array.toArray_toList] at e
  unfold repS
  rw [e]
  simp
theorem repS_len (z : Str) (n : Nat) : (repS z n).length = n * z.length := by
  show (List.replicate n z.cps.toList).flatten.toArray.size = n * z.cps.size
  simp
theorem op_mulS : OpR X (binaryOp .Mult) (fun x y H Q => ∃ (z : Str) (n : Nat), x = .str z ∧ y = .int (n : Int) ∧ n ≤ 1000 ∧ z.length ≤ 1000 ∧ Q (.str (repS z n)) H) := by
  intro pins s σ H x y v u Q I rx ry h
  obtain ⟨z, n, rfl, rfl, hn, hz, q⟩ := h
  obtain ⟨t, rfl⟩ := rx
  obtain ⟨k, rfl⟩ := ry
  have hle : n * z.length ≤ 1000 * 1000 := Nat.mul_le_mul hn hz
  refine P.mul_str (by rw [Bool.or_eq_false_iff]; exact ⟨decide_eq_false (by omega), decide_eq_false (by omega)⟩) (fun h1 _ h2 => ?_) (fun _ _ => ?_) ?_
  · have h3 : ((z.length : Nat) : Int) ≤ 1000 := by omega
    have h4 : (2 ^ 63 - 1 : Int) / (n : Int) ≥ 1000 := by
      have : (1000 : Int) * (n : Int) ≤ 2 ^ 63 - 1 := by omega
      exact (Int.le_ediv_iff_mul_le (by omega)).mpr this
    omega
  · have : ¬ z.length * ((n : Int)).toNat > 16777216 := by
      rw [Int.toNat_natCast, Nat.mul_comm]
      omega
    unfold Builtin.Str.tooLong
    exact decide_eq_false this
  · have el : (repS z n).length ≤ sizeLine := by rw [repS_len, sizeLine_eq]; omega
    split
    · rename_i h1
      have e0 : n = 0 := by omega
      subst e0
      have e : repS z 0 = Str.empty := rfl
      rw [← e]
      exact ⟨by rw [e]; decide, .str (repS z 0), H, I.tok _, ⟨_, rfl⟩, q⟩
    · split
      · rename_i h1 h2
        have e : repS z n = z := by
          rcases Bool.or_eq_true_iff.mp h2 with h3 | h3
          · have e1 : n = 1 := by
              have := beq_iff_eq.mp h3
              omega
            subst e1
            unfold repS
            simp
          · have e1 : z.length = 0 := beq_iff_eq.mp h3
            have e2 : z.cps.toList = [] := by
              apply List.eq_nil_of_length_eq_zero
              rw [Array.length_toList]
              exact e1
            have e3 : z = ⟨#[]⟩ := by
              obtain ⟨c⟩ := z
              obtain ⟨c⟩ := c
              cases e2
              rfl
            rw [e3]
            unfold repS
            simp
        exact ⟨.str z, H, I, ⟨_, rfl⟩, e ▸ q⟩
      · rw [repS_fold, Int.toNat_natCast]
        exact ⟨el, .str (repS z n), H, I.tok _, ⟨_, rfl⟩, q⟩
/-! ### s[::-1] -/
def revS (z : Str) : Str := ⟨z.cps.toList.reverse.toArray⟩
def tRevS (te : TE) : TE := fun σ H Q => te σ H fun x H1 => ∃ z, x = .str z ∧ z.length ≤ sizeLine ∧ Q (.str (revS z)) H1
theorem rev_indices (n : Nat) : Builtin.Str.strSliceIndices none none (-1) n = (List.range n).reverse := by
  unfold Builtin.Str.strSliceIndices
  show sliceRange ((n : Int) - 1) (-1) (-1) = _
  rw [PySem.W.krv_sliceRange, PySem.W.krv_range]
theorem pe_revS {e : Expr} {te : TE} {k : Nat} {p1 p2 p3 pos : Pos} (he : PE X e te) : PE X (.Subscript e (.Slice none none (some (.UnaryOp .USub (.Constant (.int 1) k p1) p2)) p3) pos) (tRevS te) := by
  refine ⟨fun pins s σ H Q I h => ?_⟩
  refine Subscript_ (thn (he.run pins s σ H _ I h) fun v s1 ⟨x, H1, I1, r1, q1⟩ => ?_)
  obtain ⟨z, rfl, hz, q⟩ := q1
  obtain ⟨t, rfl⟩ := r1
  have hst : PO X (some (.UnaryOp .USub (.Constant (.int 1) k p1) p2)) (tPart (tUn (rU fun i => .int (-i)) (tC (.int 1)))) := po_some (pe_un un_neg pe_int)
  refine wpAny_Slice (thn (po_none.run pins s1 σ H1 (fun o H2 => o = none ∧ H2 = H1) I1 ⟨rfl, rfl⟩) fun vl s2 ⟨l, H2, I2, pl, el, e2⟩ => ?_)
  subst el e2
  refine thn (po_none.run pins s2 σ H2 (fun o H3 => o = none ∧ H3 = H2) I2 ⟨rfl, rfl⟩) fun vu s3 ⟨u, H3, I3, pu, eu, e3⟩ => ?_
  subst eu e3
  refine thn (hst.run pins s3 σ H3 (fun o H4 => o = some (-1) ∧ H4 = H3) I3 ⟨1, rfl, -1, rfl, rfl, rfl⟩) fun vs s4 ⟨o, H4, I4, ps, eo, e4⟩ => ?_
  subst eo e4
  obtain ⟨lo, rfl, e5⟩ := IsPart.raw pl
  obtain ⟨hi, rfl, e6⟩ := IsPart.raw pu
  obtain ⟨sp, rfl, e7⟩ := IsPart.raw ps
  have I5 : L2.Inv X pins σ H4 { s4 with heap := s4.heap.push { cls := .type "slice", data := .fields #[partValue lo, partValue hi, partValue sp] } } := I4.kept (t' := s4.toks) fun b ob q => Heap.get?_push_of_some _ q
  show wpAny (model X.prog X.w) X.A (subscriptTail e (.Slice none none (some (.UnaryOp .USub (.Constant (.int 1) k p1) p2)) p3) (.str z t) (.ref s4.heap.objs.size)) (EP X pins σ Q) X.xe { s4 with heap := s4.heap.push { cls := .type "slice", data := .fields #[partValue lo, partValue hi, partValue sp] } }
  refine tail_any (ops := [.ref s4.heap.objs.size]) (typeIs_str _ z t) (PySem.F.slot_str_getitem.lookup) ?_ (by with_unfolding_all rfl)
  refine wpAny_getItem_str_slice (l := lo) (u := hi) (st := sp) ⟨_, Heap.get?_push_size _ rfl, rfl, rfl⟩ (by rw [e7]; rfl) ?_
  have hp : ((slicePicked z lo hi sp).filterMap (z.cps[·]?)).toArray = z.cps.toList.reverse.toArray := by
    unfold slicePicked
    rw [e5, e6, e7]
    show ((Builtin.Str.strSliceIndices none none (-1) z.cps.size).filterMap (z.cps[·]?)).toArray = _
    rw [rev_indices, List.filterMap_reverse, PySem.W.krv_all]
  unfold sliceMade
  rw [hp, if_neg (by rw [e7]; simp)]
  have el : (revS z).length ≤ sizeLine := by
    have e : z.cps.toList.reverse.toArray.size = z.cps.size := by simp
    show z.cps.toList.reverse.toArray.size ≤ _
    rw [e]
    exact hz
  exact ⟨el, .str (revS z), H4, I5.tok _, ⟨_, rfl⟩, q⟩
/-! ### cls(..), cls a name of the def that holds a class -/
def tMakeL (i : Nat) (C : Addr) (sp : Sp) (E : XK) (t : TA) : TE := fun σ H Q => σ[i]? = some (some (.ref C)) ∧ tMake C sp [] E t σ H Q
theorem pe_makeL {CX : CXT} {k i : Nat} {C f : Addr} {fd : FuncData} {ps : List Str} {sp : Sp} {E : XK} {x : Str} {p : Pos} {e : Expr} {es : List Expr} {t : TA} (M : Mk X.K C f) (F : FnOk X.prog X.w X.K X.mg X.base CX k f fd ps sp) (hr : Room (k + 1) X.A) (hN : X.N[i]? = some x) (hv : Vis X.env.scope x)
    (hb : Binds X.K fd ps []) (hx : Passes CX X E) (ha : PA X (e :: es) t) (hdb : (x == ("__debug__" : Str)) = false := by decide) (hcd : (x == ("__classdict__" : Str)) = false := by decide)
    (he : starEach (e :: es) X.env = (false, eval e X.env) :: starEach es X.env := by rfl) (hpl : (backTo pos (starEach es X.env)).any (·.1) = false := by rfl) :
    PE X (.Call (.Name x p) (e :: es) [] pos) (tMakeL i C sp E t) := by
  refine ⟨fun pins s σ H Q I h => ?_⟩
  obtain ⟨hs, h⟩ := h
  refine wpAny_Call_Name_kw (thn ((pe_var (pos := p) (i := i) hN hv hdb hcd).run pins s σ H (fun v H1 => v = .ref C ∧ H1 = H) I ⟨.ref C, hs, rfl, rfl⟩) fun u s1 ⟨v, H1, I1, r1, q1⟩ => ?_)
  obtain ⟨rfl, rfl⟩ := q1
  cases r1
  refine PySem.W.callWith_K (h₀ := X.base) I1.ok.mod.kin M.kp (thn (ha.run pos pins s1 σ _ _ I1 h) fun us s2 ⟨vs, H2, I2, r, q⟩ => ⟨I2.kIn, ?_⟩) he hpl
  exact run_make M F hr hb .nil hx I2 r q
end
end Sh
set_option Elab.async false
set_option linter.all false
set_option maxRecDepth 100000
set_option maxHeartbeats 4000000
namespace Sh
open PySem PySem.Spec PyProof.Rows L2
/-! ### list(s), s a text -/
section
variable {prog : Program} {w : World} {A : Around} {E : Value → Shared → Prop} {s : Shared} {x : Str} {t : Tok}
theorem hint_str {Q : Bool → Shared → Prop} (h : Q false s) : wpAny (model prog w) A (Builtin.List.listLengthHint (.str x t)) Q E s := by
  have hT : s.TypeIs (.str x t) "str" := typeIs_str s x t
  unfold Builtin.List.listLengthHint; refine wpAny_bind (wpAny_specialOf hT PySem.F.slot_str_len.lookup ?_)
  generalize hid : ("str.__len__" : String) = i0
  wp_delta
  rw [show splitId i0 = some ("str", "__len__") from by subst hid; decide +kernel]
  subst hid
  refine wpAny_bind (wpAny_isInstance (T := "str") (b := true) hT (by rw [isSubtype_type]; kernel_rfl) ?_)
  refine wpAny_ite_split (fun z => absurd z (by decide)) (fun _ => wpAny_ite_split (fun _ => ?_) (fun z => absurd (by decide +kernel) z))
  exact wpAny_bind (wpAny_typeOf hT (wpAny_pure h))
/-- what is left of the signs, laid into the list at S -/
abbrev LaidS (x : Str) (S : Addr) (s : Shared) (R : Heap → Nat → Prop) : Prop := ∀ h' tk acc c, (∀ b o, b ≠ S → s.heap.get? b = some o → h'.get? b = some o) → h'.get? S = some { cls := .type "list", dict := none, data := .seq acc c, slots := #[] } → ItemsOf (SignAt x) acc x.cps.size → R h' tk
theorem extend_str {R : Result → Shared → Prop} (hh : A.handled = none) (S : Addr) (c0 : Nat) (hS : s.heap.get? S = some { cls := .type "list", data := .seq #[] c0 }) (hn : x.cps.size ≤ sizeLine)
    (hR : LaidS x S s fun h' tk => R (.ok (.ret .none)) { s with heap := h', toks := tk }) :
    wpAny (model prog w) A.in1 (Builtin.List.listExtendWith (.ref S) (.str x t) .none) (fun fin s' => match fin with | .done f => R (.ok f) s' | .again c' => c'.quiet = true ∧ codeAny (model prog w) A c' R s') (fun e s' => R (.error e) s') s := by
  have hSI : S ≠ s.heap.objs.size := Nat.ne_of_lt (Heap.lt_size hS)
  have hSf : S ∉ [s.heap.objs.size] := by simpa using hSI
  unfold Builtin.List.listExtendWith; refine wpAny_bind (wpAny_typeOf (T := "str") (typeIs_str s x t) ?_)
  have e1 : Builtin.List.listSameRef (.ref S) (.str x t) = false := rfl
  have e2 : (Value.type "str" == Value.type "list") = false := by decide
  have e3 : (Value.type "str" == Value.type "tuple") = false := by decide
  simp only [e1, e2, e3, Bool.or_false, Bool.false_eq_true, if_false]
  refine wpAny_bind (wpAny_pyIter_str fun oI St W st => ?_)
  have Wk := W A.in1 hh
  have key : ∀ (h : Heap) (c1 tk : Nat), St 0 h → (∀ b o, b ≠ S → s.heap.get? b = some o → h.get? b = some o) → h.get? S = some { cls := .type "list", data := .seq #[] c1 } →
      codeAny (model prog w) A (.builtin "list.extend.loop" ⟨[.ref S, .ref s.heap.objs.size, .none], []⟩) R { s with heap := h, toks := tk } := by
    intro h c1 tk hst hk hS1
    refine codeAny_extend_loopS Wk.toS hn S hSf .none x.cps.size 0 _ #[] c1 rfl (Nat.zero_le _) hst hS1 (ItemsOf.nil _) fun s2 acc c hm hS2 hacc => ?_
    rw [Moved.eq_with hm]
    refine hR s2.heap s2.toks acc c (fun b o hb q => hm.heap b o (fun z => ?_) (hk b o hb q)) hS2 hacc
    rcases List.mem_cons.mp z with z | z
    · exact hb z
    · exact absurd (Heap.lt_size q) (by rw [List.mem_singleton.mp z]; exact Nat.lt_irrefl _)
  have hS1 := Heap.get?_push_of_some oI hS
  refine wpAny_bind (wpAny_holding (hint_str ?_)); refine wpAny_ite_split (fun _ => ?_) (fun _ => wpAny_pure ⟨plainId_quiet PySem.F.plain_extend_loop _, key _ c0 _ st (fun b o _ q => Heap.get?_push_of_some _ q) hS1⟩)
  refine wpAny_bind (wpAny_rule (wpAny_bind ?_))
  show wpAny _ _ (updateSeq S (·.push .none) >>= fun _ => updateSeq S (·.pop)) _ _ _
  refine wpAny_bind (wpAny_updateSeq hS1 rfl ?_)
  have hS2 := Heap.get?_update_self (Obj.mapSeq (·.push Value.none)) hS1 rfl
  refine wpAny_updateSeq (hz := by seq_fits) hS2 rfl ?_
  have hS3 := Heap.get?_update_self (Obj.mapSeq (·.pop)) hS2 rfl
  have up : ∀ b o, b ≠ S → (s.heap.push oI).get? b = some o → (((s.heap.push oI).update S (Obj.mapSeq (·.push Value.none))).update S (Obj.mapSeq (·.pop))).get? b = some o := fun b o hb q =>
    (Heap.get?_update_other _ _ (Ne.symm hb)).trans ((Heap.get?_update_other _ _ (Ne.symm hb)).trans q)
  exact wpAny_pure ⟨plainId_quiet PySem.F.plain_extend_loop _, key _ _ _ (Wk.frame 0 _ _ st fun b hb o q => up b o (fun z => hSf (z ▸ hb)) q) (fun b o hb q => up b o hb (Heap.get?_push_of_some _ q)) hS3⟩
theorem init_str {R : Result → Shared → Prop} (hh : A.handled = none) (S : Addr) (hS : s.heap.get? S = some { cls := .type "list", data := .seq #[] }) (hn : x.cps.size ≤ sizeLine)
    (hR : LaidS x S s fun h' tk => R (.ok (.ret .none)) { s with heap := h', toks := tk }) :
    wpAny (model prog w) A.in1 (Builtin.«list.__init__» ⟨[.ref S, .str x t], []⟩) (fun fin s' => match fin with | .done f => R (.ok f) s' | .again c' => c'.quiet = true ∧ codeAny (model prog w) A c' R s') (fun e s' => R (.error e) s') s := by
  show wpAny _ _ (do let old ← Builtin.List.listItems (.ref S); Builtin.List.listUpdate (.ref S) (fun _ => #[]); letGo old.toList.reverse; Builtin.List.listExtendWith (.ref S) (.str x t) .none) _ _ s
  refine wpAny_bind ?_; unfold Builtin.List.listItems
  refine wpAny_bind (wpAny_seqItems hS rfl (wpAny_pure ?_))
  show wpAny _ _ (updateSeq S (fun _ => #[]) >>= fun _ => letGo (#[] : Array Value).toList.reverse >>= fun _ => Builtin.List.listExtendWith (.ref S) (.str x t) .none) _ _ s
  refine wpAny_bind (wpAny_updateSeq hS rfl (wpAny_bind (wpAny_letGo ?_)))
  refine extend_str hh S _ (Heap.get?_update_self (Obj.mapSeq (fun _ => (#[] : Array Value))) hS rfl) hn fun h' tk acc c hk hS' hacc => hR h' tk acc c (fun b o hb q => hk b o hb ?_) hS' hacc
  exact (Heap.get?_update_other _ _ (Ne.symm hb)).trans q
theorem call_list_text {Q : Value → Shared → Prop} (hh : A.handled = none) (hn : x.cps.size ≤ sizeLine)
    (hQ : ∀ h' tk acc c, (∀ b o, s.heap.get? b = some o → h'.get? b = some o) → h'.get? s.heap.objs.size = some { cls := .type "list", dict := none, data := .seq acc c, slots := #[] } → ItemsOf (SignAt x) acc x.cps.size → Q (.ref s.heap.objs.size) { s with heap := h', toks := tk }) :
    wpAny (model prog w) A (call (.type "list") [.str x t]) Q E s := by
  refine callType_codes (Q₁ := fun obj s₁ => obj = .ref s.heap.objs.size ∧ s₁ = { s with heap := s.heap.push { cls := .type "list", data := .seq #[] } }) PySem.F.called_list (PySem.F.typeCall_list_1 _) PySem.F.entry_list_init (code_list_new _ ⟨rfl, rfl⟩) fun obj s₁ z => ?_
  obtain ⟨rfl, rfl⟩ := z
  have hS : (s.heap.push { cls := .type "list", data := .seq #[] }).get? s.heap.objs.size = some { cls := .type "list", data := .seq #[] } := Heap.get?_push_size _ rfl
  exact ⟨⟨_, hS, rfl⟩, PySem.F.args_list_init_2 _ _, init_str (A := A.in1) hh _ hS hn fun h' tk acc c hk hS' hacc => ⟨rfl, hQ h' tk acc c (fun b o q => hk b o (Nat.ne_of_lt (Heap.lt_size q)) (Heap.get?_push_of_some _ q)) hS' hacc⟩⟩
end
def signs (z : Str) : List Str := z.cps.toList.map fun c => (⟨#[c]⟩ : Str)
theorem call_list_str {X : Cx} (hc : X.calm = true) : CallR X (.type "list") (fun xs H Q => ∃ z, xs = [.str z] ∧ z.length ≤ sizeLine ∧ ∀ p, H p = none → Q (.ref p) (upd H p (.lst ((signs z).map V.str)))) := by
  intro pins s σ H xs us Q I r h
  obtain ⟨z, rfl, hz, q⟩ := h
  obtain ⟨u, rfl, t, rfl⟩ := vals1 r
  have el : ((signs z).map V.str).length = z.cps.size := by unfold signs; simp
  refine call_list_text (I.ok.hd hc) hz fun h' tk acc c keep hS hacc => ?_
  refine ⟨.ref s.heap.objs.size, upd H s.heap.objs.size (.lst ((signs z).map V.str)), I.laid keep (Nat.le_refl _) (show ObjOk X.prog X.w _ _ _ (.lst ((signs z).map V.str)) from ⟨by rw [el]; exact hz, acc.toList, c, ?_, by rw [Array.toArray_toList]; exact hS⟩), rfl, q _ (I.hok.fresh (Nat.le_refl _))⟩
  refine vals_of_at (by rw [el, Array.length_toList]; exact hacc.1.symm) fun j x y h1 h2 => ?_
  obtain ⟨cc, uu, hcc, rfl⟩ := hacc.2 j y (by rw [← Array.getElem?_toList]; exact h2)
  have e2 : ((signs z).map V.str)[j]? = some (V.str ⟨#[cc]⟩) := by
    unfold signs
    rw [List.getElem?_map, List.getElem?_map, Array.getElem?_toList, hcc]
    rfl
  rw [e2] at h1
  cases h1
  exact ⟨uu, rfl⟩
end Sh
set_option Elab.async false
set_option linter.all false
set_option maxRecDepth 100000
set_option maxHeartbeats 4000000
namespace ShL
theorem tab_uniq {α β : Type} {T : List (α × β)} (h : (T.map (·.1)).Nodup) {P : α} {q : β} (m : (P, q) ∈ T) : ∀ p ∈ T, p.1 = P → p.2 = q := by
  induction T with
  | nil => exact fun p hp => nomatch hp
  | cons a T ih =>
    rw [List.map_cons, List.nodup_cons] at h
    intro p hp e
    rcases List.mem_cons.mp hp with rfl | hp
    · rcases List.mem_cons.mp m with z | z
      · rw [← z]
      · exact absurd (List.mem_map.mpr ⟨_, z, e.symm⟩) h.1
    · rcases List.mem_cons.mp m with z | z
      · rw [← z] at h
        exact absurd (List.mem_map.mpr ⟨_, hp, e⟩) h.1
      · exact ih h.2 z p hp e
end ShL
namespace Sh
open PySem PySem.Spec PyProof.Rows L2 LamX
section
variable {P : Program} {w : World} {K : PySem.W.Frag} {mg : Str → Option Value} {base : Heap}
/-- as Fun.ok, the def's code object told -/
theorem okT {x qual : Str} {st : Stmt} {f : Addr} {fd : FuncData} {N ps : List Str} {k : Nat} {sp : Sp} (F : Fun K x qual st f fd) (S : FnScope N ps (defScope st)) (len : ∀ vs H Q E, sp vs H Q E → vs.length = ps.length)
    (hbody : ∀ (cdv : Value) (A : Around) (outer : List Env) (s : Shared) (H : Hp) (vs : List V) (Q : VK) (E : XK), fd.code = cdv → Room k (A.deeper (envOfC qual (defScope st) s.heap.objs.size f cdv)) → sp vs H Q E →
      ∃ t, PSs (cxOf CX0 P w K mg base N qual (defScope st) f cdv A outer s H E).nox (defBody st) t ∧ t { nx := fun _ H' => Q .non H', rt := Q } (start N vs) H) : FnOk P w K mg base CX0 (k + 1) f fd ps sp := by
  obtain ⟨oc, od, kV, doc, pm, an, cdv, ct, osl, rfl, lk, hc⟩ := F.ex
  refine fn_of lk hc S len fun A outer s H vs Q E hr hsp => ?_
  obtain ⟨t, h, q⟩ := hbody cdv A outer s H vs Q E rfl hr hsp
  exact ⟨t, h.nox, q⟩
theorem fnR_of {CX : CXT} {k : Nat} {f : Addr} {fd : FuncData} {ps : List Str} {sp : Sp} (F : FnOk P w K mg base CX k f fd ps sp) (hb : Binds K fd ps []) : FnR P w K mg base CX k f sp := by
  have q := F.raw hb .nil
  exact q.imp fun vs H Q E h => by rw [List.append_nil]; exact h
end
/-- all but the tables is kept, and the tables still tell what they told -/
def Sm (T : List (Addr × Str)) (H H' : Hp) : Prop := ExtN H H' ∧ Tabs T H'
section
variable {T : List (Addr × Str)} {H H1 H2 : Hp}
theorem Sm.refl (t : Tabs T H) : Sm T H H := ⟨ExtN.refl H, t⟩
theorem Sm.trans (a : Sm T H H1) (b : Sm T H1 H2) : Sm T H H2 := ⟨a.1.trans b.1, b.2⟩
theorem Sm.of (t : Tabs T H) (s : Same H H1) : Sm T H H1 := ⟨ExtN.of s, t.ext s⟩
theorem Sm.ext (a : Sm T H H1) (s : Same H1 H2) : Sm T H H2 := a.trans (Sm.of a.2 s)
theorem Sm.new (a : Sm T H H1) {p : Addr} {o : HO} (h : H1 p = none) : Sm T H (upd H1 p o) := a.ext (same_upd h)
theorem Sm.get (a : Sm T H H1) {b : Addr} {o : HO} (h : H b = some o) (n : ∀ ps, o ≠ .tbl ps := by intro ps z; cases z) : H1 b = some o := a.1 b o h n
theorem extN_seqT {K : PySem.W.Frag} {a : Addr} {xs : List V} (e : ExtN H H1) (h : SqT K H a xs) : SqT K H1 a xs := by
  rcases h with (h | ⟨o, h⟩) | h
  · exact .inl (.inl (e _ _ h fun ps z => by cases z))
  · exact .inl (.inr ⟨o, e _ _ h fun ps z => by cases z⟩)
  · exact .inr h
/-- what a pen's draw leaves -/
theorem Tabs.kp {d : Addr} {kvs : List (Key × V)} (t : Tabs T H) (hd : H d = some (.dK kvs)) (s : Kp d H H1) : Tabs T H1 := fun p hp => by
  obtain ⟨ps, h1, h2, h3⟩ := t p hp
  have ne : ∀ {b : Addr} {o : HO}, H b = some o → o ≠ .dK kvs → H1 b = some o := fun {b o} q n => s b o q fun z => n (by rw [z, hd] at q; exact (Option.some.inj q).symm)
  refine ⟨ps, ne h1 (by intro z; cases z), h2, fun pos cv hc => ?_⟩
  obtain ⟨c, e1, e2⟩ := h3 pos cv hc
  exact ⟨c, e1, ne e2 (by intro z; unfold CodeO at z; cases z)⟩
end
end Sh
set_option Elab.async false
set_option linter.all false
set_option maxRecDepth 100000
set_option maxHeartbeats 4000000
namespace Sh
open PySem PySem.Spec PyProof.Rows L2
section
variable {X : Cx}
/-- name = {..} on one line, the name a local -/
theorem ps_setDc {i : Nat} {y : Str} {py : Pos} {kx vx tg iter : Expr} {ifs : List Expr} {scope : Scope} {own : List (Str × Nat)} {pos spos : Pos} {wi : TI} {g : TG} {tt : TT} {tk tv : TE} (hc : X.calm = true) (hN : X.N.Nodup) (hy : X.N[i]? = some y) (hyl : X.env.scope.names.lookup y = some .local)
    (hsw : swapsWith (.DictComp kx vx [⟨tg, iter, ifs, 0⟩] scope pos) (some (.Name y py)) spos.line X.env = pure true) (hi : PI X tg iter wi) (ok : BlkOk X.N X.env.scope scope own)
    (hg : ∀ (s : Shared) (H : Hp) (C : Addr) (cl : List (Str × Addr)) (fp : List Addr), PG (X.blk s H scope (compEnvC scope cl C X.env) fp) tg g)
    (ht : ∀ (s : Shared) (H : Hp) (C : Addr) (cl : List (Str × Addr)) (fp : List Addr), PTs (X.blk s H scope (compEnvC scope cl C X.env) fp) ifs tt) (hk : ∀ (s : Shared) (H : Hp) (C : Addr) (cl : List (Str × Addr)) (fp : List Addr), PE (X.blk s H scope (compEnvC scope cl C X.env) fp) kx tk)
    (he : ∀ (s : Shared) (H : Hp) (C : Addr) (cl : List (Str × Addr)) (fp : List Addr), PE (X.blk s H scope (compEnvC scope cl C X.env) fp) vx tv) (hs : ∀ z, foldedSetIterable iter X.env z = pure z := by intro _; rfl) :
    PS X (.Assign [.Name y py] (.DictComp kx vx [⟨tg, iter, ifs, 0⟩] scope pos) spos) (tAsg (tDc wi g tt tk tv (own.map (·.2))) (gName i)) := by
  refine ⟨fun pins s σ H D I h => ?_⟩
  rw [exec_Assign_Name_used _ _ _ _ hsw]
  refine wpAny_bind (wpAny_standAt (wpAny_bind ?_))
  show wpAny _ X.A (do let _ ← comprehension (.DictComp kx vx [⟨tg, iter, ifs, 0⟩] scope pos) scope X.env (firstIterPos [⟨tg, iter, ifs, 0⟩] pos) newDict false (eval iter X.env) (some (assign (.Name y py) X.env))) _ _ s
  have h : tDc wi g tt tk tv (own.map (·.2)) σ H (fun x H1 => gName i x σ H1 D.nx) := h
  refine wpAny_bind (thn (dc_core (Qf := fun _ s' => SP X pins D .next s') hc hN I hi ok hg ht hk he hs h fun L C s' m H' I' q hn f => ?_) fun _ s' hq => wpAny_pure (wpAny_pure hq))
  show wpAny _ _ (assign (.Name y py) X.env (.ref L)) _ _ _
  refine wpAny_assign_Name (store_ok2 (v := V.ref L) I' hN hy (.inl hyl) rfl (fun s2 I2 ⟨a, sb, ha⟩ => ?_) (.inr hyl))
  obtain ⟨f0, f1, f2, f3, f4, f5⟩ := f
  have haC : C ≠ a := ha.elim (fun z => z ▸ f1) fun z e => f4 y a z e.symm
  exact ⟨m, hn.sameBut sb haC, fun h3 sb3 => ⟨_, H', I2.turned (t' := s2.toks) (fun b o hb e => (sb3.2 b hb).trans e) f0 f1 f3 f4 f5, q⟩⟩
theorem sw_trueD {kx vx : Expr} {gs : List Comprehension} {scope : Scope} {pos py : Pos} {y : Str} {l : Nat} {env : Env} (hk : env.scope.kind = .function) (hy : env.scope.names.lookup y = some .local) (hl : (py.line == pos.line) = true)
    (hn : (scope.names.any fun (n, k) => n == y && (k == .local || k == .cell)) = false) : swapsWith (.DictComp kx vx gs scope pos) (some (.Name y py)) l env = pure true := by
  have ky : env.kindOf y = some .local := hy
  have hb : env.blockKind = .function := by unfold Env.blockKind; rw [hk]; rfl
  unfold swapsWith; simp only [hb, ky, hn, Expr.pos, hl]; rfl
end
/-- over a list that stays -/
theorem dc_list {K : PySem.W.Frag} {a : Addr} {xs : List V} {g : TG} {tt : TT} {tk tv : TE} {vs : List Nat} {σ : L2.St} {H1 : Hp} {D : Addr} {Qd : Hp → Prop} (Pv : Nat → Hp → Prop) (h0 : Pv 0 (upd H1 D (.dK []))) (hl : ∀ i H, i ≤ xs.length → Pv i H → SqL K H a xs)
    (hs : ∀ i x H, xs[i]? = some x → Pv i H → g x (wipe σ vs) H fun σ2 H2 => wipe σ2 vs = wipe σ vs ∧ tt σ2 H2 fun b H3 => if b = true then tk σ2 H3 fun y H4 => tv σ2 H4 fun z H5 => ∃ kvs k, y = kV k ∧ H5 D = some (.dK kvs) ∧ kvs.length < sizeLine ∧ Pv (i + 1) (upd H5 D (.dK (putK kvs k z))) else Pv (i + 1) H3)
    (hd : ∀ H, Pv xs.length H → Qd H) :
    ∃ W : Nat → Nat → Hp → Prop, (∃ m, W 0 m (upd H1 D (.dK []))) ∧ ∀ i m H, W i m H → ((Itl K a).stop i H ∧ Qd H) ∨ ((Itl K a).go i H ∧ ∃ Nx : Hp → Prop, (∀ H', Nx H' → ∃ m', m' < m ∧ W (i + 1) m' H') ∧ ∀ x H', (Itl K a).yld i H x H' → g x (wipe σ vs) H' fun σ2 H2 => wipe σ2 vs = wipe σ vs ∧ tt σ2 H2 fun b H3 =>
        if b = true then tk σ2 H3 fun y H4 => tv σ2 H4 fun z H5 => ∃ kvs k, y = kV k ∧ H5 D = some (.dK kvs) ∧ kvs.length < sizeLine ∧ Nx (upd H5 D (.dK (putK kvs k z))) else Nx H3) := by
  refine ⟨fun i m H => m = xs.length - i ∧ i ≤ xs.length ∧ Pv i H, ⟨xs.length, by simp, Nat.zero_le _, h0⟩, ?_⟩
  rintro i m H ⟨rfl, hi, p⟩
  by_cases hlt : i < xs.length
  · refine .inr ⟨⟨xs, xs[i], hl i H hi p, by simp [hlt]⟩, Pv (i + 1), fun H' p' => ⟨xs.length - (i + 1), by omega, rfl, hlt, p'⟩, fun x H' y => ?_⟩
    obtain ⟨rfl, y⟩ := y
    exact hs i x _ (y xs (hl i _ hi p)) p
  · obtain rfl : i = xs.length := by omega
    exact .inl ⟨⟨xs, hl _ H hi p, Nat.le_refl _⟩, hd H p⟩
end Sh
set_option Elab.async false
set_option linter.all false
set_option maxRecDepth 100000
set_option maxHeartbeats 4000000
namespace Sh
open PySem PySem.Spec PyProof.Rows L2
theorem ht_line {o : Expr} {m : Str} {apos pos : Pos} {es : List Expr} {env : Env} (hb : attributeBase o m env (eval o env) = eval o env) (hf : methodCallForm (es.length + ([] : List Keyword).length) (backTo pos (starEach es env)) (backToKw pos (keywordEach [] env)) = true) (hl : (apos.endLine == pos.line) = true) :
    eval (.Call (.Attribute o m apos) es [] pos) env = (do
      let ov ← eval o env
      standAt apos.atName
      let (f, first) ← holding [ov] (getMethod ov m (plainOf o env))
      callWith pos f first (backTo pos (starEach es env)) (backToKw pos (keywordEach [] env))) := by
  have e : ∀ ov, methodCall o m apos pos env ov (es.length + ([] : List Keyword).length) (backTo pos (starEach es env)) (backToKw pos (keywordEach [] env)) = (do
      let (f, first) ← holding [ov] (getMethod ov m (plainOf o env))
      callWith pos f first (backTo pos (starEach es env)) (backToKw pos (keywordEach [] env))) := fun ov => mcall_line hf hl
  have e0 : eval (.Call (.Attribute o m apos) es [] pos) env = (attributeBase o m env (eval o env) >>= fun ov => standAt apos.atName >>= fun _ => methodCall o m apos pos env ov (es.length + ([] : List Keyword).length) (backTo pos (starEach es env)) (backToKw pos (keywordEach [] env))) := by
    first
      | rfl
      | (rw [eval])
      | (unfold eval; rfl)
  rw [e0, hb]
  simp only [e]
end Sh
set_option Elab.async false
set_option linter.all false
set_option maxRecDepth 100000
set_option maxHeartbeats 4000000
namespace Sh
open PySem PySem.Spec PyProof.Rows L2
/-- an expression with two readings: either may be taken -/
def tAlt (t u : TE) : TE := fun σ H Q => t σ H Q ∨ u σ H Q
theorem pe_alt {X : Cx} {e : Expr} {t u : TE} (h : PE X e t) (k : PE X e u) : PE X e (tAlt t u) :=
  ⟨fun pins s σ H Q I q => q.elim (h.run pins s σ H Q I) (k.run pins s σ H Q I)⟩
/-- two promises of one def -/
theorem fn_alt {P : Program} {w : World} {K : PySem.W.Frag} {mg : Str → Option Value} {base : Heap} {CX : CXT} {k : Nat} {f : Addr} {fd : FuncData} {ps : List Str} {sp sp' : Sp}
    (F : FnOk P w K mg base CX k f fd ps sp) (F' : FnOk P w K mg base CX k f fd ps sp') : FnOk P w K mg base CX k f fd ps (fun vs H Q E => sp vs H Q E ∨ sp' vs H Q E) :=
  ⟨fun vs H Q E h => h.elim (F.len vs H Q E) (F'.len vs H Q E),
   fun A outer s H args us vs Q E hr e0 hb hv h => h.elim (F.run A outer s H args us vs Q E hr e0 hb hv) (F'.run A outer s H args us vs Q E hr e0 hb hv)⟩
end Sh
set_option Elab.async false
set_option linter.all false
set_option maxRecDepth 100000
set_option maxHeartbeats 4000000
namespace Sh
open PySem PySem.Spec PyProof.Rows L2
/-- the same values: flat ones, or the same objects -/
def plainV : V → Bool
  | .ref _ => true
  | x => flatB x
theorem eqAt_plain {A : Around} {s : Shared} {x : V} {u v : Value} (f : plainV x = true) (r1 : RelV x u) (r2 : RelV x v) : SeqAt.EqAt A s u v true := by
  cases x with
  | ref a =>
    cases (show u = Value.ref a from r1)
    cases (show v = Value.ref a from r2)
    exact SeqAt.EqAt.same _
  | _ => exact eqAt_same r1 r2 f
/-- (a, ..) == (a, ..), item for item the same -/
def rSameT (K : PySem.W.Frag) (b : Bool) : R2 := fun x y H Q => ∃ p q xs, x = .ref p ∧ y = .ref q ∧ SqT K H p xs ∧ SqT K H q xs ∧ xs.all plainV = true ∧ Q (.bl b) H
section
variable {X : Cx}
theorem items_same {A : Around} {s : Shared} {xs : List V} {us ws : List Value} (f : xs.all plainV = true) (r1 : Vals xs us) (r2 : Vals xs ws) : ∀ j (h1 : j < us.toArray.size) (h2 : j < ws.toArray.size), SeqAt.EqAt A s us.toArray[j] ws.toArray[j] ((fun _ => true) j) := by
  intro j h1 h2
  have h1' : j < us.length := by simpa using h1
  have h2' : j < ws.length := by simpa using h2
  have k : j < xs.length := by rw [r1.length]; exact h1'
  obtain ⟨u, hu, ru⟩ := r1.get (List.getElem?_eq_getElem k)
  obtain ⟨v, hv, rv⟩ := r2.get (List.getElem?_eq_getElem k)
  rw [List.getElem?_eq_getElem h1'] at hu
  rw [List.getElem?_eq_getElem h2'] at hv
  have e1 : us.toArray[j] = u := by rw [← Option.some.inj hu]; simp
  have e2 : ws.toArray[j] = v := by rw [← Option.some.inj hv]; simp
  rw [e1, e2]
  exact eqAt_plain (List.all_eq_true.mp f _ (List.getElem_mem k)) ru rv
theorem op_neSameT (hu : X.A.units < cLine) : OpR X (compareOp .NotEq) (rSameT X.K false) := by
  intro pins s σ H x y v u Q I rx ry h
  obtain ⟨p, q, xs, rfl, rfl, hp, hq, f, z⟩ := h
  cases rx
  cases ry
  obtain ⟨its, r, e, _⟩ := I.tuple hp
  obtain ⟨its2, r2, e2, _⟩ := I.tuple hq
  have key := SeqAt.RcNeAt.tuples (A := X.A) e e2 hu (items_same f r r2)
  have hl : its.toArray.size = its2.toArray.size := by rw [List.size_toArray, List.size_toArray, ← r.length, ← r2.length]
  have e3 : (!((List.range (min its.toArray.size its2.toArray.size)).all (fun _ => true) && its.toArray.size == its2.toArray.size)) = false := by
    rw [show ((List.range (min its.toArray.size its2.toArray.size)).all fun _ => true) = true from List.all_eq_true.mpr fun _ _ => rfl, hl]
    simp
  rw [e3] at key
  exact key X.prog X.w X.xe _ ⟨.bl false, H, I, rfl, z⟩
theorem op_eqSameT (hu : X.A.units < cLine) : OpR X (compareOp .Eq) (rSameT X.K true) := by
  intro pins s σ H x y v u Q I rx ry h
  obtain ⟨p, q, xs, rfl, rfl, hp, hq, f, z⟩ := h
  cases rx
  cases ry
  obtain ⟨its, r, e, _⟩ := I.tuple hp
  obtain ⟨its2, r2, e2, _⟩ := I.tuple hq
  have key := SeqAt.RcAt.tuples (A := X.A) e e2 hu (items_same f r r2)
  have hl : its.toArray.size = its2.toArray.size := by rw [List.size_toArray, List.size_toArray, ← r.length, ← r2.length]
  have e3 : ((List.range (min its.toArray.size its2.toArray.size)).all (fun _ => true) && its.toArray.size == its2.toArray.size) = true := by
    rw [show ((List.range (min its.toArray.size its2.toArray.size)).all fun _ => true) = true from List.all_eq_true.mpr fun _ _ => rfl, hl]
    simp
  rw [e3] at key
  exact key X.prog X.w X.xe _ ⟨.bl true, H, I, rfl, z⟩
end
end Sh
set_option Elab.async false
set_option linter.all false
set_option maxRecDepth 100000
set_option maxHeartbeats 4000000
namespace Sh
open PySem PySem.Spec PySem.W PyProof.Rows L2 NdefX
theorem ec_of {K : Frag} {p : He.Defn} {x q : Str} {st : Stmt} {fd : FuncData} (F : Fun K x q st (He.fAd K p) fd) : fd.code = .ref (He.codeOf K p) := by
  obtain ⟨oc, od, kV, doc, pm, an, cdv, ct, osl, rfl, lk, hcd⟩ := F.ex
  obtain ⟨c, rfl⟩ := He.codeIn_ref hcd
  rw [He.codeOf_eq lk rfl]
/-! ### a head by facts: own exceptions, and tables of defs that make lambdas -/
/-- what classmethods hold -/
def recsG (g : Addr → Option Obj) (as : List Addr) : List Addr := as.flatMap fun a => match g a with
  | some ⟨.type t, _, .fields vs, _⟩ => if t = "classmethod" then vs.toList.filterMap (fun v => match v with | .ref b => some b | _ => none) else []
  | some ⟨.type t, _, .seq vs _, _⟩ => if t = "classmethod" then vs.toList.filterMap (fun v => match v with | .ref b => some b | _ => none) else []
  | _ => []
def asXT (g : Addr → Option Obj) (n : Nat) : List Addr :=
  let a1 := He.asD g n
  let a2 := He.growD g (a1 ++ recsG g a1)
  cStatics :: (a2 ++ cellsG g a2)
/-- a classmethod's def: held by its record -/
structure CD where
  cls : Str
  name : Str
  qual : Str
  st : Stmt
def CD.rcd (K : Frag) (d : CD) : Addr := He.ma K (He.ga K d.cls) d.name
def CD.fn (K : Frag) (d : CD) : Addr := match recIn K (d.rcd K) "classmethod" with
  | some (.ref g :: _) => g
  | _ => 0
def CD.val (d : CD) : XV := some (d.name, d.qual, defArgs d.st, .stmts (defBody d.st), defScope d.st, mainGlobals, [], .none, builtinsNs)
def CD.ok (K : Frag) (d : CD) : Bool := (match recIn K (d.rcd K) "classmethod" with
  | some (.ref _ :: _) => true
  | _ => false) && (fnIn K (d.fn K) && (keepIn K (.ref (d.fn K)) && (readsIn K (He.ga K d.cls) (.type "type") && (decide (specialIn K (.ref (He.ga K d.cls)) "__getattribute__" = some (some (.builtin "type.__getattribute__"))) && ((match findCls K (.ref (He.ga K d.cls)) (.type "type") d.name with
  | some (.get a b c e) => decide (a = .builtin "classmethod.__get__") && (decide (b = .ref (d.rcd K)) && (decide (c = .none) && decide (e = .ref (He.ga K d.cls))))
  | _ => false) && (match K.lookup (d.fn K) with
  | some ⟨_, _, .func fd, _⟩ => codeIn K fd.code d.qual
  | _ => false))))))
theorem CD.read {K : Frag} {d : CD} (h : d.ok K = true) : ClX.CRead K (He.ga K d.cls) (.type "type") := by
  obtain ⟨_, h⟩ := andB h
  obtain ⟨_, h⟩ := andB h
  obtain ⟨_, h⟩ := andB h
  obtain ⟨h1, h⟩ := andB h
  obtain ⟨h2, _⟩ := andB h
  exact ⟨h1, of_decide_eq_true h2⟩
theorem CD.met {K : Frag} {d : CD} (h : d.ok K = true) : ClX.CMet K (He.ga K d.cls) (.type "type") d.name (d.rcd K) (d.fn K) := by
  obtain ⟨h0, h⟩ := andB h
  obtain ⟨hf, h⟩ := andB h
  obtain ⟨_, h⟩ := andB h
  obtain ⟨_, h⟩ := andB h
  obtain ⟨_, h⟩ := andB h
  obtain ⟨h3, _⟩ := andB h
  refine ⟨?_, ?_, hf⟩
  · cases q : findCls K (.ref (He.ga K d.cls)) (.type "type") d.name with
    | none => rw [q] at h3; cases h3
    | some r =>
      rw [q] at h3
      cases r with
      | get a b c e =>
        obtain ⟨e1, h3⟩ := andB h3
        obtain ⟨e2, h3⟩ := andB h3
        obtain ⟨e3, e4⟩ := andB h3
        rw [of_decide_eq_true e1, of_decide_eq_true e2, of_decide_eq_true e3, of_decide_eq_true e4]
      | _ => cases h3
  · unfold CD.fn
    cases q : recIn K (d.rcd K) "classmethod" with
    | none => rw [q] at h0; cases h0
    | some l =>
      rw [q] at h0
      match l, h0 with
      | .ref g :: rest, _ => exact ⟨rest, rfl⟩
theorem CD.fun_ {K : Frag} {d : CD} (h : d.ok K = true) (e : xvOf K (d.fn K) = d.val) : ∃ fd, Fun K d.name d.qual d.st (d.fn K) fd := by
  obtain ⟨_, h⟩ := andB h
  obtain ⟨_, h⟩ := andB h
  obtain ⟨hk, h⟩ := andB h
  obtain ⟨_, h⟩ := andB h
  obtain ⟨_, h⟩ := andB h
  obtain ⟨_, h4⟩ := andB h
  unfold xvOf at e
  cases q : K.lookup (d.fn K) with
  | none => rw [q] at h4; cases h4
  | some o =>
    obtain ⟨oc, od, dt, osl⟩ := o
    rw [q] at h4 e
    cases dt with
    | func fd =>
      obtain ⟨n1, n2, n3, n4, n5, n6, n7, n8, n9, n10, n11, n12, n13, n14, n15⟩ := fd
      have e2 : (some (n1, n2, n3, n4, n5, n6, n7.map (·.1), n8, n15) : XV) = (some (d.name, d.qual, defArgs d.st, .stmts (defBody d.st), defScope d.st, mainGlobals, [], .none, builtinsNs) : XV) := e
      simp only [Option.some.injEq, Prod.mk.injEq] at e2
      obtain ⟨h1, h2, h3, h4', h5, h6, h7, h8, h9⟩ := e2
      cases n7 with
      | cons p r => cases h7
      | nil =>
        subst h1 h2 h3 h4' h5 h6 h8 h9
        exact ⟨_, ⟨_, _, _, _, _, _, _, _, _, rfl, q, h4⟩, hk⟩
    | _ => cases h4
abbrev AlXT : Type := AlX × Bool × List XV
structure SaysXT (fa : List He.Fa) (fn : List He.DefD) (ex : List (Frag → Bool)) (xs : List XD) (tf : List He.Defn) (cm : List CD) (h : Heap) (K : Frag) : Prop where
  s : SaysX fa fn ex xs K
  hd : ∀ p ∈ tf, codeHdIn K (He.cT K p).1 (He.cT K p).2 = true
  out : ∀ p ∈ tf, K.lookup (He.cT K p).2 = none
  empty : ∀ p ∈ tf, h.get? (He.cT K p).2 = some { cls := .none, data := .fields #[] }
  cmo : ∀ (i : Nat) {d : CD}, cm[i]? = some d → d.ok K = true
  cmv : ∀ (i : Nat) {d : CD}, cm[i]? = some d → xvOf K (d.fn K) = d.val
def obsXT (fa : List He.Fa) (fn : List He.DefD) (ex : List (Frag → Bool)) (xs : List XD) (tf : List He.Defn) (cm : List CD) (n : Nat) (g : Addr → Option Obj) : AlXT :=
  (obsX fa fn ex xs (He.frT g (asXT g n)), He.tabsB g tf (He.frT g (asXT g n)) && cm.all (fun d => d.ok (He.frT g (asXT g n))), cm.map fun d => xvOf (He.frT g (asXT g n)) (d.fn (He.frT g (asXT g n))))
def valXT (fn : List He.DefD) (xs : List XD) (cm : List CD) : AlXT := (valX fn xs, true, cm.map CD.val)
theorem saysXT_of {n : Nat} {fa : List He.Fa} {fn : List He.DefD} {ex : List (Frag → Bool)} {xs : List XD} {tf : List He.Defn} {cm : List CD} {h : Heap} (e : obsXT fa fn ex xs tf cm n h.get? = valXT fn xs cm) : SaysXT fa fn ex xs tf cm h (He.frT h.get? (asXT h.get? n)) := by
  have e1 : obsX fa fn ex xs (He.frT h.get? (asXT h.get? n)) = valX fn xs := congrArg (fun z : AlXT => z.1) e
  have e0 : (He.tabsB h.get? tf (He.frT h.get? (asXT h.get? n)) && cm.all (fun d => d.ok (He.frT h.get? (asXT h.get? n)))) = true := congrArg (fun z : AlXT => z.2.1) e
  have e3 : cm.map (fun d => xvOf (He.frT h.get? (asXT h.get? n)) (d.fn (He.frT h.get? (asXT h.get? n)))) = cm.map CD.val := congrArg (fun z : AlXT => z.2.2) e
  obtain ⟨e2, e4⟩ := andB e0
  have key : ∀ p ∈ tf, codeHdIn (He.frT h.get? (asXT h.get? n)) (He.cT (He.frT h.get? (asXT h.get? n)) p).1 (He.cT (He.frT h.get? (asXT h.get? n)) p).2 = true ∧ ∃ o, h.get? (He.cT (He.frT h.get? (asXT h.get? n)) p).2 = some o ∧ He.emptyTab o = true := fun p hp => by
    obtain ⟨h3, h4⟩ := andB (List.all_eq_true.mp e2 p hp)
    refine ⟨h3, ?_⟩
    cases q : h.get? (He.cT (He.frT h.get? (asXT h.get? n)) p).2 with
    | none =>
      rw [q] at h4
      cases h4
    | some o =>
      rw [q] at h4
      exact ⟨o, rfl, h4⟩
  refine ⟨says_of e1, fun p hp => (key p hp).1, fun p hp => ?_, fun p hp => ?_, fun i d hd => List.all_eq_true.mp e4 d (List.mem_of_getElem? hd), fun i d hd => ?_⟩
  · obtain ⟨_, o, q, z⟩ := key p hp
    exact He.frT_none q z
  · obtain ⟨_, o, q, z⟩ := key p hp
    rw [q, He.emptyTab_eq z]
  · have e5 : (cm.map fun d => xvOf (He.frT h.get? (asXT h.get? n)) (d.fn (He.frT h.get? (asXT h.get? n))))[i]? = (cm.map CD.val)[i]? := by rw [e3]
    rw [List.getElem?_map, List.getElem?_map, hd] at e5
    exact Option.some.inj e5
def hookXT (n : Nat) (fa : List He.Fa) (fn : List He.DefD) (ex : List (Frag → Bool)) (xs : List XD) (tf : List He.Defn) (cm : List CD) : PySem.W.Hook where
  α := AlXT
  obs := fun s => obsXT fa fn ex xs tf cm n s.heap.get?
  val := fun _ => valXT fn xs cm
  says := fun _ h => ∃ K : Frag, K.In h ∧ SaysXT fa fn ex xs tf cm h K
  of := fun _ _ e => ⟨_, He.frT_in, saysXT_of e⟩
  keeps := fun _ _ _ ⟨K, hK, c⟩ k => ⟨K, Frag.In.keeps hK k, ⟨c.s, c.hd, c.out, fun p hp => k _ _ (c.empty p hp), c.cmo, c.cmv⟩⟩
theorem obsXT_eq {n : Nat} {fa : List He.Fa} {fn : List He.DefD} {ex : List (Frag → Bool)} {xs : List XD} {tf : List He.Defn} {cm : List CD} {g : Addr → Option Obj} {s : Shared} (h : ∀ a, g a = s.heap.get? a) : obsXT fa fn ex xs tf cm n g = (hookXT n fa fn ex xs tf cm).obs s := by
  have e : g = s.heap.get? := funext h
  rw [e] <;> rfl
end Sh
set_option Elab.async false
set_option linter.all false
set_option maxRecDepth 100000
set_option maxHeartbeats 4000000
namespace Toy
open PySem L2 Sh ShL
def top (i : Nat) : Stmt := PySem.Challenge.pw_treeshed_k01_whole_trees_read.main.body.getD i (.Pass ⟨0, 0, 0, 0⟩)
abbrev s_x_NoPlace : Stmt := inClass (top 6) 0
theorem sc_x_NoPlace : NdefX.NScope ["self", "place", "__class__"] ["self", "place"] ["__class__"] (defScope s_x_NoPlace) := NdefX.nscope_by (by decide +kernel)
abbrev s_is_letters : Stmt := top 13
abbrev N_is_letters : List Str := ["letters", "letter"]
theorem sc_is_letters : FnScope ["letters", "letter"] ["letters"] (defScope s_is_letters) := ⟨rfl, rfl, rfl, by decide +kernel, rfl, by decide +kernel, by decide +kernel⟩
abbrev s_is_word : Stmt := top 14
abbrev N_is_word : List Str := ["letters", "word", "letter"]
theorem sc_is_word : FnScope ["letters", "word", "letter"] ["letters", "word"] (defScope s_is_word) := ⟨rfl, rfl, rfl, by decide +kernel, rfl, by decide +kernel, by decide +kernel⟩
abbrev s_is_value : Stmt := top 15
abbrev N_is_value : List Str := ["value"]
theorem sc_is_value : FnScope ["value"] ["value"] (defScope s_is_value) := ⟨rfl, rfl, rfl, by decide +kernel, rfl, by decide +kernel, by decide +kernel⟩
abbrev s_is_row : Stmt := top 16
abbrev N_is_row : List Str := ["letters", "row", "place", "value", "flag"]
theorem sc_is_row : FnScope ["letters", "row", "place", "value", "flag"] ["letters", "row"] (defScope s_is_row) := ⟨rfl, rfl, rfl, by decide +kernel, rfl, by decide +kernel, by decide +kernel⟩
abbrev s_in_order : Stmt := top 17
abbrev N_in_order : List Str := ["letters", "places", "letter"]
theorem sc_in_order : FnScope ["letters", "places", "letter"] ["letters", "places"] (defScope s_in_order) := ⟨rfl, rfl, rfl, by decide +kernel, rfl, by decide +kernel, by decide +kernel⟩
abbrev s_values_of : Stmt := top 18
abbrev N_values_of : List Str := ["letters", "items", "found", "number", "item", "word", "value"]
theorem sc_values_of : FnScope ["letters", "items", "found", "number", "item", "word", "value"] ["letters", "items"] (defScope s_values_of) := ⟨rfl, rfl, rfl, by decide +kernel, rfl, by decide +kernel, by decide +kernel⟩
abbrev s_beginnings : Stmt := top 19
abbrev N_beginnings : List Str := ["words", "found", "word", "length"]
theorem sc_beginnings : FnScope ["words", "found", "word", "length"] ["words"] (defScope s_beginnings) := ⟨rfl, rfl, rfl, by decide +kernel, rfl, by decide +kernel, by decide +kernel⟩
abbrev s_Tree_init : Stmt := inClass (top 20) 0
abbrev N_Tree_init : List Str := ["self", "letters", "rows", "found", "number", "row", "children", "place"]
theorem sc_Tree_init : FnScope ["self", "letters", "rows", "found", "number", "row", "children", "place"] ["self", "letters", "rows"] (defScope s_Tree_init) := ⟨rfl, rfl, rfl, by decide +kernel, rfl, by decide +kernel, by decide +kernel⟩
abbrev s_Tree_eq : Stmt := inClass (top 20) 1
abbrev N_Tree_eq : List Str := ["self", "other"]
theorem sc_Tree_eq : FnScope ["self", "other"] ["self", "other"] (defScope s_Tree_eq) := ⟨rfl, rfl, rfl, by decide +kernel, rfl, by decide +kernel, by decide +kernel⟩
abbrev s_Tree_has : Stmt := inClass (top 20) 2
abbrev N_Tree_has : List Str := ["self", "place"]
theorem sc_Tree_has : FnScope ["self", "place"] ["self", "place"] (defScope s_Tree_has) := ⟨rfl, rfl, rfl, by decide +kernel, rfl, by decide +kernel, by decide +kernel⟩
abbrev s_Tree_row : Stmt := inClass (top 20) 3
abbrev N_Tree_row : List Str := ["self", "place"]
theorem sc_Tree_row : FnScope ["self", "place"] ["self", "place"] (defScope s_Tree_row) := ⟨rfl, rfl, rfl, by decide +kernel, rfl, by decide +kernel, by decide +kernel⟩
abbrev s_Tree_below : Stmt := inClass (top 20) 4
abbrev N_Tree_below : List Str := ["self", "place"]
theorem sc_Tree_below : FnScope ["self", "place"] ["self", "place"] (defScope s_Tree_below) := ⟨rfl, rfl, rfl, by decide +kernel, rfl, by decide +kernel, by decide +kernel⟩
abbrev s_Tree_value_of : Stmt := inClass (top 20) 5
abbrev N_Tree_value_of : List Str := ["self", "word"]
theorem sc_Tree_value_of : FnScope ["self", "word"] ["self", "word"] (defScope s_Tree_value_of) := ⟨rfl, rfl, rfl, by decide +kernel, rfl, by decide +kernel, by decide +kernel⟩
abbrev s_Tree_word_items : Stmt := inClass (top 20) 6
abbrev N_Tree_word_items : List Str := ["self", "place", "value", "flag"]
theorem sc_Tree_word_items : FnScope ["self", "place", "value", "flag"] ["self"] (defScope s_Tree_word_items) := ⟨rfl, rfl, rfl, by decide +kernel, rfl, by decide +kernel, by decide +kernel⟩
abbrev s_Tree_of : Stmt := inClass (top 20) 7
abbrev N_Tree_of : List Str := ["cls", "letters", "items", "values", "place"]
theorem sc_Tree_of : FnScope ["cls", "letters", "items", "values", "place"] ["cls", "letters", "items"] (defScope s_Tree_of) := ⟨rfl, rfl, rfl, by decide +kernel, rfl, by decide +kernel, by decide +kernel⟩
abbrev s_l_pen : Stmt := top 22
abbrev N_l_pen : List Str := ["_law_script"]
theorem sc_l_pen : FnScope ["_law_script"] ["_law_script"] (defScope s_l_pen) := ⟨rfl, rfl, rfl, by decide +kernel, rfl, by decide +kernel, by decide +kernel⟩
abbrev s_l_draw : Stmt := top 23
abbrev N_l_draw : List Str := ["_law_pen_here", "_law_many", "_law_digit", "_law_k", "_law_told", "_law_cell", "_law_mix"]
theorem sc_l_draw : FnScope ["_law_pen_here", "_law_many", "_law_digit", "_law_k", "_law_told", "_law_cell", "_law_mix"] ["_law_pen_here", "_law_many"] (defScope s_l_draw) := ⟨rfl, rfl, rfl, by decide +kernel, rfl, by decide +kernel, by decide +kernel⟩
abbrev s_l_pick : Stmt := top 24
abbrev N_l_pick : List Str := ["_law_pen_here", "_law_some"]
theorem sc_l_pick : FnScope ["_law_pen_here", "_law_some"] ["_law_pen_here", "_law_some"] (defScope s_l_pick) := ⟨rfl, rfl, rfl, by decide +kernel, rfl, by decide +kernel, by decide +kernel⟩
abbrev s_l_letters : Stmt := top 25
abbrev N_l_letters : List Str := ["_law_pen_here", "_law_most", "_law_pool", "_law_found", "_law_k"]
theorem sc_l_letters : FnScope ["_law_pen_here", "_law_most", "_law_pool", "_law_found", "_law_k"] ["_law_pen_here", "_law_most"] (defScope s_l_letters) := ⟨rfl, rfl, rfl, by decide +kernel, rfl, by decide +kernel, by decide +kernel⟩
abbrev s_l_places : Stmt := top 26
abbrev N_l_places : List Str := ["_law_pen_here", "_law_letters_here", "_law_many", "_law_places_here", "_law_k", "_law_place"]
theorem sc_l_places : FnScope ["_law_pen_here", "_law_letters_here", "_law_many", "_law_places_here", "_law_k", "_law_place"] ["_law_pen_here", "_law_letters_here", "_law_many"] (defScope s_l_places) := ⟨rfl, rfl, rfl, by decide +kernel, rfl, by decide +kernel, by decide +kernel⟩
abbrev s_l_row : Stmt := top 27
abbrev N_l_row : List Str := ["_law_pen_here", "_law_place", "_law_value"]
theorem sc_l_row : FnScope ["_law_pen_here", "_law_place", "_law_value"] ["_law_pen_here", "_law_place"] (defScope s_l_row) := ⟨rfl, rfl, rfl, by decide +kernel, rfl, by decide +kernel, by decide +kernel⟩
abbrev s_l_shuffled : Stmt := top 28
abbrev N_l_shuffled : List Str := ["_law_pen_here", "_law_some", "_law_found", "_law_thing"]
theorem sc_l_shuffled : FnScope ["_law_pen_here", "_law_some", "_law_found", "_law_thing"] ["_law_pen_here", "_law_some"] (defScope s_l_shuffled) := ⟨rfl, rfl, rfl, by decide +kernel, rfl, by decide +kernel, by decide +kernel⟩
abbrev s_l_ordered : Stmt := top 29
abbrev N_l_ordered : List Str := ["_law_letters_here", "_law_words", "_law_sign"]
theorem sc_l_ordered : FnScope ["_law_letters_here", "_law_words", "_law_sign"] ["_law_letters_here", "_law_words"] (defScope s_l_ordered) := ⟨rfl, rfl, rfl, by decide +kernel, rfl, by decide +kernel, by decide +kernel⟩
abbrev s_l_no_place : Stmt := top 30
abbrev N_l_no_place : List Str := ["_law_function", "_law_told", "e"]
theorem sc_l_no_place : FnScope ["_law_function", "_law_told", "e"] ["_law_function"] (defScope s_l_no_place) := ⟨rfl, rfl, rfl, by decide +kernel, rfl, by decide +kernel, by decide +kernel⟩
abbrev s_l_is_row : Stmt := top 31
abbrev N_l_is_row : List Str := ["_law_row_here", "_law_place", "_law_value", "_law_flag"]
theorem sc_l_is_row : FnScope ["_law_row_here", "_law_place", "_law_value", "_law_flag"] ["_law_row_here", "_law_place", "_law_value", "_law_flag"] (defScope s_l_is_row) := ⟨rfl, rfl, rfl, by decide +kernel, rfl, by decide +kernel, by decide +kernel⟩
abbrev s_l_near : Stmt := top 32
abbrev N_l_near : List Str := ["_law_pen_here", "_law_letters_here", "_law_places_here", "_law_place", "_law_near_here", "_law_odd"]
theorem sc_l_near : FnScope ["_law_pen_here", "_law_letters_here", "_law_places_here", "_law_place", "_law_near_here", "_law_odd"] ["_law_pen_here", "_law_letters_here", "_law_places_here"] (defScope s_l_near) := ⟨rfl, rfl, rfl, by decide +kernel, rfl, by decide +kernel, by decide +kernel⟩
abbrev s_l_right_at : Stmt := top 33
abbrev N_l_right_at : List Str := ["_law_tree", "_law_letters_here", "_law_there", "_law_rows", "_law_place", "_law_is_there", "_law_row_here", "_law_letter"]
theorem sc_l_right_at : FnScope ["_law_tree", "_law_letters_here", "_law_there", "_law_rows", "_law_place", "_law_is_there", "_law_row_here", "_law_letter"] ["_law_tree", "_law_letters_here", "_law_there", "_law_rows", "_law_place"] (defScope s_l_right_at) := ⟨rfl, rfl, rfl, by decide +kernel, rfl, by decide +kernel, by decide +kernel⟩
abbrev s_l_right_told : Stmt := top 34
abbrev N_l_right_told : List Str := ["_law_tree", "_law_letters_here", "_law_rows", "_law_kept", "_law_k", "_law_row_here", "_law_item"]
theorem sc_l_right_told : FnScope ["_law_tree", "_law_letters_here", "_law_rows", "_law_kept", "_law_k", "_law_row_here", "_law_item"] ["_law_tree", "_law_letters_here", "_law_rows"] (defScope s_l_right_told) := ⟨rfl, rfl, rfl, by decide +kernel, rfl, by decide +kernel, by decide +kernel⟩
abbrev s_l_right_of_kept : Stmt := top 35
abbrev N_l_right_of_kept : List Str := ["_law_letters_here", "_law_rows", "_law_shuffled_here", "_law_kept", "_law_there", "_law_word", "_law_value", "_law_k", "_law_due", "_law_place", "_law_values", "_law_items", "_law_tree", "_law_row_here"]
theorem sc_l_right_of_kept : FnScope ["_law_letters_here", "_law_rows", "_law_shuffled_here", "_law_kept", "_law_there", "_law_word", "_law_value", "_law_k", "_law_due", "_law_place", "_law_values", "_law_items", "_law_tree", "_law_row_here"] ["_law_letters_here", "_law_rows", "_law_shuffled_here"] (defScope s_l_right_of_kept) := ⟨rfl, rfl, rfl, by decide +kernel, rfl, by decide +kernel, by decide +kernel⟩
abbrev s_l_changed : Stmt := top 36
abbrev N_l_changed : List Str := ["_law_pen_here", "_law_letters_here", "_law_rows", "_law_kind", "_law_at", "_law_place", "_law_value", "_law_flag", "_law_other", "_law_parents", "_law_lost", "_law_there", "_law_fresh", "_law_k", "_law_row_here"]
theorem sc_l_changed : FnScope ["_law_pen_here", "_law_letters_here", "_law_rows", "_law_kind", "_law_at", "_law_place", "_law_value", "_law_flag", "_law_other", "_law_parents", "_law_lost", "_law_there", "_law_fresh", "_law_k", "_law_row_here"] ["_law_pen_here", "_law_letters_here", "_law_rows"] (defScope s_l_changed) := ⟨rfl, rfl, rfl, by decide +kernel, rfl, by decide +kernel, by decide +kernel⟩
abbrev s_law : Stmt := top 37
abbrev N_law : List Str := ["_law_script", "_law_pen_here", "_law_letters_here", "_law_places_here", "_law_far", "_law_rows", "_law_shuffled_here", "_law_told", "_law_tree", "_law_again", "_law_k", "_law_place", "_law_signs", "_law_others", "_law_length", "_law_row_here"]
theorem sc_law : FnScope ["_law_script", "_law_pen_here", "_law_letters_here", "_law_places_here", "_law_far", "_law_rows", "_law_shuffled_here", "_law_told", "_law_tree", "_law_again", "_law_k", "_law_place", "_law_signs", "_law_others", "_law_length", "_law_row_here"] ["_law_script"] (defScope s_law) := ⟨rfl, rfl, rfl, by decide +kernel, rfl, by decide +kernel, by decide +kernel⟩
structure Tx (P : Program) (K : PySem.W.Frag) (mg : Str → Option Value) where
  b_super : mg "super" = none
  c_ShedError : Addr
  m_ShedError : mg "ShedError" = some (.ref c_ShedError)
  iS : (PySem.W.clsIn K c_ShedError).isSome = true
  tS : PySem.W.typeIn K (.ref c_ShedError) = some (.type "type")
  o_get : PySem.W.specialIn K (.builtin "object.__class__") "__get__" = some (some (.builtin "getset_descriptor.__get__"))
  o_tk : PySem.W.takesIn K (.builtin "object.__class__") = some true
  c_NoPlace : Addr
  m_NoPlace : mg "NoPlace" = some (.ref c_NoPlace)
  x_NoPlace : XCls K c_ShedError c_NoPlace
  a_x_NoPlace : Addr
  fd_x_NoPlace : FuncData
  i_NoPlace : XInit P K mg c_NoPlace a_x_NoPlace "NoPlace.__init__" s_x_NoPlace fd_x_NoPlace
  nf_NoPlace_place : PySem.W.findIn K (.ref c_NoPlace) "place" = some none
  kb_NoPlace_1 : KBn K fd_x_NoPlace ["self", "place"] 2 [] rotU rotV
  xnd : [c_NoPlace, c_ShedError].Nodup
  b_len : mg "len" = none
  b_isinstance : mg "isinstance" = none
  b_int : mg "int" = none
  b_list : mg "list" = none
  b_sorted : mg "sorted" = none
  b_abs : mg "abs" = none
  b_range : mg "range" = none
  b_tuple : mg "tuple" = none
  b_max : mg "max" = none
  b_all : mg "all" = none
  b_enumerate : mg "enumerate" = none
  b_str : mg "str" = none
  b_bool : mg "bool" = none
  b_NotImplemented : mg "NotImplemented" = none
  b_dict : mg "dict" = none
  c_Tree : Addr
  m_Tree : mg "Tree" = some (.ref c_Tree)
  cl_Tree : Cls K c_Tree
  na_Tree_letters : NoAttr K c_Tree "letters"
  na_Tree_rows : NoAttr K c_Tree "rows"
  na_Tree_size : NoAttr K c_Tree "size"
  na_Tree_height : NoAttr K c_Tree "height"
  na_Tree_triples : NoAttr K c_Tree "triples"
  na_Tree_ways : NoAttr K c_Tree "ways"
  m_SMALL : ∃ t, mg "SMALL" = some (.str "abcdefghijklmnopqrstuvwxyz" t)
  m_MOST_LETTERS : ∃ t, mg "MOST_LETTERS" = some (.int 200 t)
  m_MOST_PLACES : ∃ t, mg "MOST_PLACES" = some (.int 2000 t)
  m_MOST_VALUE : ∃ t, mg "MOST_VALUE" = some (.int 9 t)
  a_is_letters : Addr
  fd_is_letters : FuncData
  F_is_letters : Fun K "is_letters" "is_letters" s_is_letters a_is_letters fd_is_letters
  bi_is_letters : Binds K fd_is_letters ["letters"] []
  m_is_letters : mg "is_letters" = some (.ref a_is_letters)
  a_is_word : Addr
  fd_is_word : FuncData
  F_is_word : Fun K "is_word" "is_word" s_is_word a_is_word fd_is_word
  bi_is_word : Binds K fd_is_word ["letters", "word"] []
  m_is_word : mg "is_word" = some (.ref a_is_word)
  a_is_value : Addr
  fd_is_value : FuncData
  F_is_value : Fun K "is_value" "is_value" s_is_value a_is_value fd_is_value
  bi_is_value : Binds K fd_is_value ["value"] []
  m_is_value : mg "is_value" = some (.ref a_is_value)
  a_is_row : Addr
  fd_is_row : FuncData
  F_is_row : Fun K "is_row" "is_row" s_is_row a_is_row fd_is_row
  bi_is_row : Binds K fd_is_row ["letters", "row"] []
  m_is_row : mg "is_row" = some (.ref a_is_row)
  a_in_order : Addr
  fd_in_order : FuncData
  F_in_order : Fun K "in_order" "in_order" s_in_order a_in_order fd_in_order
  bi_in_order : Binds K fd_in_order ["letters", "places"] []
  m_in_order : mg "in_order" = some (.ref a_in_order)
  a_values_of : Addr
  fd_values_of : FuncData
  F_values_of : Fun K "values_of" "values_of" s_values_of a_values_of fd_values_of
  bi_values_of : Binds K fd_values_of ["letters", "items"] []
  m_values_of : mg "values_of" = some (.ref a_values_of)
  a_beginnings : Addr
  fd_beginnings : FuncData
  F_beginnings : Fun K "beginnings" "beginnings" s_beginnings a_beginnings fd_beginnings
  bi_beginnings : Binds K fd_beginnings ["words"] []
  m_beginnings : mg "beginnings" = some (.ref a_beginnings)
  a_Tree_init : Addr
  fd_Tree_init : FuncData
  F_Tree_init : Fun K "__init__" "Tree.__init__" s_Tree_init a_Tree_init fd_Tree_init
  bi_Tree_init : Binds K fd_Tree_init ["self", "letters", "rows"] []
  mk_Tree : Mk K c_Tree a_Tree_init
  a_Tree_eq : Addr
  fd_Tree_eq : FuncData
  F_Tree_eq : Fun K "__eq__" "Tree.__eq__" s_Tree_eq a_Tree_eq fd_Tree_eq
  bi_Tree_eq : Binds K fd_Tree_eq ["self", "other"] []
  me_Tree_eq : Meth K c_Tree "__eq__" a_Tree_eq
  a_Tree_has : Addr
  fd_Tree_has : FuncData
  F_Tree_has : Fun K "has" "Tree.has" s_Tree_has a_Tree_has fd_Tree_has
  bi_Tree_has : Binds K fd_Tree_has ["self", "place"] []
  me_Tree_has : Meth K c_Tree "has" a_Tree_has
  a_Tree_row : Addr
  fd_Tree_row : FuncData
  F_Tree_row : Fun K "row" "Tree.row" s_Tree_row a_Tree_row fd_Tree_row
  bi_Tree_row : Binds K fd_Tree_row ["self", "place"] []
  me_Tree_row : Meth K c_Tree "row" a_Tree_row
  a_Tree_below : Addr
  fd_Tree_below : FuncData
  F_Tree_below : Fun K "below" "Tree.below" s_Tree_below a_Tree_below fd_Tree_below
  bi_Tree_below : Binds K fd_Tree_below ["self", "place"] []
  me_Tree_below : Meth K c_Tree "below" a_Tree_below
  a_Tree_value_of : Addr
  fd_Tree_value_of : FuncData
  F_Tree_value_of : Fun K "value_of" "Tree.value_of" s_Tree_value_of a_Tree_value_of fd_Tree_value_of
  bi_Tree_value_of : Binds K fd_Tree_value_of ["self", "word"] []
  me_Tree_value_of : Meth K c_Tree "value_of" a_Tree_value_of
  a_Tree_word_items : Addr
  fd_Tree_word_items : FuncData
  F_Tree_word_items : Fun K "word_items" "Tree.word_items" s_Tree_word_items a_Tree_word_items fd_Tree_word_items
  bi_Tree_word_items : Binds K fd_Tree_word_items ["self"] []
  me_Tree_word_items : Meth K c_Tree "word_items" a_Tree_word_items
  a_Tree_of : Addr
  fd_Tree_of : FuncData
  F_Tree_of : Fun K "of" "Tree.of" s_Tree_of a_Tree_of fd_Tree_of
  bi_Tree_of : Binds K fd_Tree_of ["cls", "letters", "items"] []
  a_l_pen : Addr
  fd_l_pen : FuncData
  F_l_pen : Fun K "_law_pen" "_law_pen" s_l_pen a_l_pen fd_l_pen
  bi_l_pen : Binds K fd_l_pen ["_law_script"] []
  m_l_pen : mg "_law_pen" = some (.ref a_l_pen)
  a_l_draw : Addr
  fd_l_draw : FuncData
  F_l_draw : Fun K "_law_draw" "_law_draw" s_l_draw a_l_draw fd_l_draw
  bi_l_draw : Binds K fd_l_draw ["_law_pen_here", "_law_many"] []
  m_l_draw : mg "_law_draw" = some (.ref a_l_draw)
  a_l_pick : Addr
  fd_l_pick : FuncData
  F_l_pick : Fun K "_law_pick" "_law_pick" s_l_pick a_l_pick fd_l_pick
  bi_l_pick : Binds K fd_l_pick ["_law_pen_here", "_law_some"] []
  m_l_pick : mg "_law_pick" = some (.ref a_l_pick)
  a_l_letters : Addr
  fd_l_letters : FuncData
  F_l_letters : Fun K "_law_letters" "_law_letters" s_l_letters a_l_letters fd_l_letters
  bi_l_letters : Binds K fd_l_letters ["_law_pen_here", "_law_most"] []
  m_l_letters : mg "_law_letters" = some (.ref a_l_letters)
  a_l_places : Addr
  fd_l_places : FuncData
  F_l_places : Fun K "_law_places" "_law_places" s_l_places a_l_places fd_l_places
  bi_l_places : Binds K fd_l_places ["_law_pen_here", "_law_letters_here", "_law_many"] []
  m_l_places : mg "_law_places" = some (.ref a_l_places)
  a_l_row : Addr
  fd_l_row : FuncData
  F_l_row : Fun K "_law_row" "_law_row" s_l_row a_l_row fd_l_row
  bi_l_row : Binds K fd_l_row ["_law_pen_here", "_law_place"] []
  m_l_row : mg "_law_row" = some (.ref a_l_row)
  a_l_shuffled : Addr
  fd_l_shuffled : FuncData
  F_l_shuffled : Fun K "_law_shuffled" "_law_shuffled" s_l_shuffled a_l_shuffled fd_l_shuffled
  bi_l_shuffled : Binds K fd_l_shuffled ["_law_pen_here", "_law_some"] []
  m_l_shuffled : mg "_law_shuffled" = some (.ref a_l_shuffled)
  a_l_ordered : Addr
  fd_l_ordered : FuncData
  F_l_ordered : Fun K "_law_ordered" "_law_ordered" s_l_ordered a_l_ordered fd_l_ordered
  bi_l_ordered : Binds K fd_l_ordered ["_law_letters_here", "_law_words"] []
  m_l_ordered : mg "_law_ordered" = some (.ref a_l_ordered)
  a_l_no_place : Addr
  fd_l_no_place : FuncData
  F_l_no_place : Fun K "_law_no_place" "_law_no_place" s_l_no_place a_l_no_place fd_l_no_place
  bi_l_no_place : Binds K fd_l_no_place ["_law_function"] []
  m_l_no_place : mg "_law_no_place" = some (.ref a_l_no_place)
  a_l_is_row : Addr
  fd_l_is_row : FuncData
  F_l_is_row : Fun K "_law_is_row" "_law_is_row" s_l_is_row a_l_is_row fd_l_is_row
  bi_l_is_row : Binds K fd_l_is_row ["_law_row_here", "_law_place", "_law_value", "_law_flag"] []
  m_l_is_row : mg "_law_is_row" = some (.ref a_l_is_row)
  a_l_near : Addr
  fd_l_near : FuncData
  F_l_near : Fun K "_law_near" "_law_near" s_l_near a_l_near fd_l_near
  bi_l_near : Binds K fd_l_near ["_law_pen_here", "_law_letters_here", "_law_places_here"] []
  m_l_near : mg "_law_near" = some (.ref a_l_near)
  a_l_right_at : Addr
  fd_l_right_at : FuncData
  F_l_right_at : Fun K "_law_right_at" "_law_right_at" s_l_right_at a_l_right_at fd_l_right_at
  bi_l_right_at : Binds K fd_l_right_at ["_law_tree", "_law_letters_here", "_law_there", "_law_rows", "_law_place"] []
  m_l_right_at : mg "_law_right_at" = some (.ref a_l_right_at)
  a_l_right_told : Addr
  fd_l_right_told : FuncData
  F_l_right_told : Fun K "_law_right_told" "_law_right_told" s_l_right_told a_l_right_told fd_l_right_told
  bi_l_right_told : Binds K fd_l_right_told ["_law_tree", "_law_letters_here", "_law_rows"] []
  m_l_right_told : mg "_law_right_told" = some (.ref a_l_right_told)
  a_l_right_of_kept : Addr
  fd_l_right_of_kept : FuncData
  F_l_right_of_kept : Fun K "_law_right_of_kept" "_law_right_of_kept" s_l_right_of_kept a_l_right_of_kept fd_l_right_of_kept
  bi_l_right_of_kept : Binds K fd_l_right_of_kept ["_law_letters_here", "_law_rows", "_law_shuffled_here"] []
  m_l_right_of_kept : mg "_law_right_of_kept" = some (.ref a_l_right_of_kept)
  a_l_changed : Addr
  fd_l_changed : FuncData
  F_l_changed : Fun K "_law_changed" "_law_changed" s_l_changed a_l_changed fd_l_changed
  bi_l_changed : Binds K fd_l_changed ["_law_pen_here", "_law_letters_here", "_law_rows"] []
  m_l_changed : mg "_law_changed" = some (.ref a_l_changed)
  a_law : Addr
  fd_law : FuncData
  F_law : Fun K "law" "law" s_law a_law fd_law
  bi_law : Binds K fd_law ["_law_script"] []
  m_law : mg "law" = some (.ref a_law)
  eq_Tree : EqC K c_Tree a_Tree_eq
  ca_Tree : PySem.W.findIn K (.ref c_Tree) "__class__" = some (some (.builtin "object.__class__"))
  kl_Tree : PySem.W.kitOne K (.type "list") (.ref c_Tree) = some false
  cr_Tree : ClX.CRead K c_Tree (.type "type")
  p_Tree_of : Addr
  cm_Tree_of : ClX.CMet K c_Tree (.type "type") "of" p_Tree_of a_Tree_of
  kc_in_order : Addr
  tb_in_order : Addr
  ec_in_order : fd_in_order.code = .ref kc_in_order
  kc_l_ordered : Addr
  tb_l_ordered : Addr
  ec_l_ordered : fd_l_ordered.code = .ref kc_l_ordered
  kc_l_right_at : Addr
  tb_l_right_at : Addr
  ec_l_right_at : fd_l_right_at.code = .ref kc_l_right_at
  tnd : [tb_in_order, tb_l_ordered, tb_l_right_at].Nodup
section
variable {P : Program} {K : PySem.W.Frag} {mg : Str → Option Value}
def tabs (T : Tx P K mg) : List (Addr × Str) := [(T.tb_in_order, (PyProof.Rows.envOfC "in_order" (defScope s_in_order) 0 0 .none).qual ++ "<lambda>"), (T.tb_l_ordered, (PyProof.Rows.envOfC "_law_ordered" (defScope s_l_ordered) 0 0 .none).qual ++ "<lambda>"), (T.tb_l_right_at, (PyProof.Rows.envOfC "_law_right_at" (defScope s_l_right_at) 0 0 .none).qual ++ "<lambda>")]
theorem mem_in_order (T : Tx P K mg) : (T.tb_in_order, (PyProof.Rows.envOfC "in_order" (defScope s_in_order) 0 0 .none).qual ++ "<lambda>") ∈ tabs T := .head _
theorem uniq_in_order (T : Tx P K mg) : ∀ p ∈ tabs T, p.1 = T.tb_in_order → p.2 = (PyProof.Rows.envOfC "in_order" (defScope s_in_order) 0 0 .none).qual ++ "<lambda>" := ShL.tab_uniq (T := tabs T) T.tnd (mem_in_order T)
theorem mem_l_ordered (T : Tx P K mg) : (T.tb_l_ordered, (PyProof.Rows.envOfC "_law_ordered" (defScope s_l_ordered) 0 0 .none).qual ++ "<lambda>") ∈ tabs T := .tail _ (.head _)
theorem uniq_l_ordered (T : Tx P K mg) : ∀ p ∈ tabs T, p.1 = T.tb_l_ordered → p.2 = (PyProof.Rows.envOfC "_law_ordered" (defScope s_l_ordered) 0 0 .none).qual ++ "<lambda>" := ShL.tab_uniq (T := tabs T) T.tnd (mem_l_ordered T)
theorem mem_l_right_at (T : Tx P K mg) : (T.tb_l_right_at, (PyProof.Rows.envOfC "_law_right_at" (defScope s_l_right_at) 0 0 .none).qual ++ "<lambda>") ∈ tabs T := .tail _ (.tail _ (.head _))
theorem uniq_l_right_at (T : Tx P K mg) : ∀ p ∈ tabs T, p.1 = T.tb_l_right_at → p.2 = (PyProof.Rows.envOfC "_law_right_at" (defScope s_l_right_at) 0 0 .none).qual ++ "<lambda>" := ShL.tab_uniq (T := tabs T) T.tnd (mem_l_right_at T)
structure Bx (T : Tx P K mg) (base : Heap) : Prop where
  tb_in_order : LamX.TabB base mg T.kc_in_order T.tb_in_order
  tb_l_ordered : LamX.TabB base mg T.kc_l_ordered T.tb_l_ordered
  tb_l_right_at : LamX.TabB base mg T.kc_l_right_at T.tb_l_right_at
end
theorem hu65_of {A : Around} {k : Nat} (hr : Room k A) : A.units + 65 < cLine := by have := hr.un; omega
end Toy
set_option Elab.async false
set_option linter.all false
set_option maxRecDepth 100000
set_option maxHeartbeats 4000000
namespace Toy
open PySem L2 Sh ShL
/-! ### the exceptions are made -/
theorem kp_two {H : Hp} {a dx : Addr} {o1 o2 : HO} (hd : H dx = none) : Kp a H (upd (upd H dx o1) a o2) := fun b o e nb => by
  rw [upd_ne nb, upd_ne (ne_of_none e hd)]
  exact e
theorem kp_more {H H1 : Hp} {a dx : Addr} {o1 : HO} (k : Kp a H H1) (hd : H dx = none) : Kp a H (upd H1 dx o1) := fun b o e nb => by
  rw [upd_ne (ne_of_none e hd)]
  exact k b o e nb
section
variable {P : Program} {w : World} {K : PySem.W.Frag} {mg : Str → Option Value} {base : Heap}
theorem ok_x_NoPlace (T : Tx P K mg) : FnOk P w K mg base CX0 1 T.a_x_NoPlace T.fd_x_NoPlace ["self", "place"] (spXI T.c_NoPlace ["place"]) := by
  obtain ⟨oc, od, kV, doc, pm, an, ct, osl, cc, cda, hfd, lk, hcd, SF⟩ := T.i_NoPlace.fn
  rw [hfd] at lk ⊢
  refine fn_super (k := 0) lk hcd sc_x_NoPlace rfl SF rfl (fun vs H Q E h => ?_) (fun A outer s H vs Q E hr h => ?_)
  · obtain ⟨a, ws, rfl, hl, _⟩ := h
    rw [List.length_cons, hl]
    rfl
  obtain ⟨a, ws, rfl, hl, ha, q⟩ := h
  match ws, hl, q with
  | [v1], _, q =>
  refine ⟨a, T.c_NoPlace, _, _, rfl, ha, T.i_NoPlace.sc, (pa_cons (pv 1) pa_nil), (pss_one (ps_ost (pv 0) (pv 1))), ?_⟩
  refine ⟨_, rfl, by show 1 ≤ 1000; decide, ha, ?_⟩
  refine ⟨_, rfl, _, rfl, a, T.c_NoPlace, rfl, T.i_NoPlace.m.ox, T.nf_NoPlace_place, .inl ⟨ha, fun dx hd hne => ?_⟩⟩
  exact q _ dx (kp_two hd) hd hne upd_same (by rw [upd_ne hne, upd_same]; rfl)
end
end Toy
set_option Elab.async false
set_option linter.all false
set_option maxRecDepth 100000
set_option maxHeartbeats 4000000
namespace Toy
open PySem L2 Sh ShL
theorem ints_dp {K : PySem.W.Frag} {H : Hp} : ∀ ns : List Int, DpAll K H (ns.map V.int) (ns.map PyData.int)
  | [] => .nil
  | n :: ns => .cons (.int n) (ints_dp ns)
theorem ints_lay : ∀ ns : List Int, PyData.canLayAll0 (ns.map PyData.int) = true ∧ PyData.depthAll (ns.map PyData.int) ≤ 1
  | [] => ⟨rfl, by simp [PyData.depthAll]⟩
  | n :: ns => by
    obtain ⟨h1, h2⟩ := ints_lay ns
    refine ⟨by simp only [List.map_cons, PyData.canLayAll0, PyData.canLay0, h1]; rfl, ?_⟩
    simp only [List.map_cons, PyData.depthAll, PyData.depth]
    omega
theorem ints_shaped (ns : List Int) : SeqAt.shaped (.list (ns.map PyData.int)) = true := by
  obtain ⟨h1, h2⟩ := ints_lay ns
  show (PyData.canLay0 (.list (ns.map PyData.int)) && decide (PyData.depth (.list (ns.map PyData.int)) ≤ 64)) = true
  rw [Bool.and_eq_true]
  exact ⟨by simp only [PyData.canLay0]; exact h1, decide_eq_true (by simp only [PyData.depth]; omega)⟩
theorem ints_eqv (ns : List Int) : PyData.eqv (.list (ns.map PyData.int)) (.list []) = decide (ns.length = 0) := by
  cases ns <;> simp [PyData.eqv, PyData.eqvAll]
theorem posI {n : Nat} [NeZero n] : (0 : Int) < (OfNat.ofNat n : Int) := by
  have := Nat.pos_of_ne_zero (NeZero.ne n)
  exact Int.ofNat_lt.mpr this
/-! ### the pen -/
def penL (c : Addr) (b l : Int) : List (Key × V) := [(.inr "cells", .ref c), (.inr "opened", .int b), (.inr "left", .int l)]
theorem k12 : ¬ (("cells" : Str) = "opened") := by decide +kernel
theorem k13 : ¬ (("cells" : Str) = "left") := by decide +kernel
theorem k23 : ¬ (("opened" : Str) = "left") := by decide +kernel
theorem ki {a b : Str} (h : ¬ a = b) : ¬ (Sum.inr a : Key) = Sum.inr b := fun e => h (Sum.inr.inj e)
theorem pen_cells (c : Addr) (b l : Int) : valV (penL c b l) (.inr "cells") = some (.ref c) := valV_pos rfl
theorem pen_next (c : Addr) (b l : Int) : valV (penL c b l) (.inr "opened") = some (.int b) := (valV_neg (ki k12)).trans (valV_pos rfl)
theorem pen_left (c : Addr) (b l : Int) : valV (penL c b l) (.inr "left") = some (.int l) := (valV_neg (ki k13)).trans ((valV_neg (ki k23)).trans (valV_pos rfl))
theorem put2 {a b c : Str} {x y z v : V} (h12 : ¬ a = b) (h23 : ¬ b = c) : putK ([(.inr a, x), (.inr b, y), (.inr c, z)] : List (Key × V)) (.inr b) v = [(.inr a, x), (.inr b, v), (.inr c, z)] := by
  have h32 : ¬ c = b := fun e => h23 e.symm
  unfold putK
  simp [h12, h32]
theorem put3 {a b c : Str} {x y z v : V} (h13 : ¬ a = c) (h23 : ¬ b = c) : putK ([(.inr a, x), (.inr b, y), (.inr c, z)] : List (Key × V)) (.inr c) v = [(.inr a, x), (.inr b, y), (.inr c, v)] := by
  unfold putK
  simp [h13, h23]
theorem pen_put_next (c : Addr) (b l : Int) (v : Int) : putK (penL c b l) (.inr "opened") (.int v) = penL c v l := by
  unfold penL
  rw [put2 k12 k23]
theorem pen_put_left (c : Addr) (b l : Int) (v : Int) : putK (penL c b l) (.inr "left") (.int v) = penL c b v := by
  unfold penL
  rw [put3 k13 k23]
theorem at_mod {ns : List Int} {b : Int} (h : 0 < (ns.length : Int)) : ∃ v, atI (ns.map V.int) (b % (ns.length : Int)) = some (.int v) := by
  have h1 := Int.emod_nonneg b (show (ns.length : Int) ≠ 0 by omega)
  have h2 := Int.emod_lt_of_pos b h
  have h3 : (b % (ns.length : Int)).toNat < ns.length := by omega
  refine ⟨ns[(b % (ns.length : Int)).toNat], at_of (j := (b % (ns.length : Int)).toNat) (by omega) ?_⟩
  rw [List.getElem?_map, List.getElem?_eq_getElem h3]
  rfl
/-- a pen stands at d, n numbers were drawn from it at most -/
def Pen (H : Hp) (d c : Addr) (n : Nat) : Prop := ∃ (ns : List Int) (b l : Int), H d = some (.dK (penL c b l)) ∧ H c = some (.lst (ns.map V.int)) ∧ 0 ≤ b ∧ b ≤ (n : Int) ∧ 0 ≤ l
theorem Pen.mono {H : Hp} {d c : Addr} {n m : Nat} (p : Pen H d c n) (h : n ≤ m) : Pen H d c m := by
  obtain ⟨ns, b, l, h1, h2, h3, h4, h5⟩ := p
  exact ⟨ns, b, l, h1, h2, h3, by omega, h5⟩
theorem Pen.at {H : Hp} {d c : Addr} {n : Nat} (p : Pen H d c n) : ∃ kvs, H d = some (.dK kvs) := by
  obtain ⟨ns, b, l, h1, _⟩ := p
  exact ⟨_, h1⟩
theorem Pen.same {H H' : Hp} {d c : Addr} {n : Nat} (p : Pen H d c n) (s : Same H H') : Pen H' d c n := by
  obtain ⟨ns, b, l, h1, h2, h3⟩ := p
  exact ⟨ns, b, l, s _ _ h1, s _ _ h2, h3⟩
def spDraw : Sp := fun vs H Q _ => ∃ (d c : Addr) (n : Nat) (m : Int), vs = [.ref d, .int m] ∧ Pen H d c n ∧ n ≤ 100000 ∧ 0 < m ∧ m < 1000000000 ∧
  ∀ (H' : Hp) (r : Int), 0 ≤ r → r < m → Kp d H H' → Pen H' d c (n + 1) → Q (.int r) H'
section
variable {P : Program} {w : World} {K : PySem.W.Frag} {mg : Str → Option Value} {base : Heap}
theorem ok_l_draw (T : Tx P K mg) (B : Bx T base) : FnOk P w K mg base CX0 1 T.a_l_draw T.fd_l_draw ["_law_pen_here", "_law_many"] spDraw := by
  refine T.F_l_draw.ok sc_l_draw (fun vs H Q E h => ?_) (fun cdv A outer s H vs Q E hr h => ?_)
  · obtain ⟨d, c, n, m, rfl, _⟩ := h
    rfl
  have hu := hu_of hr
  obtain ⟨d, c, n, m, rfl, ⟨ns, b, l, hd, hc, hb0, hbn, hl⟩, hn, hm, hm2, q⟩ := h
  have ncd : c ≠ d := ne_of hc hd (by intro z; cases z)
  have gl : ∀ {H' : Hp} {c b l}, H' d = some (.dK (penL c b l)) → DGet H' d (.str "left") (some (.int l)) := fun h => by
    have := DGet.k (k := Sum.inr "left") h
    rw [pen_left] at this
    exact this
  have gb : ∀ {H' : Hp} {c b l}, H' d = some (.dK (penL c b l)) → DGet H' d (.str "opened") (some (.int b)) := fun h => by
    have := DGet.k (k := Sum.inr "opened") h
    rw [pen_next] at this
    exact this
  have gc : ∀ {H' : Hp} {c b l}, H' d = some (.dK (penL c b l)) → DGet H' d (.str "cells") (some (.ref c)) := fun h => by
    have := DGet.k (k := Sum.inr "cells") h
    rw [pen_cells] at this
    exact this
  have pb : ∀ {H' : Hp} {c b l} (v : Int), H' d = some (.dK (penL c b l)) → DPut H' d (.str "opened") (.int v) (upd H' d (.dK (penL c v l))) := fun v h => by
    have := DPut.k (k := Sum.inr "opened") (v := .int v) h (by show 3 < sizeLine; decide)
    rw [pen_put_next] at this
    exact this
  have pl : ∀ {H' : Hp} {c b l} (v : Int), H' d = some (.dK (penL c b l)) → DPut H' d (.str "left") (.int v) (upd H' d (.dK (penL c b v))) := fun v h => by
    have := DPut.k (k := Sum.inr "left") (v := .int v) h (by show 3 < sizeLine; decide)
    rw [pen_put_left] at this
    exact this
  refine ⟨_, (pss_cons (ps_if (pt_cmpR op_gt (pe_dget hu (pv 0) pe_str (fun _ _ => rfl)) pe_int (nomark _))
 (pss_cons (ps_set (i := 2) sc_l_draw.nd rfl (by first | exact Or.inl rfl | exact Or.inr rfl) (pe_op op_mod (pe_callTy call_int1 (by rfl) T.b_int (by decide +kernel) (pa_cons (pe_dget hu (pv 0) pe_str (fun _ _ => rfl)) pa_nil)) (pv 1)))
 (pss_cons (ps_dput hu (pv 0) pe_str (pe_op op_fdivN (pe_dget hu (pv 0) pe_str (fun _ _ => rfl)) (pv 1)) rfl)
 (pss_one (ps_ret (pv 2)))))
 pss_nil)
 (pss_cons (ps_par (i := 3) (j := 4) (by rfl) sc_l_draw.nd rfl rfl (by decide) rfl rfl (pa_cons (pe_dget hu (pv 0) pe_str (fun _ _ => rfl)) (pa_cons (pe_dget hu (pv 0) pe_str (fun _ _ => rfl)) pa_nil)) (by rfl))
 (pss_cons (ps_dput hu (pv 0) pe_str (pe_op op_add (pv 3) pe_int) rfl)
 (pss_cons (ps_if (pt_cmpR (op_eqD hr.units) (pv 4) (pe_lst pa_nil) (nomark _))
 (pss_one (ps_ret (pe_op op_mod (pe_callTy call_int1 (by rfl) T.b_int (by decide +kernel) (pa_cons (pe_op op_add (pe_op op_mul pe_int (pv 3)) pe_int) pa_nil)) (pv 1))))
 pss_nil)
 (pss_cons (ps_set (i := 5) sc_l_draw.nd rfl (by first | exact Or.inl rfl | exact Or.inr rfl) (pe_ix ix_list (pv 4) (pe_op op_mod (pe_callTy call_int1 (by rfl) T.b_int (by decide +kernel) (pa_cons (pv 3) pa_nil)) (pe_callB call_len_seq (by rfl) T.b_len (by decide +kernel) (pa_cons (pv 4) pa_nil))) (fun _ _ => rfl)))
 (pss_cons (ps_if (PW.pt (pw_and (pt_cmpR op_lt (pv 3) (pe_callB call_len_seq (by rfl) T.b_len (by decide +kernel) (pa_cons (pv 4) pa_nil)) (nomark _)) (pw_and1 (pt_cmpR op_ge (pe_callB call_abs (by rfl) T.b_abs (by decide +kernel) (pa_cons (pv 5) pa_nil)) (pe_op op_pow pe_int pe_int) (nomark _)))))
 (pss_cons (ps_dput hu (pv 0) pe_str (pe_op op_fdivN (pe_op op_sub (pe_callB call_abs (by rfl) T.b_abs (by decide +kernel) (pa_cons (pv 5) pa_nil)) (pe_op op_pow pe_int pe_int)) (pv 1)) rfl)
 (pss_one (ps_ret (pe_op op_mod (pe_callTy call_int1 (by rfl) T.b_int (by decide +kernel) (pa_cons (pe_op op_sub (pe_callB call_abs (by rfl) T.b_abs (by decide +kernel) (pa_cons (pv 5) pa_nil)) (pe_op op_pow pe_int pe_int)) pa_nil)) (pv 1)))))
 pss_nil)
 (pss_cons (ps_set (i := 6) sc_l_draw.nd rfl (by first | exact Or.inl rfl | exact Or.inr rfl) (pe_op op_mod (pe_callTy call_int1 (by rfl) T.b_int (by decide +kernel) (pa_cons (pe_op op_add (pe_op op_add (pe_op op_add (pe_op op_mul (pe_op op_mod (pe_callTy call_int1 (by rfl) T.b_int (by decide +kernel) (pa_cons (pv 5) pa_nil)) pe_int) pe_int) (pe_op op_mul (pe_op op_mul pe_int (pv 3)) (pv 3))) (pe_op op_mul pe_int (pv 3))) pe_int) pa_nil)) pe_int))
 (pss_cons (ps_set (i := 6) sc_l_draw.nd rfl (by first | exact Or.inl rfl | exact Or.inr rfl) (pe_op op_mod (pe_callTy call_int1 (by rfl) T.b_int (by decide +kernel) (pa_cons (pe_op op_add (pe_op op_add (pe_op op_mul (pv 6) (pv 6)) (pe_op op_mul pe_int (pv 6))) (pe_op op_mul pe_int (pv 3))) pa_nil)) pe_int))
 (pss_one (ps_ret (pe_op op_mod (pe_callTy call_int1 (by rfl) T.b_int (by decide +kernel) (pa_cons (pe_op op_fdivN (pe_op op_mod (pe_callTy call_int1 (by rfl) T.b_int (by decide +kernel) (pa_cons (pe_op op_mul (pv 6) (pe_op op_add (pv 6) pe_int)) pa_nil)) pe_int) pe_int) pa_nil)) (pv 1)))))))))))), ?_⟩
  -- if pen['left'] > 0
  refine ⟨_, rfl, d, _, rfl, gl hd, _, _, rfl, rfl, _, rfl, ?_⟩
  refine ite2 (fun h1 => ?_) (fun h1 => ?_)
  · refine ⟨_, rfl, d, _, rfl, gl hd, .inl ⟨_, rfl, _, rfl, _, _, rfl, rfl, hm, ?_⟩⟩
    refine ⟨_, rfl, d, _, rfl, gl hd, _, rfl, _, _, rfl, rfl, ⟨by omega, by omega⟩, _, rfl, d, _, rfl, pl _ hd, ?_⟩
    refine ⟨_, rfl, q _ _ (Int.emod_nonneg _ (by omega)) (Int.emod_lt_of_pos _ hm) kp_put ?_⟩
    refine ⟨ns, b, _, upd_same, by rw [upd_ne ncd]; exact hc, hb0, by omega, Int.fdiv_nonneg (by omega) (by omega)⟩
  -- k, told = (pen['opened'], pen['cells']); pen['opened'] = k + 1
  refine ⟨_, rfl, d, _, rfl, gb hd, _, rfl, d, _, rfl, gc hd, _, _, rfl, ?_⟩
  refine ⟨_, rfl, _, _, rfl, rfl, _, rfl, d, _, rfl, pb _ hd, ?_⟩
  have hd2 : (upd H d (.dK (penL c (b + 1) l))) d = some (.dK (penL c (b + 1) l)) := upd_same
  have hc2 : (upd H d (.dK (penL c (b + 1) l))) c = some (.lst (ns.map V.int)) := by rw [upd_ne ncd]; exact hc
  have kp2 : Kp d H (upd H d (.dK (penL c (b + 1) l))) := kp_put
  generalize upd H d (.dK (penL c (b + 1) l)) = H2 at hd2 hc2 kp2 ⊢
  -- if told == []
  refine ⟨_, rfl, Nat.zero_le _, fun e he => ?_⟩
  have s3 := same_upd (o := .lst []) he
  refine ⟨_, _, .lst (SqL.of (s3 _ _ hc2)) (ints_dp ns), .lst (SqL.of upd_same) .nil, ints_shaped ns, by decide +kernel, _, rfl, ?_⟩
  have hd3 := s3 _ _ hd2
  have hc3 := s3 _ _ hc2
  have kp3 : Kp d H (upd H2 e (.lst [])) := kp2.trans (Same.kp s3)
  generalize upd H2 e (.lst []) = H3 at hd3 hc3 kp3 ⊢
  rw [ints_eqv]
  refine ite2 (fun h2 => ?_) (fun h2 => ?_)
  · refine ⟨_, rfl, _, _, rfl, rfl, .inl ⟨by decide, by decide⟩, _, _, rfl, rfl, .inl ⟨_, rfl, _, rfl, _, _, rfl, rfl, hm, ?_⟩⟩
    exact q _ _ (Int.emod_nonneg _ (by omega)) (Int.emod_lt_of_pos _ hm) kp3 ⟨ns, b + 1, l, hd3, hc3, by omega, by omega, hl⟩
  have h3 : 0 < (ns.length : Int) := by
    have h4 : ¬ ns.length = 0 := fun z => h2 (decide_eq_true z)
    omega
  obtain ⟨z, hz⟩ := at_mod (b := b) h3
  have hlen : ((ns.map V.int).length : Int) = (ns.length : Int) := by rw [List.length_map]
  refine ⟨_, rfl, _, rfl, .inl ⟨_, rfl, _, rfl, c, _, rfl, .inl (SqL.of hc3), _, _, rfl, rfl, by rw [hlen]; exact h3, c, ns.map V.int, _, V.int z, rfl, rfl, SqL.of hc3, by rw [hlen]; exact hz, ?_⟩⟩
  -- if k < len(told) and abs(cell) >= 10 ** 18
  refine ⟨_, rfl, _, rfl, c, _, rfl, .inl (SqL.of hc3), _, _, rfl, rfl, _, rfl, ?_⟩
  have m1 := Int.emod_nonneg z (show (2147483629 : Int) ≠ 0 by decide)
  have m2 := Int.emod_lt_of_pos z (show (0 : Int) < 2147483629 by decide)
  have fin : ∀ X : Int, Q (.int (X % m)) H3 := fun X => q _ _ (Int.emod_nonneg _ (by omega)) (Int.emod_lt_of_pos _ hm) kp3 ⟨ns, b + 1, l, hd3, hc3, by omega, by omega, hl⟩
  refine ite2 (fun h4 => ?_) (fun h4 => ?_)
  · refine ⟨_, rfl, _, rfl, _, _, rfl, rfl, ⟨by decide, by decide, by decide⟩, _, _, rfl, rfl, _, rfl, ?_⟩
    refine ite2 (fun h5 => ?_) (fun h5 => ?_)
    · have h6 := of_decide_eq_true h5
      refine ⟨_, rfl, _, rfl, _, _, rfl, rfl, ⟨by decide, by decide, by decide⟩, _, _, rfl, rfl, _, rfl, _, _, rfl, rfl, ⟨by omega, by omega⟩, _, rfl, d, _, rfl, pl _ hd3, ?_⟩
      refine ⟨_, rfl, _, rfl, _, _, rfl, rfl, ⟨by decide, by decide, by decide⟩, _, _, rfl, rfl, .inl ⟨_, rfl, _, rfl, _, _, rfl, rfl, hm, ?_⟩⟩
      exact q _ _ (Int.emod_nonneg _ (by omega)) (Int.emod_lt_of_pos _ hm) (kp3.trans kp_put) ⟨ns, b + 1, _, upd_same, by rw [upd_ne ncd]; exact hc3, by omega, by omega, Int.fdiv_nonneg (by omega) (by omega)⟩
    · show tSeq _ _ _ _ _
      refine ⟨_, rfl, .inl ⟨_, rfl, _, _, rfl, rfl, posI, _, _, rfl, rfl, .inl ⟨by omega, by omega⟩, _, rfl, _, _, rfl, rfl, .inl ⟨by decide, by decide⟩, _, rfl, _, _, rfl, rfl, .inl ⟨by omega, by omega⟩, _, _, rfl, rfl, _, rfl, _, _, rfl, rfl, .inl ⟨by decide, by decide⟩, _, _, rfl, rfl, _, _, rfl, rfl, .inl ⟨_, rfl, _, _, rfl, rfl, posI, ?_⟩⟩⟩
      refine ⟨_, rfl, _, rfl, _, _, rfl, rfl, .inl ⟨by omega, by omega⟩, _, rfl, _, _, rfl, rfl, .inl ⟨by decide, by decide⟩, _, _, rfl, rfl, _, rfl, _, _, rfl, rfl, .inl ⟨by decide, by decide⟩, _, _, rfl, rfl, .inl ⟨_, rfl, _, _, rfl, rfl, posI, ?_⟩⟩
      exact ⟨_, rfl, _, rfl, _, _, rfl, rfl, _, _, rfl, rfl, .inl ⟨by omega, by omega⟩, .inl ⟨_, rfl, _, _, rfl, rfl, posI, _, _, rfl, rfl, ⟨by decide, by decide⟩, .inl ⟨_, rfl, _, rfl, _, _, rfl, rfl, hm, fin _⟩⟩⟩
  · refine iteF ?_
    show tSeq _ _ _ _ _
    refine ⟨_, rfl, .inl ⟨_, rfl, _, _, rfl, rfl, posI, _, _, rfl, rfl, .inl ⟨by omega, by omega⟩, _, rfl, _, _, rfl, rfl, .inl ⟨by decide, by decide⟩, _, rfl, _, _, rfl, rfl, .inl ⟨by omega, by omega⟩, _, _, rfl, rfl, _, rfl, _, _, rfl, rfl, .inl ⟨by decide, by decide⟩, _, _, rfl, rfl, _, _, rfl, rfl, .inl ⟨_, rfl, _, _, rfl, rfl, posI, ?_⟩⟩⟩
    refine ⟨_, rfl, _, rfl, _, _, rfl, rfl, .inl ⟨by omega, by omega⟩, _, rfl, _, _, rfl, rfl, .inl ⟨by decide, by decide⟩, _, _, rfl, rfl, _, rfl, _, _, rfl, rfl, .inl ⟨by decide, by decide⟩, _, _, rfl, rfl, .inl ⟨_, rfl, _, _, rfl, rfl, posI, ?_⟩⟩
    exact ⟨_, rfl, _, rfl, _, _, rfl, rfl, _, _, rfl, rfl, .inl ⟨by omega, by omega⟩, .inl ⟨_, rfl, _, _, rfl, rfl, posI, _, _, rfl, rfl, ⟨by decide, by decide⟩, .inl ⟨_, rfl, _, rfl, _, _, rfl, rfl, hm, fin _⟩⟩⟩
end
theorem cut_drop (xs : List V) (c : Nat) : cutV xs (some (c : Int)) none = xs.drop c := by
  unfold cutV
  rw [HT.sIx_nat, HT.sIx_none]
  by_cases h : c ≤ xs.length
  · rw [Nat.min_eq_left h]
    apply List.take_of_length_le
    rw [List.length_drop]
    exact Nat.le_refl _
  · rw [Nat.min_eq_right (by omega), List.drop_of_length_le (Nat.le_refl _), List.drop_of_length_le (by omega)]
    simp
theorem cut_take (xs : List V) (c : Nat) : cutV xs none (some (c : Int)) = xs.take c := by
  unfold cutV
  rw [HT.sIx_nat, HT.sIx_none]
  show (xs.drop 0).take (min c xs.length - 0) = xs.take c
  rw [List.drop_zero, Nat.sub_zero]
  by_cases h : c ≤ xs.length
  · rw [Nat.min_eq_left h]
  · rw [Nat.min_eq_right (by omega), List.take_of_length_le (Nat.le_refl _), List.take_of_length_le (by omega)]
theorem kp_upd {d p : Addr} {H H' : Hp} {o : HO} (h : Kp d H H') (n : H p = none) : Kp d H (upd H' p o) := fun b u e nb => by
  rw [upd_ne (ne_of_none e n)]
  exact h b u e nb
def spPenOf (K : PySem.W.Frag) : Sp := fun vs H Q _ => ∃ (a : Addr) (ns : List Int), vs = [.ref a] ∧ SqL K H a (ns.map V.int) ∧ ∀ (H' : Hp) (d c : Addr), Same H H' → Pen H' d c 0 → Q (.ref d) H'
section
variable {P : Program} {w : World} {K : PySem.W.Frag} {mg : Str → Option Value} {base : Heap}
theorem ok_l_pen (T : Tx P K mg) (B : Bx T base) : FnOk P w K mg base CX0 1 T.a_l_pen T.fd_l_pen ["_law_script"] (spPenOf K) := by
  refine T.F_l_pen.ok sc_l_pen (fun vs H Q E h => ?_) (fun cdv A outer s H vs Q E hr h => ?_)
  · obtain ⟨a, ns, rfl, _⟩ := h
    rfl
  obtain ⟨a, ns, rfl, hS, q⟩ := h
  refine ⟨_, (pss_one (ps_ret (pe_disp (pps_cons pe_str (pe_callTy call_list_of (by rfl) T.b_list (by decide +kernel) (pa_cons (pe_slice sl_list (pv 0) po_none (po_some pe_int)) pa_nil)) (pps_cons pe_str pe_int (pps_cons pe_str pe_int pps_nil))) (by rfl) (by rfl) (fun z => by cases z) (by decide)))), ?_⟩
  intro p hp
  have s1 : Same H (upd H p (.dK [])) := same_upd hp
  refine ⟨_, rfl, _, rfl, a, _, rfl, s1.seq hS, fun c hc => ?_⟩
  have s2 : Same (upd H p (.dK [])) _ := same_upd (o := .lst (cutV (ns.map V.int) none (some 63))) hc
  refine ⟨c, _, rfl, .inl (SqL.of upd_same), fun l hl => ?_⟩
  have s3 : Same (upd (upd H p (.dK [])) c (.lst (cutV (ns.map V.int) none (some 63)))) _ := same_upd (o := .lst (cutV (ns.map V.int) none (some 63))) hl
  have sA := (s1.trans s2).trans s3
  refine ⟨s3 _ _ (s2 _ _ upd_same), penL l 0 0, rfl, by show 3 ≤ 15; decide, ?_⟩
  have e : mergeK [] (penL l 0 0) = penL l 0 0 := by
    show putK (putK (putK ([] : List (Key × V)) (.inr "cells") (.ref l)) (.inr "opened") (.int 0)) (.inr "left") (.int 0) = _
    rw [show putK ([] : List (Key × V)) (.inr "cells") (.ref l) = [(.inr "cells", .ref l)] from rfl, putK_new _ ((valV_neg (ki k12)).trans valV_nil)]
    exact putK_new _ (show valV ([(.inr "cells", .ref l), (.inr "opened", .int 0)] : List (Key × V)) (.inr "left") = none from (valV_neg (ki k13)).trans ((valV_neg (ki k23)).trans valV_nil))
  rw [e]
  have npl : p ≠ l := fun z => by
    subst z
    rw [s2 _ _ upd_same] at hl
    cases hl
  refine q _ p l (fun b o hb => ?_) ⟨ns.take 63, 0, 0, upd_same, ?_, Int.le_refl _, Int.le_refl _, Int.le_refl _⟩
  · rw [upd_ne (ne_of_none hb hp)]
    exact sA _ _ hb
  · rw [upd_ne npl.symm, upd_same, show cutV (ns.map V.int) none (some 63) = (ns.map V.int).take 63 from cut_take _ 63, List.map_take]
def spPickL (K : PySem.W.Frag) : Sp := fun vs H Q _ => ∃ (d c a : Addr) (n : Nat) (xs : List V), vs = [.ref d, .ref a] ∧ Pen H d c n ∧ n ≤ 100000 ∧ SqL K H a xs ∧ 0 < xs.length ∧ xs.length ≤ 1000 ∧ a ≠ d ∧
  ∀ (H' : Hp) (x : V), x ∈ xs → Kp d H H' → Pen H' d c (n + 1) → Q x H'
def spPickS : Sp := fun vs H Q _ => ∃ (d c : Addr) (n : Nat) (z : Str), vs = [.ref d, .str z] ∧ Pen H d c n ∧ n ≤ 100000 ∧ 0 < z.length ∧ z.length ≤ 1000 ∧
  ∀ (H' : Hp) (x : Nat), x ∈ z.cps.toList → Kp d H H' → Pen H' d c (n + 1) → Q (.str ⟨#[x]⟩) H'
abbrev spPick (K : PySem.W.Frag) : Sp := fun vs H Q E => spPickL K vs H Q E ∨ spPickS vs H Q E
theorem at_mem {α : Type} {xs : List α} {r : Int} (h0 : 0 ≤ r) (h1 : r < (xs.length : Int)) : ∃ x, atI xs r = some x ∧ x ∈ xs := by
  have h3 : r.toNat < xs.length := by omega
  refine ⟨xs[r.toNat], ?_, List.getElem_mem h3⟩
  have e : ixN xs.length r = some r.toNat := by
    unfold ixN
    rw [if_pos h0]
    rw [if_pos h1]
  unfold atI
  rw [e]
  exact List.getElem?_eq_getElem h3
theorem ok_l_pickL (T : Tx P K mg) (B : Bx T base) : FnOk P w K mg base CX0 2 T.a_l_pick T.fd_l_pick ["_law_pen_here", "_law_some"] (spPickL K) := by
  refine T.F_l_pick.ok sc_l_pick (fun vs H Q E h => ?_) (fun cdv A outer s H vs Q E hr h => ?_)
  · obtain ⟨d, c, a, n, xs, rfl, _⟩ := h
    rfl
  obtain ⟨d, c, a, n, xs, rfl, hp, hn, ha, hx, hx2, had, q⟩ := h
  refine ⟨_, (pss_one (ps_ret (pe_ix ix_list (pv 1) (pe_call (ok_l_draw T B) (hr.mono (by decide)) (by rfl) T.m_l_draw T.F_l_draw.kp T.bi_l_draw .nil pass0 (pa_cons (pv 0) (pa_cons (pe_callB call_len_seq (by rfl) T.b_len (by decide +kernel) (pa_cons (pv 1) pa_nil)) pa_nil))) (fun _ _ => rfl)))), ?_⟩
  refine ⟨_, rfl, _, rfl, _, rfl, a, xs, rfl, .inl ha, d, c, n, (xs.length : Int), rfl, hp, hn, by omega, by omega, fun H1 r r0 r1 kp p1 => ?_⟩
  obtain ⟨x, e, hm⟩ := at_mem r0 r1
  refine ⟨a, xs, r, x, rfl, rfl, ?_, e, q _ x hm kp p1⟩
  rcases ha with (ha | ⟨o, ha⟩) | ha
  · exact .inl (.inl (kp _ _ ha had))
  · exact .inl (.inr ⟨o, kp _ _ ha had⟩)
  · exact .inr ha
theorem ok_l_pickS (T : Tx P K mg) (B : Bx T base) : FnOk P w K mg base CX0 2 T.a_l_pick T.fd_l_pick ["_law_pen_here", "_law_some"] spPickS := by
  refine T.F_l_pick.ok sc_l_pick (fun vs H Q E h => ?_) (fun cdv A outer s H vs Q E hr h => ?_)
  · obtain ⟨d, c, n, z, rfl, _⟩ := h
    rfl
  obtain ⟨d, c, n, z, rfl, hp, hn, hx, hx2, q⟩ := h
  have hz : z.length ≤ sizeLine := Nat.le_trans hx2 (by decide)
  refine ⟨_, (pss_one (ps_ret (pe_ix ix_str (pv 1) (pe_call (ok_l_draw T B) (hr.mono (by decide)) (by rfl) T.m_l_draw T.F_l_draw.kp T.bi_l_draw .nil pass0 (pa_cons (pv 0) (pa_cons (pe_callB call_len_str (by rfl) T.b_len (by decide +kernel) (pa_cons (pv 1) pa_nil)) pa_nil))) (fun _ _ => rfl)))), ?_⟩
  refine ⟨_, rfl, _, rfl, _, rfl, z, rfl, hz, d, c, n, (z.length : Int), rfl, hp, hn, by omega, by omega, fun H1 r r0 r1 kp p1 => ?_⟩
  obtain ⟨x, e, hm⟩ := at_mem (xs := z.cps.toList) r0 (by rw [Array.length_toList]; exact r1)
  exact ⟨z, r, x, rfl, rfl, hz, e, q _ x hm kp p1⟩
theorem ok_l_pick (T : Tx P K mg) (B : Bx T base) : FnOk P w K mg base CX0 2 T.a_l_pick T.fd_l_pick ["_law_pen_here", "_law_some"] (spPick K) :=
  fn_alt (ok_l_pickL T B) (ok_l_pickS T B)
end
end Toy
set_option Elab.async false
set_option linter.all false
set_option maxRecDepth 100000
set_option maxHeartbeats 4000000
namespace Toy
open PySem L2 Sh ShL LamX NdefX
/-! ### words -/
abbrev Wd := List Nat
def sw (l : Wd) : Str := ⟨l.toArray⟩
theorem sw_list (a : Wd) : (sw a).cps.toList = a := rfl
theorem sw_inj {a b : Wd} (h : sw a = sw b) : a = b := by
  have := congrArg (fun s : Str => s.cps.toList) h
  exact this
theorem sw_of (s : Str) : s = sw s.cps.toList := by
  cases s
  rfl
theorem sw_app (a b : Wd) : sw a ++ sw b = sw (a ++ b) := by
  show (⟨a.toArray ++ b.toArray⟩ : Str) = ⟨(a ++ b).toArray⟩
  simp
theorem sw_one (c : Nat) : (⟨#[c]⟩ : Str) = sw [c] := rfl
theorem sw_len (a : Wd) : (sw a).length = a.length := by
  show a.toArray.size = a.length
  simp
theorem sw_dec (a b : Wd) : decide (V.str (sw a) = V.str (sw b)) = decide (a = b) := by
  apply decide_eq_decide.mpr
  exact ⟨fun h => sw_inj (V.str.inj h), fun h => by rw [h]⟩
theorem cut_init (a : Wd) : cutS (sw a) none (some (-1)) = sw a.dropLast := by
  have e1 : HT.sIx (sw a).length (sw a).length (some (-1)) = (sw a).length - 1 := by
    unfold HT.sIx
    simp
    omega
  unfold cutS
  rw [e1, HT.sIx_none, sw_list, sw_len]
  show (⟨((a.drop 0).take (a.length - 1 - 0)).toArray⟩ : Str) = ⟨a.dropLast.toArray⟩
  rw [List.drop_zero, Nat.sub_zero, List.dropLast_eq_take]
theorem cut_to (a : Wd) (k : Nat) : cutS (sw a) none (some (k : Int)) = sw (a.take k) := by
  unfold cutS
  rw [HT.sIx_nat, HT.sIx_none, sw_list, sw_len]
  show (⟨((a.drop 0).take (min k a.length - 0)).toArray⟩ : Str) = ⟨(a.take k).toArray⟩
  rw [List.drop_zero, Nat.sub_zero]
  by_cases h : k ≤ a.length
  · rw [Nat.min_eq_left h]
  · rw [Nat.min_eq_right (by omega), List.take_of_length_le (Nat.le_refl _), List.take_of_length_le (by omega)]
theorem cut_from (a : Wd) (k : Nat) : cutS (sw a) (some (k : Int)) none = sw (a.drop k) := by
  unfold cutS
  rw [HT.sIx_nat, HT.sIx_none, sw_list, sw_len]
  show (⟨((a.drop (min k a.length)).take (a.length - min k a.length)).toArray⟩ : Str) = ⟨(a.drop k).toArray⟩
  by_cases h : k ≤ a.length
  · rw [Nat.min_eq_left h, List.take_of_length_le (by simp)]
  · rw [Nat.min_eq_right (by omega), List.drop_of_length_le (Nat.le_refl _), List.drop_of_length_le (by omega), List.take_nil]
theorem atW_zero {a : Wd} {c : Nat} (h : a[0]? = some c) : atI (sw a).cps.toList 0 = some c := by
  rw [sw_list]
  unfold atI ixN
  obtain ⟨h1, _⟩ := List.getElem?_eq_some_iff.mp h
  rw [if_pos (Int.le_refl 0), if_pos (by omega)]
  exact h
theorem atW_last {a : Wd} {c : Nat} (h : a.getLast? = some c) : atI (sw a).cps.toList (-1) = some c := by
  rw [sw_list]
  unfold atI ixN
  have h1 : 0 < a.length := by
    cases a with
    | nil => cases h
    | cons x r => simp
  rw [if_neg (by decide), if_pos (by omega)]
  show a[(-1 + (a.length : Int)).toNat]? = some c
  rw [show (-1 + (a.length : Int)).toNat = a.length - 1 by omega, ← List.getLast?_eq_getElem?]
  exact h
/-! ### the order of places -/
def kW (z p : Wd) : List Int := p.map fun c => ((z.idxOf c : Nat) : Int)
def ordW (z : Wd) (ws : List Wd) : List Wd := ws.mergeSort fun p q => decide (kW z p ≤ kW z q)
theorem ordW_perm (z : Wd) (ws : List Wd) : (ordW z ws).Perm ws := List.mergeSort_perm ws _
theorem ordW_mem {z : Wd} {ws : List Wd} {p : Wd} : p ∈ ordW z ws ↔ p ∈ ws := (ordW_perm z ws).mem_iff
theorem ordW_len (z : Wd) (ws : List Wd) : (ordW z ws).length = ws.length := (ordW_perm z ws).length_eq
theorem ordW_nodup {z : Wd} {ws : List Wd} (h : ws.Nodup) : (ordW z ws).Nodup := (ordW_perm z ws).nodup_iff.mpr h
theorem ordW_sorted (z : Wd) (ws : List Wd) : (ordW z ws).Pairwise fun p q => kW z p ≤ kW z q := by
  have := List.pairwise_mergeSort (le := fun p q => decide (kW z p ≤ kW z q)) (fun a b c h1 h2 => decide_eq_true (List.le_trans (of_decide_eq_true h1) (of_decide_eq_true h2)))
    (fun a b => by
      rcases List.le_total (kW z a) (kW z b) with h | h
      · simp [h]
      · simp [h]) ws
  exact this.imp fun h => of_decide_eq_true h
theorem kW_inj {z : Wd} : ∀ {p q : Wd}, (∀ c ∈ p, c ∈ z) → (∀ c ∈ q, c ∈ z) → kW z p = kW z q → p = q
  | [], [], _, _, _ => rfl
  | [], _ :: _, _, _, h => by cases h
  | _ :: _, [], _, _, h => by cases h
  | c :: p, d :: q, h1, h2, h => by
    unfold kW at h
    rw [List.map_cons, List.map_cons, List.cons.injEq] at h
    have e : z.idxOf c = z.idxOf d := Int.ofNat.inj h.1
    have e1 := List.getElem_idxOf (List.idxOf_lt_length_of_mem (h1 c List.mem_cons_self))
    have e2 := List.getElem_idxOf (List.idxOf_lt_length_of_mem (h2 d List.mem_cons_self))
    have e3 : c = d := by
      rw [← e1, ← e2]
      simp only [e]
    rw [e3, kW_inj (fun c h => h1 c (List.mem_cons_of_mem _ h)) (fun c h => h2 c (List.mem_cons_of_mem _ h)) h.2]
theorem ordW_uniq {z : Wd} {ws us : List Wd} (hp : ws.Perm us) (hz : ∀ p ∈ ws, ∀ c ∈ p, c ∈ z) : ordW z ws = ordW z us := by
  refine List.Perm.eq_of_pairwise (le := fun p q => kW z p ≤ kW z q) (fun a b ha hb h1 h2 => ?_) (ordW_sorted z ws) (ordW_sorted z us) (((ordW_perm z ws).trans hp).trans (ordW_perm z us).symm)
  exact kW_inj (hz a (ordW_mem.mp ha)) (hz b (hp.mem_iff.mpr (ordW_mem.mp hb))) (List.le_antisymm h1 h2)
theorem ordW_idem {z : Wd} {ws : List Wd} (hz : ∀ p ∈ ws, ∀ c ∈ p, c ∈ z) : ordW z (ordW z ws) = ordW z ws := ordW_uniq (ordW_perm z ws) fun p h => hz p (ordW_mem.mp h)
theorem ordW_sub {z : Wd} {ws us : List Wd} (hs : us.Sublist (ordW z ws)) (hz : ∀ p ∈ ws, ∀ c ∈ p, c ∈ z) : ordW z us = us := by
  have hm : ∀ p ∈ us, ∀ c ∈ p, c ∈ z := fun p h => hz p (ordW_mem.mp (hs.subset h))
  refine List.Perm.eq_of_pairwise (le := fun p q => kW z p ≤ kW z q) (fun a b ha hb h1 h2 => ?_) (ordW_sorted z us) ((ordW_sorted z ws).sublist hs) (ordW_perm z us)
  exact kW_inj (hm a (ordW_mem.mp ha)) (hm b hb) (List.le_antisymm h1 h2)
theorem ordW_head {z : Wd} {ws : List Wd} (h : ([] : Wd) ∈ ws) : (ordW z ws)[0]? = some [] := by
  have hm := ordW_mem (z := z).mpr h
  have hs := ordW_sorted z ws
  cases e : ordW z ws with
  | nil =>
    rw [e] at hm
    cases hm
  | cons a r =>
    rw [e] at hm hs
    rcases List.mem_cons.mp hm with e | e
    · rw [← e]
      rfl
    · have := (List.pairwise_cons.mp hs).1 _ e
      have e2 : kW z a = [] := by
        have h3 : kW z a ≤ [] := this
        cases e4 : kW z a with
        | nil => rfl
        | cons x y =>
          rw [e4] at h3
          exact absurd h3 (by simp)
      cases a with
      | nil => rfl
      | cons x y => cases e2
abbrev keyS (z : Wd) (s : Str) : List Int := kW z s.cps.toList
theorem sort_sw (z : Wd) (ws : List Wd) : (ws.map sw).mergeSort (PySem.W.dataLe false (keyD (keyS z))) = (ordW z ws).map sw := by
  have e : PySem.W.dataLe false (keyD (keyS z)) = fun p q => decide (keyS z p ≤ keyS z q) := PySem.W.dataLe_rows (keyS z)
  rw [e]
  exact (List.map_mergeSort (f := sw) (l := ws) fun a _ b _ => rfl).symm
/-! ### Paired -/
theorem paired_mono {α β : Type} {R S : α → β → Prop} (f : ∀ a b, R a b → S a b) : ∀ {xs : List α} {ys : List β}, Paired R xs ys → Paired S xs ys
  | _, _, .nil => .nil
  | _, _, .cons h t => .cons (f _ _ h) (paired_mono f t)
theorem paired_ix {α β : Type} {R : α → β → Prop} : ∀ {xs : List α} {ys : List β} {n : Nat} {x : α}, Paired R xs ys → xs[n]? = some x → ∃ y, ys[n]? = some y ∧ R x y
  | _, _, _, _, .nil, h => by cases h
  | _, _, 0, _, .cons h t, e => by cases e; exact ⟨_, rfl, h⟩
  | _ :: _, _ :: _, n + 1, _, .cons h t, e => by
    obtain ⟨y, h1, h2⟩ := paired_ix (n := n) t (by simpa using e)
    exact ⟨y, by simpa using h1, h2⟩
theorem paired_ix' {α β : Type} {R : α → β → Prop} : ∀ {xs : List α} {ys : List β} {n : Nat} {y : β}, Paired R xs ys → ys[n]? = some y → ∃ x, xs[n]? = some x ∧ R x y
  | _, _, _, _, .nil, h => by cases h
  | _, _, 0, _, .cons h t, e => by cases e; exact ⟨_, rfl, h⟩
  | _ :: _, _ :: _, n + 1, _, .cons h t, e => by
    obtain ⟨y, h1, h2⟩ := paired_ix' (n := n) t (by simpa using e)
    exact ⟨y, by simpa using h1, h2⟩
theorem paired_app {α β : Type} {R : α → β → Prop} : ∀ {xs xs' : List α} {ys ys' : List β}, Paired R xs ys → Paired R xs' ys' → Paired R (xs ++ xs') (ys ++ ys')
  | _, _, _, _, .nil, h => h
  | _, _, _, _, .cons h t, k => .cons h (paired_app t k)
theorem paired_take {α β : Type} {R : α → β → Prop} : ∀ {xs : List α} {ys : List β} (n : Nat), Paired R xs ys → Paired R (xs.take n) (ys.take n)
  | _, _, 0, _ => by rw [List.take_zero, List.take_zero]; exact .nil
  | _, _, _ + 1, .nil => .nil
  | _, _, n + 1, .cons h t => .cons h (paired_take n t)
theorem paired_drop {α β : Type} {R : α → β → Prop} : ∀ {xs : List α} {ys : List β} (n : Nat), Paired R xs ys → Paired R (xs.drop n) (ys.drop n)
  | _, _, 0, h => h
  | _, _, _ + 1, .nil => .nil
  | _, _, n + 1, .cons h t => paired_drop n t
theorem paired_self {α β : Type} {f : β → α} : ∀ us : List β, Paired (fun x u => x = f u) (us.map f) us
  | [] => .nil
  | _ :: us => .cons rfl (paired_self us)
theorem paired_eq {α β : Type} {f : β → α} : ∀ {xs : List α} {us : List β}, Paired (fun x u => x = f u) xs us → xs = us.map f
  | _, _, .nil => rfl
  | _, _, .cons h t => by rw [List.map_cons, h, paired_eq t]
theorem paired_left {α β : Type} {R : α → β → Prop} : ∀ {xs : List α} {ys : List β} {x : α}, Paired R xs ys → x ∈ xs → ∃ y ∈ ys, R x y
  | _, _, _, .cons h t, m => by
    rcases List.mem_cons.mp m with rfl | m
    · exact ⟨_, List.mem_cons_self, h⟩
    · obtain ⟨y, h1, h2⟩ := paired_left t m
      exact ⟨y, List.mem_cons_of_mem _ h1, h2⟩
theorem paired_map {α β γ : Type} {R : α → β → Prop} {S : α → γ → Prop} {f : β → γ} (h : ∀ a b, R a b → S a (f b)) : ∀ {xs : List α} {ys : List β}, Paired R xs ys → Paired S xs (ys.map f)
  | _, _, .nil => .nil
  | _, _, .cons r t => .cons (h _ _ r) (paired_map h t)
/-! ### a comprehension, turn by turn -/
theorem lcG {α : Type} {J : It} {us : List α} {xs : List V} {R0 : V → α → Prop} {G : Hp → Prop} {Y : Nat → Hp → V → Hp → Prop} (w : Walk J xs.length G Y) (hY : ∀ i H x H', Y i H x H' → H' = H ∧ xs[i]? = some x) (pr : Paired R0 xs us)
    {g : TG} {tt : TT} {te : TE} {vs : List Nat} {σ : L2.St} {H1 : Hp} {D : Addr} {Qd : Hp → Prop} (C : Nat → Hp → Prop) (hC0 : C 0 (upd H1 D (.lst []))) (hC : ∀ i H acc, C i H → C i (upd H D (.lst acc))) (hG : ∀ i H, i ≤ xs.length → C i H → G H) (hl : us.length ≤ 40000)
    (keep : α → Bool) (S : Hp → V → α → Prop) (hS : ∀ H acc acc' v u, H D = some (.lst acc) → S H v u → S (upd H D (.lst acc')) v u)
    (hs : ∀ i x u H acc (R : VK) (N : Hp → Prop), us[i]? = some u → R0 x u → C i H → H D = some (.lst acc) → (keep u = true → ∀ y H', C (i + 1) H' → H' D = some (.lst acc) → (∀ v u, S H v u → S H' v u) → S H' y u → R y H') →
      (keep u = false → ∀ H', C (i + 1) H' → H' D = some (.lst acc) → (∀ v u, S H v u → S H' v u) → N H') → g x (wipe σ vs) H fun σ2 H2 => wipe σ2 vs = wipe σ vs ∧ tt σ2 H2 fun b H3 => if b = true then te σ2 H3 R else N H3)
    (hd : ∀ H acc, C xs.length H → H D = some (.lst acc) → Paired (S H) acc (us.filter keep) → Qd H) :
    ∃ W : Nat → Nat → Hp → Prop, (∃ m, W 0 m (upd H1 D (.lst []))) ∧ ∀ i m H, W i m H →
      (J.stop i H ∧ Qd H) ∨ (J.go i H ∧ ∃ Nx : Hp → Prop, (∀ H', Nx H' → ∃ m', m' < m ∧ W (i + 1) m' H') ∧ ∀ x H', J.yld i H x H' → g x (wipe σ vs) H' fun σ2 H2 => wipe σ2 vs = wipe σ vs ∧ tt σ2 H2 fun b H3 =>
        if b = true then te σ2 H3 fun y H4 => ∃ acc, H4 D = some (.lst acc) ∧ acc.length < sizeLine ∧ Nx (upd H4 D (.lst (acc ++ [y]))) else Nx H3) := by
  have hlen := pr.length
  refine lc_it w (fun i H => ∃ acc, H D = some (.lst acc) ∧ C i H ∧ Paired (S H) acc ((us.take i).filter keep)) ⟨[], upd_same, hC0, by rw [List.take_zero]; exact .nil⟩ (fun i H hi ⟨_, _, c, _⟩ => hG i H hi c) (fun i x H H' hi ⟨acc, hD, c, p⟩ y => ?_)
    fun H ⟨acc, hD, c, p⟩ => hd H acc c hD (by rw [hlen, List.take_of_length_le (Nat.le_refl _)] at p; exact p)
  obtain ⟨rfl, hx⟩ := hY _ _ _ _ y
  obtain ⟨u, hu, r⟩ := paired_ix pr hx
  have e : (us.take (i + 1)) = us.take i ++ [u] := by rw [List.take_add_one, hu]; rfl
  refine hs i x u _ acc _ _ hu r c hD (fun k z H2 c2 hD2 m sy => ?_) fun k H2 c2 hD2 m => ?_
  · refine ⟨acc, hD2, ?_, acc ++ [z], upd_same, hC _ _ _ c2, ?_⟩
    · rw [p.length, sizeLine_eq]
      have h1 := List.length_filter_le keep (us.take i)
      rw [List.length_take] at h1
      omega
    · rw [e, List.filter_append, List.filter_cons_of_pos k, List.filter_nil]
      exact paired_app (paired_mono (fun a b q => hS _ _ _ _ _ hD2 (m a b q)) p) (.cons (hS _ _ _ _ _ hD2 sy) .nil)
  · refine ⟨acc, hD2, c2, ?_⟩
    rw [e, List.filter_append, List.filter_cons_of_neg (by rw [k]; decide), List.filter_nil, List.append_nil]
    exact paired_mono m p
/-- the items are told by f; all that was stands -/
theorem lcF {α : Type} {J : It} {us : List α} {xs : List V} {R0 : V → α → Prop} {G : Hp → Prop} {Y : Nat → Hp → V → Hp → Prop} (w : Walk J xs.length G Y) (hY : ∀ i H x H', Y i H x H' → H' = H ∧ xs[i]? = some x) (pr : Paired R0 xs us)
    {g : TG} {tt : TT} {te : TE} {vs : List Nat} {σ : L2.St} {H1 : Hp} {D : Addr} {Qd : Hp → Prop} (hD : H1 D = none) (hG : ∀ H, Same H1 H → G H) (hl : us.length ≤ 40000)
    (keep : α → Bool) (f : α → V)
    (hs : ∀ x u H (R : VK) (N : Hp → Prop), u ∈ us → R0 x u → Same H1 H → (keep u = true → R (f u) H) → (keep u = false → N H) → g x (wipe σ vs) H fun σ2 H2 => wipe σ2 vs = wipe σ vs ∧ tt σ2 H2 fun b H3 => if b = true then te σ2 H3 R else N H3)
    (hd : ∀ H, Same H1 H → H D = some (.lst ((us.filter keep).map f)) → Qd H) :
    ∃ W : Nat → Nat → Hp → Prop, (∃ m, W 0 m (upd H1 D (.lst []))) ∧ ∀ i m H, W i m H →
      (J.stop i H ∧ Qd H) ∨ (J.go i H ∧ ∃ Nx : Hp → Prop, (∀ H', Nx H' → ∃ m', m' < m ∧ W (i + 1) m' H') ∧ ∀ x H', J.yld i H x H' → g x (wipe σ vs) H' fun σ2 H2 => wipe σ2 vs = wipe σ vs ∧ tt σ2 H2 fun b H3 =>
        if b = true then te σ2 H3 fun y H4 => ∃ acc, H4 D = some (.lst acc) ∧ acc.length < sizeLine ∧ Nx (upd H4 D (.lst (acc ++ [y]))) else Nx H3) := by
  refine lcG w hY pr (fun _ H => Same H1 H) (same_upd hD) (fun _ H acc s b o h => ?_) (fun i H _ s => hG H s) hl keep (fun _ v u => v = f u) (fun _ _ _ _ _ _ h => h) (fun i x u H acc R N hu r s hDH k1 k2 => ?_) fun H acc s hDH p => ?_
  · rw [upd_ne (ne_of_none h hD)]
    exact s _ _ h
  · exact hs x u H R N (List.mem_of_getElem? hu) r s (fun k => k1 k _ _ s hDH (fun _ _ h => h) rfl) fun k => k2 k _ s hDH fun _ _ h => h
  · rw [paired_eq p] at hDH
    exact hd H s hDH
theorem yat {xs : List V} : ∀ i H x H', YAt xs i H x H' → H' = H ∧ xs[i]? = some x := fun _ _ _ _ h => h
/-- the signs of a text -/
abbrev sgs (z : Wd) : List V := z.map fun c => V.str (sw [c])
theorem walk_sgs (z : Wd) : Walk (Its (sw z)) (sgs z).length (fun _ => True) (YAt (sgs z)) := by
  have := walk_str (z := sw z)
  rw [show (sw z).cps.size = (sgs z).length by rw [List.length_map]; show z.toArray.size = z.length; simp] at this
  refine this.mono (fun _ h => h) fun i H x H' hi _ ⟨e, c, h1, h2⟩ => ⟨e, ?_⟩
  have h3 : z[i]? = some c := by
    rw [← h1]
    show z[i]? = z.toArray[i]?
    simp
  rw [List.getElem?_map, h3, h2]
  rfl
theorem pr_sgs (z : Wd) : Paired (fun (x : V) c => x = V.str (sw [c])) (sgs z) z := paired_self z
/-- membership among texts -/
abbrev wsV (ps : List Wd) : List V := ps.map fun p => V.str (sw p)
theorem wsV_flat (ps : List Wd) : (wsV ps).all flatV = true := by
  rw [List.all_eq_true]
  intro x h
  obtain ⟨p, _, rfl⟩ := List.mem_map.mp h
  rfl
theorem wsV_in (p : Wd) (ps : List Wd) : inV (.str (sw p)) (wsV ps) = decide (p ∈ ps) := by
  induction ps with
  | nil => rfl
  | cons q ps ih =>
    show (eqV (.str (sw q)) (.str (sw p)) || inV (.str (sw p)) (wsV ps)) = _
    rw [ih]
    have e : eqV (.str (sw q)) (.str (sw p)) = decide (q = p) := by
      show ((sw q) == (sw p)) = _
      by_cases h : q = p
      · rw [h]; simp
      · rw [decide_eq_false h]
        exact beq_eq_false_iff_ne.mpr fun z => h (sw_inj z)
    rw [e]
    by_cases h : q = p
    · simp [h]
    · simp [h, Ne.symm h]
end Toy
set_option Elab.async false
set_option linter.all false
set_option maxRecDepth 100000
set_option maxHeartbeats 4000000
namespace Toy
open PySem L2 Sh ShL LamX NdefX
def small : Wd := [97, 98, 99, 100, 101, 102, 103, 104, 105, 106, 107, 108, 109, 110, 111, 112, 113, 114, 115, 116, 117, 118, 119, 120, 121, 122]
theorem small_eq : (("abcdefghijklmnopqrstuvwxyz" : Str)) = sw small := by decide +kernel
theorem mt_eq : (("" : Str)) = sw [] := by decide +kernel
structure LetOk (z : Wd) : Prop where
  l2 : 2 ≤ z.length
  l26 : z.length ≤ 26
  nd : z.Nodup
  sm : ∀ c ∈ z, c ∈ small
theorem count_sw (z : Wd) (c : Nat) : Txt.count (sw z) ⟨#[c]⟩ = ((z.count c : Nat) : Int) := by
  rw [PyProof.Rows.count_is, sw_list]
  show PyProof.Rows.cnt c z = _
  induction z with
  | nil => rfl
  | cons n r ih =>
    rw [PyProof.Rows.cnt_cons, ih, List.count_cons]
    by_cases h : n = c <;> simp [h] <;> omega
theorem idx_le : ∀ {z : Wd} {c i : Nat}, z[i]? = some c → z.idxOf c ≤ i
  | [], _, _, h => by cases h
  | a :: z, c, 0, h => by
    cases h
    simp
  | a :: z, c, i + 1, h => by
    have := idx_le (z := z) (c := c) (i := i) (by simpa using h)
    rw [List.idxOf_cons]
    by_cases e : a = c
    · simp [e]
    · rw [beq_eq_false_iff_ne.mpr e]
      exact Nat.succ_le_succ this
theorem cnt_one : ∀ {z : Wd} {c : Nat}, z.Nodup → c ∈ z → z.count c = 1
  | a :: z, c, nd, h => by
    rw [List.nodup_cons] at nd
    rw [List.count_cons]
    by_cases e : a = c
    · subst e
      rw [List.count_eq_zero.mpr nd.1]
      simp
    · rcases List.mem_cons.mp h with h | h
      · exact absurd h.symm e
      · rw [cnt_one nd.2 h]
        simp [e]
theorem occ_sw {z : Wd} {c : Nat} (h : c ∈ z) : ∃ rest, Builtin.Str.occurrences (sw z) ⟨#[c]⟩ 0 (sw z).length 1 = z.idxOf c :: rest := by
  rcases StrLaws.occ_head (sw z) ⟨#[c]⟩ 1 (Nat.le_refl 1) with ⟨_, hn⟩ | ⟨i, r, e, ha, hn⟩
  · obtain ⟨j, hj⟩ := List.getElem?_of_mem h
    exact absurd ((StrLaws.subAt_one (sw z) c j).mpr hj) (hn j)
  · have h1 : z[i]? = some c := (StrLaws.subAt_one (sw z) c i).mp ha
    refine ⟨r, ?_⟩
    rw [e]
    congr 1
    obtain ⟨h2, h3⟩ := List.getElem?_eq_some_iff.mp h1
    have h4 := List.idxOf_lt_length_of_mem h
    have h5 := List.getElem_idxOf h4
    by_cases h6 : z.idxOf c < i
    · exact absurd ((StrLaws.subAt_one (sw z) c _).mpr (by rw [sw_list, List.getElem?_eq_getElem h4, h5])) (hn _ h6)
    · by_cases h7 : i < z.idxOf c
      · have := idx_le h1
        omega
      · omega
theorem isi_s {K : PySem.W.Frag} : PySem.W.kitOne K (.type "str") (.type "str") = some true := kit_ty (by decide +kernel)
theorem isi_i {K : PySem.W.Frag} : PySem.W.kitOne K (.type "int") (.type "int") = some true := kit_ty (by decide +kernel)
theorem isi_ib {K : PySem.W.Frag} : PySem.W.kitOne K (.type "int") (.type "bool") = some false := kit_ty (by decide +kernel)
theorem isi_nb {K : PySem.W.Frag} : PySem.W.kitOne K (.type "NoneType") (.type "bool") = some false := kit_ty (by decide +kernel)
theorem isi_bb {K : PySem.W.Frag} : PySem.W.kitOne K (.type "bool") (.type "bool") = some true := kit_ty (by decide +kernel)
theorem isi_tt {K : PySem.W.Frag} : PySem.W.kitOne K (.type "tuple") (.type "tuple") = some true := kit_ty (by decide +kernel)
theorem kit_lt {K : PySem.W.Frag} {t : String} (h : t = "list" ∨ t = "tuple") : PySem.W.kitAny K (.type t) [.type "list", .type "tuple"] = some true := by
  rcases h with rfl | rfl
  · exact kitAny_cons (b := true) (kit_ty (by decide +kernel)) (fun z => nomatch z) fun _ => rfl
  · exact kitAny_cons (b := false) (kit_ty (by decide +kernel)) (fun _ => kitAny_cons (b := true) (kit_ty (by decide +kernel)) (fun z => nomatch z) fun _ => rfl) fun z => nomatch z
theorem all_true : ∀ {n : Nat}, (List.replicate n true).all id = true
  | 0 => rfl
  | n + 1 => by rw [List.replicate_succ, List.all_cons, all_true]; rfl
theorem map_bl {α : Type} (us : List α) : us.map (fun _ => V.bl true) = (List.replicate us.length true).map V.bl := by
  induction us with
  | nil => rfl
  | cons u us ih => rw [List.map_cons, ih, List.length_cons, List.replicate_succ, List.map_cons]
theorem filter_tt {α : Type} (us : List α) : us.filter (fun _ => true) = us := by simp
def spLetters : Sp := fun vs H Q _ => ∃ z, vs = [.str (sw z)] ∧ LetOk z ∧ ∀ H', Same H H' → Q (.bl true) H'
def spWord : Sp := fun vs H Q _ => ∃ z p, vs = [.str (sw z), .str (sw p)] ∧ p.length ≤ 200 ∧ (∀ c ∈ p, c ∈ z) ∧ ∀ H', Same H H' → Q (.bl true) H'
def spValue : Sp := fun vs H Q _ => ∃ i : Int, vs = [.int i] ∧ 1 ≤ i ∧ i ≤ 9 ∧ Q (.bl true) H
section
variable {P : Program} {w : World} {K : PySem.W.Frag} {mg : Str → Option Value} {base : Heap}
theorem ok_is_letters (T : Tx P K mg) (B : Bx T base) : FnOk P w K mg base CX0 1 T.a_is_letters T.fd_is_letters ["letters"] spLetters := by
  refine okT T.F_is_letters sc_is_letters (fun vs H Q E h => ?_) (fun cdv A outer s H vs Q E hcd hr h => ?_)
  · obtain ⟨z, rfl, _⟩ := h
    rfl
  have hu := hu_of hr
  have hu65 := hu65_of hr
  obtain ⟨z, rfl, hz, q⟩ := h
  have hl : (sw z).length ≤ sizeLine := by rw [sw_len, sizeLine_eq]; have := hz.l26; omega
  refine ⟨_, (pss_cons (ps_if (PW.pt (pw_or (pt_not (pt_val (pe_callB call_isi (by rfl) T.b_isinstance (by decide +kernel) (pa_cons (pv 0) (pa_cons (pe_bltn (v := .ty "str") (by rfl) T.b_str (by decide +kernel) rfl) pa_nil))))) (pw_or1 (pt_not (pt_chain op_le op_le pe_int (pe_callB call_len_str (by rfl) T.b_len (by decide +kernel) (pa_cons (pv 0) pa_nil)) (pe_callB call_len_str (by rfl) T.b_len (by decide +kernel) (pa_cons (pe_glob (v := .str "abcdefghijklmnopqrstuvwxyz") (by rfl) T.m_SMALL.choose_spec ⟨_, rfl⟩) pa_nil)))))))
 (pss_one (ps_ret pe_bl))
 pss_nil)
 (pss_one (ps_ret (pe_callB (cr_all rfl) (by rfl) T.b_all (by decide +kernel) (pa_cons (pe_lc (own := [("letter", 1)]) (g := gName 1) rfl sc_is_letters.nd (pi_str (pv 0)) (blkOk_by (own := [("letter", 1)]) (N := N_is_letters) (sc := defScope s_is_letters) (by decide +kernel)) (fun _ _ _ _ _ => (pg_name (i := 1) sc_is_letters.nd rfl (by first | exact Or.inl rfl | exact Or.inr rfl))) (fun _ _ _ _ _ => pts_nil) (fun _ _ _ _ _ => (pe_and (pe_cmpR op_in_sign (pv 1) (pe_glob (v := .str "abcdefghijklmnopqrstuvwxyz") (by rfl) T.m_SMALL.choose_spec ⟨_, rfl⟩) (by rfl)) (pe_one (pe_cmpR op_eq (pe_m1 PySem.F.slot_str_count PySem.F.type_str_count mt_count (pv 0) (pv 1)) pe_int (nomark _)))))) pa_nil))))), ?_⟩
  refine ⟨_, rfl, _, _, _, _, _, rfl, .ty _, .base (.str _), isi_s, _, rfl, ?_⟩
  refine iteF ?_
  have h2 := hz.l2
  have h26 := hz.l26
  refine ⟨_, rfl, _, rfl, hl, _, _, rfl, rfl, _, rfl, ?_⟩
  rw [sw_len]
  rw [decide_eq_true (show (2 : Int) ≤ (z.length : Int) by omega)]
  refine iteT ?_
  refine ⟨_, rfl, by decide +kernel, _, _, rfl, rfl, _, rfl, ?_⟩
  rw [show ((("abcdefghijklmnopqrstuvwxyz" : Str)).length : Int) = 26 by decide +kernel]
  rw [decide_eq_true (show (z.length : Int) ≤ 26 by omega)]
  refine iteF ?_
  refine ⟨_, rfl, _, rfl, fun D hD => ?_⟩
  refine lcF (walk_sgs z) yat (pr_sgs z) hD (fun _ _ => trivial) (by omega) (fun _ => true) (fun _ => .bl true) (fun x c H' R N hc e s k1 _ => ?_) (fun H' s hl => ?_)
  · subst e
    refine ⟨rfl, yes_ite ?_⟩
    refine ⟨_, rfl, c, _, rfl, rfl, _, rfl, ?_⟩
    rw [small_eq, sw_list, decide_eq_true (hz.sm c hc)]
    refine iteT ?_
    refine ⟨_, rfl, ⟨_, rfl⟩, _, rfl, _, _, rfl, rfl, rfl, ?_⟩
    rw [show Txt.count (sw z) (sw [c]) = 1 by rw [← sw_one, count_sw, cnt_one hz.nd hc]; rfl]
    exact k1 rfl
  · rw [filter_tt, map_bl] at hl
    refine ⟨D, _, rfl, SqL.of hl, ?_⟩
    rw [all_true]
    exact q _ s
theorem ok_is_word (T : Tx P K mg) (B : Bx T base) : FnOk P w K mg base CX0 1 T.a_is_word T.fd_is_word ["letters", "word"] spWord := by
  refine okT T.F_is_word sc_is_word (fun vs H Q E h => ?_) (fun cdv A outer s H vs Q E hcd hr h => ?_)
  · obtain ⟨z, p, rfl, _⟩ := h
    rfl
  have hu := hu_of hr
  have hu65 := hu65_of hr
  obtain ⟨z, p, rfl, hp, hz, q⟩ := h
  have hl : (sw p).length ≤ sizeLine := by rw [sw_len, sizeLine_eq]; omega
  refine ⟨_, (pss_cons (ps_if (PW.pt (pw_or (pt_not (pt_val (pe_callB call_isi (by rfl) T.b_isinstance (by decide +kernel) (pa_cons (pv 1) (pa_cons (pe_bltn (v := .ty "str") (by rfl) T.b_str (by decide +kernel) rfl) pa_nil))))) (pw_or1 (pt_cmpR op_gt (pe_callB call_len_str (by rfl) T.b_len (by decide +kernel) (pa_cons (pv 1) pa_nil)) (pe_glob (v := .int 200) (by rfl) T.m_MOST_LETTERS.choose_spec ⟨_, rfl⟩) (nomark _)))))
 (pss_one (ps_ret pe_bl))
 pss_nil)
 (pss_one (ps_ret (pe_callB (cr_all rfl) (by rfl) T.b_all (by decide +kernel) (pa_cons (pe_lc (own := [("letter", 2)]) (g := gName 2) rfl sc_is_word.nd (pi_str (pv 1)) (blkOk_by (own := [("letter", 2)]) (N := N_is_word) (sc := defScope s_is_word) (by decide +kernel)) (fun _ _ _ _ _ => (pg_name (i := 2) sc_is_word.nd rfl (by first | exact Or.inl rfl | exact Or.inr rfl))) (fun _ _ _ _ _ => pts_nil) (fun _ _ _ _ _ => (pe_cmpR op_in_sign (pv 2) (pv 0) (by rfl)))) pa_nil))))), ?_⟩
  refine ⟨_, rfl, _, _, _, _, _, rfl, .ty _, .base (.str _), isi_s, _, rfl, ?_⟩
  refine iteF ?_
  refine ⟨_, rfl, _, rfl, hl, _, _, rfl, rfl, _, rfl, ?_⟩
  rw [sw_len, decide_eq_false (show ¬ (200 : Int) < (p.length : Int) by omega)]
  refine iteF ?_
  refine ⟨_, rfl, _, rfl, fun D hD => ?_⟩
  refine lcF (walk_sgs p) yat (pr_sgs p) hD (fun _ _ => trivial) (by omega) (fun _ => true) (fun _ => .bl true) (fun x c H' R N hc e s k1 _ => ?_) (fun H' s hl => ?_)
  · subst e
    refine ⟨rfl, yes_ite ?_⟩
    refine ⟨_, rfl, _, rfl, c, _, rfl, rfl, ?_⟩
    rw [sw_list, decide_eq_true (hz c hc)]
    exact k1 rfl
  · rw [filter_tt, map_bl] at hl
    refine ⟨D, _, rfl, SqL.of hl, ?_⟩
    rw [all_true]
    exact q _ s
theorem ok_is_value (T : Tx P K mg) (B : Bx T base) : FnOk P w K mg base CX0 1 T.a_is_value T.fd_is_value ["value"] spValue := by
  refine okT T.F_is_value sc_is_value (fun vs H Q E h => ?_) (fun cdv A outer s H vs Q E hcd hr h => ?_)
  · obtain ⟨i, rfl, _⟩ := h
    rfl
  have hu := hu_of hr
  have hu65 := hu65_of hr
  obtain ⟨i, rfl, h1, h9, q⟩ := h
  refine ⟨_, (pss_one (ps_ret (pe_and (pe_callB call_isi (by rfl) T.b_isinstance (by decide +kernel) (pa_cons (pv 0) (pa_cons (pe_bltn (v := .ty "int") (by rfl) T.b_int (by decide +kernel) rfl) pa_nil))) (pe_and (pe_not (pe_callB call_isi (by rfl) T.b_isinstance (by decide +kernel) (pa_cons (pv 0) (pa_cons (pe_bltn (v := .ty "bool") (by rfl) T.b_bool (by decide +kernel) rfl) pa_nil)))) (pe_one (pe_chain op_le op_le pe_int (pv 0) (pe_glob (v := .int 9) (by rfl) T.m_MOST_VALUE.choose_spec ⟨_, rfl⟩))))))), ?_⟩
  refine ⟨_, rfl, _, _, _, _, _, rfl, .ty _, .base (.int _), isi_i, _, rfl, ?_⟩
  refine iteT ?_
  refine ⟨_, rfl, _, _, _, _, _, rfl, .ty _, .base (.int _), isi_ib, _, rfl, _, rfl, ?_⟩
  refine iteT ?_
  refine ⟨_, rfl, _, _, rfl, rfl, _, rfl, ?_⟩
  rw [decide_eq_true h1]
  refine iteT ?_
  refine ⟨_, _, rfl, rfl, ?_⟩
  show Q (.bl (decide (i ≤ 9))) H
  rw [decide_eq_true h9]
  exact q
end
end Toy
set_option Elab.async false
set_option linter.all false
set_option maxRecDepth 100000
set_option maxHeartbeats 4000000
namespace Toy
open PySem L2 Sh ShL LamX NdefX
/-! ### dicts with texts as keys -/
def kdl (l : List (Wd × V)) : List (Key × V) := l.map fun q => (.inr (sw q.1), q.2)
theorem kdl_len (l : List (Wd × V)) : (kdl l).length = l.length := List.length_map _
theorem kdl_none : ∀ {l : List (Wd × V)} {p : Wd}, p ∉ l.map (·.1) → valV (kdl l) (.inr (sw p)) = none
  | [], _, _ => rfl
  | q :: l, p, h => by
    rw [List.map_cons, List.mem_cons] at h
    refine (valV_neg (fun e => h (.inl (sw_inj (Sum.inr.inj e)).symm))).trans (kdl_none (l := l) fun m => h (.inr m))
theorem kdl_some : ∀ {l : List (Wd × V)} {p : Wd} {v : V}, (l.map (·.1)).Nodup → (p, v) ∈ l → valV (kdl l) (.inr (sw p)) = some v
  | q :: l, p, v, nd, h => by
    rw [List.map_cons, List.nodup_cons] at nd
    rcases List.mem_cons.mp h with h | h
    · subst h
      exact valV_pos rfl
    · have hm : p ∈ l.map (·.1) := List.mem_map.mpr ⟨_, h, rfl⟩
      exact (valV_neg (fun e => nd.1 (by have := sw_inj (Sum.inr.inj e); rw [this]; exact hm))).trans (kdl_some nd.2 h)
theorem kdl_is {l : List (Wd × V)} (nd : (l.map (·.1)).Nodup) (p : Wd) : (valV (kdl l) (.inr (sw p))).isSome = decide (p ∈ l.map (·.1)) := by
  by_cases h : p ∈ l.map (·.1)
  · obtain ⟨q, hq, rfl⟩ := List.mem_map.mp h
    rw [kdl_some nd (v := q.2) hq, decide_eq_true h]
    rfl
  · rw [kdl_none h, decide_eq_false h]
    rfl
theorem kdl_new {l : List (Wd × V)} {p : Wd} (v : V) (h : p ∉ l.map (·.1)) : putK (kdl l) (.inr (sw p)) v = kdl (l ++ [(p, v)]) := by
  rw [putK_new v (kdl_none h)]
  unfold kdl
  rw [List.map_append]
  rfl
theorem kdl_old {l : List (Wd × V)} {p : Wd} (v : V) (h : p ∈ l.map (·.1)) : putK (kdl l) (.inr (sw p)) v = kdl (l.map fun q => if q.1 = p then (q.1, v) else q) := by
  have e : ((kdl l).any fun kv => decide (kv.1 = (.inr (sw p) : Key))) = true := by
    obtain ⟨q, hq, e⟩ := List.mem_map.mp h
    rw [List.any_eq_true]
    refine ⟨(.inr (sw q.1), q.2), List.mem_map.mpr ⟨q, hq, rfl⟩, ?_⟩
    rw [← e]
    exact decide_eq_true rfl
  unfold putK
  rw [if_pos e]
  unfold kdl
  rw [List.map_map, List.map_map]
  refine List.map_congr_left fun q _ => ?_
  show (if (.inr (sw q.1) : Key) = .inr (sw p) then _ else _) = _
  by_cases h : q.1 = p
  · rw [if_pos (by rw [h]), Function.comp_apply, if_pos h]
  · rw [if_neg (fun e => h (sw_inj (Sum.inr.inj e))), Function.comp_apply, if_neg h]
theorem dget_kdl {H : Hp} {d : Addr} {l : List (Wd × V)} (h : H d = some (.dK (kdl l))) (p : Wd) : DGet H d (.str (sw p)) (valV (kdl l) (.inr (sw p))) := DGet.k (k := .inr (sw p)) h
theorem dput_kdl {H : Hp} {d : Addr} {l : List (Wd × V)} (h : H d = some (.dK (kdl l))) (p : Wd) (v : V) (hl : l.length ≤ 40000) : DPut H d (.str (sw p)) v (upd H d (.dK (putK (kdl l) (.inr (sw p)) v))) :=
  DPut.k (k := .inr (sw p)) h (by rw [kdl_len, sizeLine_eq]; omega)
/-! ### rows -/
abbrev Rw := Wd × Option Int × Bool
def oV : Option Int → V
  | none => .non
  | some i => .int i
abbrev rwVs (r : Rw) : List V := [.str (sw r.1), oV r.2.1, .bl r.2.2]
def RwT (H : Hp) (v : V) (r : Rw) : Prop := ∃ a, v = .ref a ∧ H a = some (.tup (rwVs r))
def RwE (H : Hp) (v : V) (r : Rw) : Prop := ∃ a, v = .ref a ∧ (H a = some (.lst (rwVs r)) ∨ H a = some (.tup (rwVs r)))
theorem RwT.e {H : Hp} {v : V} {r : Rw} (h : RwT H v r) : RwE H v r := let ⟨a, e, h⟩ := h; ⟨a, e, .inr h⟩
theorem RwT.sm {T : List (Addr × Str)} {H H' : Hp} {v : V} {r : Rw} (s : Sm T H H') (h : RwT H v r) : RwT H' v r := let ⟨a, e, h⟩ := h; ⟨a, e, s.get h⟩
theorem RwE.sm {T : List (Addr × Str)} {H H' : Hp} {v : V} {r : Rw} (s : Sm T H H') (h : RwE H v r) : RwE H' v r := let ⟨a, e, h⟩ := h; ⟨a, e, h.imp (fun h => s.get h) fun h => s.get h⟩
theorem RwT.same {H H' : Hp} {v : V} {r : Rw} (s : Same H H') (h : RwT H v r) : RwT H' v r := let ⟨a, e, h⟩ := h; ⟨a, e, s _ _ h⟩
theorem RwE.same {H H' : Hp} {v : V} {r : Rw} (s : Same H H') (h : RwE H v r) : RwE H' v r := let ⟨a, e, h⟩ := h; ⟨a, e, h.imp (s _ _) (s _ _)⟩
theorem RwT.kp {H H' : Hp} {v : V} {r : Rw} {d : Addr} {kvs : List (Key × V)} (hd : H d = some (.dK kvs)) (s : Kp d H H') (h : RwT H v r) : RwT H' v r :=
  let ⟨a, e, h⟩ := h; ⟨a, e, s _ _ h (ne_of h hd (by intro z; cases z))⟩
theorem RwE.kp {H H' : Hp} {v : V} {r : Rw} {d : Addr} {kvs : List (Key × V)} (hd : H d = some (.dK kvs)) (s : Kp d H H') (h : RwE H v r) : RwE H' v r :=
  let ⟨a, e, h⟩ := h; ⟨a, e, h.imp (fun h => s _ _ h (ne_of h hd (by intro z; cases z))) fun h => s _ _ h (ne_of h hd (by intro z; cases z))⟩
structure RwOk (z : Wd) (r : Rw) : Prop where
  wd : ∀ c ∈ r.1, c ∈ z
  l200 : r.1.length ≤ 200
  vl : ∀ i, r.2.1 = some i → 1 ≤ i ∧ i ≤ 9
theorem RwE.sq {K : PySem.W.Frag} {H : Hp} {a : Addr} {xs : List V} (h : H a = some (.lst xs) ∨ H a = some (.tup xs)) : SqL K H a xs ∨ SqT K H a xs := h.imp SqL.of SqT.of
theorem lt_ty {K : PySem.W.Frag} {H : Hp} {a : Addr} {xs : List V} (h : H a = some (.lst xs) ∨ H a = some (.tup xs)) : ∃ t : String, (t = "list" ∨ t = "tuple") ∧ TyX K H (.ref a) (.type t) :=
  h.elim (fun h => ⟨_, .inl rfl, .base (.lst h)⟩) fun h => ⟨_, .inr rfl, .base (.tup h)⟩
def spRow : Sp := fun vs H Q _ => ∃ z v r, vs = [.str (sw z), v] ∧ RwE H v r ∧ RwOk z r ∧ ∀ H', Same H H' → Q (.bl true) H'
def spOrder (T : List (Addr × Str)) : Sp := fun vs H Q _ => ∃ z d kvs ws, vs = [.str (sw z), .ref d] ∧ H d = some (.dK kvs) ∧ kvs.map (fun kv => kV kv.1) = wsV ws ∧ (∀ p ∈ ws, p.length ≤ 200 ∧ ∀ c ∈ p, c ∈ z) ∧ Tabs T H ∧
  ∀ H' a, Sm T H H' → H' a = some (.lst (wsV (ordW z ws))) → Q (.ref a) H'
def spOrdered (K : PySem.W.Frag) (T : List (Addr × Str)) : Sp := fun vs H Q _ => ∃ z a ws, vs = [.str (sw z), .ref a] ∧ SqL K H a (wsV ws) ∧ (∀ p ∈ ws, p.length ≤ 200 ∧ ∀ c ∈ p, c ∈ z) ∧ Tabs T H ∧
  ∀ H' a, Sm T H H' → H' a = some (.lst (wsV (ordW z ws))) → Q (.ref a) H'
section
variable {P : Program} {w : World} {K : PySem.W.Frag} {mg : Str → Option Value} {base : Heap}
theorem ok_is_row (T : Tx P K mg) (B : Bx T base) : FnOk P w K mg base CX0 2 T.a_is_row T.fd_is_row ["letters", "row"] spRow := by
  refine okT T.F_is_row sc_is_row (fun vs H Q E h => ?_) (fun cdv A outer s H vs Q E hcd hr h => ?_)
  · obtain ⟨z, v, r, rfl, _⟩ := h
    rfl
  have hu := hu_of hr
  have hu65 := hu65_of hr
  obtain ⟨z, v, ⟨p, vl, fl⟩, rfl, ⟨a, rfl, ha⟩, ro, q⟩ := h
  refine ⟨_, (pss_cons (ps_if (PW.pt (pw_or (pt_not (pt_val (pe_callB call_isiT (by rfl) T.b_isinstance (by decide +kernel) (pa_cons (pv 1) (pa_cons (pe_tup (pa_cons (pe_bltn (v := .ty "list") (by rfl) T.b_list (by decide +kernel) rfl) (pa_cons (pe_bltn (v := .ty "tuple") (by rfl) T.b_tuple (by decide +kernel) rfl) pa_nil))) pa_nil))))) (pw_or1 (pt_cmpR op_ne (pe_callB call_len_seq (by rfl) T.b_len (by decide +kernel) (pa_cons (pv 1) pa_nil)) pe_int (nomark _)))))
 (pss_one (ps_ret pe_bl))
 pss_nil)
 (pss_cons (ps_asg (pv 1) (pg_unE rfl (pgs_cons (pg_name (i := 2) sc_is_row.nd rfl (by first | exact Or.inl rfl | exact Or.inr rfl)) (pgs_cons (pg_name (i := 3) sc_is_row.nd rfl (by first | exact Or.inl rfl | exact Or.inr rfl)) (pgs_cons (pg_name (i := 4) sc_is_row.nd rfl (by first | exact Or.inl rfl | exact Or.inr rfl)) pgs_nil)))))
 (pss_one (ps_ret (pe_and (pe_call (ok_is_word T B) (hr.mono (by decide)) (by rfl) T.m_is_word T.F_is_word.kp T.bi_is_word .nil pass0 (pa_cons (pv 0) (pa_cons (pv 2) pa_nil))) (pe_and (pe_or (pe_cmpR op_isN (pv 3) pe_non (nomark _)) (pe_one (pe_call (ok_is_value T B) (hr.mono (by decide)) (by rfl) T.m_is_value T.F_is_value.kp T.bi_is_value .nil pass0 (pa_cons (pv 3) pa_nil)))) (pe_one (pe_callB call_isi (by rfl) T.b_isinstance (by decide +kernel) (pa_cons (pv 4) (pa_cons (pe_bltn (v := .ty "bool") (by rfl) T.b_bool (by decide +kernel) rfl) pa_nil)))))))))), ?_⟩
  refine ⟨_, rfl, by decide, fun tp htp => ?_⟩
  have s1 := same_upd (o := .tup [V.ty "list", V.ty "tuple"]) htp
  have ha1 := ha.imp (s1 _ _) (s1 _ _)
  obtain ⟨t, ht, ty⟩ := lt_ty (K := K) ha1
  refine ⟨_, tp, _, _, [.type "list", .type "tuple"], true, rfl, upd_same, .cons (.ty _) (.cons (.ty _) .nil), ty, kit_lt ht, _, rfl, ?_⟩
  refine iteF ?_
  refine ⟨_, rfl, a, _, rfl, RwE.sq ha1, rfl, _, rfl, ?_⟩
  refine iteF ?_
  refine ⟨_, rfl, a, _, rfl, RwE.sq ha1, rfl, _, _, rfl, _, _, rfl, _, _, rfl, rfl, ?_⟩
  refine ⟨_, rfl, _, rfl, z, p, rfl, ro.l200, ro.wd, fun H2 s2 => ⟨_, rfl, iteT ?_⟩⟩
  have fin : ∀ σ : L2.St, σ[4]? = some (some (.bl fl)) → (tCB (rIsi K) (tCons (tVar 4) (tCons (tC (.ty "bool")) tNil))) σ H2 Q := fun σ h => ⟨_, h, _, _, _, _, _, rfl, .ty _, .base (.bl _), isi_bb, q _ (s1.trans s2)⟩
  cases vl with
  | none =>
    refine ⟨_, rfl, rfl, _, rfl, ?_⟩
    refine ite2 (fun _ => ?_) (fun h => absurd (decide_eq_true rfl) h)
    exact ⟨_, rfl, iteT (fin _ rfl)⟩
  | some i =>
    obtain ⟨h1, h2⟩ := ro.vl i rfl
    refine ⟨_, rfl, rfl, _, rfl, ?_⟩
    refine ite2 (fun h => by cases of_decide_eq_true h) (fun _ => ?_)
    refine ⟨_, rfl, i, rfl, h1, h2, ?_⟩
    exact ⟨_, rfl, iteT (fin _ rfl)⟩
theorem key_lc {σ : L2.St} {z p : Wd} (h0 : σ[0]? = some (some (.str (sw p)))) (h1 : σ[1]? = some (some (.str (sw z)))) (hl : σ.length = 3) (hp : p.length ≤ 200) (hz : ∀ c ∈ p, c ∈ z) :
    tLc (iStr (tVar 0)) (gName 2) tYes (tM1 (fun x xs H Q => ∃ a b i rest, x = V.str a ∧ xs = [V.str b] ∧ Builtin.Str.occurrences a b 0 a.length 1 = i :: rest ∧ Q (V.int ↑i) H) (tVar 1) (tVar 2)) [2] σ (fun _ => none)
      fun v H' => ∃ l, v = .ref l ∧ H' l = some (.lst ((keyS z (sw p)).map V.int)) := by
  obtain ⟨v0, v1, v2, rfl⟩ : ∃ v0 v1 v2, σ = [v0, v1, v2] := by
    match σ, hl with
    | [v0, v1, v2], _ => exact ⟨v0, v1, v2, rfl⟩
  simp only [List.getElem?_cons_zero, List.getElem?_cons_succ, Option.some.injEq] at h0 h1
  subst h0
  subst h1
  refine ⟨_, rfl, _, rfl, fun D hD => ?_⟩
  refine lcF (walk_sgs p) yat (pr_sgs p) hD (fun _ _ => trivial) (by omega) (fun _ => true) (fun c => .int ((z.idxOf c : Nat) : Int)) (fun x c H' R N hc e s k1 _ => ?_) (fun H' s hl => ?_)
  · subst e
    refine ⟨rfl, yes_ite ?_⟩
    obtain ⟨rest, hr⟩ := occ_sw (hz c hc)
    exact ⟨_, rfl, ⟨_, rfl⟩, _, rfl, _, _, _, rest, rfl, rfl, hr, k1 rfl⟩
  · rw [filter_tt] at hl
    refine ⟨D, rfl, ?_⟩
    rw [hl]
    unfold keyS kW
    rw [sw_list, List.map_map]
    rfl
theorem ok_in_order (T : Tx P K mg) (B : Bx T base) : FnOk P w K mg base CX0 4 T.a_in_order T.fd_in_order ["letters", "places"] (spOrder (tabs T)) := by
  refine okT T.F_in_order sc_in_order (fun vs H Q E h => ?_) (fun cdv A outer s H vs Q E hcd hr h => ?_)
  · obtain ⟨z, d, kvs, ws, rfl, _⟩ := h
    rfl
  have hcd : cdv = .ref T.kc_in_order := hcd.symm.trans T.ec_in_order
  have hu := hu_of hr
  have hu65 := hu65_of hr
  obtain ⟨z, d, kvs, ws, rfl, hd, hk, hw, tb, q⟩ := h
  refine ⟨_, (pss_one (ps_ret (pe_sortLam (k := 0) (N := ["place", "letters", "letter"]) (fr := ["letters"]) (js := [0]) (by rfl) T.b_sorted (by decide +kernel) (pa_cons (pe_callTy (call_list_dK rfl) (by rfl) T.b_list (by decide +kernel) (pa_cons (pv 1) pa_nil)) pa_nil) B.tb_in_order hcd (mem_in_order T) (uniq_in_order T) (hr.mono (by decide)) rfl (NdefX.nscope_by (by decide +kernel)) (by kernel_rfl) rfl (fun _ _ _ _ _ _ => rfl) (fun _ _ _ _ _ _ _ hr => (pe_lc (own := [("letter", 2)]) (g := gName 2) rfl (show List.Nodup (["place", "letters", "letter"] : List Str) by decide +kernel) (pi_str (pv 0)) (blkOk_by (own := [("letter", 2)]) (N := ["place", "letters", "letter"]) (by kernel_rfl)) (fun _ _ _ _ _ => (pg_name (i := 2) (show List.Nodup (["place", "letters", "letter"] : List Str) by decide +kernel) rfl (by first | exact Or.inl rfl | exact Or.inr rfl))) (fun _ _ _ _ _ => pts_nil) (fun _ _ _ _ _ => (pe_m1 PySem.F.slot_str_index PySem.F.type_str_index mt_sindex (pv 1) (pv 2)))))))), ?_⟩
  refine ⟨_, rfl, d, kvs, rfl, hd, fun p hp => ?_⟩
  have s1 := same_upd (o := .lst (kvs.map fun kv => kV kv.1)) hp
  have sm1 := Sm.of tb s1
  refine ⟨p, ws.map sw, keyS z, rfl, ?_, sm1.2, fun y hy => ?_, fun H2 p2 ex tb2 n2 => ?_⟩
  · rw [List.map_map]
    refine SqL.of ?_
    rw [upd_same, hk]
    rfl
  · obtain ⟨x, hx, rfl⟩ := List.mem_map.mp hy
    exact key_lc rfl rfl rfl (hw x hx).1 (hw x hx).2
  · rw [sort_sw, List.map_map]
    have sm2 : Sm (tabs T) H H2 := sm1.trans ⟨ex, tb2⟩
    exact q _ p2 (sm2.new n2) upd_same
theorem ok_l_ordered (T : Tx P K mg) (B : Bx T base) : FnOk P w K mg base CX0 4 T.a_l_ordered T.fd_l_ordered ["_law_letters_here", "_law_words"] (spOrdered K (tabs T)) := by
  refine okT T.F_l_ordered sc_l_ordered (fun vs H Q E h => ?_) (fun cdv A outer s H vs Q E hcd hr h => ?_)
  · obtain ⟨z, a, ws, rfl, _⟩ := h
    rfl
  have hcd : cdv = .ref T.kc_l_ordered := hcd.symm.trans T.ec_l_ordered
  have hu := hu_of hr
  have hu65 := hu65_of hr
  obtain ⟨z, a, ws, rfl, ha, hw, tb, q⟩ := h
  refine ⟨_, (pss_one (ps_ret (pe_sortLam (k := 0) (N := ["_law_word", "_law_letters_here", "_law_sign"]) (fr := ["_law_letters_here"]) (js := [0]) (by rfl) T.b_sorted (by decide +kernel) (pa_cons (pv 1) pa_nil) B.tb_l_ordered hcd (mem_l_ordered T) (uniq_l_ordered T) (hr.mono (by decide)) rfl (NdefX.nscope_by (by decide +kernel)) (by kernel_rfl) rfl (fun _ _ _ _ _ _ => rfl) (fun _ _ _ _ _ _ _ hr => (pe_lc (own := [("_law_sign", 2)]) (g := gName 2) rfl (show List.Nodup (["_law_word", "_law_letters_here", "_law_sign"] : List Str) by decide +kernel) (pi_str (pv 0)) (blkOk_by (own := [("_law_sign", 2)]) (N := ["_law_word", "_law_letters_here", "_law_sign"]) (by kernel_rfl)) (fun _ _ _ _ _ => (pg_name (i := 2) (show List.Nodup (["_law_word", "_law_letters_here", "_law_sign"] : List Str) by decide +kernel) rfl (by first | exact Or.inl rfl | exact Or.inr rfl))) (fun _ _ _ _ _ => pts_nil) (fun _ _ _ _ _ => (pe_m1 PySem.F.slot_str_index PySem.F.type_str_index mt_sindex (pv 1) (pv 2)))))))), ?_⟩
  refine ⟨_, rfl, a, ws.map sw, keyS z, rfl, ?_, tb, fun y hy => ?_, fun H2 p2 ex tb2 n2 => ?_⟩
  · rw [List.map_map]
    exact ha
  · obtain ⟨x, hx, rfl⟩ := List.mem_map.mp hy
    exact key_lc rfl rfl rfl (hw x hx).1 (hw x hx).2
  · rw [sort_sw, List.map_map]
    have sm2 : Sm (tabs T) H H2 := ⟨ex, tb2⟩
    exact q _ p2 (sm2.new n2) upd_same
end
end Toy
set_option Elab.async false
set_option linter.all false
set_option maxRecDepth 100000
set_option maxHeartbeats 4000000
namespace Toy
open PySem L2 Sh ShL LamX NdefX
theorem nd_len {α : Type} [DecidableEq α] : ∀ {xs ys : List α}, xs.Nodup → (∀ x ∈ xs, x ∈ ys) → xs.length ≤ ys.length
  | [], _, _, _ => Nat.zero_le _
  | x :: xs, ys, nd, h => by
    rw [List.nodup_cons] at nd
    have hx := h x List.mem_cons_self
    have := nd_len (xs := xs) (ys := ys.erase x) nd.2 fun y hy => (List.mem_erase_of_ne (fun e => nd.1 (by rw [← e]; exact hy))).mpr (h y (List.mem_cons_of_mem _ hy))
    rw [List.length_erase_of_mem hx] at this
    have h2 := List.length_pos_of_mem hx
    rw [List.length_cons]
    omega
/-! ### beginnings -/
def addW (fs : List Wd) (p : Wd) : Nat → List Wd
  | 0 => fs
  | n + 1 => if p.take (n + 1) ∈ fs then fs else addW (fs ++ [p.take (n + 1)]) p n
theorem addW_succ (fs : List Wd) (p : Wd) (n : Nat) : addW fs p (n + 1) = if p.take (n + 1) ∈ fs then fs else addW (fs ++ [p.take (n + 1)]) p n := rfl
def begs (ws : List Wd) : List Wd := ws.foldl (fun fs p => addW fs p p.length) [[]]
theorem addW_nd {p : Wd} : ∀ {n : Nat} {fs : List Wd}, fs.Nodup → (addW fs p n).Nodup
  | 0, _, h => h
  | n + 1, fs, h => by
    unfold addW
    by_cases e : p.take (n + 1) ∈ fs
    · rw [if_pos e]; exact h
    · rw [if_neg e]
      refine addW_nd (List.nodup_append.mpr ⟨h, by simp, fun a ha b hb => ?_⟩)
      rw [List.mem_singleton] at hb
      rw [hb]
      exact fun z => e (by rw [← z]; exact ha)
theorem addW_sub {p q : Wd} : ∀ {n : Nat} {fs : List Wd}, q ∈ addW fs p n → q ∈ fs ∨ ∃ m, q = p.take m
  | 0, _, h => .inl h
  | n + 1, fs, h => by
    unfold addW at h
    by_cases e : p.take (n + 1) ∈ fs
    · rw [if_pos e] at h; exact .inl h
    · rw [if_neg e] at h
      rcases addW_sub h with h | h
      · rcases List.mem_append.mp h with h | h
        · exact .inl h
        · exact .inr ⟨_, List.mem_singleton.mp h⟩
      · exact .inr h
theorem addW_keep {p q : Wd} : ∀ {n : Nat} {fs : List Wd}, q ∈ fs → q ∈ addW fs p n
  | 0, _, h => h
  | n + 1, fs, h => by
    unfold addW
    by_cases e : p.take (n + 1) ∈ fs
    · rw [if_pos e]; exact h
    · rw [if_neg e]
      exact addW_keep (List.mem_append_left _ h)
theorem addW_all {p : Wd} : ∀ {n : Nat} {fs : List Wd}, n ≤ p.length → [] ∈ fs → (∀ m, m ≤ n → p.take m ∈ fs → ∀ j, j ≤ m → p.take j ∈ fs) → ∀ j, j ≤ n → p.take j ∈ addW fs p n
  | 0, fs, _, h0, _, j, hj => by
    rw [show j = 0 by omega, List.take_zero]
    exact h0
  | n + 1, fs, hn, h0, h, j, hj => by
    unfold addW
    by_cases e : p.take (n + 1) ∈ fs
    · rw [if_pos e]
      exact h (n + 1) (Nat.le_refl _) e j hj
    · rw [if_neg e]
      by_cases hj2 : j = n + 1
      · rw [hj2]
        exact addW_keep (List.mem_append_right _ List.mem_cons_self)
      · refine addW_all (by omega) (List.mem_append_left _ h0) (fun m hm hin i hi => ?_) j (by omega)
        rcases List.mem_append.mp hin with hin | hin
        · exact List.mem_append_left _ (h m (by omega) hin i hi)
        · have := congrArg List.length (List.mem_singleton.mp hin)
          rw [List.length_take, List.length_take] at this
          omega
/-- all beginnings of its members are in it -/
def Clo (fs : List Wd) : Prop := [] ∈ fs ∧ ∀ p ∈ fs, ∀ n, p.take n ∈ fs
theorem Clo.addW {fs : List Wd} (h : Clo fs) (p : Wd) : Clo (addW fs p p.length) := by
  have all := addW_all (p := p) (Nat.le_refl _) h.1 (fun m _ hin j hj => by
    have := h.2 _ hin j
    rw [List.take_take, Nat.min_eq_left hj] at this
    exact this)
  refine ⟨addW_keep h.1, fun q hq n => ?_⟩
  rcases addW_sub hq with hq | ⟨m, rfl⟩
  · exact addW_keep (h.2 _ hq n)
  · rw [List.take_take]
    by_cases hm : min n m ≤ p.length
    · exact all _ hm
    · have := all p.length (Nat.le_refl _)
      rw [List.take_of_length_le (Nat.le_refl _)] at this
      rw [List.take_of_length_le (by omega)]
      exact this
theorem addW_mem {fs : List Wd} (h : Clo fs) {p q : Wd} : q ∈ addW fs p p.length ↔ q ∈ fs ∨ ∃ m, q = p.take m := by
  refine ⟨addW_sub, fun hq => ?_⟩
  rcases hq with hq | ⟨m, rfl⟩
  · exact addW_keep hq
  · have hp : p ∈ addW fs p p.length := by
      have := addW_all (p := p) (fs := fs) (Nat.le_refl _) h.1 (fun m _ hin j hj => by
        have := h.2 _ hin j
        rw [List.take_take, Nat.min_eq_left hj] at this
        exact this) p.length (Nat.le_refl _)
      rw [List.take_of_length_le (Nat.le_refl _)] at this
      exact this
    exact (h.addW p).2 _ hp m
theorem clo0 : Clo [[]] := ⟨List.mem_cons_self, fun p hp n => by rw [List.mem_singleton.mp hp, List.take_nil]; exact List.mem_cons_self⟩
theorem begs_all (ws : List Wd) : ∀ fs, Clo fs → fs.Nodup → Clo (ws.foldl (fun fs p => addW fs p p.length) fs) ∧ (ws.foldl (fun fs p => addW fs p p.length) fs).Nodup ∧ ∀ q, q ∈ ws.foldl (fun fs p => addW fs p p.length) fs ↔ q ∈ fs ∨ ∃ p ∈ ws, ∃ m, q = p.take m := by
  induction ws with
  | nil => exact fun fs h n => ⟨h, n, fun q => by simp⟩
  | cons p ws ih =>
    intro fs h n
    obtain ⟨h1, h2, h3⟩ := ih _ (h.addW p) (addW_nd n)
    refine ⟨h1, h2, fun q => ?_⟩
    rw [List.foldl_cons, h3, addW_mem h]
    constructor
    · rintro ((h | h) | ⟨w, hw, h⟩)
      · exact .inl h
      · exact .inr ⟨p, List.mem_cons_self, h⟩
      · exact .inr ⟨w, List.mem_cons_of_mem _ hw, h⟩
    · rintro (h | ⟨w, hw, h⟩)
      · exact .inl (.inl h)
      · rcases List.mem_cons.mp hw with rfl | hw
        · exact .inl (.inr h)
        · exact .inr ⟨w, hw, h⟩
theorem begs_clo (ws : List Wd) : Clo (begs ws) := (begs_all ws _ clo0 (by simp)).1
theorem begs_nd (ws : List Wd) : (begs ws).Nodup := (begs_all ws _ clo0 (by simp)).2.1
theorem begs_mem {ws : List Wd} {q : Wd} : q ∈ begs ws ↔ q = [] ∨ ∃ p ∈ ws, ∃ m, q = p.take m := by
  have := (begs_all ws _ clo0 (by simp)).2.2 q
  rw [List.mem_singleton] at this
  exact this
theorem begs_perm {ws us : List Wd} (h : ∀ p, p ∈ ws ↔ p ∈ us) : (begs ws).Perm (begs us) := by
  rw [List.perm_ext_iff_of_nodup (begs_nd ws) (begs_nd us)]
  intro q
  rw [begs_mem, begs_mem]
  constructor
  · rintro (e | ⟨p, hp, m, e⟩)
    · exact .inl e
    · exact .inr ⟨p, (h p).mp hp, m, e⟩
  · rintro (e | ⟨p, hp, m, e⟩)
    · exact .inl e
    · exact .inr ⟨p, (h p).mpr hp, m, e⟩
/-- the words' beginnings lie in ps -/
def InPs (ps ws : List Wd) : Prop := ps.length ≤ 30000 ∧ Clo ps ∧ ∀ w ∈ ws, w ∈ ps
abbrev begK (fs : List Wd) : List (Wd × V) := fs.map fun p => (p, V.bl true)
theorem begK_fst (fs : List Wd) : (begK fs).map (·.1) = fs := by
  rw [List.map_map]
  exact List.map_id _
def spBegs (K : PySem.W.Frag) : Sp := fun vs H Q _ => ∃ a ws ps, vs = [.ref a] ∧ SqL K H a (wsV ws) ∧ InPs ps ws ∧ (∀ w ∈ ws, w.length ≤ 200) ∧ ws.length ≤ 30000 ∧
  ∀ H' b, Same H H' → H' b = some (.lst (wsV (begs ws))) → Q (.ref b) H'
def ItE (H : Hp) (v : V) (it : Wd × Int) : Prop := ∃ b, v = .ref b ∧ H b = some (.lst [.str (sw it.1), .int it.2])
theorem ItE.same {H H' : Hp} {v : V} {it : Wd × Int} (s : Same H H') (h : ItE H v it) : ItE H' v it := let ⟨b, e, h⟩ := h; ⟨b, e, s _ _ h⟩
abbrev valK (its : List (Wd × Int)) : List (Wd × V) := its.map fun it => (it.1, V.int it.2)
theorem valK_fst (its : List (Wd × Int)) : (valK its).map (·.1) = its.map (·.1) := by
  rw [List.map_map]
  rfl
def spValues : Sp := fun vs H Q _ => ∃ z a xs its, vs = [.str (sw z), .ref a] ∧ H a = some (.lst xs) ∧ Paired (ItE H) xs its ∧ (∀ it ∈ its, it.1.length ≤ 200 ∧ (∀ c ∈ it.1, c ∈ z) ∧ 1 ≤ it.2 ∧ it.2 ≤ 9) ∧ (its.map (·.1)).Nodup ∧ its.length ≤ 30000 ∧
  ∀ H' d, Same H H' → H' d = some (.dK (kdl (valK its))) → Q (.ref d) H'
theorem same_of_new {H H1 : Hp} {d : Addr} {o : HO} (s : Same H H1) (n : H d = none) : Same H (upd H1 d o) := fun b u h => by
  rw [upd_ne (ne_of_none h n)]
  exact s _ _ h
section
variable {P : Program} {w : World} {K : PySem.W.Frag} {mg : Str → Option Value} {base : Heap}
theorem ok_beginnings (T : Tx P K mg) (B : Bx T base) : FnOk P w K mg base CX0 1 T.a_beginnings T.fd_beginnings ["words"] (spBegs K) := by
  refine okT T.F_beginnings sc_beginnings (fun vs H Q E h => ?_) (fun cdv A outer s H vs Q E hcd hr h => ?_)
  · obtain ⟨a, ws, ps, rfl, _⟩ := h
    rfl
  have hu := hu_of hr
  have hu65 := hu65_of hr
  obtain ⟨a, ws, ps, rfl, ha, ⟨hps, cps, hws⟩, h200, hwl, q⟩ := h
  refine ⟨_, (pss_cons (ps_set (i := 1) sc_beginnings.nd rfl (by first | exact Or.inl rfl | exact Or.inr rfl) (pe_disp (pps_cons pe_str pe_bl pps_nil) (by rfl) (by rfl) (fun z => by cases z) (by decide)))
 (pss_cons (ps_for PassesOwn.never rfl (pi_list (pv 0)) (pg_name (i := 2) sc_beginnings.nd rfl (by first | exact Or.inl rfl | exact Or.inr rfl))
 (pss_one (ps_for PassesOwn.never rfl (pi_range3 (by rfl) T.b_range (pa_cons (pe_callB call_len_str (by rfl) T.b_len (by decide +kernel) (pa_cons (pv 2) pa_nil)) (pa_cons pe_int (pa_cons (pe_un un_neg pe_int) pa_nil)))) (pg_name (i := 3) sc_beginnings.nd rfl (by first | exact Or.inl rfl | exact Or.inr rfl))
 (pss_cons (ps_if (pt_cmp (pc_din hu (pe_slice sl_str (pv 2) po_none (po_some (pv 3))) (pv 1)))
 (pss_one ps_break)
 pss_nil)
 (pss_one (ps_dput hu (pv 1) (pe_slice sl_str (pv 2) po_none (po_some (pv 3))) pe_bl rfl))))))
 (pss_one (ps_ret (pe_callTy (call_list_dK rfl) (by rfl) T.b_list (by decide +kernel) (pa_cons (pv 1) pa_nil)))))), ?_⟩
  intro d hd
  have s0 := same_upd (o := .dK []) hd
  refine ⟨upd_same, kdl (begK [[]]), rfl, by show 1 ≤ 15; decide, ?_⟩
  have hS : Same H (upd (upd H d (.dK [])) d (.dK (mergeK [] (kdl (begK [[]]))))) := same_of_new s0 hd
  have hD : (upd (upd H d (.dK [])) d (.dK (mergeK [] (kdl (begK [[]]))))) d = some (.dK (kdl (begK [[]]))) := upd_same
  generalize upd (upd H d (.dK [])) d (.dK (mergeK [] (kdl (begK [[]])))) = H1 at hS hD
  have sub : ∀ i, ∀ p ∈ (ws.take i).foldl (fun fs p => addW fs p p.length) [[]], p ∈ ps := fun i p hp => by
    rcases ((begs_all (ws.take i) _ clo0 (by simp)).2.2 p).mp hp with h | ⟨x, hx, m, rfl⟩
    · rw [List.mem_singleton.mp h]
      exact cps.1
    · exact cps.2 _ (hws _ (List.mem_of_mem_take hx)) m
  refine ⟨_, rfl, a, rfl, ⟨_, hS.seq ha⟩, ?_⟩
  refine for_it (walk_list (K := K) (a := a) (xs := wsV ws)) (fun i σ H2 => ∃ v2 v3, σ = [some (.ref a), some (.ref d), v2, v3] ∧ Same H H2 ∧ H2 d = some (.dK (kdl (begK ((ws.take i).foldl (fun fs p => addW fs p p.length) [[]])))))
    ⟨_, _, rfl, hS, hD⟩ (fun i σ H2 _ ⟨_, _, _, s, _⟩ => s.seq ha) (fun i x σ H2 H3 hi ⟨v2, v3, e, s, hd2⟩ y => ?_) (fun σ H2 ⟨v2, v3, e, s, hd2⟩ => ?_)
  · obtain ⟨rfl, hx⟩ := y
    subst e
    rw [List.getElem?_map] at hx
    obtain ⟨p, hp, rfl⟩ := Option.map_eq_some_iff.mp hx
    have hpm := List.mem_of_getElem? hp
    have hpl := h200 _ hpm
    generalize hcur : (ws.take i).foldl (fun fs p => addW fs p p.length) [[]] = cur at hd2
    have hsub := sub i
    have hnd := (begs_all (ws.take i) _ clo0 (by simp)).2.1
    rw [hcur] at hsub hnd
    have hnext : (ws.take (i + 1)).foldl (fun fs p => addW fs p p.length) [[]] = addW cur p p.length := by
      rw [List.take_add_one, hp]
      show (ws.take i ++ [p]).foldl _ _ = _
      rw [List.foldl_append, hcur]
      rfl
    have hz : (sw p).length ≤ sizeLine := by rw [sw_len, sizeLine_eq]; omega
    refine ⟨_, rfl, _, rfl, hz, ?_⟩
    rw [sw_len]
    refine ⟨_, rfl, (p.length : Int), 0, -1, _, rfl, RgC.neg (by omega) (by omega) (by decide) (by decide), ?_⟩
    rw [show ((p.length : Int) - 0).toNat = p.length by omega]
    refine for_it walk_rangeC (fun k σ H4 => ∃ v3 now, σ = [some (.ref a), some (.ref d), some (.str (sw p)), v3] ∧ Same H H4 ∧ H4 d = some (.dK (kdl (begK now))) ∧ addW now p (p.length - k) = addW cur p p.length ∧ now.Nodup ∧ ∀ q ∈ now, q ∈ ps)
      ⟨_, cur, rfl, s, hd2, rfl, hnd, hsub⟩ (fun _ _ _ _ _ => trivial) (fun k x σ H4 H5 hk ⟨v3, now, e, s4, hd4, en, nd4, sub4⟩ y => ?_) (fun σ H4 ⟨v3, now, e, s4, hd4, en, nd4, sub4⟩ => ?_)
    · obtain ⟨rfl, rfl⟩ := y
      subst e
      obtain ⟨n, hn⟩ : ∃ n, p.length - k = n + 1 := ⟨p.length - k - 1, by omega⟩
      have hcut : cutS (sw p) none (some ((p.length : Int) + (k : Nat) * -1)) = sw (p.take (n + 1)) := by
        rw [show (p.length : Int) + (k : Nat) * -1 = ((n + 1 : Nat) : Int) by omega]
        exact cut_to p (n + 1)
      have hlen : now.length ≤ 30000 := Nat.le_trans (nd_len nd4 sub4) hps
      have hin : (valV (kdl (begK now)) (.inr (sw (p.take (n + 1))))).isSome = decide (p.take (n + 1) ∈ now) := by
        rw [kdl_is (by rw [begK_fst]; exact nd4), begK_fst]
      refine ⟨_, rfl, _, rfl, _, rfl, _, rfl, hz, _, rfl, d, valV (kdl (begK now)) (.inr (sw (p.take (n + 1)))), rfl, by rw [hcut]; exact dget_kdl hd4 _, _, rfl, ?_⟩
      · rw [hin]
        rw [hn, addW_succ] at en
        refine ite2 (fun hm => ?_) (fun hm => ?_)
        · rw [if_pos (of_decide_eq_true hm)] at en
          exact ⟨_, _, rfl, s4, by rw [hnext, ← en]; exact hd4⟩
        · have hm' := fun z => hm (decide_eq_true z)
          rw [if_neg hm'] at en
          refine ⟨_, rfl, _, rfl, _, rfl, _, rfl, _, rfl, hz, ?_⟩
          rw [hcut]
          refine ⟨d, _, rfl, dput_kdl hd4 _ _ (by rw [List.length_map]; omega), ?_⟩
          refine ⟨_, now ++ [p.take (n + 1)], rfl, same_of_new s4 hd, ?_, ?_, ?_, ?_⟩
          · rw [upd_same, kdl_new _ (by rw [begK_fst]; exact hm')]
            unfold begK
            rw [List.map_append]
            rfl
          · rw [show p.length - (k + 1) = n by omega]
            exact en
          · refine List.nodup_append.mpr ⟨nd4, by simp, fun x hx y hy => ?_⟩
            rw [List.mem_singleton.mp hy]
            exact fun z => hm' (by rw [← z]; exact hx)
          · intro x hx
            rcases List.mem_append.mp hx with hx | hx
            · exact sub4 x hx
            · rw [List.mem_singleton.mp hx]
              exact cps.2 _ (hws _ hpm) _
    · subst e
      rw [Nat.sub_self] at en
      exact ⟨_, _, rfl, s4, by rw [hnext, ← en]; exact hd4⟩
  · subst e
    rw [List.length_map, List.take_of_length_le (Nat.le_refl _)] at hd2
    refine ⟨_, rfl, d, _, rfl, hd2, fun b hb => ?_⟩
    refine q _ b (same_of_new s ?_) ?_
    · cases e : H b with
      | none => rfl
      | some o => rw [s _ _ e] at hb; cases hb
    · rw [upd_same]
      show some (HO.lst ((kdl (begK (begs ws))).map fun kv => kV kv.1)) = _
      unfold kdl begK
      rw [List.map_map, List.map_map]
      rfl
end
end Toy
set_option Elab.async false
set_option linter.all false
set_option maxRecDepth 100000
set_option maxHeartbeats 4000000
namespace Toy
open PySem L2 Sh ShL LamX NdefX
theorem isi2_lt {K : PySem.W.Frag} {H : Hp} {σ : L2.St} {j : Nat} {a : Addr} {xs : List V} {Q : VK} (hσ : σ[j]? = some (some (.ref a))) (ha : H a = some (.lst xs) ∨ H a = some (.tup xs)) (q : ∀ H', Same H H' → Q (.bl true) H') :
    tCB (rIsiT K) (tCons (tVar j) (tCons (tTup (tCons (tC (V.ty "list")) (tCons (tC (V.ty "tuple")) tNil))) tNil)) σ H Q := by
  refine ⟨_, hσ, by decide, fun tp htp => ?_⟩
  have s1 := same_upd (o := .tup [V.ty "list", V.ty "tuple"]) htp
  obtain ⟨t, ht, ty⟩ := lt_ty (K := K) (ha.imp (s1 _ _) (s1 _ _))
  exact ⟨_, tp, _, _, [.type "list", .type "tuple"], true, rfl, upd_same, .cons (.ty _) (.cons (.ty _) .nil), ty, kit_lt ht, q _ s1⟩
theorem kdl_app {l : List (Wd × V)} {p : Wd} {v : V} : kdl (l ++ [(p, v)]) = kdl l ++ [(.inr (sw p), v)] := by
  unfold kdl
  rw [List.map_append]
  rfl
theorem nd_take {α : Type} {xs : List α} {i : Nat} {x : α} (nd : xs.Nodup) (h : xs[i]? = some x) : x ∉ xs.take i := by
  intro hm
  obtain ⟨j, hj⟩ := List.getElem?_of_mem hm
  rw [List.getElem?_take] at hj
  by_cases hlt : j < i
  · rw [if_pos hlt] at hj
    exact absurd (nd_ix nd hj h) (by omega)
  · rw [if_neg hlt] at hj
    cases hj
section
variable {P : Program} {w : World} {K : PySem.W.Frag} {mg : Str → Option Value} {base : Heap}
theorem ok_values_of (T : Tx P K mg) (B : Bx T base) : FnOk P w K mg base CX0 2 T.a_values_of T.fd_values_of ["letters", "items"] spValues := by
  refine okT T.F_values_of sc_values_of (fun vs H Q E h => ?_) (fun cdv A outer s H vs Q E hcd hr h => ?_)
  · obtain ⟨z, a, xs, its, rfl, _⟩ := h
    rfl
  have hu := hu_of hr
  have hu65 := hu65_of hr
  obtain ⟨z, a, xs, its, rfl, ha, pr, ok, nd, hl, q⟩ := h
  refine ⟨_, (pss_cons (ps_set (i := 2) sc_values_of.nd rfl (by first | exact Or.inl rfl | exact Or.inr rfl) pe_dnewK)
 (pss_cons (ps_for PassesOwn.never rfl (pi_enum (by rfl) T.b_enumerate (pa_cons (pv 1) pa_nil)) (pg_tup rfl (pgs_cons (pg_name (i := 3) sc_values_of.nd rfl (by first | exact Or.inl rfl | exact Or.inr rfl)) (pgs_cons (pg_name (i := 4) sc_values_of.nd rfl (by first | exact Or.inl rfl | exact Or.inr rfl)) pgs_nil)))
 (pss_cons (ps_if (PW.pt (pw_or (pt_not (pt_val (pe_callB call_isiT (by rfl) T.b_isinstance (by decide +kernel) (pa_cons (pv 4) (pa_cons (pe_tup (pa_cons (pe_bltn (v := .ty "list") (by rfl) T.b_list (by decide +kernel) rfl) (pa_cons (pe_bltn (v := .ty "tuple") (by rfl) T.b_tuple (by decide +kernel) rfl) pa_nil))) pa_nil))))) (pw_or1 (pt_cmpR op_ne (pe_callB call_len_seq (by rfl) T.b_len (by decide +kernel) (pa_cons (pv 4) pa_nil)) pe_int (nomark _)))))
 (pss_one ps_never)
 pss_nil)
 (pss_cons (ps_asg (pv 4) (pg_unE rfl (pgs_cons (pg_name (i := 5) sc_values_of.nd rfl (by first | exact Or.inl rfl | exact Or.inr rfl)) (pgs_cons (pg_name (i := 6) sc_values_of.nd rfl (by first | exact Or.inl rfl | exact Or.inr rfl)) pgs_nil))))
 (pss_cons (ps_if (PW.pt (pw_or (pt_not (pt_val (pe_call (ok_is_word T B) (hr.mono (by decide)) (by rfl) T.m_is_word T.F_is_word.kp T.bi_is_word .nil pass0 (pa_cons (pv 0) (pa_cons (pv 5) pa_nil))))) (pw_or (pt_not (pt_val (pe_call (ok_is_value T B) (hr.mono (by decide)) (by rfl) T.m_is_value T.F_is_value.kp T.bi_is_value .nil pass0 (pa_cons (pv 6) pa_nil)))) (pw_or1 (pt_cmp (pc_din hu (pv 5) (pv 2)))))))
 (pss_one ps_never)
 pss_nil)
 (pss_one (ps_dput hu (pv 2) (pv 5) (pv 6) rfl))))))
 (pss_one (ps_ret (pv 2))))), ?_⟩
  intro d hd
  have s0 := same_upd (o := .dK []) hd
  refine ⟨_, rfl, a, xs, rfl, SqL.of (s0 _ _ ha), ?_⟩
  refine for_enum (K := K) (a := a) (xs := xs) (fun i σ H2 => ∃ v3 v4 v5 v6, σ = [some (.str (sw z)), some (.ref a), some (.ref d), v3, v4, v5, v6] ∧ Same H H2 ∧ H2 d = some (.dK (kdl (valK (its.take i)))))
    ⟨_, _, _, _, rfl, s0, upd_same⟩ (fun i σ H2 _ ⟨_, _, _, _, _, s, _⟩ => SqL.of (s _ _ ha)) (fun i x σ H2 U hx hU ⟨v3, v4, v5, v6, e, s, hd2⟩ => ?_) (fun σ H2 ⟨v3, v4, v5, v6, e, s, hd2⟩ => ?_)
  · subst e
    obtain ⟨⟨p, n⟩, hit, ⟨b, rfl, hb⟩⟩ := paired_ix pr hx
    obtain ⟨l200, wd, h1, h9⟩ := ok _ (List.mem_of_getElem? hit)
    have s1 := same_upd (o := .tup [.int (i : Nat), .ref b]) hU
    refine ⟨U, _, rfl, SqT.of upd_same, rfl, _, _, rfl, _, _, rfl, rfl, ?_⟩
    have hS := s.trans s1
    have hD := s1 _ _ hd2
    generalize upd H2 U (.tup [.int (i : Nat), .ref b]) = H3 at hS hD
    refine isi2_lt rfl (.inl (hS _ _ hb)) fun H4 s4 => ⟨_, rfl, iteF ?_⟩
    have hb4 := s4 _ _ (hS _ _ hb)
    refine ⟨_, rfl, b, _, rfl, .inl (SqL.of hb4), rfl, _, rfl, ?_⟩
    refine iteF ?_
    refine ⟨_, rfl, b, _, rfl, .inl (SqL.of hb4), rfl, _, _, rfl, _, _, rfl, rfl, ?_⟩
    refine ⟨_, rfl, _, rfl, z, p, rfl, l200, wd, fun H5 s5 => ⟨_, rfl, iteF ?_⟩⟩
    refine ⟨_, rfl, n, rfl, h1, h9, _, rfl, iteF ?_⟩
    have hD5 := s5 _ _ (s4 _ _ hD)
    have hfst : (its.map (·.1))[i]? = some p := by rw [List.getElem?_map, hit]; rfl
    have hnew : p ∉ (valK (its.take i)).map (·.1) := by
      rw [valK_fst, List.map_take]
      exact nd_take nd hfst
    refine ⟨_, rfl, _, rfl, d, valV (kdl (valK (its.take i))) (.inr (sw p)), rfl, dget_kdl hD5 p, _, rfl, ?_⟩
    rw [kdl_none hnew]
    refine iteF ?_
    refine ⟨_, rfl, _, rfl, _, rfl, d, _, rfl, dput_kdl hD5 p _ (by rw [List.length_map, List.length_take]; omega), ?_⟩
    refine ⟨_, _, _, _, rfl, same_of_new ((hS.trans s4).trans s5) hd, ?_⟩
    rw [upd_same, kdl_new _ hnew, List.take_add_one, hit]
    show _ = some (HO.dK (kdl (valK (its.take i ++ [(p, n)]))))
    unfold valK
    rw [List.map_append]
    rfl
  · subst e
    rw [pr.length, List.take_of_length_le (Nat.le_refl _)] at hd2
    exact ⟨_, rfl, q _ d s hd2⟩
end
end Toy
set_option Elab.async false
set_option linter.all false
set_option maxRecDepth 100000
set_option maxHeartbeats 4000000
namespace Toy
open PySem L2 Sh ShL LamX NdefX
/-! ### children -/
def kids (z : Wd) (os : List Wd) (p : Wd) : Wd := z.filter fun c => decide (p ++ [c] ∈ os)
def kidF (p q : Wd) : Option Nat := if q ≠ [] ∧ q.dropLast = p then q.getLast? else none
def kidS (qs : List Wd) (p : Wd) : Wd := qs.filterMap (kidF p)
theorem kidF_some {p q : Wd} {c : Nat} : kidF p q = some c ↔ q = p ++ [c] := by
  unfold kidF
  constructor
  · intro h
    by_cases e : q ≠ [] ∧ q.dropLast = p
    · rw [if_pos e] at h
      have e1 := List.dropLast_concat_getLast e.1
      have e2 : q.getLast? = some (q.getLast e.1) := List.getLast?_eq_some_getLast e.1
      rw [e2] at h
      have e3 := Option.some.inj h
      rw [e3, e.2] at e1
      exact e1.symm
    · rw [if_neg e] at h
      cases h
  · rintro rfl
    rw [if_pos ⟨by simp, by simp⟩]
    simp
theorem le_app {a b : Int} : ∀ {l : List Int}, l ++ [a] ≤ l ++ [b] → a ≤ b
  | [], h => by
    rcases List.cons_le_cons_iff.mp h with h | h
    · exact Int.le_of_lt h
    · exact Int.le_of_eq h.1
  | x :: l, h => by
    rcases List.cons_le_cons_iff.mp (h : x :: (l ++ [a]) ≤ x :: (l ++ [b])) with h | h
    · exact absurd h (Int.lt_irrefl _)
    · exact le_app h.2
theorem kidS_eq {z : Wd} {os : List Wd} (hz : z.Nodup) (hw : ∀ q ∈ os, ∀ c ∈ q, c ∈ z) (nd : os.Nodup) (srt : os.Pairwise fun p q => kW z p ≤ kW z q) (p : Wd) : kidS os p = kids z os p := by
  have hm : ∀ c, c ∈ kidS os p ↔ p ++ [c] ∈ os := fun c => by
    unfold kidS
    rw [List.mem_filterMap]
    constructor
    · rintro ⟨q, hq, e⟩
      rw [← kidF_some.mp e]
      exact hq
    · exact fun h => ⟨_, h, kidF_some.mpr rfl⟩
  have hk : ∀ c, c ∈ kids z os p ↔ p ++ [c] ∈ os := fun c => by
    unfold kids
    rw [List.mem_filter]
    constructor
    · exact fun h => of_decide_eq_true h.2
    · exact fun h => ⟨hw _ h c (by simp), decide_eq_true h⟩
  refine List.Perm.eq_of_pairwise (le := fun c d => z.idxOf c ≤ z.idxOf d) (fun c d hc hd h1 h2 => ?_) ?_ ?_ ?_
  · have h3 := hw _ ((hm c).mp hc) c (by simp)
    have h4 := hw _ ((hk d).mp hd) d (by simp)
    have e1 := List.getElem_idxOf (List.idxOf_lt_length_of_mem h3)
    have e2 := List.getElem_idxOf (List.idxOf_lt_length_of_mem h4)
    have e : z.idxOf c = z.idxOf d := Nat.le_antisymm h1 h2
    rw [← e1, ← e2]
    simp only [e]
  · unfold kidS
    rw [List.pairwise_filterMap]
    refine srt.imp fun {a b} h c hc d hd => ?_
    rw [kidF_some.mp hc, kidF_some.mp hd] at h
    unfold kW at h
    rw [List.map_append, List.map_append] at h
    exact Int.ofNat_le.mp (le_app h)
  · unfold kids
    refine List.Pairwise.filter _ ?_
    rw [List.pairwise_iff_getElem]
    intro i j hi hj hij
    rw [List.Nodup.idxOf_getElem hz, List.Nodup.idxOf_getElem hz]
    exact Nat.le_of_lt hij
  · refine (List.perm_ext_iff_of_nodup ?_ (show (kids z os p).Nodup from List.Pairwise.filter _ hz)).mpr fun c => (hm c).trans (hk c).symm
    · unfold kidS
      unfold List.Nodup
      rw [List.pairwise_filterMap]
      refine List.Pairwise.imp (fun {a b} h c hc d hd e => h ?_) nd
      rw [kidF_some.mp hc, kidF_some.mp hd, e]
theorem kidS_step (qs : List Wd) (q p : Wd) : kidS (qs ++ [q]) p = if q ≠ [] ∧ q.dropLast = p then kidS qs p ++ (q.getLast?).toList else kidS qs p := by
  unfold kidS
  rw [List.filterMap_append]
  by_cases h : q ≠ [] ∧ q.dropLast = p
  · rw [if_pos h]
    have e : kidF p q = q.getLast? := by unfold kidF; rw [if_pos h]
    cases e2 : q.getLast? with
    | none => rw [e2] at e; simp [e]
    | some c => rw [e2] at e; simp [e]
  · rw [if_neg h]
    have e : kidF p q = none := by unfold kidF; rw [if_neg h]
    simp [e]
theorem kidS_len (qs : List Wd) (p : Wd) : (kidS qs p).length ≤ qs.length := List.length_filterMap_le _ _
/-! ### the tree -/
def treeFs (z : Wd) (t d e : Addr) (n m : Int) : List (Str × V) :=
  putF "ways" (.ref e) (putF "triples" (.ref d) (putF "height" (.int m) (putF "size" (.int n) (putF "rows" (.ref t) (putF "letters" (.str (sw z)) [])))))
section
variable {z : Wd} {t d e : Addr} {n m : Int}
theorem tf_letters : List.lookup ("letters" : Str) (treeFs z t d e n m) = some (V.str (sw z)) := by
  unfold treeFs
  rw [lookup_putF, if_neg (by decide +kernel), lookup_putF, if_neg (by decide +kernel), lookup_putF, if_neg (by decide +kernel), lookup_putF, if_neg (by decide +kernel), lookup_putF, if_neg (by decide +kernel), lookup_putF, if_pos rfl]
theorem tf_rows : List.lookup ("rows" : Str) (treeFs z t d e n m) = some (V.ref t) := by
  unfold treeFs
  rw [lookup_putF, if_neg (by decide +kernel), lookup_putF, if_neg (by decide +kernel), lookup_putF, if_neg (by decide +kernel), lookup_putF, if_neg (by decide +kernel), lookup_putF, if_pos rfl]
theorem tf_size : List.lookup ("size" : Str) (treeFs z t d e n m) = some (V.int n) := by
  unfold treeFs
  rw [lookup_putF, if_neg (by decide +kernel), lookup_putF, if_neg (by decide +kernel), lookup_putF, if_neg (by decide +kernel), lookup_putF, if_pos rfl]
theorem tf_height : List.lookup ("height" : Str) (treeFs z t d e n m) = some (V.int m) := by
  unfold treeFs
  rw [lookup_putF, if_neg (by decide +kernel), lookup_putF, if_neg (by decide +kernel), lookup_putF, if_pos rfl]
theorem tf_triples : List.lookup ("triples" : Str) (treeFs z t d e n m) = some (V.ref d) := by
  unfold treeFs
  rw [lookup_putF, if_neg (by decide +kernel), lookup_putF, if_pos rfl]
theorem tf_ways : List.lookup ("ways" : Str) (treeFs z t d e n m) = some (V.ref e) := by
  unfold treeFs
  rw [lookup_putF, if_pos rfl]
theorem tf_no {x : Str} (h : ¬ x = ("letters" : Str) ∧ ¬ x = ("rows" : Str) ∧ ¬ x = ("size" : Str) ∧ ¬ x = ("height" : Str) ∧ ¬ x = ("triples" : Str) ∧ ¬ x = ("ways" : Str)) : List.lookup x (treeFs z t d e n m) = none := by
  obtain ⟨h1, h2, h3, h4, h5, h6⟩ := h
  unfold treeFs
  rw [lookup_putF, if_neg h6, lookup_putF, if_neg h5, lookup_putF, if_neg h4, lookup_putF, if_neg h3, lookup_putF, if_neg h2, lookup_putF, if_neg h1]
  rfl
end
/-- the dict of triples: us in any order -/
def TriAt (H : Hp) (d : Addr) (us : List Rw) : Prop := ∃ l, H d = some (.dK (kdl l)) ∧ Paired (fun (q : Wd × V) r => q.1 = r.1 ∧ RwT H q.2 r) l us
abbrev wayl (z : Wd) (os : List Wd) : List (Wd × V) := os.map fun p => (p, V.str (sw (kids z os p)))
theorem wayl_fst (z : Wd) (os : List Wd) : (wayl z os).map (·.1) = os := by
  rw [List.map_map]
  exact List.map_id _
structure TreeAt (C : Addr) (H : Hp) (o : Addr) (z : Wd) (rs : List Rw) : Prop where
  root : [] ∈ rs.map (·.1)
  low : ∀ r ∈ rs, ∀ c ∈ r.1, c < 200
  ex : ∃ (dx t d e : Addr) (m : Int) (vs : List V) (us : List Rw), H o = some (.ins C dx (treeFs z t d e (rs.length : Int) m)) ∧ H t = some (.tup vs) ∧ Paired (RwT H) vs rs ∧ TriAt H d us ∧ us.Perm rs ∧
    H e = some (.dK (kdl (wayl z (rs.map (·.1))))) ∧ m ∈ rs.map (fun r => (r.1.length : Int)) ∧ ∀ y ∈ rs.map (fun r => (r.1.length : Int)), y ≤ m
theorem tri_fst {H : Hp} : ∀ {l : List (Wd × V)} {us : List Rw}, Paired (fun (q : Wd × V) r => q.1 = r.1 ∧ RwT H q.2 r) l us → l.map (·.1) = us.map (·.1)
  | _, _, .nil => rfl
  | _, _, .cons h t => by rw [List.map_cons, List.map_cons, h.1, tri_fst t]
theorem tri_mono {H H' : Hp} {d : Addr} {us : List Rw} (hr : [] ∈ us.map (·.1)) (hd : ∀ l, [] ∈ l.map (·.1) → H d = some (.dK (kdl l)) → H' d = some (.dK (kdl l))) (f : ∀ v r, RwT H v r → RwT H' v r) (h : TriAt H d us) : TriAt H' d us :=
  let ⟨l, h1, h2⟩ := h; ⟨l, hd _ (by rw [tri_fst h2]; exact hr) h1, paired_mono (fun a b q => ⟨q.1, f _ _ q.2⟩) h2⟩
/-- a tree stands where instances, tuples and dicts with a root stand -/
theorem TreeAt.mono {C : Addr} {H H' : Hp} {o : Addr} {z : Wd} {rs : List Rw} (h : TreeAt C H o z rs) (k1 : ∀ b C dx fs, H b = some (.ins C dx fs) → H' b = some (.ins C dx fs)) (k2 : ∀ b xs, H b = some (.tup xs) → H' b = some (.tup xs))
    (k3 : ∀ b l, [] ∈ l.map (·.1) → H b = some (.dK (kdl l)) → H' b = some (.dK (kdl l))) : TreeAt C H' o z rs := by
  obtain ⟨dx, t, d, e, m, vs, us, h1, h2, h3, h4, h5, h6, h7⟩ := h.ex
  have f : ∀ v r, RwT H v r → RwT H' v r := fun v r ⟨a, e, q⟩ => ⟨a, e, k2 _ _ q⟩
  exact ⟨h.root, h.low, dx, t, d, e, m, vs, us, k1 _ _ _ _ h1, k2 _ _ h2, paired_mono f h3, tri_mono ((h5.map _).mem_iff.mpr h.root) (k3 d) f h4, h5, k3 _ _ (by rw [wayl_fst]; exact h.root) h6, h7⟩
theorem TreeAt.sm {T : List (Addr × Str)} {C : Addr} {H H' : Hp} {o : Addr} {z : Wd} {rs : List Rw} (h : TreeAt C H o z rs) (s : Sm T H H') : TreeAt C H' o z rs :=
  h.mono (fun _ _ _ _ q => s.get q) (fun _ _ q => s.get q) fun _ _ _ q => s.get q
theorem TreeAt.same {C : Addr} {H H' : Hp} {o : Addr} {z : Wd} {rs : List Rw} (h : TreeAt C H o z rs) (s : Same H H') : TreeAt C H' o z rs :=
  h.mono (fun _ _ _ _ q => s _ _ q) (fun _ _ q => s _ _ q) fun _ _ _ q => s _ _ q
/-- the pen's dict is none whose keys are places -/
theorem pen_kdl {c : Addr} {b l : Int} {k : List (Wd × V)} (hk : [] ∈ k.map (·.1)) : penL c b l ≠ kdl k := by
  intro h
  have h1 : (Sum.inr (sw []) : Key) ∈ (kdl k).map (·.1) := by
    obtain ⟨q, hq, e⟩ := List.mem_map.mp hk
    rw [← e]
    exact List.mem_map.mpr ⟨(.inr (sw q.1), q.2), List.mem_map.mpr ⟨q, hq, rfl⟩, rfl⟩
  rw [← h] at h1
  have h2 : (Sum.inr (sw []) : Key) ∈ [(Sum.inr ("cells" : Str) : Key), .inr "opened", .inr "left"] := h1
  have h3 : ¬ (sw [] = ("cells" : Str)) ∧ ¬ (sw [] = ("opened" : Str)) ∧ ¬ (sw [] = ("left" : Str)) := by decide +kernel
  rcases List.mem_cons.mp h2 with e | h2
  · exact h3.1 (Sum.inr.inj e)
  rcases List.mem_cons.mp h2 with e | h2
  · exact h3.2.1 (Sum.inr.inj e)
  exact h3.2.2 (Sum.inr.inj (List.mem_singleton.mp h2))
theorem TreeAt.kp {C : Addr} {H H' : Hp} {o d c : Addr} {n : Nat} {z : Wd} {rs : List Rw} (h : TreeAt C H o z rs) (hp : Pen H d c n) (s : Kp d H H') : TreeAt C H' o z rs := by
  obtain ⟨ns, b, l, hd, _⟩ := hp
  refine h.mono (fun _ _ _ _ q => s _ _ q (ne_of q hd (by intro z; cases z))) (fun _ _ q => s _ _ q (ne_of q hd (by intro z; cases z))) fun _ k hk q => s _ _ q (ne_of q hd fun z => pen_kdl hk (HO.dK.inj z).symm)
end Toy
set_option Elab.async false
set_option linter.all false
set_option maxRecDepth 100000
set_option maxHeartbeats 4000000
namespace Toy
open PySem L2 Sh ShL LamX NdefX
/-! ### heaps: all stands but tables and one object -/
def SmK (T : List (Addr × Str)) (o : Addr) (H H' : Hp) : Prop := (∀ b u, H b = some u → (∀ ps, u ≠ .tbl ps) → b ≠ o → H' b = some u) ∧ Tabs T H'
/-- e is none of the old ones -/
def Fr (o : Addr) (H : Hp) (e : Addr) : Prop := ∀ b u, H b = some u → (∀ ps, u ≠ .tbl ps) → b ≠ o → b ≠ e
theorem tabs_put {T : List (Addr × Str)} {H : Hp} {d : Addr} {u v : HO} (t : Tabs T H) (hd : H d = some u) (nt : ∀ ps, u ≠ .tbl ps) (nc : ∀ c q, u ≠ CodeO c q) : Tabs T (upd H d v) := fun p hp => by
  obtain ⟨ps, h1, h2, h3⟩ := t p hp
  refine ⟨ps, by rw [upd_ne (ne_of h1 hd fun z => nt _ z.symm)]; exact h1, h2, fun pos cv hc => ?_⟩
  obtain ⟨c, e1, e2⟩ := h3 pos cv hc
  exact ⟨c, e1, by rw [upd_ne (ne_of e2 hd fun z => nc _ _ z.symm)]; exact e2⟩
section
variable {T : List (Addr × Str)} {o e : Addr} {H H1 H2 : Hp}
theorem SmK.of (s : Sm T H H1) : SmK T o H H1 := ⟨fun b u h n _ => s.get h n, s.2⟩
theorem SmK.sm (k : SmK T o H H1) (s : Sm T H1 H2) : SmK T o H H2 := ⟨fun b u h n ne => s.get (k.1 b u h n ne) n, s.2⟩
theorem SmK.same (k : SmK T o H H1) (s : Same H1 H2) : SmK T o H H2 := k.sm (Sm.of k.2 s)
theorem SmK.fresh (k : SmK T o H H1) (n : H1 e = none) : Fr o H e := fun b u h nt ne => ne_of_none (k.1 b u h nt ne) n
theorem SmK.putD {kvs kvs' : List (Key × V)} (k : SmK T o H H1) (f : Fr o H e) (h : H1 e = some (.dK kvs)) : SmK T o H (upd H1 e (.dK kvs')) :=
  ⟨fun b u hb nt ne => by rw [upd_ne (f b u hb nt ne)]; exact k.1 b u hb nt ne, tabs_put k.2 h (by intro ps z; cases z) (by intro c q z; unfold CodeO at z; cases z)⟩
theorem SmK.putO {C dx : Addr} {fs fs' : List (Str × V)} (k : SmK T o H H1) (h : H1 o = some (.ins C dx fs)) : SmK T o H (upd H1 o (.ins C dx fs')) :=
  ⟨fun b u hb nt ne => by rw [upd_ne ne]; exact k.1 b u hb nt ne, tabs_put k.2 h (by intro ps z; cases z) (by intro c q z; unfold CodeO at z; cases z)⟩
end
theorem unlock {H : Hp} {e : Addr} {u v : HO} (h : H e = some u) : Same H (upd (upd H e v) e u) := fun b x hb => by
  by_cases z : b = e
  · rw [z, upd_same, ← h, ← z]; exact hb
  · rw [upd_ne z, upd_ne z]; exact hb
theorem walk_wkeys {e : Addr} {od : Obj} (l : List (Wd × V)) : Walk (Itk e od (kdl l)) (wsV (l.map (·.1))).length (fun H => H e = some (.frz od (.dK (kdl l)))) (YAt (wsV (l.map (·.1)))) := by
  have := walk_keys (d := e) (o := od) (kvs := kdl l)
  rw [show (kdl l).length = (wsV (l.map (·.1))).length by rw [kdl_len, List.length_map, List.length_map]] at this
  refine this.mono (fun _ h => h) fun i H x H' hi _ ⟨e1, k, v, h1, h2⟩ => ⟨e1, ?_⟩
  unfold kdl at h1
  rw [List.getElem?_map] at h1
  obtain ⟨q, hq, e2⟩ := Option.map_eq_some_iff.mp h1
  cases e2
  rw [List.getElem?_map, List.getElem?_map, hq, h2]
  rfl
/-- [f(p) for p in dict] -/
theorem lc_lock {H : Hp} {e : Addr} {l : List (Wd × V)} {k j : Nat} {te : TE} {σ : L2.St} {Q : VK} (he : H e = some (.dK (kdl l))) (hσ : σ[k]? = some (some (.ref e))) (hl : l.length ≤ 40000) (f : Wd → V)
    (hw : ∀ x, wipe ((wipe σ [j]).set j x) [j] = wipe σ [j])
    (hs : ∀ p ∈ l.map (·.1), ∀ H' (R : VK), (∀ b u, H b = some u → b ≠ e → H' b = some u) → R (f p) H' → te ((wipe σ [j]).set j (some (.str (sw p)))) H' R)
    (q : ∀ H' D, Same H H' → H D = none → H' D = some (.lst ((l.map (·.1)).map f)) → Q (.ref D) H') : tLockE (tLc (iKeys (tVar k)) (gName j) tYes te [j]) σ H Q := by
  refine ⟨e, _, he, trivial, fun od => ?_⟩
  refine ⟨_, hσ, e, od, rfl, .inl ⟨_, upd_same, fun D hD => ?_⟩⟩
  have hDe : D ≠ e := fun z => by rw [z, upd_same] at hD; cases hD
  have hD0 : H D = none := by rw [upd_ne hDe] at hD; exact hD
  refine lcF (walk_wkeys l) yat (paired_self (l.map (·.1))) hD (fun H' s => s _ _ upd_same) (by rw [List.length_map]; exact hl) (fun _ => true) f (fun x p H' R N hp ex s k1 _ => ?_) (fun H' s hD2 => ?_)
  · subst ex
    refine ⟨hw _, yes_ite ?_⟩
    exact hs p hp H' R (fun b u hb ne => s _ _ (by rw [upd_ne ne]; exact hb)) (k1 rfl)
  · rw [filter_tt] at hD2
    refine ⟨s _ _ upd_same, q _ D (fun b u hb => ?_) hD0 ?_⟩
    · by_cases z : b = e
      · rw [z, upd_same, ← he, ← z]; exact hb
      · rw [upd_ne z]; exact s _ _ (by rw [upd_ne z]; exact hb)
    · rw [upd_ne hDe]; exact hD2
structure GoodUs (z : Wd) (us : List Rw) : Prop where
  ok : ∀ r ∈ us, RwOk z r
  nd : (us.map (·.1)).Nodup
  root : [] ∈ us.map (·.1)
  par : ∀ p ∈ us.map (·.1), p.dropLast ∈ us.map (·.1)
  len : us.length ≤ 2000
def spInit (T : List (Addr × Str)) (C : Addr) : Sp := fun vs H Q _ => ∃ (o dx a : Addr) (z : Wd) (xs : List V) (us rs : List Rw), vs = [.ref o, .str (sw z), .ref a] ∧ H o = some (.ins C dx []) ∧ LetOk z ∧ H a = some (.lst xs) ∧ Paired (RwE H) xs us ∧ GoodUs z us ∧
  us.Perm rs ∧ rs.map (·.1) = ordW z (us.map (·.1)) ∧ Tabs T H ∧ ∀ H', SmK T o H H' → TreeAt C H' o z rs → Q .non H'
theorem tri_get {H : Hp} : ∀ {l : List (Wd × V)} {us : List Rw} {r : Rw}, Paired (fun (q : Wd × V) r => q.1 = r.1 ∧ RwT H q.2 r) l us → r ∈ us → ∃ v, (r.1, v) ∈ l ∧ RwT H v r
  | _, _, r, .cons (a := q) h t, m => by
    rcases List.mem_cons.mp m with rfl | m
    · exact ⟨q.2, by rw [← h.1]; exact List.mem_cons_self, h.2⟩
    · obtain ⟨v, h1, h2⟩ := tri_get t m
      exact ⟨v, List.mem_cons_of_mem _ h1, h2⟩
end Toy
set_option Elab.async false
set_option linter.all false
set_option maxRecDepth 100000
set_option maxHeartbeats 4000000
namespace Toy
open PySem L2 Sh ShL LamX NdefX
theorem kd_map (os : List Wd) (f : Wd → V) : (os.map fun p => (p, f p)).map (·.1) = os := by
  rw [List.map_map]
  exact List.map_id _
theorem kdl_keys (l : List (Wd × V)) : (kdl l).map (fun kv => kV kv.1) = wsV (l.map (·.1)) := by
  unfold kdl
  show _ = (l.map (·.1)).map _
  rw [List.map_map, List.map_map]
  rfl
theorem way_put {os : List Wd} {q : Wd} {f g : Wd → V} {v : V} (h : q ∈ os) (hg : ∀ p, g p = if p = q then v else f p) : putK (kdl (os.map fun p => (p, f p))) (.inr (sw q)) v = kdl (os.map fun p => (p, g p)) := by
  rw [kdl_old v (by rw [kd_map]; exact h), List.map_map]
  congr 1
  refine List.map_congr_left fun p _ => ?_
  show (if p = q then (p, v) else (p, f p)) = (p, g p)
  rw [hg]
  by_cases e : p = q
  · rw [if_pos e, if_pos e]
  · rw [if_neg e, if_neg e]
theorem small_lt {c : Nat} (h : c ∈ small) : c < 200 := by
  revert c
  decide +kernel
abbrev TriP (H : Hp) : Wd × V → Rw → Prop := fun q r => q.1 = r.1 ∧ RwT H q.2 r
theorem triP_same {H H' : Hp} {l : List (Wd × V)} {us : List Rw} (s : Same H H') (h : Paired (TriP H) l us) : Paired (TriP H') l us := paired_mono (fun _ _ h => ⟨h.1, h.2.same s⟩) h
structure Bnd (T : List (Addr × Str)) (C o dx d e : Addr) (l : List (Wd × V)) (us : List Rw) (el : List (Wd × V)) (H0 : Hp) (fs : List (Str × V)) (H : Hp) : Prop where
  smk : SmK T o H0 H
  ins : H o = some (.ins C dx fs)
  dd : H d = some (.dK (kdl l))
  tri : Paired (TriP H) l us
  ee : H e = some (.dK (kdl el))
section
variable {T : List (Addr × Str)} {C o dx d e : Addr} {l : List (Wd × V)} {us : List Rw} {el : List (Wd × V)} {H0 H H' : Hp} {fs : List (Str × V)}
theorem Bnd.same (b : Bnd T C o dx d e l us el H0 fs H) (s : Same H H') : Bnd T C o dx d e l us el H0 fs H' := ⟨b.smk.same s, s _ _ b.ins, s _ _ b.dd, triP_same s b.tri, s _ _ b.ee⟩
theorem Bnd.put (b : Bnd T C o dx d e l us el H0 fs H) (fs' : List (Str × V)) : Bnd T C o dx d e l us el H0 fs' (upd H o (.ins C dx fs')) :=
  ⟨b.smk.putO b.ins, upd_same, by rw [upd_ne (ne_of b.dd b.ins (by intro z; cases z))]; exact b.dd,
   paired_mono (fun q r ⟨h, a, e1, h2⟩ => ⟨h, a, e1, by rw [upd_ne (ne_of h2 b.ins (by intro z; cases z))]; exact h2⟩) b.tri, by rw [upd_ne (ne_of b.ee b.ins (by intro z; cases z))]; exact b.ee⟩
theorem Bnd.putE (b : Bnd T C o dx d e l us el H0 fs H) (f : Fr o H0 e) (nd : d ≠ e) (el' : List (Wd × V)) : Bnd T C o dx d e l us el' H0 fs (upd H e (.dK (kdl el'))) :=
  ⟨b.smk.putD f b.ee, by rw [upd_ne (ne_of b.ins b.ee (by intro z; cases z))]; exact b.ins, by rw [upd_ne nd]; exact b.dd,
   paired_mono (fun q r ⟨h, a, e1, h2⟩ => ⟨h, a, e1, by rw [upd_ne (ne_of h2 b.ee (by intro z; cases z))]; exact h2⟩) b.tri, upd_same⟩
/-- the rows in their order -/
theorem rows_pr {f : Wd → V} : ∀ {rs : List Rw}, (∀ r ∈ rs, RwT H (f r.1) r) → Paired (RwT H) ((rs.map (·.1)).map f) rs
  | [], _ => .nil
  | r :: rs, h => .cons (h r List.mem_cons_self) (rows_pr fun x hx => h x (List.mem_cons_of_mem _ hx))
end
section
variable {P : Program} {w : World} {K : PySem.W.Frag} {mg : Str → Option Value} {base : Heap}
theorem ok_Tree_init (T : Tx P K mg) (B : Bx T base) : FnOk P w K mg base CX0 5 T.a_Tree_init T.fd_Tree_init ["self", "letters", "rows"] (spInit (tabs T) T.c_Tree) := by
  refine okT T.F_Tree_init sc_Tree_init (fun vs H Q E h => ?_) (fun cdv A outer s H vs Q E hcd hr h => ?_)
  · obtain ⟨o, dx, a, z, xs, us, rs, rfl, _⟩ := h
    rfl
  have hu := hu_of hr
  have hu65 := hu65_of hr
  obtain ⟨o, dx, a, z, xs, us, rs, rfl, ho, hz, ha, pr, gu, pm, od, tb, q⟩ := h
  have hxl : xs.length = us.length := pr.length
  have hu1 : 1 ≤ us.length := by
    obtain ⟨r, hr, _⟩ := List.mem_map.mp gu.root
    exact List.length_pos_of_mem hr
  have hul := gu.len
  refine ⟨_, (pss_cons (ps_if (pt_not (pt_val (pe_call (ok_is_letters T B) (hr.mono (by decide)) (by rfl) T.m_is_letters T.F_is_letters.kp T.bi_is_letters .nil pass0 (pa_cons (pv 1) pa_nil))))
 (pss_one ps_never)
 pss_nil)
 (pss_cons (ps_if (pt_not (pt_chain op_le op_le pe_int (pe_callB call_len_seq (by rfl) T.b_len (by decide +kernel) (pa_cons (pv 2) pa_nil)) (pe_glob (v := .int 2000) (by rfl) T.m_MOST_PLACES.choose_spec ⟨_, rfl⟩)))
 (pss_one ps_never)
 pss_nil)
 (pss_cons (ps_set (i := 3) sc_Tree_init.nd rfl (by first | exact Or.inl rfl | exact Or.inr rfl) pe_dnewK)
 (pss_cons (ps_for PassesOwn.never rfl (pi_enum (by rfl) T.b_enumerate (pa_cons (pv 2) pa_nil)) (pg_tup rfl (pgs_cons (pg_name (i := 4) sc_Tree_init.nd rfl (by first | exact Or.inl rfl | exact Or.inr rfl)) (pgs_cons (pg_name (i := 5) sc_Tree_init.nd rfl (by first | exact Or.inl rfl | exact Or.inr rfl)) pgs_nil)))
 (pss_cons (ps_if (PW.pt (pw_or (pt_not (pt_val (pe_call (ok_is_row T B) (hr.mono (by decide)) (by rfl) T.m_is_row T.F_is_row.kp T.bi_is_row .nil pass0 (pa_cons (pv 1) (pa_cons (pv 5) pa_nil))))) (pw_or1 (pt_cmp (pc_din hu (pe_alt (pe_ix ix_list (pv 5) pe_int (fun _ _ => rfl)) (pe_ix ix_tup (pv 5) pe_int (fun _ _ => rfl))) (pv 3))))))
 (pss_one ps_never)
 pss_nil)
 (pss_one (ps_dput hu (pv 3) (pe_alt (pe_ix ix_list (pv 5) pe_int (fun _ _ => rfl)) (pe_ix ix_tup (pv 5) pe_int (fun _ _ => rfl))) (pe_tup (pa_cons (pe_alt (pe_ix ix_list (pv 5) pe_int (fun _ _ => rfl)) (pe_ix ix_tup (pv 5) pe_int (fun _ _ => rfl))) (pa_cons (pe_alt (pe_ix ix_list (pv 5) pe_int (fun _ _ => rfl)) (pe_ix ix_tup (pv 5) pe_int (fun _ _ => rfl))) (pa_cons (pe_alt (pe_ix ix_list (pv 5) pe_int (fun _ _ => rfl)) (pe_ix ix_tup (pv 5) pe_int (fun _ _ => rfl))) pa_nil)))) rfl))))
 (pss_cons (ps_setDc (i := 6) (own := [("place", 7)]) (g := gName 7) rfl sc_Tree_init.nd rfl rfl (sw_trueD rfl rfl rfl (by decide +kernel)) (pi_list (pe_call (ok_in_order T B) (hr.mono (by decide)) (by rfl) T.m_in_order T.F_in_order.kp T.bi_in_order .nil pass0 (pa_cons (pv 1) (pa_cons (pv 3) pa_nil)))) (blkOk_by (own := [("place", 7)]) (N := N_Tree_init) (sc := defScope s_Tree_init) (by decide +kernel)) (fun _ _ _ _ _ => (pg_name (i := 7) sc_Tree_init.nd rfl (by first | exact Or.inl rfl | exact Or.inr rfl))) (fun _ _ _ _ _ => pts_nil) (fun _ _ _ _ _ => (pv 7)) (fun _ _ _ _ _ => pe_str))
 (pss_cons (ps_lock (ps_for PassesOwn.never rfl (pi_keys (pv 6)) (pg_name (i := 7) sc_Tree_init.nd rfl (by first | exact Or.inl rfl | exact Or.inr rfl))
 (pss_one (ps_if (PW.pt (pw_and (pt_cmpR op_ne (pv 7) pe_str (nomark _)) (pw_and1 (pt_cmp (pc_dnotin hu (pe_slice sl_str (pv 7) po_none (po_some (pe_un un_neg pe_int))) (pv 3))))))
 (pss_one ps_never)
 pss_nil))))
 (pss_cons (ps_for PassesOwn.never rfl (pi_list (pe_callTy (call_list_dK rfl) (by rfl) T.b_list (by decide +kernel) (pa_cons (pv 6) pa_nil))) (pg_name (i := 7) sc_Tree_init.nd rfl (by first | exact Or.inl rfl | exact Or.inr rfl))
 (pss_one (ps_if (pt_cmpR op_ne (pv 7) pe_str (nomark _))
 (pss_one (ps_daug hu (pv 6) (pe_slice sl_str (pv 7) po_none (po_some (pe_un un_neg pe_int))) (pe_ix ix_str (pv 7) (pe_un un_neg pe_int) (fun _ _ => rfl)) in_addS (fun _ _ _ => rfl)))
 pss_nil)))
 (pss_cons (ps_fld (pv 0) (pv 1) rfl)
 (pss_cons (ps_fld (pv 0) (pe_callTy call_tuple_of (by rfl) T.b_tuple (by decide +kernel) (pa_cons (pe_lock (pe_lc (own := [("place", 7)]) (g := gName 7) rfl sc_Tree_init.nd (pi_keys (pv 6)) (blkOk_by (own := [("place", 7)]) (N := N_Tree_init) (sc := defScope s_Tree_init) (by decide +kernel)) (fun _ _ _ _ _ => (pg_name (i := 7) sc_Tree_init.nd rfl (by first | exact Or.inl rfl | exact Or.inr rfl))) (fun _ _ _ _ _ => pts_nil) (fun _ _ _ _ _ => (pe_dget hu (pv 3) (pv 7) (fun _ _ => rfl))))) pa_nil)) rfl)
 (pss_cons (ps_fld (pv 0) (pe_callB call_len_seq (by rfl) T.b_len (by decide +kernel) (pa_cons (pv 2) pa_nil)) rfl)
 (pss_cons (ps_fld (pv 0) (pe_callB (cr_max rfl) (by rfl) T.b_max (by decide +kernel) (pa_cons (pe_lock (pe_lc (own := [("place", 7)]) (g := gName 7) rfl sc_Tree_init.nd (pi_keys (pv 6)) (blkOk_by (own := [("place", 7)]) (N := N_Tree_init) (sc := defScope s_Tree_init) (by decide +kernel)) (fun _ _ _ _ _ => (pg_name (i := 7) sc_Tree_init.nd rfl (by first | exact Or.inl rfl | exact Or.inr rfl))) (fun _ _ _ _ _ => pts_nil) (fun _ _ _ _ _ => (pe_callB call_len_str (by rfl) T.b_len (by decide +kernel) (pa_cons (pv 7) pa_nil))))) pa_nil)) rfl)
 (pss_cons (ps_fld (pv 0) (pv 3) rfl)
 (pss_one (ps_fld (pv 0) (pv 6) rfl)))))))))))))), ?_⟩
  refine ⟨_, rfl, z, rfl, hz, fun H1 s1 => ⟨_, rfl, iteF ?_⟩⟩
  have ha1 := s1 _ _ ha
  refine ⟨_, rfl, a, xs, rfl, .inl (SqL.of ha1), _, _, rfl, rfl, _, rfl, ?_⟩
  rw [decide_eq_true (show (1 : Int) ≤ (xs.length : Int) by omega)]
  refine iteT ?_
  refine ⟨_, _, rfl, rfl, _, rfl, ?_⟩
  rw [decide_eq_true (show (xs.length : Int) ≤ 2000 by omega)]
  refine iteF ?_
  intro d hd
  have s2 := s1.trans (same_upd (o := .dK []) hd)
  have hd0 : (upd H1 d (.dK [])) d = some (.dK (kdl [])) := upd_same
  have dn : H d = none := by
    cases e : H d with
    | none => rfl
    | some u => rw [s1 _ _ e] at hd; cases hd
  generalize upd H1 d (.dK []) = H2 at s2 hd0
  refine ⟨_, rfl, a, xs, rfl, SqL.of (s2 _ _ ha), ?_⟩
  refine for_enum (K := K) (a := a) (xs := xs) (fun i σ H3 => ∃ v4 v5 l, σ = [some (.ref o), some (.str (sw z)), some (.ref a), some (.ref d), v4, v5, none, none] ∧ Same H H3 ∧ H3 d = some (.dK (kdl l)) ∧ Paired (TriP H3) l (us.take i))
    ⟨_, _, [], rfl, s2, hd0, by rw [List.take_zero]; exact .nil⟩ (fun i σ H3 _ ⟨_, _, _, _, s, _⟩ => SqL.of (s _ _ ha)) (fun i x σ H3 U hx hU ⟨v4, v5, l, e, s, hd3, pl⟩ => ?_) (fun σ H3 ⟨v4, v5, l, e, s, hd3, pl⟩ => ?_)
  · subst e
    obtain ⟨r, hr2, hrE⟩ := paired_ix pr hx
    have rok := gu.ok r (List.mem_of_getElem? hr2)
    have sU := same_upd (o := .tup [.int (i : Nat), x]) hU
    have hE := hrE.same (s.trans sU)
    obtain ⟨b, rfl, hb⟩ := hE
    refine ⟨U, _, rfl, SqT.of upd_same, rfl, _, _, rfl, _, _, rfl, rfl, ?_⟩
    have pl3 := triP_same sU pl
    have hd4 := sU _ _ hd3
    have s4 := s.trans sU
    generalize upd H3 U (.tup [.int (i : Nat), .ref b]) = H4 at hb s4 pl3 hd4
    refine ⟨_, rfl, _, rfl, z, .ref b, r, rfl, ⟨b, rfl, hb⟩, rok, fun H5 s5 => ⟨_, rfl, iteF ?_⟩⟩
    have hb5 := hb.imp (s5 _ _) (s5 _ _)
    have hd5 := s5 _ _ hd4
    have ix : ∀ (j : Nat) (v : V) (H' : Hp) (σ : L2.St) (Q : VK), σ[5]? = some (some (.ref b)) → (H' b = some (.lst (rwVs r)) ∨ H' b = some (.tup (rwVs r))) → (rwVs r)[j]? = some v → Q v H' → tAlt (tOp (rIxL K) (tVar 5) (tC (.int (j : Int)))) (tOp (rIxT K) (tVar 5) (tC (.int (j : Int)))) σ H' Q := fun j v H' σ Q e hb hv q =>
      hb.elim (fun hb => .inl ⟨_, e, b, _, _, _, rfl, rfl, SqL.of hb, atI_nat hv, q⟩) fun hb => .inr ⟨_, e, b, _, _, _, rfl, rfl, SqT.of hb, atI_nat hv, q⟩
    have hfst : (us.map (·.1))[i]? = some r.1 := by rw [List.getElem?_map, hr2]; rfl
    have hnew : r.1 ∉ l.map (·.1) := by
      rw [tri_fst pl, List.map_take]
      exact nd_take gu.nd hfst
    refine ix 0 (.str (sw r.1)) _ _ _ rfl hb5 rfl ?_
    refine ⟨_, rfl, d, valV (kdl l) (.inr (sw r.1)), rfl, dget_kdl hd5 r.1, _, rfl, ?_⟩
    rw [kdl_none hnew]
    refine iteF ?_
    refine ix 0 (.str (sw r.1)) _ _ _ rfl hb5 rfl ?_
    refine ix 1 (oV r.2.1) _ _ _ rfl hb5 rfl ?_
    refine ix 2 (.bl r.2.2) _ _ _ rfl hb5 rfl ?_
    refine ⟨by show 3 ≤ sizeLine; decide, fun p hp => ?_⟩
    have s6 := same_upd (o := .tup (rwVs r)) hp
    have hp6 : (upd H5 p (.tup (rwVs r))) p = some (.tup (rwVs r)) := upd_same
    have hb6 := hb5.imp (s6 _ _) (s6 _ _)
    have hd6 := s6 _ _ hd5
    have pl6 := triP_same (s5.trans s6) pl3
    have s7 := (s4.trans s5).trans s6
    refine ⟨_, rfl, ?_⟩
    refine ix 0 (.str (sw r.1)) _ _ _ rfl hb6 rfl ?_
    have hll : l.length = i := by
      have := pl.length
      rw [List.length_take] at this
      have h1 := (List.getElem?_eq_some_iff.mp hr2).1
      omega
    have hil := (List.getElem?_eq_some_iff.mp hr2).1
    refine ⟨d, _, rfl, dput_kdl hd6 r.1 _ (by omega), ?_⟩
    refine ⟨_, _, l ++ [(r.1, .ref p)], rfl, same_of_new s7 dn, ?_, ?_⟩
    · rw [upd_same, kdl_new _ hnew]
    · rw [List.take_add_one, hr2]
      refine paired_app (paired_mono (fun q r h => ⟨h.1, h.2.kp hd6 kp_put⟩) pl6) (.cons ⟨rfl, p, rfl, ?_⟩ .nil)
      rw [upd_ne (ne_of hp6 hd6 (by intro z; cases z))]
      exact hp6
  · subst e
    rw [hxl, List.take_of_length_le (Nat.le_refl _)] at pl
    have hfst : l.map (·.1) = us.map (·.1) := tri_fst pl
    have hdn : ∀ p, (valV (kdl l) (.inr (sw p))).isSome = decide (p ∈ us.map (·.1)) := fun p => by rw [kdl_is (by rw [hfst]; exact gu.nd), hfst]
    have wdl : ∀ p ∈ us.map (·.1), p.length ≤ 200 ∧ ∀ c ∈ p, c ∈ z := fun p hp => by
      obtain ⟨r, hr, rfl⟩ := List.mem_map.mp hp
      exact ⟨(gu.ok r hr).l200, (gu.ok r hr).wd⟩
    refine ⟨_, rfl, _, rfl, z, d, kdl l, us.map (·.1), rfl, hd3, ?_, wdl, tb.ext s, fun H4 a4 sm4 h4 => ⟨a4, rfl, ⟨_, SqL.of h4⟩, fun e he => ?_⟩⟩
    · rw [← hfst]
      exact kdl_keys l
    rw [← od] at h4
    generalize hos : rs.map (·.1) = os at od h4
    have hosm : ∀ p, p ∈ os ↔ p ∈ us.map (·.1) := fun p => by rw [od]; exact ordW_mem
    have hosl : os.length = us.length := by rw [od, ordW_len, List.length_map]
    have hosn : os.Nodup := by rw [od]; exact ordW_nodup gu.nd
    refine dc_list (K := K) (a := a4) (xs := wsV os) (fun i H5 => Same H4 H5 ∧ H5 e = some (.dK (kdl ((os.take i).map fun p => (p, V.str (sw [])))))) ⟨same_upd he, upd_same⟩ (fun i H5 _ ⟨s5, _⟩ => SqL.of (s5 _ _ h4)) (fun i x H5 hx ⟨s5, h5⟩ => ?_) (fun H5 ⟨s5, h5⟩ => ?_)
    · rw [List.getElem?_map] at hx
      obtain ⟨p, hp, rfl⟩ := Option.map_eq_some_iff.mp hx
      have hpn : p ∉ ((os.take i).map fun p => (p, V.str (sw []))).map (·.1) := by rw [kd_map]; exact nd_take hosn hp
      refine ⟨rfl, yes_ite ⟨_, rfl, kdl ((os.take i).map fun p => (p, V.str (sw []))), .inr (sw p), rfl, h5, ?_, same_of_new s5 he, ?_⟩⟩
      · rw [kdl_len, List.length_map, List.length_take, sizeLine_eq]
        omega
      · rw [upd_same, mt_eq, kdl_new _ hpn, List.take_add_one, hp]
        show _ = some (HO.dK (kdl ((os.take i ++ [p]).map fun p => (p, V.str (sw [])))))
        rw [List.map_append]
        rfl
    rw [List.length_map, List.take_of_length_le (Nat.le_refl _)] at h5
    have hde : d ≠ e := ne_of_none (sm4.get hd3) he
    have fe : Fr o H e := ((SmK.of (Sm.of tb s)).sm sm4).fresh he
    have b5 : Bnd (tabs T) T.c_Tree o dx d e l us (os.map fun p => (p, V.str (sw []))) H [] H5 :=
      ⟨((SmK.of (Sm.of tb s)).sm sm4).same s5, s5 _ _ (sm4.get (s _ _ ho)), s5 _ _ (sm4.get hd3), paired_mono (fun q r h => ⟨h.1, (h.2.sm sm4).same s5⟩) pl, h5⟩
    clear he h4 s5 sm4 h5
    -- no place without the one above it
    refine ⟨e, _, b5.ee, trivial, fun ob => ?_⟩
    refine ⟨_, rfl, e, ob, rfl, .inl ⟨_, upd_same, ?_⟩⟩
    refine for_it (walk_wkeys (os.map fun p => (p, V.str (sw [])))) (fun i σ H6 => (∃ v7, σ = [some (.ref o), some (.str (sw z)), some (.ref a), some (.ref d), v4, v5, some (.ref e), v7]) ∧ H6 = upd H5 e (.frz ob (.dK (kdl (os.map fun p => (p, V.str (sw [])))))))
      ⟨⟨_, rfl⟩, rfl⟩ (fun i σ H6 _ ⟨_, h⟩ => by rw [h]; exact upd_same) (fun i x σ H6 H7 hi ⟨⟨v7, e1⟩, e2⟩ y => ?_) (fun σ H6 ⟨⟨v7, e1⟩, e2⟩ => ?_)
    · obtain ⟨rfl, hx⟩ := y
      subst e1
      rw [List.getElem?_map, kd_map] at hx
      obtain ⟨p, hp, rfl⟩ := Option.map_eq_some_iff.mp hx
      have hpm := (hosm p).mp (List.mem_of_getElem? hp)
      have hl : (sw p).length ≤ sizeLine := by rw [sw_len, sizeLine_eq]; have := (wdl p hpm).1; omega
      refine ⟨_, rfl, rfl, _, rfl, ?_⟩
      rw [mt_eq, sw_dec]
      refine ite2 (fun _ => ?_) (fun _ => ?_)
      · refine ⟨_, rfl, _, rfl, _, rfl, _, rfl, hl, _, rfl, d, valV (kdl l) (.inr (sw p.dropLast)), rfl, ?_, _, rfl, ?_⟩
        · show DGet _ d (.str (cutS (sw p) none (some (-1)))) _
          rw [cut_init]
          exact dget_kdl (by rw [e2, upd_ne hde]; exact b5.dd) _
        · rw [hdn, decide_eq_true (gu.par p hpm)]
          exact iteF ⟨⟨_, rfl⟩, e2⟩
      · exact iteF ⟨⟨_, rfl⟩, e2⟩
    subst e1
    refine ⟨by rw [e2]; exact upd_same, ?_⟩
    have b6 := b5.same (unlock (v := .frz ob (.dK (kdl (os.map fun p => (p, V.str (sw []))))))  b5.ee)
    rw [← e2] at b6
    generalize upd H6 e (.dK (kdl (os.map fun p => (p, V.str (sw []))))) = H7 at b6
    -- the ways
    refine ⟨_, rfl, e, _, rfl, b6.ee, fun bl hbl => ⟨bl, rfl, ⟨_, SqL.of upd_same⟩, ?_⟩⟩
    have b7 := b6.same (same_upd (o := .lst ((kdl (os.map fun p => (p, V.str (sw [])))).map fun kv => kV kv.1)) hbl)
    have hbl7 : (upd H7 bl (.lst ((kdl (os.map fun p => (p, V.str (sw [])))).map fun kv => kV kv.1))) bl = some (.lst (wsV os)) := by rw [upd_same, kdl_keys, kd_map]
    generalize upd H7 bl (.lst ((kdl (os.map fun p => (p, V.str (sw [])))).map fun kv => kV kv.1)) = H8 at b7 hbl7
    have hble : bl ≠ e := ne_of hbl7 b7.ee (by intro z; cases z)
    refine for_it (walk_list (K := K) (a := bl) (xs := wsV os)) (fun i σ H9 => (∃ v7, σ = [some (.ref o), some (.str (sw z)), some (.ref a), some (.ref d), v4, v5, some (.ref e), v7]) ∧ H9 bl = some (.lst (wsV os)) ∧
        Bnd (tabs T) T.c_Tree o dx d e l us (os.map fun p => (p, V.str (sw (kidS (os.take i) p)))) H [] H9)
      ⟨⟨_, rfl⟩, hbl7, b7⟩ (fun i σ H9 _ ⟨_, h, _⟩ => SqL.of h) (fun i x σ H9 H10 hi ⟨⟨v7, e1⟩, hb9, b9⟩ y => ?_) (fun σ H9 ⟨⟨v7, e1⟩, hb9, b9⟩ => ?_)
    · obtain ⟨rfl, hx⟩ := y
      subst e1
      rw [List.getElem?_map] at hx
      obtain ⟨p, hp, rfl⟩ := Option.map_eq_some_iff.mp hx
      have hpm := (hosm p).mp (List.mem_of_getElem? hp)
      have hil := (List.getElem?_eq_some_iff.mp hp).1
      have hl : (sw p).length ≤ sizeLine := by rw [sw_len, sizeLine_eq]; have := (wdl p hpm).1; omega
      have htk : os.take (i + 1) = os.take i ++ [p] := by rw [List.take_add_one, hp]; rfl
      refine ⟨_, rfl, rfl, _, rfl, ?_⟩
      rw [mt_eq, sw_dec]
      by_cases hpe : p = []
      · rw [decide_eq_true hpe]
        refine iteF ⟨⟨_, rfl⟩, hb9, ?_⟩
        have : (os.map fun q => (q, V.str (sw (kidS (os.take (i + 1)) q)))) = os.map fun q => (q, V.str (sw (kidS (os.take i) q))) := List.map_congr_left fun q _ => by
          rw [htk, kidS_step, if_neg (fun h => h.1 hpe)]
        rw [this]
        exact b9
      · rw [decide_eq_false hpe]
        refine iteT ?_
        obtain ⟨c, hc⟩ : ∃ c, p.getLast? = some c := ⟨_, List.getLast?_eq_some_getLast hpe⟩
        have hpar : p.dropLast ∈ os := (hosm _).mpr (gu.par p hpm)
        refine ⟨_, rfl, _, rfl, _, rfl, _, rfl, _, rfl, hl, e, .str (sw (kidS (os.take i) p.dropLast)), rfl, ?_, ?_⟩
        · show DGet _ e (.str (cutS (sw p) none (some (-1)))) _
          rw [cut_init]
          have := dget_kdl b9.ee p.dropLast
          rw [kdl_some (by rw [kd_map]; exact hosn) (List.mem_map.mpr ⟨_, hpar, rfl⟩)] at this
          exact this
        refine ⟨_, rfl, _, rfl, sw p, _, c, rfl, rfl, hl, atW_last hc, _, _, rfl, rfl, ?_, ?_⟩
        · have h1 := kidS_len (os.take i) p.dropLast
          rw [List.length_take] at h1
          rw [sw_len, sizeLine_eq]
          show _ + 1 ≤ _
          omega
        show ∃ H5, DPut _ e (.str (cutS (sw p) none (some (-1)))) _ H5 ∧ _
        rw [cut_init]
        refine ⟨_, dput_kdl b9.ee p.dropLast _ (by rw [List.length_map]; omega), ⟨_, rfl⟩, by rw [upd_ne hble]; exact hb9, ?_⟩
        rw [way_put (g := fun q => .str (sw (kidS (os.take (i + 1)) q))) hpar (fun q => ?_)]
        · exact b9.putE fe hde _
        · show V.str (sw (kidS (os.take (i + 1)) q)) = _
          rw [htk, kidS_step]
          by_cases hq : q = p.dropLast
          · rw [if_pos ⟨hpe, hq.symm⟩, if_pos hq, hc, hq, sw_one, sw_app]
            rfl
          · rw [if_neg (fun h => hq h.2.symm), if_neg hq]
    subst e1
    rw [List.length_map, List.take_of_length_le (Nat.le_refl _)] at b9
    have hway : (os.map fun p => (p, V.str (sw (kidS os p)))) = wayl z os := List.map_congr_left fun p _ => by
      rw [kidS_eq hz.nd (fun q hq => (wdl q ((hosm q).mp hq)).2) hosn (by rw [od]; exact ordW_sorted _ _)]
    rw [hway] at b9
    -- the fields
    refine ⟨_, rfl, _, rfl, o, T.c_Tree, dx, [], rfl, b9.ins, T.cl_Tree, T.na_Tree_letters, (by show 0 < 1000; decide), ?_⟩
    have b10 := b9.put (putF "letters" (.str (sw z)) [])
    generalize upd H9 o _ = H10 at b10
    have hval : ∀ p ∈ os, ∃ v, valV (kdl l) (.inr (sw p)) = some v := fun p hp => by
      have := hdn p
      rw [decide_eq_true ((hosm p).mp hp)] at this
      exact Option.isSome_iff_exists.mp this
    have hwl : (wayl z os).length ≤ 40000 := by rw [List.length_map]; omega
    refine lc_lock (k := 6) (j := 7) (l := wayl z os) b10.ee rfl hwl (fun p => (valV (kdl l) (.inr (sw p))).getD .non) (fun _ => rfl) (fun p hp H11 R kp k1 => ?_) fun H11 D1 s11 hD1n hD1 => ?_
    · rw [wayl_fst] at hp
      obtain ⟨v, hv⟩ := hval p hp
      rw [hv] at k1
      have := dget_kdl (kp _ _ b10.dd hde) p
      rw [hv] at this
      exact ⟨_, rfl, _, rfl, d, v, rfl, this, k1⟩
    rw [wayl_fst] at hD1
    have b11 := b10.same s11
    refine ⟨D1, _, rfl, .inl ⟨SqL.of hD1, fun t ht => ?_⟩⟩
    have s12 := same_upd (o := .tup (os.map fun p => (valV (kdl l) (.inr (sw p))).getD .non)) ht
    have b12 := b11.same s12
    have ht12 : (upd H11 t (.tup (os.map fun p => (valV (kdl l) (.inr (sw p))).getD .non))) t = some (.tup (os.map fun p => (valV (kdl l) (.inr (sw p))).getD .non)) := upd_same
    generalize upd H11 t (.tup (os.map fun p => (valV (kdl l) (.inr (sw p))).getD .non)) = H12 at b12 ht12
    refine ⟨_, rfl, o, T.c_Tree, dx, _, rfl, b12.ins, T.cl_Tree, T.na_Tree_rows, (by show 1 < 1000; decide), ?_⟩
    have b13 := b12.put (putF "rows" (.ref t) (putF "letters" (.str (sw z)) []))
    have ht13 : (upd H12 o (.ins T.c_Tree dx (putF "rows" (.ref t) (putF "letters" (.str (sw z)) [])))) t = some (.tup (os.map fun p => (valV (kdl l) (.inr (sw p))).getD .non)) := by
      rw [upd_ne (ne_of ht12 b12.ins (by intro z; cases z))]; exact ht12
    generalize upd H12 o (.ins T.c_Tree dx (putF "rows" (.ref t) (putF "letters" (.str (sw z)) []))) = H13 at b13 ht13
    have hrl : (xs.length : Int) = (rs.length : Int) := by rw [hxl, pm.length_eq]
    have hao : a ≠ o := ne_of ha ho (by intro z; cases z)
    refine ⟨_, rfl, a, xs, rfl, .inl (SqL.of (b13.smk.1 _ _ ha (by intro ps z; cases z) hao)), _, rfl, o, T.c_Tree, dx, _, rfl, b13.ins, T.cl_Tree, T.na_Tree_size, (by show 2 < 1000; decide), ?_⟩
    rw [hrl]
    have b14 := b13.put (putF "size" (.int (rs.length : Int)) (putF "rows" (.ref t) (putF "letters" (.str (sw z)) [])))
    have ht14 : (upd H13 o (.ins T.c_Tree dx (putF "size" (.int (rs.length : Int)) (putF "rows" (.ref t) (putF "letters" (.str (sw z)) []))))) t = some (.tup (os.map fun p => (valV (kdl l) (.inr (sw p))).getD .non)) := by
      rw [upd_ne (ne_of ht13 b13.ins (by intro z; cases z))]; exact ht13
    generalize upd H13 o (.ins T.c_Tree dx (putF "size" (.int (rs.length : Int)) (putF "rows" (.ref t) (putF "letters" (.str (sw z)) [])))) = H14 at b14 ht14
    refine lc_lock (k := 6) (j := 7) (l := wayl z os) b14.ee rfl hwl (fun p => .int (p.length : Int)) (fun _ => rfl) (fun p hp H15 R kp k1 => ?_) fun H15 D2 s15 hD2n hD2 => ?_
    · rw [wayl_fst] at hp
      have h200 := (wdl p ((hosm p).mp hp)).1
      refine ⟨_, rfl, _, rfl, by rw [sw_len, sizeLine_eq]; omega, ?_⟩
      rw [sw_len]
      exact k1
    rw [wayl_fst] at hD2
    have b15 := b14.same s15
    have ht15 := s15 _ _ ht14
    have hlens : os.map (fun p => V.int (p.length : Int)) = (os.map fun p => (p.length : Int)).map V.int := by rw [List.map_map]; rfl
    rw [hlens] at hD2
    refine ⟨D2, _, rfl, SqL.of hD2, by rw [List.length_map]; omega, fun m hm hmx => ?_⟩
    refine ⟨_, rfl, o, T.c_Tree, dx, _, rfl, b15.ins, T.cl_Tree, T.na_Tree_height, (by show 3 < 1000; decide), ?_⟩
    have b16 := b15.put (putF "height" (.int m) (putF "size" (.int (rs.length : Int)) (putF "rows" (.ref t) (putF "letters" (.str (sw z)) []))))
    have ht16 : (upd H15 o (.ins T.c_Tree dx (putF "height" (.int m) (putF "size" (.int (rs.length : Int)) (putF "rows" (.ref t) (putF "letters" (.str (sw z)) [])))))) t = some (.tup (os.map fun p => (valV (kdl l) (.inr (sw p))).getD .non)) := by
      rw [upd_ne (ne_of ht15 b15.ins (by intro z; cases z))]; exact ht15
    generalize upd H15 o (.ins T.c_Tree dx (putF "height" (.int m) (putF "size" (.int (rs.length : Int)) (putF "rows" (.ref t) (putF "letters" (.str (sw z)) []))))) = H16 at b16 ht16
    refine ⟨_, rfl, _, rfl, o, T.c_Tree, dx, _, rfl, b16.ins, T.cl_Tree, T.na_Tree_triples, (by show 4 < 1000; decide), ?_⟩
    have b17 := b16.put (putF "triples" (.ref d) (putF "height" (.int m) (putF "size" (.int (rs.length : Int)) (putF "rows" (.ref t) (putF "letters" (.str (sw z)) [])))))
    have ht17 : (upd H16 o (.ins T.c_Tree dx (putF "triples" (.ref d) (putF "height" (.int m) (putF "size" (.int (rs.length : Int)) (putF "rows" (.ref t) (putF "letters" (.str (sw z)) []))))))) t = some (.tup (os.map fun p => (valV (kdl l) (.inr (sw p))).getD .non)) := by
      rw [upd_ne (ne_of ht16 b16.ins (by intro z; cases z))]; exact ht16
    generalize upd H16 o (.ins T.c_Tree dx (putF "triples" (.ref d) (putF "height" (.int m) (putF "size" (.int (rs.length : Int)) (putF "rows" (.ref t) (putF "letters" (.str (sw z)) [])))))) = H17 at b17 ht17
    refine ⟨_, rfl, _, rfl, o, T.c_Tree, dx, _, rfl, b17.ins, T.cl_Tree, T.na_Tree_ways, (by show 5 < 1000; decide), ?_⟩
    have b18 := b17.put (treeFs z t d e (rs.length : Int) m)
    have ht18 : (upd H17 o (.ins T.c_Tree dx (treeFs z t d e (rs.length : Int) m))) t = some (.tup (os.map fun p => (valV (kdl l) (.inr (sw p))).getD .non)) := by
      rw [upd_ne (ne_of ht17 b17.ins (by intro z; cases z))]; exact ht17
    show Q .non (upd H17 o (.ins T.c_Tree dx (treeFs z t d e (rs.length : Int) m)))
    generalize upd H17 o (.ins T.c_Tree dx (treeFs z t d e (rs.length : Int) m)) = H18 at b18 ht18
    have hln : rs.map (fun r => (r.1.length : Int)) = os.map fun p => (p.length : Int) := by rw [← hos, List.map_map]; rfl
    refine q _ b18.smk ⟨?_, fun r hr c hc => small_lt (hz.sm c ((gu.ok r (pm.mem_iff.mpr hr)).wd c hc)), dx, t, d, e, m, _, us, b18.ins, ht18, ?_, ⟨l, b18.dd, b18.tri⟩, pm, ?_, by rw [hln]; exact hm, by rw [hln]; exact hmx⟩
    · rw [hos]
      exact (hosm _).mpr gu.root
    · rw [← hos]
      refine rows_pr fun r hr => ?_
      obtain ⟨v, h1, h2⟩ := tri_get b18.tri (pm.mem_iff.mpr hr)
      rw [kdl_some (by rw [hfst]; exact gu.nd) h1]
      exact h2
    · rw [hos]
      exact b18.ee
end
end Toy
set_option Elab.async false
set_option linter.all false
set_option maxRecDepth 100000
set_option maxHeartbeats 4000000
namespace Toy
open PySem L2 Sh ShL LamX NdefX
/-! ### rows as data -/
def oD : Option Int → PyData
  | none => .none
  | some i => .int i
def rwD (r : Rw) : PyData := .tuple [.str (sw r.1), oD r.2.1, .bool r.2.2]
theorem oV_dp {K : PySem.W.Frag} {H : Hp} (o : Option Int) : Dp K H (oV o) (oD o) := by
  cases o
  · exact .non
  · exact .int _
theorem RwT.dp {K : PySem.W.Frag} {H : Hp} {v : V} {r : Rw} (h : RwT H v r) : Dp K H v (rwD r) := by
  obtain ⟨a, rfl, h⟩ := h
  exact .tup (SqT.of h) (.cons (.str _) (.cons (oV_dp _) (.cons (.bl _) .nil)))
theorem rws_dp {K : PySem.W.Frag} {H : Hp} : ∀ {vs : List V} {rs : List Rw}, Paired (RwT H) vs rs → DpAll K H vs (rs.map rwD)
  | _, _, .nil => .nil
  | _, _, .cons h t => .cons h.dp (rws_dp t)
theorem sw_beq (a b : Wd) : (sw a == sw b) = decide (a = b) := by
  by_cases h : a = b
  · rw [h]; simp
  · rw [decide_eq_false h]
    exact beq_eq_false_iff_ne.mpr fun z => h (sw_inj z)
theorem oD_eqv (o o' : Option Int) : PyData.eqv (oD o) (oD o') = decide (o = o') := by
  cases o <;> cases o' <;> simp [oD, PyData.eqv] <;> first | rfl | exact Bool.eq_iff_iff.mpr (by simp)
theorem rwD_eqv (r r' : Rw) : PyData.eqv (rwD r) (rwD r') = decide (r = r') := by
  obtain ⟨p, o, f⟩ := r
  obtain ⟨p', o', f'⟩ := r'
  unfold rwD
  simp only [PyData.eqv, PyData.eqvAll, oD_eqv, sw_beq]
  rw [Bool.eq_iff_iff]
  simp [Prod.mk.injEq]
theorem rws_eqv : ∀ rs rs' : List Rw, PyData.eqvAll (rs.map rwD) (rs'.map rwD) = decide (rs = rs')
  | [], [] => by simp [PyData.eqvAll]
  | [], _ :: _ => by simp [PyData.eqvAll]
  | _ :: _, [] => by simp [PyData.eqvAll]
  | r :: rs, r' :: rs' => by
    simp only [List.map_cons, PyData.eqvAll, rwD_eqv, rws_eqv rs rs']
    rw [Bool.eq_iff_iff]
    simp
theorem oD_lay (o : Option Int) : PyData.canLay0 (oD o) = true ∧ PyData.depth (oD o) = 0 := by
  cases o <;> exact ⟨rfl, rfl⟩
theorem str_ok {p : Wd} (h : ∀ c ∈ p, c < 200) : PyData.strOk (sw p) = true := by
  show p.toArray.all (· < 0x110000) = true
  rw [← Array.all_toList, List.all_eq_true]
  exact fun c hc => decide_eq_true (Nat.lt_trans (h c hc) (by decide))
theorem rwD_lay (r : Rw) (hr : ∀ c ∈ r.1, c < 200) : PyData.canLay0 (rwD r) = true ∧ PyData.depth (rwD r) ≤ 1 := by
  unfold rwD
  constructor
  · simp only [PyData.canLay0, PyData.canLayAll0, (oD_lay r.2.1).1, str_ok hr]
    rfl
  · simp only [PyData.depth, PyData.depthAll, (oD_lay r.2.1).2]
    omega
theorem rws_lay : ∀ rs : List Rw, (∀ r ∈ rs, ∀ c ∈ r.1, c < 200) → PyData.canLayAll0 (rs.map rwD) = true ∧ PyData.depthAll (rs.map rwD) ≤ 2
  | [], _ => ⟨rfl, by simp [PyData.depthAll]⟩
  | r :: rs, h => by
    obtain ⟨h1, h2⟩ := rws_lay rs fun x hx => h x (List.mem_cons_of_mem _ hx)
    obtain ⟨h3, h4⟩ := rwD_lay r (h r List.mem_cons_self)
    refine ⟨by simp only [List.map_cons, PyData.canLayAll0, h1, h3]; rfl, ?_⟩
    simp only [List.map_cons, PyData.depthAll]
    omega
theorem shaped_of {d : PyData} (h1 : PyData.canLay0 d = true) (h2 : PyData.depth d ≤ 64) : SeqAt.shaped d = true := by
  show (PyData.canLay0 d && decide (PyData.depth d ≤ 64)) = true
  rw [Bool.and_eq_true]
  exact ⟨h1, decide_eq_true h2⟩
theorem rws_shaped {rs : List Rw} (h : ∀ r ∈ rs, ∀ c ∈ r.1, c < 200) : SeqAt.shaped (.tuple (rs.map rwD)) = true := by
  obtain ⟨h1, h2⟩ := rws_lay rs h
  exact shaped_of (by simp only [PyData.canLay0]; exact h1) (by simp only [PyData.depth]; omega)
theorem rwD_shaped {r : Rw} (h : ∀ c ∈ r.1, c < 200) : SeqAt.shaped (rwD r) = true := shaped_of (rwD_lay r h).1 (by have := (rwD_lay r h).2; omega)
/-! ### what is looked for -/
/-- v is the text p, or no text -/
def PlV (K : PySem.W.Frag) (H : Hp) (v : V) : Option Wd → Prop
  | some p => v = .str (sw p)
  | none => ∃ t, TyX K H v t ∧ PySem.W.kitOne K t (.type "str") = some false
def inR (p : Option Wd) (rs : List Rw) : Bool := match p with
  | some p => decide (p ∈ rs.map (·.1))
  | none => false
def spEq (C : Addr) : Sp := fun vs H Q _ => ∃ x y z z' rs rs', vs = [.ref x, .ref y] ∧ TreeAt C H x z rs ∧ TreeAt C H y z' rs' ∧ Q (.bl (decide (z = z' ∧ rs = rs'))) H
def spHas (K : PySem.W.Frag) (C : Addr) : Sp := fun vs H Q _ => ∃ x z rs v p, vs = [.ref x, v] ∧ TreeAt C H x z rs ∧ (rs.map (·.1)).Nodup ∧ PlV K H v p ∧ Q (.bl (inR p rs)) H
def spRowOf (K : PySem.W.Frag) (C N : Addr) : Sp := fun vs H Q E => ∃ x z rs v p, vs = [.ref x, v] ∧ TreeAt C H x z rs ∧ (rs.map (·.1)).Nodup ∧ PlV K H v p ∧ (∀ r ∈ rs, p = some r.1 → ∀ u, RwT H u r → Q u H) ∧
  (inR p rs = false → ∀ H' d, Same H H' → H d = none → H' d = some (exd d [("place", v)]) → E (.ref N) (some d) H')
def spBelow (K : PySem.W.Frag) (C N : Addr) : Sp := fun vs H Q E => ∃ x z rs v p, vs = [.ref x, v] ∧ TreeAt C H x z rs ∧ (rs.map (·.1)).Nodup ∧ PlV K H v p ∧ (∀ q ∈ rs.map (·.1), p = some q → Q (.str (sw (kids z (rs.map (·.1)) q))) H) ∧
  (inR p rs = false → ∀ H' d, Same H H' → H d = none → H' d = some (exd d [("place", v)]) → E (.ref N) (some d) H')
def spValueOf (K : PySem.W.Frag) (C : Addr) : Sp := fun vs H Q _ => ∃ x z rs v p, vs = [.ref x, v] ∧ TreeAt C H x z rs ∧ (rs.map (·.1)).Nodup ∧ PlV K H v p ∧ (∀ r ∈ rs, p = some r.1 → Q (oV r.2.1) H) ∧ (inR p rs = false → Q .non H)
def kept (rs : List Rw) : List Rw := rs.filter fun r => r.2.1.isSome
def KvT (H : Hp) (v : V) (r : Rw) : Prop := ∃ b, v = .ref b ∧ H b = some (.tup [.str (sw r.1), oV r.2.1])
theorem KvT.same {H H' : Hp} {v : V} {r : Rw} (s : Same H H') (h : KvT H v r) : KvT H' v r := let ⟨a, e, h⟩ := h; ⟨a, e, s _ _ h⟩
def spItems (C : Addr) : Sp := fun vs H Q _ => ∃ x z rs, vs = [.ref x] ∧ TreeAt C H x z rs ∧ rs.length ≤ 2000 ∧ ∀ H' t vs, Same H H' → H' t = some (.tup vs) → Paired (KvT H') vs (kept rs) → Q (.ref t) H'
section
variable {P : Program} {w : World} {K : PySem.W.Frag} {mg : Str → Option Value} {base : Heap}
theorem tree_ty (T : Tx P K mg) {H : Hp} {x dx : Addr} {fs : List (Str × V)} (h : H x = some (.ins T.c_Tree dx fs)) : TyX K H (.ref x) (.ref T.c_Tree) := .base (.ins h T.cl_Tree T.ca_Tree T.o_get T.o_tk T.eq_Tree.ob)
theorem tree_kit (T : Tx P K mg) : PySem.W.kitOne K (.ref T.c_Tree) (.ref T.c_Tree) = some true := by
  unfold PySem.W.kitOne
  rw [if_pos (by simp)]
theorem ok_Tree_eq (T : Tx P K mg) (B : Bx T base) : FnOk P w K mg base CX0 1 T.a_Tree_eq T.fd_Tree_eq ["self", "other"] (spEq T.c_Tree) := by
  refine okT T.F_Tree_eq sc_Tree_eq (fun vs H Q E h => ?_) (fun cdv A outer s H vs Q E hcd hr h => ?_)
  · obtain ⟨x, y, z, z', rs, rs', rfl, _⟩ := h
    rfl
  have hu := hu_of hr
  have hu65 := hu65_of hr
  obtain ⟨x, y, z, z', rs, rs', rfl, hx, hy, q⟩ := h
  obtain ⟨dx, t, d, e, m, ws, us, x1, x2, x3, _⟩ := hx.ex
  obtain ⟨dy, t', d', e', m', ws', us', y1, y2, y3, _⟩ := hy.ex
  refine ⟨_, (pss_cons (ps_if (pt_not (pt_val (pe_callB call_isi (by rfl) T.b_isinstance (by decide +kernel) (pa_cons (pv 1) (pa_cons (pe_glob (v := .ref T.c_Tree) (by rfl) T.m_Tree rfl) pa_nil)))))
 (pss_one ps_never)
 pss_nil)
 (pss_one (ps_ret (pe_and (pe_cmpR op_eq (pe_fld (pv 0) rfl) (pe_fld (pv 1) rfl) (nomark _)) (pe_one (pe_cmpR (op_eqD hr.units) (pe_fld (pv 0) rfl) (pe_fld (pv 1) rfl) (nomark _))))))), ?_⟩
  refine ⟨_, rfl, _, _, _, _, _, rfl, .own _, tree_ty T y1, tree_kit T, _, rfl, iteF ?_⟩
  refine ⟨_, rfl, x, _, dx, _, _, rfl, x1, T.cl_Tree, T.na_Tree_letters, tf_letters, _, rfl, y, _, dy, _, _, rfl, y1, T.cl_Tree, T.na_Tree_letters, tf_letters, rfl, _, rfl, ?_⟩
  rw [sw_dec]
  refine ite2 (fun h => ?_) (fun h => ?_)
  · have h' := of_decide_eq_true h
    refine ⟨_, rfl, x, _, dx, _, _, rfl, x1, T.cl_Tree, T.na_Tree_rows, tf_rows, _, rfl, y, _, dy, _, _, rfl, y1, T.cl_Tree, T.na_Tree_rows, tf_rows, ?_⟩
    refine ⟨_, _, .tup (SqT.of x2) (rws_dp x3), .tup (SqT.of y2) (rws_dp y3), rws_shaped hx.low, rws_shaped hy.low, ?_⟩
    have e1 : PyData.eqv (.tuple (rs.map rwD)) (.tuple (rs'.map rwD)) = decide (z = z' ∧ rs = rs') := by
      simp only [PyData.eqv, rws_eqv]
      rw [Bool.eq_iff_iff]
      simp [h']
    rw [e1]
    exact q
  · have e1 : decide (z = z' ∧ rs = rs') = false := decide_eq_false fun k => h (decide_eq_true k.1)
    rw [e1] at q
    exact q
theorem ok_Tree_has (T : Tx P K mg) (B : Bx T base) : FnOk P w K mg base CX0 1 T.a_Tree_has T.fd_Tree_has ["self", "place"] (spHas K T.c_Tree) := by
  refine okT T.F_Tree_has sc_Tree_has (fun vs H Q E h => ?_) (fun cdv A outer s H vs Q E hcd hr h => ?_)
  · obtain ⟨x, z, rs, v, p, rfl, _⟩ := h
    rfl
  have hu := hu_of hr
  have hu65 := hu65_of hr
  obtain ⟨x, z, rs, v, p, rfl, hx, nd, hv, q⟩ := h
  obtain ⟨dx, t, d, e, m, ws, us, x1, x2, x3, ⟨l, l1, l2⟩, x5, _⟩ := hx.ex
  refine ⟨_, (pss_one (ps_ret (pe_and (pe_callB call_isi (by rfl) T.b_isinstance (by decide +kernel) (pa_cons (pv 1) (pa_cons (pe_bltn (v := .ty "str") (by rfl) T.b_str (by decide +kernel) rfl) pa_nil))) (pe_one (pe_cmp (pc_din hu (pv 1) (pe_fld (pv 0) rfl))))))), ?_⟩
  have nl : (l.map (·.1)).Nodup := by rw [tri_fst l2]; exact (x5.map _).nodup_iff.mpr nd
  cases p with
  | none =>
    obtain ⟨ty, h1, h2⟩ := hv
    exact ⟨_, rfl, _, _, _, _, _, rfl, .ty _, h1, h2, _, rfl, iteF q⟩
  | some p =>
    cases (show v = .str (sw p) from hv)
    refine ⟨_, rfl, _, _, _, _, _, rfl, .ty _, .base (.str _), isi_s, _, rfl, iteT ?_⟩
    refine ⟨_, rfl, _, rfl, x, _, dx, _, _, rfl, x1, T.cl_Tree, T.na_Tree_triples, tf_triples, d, valV (kdl l) (.inr (sw p)), rfl, dget_kdl l1 p, ?_⟩
    rw [kdl_is nl, tri_fst l2]
    have e1 : decide (p ∈ us.map (·.1)) = inR (some p) rs := decide_eq_decide.mpr (x5.map _).mem_iff
    rw [e1]
    exact q
end
end Toy
set_option Elab.async false
set_option linter.all false
set_option maxRecDepth 100000
set_option maxHeartbeats 4000000
namespace Toy
open PySem L2 Sh ShL LamX NdefX
theorem tri_row {H : Hp} {l : List (Wd × V)} {us : List Rw} {r : Rw} (nd : (us.map (·.1)).Nodup) (h : Paired (fun (q : Wd × V) r => q.1 = r.1 ∧ RwT H q.2 r) l us) (m : r ∈ us) : ∃ v, valV (kdl l) (.inr (sw r.1)) = some v ∧ RwT H v r := by
  obtain ⟨v, h1, h2⟩ := tri_get h m
  exact ⟨v, kdl_some (by rw [tri_fst h]; exact nd) h1, h2⟩
theorem inR_of {p : Wd} {rs : List Rw} (h : inR (some p) rs = true) : ∃ r ∈ rs, p = r.1 := by
  obtain ⟨r, hr, e⟩ := List.mem_map.mp (of_decide_eq_true h)
  exact ⟨r, hr, e.symm⟩
section
variable {P : Program} {w : World} {K : PySem.W.Frag} {mg : Str → Option Value} {base : Heap}
theorem ok_Tree_row (T : Tx P K mg) (B : Bx T base) : FnOk P w K mg base (L2.CX P w) 3 T.a_Tree_row T.fd_Tree_row ["self", "place"] (spRowOf K T.c_Tree T.c_NoPlace) := by
  refine T.F_Tree_row.okX sc_Tree_row (fun vs H Q E h => ?_) (fun cdv A outer s H vs Q E hr h => ?_)
  · obtain ⟨x, z, rs, v, p, rfl, _⟩ := h
    rfl
  have hu := hu_of hr
  have hu65 := hu65_of hr
  obtain ⟨x, z, rs, v, p, rfl, hx, nd, hv, q1, q2⟩ := h
  obtain ⟨dx, t, d, e, m, ws, us, x1, x2, x3, ⟨l, l1, l2⟩, x5, _⟩ := hx.ex
  refine ⟨_, (pss_cons (ps_if (pt_not (pt_val (pe_meth (pv 0) T.cl_Tree T.me_Tree_has (ok_Tree_has T B) (hr.mono (by decide)) T.bi_Tree_has .nil pass0 (pa_cons (pv 1) pa_nil))))
 (pss_one (ps_raiseX rfl rfl (takes_of rfl rfl rfl rfl) (pe_oexN T.i_NoPlace.m (ok_x_NoPlace T) (hr.mono (by decide)) (by rfl) T.m_NoPlace T.kb_NoPlace_1 pass0 (pa_cons (pv 1) pa_nil) pk_nil)))
 pss_nil)
 (pss_one (ps_ret (pe_dget hu (pe_fld (pv 0) rfl) (pv 1) (fun _ _ => rfl))))), ?_⟩
  refine ⟨_, rfl, x, dx, _, rfl, x1, tf_no (by decide +kernel), _, rfl, x, z, rs, v, p, rfl, hx, nd, hv, _, rfl, ?_⟩
  cases hb : inR p rs with
  | false =>
    refine iteT ?_
    exact mk_raise (vs := [v]) (zs := []) (fun a ha => fr0_none ha) T.x_NoPlace.raises (fun R h => ⟨_, rfl, h⟩) (fun R h => h) rfl rfl rfl fun H' d' s n e => q2 hb _ _ s n e
  | true =>
    refine iteF ?_
    cases p with
    | none => cases hb
    | some p =>
      obtain ⟨r, hr, rfl⟩ := inR_of hb
      cases (show v = .str (sw r.1) from hv)
      have nu : (us.map (·.1)).Nodup := (x5.map _).nodup_iff.mpr nd
      obtain ⟨u, h1, h2⟩ := tri_row nu l2 (x5.mem_iff.mpr hr)
      have g := dget_kdl l1 r.1
      rw [h1] at g
      exact ⟨_, rfl, x, _, dx, _, _, rfl, x1, T.cl_Tree, T.na_Tree_triples, tf_triples, _, rfl, d, u, rfl, g, q1 r hr rfl u h2⟩
theorem ok_Tree_below (T : Tx P K mg) (B : Bx T base) : FnOk P w K mg base (L2.CX P w) 3 T.a_Tree_below T.fd_Tree_below ["self", "place"] (spBelow K T.c_Tree T.c_NoPlace) := by
  refine T.F_Tree_below.okX sc_Tree_below (fun vs H Q E h => ?_) (fun cdv A outer s H vs Q E hr h => ?_)
  · obtain ⟨x, z, rs, v, p, rfl, _⟩ := h
    rfl
  have hu := hu_of hr
  have hu65 := hu65_of hr
  obtain ⟨x, z, rs, v, p, rfl, hx, nd, hv, q1, q2⟩ := h
  obtain ⟨dx, t, d, e, m, ws, us, x1, x2, x3, x4, x5, x6, _⟩ := hx.ex
  refine ⟨_, (pss_cons (ps_if (pt_not (pt_val (pe_meth (pv 0) T.cl_Tree T.me_Tree_has (ok_Tree_has T B) (hr.mono (by decide)) T.bi_Tree_has .nil pass0 (pa_cons (pv 1) pa_nil))))
 (pss_one (ps_raiseX rfl rfl (takes_of rfl rfl rfl rfl) (pe_oexN T.i_NoPlace.m (ok_x_NoPlace T) (hr.mono (by decide)) (by rfl) T.m_NoPlace T.kb_NoPlace_1 pass0 (pa_cons (pv 1) pa_nil) pk_nil)))
 pss_nil)
 (pss_one (ps_ret (pe_dget hu (pe_fld (pv 0) rfl) (pv 1) (fun _ _ => rfl))))), ?_⟩
  refine ⟨_, rfl, x, dx, _, rfl, x1, tf_no (by decide +kernel), _, rfl, x, z, rs, v, p, rfl, hx, nd, hv, _, rfl, ?_⟩
  cases hb : inR p rs with
  | false =>
    refine iteT ?_
    exact mk_raise (vs := [v]) (zs := []) (fun a ha => fr0_none ha) T.x_NoPlace.raises (fun R h => ⟨_, rfl, h⟩) (fun R h => h) rfl rfl rfl fun H' d' s n e => q2 hb _ _ s n e
  | true =>
    refine iteF ?_
    cases p with
    | none => cases hb
    | some p =>
      cases (show v = .str (sw p) from hv)
      have hp : p ∈ rs.map (·.1) := of_decide_eq_true hb
      have g := dget_kdl x6 p
      rw [kdl_some (by rw [wayl_fst]; exact nd) (List.mem_map.mpr ⟨p, hp, rfl⟩)] at g
      exact ⟨_, rfl, x, _, dx, _, _, rfl, x1, T.cl_Tree, T.na_Tree_ways, tf_ways, _, rfl, e, _, rfl, g, q1 p hp rfl⟩
theorem ok_Tree_value_of (T : Tx P K mg) (B : Bx T base) : FnOk P w K mg base CX0 2 T.a_Tree_value_of T.fd_Tree_value_of ["self", "word"] (spValueOf K T.c_Tree) := by
  refine okT T.F_Tree_value_of sc_Tree_value_of (fun vs H Q E h => ?_) (fun cdv A outer s H vs Q E hcd hr h => ?_)
  · obtain ⟨x, z, rs, v, p, rfl, _⟩ := h
    rfl
  have hu := hu_of hr
  have hu65 := hu65_of hr
  obtain ⟨x, z, rs, v, p, rfl, hx, nd, hv, q1, q2⟩ := h
  obtain ⟨dx, t, d, e, m, ws, us, x1, x2, x3, ⟨l, l1, l2⟩, x5, _⟩ := hx.ex
  refine ⟨_, (pss_one (ps_ret (pe_ifExp (pt_val (pe_meth (pv 0) T.cl_Tree T.me_Tree_has (ok_Tree_has T B) (hr.mono (by decide)) T.bi_Tree_has .nil pass0 (pa_cons (pv 1) pa_nil))) (pe_ix ix_tup (pe_dget hu (pe_fld (pv 0) rfl) (pv 1) (fun _ _ => rfl)) pe_int (fun _ _ => rfl)) pe_non))), ?_⟩
  refine ⟨_, rfl, x, dx, _, rfl, x1, tf_no (by decide +kernel), _, rfl, x, z, rs, v, p, rfl, hx, nd, hv, _, rfl, ?_⟩
  cases hb : inR p rs with
  | false => exact iteF (q2 hb)
  | true =>
    refine iteT ?_
    cases p with
    | none => cases hb
    | some p =>
      obtain ⟨r, hr, rfl⟩ := inR_of hb
      cases (show v = .str (sw r.1) from hv)
      have nu : (us.map (·.1)).Nodup := (x5.map _).nodup_iff.mpr nd
      obtain ⟨u, h1, a, rfl, h2⟩ := tri_row nu l2 (x5.mem_iff.mpr hr)
      have g := dget_kdl l1 r.1
      rw [h1] at g
      exact ⟨_, rfl, x, _, dx, _, _, rfl, x1, T.cl_Tree, T.na_Tree_triples, tf_triples, _, rfl, d, _, rfl, g, a, _, _, _, rfl, rfl, SqT.of h2, atI_nat (j := 1) rfl, q1 r hr rfl⟩
theorem ok_Tree_word_items (T : Tx P K mg) (B : Bx T base) : FnOk P w K mg base CX0 1 T.a_Tree_word_items T.fd_Tree_word_items ["self"] (spItems T.c_Tree) := by
  refine okT T.F_Tree_word_items sc_Tree_word_items (fun vs H Q E h => ?_) (fun cdv A outer s H vs Q E hcd hr h => ?_)
  · obtain ⟨x, z, rs, rfl, _⟩ := h
    rfl
  have hu := hu_of hr
  have hu65 := hu65_of hr
  obtain ⟨x, z, rs, rfl, hx, hl, q⟩ := h
  obtain ⟨dx, t, d, e, m, ws, us, x1, x2, x3, x4, x5, _⟩ := hx.ex
  refine ⟨_, (pss_one (ps_ret (pe_callTy call_tuple_of (by rfl) T.b_tuple (by decide +kernel) (pa_cons (pe_lc (own := [("place", 1), ("value", 2), ("flag", 3)]) (g := gTup K 3 (gCons (gName 1) (gCons (gName 2) (gCons (gName 3) gNil)))) rfl sc_Tree_word_items.nd (pi_tup (pe_fld (pv 0) rfl)) (blkOk_by (own := [("place", 1), ("value", 2), ("flag", 3)]) (N := N_Tree_word_items) (sc := defScope s_Tree_word_items) (by decide +kernel)) (fun _ _ _ _ _ => (pg_tup rfl (pgs_cons (pg_name (i := 1) sc_Tree_word_items.nd rfl (by first | exact Or.inl rfl | exact Or.inr rfl)) (pgs_cons (pg_name (i := 2) sc_Tree_word_items.nd rfl (by first | exact Or.inl rfl | exact Or.inr rfl)) (pgs_cons (pg_name (i := 3) sc_Tree_word_items.nd rfl (by first | exact Or.inl rfl | exact Or.inr rfl)) pgs_nil))))) (fun _ _ _ _ _ => (pts_one (pt_cmpR op_notN (pv 2) pe_non (nomark _)))) (fun _ _ _ _ _ => (pe_tup (pa_cons (pv 1) (pa_cons (pv 2) pa_nil))))) pa_nil)))), ?_⟩
  refine ⟨_, rfl, x, _, dx, _, _, rfl, x1, T.cl_Tree, T.na_Tree_rows, tf_rows, t, rfl, ⟨_, SqT.of x2⟩, fun D hD => ?_⟩
  refine lcG (walk_tup (K := K) (a := t) (xs := ws)) yat x3 (fun _ H' => Same H H') (same_upd hD) (fun _ H' acc s => same_of_new s hD) (fun i H' _ s => SqT.of (s _ _ x2)) (by omega) (fun r => r.2.1.isSome) KvT (fun H' acc acc' v u hD2 h => ?_) (fun i x u H' acc R N hu hr s hD2 k1 k2 => ?_) (fun H' acc s hD2 pr => ?_)
  · obtain ⟨b, e1, h⟩ := h
    exact ⟨b, e1, by rw [upd_ne (ne_of h hD2 (by intro z; cases z))]; exact h⟩
  · obtain ⟨a, rfl, ha⟩ := hr
    have ha' := s _ _ ha
    refine ⟨a, _, rfl, SqT.of ha', rfl, _, _, rfl, _, _, rfl, _, _, rfl, rfl, rfl, _, rfl, rfl, _, rfl, ?_⟩
    obtain ⟨p, o, f⟩ := u
    cases o with
    | none =>
      refine ite2 (fun h => by cases h) (fun _ => ?_)
      exact k2 rfl _ s hD2 fun _ _ h => h
    | some i =>
      refine ite2 (fun _ => ?_) (fun h => absurd rfl h)
      refine ⟨_, rfl, _, rfl, by show 2 ≤ sizeLine; decide, fun b hb => ?_⟩
      have sb := same_upd (o := .tup [.str (sw p), .int i]) hb
      exact k1 rfl _ _ (s.trans sb) (sb _ _ hD2) (fun _ _ h => h.same sb) ⟨b, rfl, upd_same⟩
  · refine ⟨D, acc, rfl, .inl ⟨SqL.of hD2, fun t' ht' => ?_⟩⟩
    have st := same_upd (o := .tup acc) ht'
    exact q _ t' acc (s.trans st) upd_same (paired_mono (fun _ _ h => h.same st) pr)
end
end Toy
set_option Elab.async false
set_option linter.all false
set_option maxRecDepth 100000
set_option maxHeartbeats 4000000
namespace Toy
open PySem L2 Sh ShL LamX NdefX
theorem val_lookup (its : List (Wd × Int)) (p : Wd) : valV (kdl (valK its)) (.inr (sw p)) = (its.lookup p).map V.int := by
  induction its with
  | nil => rfl
  | cons it its ih =>
    obtain ⟨q, n⟩ := it
    rw [List.lookup_cons]
    by_cases h : p = q
    · subst h
      rw [show (p == p) = true from by simp]
      exact valV_pos rfl
    · rw [show (p == q) = false from beq_eq_false_iff_ne.mpr h]
      exact (valV_neg (fun e => h (sw_inj (Sum.inr.inj e)).symm)).trans ih
theorem lookup_mem {its : List (Wd × Int)} {p : Wd} {n : Int} (h : its.lookup p = some n) : (p, n) ∈ its := by
  induction its with
  | nil => cases h
  | cons it its ih =>
    obtain ⟨q, k⟩ := it
    rw [List.lookup_cons] at h
    by_cases e : p = q
    · subst e
      rw [show (p == p) = true from by simp] at h
      cases h
      exact List.mem_cons_self
    · rw [show (p == q) = false from beq_eq_false_iff_ne.mpr e] at h
      exact List.mem_cons_of_mem _ (ih h)
/-- the rows that Tree.of makes -/
def ofRows (its : List (Wd × Int)) : List Rw := (begs (its.map (·.1))).map fun p => (p, its.lookup p, false)
theorem ofRows_fst (its : List (Wd × Int)) : (ofRows its).map (·.1) = begs (its.map (·.1)) := by
  unfold ofRows
  rw [List.map_map]
  exact List.map_id _
structure GoodIt (z : Wd) (its : List (Wd × Int)) : Prop where
  ok : ∀ it ∈ its, it.1.length ≤ 200 ∧ (∀ c ∈ it.1, c ∈ z) ∧ 1 ≤ it.2 ∧ it.2 ≤ 9
  nd : (its.map (·.1)).Nodup
  len : its.length ≤ 2000
  ps : ∃ ps : List Wd, ps.length ≤ 2000 ∧ Clo ps ∧ ∀ it ∈ its, it.1 ∈ ps
theorem begs_sub {ps ws : List Wd} (h : Clo ps) (hw : ∀ w ∈ ws, w ∈ ps) : ∀ p ∈ begs ws, p ∈ ps := fun p hp => by
  rcases begs_mem.mp hp with rfl | ⟨w, hw2, m, rfl⟩
  · exact h.1
  · exact h.2 _ (hw w hw2) m
theorem GoodIt.us {z : Wd} {its : List (Wd × Int)} (g : GoodIt z its) : GoodUs z (ofRows its) := by
  obtain ⟨ps, hl, hc, hw⟩ := g.ps
  have clo := begs_clo (its.map (·.1))
  refine ⟨fun r hr => ?_, by rw [ofRows_fst]; exact begs_nd _, by rw [ofRows_fst]; exact clo.1, fun p hp => ?_, ?_⟩
  · obtain ⟨p, hp, rfl⟩ := List.mem_map.mp hr
    have h1 : (∀ c ∈ p, c ∈ z) ∧ p.length ≤ 200 := by
      rcases begs_mem.mp hp with rfl | ⟨w, hw2, m, rfl⟩
      · exact ⟨fun c hc => (List.not_mem_nil hc).elim, by simp⟩
      · obtain ⟨it, hit, rfl⟩ := List.mem_map.mp hw2
        have k := g.ok it hit
        exact ⟨fun c hc => k.2.1 c (List.mem_of_mem_take hc), by rw [List.length_take]; omega⟩
    exact ⟨h1.1, h1.2, fun i hi => (g.ok _ (lookup_mem hi)).2.2⟩
  · rw [ofRows_fst] at hp ⊢
    rw [List.dropLast_eq_take]
    exact clo.2 p hp _
  · rw [show (ofRows its).length = (begs (its.map (·.1))).length from List.length_map _]
    refine Nat.le_trans (nd_len (begs_nd _) (begs_sub hc fun w hw2 => ?_)) hl
    obtain ⟨it, hit, rfl⟩ := List.mem_map.mp hw2
    exact hw it hit
theorem mk_tree {T : List (Addr × Str)} {C : Addr} {H : Hp} {z : Wd} {a : Addr} {xs : List V} {us rs : List Rw} {Q : VK} {E : XK} (hz : LetOk z) (ha : H a = some (.lst xs)) (pr : Paired (RwE H) xs us) (gu : GoodUs z us) (pm : us.Perm rs) (od : rs.map (·.1) = ordW z (us.map (·.1))) (tb : Tabs T H)
    (q : ∀ H' o, Sm T H H' → H o = none → TreeAt C H' o z rs → Q (.ref o) H') :
    ∀ x dx, H x = none → H dx = none → dx ≠ x → spInit T C (.ref x :: ([.str (sw z), .ref a] ++ [])) (upd (upd H dx (.own x)) x (.ins C dx [])) (fun v H2 => v = .non ∧ Q (.ref x) H2) E := by
  intro x dx hx hdx hne
  have s1 := same_upd (o := .own x) hdx
  have s2 : Same H (upd (upd H dx (.own x)) x (.ins C dx [])) := same_of_new s1 hx
  refine ⟨x, dx, a, z, xs, us, rs, rfl, upd_same, hz, s2 _ _ ha, paired_mono (fun v r h => h.same s2) pr, gu, pm, od, tb.ext s2, fun H' k t => ⟨rfl, q H' x ⟨fun b u hb nt => k.1 b u (s2 _ _ hb) nt (ne_of_none hb hx), k.2⟩ hx t⟩⟩
def spOf (T : List (Addr × Str)) (C : Addr) : Sp := fun vs H Q _ => ∃ (a : Addr) (z : Wd) (xs : List V) (its : List (Wd × Int)) (rs : List Rw), vs = [.ref C, .str (sw z), .ref a] ∧ LetOk z ∧ H a = some (.lst xs) ∧ Paired (ItE H) xs its ∧ GoodIt z its ∧
  (ofRows its).Perm rs ∧ rs.map (·.1) = ordW z (begs (its.map (·.1))) ∧ Tabs T H ∧ ∀ H' o, Sm T H H' → TreeAt C H' o z rs → Q (.ref o) H'
section
variable {P : Program} {w : World} {K : PySem.W.Frag} {mg : Str → Option Value} {base : Heap}
theorem ok_Tree_of (T : Tx P K mg) (B : Bx T base) : FnOk P w K mg base CX0 7 T.a_Tree_of T.fd_Tree_of ["cls", "letters", "items"] (spOf (tabs T) T.c_Tree) := by
  refine okT T.F_Tree_of sc_Tree_of (fun vs H Q E h => ?_) (fun cdv A outer s H vs Q E hcd hr h => ?_)
  · obtain ⟨a, z, xs, its, rs, rfl, _⟩ := h
    rfl
  have hu := hu_of hr
  have hu65 := hu65_of hr
  obtain ⟨a, z, xs, its, rs, rfl, hz, ha, pr, gi, pm, od, tb, q⟩ := h
  obtain ⟨ps, hpl, hpc, hpw⟩ := gi.ps
  have hil := gi.len
  refine ⟨_, (pss_cons (ps_if (pt_not (pt_val (pe_call (ok_is_letters T B) (hr.mono (by decide)) (by rfl) T.m_is_letters T.F_is_letters.kp T.bi_is_letters .nil pass0 (pa_cons (pv 1) pa_nil))))
 (pss_one ps_never)
 pss_nil)
 (pss_cons (ps_set (i := 3) sc_Tree_of.nd rfl (by first | exact Or.inl rfl | exact Or.inr rfl) (pe_call (ok_values_of T B) (hr.mono (by decide)) (by rfl) T.m_values_of T.F_values_of.kp T.bi_values_of .nil pass0 (pa_cons (pv 1) (pa_cons (pv 2) pa_nil))))
 (pss_one (ps_ret (pe_makeL (i := 0) T.mk_Tree (ok_Tree_init T B) (hr.mono (by decide)) rfl (by first | exact Or.inl rfl | exact Or.inr (Or.inl rfl) | exact Or.inr (Or.inr rfl)) T.bi_Tree_init pass0 (pa_cons (pv 1) (pa_cons (pe_lc (own := [("place", 4)]) (g := gName 4) rfl sc_Tree_of.nd (pi_list (pe_call (ok_beginnings T B) (hr.mono (by decide)) (by rfl) T.m_beginnings T.F_beginnings.kp T.bi_beginnings .nil pass0 (pa_cons (pe_callTy (call_list_dK rfl) (by rfl) T.b_list (by decide +kernel) (pa_cons (pv 3) pa_nil)) pa_nil))) (blkOk_by (own := [("place", 4)]) (N := N_Tree_of) (sc := defScope s_Tree_of) (by decide +kernel)) (fun _ _ _ _ _ => (pg_name (i := 4) sc_Tree_of.nd rfl (by first | exact Or.inl rfl | exact Or.inr rfl))) (fun _ _ _ _ _ => pts_nil) (fun _ _ _ _ _ => (pe_tup (pa_cons (pv 4) (pa_cons (pe_dget1 hu (pv 3) (pv 4) ⟨by rfl, by rfl, by rfl, by rfl⟩) (pa_cons pe_bl pa_nil)))))) pa_nil))))))), ?_⟩
  refine ⟨_, rfl, z, rfl, hz, fun H1 s1 => ⟨_, rfl, iteF ?_⟩⟩
  refine ⟨_, rfl, _, rfl, z, a, xs, its, rfl, s1 _ _ ha, paired_mono (fun v it h => h.same s1) pr, gi.ok, gi.nd, by omega, fun H2 d s2 hd => ?_⟩
  have hwp : ∀ w ∈ its.map (·.1), w ∈ ps := fun w hw => by
    obtain ⟨it, hit, rfl⟩ := List.mem_map.mp hw
    exact hpw it hit
  refine ⟨rfl, _, rfl, ?_⟩
  refine ⟨_, rfl, d, _, rfl, hd, fun b hb => ?_⟩
  have s3 := same_upd (o := .lst ((kdl (valK its)).map fun kv => kV kv.1)) hb
  have hb3 : (upd H2 b (.lst ((kdl (valK its)).map fun kv => kV kv.1))) b = some (.lst (wsV (its.map (·.1)))) := by rw [upd_same, kdl_keys, valK_fst]
  have hd3 := s3 _ _ hd
  generalize upd H2 b (.lst ((kdl (valK its)).map fun kv => kV kv.1)) = H3 at s3 hb3 hd3
  refine ⟨b, its.map (·.1), ps, rfl, SqL.of hb3, ⟨by omega, hpc, hwp⟩, fun w hw => ?_, by rw [List.length_map]; omega, fun H4 c s4 hc => ⟨c, rfl, ⟨_, SqL.of hc⟩, fun D hD => ?_⟩⟩
  · obtain ⟨it, hit, rfl⟩ := List.mem_map.mp hw
    exact (gi.ok it hit).1
  have hbl : (begs (its.map (·.1))).length ≤ 2000 := Nat.le_trans (nd_len (begs_nd _) (begs_sub hpc hwp)) hpl
  have hd4 := s4 _ _ hd3
  refine lcG (walk_list (K := K) (a := c) (xs := wsV (begs (its.map (·.1))))) yat (paired_self (begs (its.map (·.1)))) (fun _ H' => Same H4 H') (same_upd hD) (fun _ H' acc s => same_of_new s hD) (fun i H' _ s => SqL.of (s _ _ hc)) (by omega) (fun _ => true)
    (fun H' v p => RwT H' v (p, its.lookup p, false)) (fun H' acc acc' v p hD2 h => ?_) (fun i x p H' acc R N hp hx s hD2 k1 _ => ?_) (fun H' acc s hD2 pr2 => ?_)
  · obtain ⟨b, e1, h⟩ := h
    exact ⟨b, e1, by rw [upd_ne (ne_of h hD2 (by intro z; cases z))]; exact h⟩
  · subst hx
    refine ⟨rfl, yes_ite ?_⟩
    have g := dget_kdl (s _ _ hd4) p
    rw [val_lookup] at g
    refine ⟨_, rfl, _, rfl, d, rfl, ?_, _, rfl, _, g, by show 3 ≤ sizeLine; decide, fun t ht => ?_⟩
    · exact .inl ⟨_, .inl (s _ _ hd4)⟩
    have st := same_upd (o := .tup [V.str (sw p), ((its.lookup p).map V.int).getD .non, .bl false]) ht
    refine k1 rfl _ _ (s.trans st) (st _ _ hD2) (fun _ _ h => h.same st) ⟨t, rfl, ?_⟩
    rw [upd_same]
    cases its.lookup p <;> rfl
  · rw [filter_tt] at pr2
    have pr3 : Paired (RwE H') acc (ofRows its) := paired_map (f := fun p => (p, its.lookup p, false)) (fun v p h => RwT.e h) pr2
    have sAll := ((s1.trans s2).trans s3).trans (s4.trans s)
    exact mk_tree hz hD2 pr3 gi.us pm (by rw [ofRows_fst]; exact od) (tb.ext sAll) fun H5 o sm _ t => q H5 o ((Sm.of tb sAll).trans sm) t
end
end Toy
set_option Elab.async false
set_option linter.all false
set_option maxRecDepth 100000
set_option maxHeartbeats 4000000
namespace Toy
open PySem L2 Sh ShL LamX NdefX
theorem Pen.ne_free {H : Hp} {d c p : Addr} {n : Nat} (h : Pen H d c n) (hp : H p = none) : p ≠ d := by
  obtain ⟨kvs, e⟩ := h.at
  exact (ne_of_none e hp).symm
/-- the pen stays where an object changes that was not there ahead of H0 -/
theorem Pen.put {H0 H : Hp} {d c D : Addr} {n m : Nat} {o : HO} (h0 : Pen H0 d c m) (nD : H0 D = none) (h : Pen H d c n) : Pen (upd H D o) d c n := by
  obtain ⟨ns, b, l, a1, a2, a3⟩ := h
  obtain ⟨ns0, b0, l0, a01, a02, _⟩ := h0
  exact ⟨ns, b, l, by rw [upd_ne (ne_of_none a01 nD)]; exact a1, by rw [upd_ne (ne_of_none a02 nD)]; exact a2, a3⟩
theorem kp_put0 {d p : Addr} {H0 H : Hp} {o : HO} (h : Kp d H0 H) (n : H0 p = none) : Kp d H0 (upd H p o) := fun b u e nb => by
  rw [upd_ne (ne_of_none e n)]
  exact h b u e nb
/-- a word's signs that were drawn, and those that are left -/
structure Drawn (fs rem : Wd) : Prop where
  pm : (fs ++ rem).Perm small
theorem small_nd : small.Nodup := by decide +kernel
theorem Drawn.ok {fs rem : Wd} (h : Drawn fs rem) (h2 : 2 ≤ fs.length) : LetOk fs := by
  have nd : (fs ++ rem).Nodup := h.pm.nodup_iff.mpr small_nd
  have l : (fs ++ rem).length = 26 := h.pm.length_eq
  rw [List.length_append] at l
  exact ⟨h2, by omega, (List.nodup_append.mp nd).1, fun c hc => h.pm.mem_iff.mp (List.mem_append_left _ hc)⟩
theorem erase_perm {α : Type} : ∀ {rem : List α} {k : Nat} {c : α}, rem[k]? = some c → (c :: rem.eraseIdx k).Perm rem
  | [], _, _, h => by cases h
  | x :: rem, 0, c, h => by
    cases h
    exact List.Perm.refl _
  | x :: rem, k + 1, c, h => by
    rw [List.eraseIdx_cons_succ]
    exact (List.Perm.swap x c _).trans ((erase_perm (rem := rem) (k := k) (by simpa using h)).cons x)
theorem erase_map {α β : Type} (f : α → β) : ∀ (xs : List α) (k : Nat), (xs.map f).eraseIdx k = (xs.eraseIdx k).map f
  | [], _ => rfl
  | x :: xs, 0 => rfl
  | x :: xs, k + 1 => by
    rw [List.map_cons, List.eraseIdx_cons_succ, List.eraseIdx_cons_succ, List.map_cons, erase_map f xs k]
theorem seq_ix {r : Int} {n : Nat} (h0 : 0 ≤ r) (h1 : r < (n : Int)) : seqIndex? r n = some r.toNat := by
  unfold seqIndex?
  simp only [show ¬ (r < 0) by omega, if_false]
  simp [h0, h1]
theorem Drawn.step {fs rem : Wd} {k c : Nat} (h : Drawn fs rem) (hc : rem[k]? = some c) : Drawn (fs ++ [c]) (rem.eraseIdx k) := by
  refine ⟨List.Perm.trans ?_ h.pm⟩
  rw [List.append_assoc]
  refine List.Perm.append_left fs ?_
  show (c :: rem.eraseIdx k).Perm rem
  exact erase_perm hc
def spLettersD : Sp := fun vs H Q _ => ∃ (d c : Addr) (n : Nat), vs = [.ref d, .int 5] ∧ Pen H d c n ∧ n ≤ 50000 ∧ ∀ (H' : Hp) (z : Wd), LetOk z → z.length ≤ 5 → Kp d H H' → Pen H' d c (n + 6) → Q (.str (sw z)) H'
structure PlOk (z : Wd) (ps : List Wd) (n : Nat) : Prop where
  clo : Clo ps
  nd : ps.Nodup
  wd : ∀ p ∈ ps, ∀ c ∈ p, c ∈ z
  l : ∀ p ∈ ps, p.length ≤ n
  len : ps.length ≤ n + 1
theorem plok0 {z : Wd} : PlOk z [[]] 0 := by
  refine ⟨clo0, by simp, fun p hp x hx => ?_, fun p hp => ?_, by simp⟩
  · rw [List.mem_singleton.mp hp] at hx
    cases hx
  · rw [List.mem_singleton.mp hp]
    simp
theorem PlOk.up {z : Wd} {ps : List Wd} {n m : Nat} (h : PlOk z ps n) (k : n ≤ m) : PlOk z ps m := ⟨h.clo, h.nd, h.wd, fun p hp => Nat.le_trans (h.l p hp) k, by have := h.len; omega⟩
theorem PlOk.add {z : Wd} {ps : List Wd} {n : Nat} {p : Wd} {c : Nat} (h : PlOk z ps n) (hp : p ∈ ps) (hc : c ∈ z) (hn : p ++ [c] ∉ ps) : PlOk z (ps ++ [p ++ [c]]) (n + 1) := by
  refine ⟨⟨List.mem_append_left _ h.clo.1, fun q hq k => ?_⟩, ?_, fun q hq x hx => ?_, fun q hq => ?_, ?_⟩
  · rcases List.mem_append.mp hq with hq | hq
    · exact List.mem_append_left _ (h.clo.2 q hq k)
    · rw [List.mem_singleton.mp hq, List.take_append]
      by_cases hk : k ≤ p.length
      · rw [show k - p.length = 0 by omega, List.take_zero, List.append_nil]
        exact List.mem_append_left _ (h.clo.2 p hp k)
      · refine List.mem_append_right _ ?_
        rw [List.take_of_length_le (by omega), List.take_of_length_le (by show 1 ≤ _; omega)]
        exact List.mem_singleton.mpr rfl
  · refine List.nodup_append.mpr ⟨h.nd, by simp, fun a ha b hb => ?_⟩
    rw [List.mem_singleton.mp hb]
    exact fun e => hn (by rw [← e]; exact ha)
  · rcases List.mem_append.mp hq with hq | hq
    · exact h.wd q hq x hx
    · rw [List.mem_singleton.mp hq] at hx
      rcases List.mem_append.mp hx with hx | hx
      · exact h.wd p hp x hx
      · rw [List.mem_singleton.mp hx]; exact hc
  · rcases List.mem_append.mp hq with hq | hq
    · exact Nat.le_succ_of_le (h.l q hq)
    · rw [List.mem_singleton.mp hq, List.length_append]
      have := h.l p hp
      show _ + 1 ≤ _
      omega
  · rw [List.length_append]
    have := h.len
    show _ + 1 ≤ _
    omega
def spPlaces : Sp := fun vs H Q _ => ∃ (d c : Addr) (n : Nat) (z : Wd), vs = [.ref d, .str (sw z), .int 12] ∧ Pen H d c n ∧ n ≤ 50000 ∧ LetOk z ∧ ∀ (H' : Hp) (a : Addr) (ps : List Wd), PlOk z ps 12 → H' a = some (.lst (wsV ps)) → Kp d H H' → Pen H' d c (n + 24) → Q (.ref a) H'
def spRowD : Sp := fun vs H Q _ => ∃ (d c : Addr) (n : Nat) (p : Wd), vs = [.ref d, .str (sw p)] ∧ Pen H d c n ∧ n ≤ 50000 ∧ ∀ (H' : Hp) (v : V) (o : Option Int) (f : Bool), (∀ i, o = some i → 1 ≤ i ∧ i ≤ 9) → RwT H' v (p, o, f) → Kp d H H' → Pen H' d c (n + 3) → Q v H'
def spShuf (K : PySem.W.Frag) : Sp := fun vs H Q _ => ∃ (d c a : Addr) (n : Nat) (xs : List V), vs = [.ref d, .ref a] ∧ Pen H d c n ∧ n ≤ 50000 ∧ H a = some (.lst xs) ∧ xs.length ≤ 1000 ∧
  ∀ (H' : Hp) (b : Addr) (ys : List V), ys.Perm xs → H' b = some (.lst ys) → Kp d H H' → Pen H' d c (n + xs.length) → Q (.ref b) H'
section
variable {P : Program} {w : World} {K : PySem.W.Frag} {mg : Str → Option Value} {base : Heap}
theorem ok_l_letters (T : Tx P K mg) (B : Bx T base) : FnOk P w K mg base CX0 2 T.a_l_letters T.fd_l_letters ["_law_pen_here", "_law_most"] spLettersD := by
  refine okT T.F_l_letters sc_l_letters (fun vs H Q E h => ?_) (fun cdv A outer s H vs Q E hcd hr h => ?_)
  · obtain ⟨d, c, n, rfl, _⟩ := h
    rfl
  have hu := hu_of hr
  have hu65 := hu65_of hr
  obtain ⟨d, c, n, rfl, hp, hn, q⟩ := h
  refine ⟨_, (pss_cons (ps_par (i := 2) (j := 3) (by rfl) sc_l_letters.nd rfl rfl (by decide) rfl rfl (pa_cons (pe_callTy (Sh.call_list_str rfl) (by rfl) T.b_list (by decide +kernel) (pa_cons pe_str pa_nil)) (pa_cons pe_str pa_nil)) (by rfl))
 (pss_cons (ps_for PassesOwn.never rfl (pi_range1 (by rfl) T.b_range (pa_cons (pe_op op_add pe_int (pe_call (ok_l_draw T B) (hr.mono (by decide)) (by rfl) T.m_l_draw T.F_l_draw.kp T.bi_l_draw .nil pass0 (pa_cons (pv 0) (pa_cons (pe_op op_sub (pv 1) pe_int) pa_nil)))) pa_nil)) (pg_name (i := 4) sc_l_letters.nd rfl (by first | exact Or.inl rfl | exact Or.inr rfl))
 (pss_one (ps_set (i := 3) sc_l_letters.nd rfl (by first | exact Or.inl rfl | exact Or.inr rfl) (pe_op op_add_str (pv 3) (pe_bm PySem.F.plainAttrs_list PySem.F.slot_list_pop PySem.F.type_list_pop mt_popAt (pv 2) (pa_cons (pe_call (ok_l_draw T B) (hr.mono (by decide)) (by rfl) T.m_l_draw T.F_l_draw.kp T.bi_l_draw .nil pass0 (pa_cons (pv 0) (pa_cons (pe_callB call_len_seq (by rfl) T.b_len (by decide +kernel) (pa_cons (pv 2) pa_nil)) pa_nil))) pa_nil))))))
 (pss_one (ps_ret (pv 3))))), ?_⟩
  refine ⟨_, rfl, by decide +kernel, fun pl hpl => ?_⟩
  have e1 : (signs ("abcdefghijklmnopqrstuvwxyz" : Str)).map V.str = small.map fun c => V.str (sw [c]) := by
    unfold signs
    rw [small_eq, sw_list, List.map_map]
    rfl
  rw [e1]
  have p1 := hp.same (same_upd (o := .lst (small.map fun c => V.str (sw [c]))) hpl)
  have kp1 : Kp d H (upd H pl (.lst (small.map fun c => V.str (sw [c])))) := kp_new hpl
  have hl1 : (upd H pl (.lst (small.map fun c => V.str (sw [c])))) pl = some (.lst (small.map fun c => V.str (sw [c]))) := upd_same
  generalize upd H pl (.lst (small.map fun c => V.str (sw [c]))) = H1 at p1 kp1 hl1
  refine ⟨_, _, rfl, ?_⟩
  have npl := hp.ne_free hpl
  refine ⟨_, rfl, _, rfl, _, _, rfl, rfl, d, c, n, 4, rfl, p1, by omega, by decide, by decide, fun H2 r r0 r1 kp p2 => ?_⟩
  refine ⟨_, _, rfl, rfl, _, rfl, by omega, by omega, ?_⟩
  have hl2 := kp _ _ hl1 npl
  have kp2 := kp1.trans kp
  refine for_range (fun i σ H3 => ∃ v4 fs rem, σ = [some (.ref d), some (.int 5), some (.ref pl), some (.str (sw fs)), v4] ∧ Kp d H H3 ∧ Pen H3 d c (n + 1 + i) ∧ H3 pl = some (.lst (rem.map fun c => V.str (sw [c]))) ∧ Drawn fs rem ∧ fs.length = i)
    ⟨_, [], small, by rw [← mt_eq]; rfl, kp2, p2, hl2, ⟨List.Perm.refl _⟩, rfl⟩ (fun i σ H3 hi ⟨v4, fs, rem, e, k3, p3, hl3, dr, hf⟩ => ?_) (fun σ H3 ⟨v4, fs, rem, e, k3, p3, hl3, dr, hf⟩ => ?_)
  · subst e
    have l26 : (fs ++ rem).length = 26 := dr.pm.length_eq
    rw [List.length_append] at l26
    have hrem : (rem.map fun c => V.str (sw [c])).length = rem.length := List.length_map _
    refine ⟨_, rfl, _, rfl, .inl ⟨rfl, _, SqL.of hl3⟩, ?_⟩
    refine ⟨_, rfl, _, rfl, pl, _, rfl, .inl (SqL.of hl3), d, c, n + 1 + i, _, rfl, p3, by omega, by rw [hrem]; omega, by rw [hrem]; omega, fun H4 r r0 r1 kp4 p4 => ?_⟩
    have hl4 := kp4 _ _ hl3 npl
    rw [hrem] at r1
    obtain ⟨x, hx⟩ : ∃ x, rem[r.toNat]? = some x := ⟨_, List.getElem?_eq_getElem (by omega)⟩
    refine ⟨pl, _, r, r.toNat, V.str (sw [x]), rfl, rfl, hl4, by omega, by omega, ?_, by rw [List.getElem?_map, hx]; rfl, ?_⟩
    · exact seq_ix r0 (by rw [hrem]; exact r1)
    refine ⟨_, _, rfl, rfl, by rw [sw_len, sw_len, sizeLine_eq]; show _ + 1 ≤ _; omega, ?_⟩
    rw [sw_app]
    refine ⟨_, fs ++ [x], rem.eraseIdx r.toNat, rfl, kp_put0 (k3.trans kp4) hpl, ?_, ?_, dr.step hx, by rw [List.length_append, hf]; rfl⟩
    · exact Pen.put hp hpl p4
    · rw [upd_same, erase_map]
  · subst e
    exact ⟨_, rfl, q _ fs (dr.ok (by omega)) (by omega) k3 (p3.mono (by omega))⟩
theorem ok_l_places (T : Tx P K mg) (B : Bx T base) : FnOk P w K mg base CX0 3 T.a_l_places T.fd_l_places ["_law_pen_here", "_law_letters_here", "_law_many"] spPlaces := by
  refine okT T.F_l_places sc_l_places (fun vs H Q E h => ?_) (fun cdv A outer s H vs Q E hcd hr h => ?_)
  · obtain ⟨d, c, n, z, rfl, _⟩ := h
    rfl
  have hu := hu_of hr
  have hu65 := hu65_of hr
  obtain ⟨d, c, n, z, rfl, hp, hn, hz, q⟩ := h
  have h2 := hz.l2
  have h26 := hz.l26
  refine ⟨_, (pss_cons (ps_set (i := 3) sc_l_places.nd rfl (by first | exact Or.inl rfl | exact Or.inr rfl) (pe_lst (pa_cons pe_str pa_nil)))
 (pss_cons (ps_for PassesOwn.never rfl (pi_range1 (by rfl) T.b_range (pa_cons (pv 2) pa_nil)) (pg_name (i := 4) sc_l_places.nd rfl (by first | exact Or.inl rfl | exact Or.inr rfl))
 (pss_cons (ps_set (i := 5) sc_l_places.nd rfl (by first | exact Or.inl rfl | exact Or.inr rfl) (pe_op op_add_str (pe_call (ok_l_pick T B) (hr.mono (by decide)) (by rfl) T.m_l_pick T.F_l_pick.kp T.bi_l_pick .nil pass0 (pa_cons (pv 0) (pa_cons (pv 3) pa_nil))) (pe_call (ok_l_pick T B) (hr.mono (by decide)) (by rfl) T.m_l_pick T.F_l_pick.kp T.bi_l_pick .nil pass0 (pa_cons (pv 0) (pa_cons (pv 1) pa_nil)))))
 (pss_one (ps_if (pt_cmpR op_notIn_seq (pv 5) (pv 3) (by rfl))
 (pss_one (ps_expr (pe_bm PySem.F.plainAttrs_list PySem.F.slot_list_append PySem.F.type_list_append mt_append (pv 3) (pa_cons (pv 5) pa_nil))))
 pss_nil))))
 (pss_one (ps_ret (pv 3))))), ?_⟩
  refine ⟨by show 1 ≤ sizeLine; decide, fun a ha => ?_⟩
  have p1 := hp.same (same_upd (o := .lst [V.str ("" : Str)]) ha)
  have kp1 : Kp d H (upd H a (.lst [V.str ("" : Str)])) := kp_new ha
  have hl1 : (upd H a (.lst [V.str ("" : Str)])) a = some (.lst (wsV [[]])) := by rw [upd_same, mt_eq]; rfl
  generalize upd H a (.lst [V.str ("" : Str)]) = H1 at p1 kp1 hl1
  have nad := hp.ne_free ha
  refine ⟨_, rfl, _, rfl, by decide, by decide, ?_⟩
  refine for_range (fun i σ H3 => ∃ v4 v5 ps, σ = [some (.ref d), some (.str (sw z)), some (.int 12), some (.ref a), v4, v5] ∧ Kp d H H3 ∧ Pen H3 d c (n + 2 * i) ∧ H3 a = some (.lst (wsV ps)) ∧ PlOk z ps i)
    ⟨_, _, [[]], rfl, kp1, p1, hl1, plok0⟩ (fun i σ H3 hi ⟨v4, v5, ps, e, k3, p3, hl3, pk⟩ => ?_) (fun σ H3 ⟨v4, v5, ps, e, k3, p3, hl3, pk⟩ => ?_)
  · subst e
    have hil : i < 12 := hi
    have hpl := pk.len
    have hp0 : 0 < ps.length := List.length_pos_of_mem pk.clo.1
    have hwl : (wsV ps).length = ps.length := List.length_map _
    refine ⟨_, rfl, _, rfl, .inl ⟨d, c, a, n + 2 * i, wsV ps, rfl, p3, by omega, SqL.of hl3, by rw [hwl]; exact hp0, by rw [hwl]; omega, nad, fun H4 x hx kp4 p4 => ?_⟩⟩
    obtain ⟨p, hpm, rfl⟩ := List.mem_map.mp hx
    refine ⟨_, rfl, _, rfl, .inr ⟨d, c, n + 2 * i + 1, sw z, rfl, p4, by omega, by rw [sw_len]; omega, by rw [sw_len]; omega, fun H5 y hy kp5 p5 => ?_⟩⟩
    have hyz : y ∈ z := hy
    have hl5 := kp5 _ _ (kp4 _ _ hl3 nad) nad
    have hpl12 := pk.l p hpm
    refine ⟨_, _, rfl, rfl, by rw [sw_len, sizeLine_eq]; show _ + 1 ≤ _; omega, ?_⟩
    rw [sw_one, sw_app]
    have k5 := (k3.trans kp4).trans kp5
    refine ⟨_, rfl, _, rfl, a, _, rfl, .inl (SqL.of hl5), rfl, wsV_flat ps, _, rfl, ?_⟩
    rw [wsV_in]
    refine ite2 (fun h => ?_) (fun h => ?_)
    · have hn' : p ++ [y] ∉ ps := by
        intro m
        simp [m] at h
      refine ⟨_, rfl, .inl ⟨rfl, _, SqL.of hl5⟩, _, rfl, a, _, _, rfl, rfl, hl5, by rw [hwl, sizeLine_eq]; omega, ?_⟩
      refine ⟨_, _, ps ++ [p ++ [y]], rfl, kp_put0 k5 ha, Pen.put hp ha (p5.mono (by omega)), ?_, pk.add hpm hyz hn'⟩
      rw [upd_same]
      unfold wsV
      rw [List.map_append]
      rfl
    · exact ⟨_, _, ps, rfl, k5, p5.mono (by omega), hl5, pk.up (Nat.le_succ _)⟩
  · subst e
    exact ⟨_, rfl, q _ a ps pk hl3 k3 p3⟩
theorem ok_l_row (T : Tx P K mg) (B : Bx T base) : FnOk P w K mg base CX0 2 T.a_l_row T.fd_l_row ["_law_pen_here", "_law_place"] spRowD := by
  refine okT T.F_l_row sc_l_row (fun vs H Q E h => ?_) (fun cdv A outer s H vs Q E hcd hr h => ?_)
  · obtain ⟨d, c, n, p, rfl, _⟩ := h
    rfl
  have hu := hu_of hr
  have hu65 := hu65_of hr
  obtain ⟨d, c, n, p, rfl, hp, hn, q⟩ := h
  refine ⟨_, (pss_cons (ps_set (i := 2) sc_l_row.nd rfl (by first | exact Or.inl rfl | exact Or.inr rfl) (pe_ifExp (pt_cmpR op_eq (pe_call (ok_l_draw T B) (hr.mono (by decide)) (by rfl) T.m_l_draw T.F_l_draw.kp T.bi_l_draw .nil pass0 (pa_cons (pv 0) (pa_cons pe_int pa_nil))) pe_int (nomark _)) pe_non (pe_op op_add pe_int (pe_call (ok_l_draw T B) (hr.mono (by decide)) (by rfl) T.m_l_draw T.F_l_draw.kp T.bi_l_draw .nil pass0 (pa_cons (pv 0) (pa_cons pe_int pa_nil))))))
 (pss_one (ps_ret (pe_tup (pa_cons (pv 1) (pa_cons (pv 2) (pa_cons (pe_cmpR op_eq (pe_call (ok_l_draw T B) (hr.mono (by decide)) (by rfl) T.m_l_draw T.F_l_draw.kp T.bi_l_draw .nil pass0 (pa_cons (pv 0) (pa_cons pe_int pa_nil))) pe_int (nomark _)) pa_nil))))))), ?_⟩
  refine asgS (fun v H2 => ∃ o : Option Int, v = oV o ∧ (∀ i, o = some i → 1 ≤ i ∧ i ≤ 9) ∧ Kp d H H2 ∧ Pen H2 d c (n + 2)) (fun R hR => ?_) (fun v H2 ⟨o, e, ho, k2, p2⟩ => ?_)
  · refine ⟨_, rfl, d, c, n, 2, rfl, hp, by omega, by decide, by decide, fun H1 r r0 r1 k1 p1 => ⟨rfl, _, rfl, ?_⟩⟩
    refine ite2 (fun h => ?_) (fun h => ?_)
    · exact hR _ _ ⟨none, rfl, (fun i h => by cases h), k1, p1.mono (by omega)⟩
    · refine ⟨_, rfl, d, c, n + 1, 9, rfl, p1, by omega, by decide, by decide, fun H2 r' r0' r1' k2 p2 => ⟨_, _, rfl, rfl, ?_⟩⟩
      exact hR _ _ ⟨some (1 + r'), rfl, (fun i h => by cases h; omega), k1.trans k2, p2⟩
  · subst e
    refine ⟨_, rfl, _, rfl, _, rfl, d, c, n + 2, 3, rfl, p2, by omega, by decide, by decide, fun H3 r r0 r1 k3 p3 => ⟨rfl, by show 3 ≤ sizeLine; decide, fun b hb => ?_⟩⟩
    exact q _ _ o _ ho ⟨b, rfl, upd_same⟩ ((k2.trans k3).trans (kp_new hb)) (p3.same (same_upd hb))
theorem ok_l_shuffled (T : Tx P K mg) (B : Bx T base) : FnOk P w K mg base CX0 2 T.a_l_shuffled T.fd_l_shuffled ["_law_pen_here", "_law_some"] (spShuf K) := by
  refine okT T.F_l_shuffled sc_l_shuffled (fun vs H Q E h => ?_) (fun cdv A outer s H vs Q E hcd hr h => ?_)
  · obtain ⟨d, c, a, n, xs, rfl, _⟩ := h
    rfl
  have hu := hu_of hr
  have hu65 := hu65_of hr
  obtain ⟨d, c, a, n, xs, rfl, hp, hn, ha, hx, q⟩ := h
  obtain ⟨kvs, hd⟩ := hp.at
  have nad : a ≠ d := ne_of ha hd (by intro z; cases z)
  refine ⟨_, (pss_cons (ps_set (i := 2) sc_l_shuffled.nd rfl (by first | exact Or.inl rfl | exact Or.inr rfl) (pe_lst pa_nil))
 (pss_cons (ps_for PassesOwn.never rfl (pi_list (pv 1)) (pg_name (i := 3) sc_l_shuffled.nd rfl (by first | exact Or.inl rfl | exact Or.inr rfl))
 (pss_one (ps_expr (pe_bm PySem.F.plainAttrs_list PySem.F.slot_list_insert PySem.F.type_list_insert mt_insert (pv 2) (pa_cons (pe_call (ok_l_draw T B) (hr.mono (by decide)) (by rfl) T.m_l_draw T.F_l_draw.kp T.bi_l_draw .nil pass0 (pa_cons (pv 0) (pa_cons (pe_op op_add (pe_callB call_len_seq (by rfl) T.b_len (by decide +kernel) (pa_cons (pv 2) pa_nil)) pe_int) pa_nil))) (pa_cons (pv 3) pa_nil))))))
 (pss_one (ps_ret (pv 2))))), ?_⟩
  refine ⟨Nat.zero_le _, fun b hb => ?_⟩
  have p1 := hp.same (same_upd (o := .lst []) hb)
  have kp1 : Kp d H (upd H b (.lst [])) := kp_new hb
  have hl1 : (upd H b (.lst [])) b = some (.lst []) := upd_same
  generalize upd H b (.lst []) = H1 at p1 kp1 hl1
  have nbd := hp.ne_free hb
  refine ⟨_, rfl, a, rfl, ⟨_, SqL.of (kp1 _ _ ha nad)⟩, ?_⟩
  refine for_it (walk_list (K := K) (a := a) (xs := xs)) (fun i σ H3 => ∃ v3 ys, σ = [some (.ref d), some (.ref a), some (.ref b), v3] ∧ Kp d H H3 ∧ Pen H3 d c (n + i) ∧ H3 b = some (.lst ys) ∧ ys.Perm (xs.take i))
    ⟨_, [], rfl, kp1, p1, hl1, by rw [List.take_zero]⟩ (fun i σ H3 _ ⟨_, _, _, k3, _⟩ => SqL.of (k3 _ _ ha nad)) (fun i x σ H3 H4 hi ⟨v3, ys, e, k3, p3, hl3, pm⟩ y => ?_) (fun σ H3 ⟨v3, ys, e, k3, p3, hl3, pm⟩ => ?_)
  · obtain ⟨rfl, hx2⟩ := y
    subst e
    have hyl : ys.length = i := by
      have := pm.length_eq
      rw [List.length_take] at this
      omega
    refine ⟨_, rfl, .inl ⟨rfl, _, SqL.of hl3⟩, ?_⟩
    refine ⟨_, rfl, _, rfl, b, _, rfl, .inl (SqL.of hl3), _, _, rfl, rfl, d, c, n + i, _, rfl, p3, by omega, by omega, by omega, fun H5 r r0 r1 k5 p5 => ?_⟩
    have hl5 := k5 _ _ hl3 nbd
    refine ⟨_, rfl, b, _, r, x, rfl, rfl, hl5, by rw [sizeLine_eq]; omega, r0, by omega, ?_⟩
    refine ⟨_, _, rfl, kp_put0 (k3.trans k5) hb, Pen.put hp hb (p5.mono (by omega)), upd_same, ?_⟩
    rw [List.take_add_one, hx2]
    refine List.Perm.trans ?_ (pm.append_right [x])
    rw [List.append_assoc]
    have : (ys.take r.toNat ++ ([x] ++ ys.drop r.toNat)).Perm ((ys.take r.toNat ++ ys.drop r.toNat) ++ [x]) := by
      rw [List.append_assoc]
      exact (List.perm_append_comm).append_left _
    rw [List.take_append_drop] at this
    exact this
  · subst e
    rw [List.take_of_length_le (Nat.le_refl _)] at pm
    exact ⟨_, rfl, q _ b ys pm hl3 k3 p3⟩
end
end Toy
set_option Elab.async false
set_option linter.all false
set_option maxRecDepth 100000
set_option maxHeartbeats 4000000
namespace Toy
open PySem L2 Sh ShL LamX NdefX
def spIsRow : Sp := fun vs H Q _ => ∃ v r p o f, vs = [v, .str (sw p), oV o, .bl f] ∧ RwT H v r ∧ (∀ c ∈ r.1, c < 200) ∧ (∀ c ∈ p, c < 200) ∧ ∀ H', Same H H' → Q (.bl (decide (r = (p, o, f)))) H'
def kvD (r : Rw) : PyData := .tuple [.str (sw r.1), oD r.2.1]
theorem KvT.dp {K : PySem.W.Frag} {H : Hp} {v : V} {r : Rw} (h : KvT H v r) : Dp K H v (kvD r) := by
  obtain ⟨a, rfl, h⟩ := h
  exact .tup (SqT.of h) (.cons (.str _) (.cons (oV_dp _) .nil))
theorem kvs_dp {K : PySem.W.Frag} {H : Hp} : ∀ {vs : List V} {rs : List Rw}, Paired (KvT H) vs rs → DpAll K H vs (rs.map kvD)
  | _, _, .nil => .nil
  | _, _, .cons h t => .cons h.dp (kvs_dp t)
theorem kvD_self (r : Rw) : PyData.eqv (kvD r) (kvD r) = true := by
  unfold kvD
  simp only [PyData.eqv, PyData.eqvAll, oD_eqv, sw_beq]
  simp
theorem kvs_self : ∀ rs : List Rw, PyData.eqvAll (rs.map kvD) (rs.map kvD) = true
  | [] => by simp [PyData.eqvAll]
  | r :: rs => by simp only [List.map_cons, PyData.eqvAll, kvD_self, kvs_self rs]; rfl
theorem kvs_lay : ∀ rs : List Rw, (∀ r ∈ rs, ∀ c ∈ r.1, c < 200) → PyData.canLayAll0 (rs.map kvD) = true ∧ PyData.depthAll (rs.map kvD) ≤ 2
  | [], _ => ⟨rfl, by simp [PyData.depthAll]⟩
  | r :: rs, h => by
    obtain ⟨h1, h2⟩ := kvs_lay rs fun x hx => h x (List.mem_cons_of_mem _ hx)
    have h3 : PyData.canLay0 (kvD r) = true := by
      unfold kvD
      simp only [PyData.canLay0, PyData.canLayAll0, (oD_lay r.2.1).1, str_ok (h r List.mem_cons_self)]
      rfl
    have h4 : PyData.depth (kvD r) ≤ 1 := by
      unfold kvD
      simp only [PyData.depth, PyData.depthAll, (oD_lay r.2.1).2]
      omega
    refine ⟨by simp only [List.map_cons, PyData.canLayAll0, h1, h3]; rfl, ?_⟩
    simp only [List.map_cons, PyData.depthAll]
    omega
theorem kvs_shaped {rs : List Rw} (h : ∀ r ∈ rs, ∀ c ∈ r.1, c < 200) : SeqAt.shaped (.tuple (rs.map kvD)) = true := by
  obtain ⟨h1, h2⟩ := kvs_lay rs h
  exact shaped_of (by simp only [PyData.canLay0]; exact h1) (by simp only [PyData.depth]; omega)
theorem oV_nb {K : PySem.W.Frag} {H : Hp} (o : Option Int) : ∃ t, TyX K H (oV o) t ∧ PySem.W.kitOne K t (.type "bool") = some false := by
  cases o
  · exact ⟨_, .base .non, isi_nb⟩
  · exact ⟨_, .base (.int _), isi_ib⟩
theorem max_uniq {xs : List Int} {m k : Int} (hm : m ∈ xs) (hk : k ∈ xs) (h1 : ∀ y ∈ xs, y ≤ m) (h2 : ∀ y ∈ xs, y ≤ k) : m = k := Int.le_antisymm (h2 m hm) (h1 k hk)
def spTold (C : Addr) : Sp := fun vs H Q _ => ∃ x z a ws rs, vs = [.ref x, .str (sw z), .ref a] ∧ TreeAt C H x z rs ∧ H a = some (.lst ws) ∧ Paired (RwT H) ws rs ∧ rs.length ≤ 2000 ∧ (∀ r ∈ rs, r.1.length ≤ 200) ∧ ∀ H', Same H H' → Q (.bl true) H'
theorem walk_rng (n : Nat) : Walk (Itr 0 n) ((List.range n).map fun k : Nat => V.int (k : Int)).length (fun _ => True) (YAt ((List.range n).map fun k : Nat => V.int (k : Int))) := by
  have := walk_range (lo := 0) (n := n)
  rw [show n = ((List.range n).map fun k : Nat => V.int (k : Int)).length by rw [List.length_map, List.length_range]] at this
  rw [List.length_map, List.length_range] at this ⊢
  refine this.mono (fun _ h => h) fun i H x H' hi _ ⟨e, h⟩ => ⟨e, ?_⟩
  rw [List.getElem?_map, List.getElem?_range hi, h]
  show some (V.int (i : Int)) = some (V.int (0 + (i : Int)))
  rw [Int.zero_add]
theorem map_bl' {α : Type} {f : α → V} (us : List α) (h : ∀ u ∈ us, f u = .bl true) : us.map f = (List.replicate us.length true).map V.bl := by
  rw [← map_bl us]
  exact List.map_congr_left h
section
variable {P : Program} {w : World} {K : PySem.W.Frag} {mg : Str → Option Value} {base : Heap}
theorem ok_l_is_row (T : Tx P K mg) (B : Bx T base) : FnOk P w K mg base CX0 1 T.a_l_is_row T.fd_l_is_row ["_law_row_here", "_law_place", "_law_value", "_law_flag"] spIsRow := by
  refine okT T.F_l_is_row sc_l_is_row (fun vs H Q E h => ?_) (fun cdv A outer s H vs Q E hcd hr h => ?_)
  · obtain ⟨v, r, p, o, f, rfl, _⟩ := h
    rfl
  have hu := hu_of hr
  have hu65 := hu65_of hr
  obtain ⟨v, r, p, o, f, rfl, hv, lr, lp, q⟩ := h
  refine ⟨_, (pss_cons (ps_if (PW.pt (pw_or (pt_not (pt_val (pe_callB call_isi (by rfl) T.b_isinstance (by decide +kernel) (pa_cons (pv 0) (pa_cons (pe_bltn (v := .ty "tuple") (by rfl) T.b_tuple (by decide +kernel) rfl) pa_nil))))) (pw_or1 (pt_cmpR (op_neD hr.units) (pv 0) (pe_tup (pa_cons (pv 1) (pa_cons (pv 2) (pa_cons (pv 3) pa_nil)))) (nomark _)))))
 (pss_one (ps_ret pe_bl))
 pss_nil)
 (pss_one (ps_ret (pe_and (pe_not (pe_callB call_isi (by rfl) T.b_isinstance (by decide +kernel) (pa_cons (pe_ix ix_tup (pv 0) pe_int (fun _ _ => rfl)) (pa_cons (pe_bltn (v := .ty "bool") (by rfl) T.b_bool (by decide +kernel) rfl) pa_nil)))) (pe_one (pe_callB call_isi (by rfl) T.b_isinstance (by decide +kernel) (pa_cons (pe_ix ix_tup (pv 0) pe_int (fun _ _ => rfl)) (pa_cons (pe_bltn (v := .ty "bool") (by rfl) T.b_bool (by decide +kernel) rfl) pa_nil)))))))), ?_⟩
  obtain ⟨a, rfl, ha⟩ := hv
  refine ⟨_, rfl, _, _, _, _, _, rfl, .ty _, .base (.tup ha), isi_tt, _, rfl, iteF ?_⟩
  refine ⟨_, rfl, _, rfl, _, rfl, _, rfl, by show 3 ≤ sizeLine; decide, fun b hb => ?_⟩
  have s1 := same_upd (o := .tup [V.str (sw p), oV o, .bl f]) hb
  have hb1 : RwT (upd H b (.tup [V.str (sw p), oV o, .bl f])) (.ref b) (p, o, f) := ⟨b, rfl, upd_same⟩
  have ha1 : RwT (upd H b (.tup [V.str (sw p), oV o, .bl f])) (.ref a) r := ⟨a, rfl, s1 _ _ ha⟩
  generalize upd H b (.tup [V.str (sw p), oV o, .bl f]) = H1 at s1 hb1 ha1
  refine ⟨rwD r, rwD (p, o, f), ha1.dp, hb1.dp, rwD_shaped lr, rwD_shaped lp, _, rfl, ?_⟩
  rw [rwD_eqv]
  refine ite2 (fun h => ?_) (fun h => ?_)
  · have h2 : decide (r = (p, o, f)) = false := by simpa using h
    have := q _ s1
    rw [h2] at this
    exact this
  · have h2 : decide (r = (p, o, f)) = true := by simpa using h
    have q1 := q _ s1
    rw [h2] at q1
    have ha2 := s1 _ _ ha
    obtain ⟨t, t1, t2⟩ := oV_nb (K := K) (H := H1) r.2.1
    refine ⟨_, rfl, a, _, _, _, rfl, rfl, SqT.of ha2, atI_nat (j := 1) rfl, _, _, _, _, _, rfl, .ty _, t1, t2, _, rfl, _, rfl, iteT ?_⟩
    exact ⟨_, rfl, a, _, _, _, rfl, rfl, SqT.of ha2, atI_nat (j := 2) rfl, _, _, _, _, _, rfl, .ty _, .base (.bl _), isi_bb, q1⟩
theorem ok_l_right_told (T : Tx P K mg) (B : Bx T base) : FnOk P w K mg base CX0 2 T.a_l_right_told T.fd_l_right_told ["_law_tree", "_law_letters_here", "_law_rows"] (spTold T.c_Tree) := by
  refine okT T.F_l_right_told sc_l_right_told (fun vs H Q E h => ?_) (fun cdv A outer s H vs Q E hcd hr h => ?_)
  · obtain ⟨x, z, a, ws, rs, rfl, _⟩ := h
    rfl
  have hu := hu_of hr
  have hu65 := hu65_of hr
  obtain ⟨x, z, a, ws, rs, rfl, hx, ha, pr, hl, h200, q⟩ := h
  obtain ⟨dx, t, d, e, m, vs, us, x1, x2, x3, x4, x5, x6, x7, x8⟩ := hx.ex
  have hwl := pr.length
  have hvl := x3.length
  have hrl : 0 < rs.length := by
    obtain ⟨r, hr, _⟩ := List.mem_map.mp hx.root
    exact List.length_pos_of_mem hr
  refine ⟨_, (pss_cons (ps_if (PW.pt (pw_or (pt_cmpR op_ne (pe_fld (pv 0) rfl) (pv 1) (nomark _)) (pw_or (pt_not (pt_val (pe_callB call_isi (by rfl) T.b_isinstance (by decide +kernel) (pa_cons (pe_fld (pv 0) rfl) (pa_cons (pe_bltn (v := .ty "tuple") (by rfl) T.b_tuple (by decide +kernel) rfl) pa_nil))))) (pw_or1 (pt_cmpR op_ne (pe_callB call_len_seq (by rfl) T.b_len (by decide +kernel) (pa_cons (pe_fld (pv 0) rfl) pa_nil)) (pe_callB call_len_seq (by rfl) T.b_len (by decide +kernel) (pa_cons (pv 2) pa_nil)) (nomark _))))))
 (pss_one (ps_ret pe_bl))
 pss_nil)
 (pss_cons (ps_if (pt_not (pt_val (pe_callB (cr_all rfl) (by rfl) T.b_all (by decide +kernel) (pa_cons (pe_lc (own := [("_law_k", 4)]) (g := gName 4) rfl sc_l_right_told.nd (pi_range1 (by rfl) T.b_range (pa_cons (pe_callB call_len_seq (by rfl) T.b_len (by decide +kernel) (pa_cons (pv 2) pa_nil)) pa_nil)) (blkOk_by (own := [("_law_k", 4)]) (N := N_l_right_told) (sc := defScope s_l_right_told) (by decide +kernel)) (fun _ _ _ _ _ => (pg_name (i := 4) sc_l_right_told.nd rfl (by first | exact Or.inl rfl | exact Or.inr rfl))) (fun _ _ _ _ _ => pts_nil) (fun _ _ _ _ _ => (pe_call (ok_l_is_row T B) (hr.mono (by decide)) (by rfl) T.m_l_is_row T.F_l_is_row.kp T.bi_l_is_row .nil pass0 (pa_cons (pe_ix (by exact ix_tup : IxR _ (rIxT K)) (by exact pe_fld (pv 0) rfl : PE _ _ (tFld K (tVar 0) "rows")) (pv 4) (fun _ _ => rfl)) (pa_cons (pe_ix (by exact ix_tup : IxR _ (rIxT K)) (pe_ix (by exact ix_list : IxR _ (rIxL K)) (pv 2) (pv 4) (fun _ _ => rfl)) pe_int (fun _ _ => rfl)) (pa_cons (pe_ix (by exact ix_tup : IxR _ (rIxT K)) (pe_ix (by exact ix_list : IxR _ (rIxL K)) (pv 2) (pv 4) (fun _ _ => rfl)) pe_int (fun _ _ => rfl)) (pa_cons (pe_ix (by exact ix_tup : IxR _ (rIxT K)) (pe_ix (by exact ix_list : IxR _ (rIxL K)) (pv 2) (pv 4) (fun _ _ => rfl)) pe_int (fun _ _ => rfl)) pa_nil))))))) pa_nil))))
 (pss_one (ps_ret pe_bl))
 pss_nil)
 (pss_cons (ps_if (PW.pt (pw_or (pt_cmpR op_ne (pe_fld (pv 0) rfl) (pe_callB call_len_seq (by rfl) T.b_len (by decide +kernel) (pa_cons (pv 2) pa_nil)) (nomark _)) (pw_or1 (pt_cmpR op_ne (pe_fld (pv 0) rfl) (pe_callB (cr_max rfl) (by rfl) T.b_max (by decide +kernel) (pa_cons (pe_lc (own := [("_law_row_here", 5)]) (g := gName 5) rfl sc_l_right_told.nd (pi_list (pv 2)) (blkOk_by (own := [("_law_row_here", 5)]) (N := N_l_right_told) (sc := defScope s_l_right_told) (by decide +kernel)) (fun _ _ _ _ _ => (pg_name (i := 5) sc_l_right_told.nd rfl (by first | exact Or.inl rfl | exact Or.inr rfl))) (fun _ _ _ _ _ => pts_nil) (fun _ _ _ _ _ => (pe_callB call_len_str (by rfl) T.b_len (by decide +kernel) (pa_cons (pe_ix (by exact ix_tup : IxR _ (rIxT K)) (pv 5) pe_int (fun _ _ => rfl)) pa_nil)))) pa_nil)) (nomark _)))))
 (pss_one (ps_ret pe_bl))
 pss_nil)
 (pss_cons (ps_setLc (i := 3) (own := [("_law_row_here", 5)]) (g := gName 5) rfl sc_l_right_told.nd rfl rfl (sw_true rfl rfl rfl (by decide +kernel)) (pi_list (pv 2)) (blkOk_by (own := [("_law_row_here", 5)]) (N := N_l_right_told) (sc := defScope s_l_right_told) (by decide +kernel)) (fun _ _ _ _ _ => (pg_name (i := 5) sc_l_right_told.nd rfl (by first | exact Or.inl rfl | exact Or.inr rfl))) (fun _ _ _ _ _ => (pts_one (pt_cmpR op_notN (pe_ix (by exact ix_tup : IxR _ (rIxT K)) (pv 5) pe_int (fun _ _ => rfl)) pe_non (nomark _)))) (fun _ _ _ _ _ => (pe_tup (pa_cons (pe_ix (by exact ix_tup : IxR _ (rIxT K)) (pv 5) pe_int (fun _ _ => rfl)) (pa_cons (pe_ix (by exact ix_tup : IxR _ (rIxT K)) (pv 5) pe_int (fun _ _ => rfl)) pa_nil)))))
 (pss_one (ps_ret (pe_and (pe_cmpR (op_eqD hr.units) (pe_meth0 (pv 0) T.cl_Tree T.me_Tree_word_items (ok_Tree_word_items T B) (hr.mono (by decide)) T.bi_Tree_word_items .nil pass0) (pe_callTy call_tuple_of (by rfl) T.b_tuple (by decide +kernel) (pa_cons (pv 3) pa_nil)) (nomark _)) (pe_one (pe_callB (cr_all rfl) (by rfl) T.b_all (by decide +kernel) (pa_cons (pe_lc (own := [("_law_item", 6)]) (g := gName 6) rfl sc_l_right_told.nd (pi_tup (pe_meth0 (pv 0) T.cl_Tree T.me_Tree_word_items (ok_Tree_word_items T B) (hr.mono (by decide)) T.bi_Tree_word_items .nil pass0)) (blkOk_by (own := [("_law_item", 6)]) (N := N_l_right_told) (sc := defScope s_l_right_told) (by decide +kernel)) (fun _ _ _ _ _ => (pg_name (i := 6) sc_l_right_told.nd rfl (by first | exact Or.inl rfl | exact Or.inr rfl))) (fun _ _ _ _ _ => pts_nil) (fun _ _ _ _ _ => (pe_callB (by exact call_isi : CallR _ (.builtin "isinstance") (rIsi K)) (by rfl) T.b_isinstance (by decide +kernel) (pa_cons (pv 6) (pa_cons (pe_bltn (v := .ty "tuple") (by rfl) T.b_tuple (by decide +kernel) rfl) pa_nil))))) pa_nil)))))))))), ?_⟩
  refine ⟨_, rfl, x, _, dx, _, _, rfl, x1, T.cl_Tree, T.na_Tree_letters, tf_letters, _, rfl, rfl, _, rfl, ?_⟩
  rw [sw_dec, decide_eq_true rfl]
  refine iteF ?_
  refine ⟨_, rfl, x, _, dx, _, _, rfl, x1, T.cl_Tree, T.na_Tree_rows, tf_rows, _, _, _, _, _, rfl, .ty _, .base (.tup x2), isi_tt, _, rfl, iteF ?_⟩
  refine ⟨_, rfl, x, _, dx, _, _, rfl, x1, T.cl_Tree, T.na_Tree_rows, tf_rows, t, _, rfl, .inr (SqT.of x2), _, rfl, a, _, rfl, .inl (SqL.of ha), rfl, _, rfl, ?_⟩
  rw [hvl, hwl, decide_eq_true rfl]
  refine iteF ?_
  -- all rows
  refine ⟨_, rfl, a, _, rfl, .inl (SqL.of ha), _, rfl, by omega, by omega, fun D hD => ?_⟩
  rw [show ((ws.length : Int)).toNat = rs.length by omega]
  refine lcG (walk_rng rs.length) yat (paired_self (List.range rs.length)) (fun _ H' => Same H H') (same_upd hD) (fun _ H' acc s => same_of_new s hD) (fun _ _ _ _ => trivial) (by rw [List.length_range]; omega) (fun _ => true) (fun _ v (_ : Nat) => v = .bl true) (fun _ _ _ _ _ _ h => h) (fun i k u H' acc R N hu hk s hD2 k1 _ => ?_) (fun H1 acc s hD2 pr1 => ?_)
  · subst hk
    have hui : u < rs.length := List.mem_range.mp (List.mem_of_getElem? hu)
    refine ⟨rfl, yes_ite ?_⟩
    obtain ⟨v1, e1, r1⟩ := paired_ix' x3 (List.getElem?_eq_getElem hui)
    obtain ⟨v2, e2, b, rfl, r2⟩ := paired_ix' pr (List.getElem?_eq_getElem hui)
    have hm := List.getElem_mem hui
    refine ⟨_, rfl, x, _, dx, _, _, rfl, s _ _ x1, T.cl_Tree, T.na_Tree_rows, tf_rows, _, rfl, t, _, _, _, rfl, rfl, SqT.of (s _ _ x2), atI_nat e1, ?_⟩
    refine ⟨_, rfl, _, rfl, a, _, _, _, rfl, rfl, SqL.of (s _ _ ha), atI_nat e2, b, _, _, _, rfl, rfl, SqT.of (s _ _ r2), atI_nat (j := 0) rfl, ?_⟩
    refine ⟨_, rfl, _, rfl, a, _, _, _, rfl, rfl, SqL.of (s _ _ ha), atI_nat e2, b, _, _, _, rfl, rfl, SqT.of (s _ _ r2), atI_nat (j := 1) rfl, ?_⟩
    refine ⟨_, rfl, _, rfl, a, _, _, _, rfl, rfl, SqL.of (s _ _ ha), atI_nat e2, b, _, _, _, rfl, rfl, SqT.of (s _ _ r2), atI_nat (j := 2) rfl, ?_⟩
    refine ⟨v1, rs[u], rs[u].1, rs[u].2.1, rs[u].2.2, rfl, r1.same s, hx.low _ hm, hx.low _ hm, fun H2 s2 => ?_⟩
    rw [decide_eq_true rfl]
    exact k1 rfl _ _ (s.trans s2) (s2 _ _ hD2) (fun _ _ h => h) rfl
  have hacc : acc = (List.replicate (List.range rs.length).length true).map V.bl := by
    rw [filter_tt] at pr1
    rw [paired_eq (f := fun _ => V.bl true) pr1, map_bl]
  rw [hacc] at hD2
  refine ⟨D, _, rfl, SqL.of hD2, _, rfl, ?_⟩
  rw [all_true]
  refine iteF ?_
  -- size, height
  refine ⟨_, rfl, x, _, dx, _, _, rfl, s _ _ x1, T.cl_Tree, T.na_Tree_size, tf_size, _, rfl, a, _, rfl, .inl (SqL.of (s _ _ ha)), rfl, _, rfl, ?_⟩
  rw [hwl, decide_eq_true rfl]
  refine iteF ?_
  refine ⟨_, rfl, x, _, dx, _, _, rfl, s _ _ x1, T.cl_Tree, T.na_Tree_height, tf_height, ?_⟩
  refine ⟨_, rfl, a, rfl, ⟨_, SqL.of (s _ _ ha)⟩, fun D2 hDn => ?_⟩
  refine lcF (walk_list (K := K) (a := a) (xs := ws)) yat pr hDn (fun H' s' => SqL.of (s' _ _ (s _ _ ha))) (by omega) (fun _ => true) (fun r => .int (r.1.length : Int)) (fun v r H' R N hr hv s' k1 _ => ?_) (fun H2 s2 hD3 => ?_)
  · obtain ⟨b, rfl, hb⟩ := hv
    refine ⟨rfl, yes_ite ?_⟩
    have h200r := h200 r hr
    refine ⟨_, rfl, b, _, _, _, rfl, rfl, SqT.of (s' _ _ (s _ _ hb)), atI_nat (j := 0) rfl, _, rfl, by rw [sw_len, sizeLine_eq]; omega, ?_⟩
    rw [sw_len]
    exact k1 rfl
  rw [filter_tt] at hD3
  have e1 : rs.map (fun r => V.int (r.1.length : Int)) = (rs.map fun r => (r.1.length : Int)).map V.int := by rw [List.map_map]; rfl
  rw [e1] at hD3
  refine ⟨D2, _, rfl, SqL.of hD3, by rw [List.length_map]; exact hrl, fun k hk hk2 => ⟨rfl, _, rfl, ?_⟩⟩
  rw [max_uniq x7 hk x8 hk2, decide_eq_true rfl]
  refine iteF ?_
  -- kept
  have s02 := s.trans s2
  refine nextS ?_
  dsimp only
  refine asgS (fun v H3 => ∃ b acc, v = .ref b ∧ Same H H3 ∧ H3 b = some (.lst acc) ∧ Paired (KvT H3) acc (kept rs)) (fun R hR => ?_) (fun v H3 ⟨b, acc, e1, s3, hb, pk⟩ => ?_)
  · refine ⟨_, rfl, a, rfl, ⟨_, SqL.of (s02 _ _ ha)⟩, fun D3 hDn3 => ?_⟩
    refine lcG (walk_list (K := K) (a := a) (xs := ws)) yat pr (fun _ H' => Same H H') (s02.trans (same_upd hDn3)) (fun _ H' acc s' => ?_) (fun i H' _ s' => SqL.of (s' _ _ ha)) (by omega) (fun r => r.2.1.isSome) KvT (fun H' acc acc' v u hD2 h => ?_) (fun i x u H' acc R' N hu hr s' hD2 k1 k2 => ?_) (fun H' acc s' hD2 pr => hR _ _ ⟨D3, acc, rfl, s', hD2, pr⟩)
    · exact same_of_new s' (by
        cases e : H D3 with
        | none => rfl
        | some o => rw [s02 _ _ e] at hDn3; cases hDn3)
    · obtain ⟨b, e1, h⟩ := h
      exact ⟨b, e1, by rw [upd_ne (ne_of h hD2 (by intro z; cases z))]; exact h⟩
    · obtain ⟨b, rfl, hb⟩ := hr
      have hb' := s' _ _ hb
      refine ⟨rfl, _, rfl, b, _, _, _, rfl, rfl, SqT.of hb', atI_nat (j := 1) rfl, rfl, _, rfl, ?_⟩
      obtain ⟨p, o, f⟩ := u
      cases o with
      | none =>
        refine ite2 (fun h => by cases h) (fun _ => ?_)
        exact k2 rfl _ s' hD2 fun _ _ h => h
      | some i =>
        refine ite2 (fun _ => ?_) (fun h => absurd rfl h)
        refine ⟨_, rfl, b, _, _, _, rfl, rfl, SqT.of hb', atI_nat (j := 0) rfl, _, rfl, b, _, _, _, rfl, rfl, SqT.of hb', atI_nat (j := 1) rfl, by show 2 ≤ sizeLine; decide, fun g hg => ?_⟩
        have sb := same_upd (o := .tup [.str (sw p), .int i]) hg
        exact k1 rfl _ _ (s'.trans sb) (sb _ _ hD2) (fun _ _ h => h.same sb) ⟨g, rfl, upd_same⟩
  subst e1
  have hx3 := hx.same s3
  have lk : ∀ r ∈ kept rs, ∀ c ∈ r.1, c < 200 := fun r hr => hx.low r ((List.mem_filter.mp hr).1)
  have items : ∀ (H4 : Hp) (R : VK), Same H H4 → (∀ H5 t5 vs5, Same H4 H5 → H5 t5 = some (.tup vs5) → Paired (KvT H5) vs5 (kept rs) → R (.ref t5) H5) → ∀ σ : L2.St, σ[0]? = some (some (.ref x)) → tMeth T.c_Tree "word_items" (spItems T.c_Tree) [] E0 (tVar 0) tNil σ H4 R := fun H4 R s4 k σ hσ =>
    ⟨_, hσ, x, dx, _, rfl, s4 _ _ x1, tf_no (by decide +kernel), x, z, rs, rfl, hx.same s4, hl, k⟩
  refine items H3 _ s3 (fun H4 t4 vs4 s4 ht4 pk4 => ?_) _ rfl
  refine ⟨_, rfl, b, acc, rfl, .inl ⟨SqL.of (s4 _ _ hb), fun t5 ht5 => ?_⟩⟩
  have s5 := same_upd (o := .tup acc) ht5
  have d1 : Dp K (upd H4 t5 (.tup acc)) (.ref t4) (.tuple ((kept rs).map kvD)) := .tup (SqT.of (s5 _ _ ht4)) (kvs_dp (paired_mono (fun _ _ h => h.same s5) pk4))
  have d2 : Dp K (upd H4 t5 (.tup acc)) (.ref t5) (.tuple ((kept rs).map kvD)) := .tup (SqT.of upd_same) (kvs_dp (paired_mono (fun _ _ h => h.same (s4.trans s5)) pk))
  refine ⟨_, _, d1, d2, kvs_shaped lk, kvs_shaped lk, _, rfl, ?_⟩
  have e2 : PyData.eqv (.tuple ((kept rs).map kvD)) (.tuple ((kept rs).map kvD)) = true := by simp only [PyData.eqv]; exact kvs_self _
  rw [e2]
  refine iteT ?_
  have s45 := (s3.trans s4).trans s5
  refine items _ _ s45 (fun H6 t6 vs6 s6 ht6 pk6 => ⟨t6, rfl, ⟨_, SqT.of ht6⟩, fun D6 hD6 => ?_⟩) _ rfl
  refine lcF (walk_tup (K := K) (a := t6) (xs := vs6)) yat pk6 hD6 (fun H' s' => SqT.of (s' _ _ ht6)) (by have := List.length_filter_le (fun r : Rw => r.2.1.isSome) rs; unfold kept; omega) (fun _ => true) (fun _ => .bl true) (fun v r H' R N hr hv s' k1 _ => ?_) (fun H7 s7 hD7 => ?_)
  · obtain ⟨b, rfl, hb⟩ := hv
    exact ⟨rfl, yes_ite ⟨_, rfl, _, _, _, _, _, rfl, .ty _, .base (.tup (s' _ _ hb)), isi_tt, k1 rfl⟩⟩
  · rw [filter_tt, map_bl] at hD7
    refine ⟨D6, _, rfl, SqL.of hD7, ?_⟩
    rw [all_true]
    exact q _ ((s45.trans s6).trans s7)
end
end Toy
set_option Elab.async false
set_option linter.all false
set_option maxRecDepth 100000
set_option maxHeartbeats 4000000
namespace Toy
open PySem L2 Sh ShL LamX NdefX
/-- a value that is looked for: a text, or none -/
def OddV (H : Hp) (v : V) : Prop := v = .non ∨ (∃ i, v = .int i) ∨ (∃ b, v = .bl b) ∨ ∃ b, v = .ref b ∧ ((∃ xs, H b = some (.lst xs)) ∨ (∃ xs, H b = some (.tup xs)) ∨ ∃ k x, H b = some (.dK [(k, x)]))
def PlN (H : Hp) (v : V) : Prop := (∃ p, v = .str (sw p)) ∨ OddV H v
theorem PlN.mono {H H' : Hp} {v : V} (k1 : ∀ b xs, H b = some (.lst xs) → H' b = some (.lst xs)) (k2 : ∀ b xs, H b = some (.tup xs) → H' b = some (.tup xs)) (k3 : ∀ b k x, H b = some (.dK [(k, x)]) → H' b = some (.dK [(k, x)])) (h : PlN H v) : PlN H' v := by
  rcases h with h | h | h | h | ⟨b, e, ⟨xs, h⟩ | ⟨xs, h⟩ | ⟨k, x, h⟩⟩
  · exact .inl h
  · exact .inr (.inl h)
  · exact .inr (.inr (.inl h))
  · exact .inr (.inr (.inr (.inl h)))
  · exact .inr (.inr (.inr (.inr ⟨b, e, .inl ⟨xs, k1 _ _ h⟩⟩)))
  · exact .inr (.inr (.inr (.inr ⟨b, e, .inr (.inl ⟨xs, k2 _ _ h⟩)⟩)))
  · exact .inr (.inr (.inr (.inr ⟨b, e, .inr (.inr ⟨k, x, k3 _ _ _ h⟩)⟩)))
theorem PlN.same {H H' : Hp} {v : V} (s : Same H H') (h : PlN H v) : PlN H' v := h.mono (fun _ _ => s _ _) (fun _ _ => s _ _) fun _ _ _ => s _ _
theorem PlN.sm {T : List (Addr × Str)} {H H' : Hp} {v : V} (s : Sm T H H') (h : PlN H v) : PlN H' v := h.mono (fun _ _ q => s.get q) (fun _ _ q => s.get q) fun _ _ _ q => s.get q
theorem PlN.kp {H H' : Hp} {d c : Addr} {n : Nat} {v : V} (hp : Pen H d c n) (s : Kp d H H') (h : PlN H v) : PlN H' v := by
  obtain ⟨ns, b, l, hd, _⟩ := hp
  exact h.mono (fun _ _ q => s _ _ q (ne_of q hd (by intro z; cases z))) (fun _ _ q => s _ _ q (ne_of q hd (by intro z; cases z))) fun _ _ _ q => s _ _ q (ne_of q hd (by intro z; have := HO.dK.inj z; unfold penL at this; cases this))
theorem PlN.pl {K : PySem.W.Frag} {H : Hp} {v : V} (h : PlN H v) : ∃ p, PlV K H v p := by
  have no : ∀ t, PySem.W.kitOne K (.type t) (.type "str") = some false → TyX K H v (.type t) → ∃ p, PlV K H v p := fun t h1 h2 => ⟨none, _, h2, h1⟩
  rcases h with ⟨p, h⟩ | rfl | ⟨i, rfl⟩ | ⟨b, rfl⟩ | ⟨b, rfl, ⟨xs, h⟩ | ⟨xs, h⟩ | ⟨k, x, h⟩⟩
  · exact ⟨some p, h⟩
  · exact no _ (kit_ty (by decide +kernel)) (.base .non)
  · exact no _ (kit_ty (by decide +kernel)) (.base (.int _))
  · exact no _ (kit_ty (by decide +kernel)) (.base (.bl _))
  · exact no _ (kit_ty (by decide +kernel)) (.base (.lst h))
  · exact no _ (kit_ty (by decide +kernel)) (.base (.tup h))
  · exact no _ (kit_ty (by decide +kernel)) (.base (.dK h))
theorem PlN.str {H : Hp} (s : Str) : PlN H (.str s) := .inl ⟨s.cps.toList, by rw [← sw_of]⟩
def spNear : Sp := fun vs H Q _ => ∃ (d c a : Addr) (n : Nat) (z : Wd) (ps : List Wd), vs = [.ref d, .str (sw z), .ref a] ∧ Pen H d c n ∧ n ≤ 50000 ∧ LetOk z ∧ H a = some (.lst (wsV ps)) ∧ 0 < ps.length ∧ ps.length ≤ 1000 ∧ (∀ p ∈ ps, p.length ≤ 200) ∧
  ∀ (H' : Hp) (b : Addr) (vs4 : List V), vs4.length = 4 → (∀ v ∈ vs4, PlN H' v) → H' b = some (.lst vs4) → Kp d H H' → Pen H' d c (n + 4) → Q (.ref b) H'
section
variable {P : Program} {w : World} {K : PySem.W.Frag} {mg : Str → Option Value} {base : Heap}
theorem ok_l_near (T : Tx P K mg) (B : Bx T base) : FnOk P w K mg base CX0 3 T.a_l_near T.fd_l_near ["_law_pen_here", "_law_letters_here", "_law_places_here"] spNear := by
  refine okT T.F_l_near sc_l_near (fun vs H Q E h => ?_) (fun cdv A outer s H vs Q E hcd hr h => ?_)
  · obtain ⟨d, c, a, n, z, ps, rfl, _⟩ := h
    rfl
  have hu := hu_of hr
  have hu65 := hu65_of hr
  obtain ⟨d, c, a, n, z, ps, rfl, hp, hn, hz, ha, hp0, hpl, h200, q⟩ := h
  obtain ⟨kvs, hd⟩ := hp.at
  have nad : a ≠ d := ne_of ha hd (by intro z; cases z)
  have hwl : (wsV ps).length = ps.length := List.length_map _
  refine ⟨_, (pss_cons (ps_set (i := 3) sc_l_near.nd rfl (by first | exact Or.inl rfl | exact Or.inr rfl) (pe_call (ok_l_pick T B) (hr.mono (by decide)) (by rfl) T.m_l_pick T.F_l_pick.kp T.bi_l_pick .nil pass0 (pa_cons (pv 0) (pa_cons (pv 2) pa_nil))))
 (pss_cons (ps_set (i := 4) sc_l_near.nd rfl (by first | exact Or.inl rfl | exact Or.inr rfl) (pe_lst (pa_cons (pv 3) (pa_cons (pe_op op_add_str (pv 3) (pe_ix ix_str (pv 1) pe_int (fun _ _ => rfl))) (pa_cons (pe_op op_add_str (pv 3) (pe_ix ix_str (pv 1) (pe_un un_neg pe_int) (fun _ _ => rfl))) (pa_cons (pe_slice sl_str (pv 3) po_none (po_some (pe_un un_neg pe_int))) (pa_cons (pe_slice sl_str (pv 3) (po_some pe_int) po_none) (pa_cons (pe_op op_add_str (pv 3) pe_str) (pa_cons (pv 1) (pa_cons (pe_op op_add_str (pv 3) pe_str) pa_nil))))))))))
 (pss_cons (ps_set (i := 5) sc_l_near.nd rfl (by first | exact Or.inl rfl | exact Or.inr rfl) (pe_lst (pa_cons pe_non (pa_cons pe_int (pa_cons pe_bl (pa_cons pe_int (pa_cons (pe_lst (pa_cons (pv 3) pa_nil)) (pa_cons (pe_tup (pa_cons (pv 3) pa_nil)) (pa_cons (pe_callTy (Sh.call_list_str rfl) (by rfl) T.b_list (by decide +kernel) (pa_cons (pv 3) pa_nil)) (pa_cons (pe_disp (pps_cons (pv 3) (pv 3) pps_nil) (by rfl) (by rfl) (fun z => by cases z) (by decide)) (pa_cons (pe_op op_mulS (pe_ix ix_str (pv 1) pe_int (fun _ _ => rfl)) pe_int) (pa_cons (pe_lst pa_nil) (pa_cons (pe_tup pa_nil) (pa_cons (pe_un un_neg pe_int) pa_nil))))))))))))))
 (pss_one (ps_ret (pe_lst (pa_cons (pv 3) (pa_cons (pe_call (ok_l_pick T B) (hr.mono (by decide)) (by rfl) T.m_l_pick T.F_l_pick.kp T.bi_l_pick .nil pass0 (pa_cons (pv 0) (pa_cons (pv 4) pa_nil))) (pa_cons (pe_call (ok_l_pick T B) (hr.mono (by decide)) (by rfl) T.m_l_pick T.F_l_pick.kp T.bi_l_pick .nil pass0 (pa_cons (pv 0) (pa_cons (pv 4) pa_nil))) (pa_cons (pe_call (ok_l_pick T B) (hr.mono (by decide)) (by rfl) T.m_l_pick T.F_l_pick.kp T.bi_l_pick .nil pass0 (pa_cons (pv 0) (pa_cons (pv 5) pa_nil))) pa_nil)))))))))), ?_⟩
  refine ⟨_, rfl, _, rfl, .inl ⟨d, c, a, n, wsV ps, rfl, hp, by omega, SqL.of ha, by omega, by omega, nad, fun H1 x hx kp1 p1 => ?_⟩⟩
  obtain ⟨p, hpm, rfl⟩ := List.mem_map.mp hx
  have hl := h200 p hpm
  have hl2 : (sw p).length ≤ sizeLine := by rw [sw_len, sizeLine_eq]; omega
  have hl1 : (sw p).length + 1 ≤ sizeLine := by rw [sw_len, sizeLine_eq]; omega
  have z2 := hz.l2
  have z26 := hz.l26
  have hzl : (sw z).length ≤ sizeLine := by rw [sw_len, sizeLine_eq]; omega
  obtain ⟨c0, h0⟩ : ∃ c0, z[0]? = some c0 := ⟨_, List.getElem?_eq_getElem (by omega)⟩
  obtain ⟨c1, h1⟩ : ∃ c1, z.getLast? = some c1 := by
    cases e : z.getLast? with
    | none => rw [List.getLast?_eq_none_iff] at e; rw [e] at z2; cases z2
    | some c => exact ⟨c, rfl⟩
  refine ⟨_, rfl, ?_⟩
  refine ⟨_, rfl, _, rfl, sw z, _, c0, rfl, rfl, hzl, atW_zero h0, _, _, rfl, rfl, hl1, ?_⟩
  refine ⟨_, rfl, _, rfl, _, rfl, sw z, _, c1, rfl, rfl, hzl, atW_last h1, _, _, rfl, rfl, hl1, ?_⟩
  refine ⟨_, rfl, _, rfl, _, rfl, _, rfl, hl2, ?_⟩
  refine ⟨_, rfl, _, rfl, _, rfl, hl2, ?_⟩
  refine ⟨_, rfl, _, _, rfl, rfl, hl1, ?_⟩
  refine ⟨_, rfl, ?_⟩
  refine ⟨_, rfl, _, _, rfl, rfl, hl1, ?_⟩
  refine ⟨by show 8 ≤ sizeLine; decide, fun b hb => ?_⟩
  have near : ∀ H', ∀ v ∈ [V.str (sw p), V.str (sw p ++ ⟨#[c0]⟩), V.str (sw p ++ ⟨#[c1]⟩), V.str (cutS (sw p) none (some (-1))), V.str (cutS (sw p) (some 1) none), V.str (sw p ++ ("A" : Str)), V.str (sw z), V.str (sw p ++ (" " : Str))], PlN H' v := fun H' v hv => by
    simp only [List.mem_cons, List.not_mem_nil, or_false] at hv
    rcases hv with rfl | rfl | rfl | rfl | rfl | rfl | rfl | rfl <;> exact PlN.str _
  generalize hnl : [V.str (sw p), V.str (sw p ++ ⟨#[c0]⟩), V.str (sw p ++ ⟨#[c1]⟩), V.str (cutS (sw p) none (some (-1))), V.str (cutS (sw p) (some 1) none), V.str (sw p ++ ("A" : Str)), V.str (sw z), V.str (sw p ++ (" " : Str))] = nl at near
  have hnl8 : nl.length = 8 := by rw [← hnl]; rfl
  have s2 : Same H1 (upd H1 b (.lst nl)) := same_upd hb
  have hb2 : (upd H1 b (.lst nl)) b = some (.lst nl) := upd_same
  have nbd := p1.ne_free hb
  generalize upd H1 b (.lst nl) = H2 at s2 hb2
  -- the odd ones
  refine ⟨_, rfl, by show 1 ≤ sizeLine; decide, fun e1 he1 => ?_⟩
  have s3 := same_upd (o := .lst [V.str (sw p)]) he1
  have h3 : (upd H2 e1 (.lst [V.str (sw p)])) e1 = some (.lst [V.str (sw p)]) := upd_same
  generalize upd H2 e1 (.lst [V.str (sw p)]) = H3 at s3 h3
  refine ⟨_, rfl, by show 1 ≤ sizeLine; decide, fun e2 he2 => ?_⟩
  have s4 := same_upd (o := .tup [V.str (sw p)]) he2
  have h4 : (upd H3 e2 (.tup [V.str (sw p)])) e2 = some (.tup [V.str (sw p)]) := upd_same
  generalize upd H3 e2 (.tup [V.str (sw p)]) = H4 at s4 h4
  refine ⟨_, rfl, _, rfl, hl2, fun e3 he3 => ?_⟩
  have s5 := same_upd (o := .lst ((signs (sw p)).map V.str)) he3
  have h5 : (upd H4 e3 (.lst ((signs (sw p)).map V.str))) e3 = some (.lst ((signs (sw p)).map V.str)) := upd_same
  generalize upd H4 e3 (.lst ((signs (sw p)).map V.str)) = H5 at s5 h5
  intro e4 he4
  refine ⟨_, rfl, _, rfl, upd_same, [(.inr (sw p), .str (sw p))], rfl, by show 1 ≤ 15; decide, ?_⟩
  have s6 : Same H5 (upd (upd H5 e4 (.dK [])) e4 (.dK (mergeK [] [(.inr (sw p), .str (sw p))]))) := same_of_new (same_upd he4) he4
  have h6 : (upd (upd H5 e4 (.dK [])) e4 (.dK (mergeK [] [(.inr (sw p), .str (sw p))]))) e4 = some (.dK [(.inr (sw p), .str (sw p))]) := upd_same
  generalize upd (upd H5 e4 (.dK [])) e4 (.dK (mergeK [] [(.inr (sw p), .str (sw p))])) = H6 at s6 h6
  refine ⟨_, rfl, sw z, _, c0, rfl, rfl, hzl, atW_zero h0, _, 300, rfl, rfl, by decide, by show 1 ≤ 1000; decide, ?_⟩
  refine ⟨Nat.zero_le _, fun e5 he5 => ?_⟩
  have s7 := same_upd (o := .lst []) he5
  have h7 : (upd H6 e5 (.lst [])) e5 = some (.lst []) := upd_same
  generalize upd H6 e5 (.lst []) = H7 at s7 h7
  refine ⟨Nat.zero_le _, fun e6 he6 => ?_⟩
  have s8 := same_upd (o := .tup []) he6
  have h8 : (upd H7 e6 (.tup [])) e6 = some (.tup []) := upd_same
  generalize upd H7 e6 (.tup []) = H8 at s8 h8
  refine ⟨_, rfl, by show 12 ≤ sizeLine; decide, fun o ho => ?_⟩
  generalize hol : [V.non, V.int 0, V.bl true, V.int 1, V.ref e1, V.ref e2, V.ref e3, V.ref e4, V.str (repS ⟨#[c0]⟩ 300), V.ref e5, V.ref e6, V.int (-1)] = ol
  have hol12 : ol.length = 12 := by rw [← hol]; rfl
  have odd : ∀ v ∈ ol, PlN H8 v := fun v hv => by
    rw [← hol] at hv
    simp only [List.mem_cons, List.not_mem_nil, or_false] at hv
    have l : ∀ b xs, H8 b = some (.lst xs) → PlN H8 (.ref b) := fun b xs h => .inr (.inr (.inr (.inr ⟨b, rfl, .inl ⟨xs, h⟩⟩)))
    have t : ∀ b xs, H8 b = some (.tup xs) → PlN H8 (.ref b) := fun b xs h => .inr (.inr (.inr (.inr ⟨b, rfl, .inr (.inl ⟨xs, h⟩)⟩)))
    rcases hv with rfl | rfl | rfl | rfl | rfl | rfl | rfl | rfl | rfl | rfl | rfl | rfl
    · exact .inr (.inl rfl)
    · exact .inr (.inr (.inl ⟨_, rfl⟩))
    · exact .inr (.inr (.inr (.inl ⟨_, rfl⟩)))
    · exact .inr (.inr (.inl ⟨_, rfl⟩))
    · exact l _ _ (s8 _ _ (s7 _ _ (s6 _ _ (s5 _ _ (s4 _ _ h3)))))
    · exact t _ _ (s8 _ _ (s7 _ _ (s6 _ _ (s5 _ _ h4))))
    · exact l _ _ (s8 _ _ (s7 _ _ (s6 _ _ h5)))
    · exact .inr (.inr (.inr (.inr ⟨_, rfl, .inr (.inr ⟨_, _, s8 _ _ (s7 _ _ h6)⟩)⟩)))
    · exact PlN.str _
    · exact l _ _ (s8 _ _ h7)
    · exact t _ _ h8
    · exact .inr (.inr (.inl ⟨_, rfl⟩))
  have sA := ((((((s2.trans s3).trans s4).trans s5).trans s6).trans s7).trans s8)
  have s9 : Same H8 (upd H8 o (.lst ol)) := same_upd ho
  have ho9 : (upd H8 o (.lst ol)) o = some (.lst ol) := upd_same
  have p8 := (p1.same sA)
  have nod := p8.ne_free ho
  have p9 := p8.same s9
  have hb9 := s9 _ _ (s8 _ _ (s7 _ _ (s6 _ _ (s5 _ _ (s4 _ _ (s3 _ _ hb2))))))
  have odd9 : ∀ v ∈ ol, PlN (upd H8 o (.lst ol)) v := fun v hv => (odd v hv).same s9
  have k9 : Kp d H (upd H8 o (.lst ol)) := kp1.trans (Same.kp (sA.trans s9))
  generalize upd H8 o (.lst ol) = H9 at s9 ho9 p9 hb9 odd9 k9
  refine ⟨_, rfl, ?_⟩
  refine ⟨_, rfl, _, rfl, .inl ⟨d, c, b, n + 1, nl, rfl, p9, by omega, SqL.of hb9, by omega, by omega, nbd, fun H10 x1 hx1 kp10 p10 => ?_⟩⟩
  refine ⟨_, rfl, _, rfl, .inl ⟨d, c, b, n + 2, nl, rfl, p10, by omega, SqL.of (kp10 _ _ hb9 nbd), by omega, by omega, nbd, fun H11 x2 hx2 kp11 p11 => ?_⟩⟩
  refine ⟨_, rfl, _, rfl, .inl ⟨d, c, o, n + 3, ol, rfl, p11, by omega, SqL.of (kp11 _ _ (kp10 _ _ ho9 nod) nod), by omega, by omega, nod, fun H12 x3 hx3 kp12 p12 => ?_⟩⟩
  refine ⟨by show 4 ≤ sizeLine; decide, fun r hr => ?_⟩
  have sr := same_upd (o := .lst [V.str (sw p), x1, x2, x3]) hr
  refine q _ r [V.str (sw p), x1, x2, x3] rfl (fun v hv => ?_) upd_same (((k9.trans kp10).trans kp11).trans kp12 |>.trans (Same.kp sr)) (p12.same sr)
  simp only [List.mem_cons, List.not_mem_nil, or_false] at hv
  rcases hv with rfl | rfl | rfl | rfl
  · exact PlN.str _
  · exact near _ _ hx1
  · exact near _ _ hx2
  · exact ((((odd9 _ hx3).kp p9 kp10).kp p10 kp11).kp p11 kp12).same sr
end
end Toy
set_option Elab.async false
set_option linter.all false
set_option maxRecDepth 100000
set_option maxHeartbeats 4000000
namespace Toy
open PySem L2 Sh ShL LamX NdefX
section
variable {X : Cx}
theorem takes_len {W : WX} (t : Takes X W) : Takes X (fun cls d σ H => σ.length = X.N.length → W cls d σ H) := fun u s' ⟨a, B, sI, pins, σ, H, cls, d, e, I, nb, up, sky, na, os, ag, w⟩ =>
  t u s' ⟨a, B, sI, pins, σ, H, cls, d, e, I, nb, up, sky, na, os, ag, w I.len⟩
end
theorem kit_self {K : PySem.W.Frag} {S C : Addr} (x : XCls K S C) : PySem.W.kitCls K (.ref C) (.ref C) = some true := by
  unfold PySem.W.kitCls
  simp only [x.isC, x.ty, beq_self_eq_true, Bool.and_self, if_true]
  show PySem.W.mroIn K C (.ref C) = _
  rw [x.sub]
  simp
/-- [a()], or ('no', e.place) -/
def TTnp (CS : Addr) : (XK → Hp → VK → Prop) → Hp → VK → Prop := fun tl H Q => ∀ (E : XK) (R : VK),
  (∀ dx v fs H', H' dx = some (exd dx fs) → List.lookup ("place" : Str) fs = some v → (∀ p, H' p = none → Q (.ref p) (upd H' p (.tup [.str "no", v]))) → E (.ref CS) (some dx) H') →
  (∀ v H', (∀ p, H' p = none → Q (.ref p) (upd H' p (.lst [v]))) → R v H') → tl E H R
section
variable {P : Program} {K : PySem.W.Frag} {mg : Str → Option Value}
theorem gives_l_no_place (T : Tx P K mg) (X : Cx) (hK : X.K = K) (hm : X.mg = mg) (cdg : Value) (q : Str) : GivesTo X N_l_no_place "_law_no_place" (defScope s_l_no_place) T.a_l_no_place cdg (defBody s_l_no_place) "_law_function" q (TTnp T.c_NoPlace) := by
  subst hK
  subst hm
  intro f c' s H Q tl act hc h
  have hnd : ("NoPlace" : Str) ≠ "__debug__" := by decide +kernel
  refine ⟨_, pss_cons (ps_set (i := 1) sc_l_no_place.nd rfl (by first | exact Or.inl rfl | exact Or.inr rfl) pe_non) (pss_cons (ps_try_as (X := (cxOf C8.CX0 X.prog X.w X.K X.mg X.base N_l_no_place "_law_no_place" (defScope s_l_no_place) T.a_l_no_place cdg X.A X.stack s H C8.E0).nox) (i := 2) (c := .ref T.c_NoPlace)
      (tb := fun W D σ H => ∃ Ech : XK, (∀ cls d σ' H', Ech cls d H' → σ'.length = 3 → W cls d σ' H') ∧ σ[0]? = some (some (.ref f)) ∧ H c' = some (CodeO c' q) ∧ tl Ech H (fun v H1 => [v].length ≤ sizeLine ∧ ∀ p, H1 p = none → gName 1 (.ref p) σ (upd H1 p (.lst [v])) D.nx))
      rfl rfl sc_l_no_place.nd rfl rfl ⟨rfl, by decide +kernel, .inl T.m_NoPlace⟩ LamX.takes0 (fun W pn xe tk _ => ?_) (fun a oe cls d pn hz hd => pss_one (ps_set (i := 1) sc_l_no_place.nd rfl (by first | exact Or.inl rfl | exact Or.inr rfl) (pe_tup (pa_cons pe_str (pa_cons (pe_xby hz hd (pv 2)) pa_nil)))))) (pss_one (ps_ret (pv 1)))), ?_⟩
  · refine ⟨fun pins s' σ H' D I h' => ?_⟩
    obtain ⟨Ech, hW, h1, h2, h3⟩ := h'
    exact (pss_one (ps_set (i := 1) sc_l_no_place.nd rfl (by first | exact Or.inl rfl | exact Or.inr rfl) (pe_lst (pa_cons (act _ pn xe Ech _ _ (takes_len tk) (fun cls d σ' H' h hl => hW cls d σ' H' h hl)) pa_nil)))).run pins s' σ H' D I ⟨h1, h2, h3⟩
  · refine ⟨fun cls d H' => ∃ dx v fs, cls = .ref T.c_NoPlace ∧ d = some dx ∧ H' dx = some (exd dx fs) ∧ List.lookup ("place" : Str) fs = some v ∧ ∀ p, H' p = none → Q (.ref p) (upd H' p (.tup [.str "no", v])), fun cls d σ' H' h hl => ?_, rfl, hc, h _ _ (fun dx v fs H' h1 h2 h3 => ⟨dx, v, fs, rfl, rfl, h1, h2, h3⟩) (fun v H' hq => ⟨by show 1 ≤ sizeLine; decide, fun p hp => ⟨_, rfl, hq p hp⟩⟩)⟩
    obtain ⟨dx, v, fs, rfl, rfl, h1, h2, h3⟩ := h
    obtain ⟨v0, v1, v2, rfl⟩ : ∃ v0 v1 v2, σ' = [v0, v1, v2] := by
      match σ', hl with
      | [v0, v1, v2], _ => exact ⟨v0, v1, v2, rfl⟩
    refine ⟨true, ?_, fun _ a ha => ?_, fun z => by cases z⟩
    · exact exmOne_of T.x_NoPlace.subBE (kit_self T.x_NoPlace)
    · refine ⟨_, rfl, rfl, T.c_NoPlace, dx, fs, v, rfl, rfl, ?_, ?_, h1, h2, by show 2 ≤ sizeLine; decide, fun p hp => ⟨_, rfl, h3 p hp⟩⟩
      · exact T.x_NoPlace.r
      · exact T.nf_NoPlace_place
end
end Toy
set_option Elab.async false
set_option linter.all false
set_option maxRecDepth 100000
set_option maxHeartbeats 4000000
namespace Toy
open PySem L2 Sh ShL LamX NdefX
theorem join_sgs : ∀ l : Wd, Str.join (sw []) (l.map fun c => sw [c]) = sw l
  | [] => rfl
  | [c] => rfl
  | c :: d :: l => by
    have ih := join_sgs (d :: l)
    show sw [c] ++ sw [] ++ Str.join (sw []) ((d :: l).map fun c => sw [c]) = _
    rw [ih, sw_app, sw_app]
    rfl
theorem PlN.plain {H : Hp} {v : V} (h : PlN H v) : plainV v = true := by
  rcases h with ⟨p, rfl⟩ | rfl | ⟨i, rfl⟩ | ⟨b, rfl⟩ | ⟨b, rfl, _⟩ <;> rfl
def spAt (T : List (Addr × Str)) (C : Addr) : Sp := fun vs H Q _ => ∃ x z t a ws rs v, vs = [.ref x, .str (sw z), .ref t, .ref a, v] ∧ TreeAt C H x z rs ∧ (rs.map (·.1)).Nodup ∧ rs.length ≤ 2000 ∧ (∀ r ∈ rs, r.1.length ≤ 200) ∧ z.length ≤ 26 ∧ H t = some (.lst (wsV (rs.map (·.1)))) ∧ H a = some (.lst ws) ∧ Paired (RwT H) ws rs ∧
  PlN H v ∧ Tabs T H ∧ ∀ H', Sm T H H' → Q (.bl true) H'
theorem eqV_sw (p q : Wd) : eqV (.str (sw p)) (.str (sw q)) = decide (p = q) := by
  show ((sw p) == (sw q)) = _
  exact sw_beq p q
theorem sum_sgs : ∀ l : Wd, ((l.map fun c => sw [c]).map (·.length)).sum = l.length
  | [] => rfl
  | c :: l => by
    rw [List.map_cons, List.map_cons, List.sum_cons, sum_sgs l, List.length_cons]
    show 1 + _ = _
    omega
theorem lk1 (v : V) : List.lookup ("place" : Str) [(("place" : Str), v)] = some v := by
  rw [List.lookup_cons]
  simp
theorem np_step {T : List (Addr × Str)} {C N x dx : Addr} {fs : List (Str × V)} {m : Str} {sp : Sp} {v : V} {σ : L2.St} {H H0 : Hp} {Q : VK} (h0 : σ[0]? = some (some (.ref x))) (h4 : σ[4]? = some (some v)) (s0 : Sm T H H0) (hx : H x = some (.ins C dx fs)) (hm : List.lookup m fs = none)
    (hsp : ∀ H1 R E, Sm T H H1 → (∀ H' d, Same H1 H' → H1 d = none → H' d = some (exd d [("place", v)]) → E (.ref N) (some d) H') → sp [.ref x, v] H1 R E)
    (k : ∀ H3 pp, Sm T H H3 → H3 pp = some (.tup [.str "no", v]) → Q (.ref pp) H3) : tLam T (TTnp N) (fun E => tMeth C m sp [] E (tVar 0) (tCons (tVar 4) tNil)) σ H0 Q := by
  refine ⟨s0.2, fun H1 ex1 tb1 E1 R hE hR => ?_⟩
  have s1 : Sm T H H1 := s0.trans ⟨ex1, tb1⟩
  refine ⟨_, h0, x, dx, fs, rfl, s1.get hx, hm, _, h4, hsp H1 R E1 s1 fun H2 d2 s2 n2 e2 => hE d2 v _ H2 e2 (lk1 v) fun pp hpp => ?_⟩
  exact k _ pp ((s1.ext s2).new hpp) upd_same
theorem nd_row {rs : List Rw} {r r' : Rw} (nd : (rs.map (·.1)).Nodup) (h : r ∈ rs) (h' : r' ∈ rs) (e : r.1 = r'.1) : r' = r := by
  obtain ⟨i, hi⟩ := List.getElem?_of_mem h
  obtain ⟨j, hj⟩ := List.getElem?_of_mem h'
  have h1 : (rs.map (·.1))[i]? = some r.1 := by rw [List.getElem?_map, hi]; rfl
  have h2 : (rs.map (·.1))[j]? = some r.1 := by rw [List.getElem?_map, hj, e]; rfl
  have := nd_ix nd h1 h2
  subst this
  rw [hi] at hj
  exact (Option.some.inj hj).symm
theorem PlV.sm {T : List (Addr × Str)} {K : PySem.W.Frag} {H H' : Hp} {v : V} {p : Option Wd} (h : PlN H v) (s : Sm T H H') (hp : PlV K H v p) : PlV K H' v p := by
  cases p with
  | some p => exact hp
  | none =>
    rcases h with ⟨q, rfl⟩ | h
    · obtain ⟨t, h1, h2⟩ := hp
      cases h1 with
      | base h1 => cases h1; exact absurd h2 (by rw [isi_s]; decide)
    · obtain ⟨p, h'⟩ := (PlN.sm s (Or.inr h)).pl (K := K)
      cases p with
      | none => exact h'
      | some q =>
        cases (show v = .str (sw q) from h')
        rcases h with h | ⟨i, h⟩ | ⟨i, h⟩ | ⟨i, h, _⟩ <;> cases h
section
variable {P : Program} {w : World} {K : PySem.W.Frag} {mg : Str → Option Value} {base : Heap}
theorem ok_l_right_at (T : Tx P K mg) (B : Bx T base) : FnOk P w K mg base CX0 6 T.a_l_right_at T.fd_l_right_at ["_law_tree", "_law_letters_here", "_law_there", "_law_rows", "_law_place"] (spAt (tabs T) T.c_Tree) := by
  refine okT T.F_l_right_at sc_l_right_at (fun vs H Q E h => ?_) (fun cdv A outer s H vs Q E hcd hr h => ?_)
  · obtain ⟨x, z, t, a, ws, rs, v, rfl, _⟩ := h
    rfl
  have hcd : cdv = .ref T.kc_l_right_at := hcd.symm.trans T.ec_l_right_at
  have hu := hu_of hr
  have hu65 := hu65_of hr
  obtain ⟨oc_n, od_n, kV_n, doc_n, pm_n, an_n, cdv_n, ct_n, osl_n, fd_n, lk_n, cg_l_no_place⟩ := T.F_l_no_place.ex
  have bi_n := T.bi_l_no_place
  rw [fd_n] at lk_n bi_n
  have lk_l_no_place := lk_n
  have bi_l_no_place := bi_n
  obtain ⟨x, z, t, a, ws, rs, v, rfl, hx, nd, hl, h200, h26, ht, ha, pr, hv, tb, q⟩ := h
  obtain ⟨p, hp⟩ := hv.pl (K := K)
  obtain ⟨dx, t0, d, e, m, vs0, us, x1, x2, x3, x4, x5, x6, x7, x8⟩ := hx.ex
  refine ⟨_, (pss_cons (ps_set (i := 5) sc_l_right_at.nd rfl (by first | exact Or.inl rfl | exact Or.inr rfl) (pe_and (pe_callB call_isi (by rfl) T.b_isinstance (by decide +kernel) (pa_cons (pv 4) (pa_cons (pe_bltn (v := .ty "str") (by rfl) T.b_str (by decide +kernel) rfl) pa_nil))) (pe_one (pe_cmpR op_in_seq (pv 4) (pv 2) (by rfl)))))
 (pss_cons (ps_if (PW.pt (pw_or (pt_not (pt_val (pe_callB call_isi (by rfl) T.b_isinstance (by decide +kernel) (pa_cons (pe_meth (pv 0) T.cl_Tree T.me_Tree_has (ok_Tree_has T B) (hr.mono (by decide)) T.bi_Tree_has .nil pass0 (pa_cons (pv 4) pa_nil)) (pa_cons (pe_bltn (v := .ty "bool") (by rfl) T.b_bool (by decide +kernel) rfl) pa_nil))))) (pw_or1 (pt_cmpR op_ne (pe_meth (pv 0) T.cl_Tree T.me_Tree_has (ok_Tree_has T B) (hr.mono (by decide)) T.bi_Tree_has .nil pass0 (pa_cons (pv 4) pa_nil)) (pv 5) (nomark _)))))
 (pss_one (ps_ret pe_bl))
 pss_nil)
 (pss_cons (ps_if (pt_not (pt_val (pv 5)))
 (pss_cons (ps_if (PW.pt (pw_or (pt_cmpR op_notN (pe_meth (pv 0) T.cl_Tree T.me_Tree_value_of (ok_Tree_value_of T B) (hr.mono (by decide)) T.bi_Tree_value_of .nil pass0 (pa_cons (pv 4) pa_nil)) pe_non (nomark _)) (pw_or1 (pt_cmpR (op_neSameT (Nat.lt_of_le_of_lt (Nat.le_add_right _ 65) hu65)) (pe_lamcall (T := tabs T) (k := 3) (Ng := N_l_no_place) (by rfl) T.m_l_no_place T.F_l_no_place.kp lk_l_no_place cg_l_no_place bi_l_no_place sc_l_no_place rfl (by first | exact Or.inl rfl | exact Or.inr (Or.inl rfl) | exact Or.inr (Or.inr rfl)) (gives_l_no_place T _ rfl rfl _ _) B.tb_l_right_at hcd (mem_l_right_at T) (uniq_l_right_at T) (hr.mono (by decide)) (lamS_by (sc := defScope s_l_right_at) (by decide +kernel)) rfl (fun _ _ _ _ _ => rfl) (fun A outer s H E f c' hr2 => (pe_meth (pv 0) T.cl_Tree T.me_Tree_row (ok_Tree_row T B) hr2 T.bi_Tree_row .nil (passes_call (takes_of rfl rfl rfl rfl) (fun _ _ _ _ h => h)) (pa_cons (pv 4) pa_nil)))) (pe_tup (pa_cons pe_str (pa_cons (pv 4) pa_nil))) (nomark _)))))
 (pss_one (ps_ret pe_bl))
 pss_nil)
 (pss_one (ps_ret (pe_cmpR (op_eqSameT (Nat.lt_of_le_of_lt (Nat.le_add_right _ 65) hu65)) (pe_lamcall (T := tabs T) (k := 3) (Ng := N_l_no_place) (by rfl) T.m_l_no_place T.F_l_no_place.kp lk_l_no_place cg_l_no_place bi_l_no_place sc_l_no_place rfl (by first | exact Or.inl rfl | exact Or.inr (Or.inl rfl) | exact Or.inr (Or.inr rfl)) (gives_l_no_place T _ rfl rfl _ _) B.tb_l_right_at hcd (mem_l_right_at T) (uniq_l_right_at T) (hr.mono (by decide)) (lamS_by (sc := defScope s_l_right_at) (by decide +kernel)) rfl (fun _ _ _ _ _ => rfl) (fun A outer s H E f c' hr2 => (pe_meth (pv 0) T.cl_Tree T.me_Tree_below (ok_Tree_below T B) hr2 T.bi_Tree_below .nil (passes_call (takes_of rfl rfl rfl rfl) (fun _ _ _ _ h => h)) (pa_cons (pv 4) pa_nil)))) (pe_tup (pa_cons pe_str (pa_cons (pv 4) pa_nil))) (nomark _)))))
 pss_nil)
 (pss_cons (ps_set (i := 6) sc_l_right_at.nd rfl (by first | exact Or.inl rfl | exact Or.inr rfl) (pe_ix ix_list (pv 3) (pe_bm PySem.F.plainAttrs_list PySem.F.slot_list_index PySem.F.type_list_index mt_index (pv 2) (pa_cons (pv 4) pa_nil)) (fun _ _ => rfl)))
 (pss_cons (ps_if (PW.pt (pw_or (pt_cmpR op_ne (pe_meth (pv 0) T.cl_Tree T.me_Tree_value_of (ok_Tree_value_of T B) (hr.mono (by decide)) T.bi_Tree_value_of .nil pass0 (pa_cons (pv 4) pa_nil)) (pe_ix ix_tup (pv 6) pe_int (fun _ _ => rfl)) (nomark _)) (pw_or1 (pt_not (pt_val (pe_call (ok_l_is_row T B) (hr.mono (by decide)) (by rfl) T.m_l_is_row T.F_l_is_row.kp T.bi_l_is_row .nil pass0 (pa_cons (pe_meth (E := fun _ _ _ => False) (pv 0) T.cl_Tree T.me_Tree_row (ok_Tree_row T B) (hr.mono (by decide)) T.bi_Tree_row .nil (passes_call LamX.takes0 (fun _ _ _ _ h => h)) (pa_cons (pv 4) pa_nil)) (pa_cons (pe_ix ix_tup (pv 6) pe_int (fun _ _ => rfl)) (pa_cons (pe_ix ix_tup (pv 6) pe_int (fun _ _ => rfl)) (pa_cons (pe_ix ix_tup (pv 6) pe_int (fun _ _ => rfl)) pa_nil))))))))))
 (pss_one (ps_ret pe_bl))
 pss_nil)
 (pss_one (ps_ret (pe_cmpR op_eq (pe_meth (E := fun _ _ _ => False) (pv 0) T.cl_Tree T.me_Tree_below (ok_Tree_below T B) (hr.mono (by decide)) T.bi_Tree_below .nil (passes_call LamX.takes0 (fun _ _ _ _ h => h)) (pa_cons (pv 4) pa_nil)) (pe_m1 PySem.F.slot_str_join PySem.F.type_str_join mt_join pe_str (pe_lc (own := [("_law_letter", 7)]) (g := gName 7) rfl sc_l_right_at.nd (pi_str (pv 1)) (blkOk_by (own := [("_law_letter", 7)]) (N := N_l_right_at) (sc := defScope s_l_right_at) (by decide +kernel)) (fun _ _ _ _ _ => (pg_name (i := 7) sc_l_right_at.nd rfl (by first | exact Or.inl rfl | exact Or.inr rfl))) (fun _ _ _ _ _ => (pts_one (pt_cmpR (by exact op_in_seq : OpR _ (compareOp .In) (rIn K false)) (pe_op op_add_str (pv 4) (pv 7)) (pv 2) (by rfl)))) (fun _ _ _ _ _ => (pv 7)))) (nomark _))))))))), ?_⟩
  have has : ∀ (σ : L2.St) (R : VK), σ[0]? = some (some (.ref x)) → σ[4]? = some (some v) → R (.bl (inR p rs)) H → tMeth T.c_Tree "has" (spHas K T.c_Tree) [] E0 (tVar 0) (tCons (tVar 4) tNil) σ H R := fun σ R h0 h4 k =>
    ⟨_, h0, x, dx, _, rfl, x1, tf_no (by decide +kernel), _, h4, x, z, rs, v, p, rfl, hx, nd, hp, k⟩
  refine asgS (fun w H2 => w = .bl (inR p rs) ∧ H2 = H) (fun R hR => ?_) (fun w H2 ⟨e1, e2⟩ => ?_)
  · cases p with
    | none =>
      obtain ⟨ty, h1, h2⟩ := hp
      exact ⟨_, rfl, _, _, _, _, _, rfl, .ty _, h1, h2, _, rfl, iteF (hR _ _ ⟨rfl, rfl⟩)⟩
    | some p =>
      cases (show v = .str (sw p) from hp)
      refine ⟨_, rfl, _, _, _, _, _, rfl, .ty _, .base (.str _), isi_s, _, rfl, iteT ?_⟩
      refine ⟨_, rfl, _, rfl, t, _, rfl, .inl (SqL.of ht), rfl, wsV_flat _, ?_⟩
      rw [wsV_in]
      exact hR _ _ ⟨rfl, rfl⟩
  subst e1
  subst e2
  refine has _ _ rfl rfl ⟨_, _, _, _, _, rfl, .ty _, .base (.bl _), isi_bb, _, rfl, iteF ?_⟩
  refine has _ _ rfl rfl ⟨_, rfl, rfl, _, rfl, ?_⟩
  rw [decide_eq_true rfl]
  refine iteF ?_
  refine ⟨_, rfl, _, rfl, ?_⟩
  cases hin : inR p rs with
  | false =>
    refine iteT ?_
    refine ⟨_, rfl, x, dx, _, rfl, x1, tf_no (by decide +kernel), _, rfl, x, z, rs, v, p, rfl, hx, nd, hp, fun r hr e => ?_, fun _ => ⟨rfl, _, rfl, iteF ?_⟩⟩
    · rw [e] at hin
      exact absurd (decide_eq_true (List.mem_map.mpr ⟨r, hr, rfl⟩)) (by rw [show decide (r.1 ∈ rs.map (·.1)) = false from hin]; decide)
    have rule : ∀ r ∈ rs, p = some r.1 → False := fun r hr e => by
      rw [e] at hin
      have : decide (r.1 ∈ rs.map (·.1)) = false := hin
      rw [decide_eq_true (List.mem_map.mpr ⟨r, hr, rfl⟩)] at this
      cases this
    have tup : ∀ (b : Bool) (H3 : Hp) (pp : Addr) (R : VK), Sm (tabs T) H2 H3 → H3 pp = some (.tup [.str "no", v]) → (∀ H4, Sm (tabs T) H2 H4 → R (.bl b) H4) → ∀ σ : L2.St, σ[4]? = some (some v) →
        tTup (tCons (tC (.str "no")) (tCons (tVar 4) tNil)) σ H3 fun y H4 => rSameT K b (.ref pp) y H4 R := fun b H3 pp R s3 hpp k σ h4 => by
      refine ⟨_, h4, by show 2 ≤ sizeLine; decide, fun p2 hp2 => ?_⟩
      have sp2 := same_upd (o := .tup [V.str "no", v]) hp2
      refine ⟨pp, p2, [.str "no", v], rfl, rfl, SqT.of (sp2 _ _ hpp), SqT.of upd_same, ?_, k _ (s3.ext sp2)⟩
      show (true && (plainV v && true)) = true
      rw [hv.plain]
      rfl
    refine np_step rfl rfl (Sm.refl tb) x1 (tf_no (by decide +kernel)) (fun H1 R E1 s1 k => ⟨x, z, rs, v, p, rfl, hx.sm s1, nd, PlV.sm hv s1 hp, fun r hr e => (rule r hr e).elim, fun _ => k⟩) fun H3 pp s3 hpp => ?_
    refine tup false H3 pp _ s3 hpp (fun H4 s4 => ⟨_, rfl, iteF ?_⟩) _ rfl
    refine np_step rfl rfl s4 x1 (tf_no (by decide +kernel)) (fun H1 R E1 s1 k => ⟨x, z, rs, v, p, rfl, hx.sm s1, nd, PlV.sm hv s1 hp, fun q hq e => ?_, fun _ => k⟩) fun H5 pp s5 hpp => ?_
    · obtain ⟨r, hr, rfl⟩ := List.mem_map.mp hq
      exact (rule r hr e).elim
    exact tup true H5 pp _ s5 hpp (fun H6 s6 => q _ s6) _ rfl
  | true =>
    refine iteF ?_
    refine nextS ?_
    dsimp only
    cases p with
    | none => cases hin
    | some pq =>
    obtain ⟨r, hr, rfl⟩ := inR_of hin
    cases (show v = .str (sw r.1) from hp)
    obtain ⟨i, hi⟩ := List.getElem?_of_mem hr
    have hos : (rs.map (·.1))[i]? = some r.1 := by rw [List.getElem?_map, hi]; rfl
    have hwi : (wsV (rs.map (·.1)))[i]? = some (.str (sw r.1)) := by rw [List.getElem?_map, hos]; rfl
    obtain ⟨w1, hw1, b, rfl, hb⟩ := paired_ix' pr hi
    have low := hx.low r hr
    refine ⟨_, rfl, _, rfl, .inl ⟨rfl, _, SqL.of ht⟩, _, rfl, t, _, _, i, _, rfl, rfl, SqL.of ht, rfl, wsV_flat _, hwi, by rw [eqV_sw, decide_eq_true rfl], fun k z' hk hz' => ?_, a, ws, _, _, rfl, rfl, SqL.of ha, atI_nat hw1, ?_⟩
    · rw [List.getElem?_map] at hz'
      obtain ⟨q', hq', rfl⟩ := Option.map_eq_some_iff.mp hz'
      rw [eqV_sw]
      refine decide_eq_false fun e => ?_
      rw [e] at hq'
      exact absurd (nd_ix nd hq' hos) (by omega)
    have val : ∀ (σ : L2.St) (R : VK), σ[0]? = some (some (.ref x)) → σ[4]? = some (some (.str (sw r.1))) → R (oV r.2.1) H2 → tMeth T.c_Tree "value_of" (spValueOf K T.c_Tree) [] E0 (tVar 0) (tCons (tVar 4) tNil) σ H2 R := fun σ R h0 h4 k =>
      ⟨_, h0, x, dx, _, rfl, x1, tf_no (by decide +kernel), _, h4, x, z, rs, _, some r.1, rfl, hx, nd, rfl, fun r' hr' e => by rw [nd_row nd hr hr' (Option.some.inj e)]; exact k, fun h => by rw [hin] at h; cases h⟩
    refine val _ _ rfl rfl ⟨_, rfl, b, _, _, _, rfl, rfl, SqT.of hb, atI_nat (j := 1) rfl, ?_⟩
    refine ⟨?_, _, rfl, ?_⟩
    · cases r.2.1 <;> rfl
    rw [decide_eq_true rfl]
    refine iteF ?_
    refine ⟨_, rfl, x, dx, _, rfl, x1, tf_no (by decide +kernel), _, rfl, x, z, rs, _, some r.1, rfl, hx, nd, rfl, fun r' hr' e u hu => ?_, fun h => by rw [hin] at h; cases h⟩
    have hrr := nd_row nd hr hr' (Option.some.inj e)
    subst hrr
    refine ⟨_, rfl, b, _, _, _, rfl, rfl, SqT.of hb, atI_nat (j := 0) rfl, _, rfl, b, _, _, _, rfl, rfl, SqT.of hb, atI_nat (j := 1) rfl, _, rfl, b, _, _, _, rfl, rfl, SqT.of hb, atI_nat (j := 2) rfl, ?_⟩
    refine ⟨u, r', r'.1, r'.2.1, r'.2.2, rfl, hu, low, low, fun H3 s3 => ⟨_, rfl, ?_⟩⟩
    rw [decide_eq_true rfl]
    refine iteF ?_
    -- below
    have hx3 := hx.same s3
    refine ⟨_, rfl, x, dx, _, rfl, s3 _ _ x1, tf_no (by decide +kernel), _, rfl, x, z, rs, _, some r'.1, rfl, hx3, nd, rfl, fun q' hq' e => ?_, fun h => by rw [hin] at h; cases h⟩
    cases Option.some.inj e
    have hlen := h200 r' hr
    refine ⟨⟨_, rfl⟩, _, rfl, _, rfl, fun D hD => ?_⟩
    refine lcF (walk_sgs z) yat (pr_sgs z) hD (fun _ _ => trivial) (by omega) (fun c => decide (r'.1 ++ [c] ∈ rs.map (·.1))) (fun c => .str (sw [c])) (fun y c H' R N hc e s k1 k2 => ?_) (fun H4 s4 hD4 => ?_)
    · subst e
      refine ⟨rfl, _, rfl, _, rfl, _, _, rfl, rfl, by rw [sw_len, sw_len, sizeLine_eq]; show _ + 1 ≤ _; omega, ?_⟩
      rw [sw_app]
      refine ⟨_, rfl, t, _, rfl, .inl (SqL.of (s _ _ (s3 _ _ ht))), rfl, wsV_flat _, _, rfl, ?_⟩
      rw [wsV_in]
      refine ite2 (fun h => ?_) (fun h => ?_)
      · exact ⟨_, rfl, k1 h⟩
      · exact k2 (by simpa using h)
    · have e1 : (z.filter fun c => decide (r'.1 ++ [c] ∈ rs.map (·.1))) = kids z (rs.map (·.1)) r'.1 := rfl
      rw [e1] at hD4
      have kl : (kids z (rs.map (·.1)) r'.1).length ≤ 26 := Nat.le_trans (List.length_filter_le _ _) h26
      refine ⟨_, D, (kids z (rs.map (·.1)) r'.1).map fun c => sw [c], rfl, rfl, .inl (SqL.of (by rw [hD4, List.map_map]; rfl)), ?_, rfl, ?_⟩
      · rw [sum_sgs, mt_eq, sw_len]
        show _ + _ * 0 ≤ _
        omega
      · rw [TL.join_eq, mt_eq, join_sgs]
        rw [decide_eq_true rfl]
        exact q _ ((Sm.of tb s3).ext s4)
end
end Toy
set_option Elab.async false
set_option linter.all false
set_option maxRecDepth 100000
set_option maxHeartbeats 4000000
namespace Toy
open PySem L2 Sh ShL LamX NdefX
/-! ### heaps -/
def Frs (H : Hp) (p : Addr) : Prop := ∀ b u, H b = some u → (∀ ps, u ≠ .tbl ps) → b ≠ p
section
variable {T : List (Addr × Str)} {H H1 : Hp} {p : Addr} {xs ys : List V}
theorem Sm.fresh (s : Sm T H H1) (n : H1 p = none) : Frs H p := fun b u h nt => ne_of_none (s.1 b u h nt) n
theorem Sm.putL (s : Sm T H H1) (f : Frs H p) (h : H1 p = some (.lst xs)) : Sm T H (upd H1 p (.lst ys)) :=
  ⟨fun b u hb nt => by rw [upd_ne (f b u hb nt)]; exact s.1 b u hb nt, tabs_put s.2 h (by intro ps z; cases z) (by intro c q z; unfold CodeO at z; cases z)⟩
theorem TreeAt.putL {C o : Addr} {z : Wd} {rs : List Rw} (t : TreeAt C H o z rs) (h : H p = some (.lst xs)) : TreeAt C (upd H p (.lst ys)) o z rs :=
  t.mono (fun _ _ _ _ q => by rw [upd_ne (ne_of q h (by intro z; cases z))]; exact q) (fun _ _ q => by rw [upd_ne (ne_of q h (by intro z; cases z))]; exact q) fun _ _ _ q => by rw [upd_ne (ne_of q h (by intro z; cases z))]; exact q
theorem RwT.putL {v : V} {r : Rw} (t : RwT H v r) (h : H p = some (.lst xs)) : RwT (upd H p (.lst ys)) v r := let ⟨a, e, q⟩ := t; ⟨a, e, by rw [upd_ne (ne_of q h (by intro z; cases z))]; exact q⟩
theorem KvT.putL {v : V} {r : Rw} (t : KvT H v r) (h : H p = some (.lst xs)) : KvT (upd H p (.lst ys)) v r := let ⟨a, e, q⟩ := t; ⟨a, e, by rw [upd_ne (ne_of q h (by intro z; cases z))]; exact q⟩
theorem KvT.sm {v : V} {r : Rw} (s : Sm T H H1) (t : KvT H v r) : KvT H1 v r := let ⟨a, e, q⟩ := t; ⟨a, e, s.get q⟩
theorem Frs.of (h : H p = none) : Frs H p := fun _ _ hb _ => ne_of_none hb h
end
/-! ### the kept words -/
def kits (rs : List Rw) : List (Wd × Int) := (kept rs).map fun r => (r.1, r.2.1.getD 0)
theorem kits_fst (rs : List Rw) : (kits rs).map (·.1) = (kept rs).map (·.1) := by
  unfold kits
  rw [List.map_map]
  rfl
theorem kept_nd {rs : List Rw} (h : (rs.map (·.1)).Nodup) : ((kept rs).map (·.1)).Nodup := h.sublist (List.filter_sublist.map _)
theorem mem_lookup' {l : List (Wd × Int)} {p : Wd} {n : Int} (nd : (l.map (·.1)).Nodup) (h : (p, n) ∈ l) : l.lookup p = some n := by
  induction l with
  | nil => cases h
  | cons it l ih =>
    obtain ⟨q, k⟩ := it
    rw [List.map_cons, List.nodup_cons] at nd
    rw [List.lookup_cons]
    rcases List.mem_cons.mp h with h | h
    · cases h
      rw [show (p == p) = true from by simp]
    · have : p ≠ q := fun e => nd.1 (by rw [← e]; exact List.mem_map.mpr ⟨_, h, rfl⟩)
      rw [show (p == q) = false from beq_eq_false_iff_ne.mpr this]
      exact ih nd.2 h
theorem lookup_perm {l l' : List (Wd × Int)} (nd : (l.map (·.1)).Nodup) (h : l.Perm l') (p : Wd) : l.lookup p = l'.lookup p := by
  have nd' : (l'.map (·.1)).Nodup := (h.map _).nodup_iff.mp nd
  cases e : l.lookup p with
  | some n => exact (mem_lookup' nd' (h.mem_iff.mp (lookup_mem e))).symm
  | none =>
    cases e' : l'.lookup p with
    | none => rfl
    | some n => rw [mem_lookup' nd (h.mem_iff.mpr (lookup_mem e'))] at e; cases e
theorem kept_perm {rs us : List Rw} (h : us.Perm rs) : (kept us).Perm (kept rs) := h.filter _
theorem kits_perm {rs us : List Rw} (h : us.Perm rs) : (kits us).Perm (kits rs) := (kept_perm h).map _
theorem filt_none {p : Wd} : ∀ {ks : List Rw}, p ∉ ks.map (·.1) → ks.filter (fun r => decide (r.1 = p)) = []
  | [], _ => rfl
  | r :: ks, h => by
    rw [List.map_cons, List.mem_cons] at h
    rw [List.filter_cons_of_neg (by simpa using fun e => h (.inl e.symm)), filt_none fun m => h (.inr m)]
theorem filt_look {p : Wd} : ∀ {ks : List Rw}, (∀ r ∈ ks, r.2.1.isSome = true) → (ks.map (·.1)).Nodup → (ks.filter fun r => decide (r.1 = p)).map (fun r => r.2.1) = ((ks.map fun r => (r.1, r.2.1.getD 0)).lookup p).toList.map some
  | [], _, _ => rfl
  | (q, o, f) :: ks, hs, nd => by
    rw [List.map_cons, List.nodup_cons] at nd
    have ih := filt_look (p := p) (ks := ks) (fun r hr => hs r (List.mem_cons_of_mem _ hr)) nd.2
    rw [List.map_cons, List.lookup_cons]
    by_cases h : q = p
    · subst h
      rw [List.filter_cons_of_pos (by simp), filt_none nd.1, show (q == (q, o.getD 0).1) = true from by simp]
      have := hs _ List.mem_cons_self
      cases o with
      | none => cases this
      | some n => rfl
    · rw [List.filter_cons_of_neg (by simpa using h), ih, show (p == ((q, o, f) : Rw).1) = false from beq_eq_false_iff_ne.mpr (Ne.symm h)]
def dueRows (z : Wd) (rs : List Rw) : List Rw := (ordW z (begs ((kits rs).map (·.1)))).map fun p => (p, (kits rs).lookup p, false)
theorem due_fst (z : Wd) (rs : List Rw) : (dueRows z rs).map (·.1) = ordW z (begs ((kits rs).map (·.1))) := by
  unfold dueRows
  rw [List.map_map]
  exact List.map_id _
theorem due_perm {z : Wd} {rs us : List Rw} (nd : (rs.map (·.1)).Nodup) (h : us.Perm rs) : (ofRows (kits us)).Perm (dueRows z rs) := by
  have hk := kits_perm h
  have ndu : ((kits us).map (·.1)).Nodup := by rw [kits_fst]; exact kept_nd ((h.map _).nodup_iff.mpr nd)
  unfold ofRows dueRows
  have e : (fun p => ((p, (kits us).lookup p, false) : Rw)) = fun p => (p, (kits rs).lookup p, false) := by
    funext p
    rw [lookup_perm ndu hk p]
  rw [e]
  refine List.Perm.map _ ?_
  exact (begs_perm fun p => (hk.map _).mem_iff).trans (ordW_perm z _).symm
theorem good_kits {z : Wd} {us rs : List Rw} (g : GoodUs z rs) (h : us.Perm rs) : GoodIt z (kits us) := by
  have cl : Clo (rs.map (·.1)) := by
    refine ⟨g.root, fun p hp n => ?_⟩
    have : ∀ k, ∀ p ∈ rs.map (·.1), p.take (p.length - k) ∈ rs.map (·.1) := by
      intro k
      induction k with
      | zero => intro p hp; rw [Nat.sub_zero, List.take_of_length_le (Nat.le_refl _)]; exact hp
      | succ k ih =>
        intro p hp
        have := g.par _ (ih p hp)
        rw [List.dropLast_eq_take, List.take_take, List.length_take] at this
        rw [show min (min (p.length - k) p.length - 1) (p.length - k) = p.length - (k + 1) by omega] at this
        exact this
    by_cases hn : n ≤ p.length
    · have := this (p.length - n) p hp
      rw [show p.length - (p.length - n) = n by omega] at this
      exact this
    · rw [List.take_of_length_le (by omega)]
      exact hp
  have mem : ∀ it ∈ kits us, ∃ r ∈ rs, r.1 = it.1 ∧ r.2.1 = some it.2 := fun it hit => by
    unfold kits at hit
    obtain ⟨r, hr, rfl⟩ := List.mem_map.mp hit
    obtain ⟨h1, h2⟩ := List.mem_filter.mp hr
    refine ⟨r, h.mem_iff.mp h1, rfl, ?_⟩
    cases e : r.2.1 with
    | none => rw [e] at h2; cases h2
    | some n => rfl
  refine ⟨fun it hit => ?_, ?_, ?_, rs.map (·.1), by rw [List.length_map]; exact g.len, cl, fun it hit => ?_⟩
  · obtain ⟨r, hr, e1, e2⟩ := mem it hit
    have := g.ok r hr
    rw [← e1]
    exact ⟨this.l200, this.wd, (this.vl _ e2).1, (this.vl _ e2).2⟩
  · rw [kits_fst]
    exact kept_nd ((h.map _).nodup_iff.mpr g.nd)
  · unfold kits kept
    rw [List.length_map]
    have h1 := List.length_filter_le (fun r : Rw => r.2.1.isSome) us
    have h2 := h.length_eq
    have := g.len
    omega
  · obtain ⟨r, hr, e1, _⟩ := mem it hit
    rw [← e1]
    exact List.mem_map.mpr ⟨r, hr, rfl⟩
theorem ods_dp {K : PySem.W.Frag} {H : Hp} : ∀ os : List (Option Int), DpAll K H (os.map oV) (os.map oD)
  | [] => .nil
  | o :: os => .cons (oV_dp o) (ods_dp os)
theorem ods_lay : ∀ os : List (Option Int), PyData.canLayAll0 (os.map oD) = true ∧ PyData.depthAll (os.map oD) ≤ 1
  | [] => ⟨rfl, by simp [PyData.depthAll]⟩
  | o :: os => by
    obtain ⟨h1, h2⟩ := ods_lay os
    refine ⟨by simp only [List.map_cons, PyData.canLayAll0, (oD_lay o).1, h1]; rfl, ?_⟩
    simp only [List.map_cons, PyData.depthAll, (oD_lay o).2]
    omega
theorem ods_shaped (os : List (Option Int)) : SeqAt.shaped (.list (os.map oD)) = true := by
  obtain ⟨h1, h2⟩ := ods_lay os
  exact shaped_of (by simp only [PyData.canLay0]; exact h1) (by simp only [PyData.depth]; omega)
theorem ods_eqv (os : List (Option Int)) : PyData.eqv (.list (os.map oD)) (.list []) = decide (os.length = 0) := by
  cases os <;> simp [PyData.eqv, PyData.eqvAll]
def spOfKept (T : List (Addr × Str)) : Sp := fun vs H Q _ => ∃ z a b ws ys rs us, vs = [.str (sw z), .ref a, .ref b] ∧ LetOk z ∧ H a = some (.lst ws) ∧ Paired (RwT H) ws rs ∧ H b = some (.lst ys) ∧ Paired (RwT H) ys us ∧ us.Perm rs ∧ GoodUs z rs ∧ rs.length ≤ 1000 ∧ Tabs T H ∧ ∀ H', Sm T H H' → Q (.bl true) H'
end Toy
set_option Elab.async false
set_option linter.all false
set_option maxRecDepth 100000
set_option maxHeartbeats 4000000
namespace Toy
open PySem L2 Sh ShL LamX NdefX
def LvL (H : Hp) (v : V) (r : Rw) : Prop := ∃ b n, v = .ref b ∧ r.2.1 = some n ∧ H b = some (.lst [.str (sw r.1), .int n])
def LvD (D : Addr) (H : Hp) (v : V) (r : Rw) : Prop := ∃ b n, v = .ref b ∧ r.2.1 = some n ∧ H b = some (.lst [.str (sw r.1), .int n]) ∧ b ≠ D
theorem LvD.same {D : Addr} {H H' : Hp} {v : V} {r : Rw} (s : Same H H') (h : LvD D H v r) : LvD D H' v r := let ⟨a, n, e, e2, h, ne⟩ := h; ⟨a, n, e, e2, s _ _ h, ne⟩
theorem LvD.l {D : Addr} {H : Hp} {v : V} {r : Rw} (h : LvD D H v r) : LvL H v r := let ⟨a, n, e, e2, h, _⟩ := h; ⟨a, n, e, e2, h⟩
theorem LvL.same {H H' : Hp} {v : V} {r : Rw} (s : Same H H') (h : LvL H v r) : LvL H' v r := let ⟨a, n, e, e2, h⟩ := h; ⟨a, n, e, e2, s _ _ h⟩
section
variable {P : Program} {w : World} {K : PySem.W.Frag} {mg : Str → Option Value} {base : Heap}
theorem ok_l_right_of_kept (T : Tx P K mg) (B : Bx T base) : FnOk P w K mg base CX0 8 T.a_l_right_of_kept T.fd_l_right_of_kept ["_law_letters_here", "_law_rows", "_law_shuffled_here"] (spOfKept (tabs T)) := by
  refine okT T.F_l_right_of_kept sc_l_right_of_kept (fun vs H Q E h => ?_) (fun cdv A outer s H vs Q E hcd hr h => ?_)
  · obtain ⟨z, a, b, ws, ys, rs, us, rfl, _⟩ := h
    rfl
  have hu := hu_of hr
  have hu65 := hu65_of hr
  obtain ⟨z, a, b, ws, ys, rs, us, rfl, hz, ha, pr, hb, pu, pm, gu, hl, tb, q⟩ := h
  have hwl := pr.length
  have hyl := pu.length
  have hul := pm.length_eq
  have gi := good_kits gu pm
  have girs := good_kits gu (List.Perm.refl rs)
  have hkl : (kept rs).length ≤ 1000 := by have := List.length_filter_le (fun r : Rw => r.2.1.isSome) rs; unfold kept; omega
  obtain ⟨ps, hpl, hpc, hpw⟩ := girs.ps
  have hkp : ∀ p ∈ (kept rs).map (·.1), p ∈ ps := fun p hp => by
    rw [← kits_fst] at hp
    obtain ⟨it, hit, rfl⟩ := List.mem_map.mp hp
    exact hpw it hit
  have hk2 : ∀ r ∈ kept rs, r.1.length ≤ 200 ∧ ∀ c ∈ r.1, c ∈ z := fun r hr => by
    have := gu.ok r (List.mem_filter.mp hr).1
    exact ⟨this.l200, this.wd⟩
  refine ⟨_, (pss_cons (ps_setLc (i := 3) (own := [("_law_row_here", 13)]) (g := gName 13) rfl sc_l_right_of_kept.nd rfl rfl (sw_true rfl rfl rfl (by decide +kernel)) (pi_list (pv 1)) (blkOk_by (own := [("_law_row_here", 13)]) (N := N_l_right_of_kept) (sc := defScope s_l_right_of_kept) (by decide +kernel)) (fun _ _ _ _ _ => (pg_name (i := 13) sc_l_right_of_kept.nd rfl (by first | exact Or.inl rfl | exact Or.inr rfl))) (fun _ _ _ _ _ => (pts_one (pt_cmpR op_notN (pe_ix (by exact ix_tup : IxR _ (rIxT K)) (pv 13) pe_int (fun _ _ => rfl)) pe_non (nomark _)))) (fun _ _ _ _ _ => (pe_tup (pa_cons (pe_ix (by exact ix_tup : IxR _ (rIxT K)) (pv 13) pe_int (fun _ _ => rfl)) (pa_cons (pe_ix (by exact ix_tup : IxR _ (rIxT K)) (pv 13) pe_int (fun _ _ => rfl)) pa_nil)))))
 (pss_cons (ps_set (i := 4) sc_l_right_of_kept.nd rfl (by first | exact Or.inl rfl | exact Or.inr rfl) (pe_lst (pa_cons pe_str pa_nil)))
 (pss_cons (ps_for PassesOwn.never rfl (pi_list (pv 3)) (pg_tup rfl (pgs_cons (pg_name (i := 5) sc_l_right_of_kept.nd rfl (by first | exact Or.inl rfl | exact Or.inr rfl)) (pgs_cons (pg_name (i := 6) sc_l_right_of_kept.nd rfl (by first | exact Or.inl rfl | exact Or.inr rfl)) pgs_nil)))
 (pss_one (ps_for PassesOwn.never rfl (pi_range1 (by rfl) T.b_range (pa_cons (pe_callB call_len_str (by rfl) T.b_len (by decide +kernel) (pa_cons (pv 5) pa_nil)) pa_nil)) (pg_name (i := 7) sc_l_right_of_kept.nd rfl (by first | exact Or.inl rfl | exact Or.inr rfl))
 (pss_cons (ps_if (pt_cmpR op_in_seq (pe_slice sl_str (pv 5) po_none (po_some (pe_op op_sub (pe_callB call_len_str (by rfl) T.b_len (by decide +kernel) (pa_cons (pv 5) pa_nil)) (pv 7)))) (pv 4) (by rfl))
 (pss_one ps_break)
 pss_nil)
 (pss_one (ps_expr (pe_bm PySem.F.plainAttrs_list PySem.F.slot_list_append PySem.F.type_list_append mt_append (pv 4) (pa_cons (pe_slice sl_str (pv 5) po_none (po_some (pe_op op_sub (pe_callB call_len_str (by rfl) T.b_len (by decide +kernel) (pa_cons (pv 5) pa_nil)) (pv 7)))) pa_nil))))))))
 (pss_cons (ps_set (i := 8) sc_l_right_of_kept.nd rfl (by first | exact Or.inl rfl | exact Or.inr rfl) (pe_lst pa_nil))
 (pss_cons (ps_for PassesOwn.never rfl (pi_list (pe_call (ok_l_ordered T B) (hr.mono (by decide)) (by rfl) T.m_l_ordered T.F_l_ordered.kp T.bi_l_ordered .nil pass0 (pa_cons (pv 0) (pa_cons (pv 4) pa_nil)))) (pg_name (i := 9) sc_l_right_of_kept.nd rfl (by first | exact Or.inl rfl | exact Or.inr rfl))
 (pss_cons (ps_setLc (i := 10) (own := [("_law_word", 5), ("_law_value", 6)]) (g := gTup K 2 (gCons (gName 5) (gCons (gName 6) gNil))) rfl sc_l_right_of_kept.nd rfl rfl (sw_true rfl rfl rfl (by decide +kernel)) (pi_list (pv 3)) (blkOk_by (own := [("_law_word", 5), ("_law_value", 6)]) (N := N_l_right_of_kept) (sc := defScope s_l_right_of_kept) (by decide +kernel)) (fun _ _ _ _ _ => (pg_tup rfl (pgs_cons (pg_name (i := 5) sc_l_right_of_kept.nd rfl (by first | exact Or.inl rfl | exact Or.inr rfl)) (pgs_cons (pg_name (i := 6) sc_l_right_of_kept.nd rfl (by first | exact Or.inl rfl | exact Or.inr rfl)) pgs_nil)))) (fun _ _ _ _ _ => (pts_one (pt_cmpR op_eq (pv 5) (pv 9) (nomark _)))) (fun _ _ _ _ _ => (pv 6)))
 (pss_one (ps_expr (pe_bm PySem.F.plainAttrs_list PySem.F.slot_list_append PySem.F.type_list_append mt_append (pv 8) (pa_cons (pe_tup (pa_cons (pv 9) (pa_cons (pe_ifExp (pt_cmpR (op_neD hr.units) (pv 10) (pe_lst pa_nil) (nomark _)) (pe_ix ix_list (pv 10) pe_int (fun _ _ => rfl)) pe_non) (pa_cons pe_bl pa_nil)))) pa_nil))))))
 (pss_cons (ps_setLc (i := 11) (own := [("_law_row_here", 13)]) (g := gName 13) rfl sc_l_right_of_kept.nd rfl rfl (sw_true rfl rfl rfl (by decide +kernel)) (pi_list (pv 2)) (blkOk_by (own := [("_law_row_here", 13)]) (N := N_l_right_of_kept) (sc := defScope s_l_right_of_kept) (by decide +kernel)) (fun _ _ _ _ _ => (pg_name (i := 13) sc_l_right_of_kept.nd rfl (by first | exact Or.inl rfl | exact Or.inr rfl))) (fun _ _ _ _ _ => (pts_one (pt_cmpR op_notN (pe_ix (by exact ix_tup : IxR _ (rIxT K)) (pv 13) pe_int (fun _ _ => rfl)) pe_non (nomark _)))) (fun _ _ _ _ _ => (pe_lst (pa_cons (pe_ix (by exact ix_tup : IxR _ (rIxT K)) (pv 13) pe_int (fun _ _ => rfl)) (pa_cons (pe_ix (by exact ix_tup : IxR _ (rIxT K)) (pv 13) pe_int (fun _ _ => rfl)) pa_nil)))))
 (pss_cons (ps_set (i := 12) sc_l_right_of_kept.nd rfl (by first | exact Or.inl rfl | exact Or.inr rfl) (ClX.pe_cmeth (pe_glob (v := .ref T.c_Tree) (by rfl) T.m_Tree rfl) T.cr_Tree T.cm_Tree_of (fnR_of (ok_Tree_of T B) T.bi_Tree_of) (hr.mono (by decide)) pass0 (pa_cons (pv 0) (pa_cons (pv 11) pa_nil)) (ht := ht_line (by rfl) (by rfl) (by rfl))))
 (pss_cons (ps_expr (pe_bm PySem.F.plainAttrs_list PySem.F.slot_list_append PySem.F.type_list_append mt_append (pv 11) (pa_cons pe_non pa_nil)))
 (pss_one (ps_ret (pe_call (ok_l_right_told T B) (hr.mono (by decide)) (by rfl) T.m_l_right_told T.F_l_right_told.kp T.bi_l_right_told .nil pass0 (pa_cons (pv 12) (pa_cons (pv 0) (pa_cons (pv 8) pa_nil)))))))))))))), ?_⟩
  -- kept
  refine asgS (fun v H3 => ∃ kp acc, v = .ref kp ∧ Same H H3 ∧ H3 kp = some (.lst acc) ∧ Paired (KvT H3) acc (kept rs)) (fun R hR => ?_) (fun v H1 ⟨kp, kacc, e1, s1, hkpl, pk⟩ => ?_)
  · refine ⟨_, rfl, a, rfl, ⟨_, SqL.of ha⟩, fun D3 hDn3 => ?_⟩
    refine lcG (walk_list (K := K) (a := a) (xs := ws)) yat pr (fun _ H' => Same H H') (same_upd hDn3) (fun _ H' acc s' => same_of_new s' hDn3) (fun i H' _ s' => SqL.of (s' _ _ ha)) (by omega) (fun r => r.2.1.isSome) KvT (fun H' acc acc' v u hD2 h => ?_) (fun i x u H' acc R' N hu hr s' hD2 k1 k2 => ?_) (fun H' acc s' hD2 pr => hR _ _ ⟨D3, acc, rfl, s', hD2, pr⟩)
    · obtain ⟨b, e1, h⟩ := h
      exact ⟨b, e1, by rw [upd_ne (ne_of h hD2 (by intro z; cases z))]; exact h⟩
    · obtain ⟨b, rfl, hb⟩ := hr
      have hb' := s' _ _ hb
      refine ⟨rfl, _, rfl, b, _, _, _, rfl, rfl, SqT.of hb', atI_nat (j := 1) rfl, rfl, _, rfl, ?_⟩
      obtain ⟨p, o, f⟩ := u
      cases o with
      | none =>
        refine ite2 (fun h => by cases h) (fun _ => ?_)
        exact k2 rfl _ s' hD2 fun _ _ h => h
      | some i =>
        refine ite2 (fun _ => ?_) (fun h => absurd rfl h)
        refine ⟨_, rfl, b, _, _, _, rfl, rfl, SqT.of hb', atI_nat (j := 0) rfl, _, rfl, b, _, _, _, rfl, rfl, SqT.of hb', atI_nat (j := 1) rfl, by show 2 ≤ sizeLine; decide, fun g hg => ?_⟩
        have sb := same_upd (o := .tup [.str (sw p), .int i]) hg
        exact k1 rfl _ _ (s'.trans sb) (sb _ _ hD2) (fun _ _ h => h.same sb) ⟨g, rfl, upd_same⟩
  subst e1
  -- there
  refine ⟨by show 1 ≤ sizeLine; decide, fun th hth => ?_⟩
  have s2 := same_upd (o := .lst [V.str ("" : Str)]) hth
  have hth2 : (upd H1 th (.lst [V.str ("" : Str)])) th = some (.lst (wsV [[]])) := by rw [upd_same, mt_eq]; rfl
  have th0 : H th = none := by
    cases e : H th with
    | none => rfl
    | some u => rw [s1 _ _ e] at hth; cases hth
  have nkt : kp ≠ th := ne_of_none hkpl hth
  have sA := s1.trans s2
  have hkp2 := s2 _ _ hkpl
  have pk2 := paired_mono (fun _ _ h => KvT.same s2 h) pk
  generalize upd H1 th (.lst [V.str ("" : Str)]) = H2 at s2 hth2 sA hkp2 pk2
  have hkal := pk2.length
  refine ⟨_, rfl, kp, rfl, ⟨_, SqL.of hkp2⟩, ?_⟩
  refine for_it (walk_list (K := K) (a := kp) (xs := kacc)) (fun i σ H3 => ∃ v5 v6 v7, σ = [some (.str (sw z)), some (.ref a), some (.ref b), some (.ref kp), some (.ref th), v5, v6, v7, none, none, none, none, none, none] ∧ Same H H3 ∧ H3 kp = some (.lst kacc) ∧ Paired (KvT H3) kacc (kept rs) ∧
      H3 th = some (.lst (wsV (begs (((kept rs).take i).map (·.1))))))
    ⟨_, _, _, rfl, sA, hkp2, pk2, hth2⟩ (fun i σ H3 _ ⟨_, _, _, _, _, h, _⟩ => SqL.of h) (fun i x σ H3 H4 hi ⟨v5, v6, v7, e, s3, hk3, pk3, ht3⟩ y => ?_) (fun σ H3 ⟨v5, v6, v7, e, s3, hk3, pk3, ht3⟩ => ?_)
  · obtain ⟨rfl, hx⟩ := y
    subst e
    obtain ⟨r, hr2, g, rfl, hg⟩ := paired_ix pk3 hx
    have hrm := List.mem_of_getElem? hr2
    have hp200 := (hk2 r hrm).1
    have hzl : (sw r.1).length ≤ sizeLine := by rw [sw_len, sizeLine_eq]; omega
    refine ⟨g, _, rfl, SqT.of hg, rfl, _, _, rfl, _, _, rfl, rfl, ?_⟩
    refine ⟨_, rfl, _, rfl, hzl, _, rfl, by omega, by rw [sw_len]; omega, ?_⟩
    rw [sw_len]
    generalize hcur : begs (((kept rs).take i).map (·.1)) = cur at ht3
    have hnext : begs (((kept rs).take (i + 1)).map (·.1)) = addW cur r.1 r.1.length := by
      rw [List.take_add_one, hr2, List.map_append]
      unfold begs
      rw [List.foldl_append]
      unfold begs at hcur
      rw [hcur]
      rfl
    have hcn : cur.Nodup := by rw [← hcur]; exact begs_nd _
    have hcs : ∀ q ∈ cur, q ∈ ps := by
      rw [← hcur]
      exact begs_sub hpc fun w hw => by
        obtain ⟨r', hr', rfl⟩ := List.mem_map.mp hw
        exact hkp _ (List.mem_map.mpr ⟨r', List.mem_of_mem_take hr', rfl⟩)
    rw [show ((r.1.length : Int)).toNat = r.1.length by omega]
    refine for_range (fun k σ H5 => ∃ v7 now, σ = [some (.str (sw z)), some (.ref a), some (.ref b), some (.ref kp), some (.ref th), some (.str (sw r.1)), some (oV r.2.1), v7, none, none, none, none, none, none] ∧ Same H H5 ∧ H5 kp = some (.lst kacc) ∧ Paired (KvT H5) kacc (kept rs) ∧
        H5 th = some (.lst (wsV now)) ∧ addW now r.1 (r.1.length - k) = addW cur r.1 r.1.length ∧ now.Nodup ∧ ∀ q ∈ now, q ∈ ps)
      ⟨_, cur, rfl, s3, hk3, pk3, ht3, rfl, hcn, hcs⟩ (fun k σ H5 hk ⟨v7, now, e, s5, hk5, pk5, ht5, en, nn, ns⟩ => ?_) (fun σ H5 ⟨v7, now, e, s5, hk5, pk5, ht5, en, nn, ns⟩ => ?_)
    · subst e
      obtain ⟨n, hn⟩ : ∃ n, r.1.length - k = n + 1 := ⟨r.1.length - k - 1, by omega⟩
      have hcut : cutS (sw r.1) none (some (((sw r.1).length : Int) - (0 + (k : Int)))) = sw (r.1.take (n + 1)) := by
        rw [sw_len, show (r.1.length : Int) - (0 + (k : Int)) = ((n + 1 : Nat) : Int) by omega]
        exact cut_to r.1 (n + 1)
      have hnl : now.length ≤ 2000 := Nat.le_trans (nd_len nn ns) hpl
      refine ⟨_, rfl, _, rfl, _, rfl, hzl, _, rfl, _, _, rfl, rfl, _, rfl, _, rfl, hzl, ?_⟩
      rw [hcut]
      refine ⟨_, rfl, th, _, rfl, .inl (SqL.of ht5), rfl, wsV_flat _, _, rfl, ?_⟩
      rw [wsV_in]
      rw [hn, addW_succ] at en
      refine ite2 (fun hm => ?_) (fun hm => ?_)
      · rw [if_pos (of_decide_eq_true hm)] at en
        exact ⟨_, _, _, rfl, s5, hk5, pk5, by rw [hnext, ← en]; exact ht5⟩
      · have hm' := fun z => hm (decide_eq_true z)
        rw [if_neg hm'] at en
        refine ⟨_, rfl, .inl ⟨rfl, _, SqL.of ht5⟩, ?_⟩
        refine ⟨_, rfl, _, rfl, _, rfl, hzl, _, rfl, _, _, rfl, rfl, _, rfl, _, rfl, hzl, ?_⟩
        rw [hcut]
        refine ⟨th, _, _, rfl, rfl, ht5, by rw [List.length_map, sizeLine_eq]; omega, ?_⟩
        refine ⟨_, now ++ [r.1.take (n + 1)], rfl, same_of_new s5 th0, by rw [upd_ne nkt]; exact hk5, paired_mono (fun _ _ h => KvT.putL h ht5) pk5, ?_, ?_, ?_, ?_⟩
        · rw [upd_same]
          unfold wsV
          rw [List.map_append]
          rfl
        · rw [show r.1.length - (k + 1) = n by omega]
          exact en
        · refine List.nodup_append.mpr ⟨nn, by simp, fun x hx y hy => ?_⟩
          rw [List.mem_singleton.mp hy]
          exact fun z => hm' (by rw [← z]; exact hx)
        · intro x hx
          rcases List.mem_append.mp hx with hx | hx
          · exact ns x hx
          · rw [List.mem_singleton.mp hx]
            exact hpc.2 _ (hkp _ (List.mem_map.mpr ⟨r, hrm, rfl⟩)) _
    · subst e
      rw [Nat.sub_self] at en
      exact ⟨_, _, _, rfl, s5, hk5, pk5, by rw [hnext, ← en]; exact ht5⟩
  subst e
  rw [hkal, List.take_of_length_le (Nat.le_refl _), ← kits_fst] at ht3
  -- due
  refine ⟨Nat.zero_le _, fun du hdu => ?_⟩
  have s4 := same_upd (o := .lst []) hdu
  have hdu4 : (upd H3 du (.lst [])) du = some (.lst []) := upd_same
  have sB : Same H (upd H3 du (.lst [])) := s3.trans s4
  have nku : kp ≠ du := ne_of_none hk3 hdu
  have fdu : Frs H du := Sm.fresh (Sm.of tb s3) hdu
  have hk4 := s4 _ _ hk3
  have ht4 := s4 _ _ ht3
  have pk4 := paired_mono (fun _ _ h => KvT.same s4 h) pk3
  generalize upd H3 du (.lst []) = H4 at sB hdu4 hk4 ht4 pk4
  have hbw : ∀ p ∈ begs ((kits rs).map (·.1)), p.length ≤ 200 ∧ ∀ c ∈ p, c ∈ z := fun p hp => by
    have := girs.us.ok (p, (kits rs).lookup p, false) (List.mem_map.mpr ⟨p, hp, rfl⟩)
    exact ⟨this.l200, this.wd⟩
  have hbw' : ∀ p ∈ begs ((kits rs).map (·.1)), ∀ c ∈ p, c ∈ z := fun p hp => (hbw p hp).2
  refine ⟨_, rfl, _, rfl, z, th, _, rfl, SqL.of ht4, hbw, tb.ext sB, fun H5 ol s5 hol => ⟨ol, rfl, ⟨_, SqL.of hol⟩, ?_⟩⟩
  have hk5 := s5.get hk4
  have hdu5 := s5.get hdu4
  have pk5 := paired_mono (fun _ _ h => KvT.sm s5 h) pk4
  have smB : Sm (tabs T) H H5 := (Sm.of tb sB).trans s5
  have nou : ol ≠ du := ne_of hol hdu5 (fun z => by
    have h1 := congrArg List.length (HO.lst.inj z)
    rw [List.length_map, ordW_len] at h1
    have h2 := List.length_pos_of_mem (begs_clo ((kits rs).map (·.1))).1
    rw [h1] at h2
    exact absurd h2 (by decide))
  generalize hos : ordW z (begs ((kits rs).map (·.1))) = os at hol
  have hosl : os.length ≤ 2000 := by
    rw [← hos, ordW_len]
    exact Nat.le_trans (nd_len (begs_nd _) (begs_sub hpc fun w hw => hkp w (by rw [← kits_fst]; exact hw))) hpl
  have hdr : dueRows z rs = os.map fun p => (p, (kits rs).lookup p, false) := by rw [← hos]; rfl
  refine for_it (walk_list (K := K) (a := ol) (xs := wsV os)) (fun i σ H6 => ∃ v9 v10, σ = [some (.str (sw z)), some (.ref a), some (.ref b), some (.ref kp), some (.ref th), v5, v6, v7, some (.ref du), v9, v10, none, none, none] ∧ Sm (tabs T) H H6 ∧ H6 kp = some (.lst kacc) ∧ Paired (KvT H6) kacc (kept rs) ∧
      H6 ol = some (.lst (wsV os)) ∧ ∃ dacc, H6 du = some (.lst dacc) ∧ Paired (RwT H6) dacc ((dueRows z rs).take i))
    ⟨_, _, rfl, smB, hk5, pk5, hol, [], hdu5, by rw [List.take_zero]; exact .nil⟩ (fun i σ H6 _ ⟨_, _, _, _, _, _, h, _⟩ => SqL.of h) (fun i x σ H6 H7 hi ⟨v9, v10, e, s6, hk6, pk6, ho6, dacc, hd6, pd6⟩ y => ?_) (fun σ H6 ⟨v9, v10, e, s6, hk6, pk6, ho6, dacc, hd6, pd6⟩ => ?_)
  · obtain ⟨rfl, hx⟩ := y
    subst e
    rw [List.getElem?_map] at hx
    obtain ⟨p, hp, rfl⟩ := Option.map_eq_some_iff.mp hx
    have hdi : (dueRows z rs)[i]? = some (p, (kits rs).lookup p, false) := by rw [hdr, List.getElem?_map, hp]; rfl
    have hil := (List.getElem?_eq_some_iff.mp hp).1
    have hdl := pd6.length
    rw [List.length_take] at hdl
    refine ⟨_, rfl, kp, rfl, ⟨_, SqL.of hk6⟩, fun D hD => ?_⟩
    refine lcF (walk_list (K := K) (a := kp) (xs := kacc)) yat pk6 hD (fun H' s' => SqL.of (s' _ _ hk6)) (by omega) (fun r => decide (r.1 = p)) (fun r => oV r.2.1) (fun v r H' R N hr hv s' k1 k2 => ?_) (fun H8 s8 hD8 => ?_)
    · obtain ⟨g, rfl, hg⟩ := hv
      refine ⟨g, _, rfl, SqT.of (s' _ _ hg), rfl, _, _, rfl, _, _, rfl, rfl, rfl, _, rfl, _, rfl, rfl, _, rfl, ?_⟩
      rw [sw_dec]
      refine ite2 (fun h => ?_) (fun h => ?_)
      · exact ⟨_, rfl, k1 h⟩
      · exact k2 (by simpa using h)
    have hfl : ((kept rs).filter fun r => decide (r.1 = p)).map (fun r => oV r.2.1) = ((kits rs).lookup p).toList.map fun n => V.int n := by
      have := congrArg (List.map oV) (filt_look (p := p) (ks := kept rs) (fun r hr => (List.mem_filter.mp hr).2) (kept_nd gu.nd))
      rw [List.map_map, List.map_map] at this
      exact this
    rw [hfl] at hD8
    have s68 := s6.ext s8
    have hd8 := s8 _ _ hd6
    have hk8 := s8 _ _ hk6
    have ho8 := s8 _ _ ho6
    have pk8 := paired_mono (fun _ _ h => KvT.same s8 h) pk6
    have pd8 := paired_mono (fun _ _ h => RwT.same s8 h) pd6
    have fin : ∀ (H9 : Hp) (t : Addr) (vs0 : List V), vs0 = rwVs (p, (kits rs).lookup p, false) → Same H8 H9 → H9 t = none → ∀ R : VK, (∀ H10, Sm (tabs T) H H10 → H10 kp = some (.lst kacc) → Paired (KvT H10) kacc (kept rs) → H10 ol = some (.lst (wsV os)) → (∃ dacc, H10 du = some (.lst dacc) ∧ Paired (RwT H10) dacc ((dueRows z rs).take (i + 1))) → R .non H10) →
        rAppend (.ref du) [.ref t] (upd H9 t (.tup vs0)) R := fun H9 t vs0 hvs s9 ht9 R k => by
      subst hvs
      have s10 := same_upd (o := .tup (rwVs (p, (kits rs).lookup p, false))) ht9
      have hd10 := s10 _ _ (s9 _ _ hd8)
      have ht10 : (upd H9 t (.tup (rwVs (p, (kits rs).lookup p, false)))) t = some (.tup (rwVs (p, (kits rs).lookup p, false))) := upd_same
      have sAll : Same H8 (upd H9 t (.tup (rwVs (p, (kits rs).lookup p, false)))) := s9.trans s10
      generalize upd H9 t (.tup (rwVs (p, (kits rs).lookup p, false))) = H10 at hd10 ht10 sAll
      refine ⟨du, dacc, _, rfl, rfl, hd10, by rw [hdl, sizeLine_eq]; omega, k _ (Sm.putL (s68.ext sAll) fdu hd10) (by rw [upd_ne nku]; exact sAll _ _ hk8) (paired_mono (fun _ _ h => (KvT.same sAll h).putL hd10) pk8) (by rw [upd_ne nou]; exact sAll _ _ ho8) ⟨_, upd_same, ?_⟩⟩
      rw [List.take_add_one, hdi]
      exact paired_app (paired_mono (fun _ _ h => (RwT.same sAll h).putL hd10) pd8) (.cons (RwT.putL ⟨t, rfl, ht10⟩ hd10) .nil)
    refine ⟨_, rfl, .inl ⟨rfl, _, SqL.of hd8⟩, _, rfl, ?_⟩
    refine ⟨_, rfl, Nat.zero_le _, fun el hel => ?_⟩
    have s9 := same_upd (o := .lst []) hel
    have hD9 := s9 _ _ hD8
    have hel9 : (upd H8 el (.lst [])) el = some (.lst []) := upd_same
    generalize upd H8 el (.lst []) = H9 at s9 hD9 hel9
    have hcase : ((kits rs).lookup p).toList.map (fun n => V.int n) = ((kits rs).lookup p).toList.map (fun n => oV (some n)) := rfl
    refine ⟨_, _, .lst (SqL.of hD9) (ods_dp (((kits rs).lookup p).toList.map some) |> fun h => by rw [List.map_map] at h; exact h), .lst (SqL.of hel9) .nil, ods_shaped (((kits rs).lookup p).toList.map some), by decide +kernel, _, rfl, ?_⟩
    rw [ods_eqv]
    cases hlk : (kits rs).lookup p with
    | none =>
      refine iteF ?_
      refine ⟨by show 3 ≤ sizeLine; decide, fun t ht => ?_⟩
      dsimp only [tNil]
      refine fin H9 t [V.str (sw p), .non, .bl false] (by rw [hlk]; rfl) s9 ht _ fun H10 a1 a2 a3 a4 a5 => ?_
      exact ⟨_, _, rfl, a1, a2, a3, a4, a5⟩
    | some n =>
      rw [hlk] at hD9
      refine iteT ?_
      refine ⟨_, rfl, D, _, _, V.int n, rfl, rfl, SqL.of hD9, atI_nat (j := 0) rfl, by show 3 ≤ sizeLine; decide, fun t ht => ?_⟩
      dsimp only [tNil]
      refine fin H9 t [V.str (sw p), .int n, .bl false] (by rw [hlk]; rfl) s9 ht _ fun H10 a1 a2 a3 a4 a5 => ?_
      exact ⟨_, _, rfl, a1, a2, a3, a4, a5⟩
  subst e
  have hdl2 : (dueRows z rs).length = os.length := by rw [hdr, List.length_map]
  rw [List.length_map, ← hdl2, List.take_of_length_le (Nat.le_refl _)] at pd6
  -- items
  dsimp only
  refine asgS (fun v H7 => ∃ il acc, v = .ref il ∧ Sm (tabs T) H H7 ∧ Same H6 H7 ∧ H7 il = some (.lst acc) ∧ Paired (LvL H7) acc (kept us) ∧ H6 il = none) (fun R hR => ?_) (fun v H7 ⟨il, iacc, e1, s7, s67, hil, pi, nil6⟩ => ?_)
  · have hb6 := s6.get hb
    have pu6 := paired_mono (fun _ _ h => RwT.sm s6 h) pu
    refine ⟨_, rfl, b, rfl, ⟨_, SqL.of hb6⟩, fun D hD => ?_⟩
    refine lcG (walk_list (K := K) (a := b) (xs := ys)) yat pu6 (fun _ H' => Same H6 H') (same_upd hD) (fun _ H' acc s' => same_of_new s' hD) (fun i H' _ s' => SqL.of (s' _ _ hb6)) (by omega) (fun r => r.2.1.isSome) (LvD D) (fun H' acc acc' v u hD2 h => ?_) (fun i x u H' acc R' N hu hr s' hD2 k1 k2 => ?_) (fun H' acc s' hD2 pr => hR _ _ ⟨D, acc, rfl, s6.ext s', s', hD2, paired_mono (fun _ _ h => LvD.l h) pr, hD⟩)
    · obtain ⟨g, n, e1, e2, h, ne⟩ := h
      exact ⟨g, n, e1, e2, by rw [upd_ne ne]; exact h, ne⟩
    · obtain ⟨g, rfl, hg⟩ := hr
      have hg' := s' _ _ hg
      refine ⟨rfl, _, rfl, g, _, _, _, rfl, rfl, SqT.of hg', atI_nat (j := 1) rfl, rfl, _, rfl, ?_⟩
      obtain ⟨p, o, f⟩ := u
      cases o with
      | none =>
        refine ite2 (fun h => by cases h) (fun _ => ?_)
        exact k2 rfl _ s' hD2 fun _ _ h => h
      | some i =>
        refine ite2 (fun _ => ?_) (fun h => absurd rfl h)
        refine ⟨_, rfl, g, _, _, _, rfl, rfl, SqT.of hg', atI_nat (j := 0) rfl, _, rfl, g, _, _, _, rfl, rfl, SqT.of hg', atI_nat (j := 1) rfl, by show 2 ≤ sizeLine; decide, fun h hh => ?_⟩
        have sb := same_upd (o := .lst [.str (sw p), .int i]) hh
        exact k1 rfl _ _ (s'.trans sb) (sb _ _ hD2) (fun _ _ h => LvD.same sb h) ⟨h, i, rfl, rfl, upd_same, fun z => by rw [z, hD2] at hh; cases hh⟩
  subst e1
  have pi2 : Paired (ItE H7) iacc (kits us) := paired_map (f := fun r => (r.1, r.2.1.getD 0)) (fun v r ⟨g, n, e1, e2, h⟩ => ⟨g, e1, by rw [e2]; exact h⟩) pi
  have hd7 := s67 _ _ hd6
  have pd7 := paired_mono (fun _ _ h => RwT.same s67 h) pd6
  have ndi : du ≠ il := ne_of_none hd6 nil6
  have fil : Frs H il := Sm.fresh s6 nil6
  refine ⟨rfl, _, rfl, _, rfl, il, z, iacc, kits us, dueRows z rs, rfl, hz, hil, pi2, gi, due_perm gu.nd pm, ?_, s7.2, fun H8 o s8 to => ?_⟩
  · rw [due_fst]
    exact ordW_uniq ((begs_perm fun p => ((kits_perm pm).map _).mem_iff).symm) hbw' 
  refine ⟨_, rfl, .inl ⟨rfl, _, SqL.of (s8.get hil)⟩, il, _, _, rfl, rfl, s8.get hil, ?_, ?_⟩
  · have := pi.length
    have h1 := List.length_filter_le (fun r : Rw => r.2.1.isSome) us
    unfold kept at this
    rw [sizeLine_eq]
    omega
  have hil8 := s8.get hil
  have s9 : Sm (tabs T) H (upd H8 il (.lst (iacc ++ [.non]))) := Sm.putL (s7.trans s8) fil hil8
  refine ⟨_, rfl, _, rfl, _, rfl, o, z, du, _, dueRows z rs, rfl, TreeAt.putL to hil8, by rw [upd_ne ndi]; exact s8.get hd7, paired_mono (fun _ _ h => (RwT.sm s8 h).putL hil8) pd7, by omega, fun r hr => ?_, fun H10 s10 => q _ (s9.ext s10)⟩
  rw [hdr] at hr
  obtain ⟨p, hp, rfl⟩ := List.mem_map.mp hr
  rw [← hos] at hp
  exact (hbw p (ordW_mem.mp hp)).1
end
end Toy
set_option Elab.async false
set_option linter.all false
set_option maxRecDepth 100000
set_option maxHeartbeats 4000000
namespace Toy
open PySem L2 Sh ShL LamX NdefX
/-! ### the same with one thing changed -/
structure Chg (z : Wd) (rs : List Rw) (z' : Wd) (us : List Rw) : Prop where
  lz : LetOk z'
  gu : GoodUs z' us
  ne : ∀ rs', us.Perm rs' → rs'.map (·.1) = ordW z' (us.map (·.1)) → ¬ (z = z' ∧ rs = rs')
theorem mem_rw {rs : List Rw} {r r' : Rw} (nd : (rs.map (·.1)).Nodup) (h : r ∈ rs) (h' : r' ∈ rs) (e : r'.1 = r.1) : r' = r := nd_row nd h h' e.symm
theorem set_fst {rs : List Rw} {i : Nat} {r r' : Rw} (h : rs[i]? = some r) (e : r'.1 = r.1) : (rs.take i ++ [r'] ++ rs.drop (i + 1)).map (·.1) = rs.map (·.1) := by
  have h1 := List.getElem?_eq_some_iff.mp h
  have : rs.drop i = r :: rs.drop (i + 1) := by
    rw [List.drop_eq_getElem_cons h1.1, h1.2]
  conv => rhs; rw [← List.take_append_drop i rs, this]
  simp [e]
theorem chg_set {z : Wd} {rs : List Rw} {i : Nat} {r r' : Rw} (lz : LetOk z) (g : GoodUs z rs) (h : rs[i]? = some r) (e : r'.1 = r.1) (ok : RwOk z r') (ne : r' ≠ r) : Chg z rs z (rs.take i ++ [r'] ++ rs.drop (i + 1)) := by
  have hf := set_fst h e
  have hm := List.mem_of_getElem? h
  have hi := (List.getElem?_eq_some_iff.mp h).1
  refine ⟨lz, ⟨fun x hx => ?_, by rw [hf]; exact g.nd, by rw [hf]; exact g.root, by rw [hf]; exact g.par, ?_⟩, fun rs' pm od ⟨_, e2⟩ => ?_⟩
  · rcases List.mem_append.mp hx with hx | hx
    · rcases List.mem_append.mp hx with hx | hx
      · exact g.ok x (List.mem_of_mem_take hx)
      · rw [List.mem_singleton.mp hx]; exact ok
    · exact g.ok x (List.mem_of_mem_drop hx)
  · have := congrArg List.length hf
    rw [List.length_map, List.length_map] at this
    rw [this]
    exact g.len
  · rw [← e2] at pm
    have : r' ∈ rs := pm.mem_iff.mp (by simp)
    exact ne (mem_rw g.nd hm this e)
theorem rev_ne {z : Wd} (h : LetOk z) : z ≠ z.reverse := by
  intro e
  have h2 := h.l2
  match z, h2, h.nd, e with
  | a :: b :: l, _, nd, e =>
    have e1 : (a :: b :: l).head? = (a :: b :: l).reverse.head? := congrArg List.head? e
    rw [List.head?_reverse] at e1
    have e2 : (a :: b :: l).getLast? = some ((b :: l).getLast (by simp)) := by rw [List.getLast?_cons_cons]; exact List.getLast?_eq_some_getLast _
    rw [e2] at e1
    have e3 : a = (b :: l).getLast (by simp) := Option.some.inj e1
    exact (List.nodup_cons.mp nd).1 (by rw [e3]; exact List.getLast_mem _)
theorem chg_rev {z : Wd} {rs : List Rw} (lz : LetOk z) (g : GoodUs z rs) : Chg z rs z.reverse rs := by
  refine ⟨⟨by rw [List.length_reverse]; exact lz.l2, by rw [List.length_reverse]; exact lz.l26, (List.reverse_perm z).nodup_iff.mpr lz.nd, fun c hc => lz.sm c (List.mem_reverse.mp hc)⟩,
    ⟨fun r hr => ⟨fun c hc => List.mem_reverse.mpr ((g.ok r hr).wd c hc), (g.ok r hr).l200, (g.ok r hr).vl⟩, g.nd, g.root, g.par, g.len⟩, fun _ _ _ h => rev_ne lz h.1⟩
/-- the first row is the root's -/
theorem head_row {z : Wd} {rs : List Rw} (g : GoodUs z rs) (od : rs.map (·.1) = ordW z (rs.map (·.1))) : ∃ r0 rest, rs = r0 :: rest ∧ r0.1 = [] := by
  have h := ordW_head (z := z) g.root
  rw [← od] at h
  match rs, h with
  | r0 :: rest, h =>
    refine ⟨r0, rest, rfl, ?_⟩
    simpa using h
theorem good_clo {z : Wd} {rs : List Rw} (g : GoodUs z rs) : Clo (rs.map (·.1)) := by
  refine ⟨g.root, fun p hp n => ?_⟩
  have : ∀ k, ∀ p ∈ rs.map (·.1), p.take (p.length - k) ∈ rs.map (·.1) := by
    intro k
    induction k with
    | zero => intro p hp; rw [Nat.sub_zero, List.take_of_length_le (Nat.le_refl _)]; exact hp
    | succ k ih =>
      intro p hp
      have := g.par _ (ih p hp)
      rw [List.dropLast_eq_take, List.take_take, List.length_take] at this
      rw [show min (min (p.length - k) p.length - 1) (p.length - k) = p.length - (k + 1) by omega] at this
      exact this
  by_cases hn : n ≤ p.length
  · have := this (p.length - n) p hp
    rw [show p.length - (p.length - n) = n by omega] at this
    exact this
  · rw [List.take_of_length_le (by omega)]
    exact hp
abbrev parents (rs : List Rw) : List Wd := (rs.drop 1).map fun r => r.1.dropLast
theorem longest : ∀ {ps : List Wd}, ps ≠ [] → ∃ p ∈ ps, ∀ q ∈ ps, q.length ≤ p.length
  | [p], _ => ⟨p, List.mem_cons_self, fun q hq => by rw [List.mem_singleton.mp hq]; exact Nat.le_refl _⟩
  | p :: q :: ps, _ => by
    obtain ⟨m, hm, h⟩ := longest (ps := q :: ps) (by simp)
    by_cases hl : m.length ≤ p.length
    · refine ⟨p, List.mem_cons_self, fun x hx => ?_⟩
      rcases List.mem_cons.mp hx with rfl | hx
      · exact Nat.le_refl _
      · exact Nat.le_trans (h x hx) hl
    · refine ⟨m, List.mem_cons_of_mem _ hm, fun x hx => ?_⟩
      rcases List.mem_cons.mp hx with rfl | hx
      · omega
      · exact h x hx
theorem leaf_ex {z : Wd} {rs : List Rw} (g : GoodUs z rs) (od : rs.map (·.1) = ordW z (rs.map (·.1))) (h1 : 1 < rs.length) : ∃ r ∈ rs, r.1 ∉ parents rs := by
  obtain ⟨r0, rest, e, e0⟩ := head_row g od
  obtain ⟨p, hp, hm⟩ := longest (ps := rs.map (·.1)) (fun z => by rw [List.map_eq_nil_iff] at z; rw [z] at h1; cases h1)
  obtain ⟨r, hr, rfl⟩ := List.mem_map.mp hp
  refine ⟨r, hr, fun hq => ?_⟩
  obtain ⟨s, hs, es⟩ := List.mem_map.mp hq
  have hs2 : s ∈ rs := List.mem_of_mem_drop hs
  have sne : s.1 ≠ [] := fun z => by
    have nd := g.nd
    rw [e, List.map_cons, List.nodup_cons] at nd
    rw [e] at hs
    exact nd.1 (by rw [e0, ← z]; exact List.mem_map.mpr ⟨s, hs, rfl⟩)
  have h2 := hm s.1 (List.mem_map.mpr ⟨s, hs2, rfl⟩)
  rw [← es, List.length_dropLast] at h2
  have := List.length_pos_iff.mpr sne
  omega
theorem chg_leaf {z : Wd} {rs : List Rw} {lost : Wd} (lz : LetOk z) (g : GoodUs z rs) (od : rs.map (·.1) = ordW z (rs.map (·.1))) (h1 : 1 < rs.length) (hl : lost ∈ rs.map (·.1)) (hn : lost ∉ parents rs) : Chg z rs z (rs.filter fun r => decide (¬ r.1 = lost)) := by
  obtain ⟨r0, rest, e, e0⟩ := head_row g od
  have inp : ∀ p ∈ rs.map (·.1), p ≠ [] → p.dropLast ∈ parents rs := fun p hp ne => by
    obtain ⟨r, hr, rfl⟩ := List.mem_map.mp hp
    refine List.mem_map.mpr ⟨r, ?_, rfl⟩
    rw [e] at hr ⊢
    rcases List.mem_cons.mp hr with rfl | hr
    · exact absurd e0 ne
    · exact hr
  have lne : lost ≠ [] := by
    rintro rfl
    obtain ⟨q, hq⟩ : ∃ q, q ∈ rest := by
      cases rest with
      | nil => rw [e] at h1; exact absurd h1 (by simp)
      | cons q l => exact ⟨q, List.mem_cons_self⟩
    have hqm : q.1 ∈ rs.map (·.1) := by rw [e]; exact List.mem_map.mpr ⟨q, List.mem_cons_of_mem _ hq, rfl⟩
    have qne : q.1 ≠ [] := fun z => by
      have nd := g.nd
      rw [e, List.map_cons, List.nodup_cons] at nd
      exact nd.1 (by rw [e0, ← z]; exact List.mem_map.mpr ⟨q, hq, rfl⟩)
    have h2 := (good_clo g).2 q.1 hqm 1
    have hlen := List.length_pos_iff.mpr qne
    have h3 := inp _ h2 (fun z => by
      have := congrArg List.length z
      rw [List.length_take] at this
      have h0 : ([] : Wd).length = 0 := rfl
      omega)
    rw [List.dropLast_eq_take, List.take_take, List.length_take] at h3
    rw [show min (min 1 q.1.length - 1) 1 = 0 by omega, List.take_zero] at h3
    exact hn h3
  have mem : ∀ p, p ∈ (rs.filter fun r => decide (¬ r.1 = lost)).map (·.1) ↔ p ∈ rs.map (·.1) ∧ p ≠ lost := fun p => by
    constructor
    · intro h
      obtain ⟨r, hr, rfl⟩ := List.mem_map.mp h
      obtain ⟨a, b⟩ := List.mem_filter.mp hr
      exact ⟨List.mem_map.mpr ⟨r, a, rfl⟩, of_decide_eq_true b⟩
    · rintro ⟨h, ne⟩
      obtain ⟨r, hr, rfl⟩ := List.mem_map.mp h
      exact List.mem_map.mpr ⟨r, List.mem_filter.mpr ⟨hr, decide_eq_true ne⟩, rfl⟩
  refine ⟨lz, ⟨fun r hr => g.ok r (List.mem_filter.mp hr).1, g.nd.sublist (List.filter_sublist.map _), (mem _).mpr ⟨g.root, lne.symm⟩, fun p hp => ?_, Nat.le_trans (List.length_filter_le _ _) g.len⟩, fun rs' pm _ ⟨_, e2⟩ => ?_⟩
  · obtain ⟨h2, h3⟩ := (mem p).mp hp
    refine (mem _).mpr ⟨g.par p h2, fun z => ?_⟩
    by_cases pe : p = []
    · rw [pe] at z
      exact lne (by rw [← z]; rfl)
    · exact hn (by rw [← z]; exact inp p h2 pe)
  · rw [← e2] at pm
    have : lost ∈ (rs.filter fun r => decide (¬ r.1 = lost)).map (·.1) := (pm.map _).mem_iff.mpr hl
    exact ((mem _).mp this).2 rfl
theorem chg_new {z : Wd} {rs : List Rw} {p : Wd} {c : Nat} (lz : LetOk z) (g : GoodUs z rs) (hl : rs.length ≤ 1000) (hp : p ∈ rs.map (·.1)) (hc : c ∈ z) (hn : p ++ [c] ∉ rs.map (·.1)) (h200 : p.length < 200) : Chg z rs z (rs ++ [(p ++ [c], none, false)]) := by
  refine ⟨lz, ⟨fun r hr => ?_, ?_, ?_, fun q hq => ?_, ?_⟩, fun rs' pm _ ⟨_, e2⟩ => ?_⟩
  · rcases List.mem_append.mp hr with hr | hr
    · exact g.ok r hr
    · rw [List.mem_singleton.mp hr]
      obtain ⟨r0, hr0, rfl⟩ := List.mem_map.mp hp
      refine ⟨fun x hx => ?_, by show (r0.1 ++ [c]).length ≤ 200; rw [List.length_append]; show _ + 1 ≤ _; omega, fun i h => by cases h⟩
      rcases List.mem_append.mp hx with hx | hx
      · exact (g.ok r0 hr0).wd x hx
      · rw [List.mem_singleton.mp hx]; exact hc
  · rw [List.map_append]
    refine List.nodup_append.mpr ⟨g.nd, by simp, fun a ha b hb => ?_⟩
    rw [List.mem_singleton.mp hb]
    exact fun e => hn ((show a = p ++ [c] from e) ▸ ha)
  · rw [List.map_append]
    exact List.mem_append_left _ g.root
  · rw [List.map_append] at hq ⊢
    rcases List.mem_append.mp hq with hq | hq
    · exact List.mem_append_left _ (g.par q hq)
    · rw [List.mem_singleton.mp hq]
      refine List.mem_append_left _ ?_
      show (p ++ [c]).dropLast ∈ _
      rw [List.dropLast_concat]
      exact hp
  · rw [List.length_append]
    show _ + 1 ≤ _
    omega
  · rw [← e2] at pm
    have := pm.length_eq
    rw [List.length_append] at this
    have h1 : [((p ++ [c], none, false) : Rw)].length = 1 := rfl
    omega
def spChg : Sp := fun vs H Q _ => ∃ (d c a : Addr) (n : Nat) (z : Wd) (ws : List V) (rs : List Rw), vs = [.ref d, .str (sw z), .ref a] ∧ Pen H d c n ∧ n ≤ 50000 ∧ LetOk z ∧ H a = some (.lst ws) ∧ Paired (RwT H) ws rs ∧ GoodUs z rs ∧ rs.length ≤ 900 ∧ rs.map (·.1) = ordW z (rs.map (·.1)) ∧
  (∀ p ∈ rs.map (·.1), p.length = 200 → ∃ c0 c1, z[0]? = some c0 ∧ p.getLast? = some c1 ∧ c0 ≠ c1) ∧
  ∀ (H' : Hp) (t b : Addr) (z' : Wd) (us : List Rw) (xs : List V), Chg z rs z' us → H' t = some (.tup [.str (sw z'), .ref b]) → H' b = some (.lst xs) → Paired (RwT H') xs us → Kp d H H' → Pen H' d c (n + 4) → Q (.ref t) H'
theorem cut_dropN (xs : List V) (k : Nat) : cutV xs (some (k : Int)) none = xs.drop k := cut_drop xs k
section
variable {P : Program} {w : World} {K : PySem.W.Frag} {mg : Str → Option Value} {base : Heap}
/-- (letters, rows[:at] + [row] + rows[at + 1:]) -/
theorem set_read {d c a : Addr} {n : Nat} {z : Wd} {ws : List V} {rs : List Rw} {i : Nat} {σ : L2.St} {H : Hp} {R : VK} {te : TE} {r' : Rw} (h1 : σ[1]? = some (some (.str (sw z)))) (h2 : σ[2]? = some (some (.ref a))) (h4 : σ[4]? = some (some (.int (i : Int)))) (ha : H a = some (.lst ws)) (pr : Paired (RwT H) ws rs) (hl : rs.length ≤ 900)
    (hp : Pen H d c n) (ht : ∀ (H' : Hp) (R : VK), Same H H' → (∀ v H2, Same H' H2 → RwT H2 v r' → R v H2) → te σ H' R)
    (k : ∀ H' t b xs, Same H H' → H' t = some (.tup [.str (sw z), .ref b]) → H' b = some (.lst xs) → Paired (RwT H') xs (rs.take i ++ [r'] ++ rs.drop (i + 1)) → R (.ref t) H') :
    tTup (tCons (tVar 1) (tCons (tOp rCat (tOp rCat (tSl (rSlL K) (tVar 2) tNoPart (tPart (tVar 4))) (tLst (tCons te tNil))) (tSl (rSlL K) (tVar 2) (tPart (tOp (rI0 fun i j => V.int (i + j)) (tVar 4) (tC (V.int 1)))) tNoPart)) tNil)) σ H R := by
  have hwl := pr.length
  refine ⟨_, h1, _, h2, _, h4, _, rfl, a, ws, rfl, SqL.of ha, fun p1 hp1 => ?_⟩
  have s1 := same_upd (o := .lst (cutV ws none (some (i : Int)))) hp1
  have e1 : (upd H p1 (.lst (cutV ws none (some (i : Int))))) p1 = some (.lst (ws.take i)) := by rw [upd_same, cut_take]
  generalize upd H p1 (.lst (cutV ws none (some (i : Int)))) = H1 at s1 e1
  refine ht H1 _ s1 fun v H2 s2 hv => ⟨by show 1 ≤ sizeLine; decide, fun p2 hp2 => ?_⟩
  have s3 := same_upd (o := .lst [v]) hp2
  have e3 : (upd H2 p2 (.lst [v])) p2 = some (.lst [v]) := upd_same
  have hv3 := hv.same s3
  have e13 := s3 _ _ (s2 _ _ e1)
  generalize upd H2 p2 (.lst [v]) = H3 at s3 e3 hv3 e13
  refine ⟨p1, p2, _, _, rfl, rfl, e13, e3, ?_, fun p4 hp4 => ?_⟩
  · rw [List.length_take, sizeLine_eq]
    show _ + 1 ≤ _
    omega
  have s4 := same_upd (o := .lst (ws.take i ++ [v])) hp4
  have e4 : (upd H3 p4 (.lst (ws.take i ++ [v]))) p4 = some (.lst (ws.take i ++ [v])) := upd_same
  have hv4 := hv3.same s4
  have sA : Same H (upd H3 p4 (.lst (ws.take i ++ [v]))) := ((s1.trans s2).trans s3).trans s4
  generalize upd H3 p4 (.lst (ws.take i ++ [v])) = H4 at s4 e4 hv4 sA
  refine ⟨_, h2, _, h4, _, _, rfl, rfl, _, rfl, a, ws, rfl, SqL.of (sA _ _ ha), fun p5 hp5 => ?_⟩
  have s5 := same_upd (o := .lst (cutV ws (some ((i : Int) + 1)) none)) hp5
  have e5 : (upd H4 p5 (.lst (cutV ws (some ((i : Int) + 1)) none))) p5 = some (.lst (ws.drop (i + 1))) := by rw [upd_same, show (i : Int) + 1 = ((i + 1 : Nat) : Int) by omega, cut_dropN]
  have e45 := s5 _ _ e4
  have hv5 := hv4.same s5
  have sB := sA.trans s5
  generalize upd H4 p5 (.lst (cutV ws (some ((i : Int) + 1)) none)) = H5 at s5 e5 e45 hv5 sB
  refine ⟨p4, p5, _, _, rfl, rfl, e45, e5, ?_, fun p6 hp6 => ⟨by show 2 ≤ sizeLine; decide, fun p7 hp7 => ?_⟩⟩
  · rw [List.length_append, List.length_take, List.length_drop, sizeLine_eq]
    show _ + 1 + _ ≤ _
    omega
  have s6 := same_upd (o := .lst (ws.take i ++ [v] ++ ws.drop (i + 1))) hp6
  have e6 : (upd H5 p6 (.lst (ws.take i ++ [v] ++ ws.drop (i + 1)))) p6 = some (.lst (ws.take i ++ [v] ++ ws.drop (i + 1))) := upd_same
  have s7 := same_upd (o := .tup [V.str (sw z), .ref p6]) hp7
  have sC := (sB.trans s6).trans s7
  exact k _ p7 p6 _ sC upd_same (s7 _ _ e6) (paired_app (paired_app (paired_take _ (paired_mono (fun _ _ h => RwT.same sC h) pr)) (.cons ((hv5.same s6).same s7) .nil)) (paired_drop _ (paired_mono (fun _ _ h => RwT.same sC h) pr)))
end
end Toy
set_option Elab.async false
set_option linter.all false
set_option maxRecDepth 100000
set_option maxHeartbeats 4000000
namespace Toy
open PySem L2 Sh ShL LamX NdefX
theorem and_pure {t u : TT} {σ : L2.St} {H : Hp} {Q : Bool → Hp → Prop} {b1 b2 : Bool} (h1 : ∀ R : Bool → Hp → Prop, R b1 H → t σ H R) (h2 : ∀ R : Bool → Hp → Prop, R b2 H → u σ H R) (q : Q (b1 && b2) H) : tAnd t u σ H Q := h1 _ (by
  cases b1
  · exact iteF q
  · exact iteT (h2 _ (by simpa using q)))
theorem oV_ne (o : Option Int) (k : Int) : scal (oV o) (.int k) = true ∧ decide (oV o = .int k) = decide (o = some k) := by
  cases o with
  | none => exact ⟨rfl, by rw [decide_eq_false (show ¬ oV none = .int k from fun z => by cases z), decide_eq_false (show ¬ (none : Option Int) = some k from fun z => by cases z)]⟩
  | some i => exact ⟨rfl, decide_eq_decide.mpr ⟨fun h => by rw [V.int.inj h], fun h => by rw [Option.some.inj h]; rfl⟩⟩
section
variable {P : Program} {w : World} {K : PySem.W.Frag} {mg : Str → Option Value} {base : Heap}
theorem ok_l_changed (T : Tx P K mg) (B : Bx T base) : FnOk P w K mg base CX0 3 T.a_l_changed T.fd_l_changed ["_law_pen_here", "_law_letters_here", "_law_rows"] spChg := by
  refine okT T.F_l_changed sc_l_changed (fun vs H Q E h => ?_) (fun cdv A outer s H vs Q E hcd hr h => ?_)
  · obtain ⟨d, c, a, n, z, ws, rs, rfl, _⟩ := h
    rfl
  have hu := hu_of hr
  have hu65 := hu65_of hr
  obtain ⟨d, c, a, n, z, ws, rs, rfl, hp, hn, lz, ha, pr, gu, hl, od, last, q⟩ := h
  obtain ⟨kvs, hd⟩ := hp.at
  have nad : a ≠ d := ne_of ha hd (by intro z; cases z)
  have hwl := pr.length
  have hrl : 0 < rs.length := by
    obtain ⟨r, hr, _⟩ := List.mem_map.mp gu.root
    exact List.length_pos_of_mem hr
  have z2 := lz.l2
  have z26 := lz.l26
  refine ⟨_, (pss_cons (ps_par (i := 3) (j := 4) (by rfl) sc_l_changed.nd rfl rfl (by decide) rfl rfl (pa_cons (pe_call (ok_l_draw T B) (hr.mono (by decide)) (by rfl) T.m_l_draw T.F_l_draw.kp T.bi_l_draw .nil pass0 (pa_cons (pv 0) (pa_cons pe_int pa_nil))) (pa_cons (pe_call (ok_l_draw T B) (hr.mono (by decide)) (by rfl) T.m_l_draw T.F_l_draw.kp T.bi_l_draw .nil pass0 (pa_cons (pv 0) (pa_cons (pe_callB call_len_seq (by rfl) T.b_len (by decide +kernel) (pa_cons (pv 2) pa_nil)) pa_nil))) pa_nil)) (by rfl))
 (pss_cons (ps_asg (pe_ix ix_list (pv 2) (pv 4) (fun _ _ => rfl)) (pg_tup rfl (pgs_cons (pg_name (i := 5) sc_l_changed.nd rfl (by first | exact Or.inl rfl | exact Or.inr rfl)) (pgs_cons (pg_name (i := 6) sc_l_changed.nd rfl (by first | exact Or.inl rfl | exact Or.inr rfl)) (pgs_cons (pg_name (i := 7) sc_l_changed.nd rfl (by first | exact Or.inl rfl | exact Or.inr rfl)) pgs_nil)))))
 (pss_cons (ps_if (pt_cmpR op_eq (pv 3) pe_int (nomark _))
 (pss_one (ps_ret (pe_tup (pa_cons (pv 1) (pa_cons (pe_op op_cat (pe_op op_cat (pe_slice sl_list (pv 2) po_none (po_some (pv 4))) (pe_lst (pa_cons (pe_tup (pa_cons (pv 5) (pa_cons (pv 6) (pa_cons (pe_not (pv 7)) pa_nil)))) pa_nil))) (pe_slice sl_list (pv 2) (po_some (pe_op op_add (pv 4) pe_int)) po_none)) pa_nil)))))
 pss_nil)
 (pss_cons (ps_if (pt_cmpR op_eq (pv 3) pe_int (nomark _))
 (pss_cons (ps_set (i := 8) sc_l_changed.nd rfl (by first | exact Or.inl rfl | exact Or.inr rfl) (pe_op op_add pe_int (pe_call (ok_l_draw T B) (hr.mono (by decide)) (by rfl) T.m_l_draw T.F_l_draw.kp T.bi_l_draw .nil pass0 (pa_cons (pv 0) (pa_cons pe_int pa_nil)))))
 (pss_one (ps_ret (pe_tup (pa_cons (pv 1) (pa_cons (pe_op op_cat (pe_op op_cat (pe_slice sl_list (pv 2) po_none (po_some (pv 4))) (pe_lst (pa_cons (pe_tup (pa_cons (pv 5) (pa_cons (pe_ifExp (pt_cmpR op_ne (pv 6) (pv 8) (nomark _)) (pv 8) pe_non) (pa_cons (pv 7) pa_nil)))) pa_nil))) (pe_slice sl_list (pv 2) (po_some (pe_op op_add (pv 4) pe_int)) po_none)) pa_nil))))))
 pss_nil)
 (pss_cons (ps_if (pt_cmpR op_eq (pv 3) pe_int (nomark _))
 (pss_one (ps_ret (pe_tup (pa_cons (pe_revS (pv 1)) (pa_cons (pv 2) pa_nil)))))
 pss_nil)
 (pss_cons (ps_if (PW.pt (pw_and (pt_cmpR op_eq (pv 3) pe_int (nomark _)) (pw_and1 (pt_cmpR op_gt (pe_callB call_len_seq (by rfl) T.b_len (by decide +kernel) (pa_cons (pv 2) pa_nil)) pe_int (nomark _)))))
 (pss_cons (ps_set (i := 9) sc_l_changed.nd rfl (by first | exact Or.inl rfl | exact Or.inr rfl) (pe_lc (own := [("_law_row_here", 14)]) (g := gName 14) rfl sc_l_changed.nd (pi_list (pe_slice sl_list (pv 2) (po_some pe_int) po_none)) (blkOk_by (own := [("_law_row_here", 14)]) (N := N_l_changed) (sc := defScope s_l_changed) (by decide +kernel)) (fun _ _ _ _ _ => (pg_name (i := 14) sc_l_changed.nd rfl (by first | exact Or.inl rfl | exact Or.inr rfl))) (fun _ _ _ _ _ => pts_nil) (fun _ _ _ _ _ => (pe_slice sl_str (pe_ix (by exact ix_tup : IxR _ (rIxT K)) (pv 14) pe_int (fun _ _ => rfl)) po_none (po_some (pe_un un_neg pe_int))))))
 (pss_cons (ps_set (i := 10) sc_l_changed.nd rfl (by first | exact Or.inl rfl | exact Or.inr rfl) (pe_call (ok_l_pick T B) (hr.mono (by decide)) (by rfl) T.m_l_pick T.F_l_pick.kp T.bi_l_pick .nil pass0 (pa_cons (pv 0) (pa_cons (pe_lc (own := [("_law_row_here", 14)]) (g := gName 14) rfl sc_l_changed.nd (pi_list (pv 2)) (blkOk_by (own := [("_law_row_here", 14)]) (N := N_l_changed) (sc := defScope s_l_changed) (by decide +kernel)) (fun _ _ _ _ _ => (pg_name (i := 14) sc_l_changed.nd rfl (by first | exact Or.inl rfl | exact Or.inr rfl))) (fun _ _ _ _ _ => (pts_one (pt_cmpR (by exact op_notIn_seq : OpR _ (compareOp .NotIn) (rIn K true)) (pe_ix (by exact ix_tup : IxR _ (rIxT K)) (pv 14) pe_int (fun _ _ => rfl)) (pv 9) (by rfl)))) (fun _ _ _ _ _ => (pe_ix (by exact ix_tup : IxR _ (rIxT K)) (pv 14) pe_int (fun _ _ => rfl)))) pa_nil))))
 (pss_one (ps_ret (pe_tup (pa_cons (pv 1) (pa_cons (pe_lc (own := [("_law_row_here", 14)]) (g := gName 14) rfl sc_l_changed.nd (pi_list (pv 2)) (blkOk_by (own := [("_law_row_here", 14)]) (N := N_l_changed) (sc := defScope s_l_changed) (by decide +kernel)) (fun _ _ _ _ _ => (pg_name (i := 14) sc_l_changed.nd rfl (by first | exact Or.inl rfl | exact Or.inr rfl))) (fun _ _ _ _ _ => (pts_one (pt_cmpR op_ne (pe_ix (by exact ix_tup : IxR _ (rIxT K)) (pv 14) pe_int (fun _ _ => rfl)) (pv 10) (nomark _)))) (fun _ _ _ _ _ => (pv 14))) pa_nil)))))))
 pss_nil)
 (pss_cons (ps_setLc (i := 11) (own := [("_law_row_here", 14)]) (g := gName 14) rfl sc_l_changed.nd rfl rfl (sw_true rfl rfl rfl (by decide +kernel)) (pi_list (pv 2)) (blkOk_by (own := [("_law_row_here", 14)]) (N := N_l_changed) (sc := defScope s_l_changed) (by decide +kernel)) (fun _ _ _ _ _ => (pg_name (i := 14) sc_l_changed.nd rfl (by first | exact Or.inl rfl | exact Or.inr rfl))) (fun _ _ _ _ _ => pts_nil) (fun _ _ _ _ _ => (pe_ix (by exact ix_tup : IxR _ (rIxT K)) (pv 14) pe_int (fun _ _ => rfl))))
 (pss_cons (ps_set (i := 12) sc_l_changed.nd rfl (by first | exact Or.inl rfl | exact Or.inr rfl) (pe_call (ok_l_pick T B) (hr.mono (by decide)) (by rfl) T.m_l_pick T.F_l_pick.kp T.bi_l_pick .nil pass0 (pa_cons (pv 0) (pa_cons (pe_lc (own := [("_law_place", 5)]) (g := gName 5) rfl sc_l_changed.nd (pi_list (pv 11)) (blkOk_by (own := [("_law_place", 5)]) (N := N_l_changed) (sc := defScope s_l_changed) (by decide +kernel)) (fun _ _ _ _ _ => (pg_name (i := 5) sc_l_changed.nd rfl (by first | exact Or.inl rfl | exact Or.inr rfl))) (fun _ _ _ _ _ => (pts_one (pt_cmpR op_lt (pe_callB call_len_str (by rfl) T.b_len (by decide +kernel) (pa_cons (pv 5) pa_nil)) pe_int (nomark _)))) (fun _ _ _ _ _ => (pv 5))) pa_nil))))
 (pss_cons (ps_for PassesOwn.never rfl (pi_range1 (by rfl) T.b_range (pa_cons pe_int pa_nil)) (pg_name (i := 13) sc_l_changed.nd rfl (by first | exact Or.inl rfl | exact Or.inr rfl))
 (pss_one (ps_if (pt_cmpR op_in_seq (pv 12) (pv 11) (by rfl))
 (pss_one (ps_set (i := 12) sc_l_changed.nd rfl (by first | exact Or.inl rfl | exact Or.inr rfl) (pe_op op_add_str (pv 12) (pe_ix ix_str (pv 1) pe_int (fun _ _ => rfl)))))
 pss_nil)))
 (pss_one (ps_ret (pe_tup (pa_cons (pv 1) (pa_cons (pe_op op_cat (pv 2) (pe_lst (pa_cons (pe_tup (pa_cons (pv 12) (pa_cons pe_non (pa_cons pe_bl pa_nil)))) pa_nil))) pa_nil)))))))))))))), ?_⟩
  refine ⟨_, rfl, d, c, n, 5, rfl, hp, by omega, by decide, by decide, fun H1 kd k0 k5 kp1 p1 => ?_⟩
  have ha1 := kp1 _ _ ha nad
  refine ⟨_, rfl, _, rfl, a, _, rfl, .inl (SqL.of ha1), d, c, n + 1, (ws.length : Int), rfl, p1, by omega, by omega, by omega, fun H2 ai a0 a1 kp2 p2 => ?_⟩
  obtain ⟨i, rfl⟩ := Int.eq_ofNat_of_zero_le a0
  have hi : i < rs.length := by omega
  have ha2 := kp2 _ _ ha1 nad
  have kp12 := kp1.trans kp2
  have pr2 : Paired (RwT H2) ws rs := paired_mono (fun _ _ h => RwT.kp hd kp12 h) pr
  obtain ⟨r, hri⟩ : ∃ r, rs[i]? = some r := ⟨_, List.getElem?_eq_getElem hi⟩
  obtain ⟨v, hv, b, rfl, hb⟩ := paired_ix' pr2 hri
  have hrm := List.mem_of_getElem? hri
  have rok := gu.ok r hrm
  obtain ⟨p, o, f⟩ := r
  refine ⟨_, _, rfl, ?_⟩
  refine ⟨_, rfl, _, rfl, a, ws, _, _, rfl, rfl, SqL.of ha2, atI_nat hv, b, _, rfl, SqT.of hb, rfl, _, _, rfl, _, _, rfl, _, _, rfl, rfl, ?_⟩
  have hp2 := p2
  -- flag
  refine ⟨_, rfl, rfl, _, rfl, ?_⟩
  refine ite2 (fun _ => ?_) (fun _ => ?_)
  · refine set_read (d := d) (c := c) (n := n + 2) (rs := rs) (i := i) (r' := (p, o, !f)) rfl rfl rfl ha2 pr2 hl p2 (fun H' R s' k => ?_) (fun H' t b2 xs s' ht hb2 prx => ?_)
    · refine ⟨_, rfl, _, rfl, _, rfl, _, rfl, by show 3 ≤ sizeLine; decide, fun t ht => ?_⟩
      exact k _ _ (same_upd ht) ⟨t, rfl, upd_same⟩
    · refine q H' t b2 z _ xs (chg_set (r' := (p, o, !f)) lz gu hri rfl ⟨rok.wd, rok.l200, rok.vl⟩ (fun h => ?_)) ht hb2 prx (kp12.trans (Same.kp s')) ((p2.same s').mono (by omega))
      have h2 : (!f) = f := congrArg (fun r : Rw => r.2.2) h
      cases f <;> cases h2
  refine nextS ?_
  dsimp only
  -- value
  refine ⟨_, rfl, rfl, _, rfl, ?_⟩
  refine ite2 (fun _ => ?_) (fun _ => ?_)
  · refine ⟨_, rfl, d, c, n + 2, 9, rfl, p2, by omega, by decide, by decide, fun H3 k r0 r1 kp3 p3 => ⟨_, _, rfl, rfl, ?_⟩⟩
    have kp13 := kp12.trans kp3
    have ha3 := kp3 _ _ ha2 nad
    have pr3 : Paired (RwT H3) ws rs := paired_mono (fun _ _ h => RwT.kp hd kp13 h) pr
    refine set_read (d := d) (c := c) (n := n + 3) (rs := rs) (i := i) (r' := (p, if o = some (1 + k) then none else some (1 + k), f)) rfl rfl rfl ha3 pr3 hl p3 (fun H' R s' kk => ?_) (fun H' t b2 xs s' ht hb2 prx => ?_)
    · obtain ⟨e1, e2⟩ := oV_ne o (1 + k)
      refine ⟨_, rfl, _, rfl, _, rfl, e1, _, rfl, ?_⟩
      rw [e2]
      by_cases ho : o = some (1 + k)
      · rw [decide_eq_true ho]
        refine iteF ?_
        refine ⟨_, rfl, by show 3 ≤ sizeLine; decide, fun t ht => kk _ _ (same_upd ht) ⟨t, rfl, ?_⟩⟩
        rw [upd_same, if_pos ho]
        rfl
      · rw [decide_eq_false ho]
        refine iteT ?_
        refine ⟨_, rfl, _, rfl, by show 3 ≤ sizeLine; decide, fun t ht => kk _ _ (same_upd ht) ⟨t, rfl, ?_⟩⟩
        rw [upd_same, if_neg ho]
        rfl
    · refine q H' t b2 z _ xs (chg_set (r' := (p, if o = some (1 + k) then none else some (1 + k), f)) lz gu hri rfl ⟨rok.wd, rok.l200, fun j hj => ?_⟩ (fun h => ?_)) ht hb2 prx (kp13.trans (Same.kp s')) ((p3.same s').mono (by omega))
      · by_cases ho : o = some (1 + k)
        · rw [show ((p, if o = some (1 + k) then none else some (1 + k), f) : Rw).2.1 = none from if_pos ho] at hj
          cases hj
        · rw [show ((p, if o = some (1 + k) then none else some (1 + k), f) : Rw).2.1 = some (1 + k) from if_neg ho] at hj
          cases hj
          omega
      · have h2 : (if o = some (1 + k) then none else some (1 + k)) = o := congrArg (fun r : Rw => r.2.1) h
        by_cases ho : o = some (1 + k)
        · rw [if_pos ho, ho] at h2
          cases h2
        · rw [if_neg ho] at h2
          exact ho h2.symm
  refine nextS ?_
  dsimp only
  -- letters
  refine ⟨_, rfl, rfl, _, rfl, ?_⟩
  refine ite2 (fun _ => ?_) (fun _ => ?_)
  · refine ⟨_, rfl, sw z, rfl, by rw [sw_len, sizeLine_eq]; omega, _, rfl, by show 2 ≤ sizeLine; decide, fun t ht => ?_⟩
    have st := same_upd (o := .tup [V.str (revS (sw z)), .ref a]) ht
    exact q _ t a z.reverse rs ws (chg_rev lz gu) upd_same (st _ _ ha2) (paired_mono (fun _ _ h => RwT.same st h) pr2) (kp12.trans (Same.kp st)) ((p2.same st).mono (by omega))
  refine nextS ?_
  dsimp only
  refine and_pure (b1 := decide (V.int kd = V.int 3)) (b2 := decide ((1 : Int) < (ws.length : Int))) (fun R h => ⟨_, rfl, rfl, _, rfl, h⟩) (fun R h => ⟨_, rfl, a, _, rfl, .inl (SqL.of ha2), _, _, rfl, rfl, _, rfl, h⟩) ?_
  refine ite2 (fun h => ?_) (fun _ => ?_)
  · -- a leaf
    have h1 : 1 < rs.length := by
      rw [Bool.and_eq_true] at h
      have := of_decide_eq_true h.2
      omega
    refine ⟨_, rfl, _, rfl, a, ws, rfl, SqL.of ha2, fun p3 hp3 => ?_⟩
    have s3 := same_upd (o := .lst (cutV ws (some 1) none)) hp3
    have e3 : (upd H2 p3 (.lst (cutV ws (some 1) none))) p3 = some (.lst (ws.drop 1)) := by rw [upd_same]; exact congrArg (fun x => some (HO.lst x)) (cut_dropN ws 1)
    generalize upd H2 p3 (.lst (cutV ws (some 1) none)) = H3 at s3 e3
    have pr3 := paired_mono (fun _ _ h => RwT.same s3 h) pr2
    refine ⟨p3, rfl, ⟨_, SqL.of e3⟩, fun D hD => ?_⟩
    refine lcF (walk_list (K := K) (a := p3) (xs := ws.drop 1)) yat (paired_drop 1 pr3) hD (fun H' s' => SqL.of (s' _ _ e3)) (by rw [List.length_drop]; omega) (fun _ => true) (fun r => .str (sw r.1.dropLast)) (fun v r H' R N hr hv s' k1 _ => ?_) (fun H4 s4 hD4 => ?_)
    · obtain ⟨g, rfl, hg⟩ := hv
      have h200 := (gu.ok r (List.mem_of_mem_drop hr)).l200
      refine ⟨rfl, yes_ite ⟨_, rfl, g, _, _, _, rfl, rfl, SqT.of (s' _ _ hg), atI_nat (j := 0) rfl, _, rfl, _, rfl, _, rfl, by rw [sw_len, sizeLine_eq]; omega, ?_⟩⟩
      show R (.str (cutS (sw r.1) none (some (-1)))) H'
      rw [cut_init]
      exact k1 rfl
    rw [filter_tt] at hD4
    have hpar : (rs.drop 1).map (fun r => V.str (sw r.1.dropLast)) = wsV (parents rs) := by
      unfold wsV
      rw [List.map_map]
      rfl
    rw [hpar] at hD4
    have s34 := s3.trans s4
    have ha4 := s34 _ _ ha2
    have pr4 := paired_mono (fun _ _ h => RwT.same s34 h) pr2
    have p4 := p2.same s34
    -- lost
    refine ⟨_, rfl, _, rfl, a, rfl, ⟨_, SqL.of ha4⟩, fun E1 hE1 => ?_⟩
    have nE := p4.ne_free hE1
    refine lcF (walk_list (K := K) (a := a) (xs := ws)) yat pr4 hE1 (fun H' s' => SqL.of (s' _ _ ha4)) (by omega) (fun r => decide (¬ r.1 ∈ parents rs)) (fun r => .str (sw r.1)) (fun v r H' R N hr hv s' k1 k2 => ?_) (fun H5 s5 hE5 => ?_)
    · obtain ⟨g, rfl, hg⟩ := hv
      have hg' := s' _ _ hg
      refine ⟨rfl, _, rfl, g, _, _, _, rfl, rfl, SqT.of hg', atI_nat (j := 0) rfl, _, rfl, D, _, rfl, .inl (SqL.of (s' _ _ hD4)), rfl, wsV_flat _, _, rfl, ?_⟩
      rw [wsV_in]
      refine ite2 (fun h => ?_) (fun h => ?_)
      · exact ⟨_, rfl, g, _, _, _, rfl, rfl, SqT.of hg', atI_nat (j := 0) rfl, k1 (by simpa using h)⟩
      · exact k2 (by simpa using h)
    have s25 := s34.trans s5
    have p5 := p2.same s25
    have hlost : 0 < ((rs.filter fun r => decide (¬ r.1 ∈ parents rs)).map fun r => V.str (sw r.1)).length := by
      obtain ⟨r, hr, hn⟩ := leaf_ex gu od h1
      rw [List.length_map]
      exact List.length_pos_of_mem (List.mem_filter.mpr ⟨hr, decide_eq_true hn⟩)
    have hfl := List.length_filter_le (fun r : Rw => decide (¬ r.1 ∈ parents rs)) rs
    refine .inl ⟨d, c, E1, n + 2, _, rfl, p5, by omega, SqL.of hE5, hlost, by rw [List.length_map]; omega, nE, fun H6 x hx kp6 p6 => ?_⟩
    obtain ⟨rl, hrl2, rfl⟩ := List.mem_map.mp hx
    obtain ⟨hm1, hm2⟩ := List.mem_filter.mp hrl2
    have hm3 := of_decide_eq_true hm2
    have ha6 := kp6 _ _ (s5 _ _ ha4) nad
    have kp16 : Kp d H H6 := (kp12.trans (Same.kp s25)).trans kp6
    have pr6 : Paired (RwT H6) ws rs := paired_mono (fun _ _ h => RwT.kp hd kp16 h) pr
    refine ⟨_, rfl, _, rfl, a, rfl, ⟨_, SqL.of ha6⟩, fun F1 hF1 => ?_⟩
    refine lcG (walk_list (K := K) (a := a) (xs := ws)) yat pr6 (fun _ H' => Same H6 H') (same_upd hF1) (fun _ H' acc s' => same_of_new s' hF1) (fun i H' _ s' => SqL.of (s' _ _ ha6)) (by omega) (fun r => decide (¬ r.1 = rl.1)) RwT (fun H' acc acc' v u hD2 h => h.putL hD2) (fun i x u H' acc R' N hu hr s' hD2 k1 k2 => ?_) (fun H7 acc s7 hF7 prf => ?_)
    · obtain ⟨g, rfl, hg⟩ := hr
      have hg' := s' _ _ hg
      refine ⟨rfl, _, rfl, g, _, _, _, rfl, rfl, SqT.of hg', atI_nat (j := 0) rfl, _, rfl, rfl, _, rfl, ?_⟩
      rw [sw_dec]
      refine ite2 (fun h => ?_) (fun h => ?_)
      · exact ⟨_, rfl, k1 (by simpa using h) _ _ s' hD2 (fun _ _ h => h) ⟨g, rfl, hg'⟩⟩
      · exact k2 (by simpa using h) _ s' hD2 fun _ _ h => h
    · refine ⟨by show 2 ≤ sizeLine; decide, fun t ht => ?_⟩
      have st := same_upd (o := .tup [V.str (sw z), .ref F1]) ht
      exact q _ t F1 z _ acc (chg_leaf lz gu od h1 (List.mem_map.mpr ⟨rl, hm1, rfl⟩) hm3) upd_same (st _ _ hF7) (paired_mono (fun _ _ h => RwT.same st h) prf) ((kp16.trans (Same.kp s7)).trans (Same.kp st)) (((p6.same s7).same st).mono (by omega))
  · refine nextS ?_
    dsimp only
    -- a fresh place
    generalize hos : rs.map (·.1) = os at last
    have hosl : os.length = rs.length := by rw [← hos, List.length_map]
    have cl : Clo os := by rw [← hos]; exact good_clo gu
    have l200 : ∀ p ∈ os, p.length ≤ 200 := fun p hp => by
      rw [← hos] at hp
      obtain ⟨r, hr, rfl⟩ := List.mem_map.mp hp
      exact (gu.ok r hr).l200
    refine asgS (fun v H3 => ∃ th, v = .ref th ∧ Same H2 H3 ∧ H3 th = some (.lst (wsV os)) ∧ H2 th = none) (fun R hR => ?_) (fun v H3 ⟨th, e1, s3, hth, n3⟩ => ?_)
    · refine ⟨_, rfl, a, rfl, ⟨_, SqL.of ha2⟩, fun D hD => ?_⟩
      refine lcF (walk_list (K := K) (a := a) (xs := ws)) yat pr2 hD (fun H' s' => SqL.of (s' _ _ ha2)) (by omega) (fun _ => true) (fun r => .str (sw r.1)) (fun v r H' R N hr hv s' k1 _ => ?_) (fun H4 s4 hD4 => hR _ _ ⟨D, rfl, s4, ?_, hD⟩)
      · obtain ⟨g, rfl, hg⟩ := hv
        exact ⟨rfl, yes_ite ⟨_, rfl, g, _, _, _, rfl, rfl, SqT.of (s' _ _ hg), atI_nat (j := 0) rfl, k1 rfl⟩⟩
      · rw [filter_tt] at hD4
        rw [hD4, ← hos]
        unfold wsV
        rw [List.map_map]
        rfl
    subst e1
    have p3 := p2.same s3
    have nth := p2.ne_free n3
    have ha3 := s3 _ _ ha2
    refine ⟨_, rfl, _, rfl, th, rfl, ⟨_, SqL.of hth⟩, fun D hD => ?_⟩
    have nD := p3.ne_free hD
    refine lcF (walk_list (K := K) (a := th) (xs := wsV os)) yat (paired_self os) hD (fun H' s' => SqL.of (s' _ _ hth)) (by omega) (fun p => decide ((p.length : Int) < 200)) (fun p => .str (sw p)) (fun x p H' R N hp hx s' k1 k2 => ?_) (fun H4 s4 hD4 => ?_)
    · subst hx
      have := l200 p hp
      refine ⟨rfl, _, rfl, _, rfl, by rw [sw_len, sizeLine_eq]; omega, _, _, rfl, rfl, _, rfl, ?_⟩
      rw [sw_len]
      refine ite2 (fun h => ?_) (fun h => ?_)
      · exact ⟨_, rfl, k1 h⟩
      · exact k2 (by simpa using h)
    have p4 := p3.same s4
    have hfl := List.length_filter_le (fun p : Wd => decide ((p.length : Int) < 200)) os
    have hf0 : 0 < ((os.filter fun p => decide ((p.length : Int) < 200)).map fun p => V.str (sw p)).length := by
      rw [List.length_map]
      exact List.length_pos_of_mem (List.mem_filter.mpr ⟨cl.1, decide_eq_true (by show (0 : Int) < 200; decide)⟩)
    refine .inl ⟨d, c, D, n + 2, _, rfl, p4, by omega, SqL.of hD4, hf0, by rw [List.length_map]; omega, nD, fun H5 x hx kp5 p5 => ?_⟩
    obtain ⟨p0, hp0, rfl⟩ := List.mem_map.mp hx
    obtain ⟨hm1, hm2⟩ := List.mem_filter.mp hp0
    have hm3 := of_decide_eq_true hm2
    have hth5 := kp5 _ _ (s4 _ _ hth) nth
    have ha5 := kp5 _ _ (s4 _ _ ha3) nad
    have kp15 : Kp d H H5 := ((kp12.trans (Same.kp s3)).trans (Same.kp s4)).trans kp5
    have pr5 : Paired (RwT H5) ws rs := paired_mono (fun _ _ h => RwT.kp hd kp15 h) pr
    obtain ⟨c0, h0⟩ : ∃ c0, z[0]? = some c0 := ⟨_, List.getElem?_eq_getElem (by omega)⟩
    have hzl : (sw z).length ≤ sizeLine := by rw [sw_len, sizeLine_eq]; omega
    refine ⟨_, rfl, by decide, by decide, ?_⟩
    refine for_range (fun k σ H6 => ∃ fr v13, σ = [some (.ref d), some (.str (sw z)), some (.ref a), some (.int kd), some (.int (i : Int)), some (.str (sw p)), some (oV o), some (.bl f), none, none, none, some (.ref th), some (.str (sw fr)), v13, none] ∧ H6 = H5 ∧
        ((fr ∈ os ∧ fr = p0 ++ List.replicate k c0) ∨ (fr ∉ os ∧ ∃ m, fr = p0 ++ List.replicate m c0 ++ [c0] ∧ p0 ++ List.replicate m c0 ∈ os)))
      ⟨p0, _, rfl, rfl, .inl ⟨hm1, by rw [List.replicate_zero, List.append_nil]⟩⟩ (fun k σ H6 hk ⟨fr, v13, e1, e2, inv⟩ => ?_) (fun σ H6 ⟨fr, v13, e1, e2, inv⟩ => ?_)
    · subst e1
      subst e2
      refine ⟨_, rfl, _, rfl, th, _, rfl, .inl (SqL.of hth5), rfl, wsV_flat _, _, rfl, ?_⟩
      rw [wsV_in]
      refine ite2 (fun h => ?_) (fun h => ?_)
      · have hin := of_decide_eq_true h
        have hfl2 := l200 fr hin
        obtain ⟨_, rfl⟩ : fr ∈ os ∧ fr = p0 ++ List.replicate k c0 := inv.elim id fun h => absurd hin h.1
        refine ⟨_, rfl, _, rfl, sw z, _, c0, rfl, rfl, hzl, atW_zero h0, _, _, rfl, rfl, by rw [sw_len, sizeLine_eq]; show _ + 1 ≤ _; omega, ?_⟩
        rw [sw_one, sw_app]
        refine ⟨_, _, rfl, rfl, ?_⟩
        by_cases hin2 : p0 ++ List.replicate k c0 ++ [c0] ∈ os
        · refine .inl ⟨hin2, ?_⟩
          rw [List.append_assoc, ← List.replicate_succ']
        · exact .inr ⟨hin2, k, rfl, hin⟩
      · have hnin : fr ∉ os := fun z => h (decide_eq_true z)
        exact ⟨_, _, rfl, rfl, .inr (inv.elim (fun h2 => absurd h2.1 hnin) id)⟩
    · subst e1
      subst e2
      obtain ⟨hnin, m, hfr, hpm⟩ : fr ∉ os ∧ ∃ m, fr = p0 ++ List.replicate m c0 ++ [c0] ∧ p0 ++ List.replicate m c0 ∈ os := inv.elim (fun h2 => by
        have := l200 _ h2.1
        rw [h2.2, List.length_append, List.length_replicate] at this
        exact absurd this (by show ¬ _ + 201 ≤ 200; omega)) id
      have h200 := l200 _ hpm
      have hlt : (p0 ++ List.replicate m c0).length < 200 := by
        by_cases h2 : (p0 ++ List.replicate m c0).length = 200
        · obtain ⟨x0, x1, y0, y1, ne⟩ := last _ hpm h2
          rw [h0] at y0
          cases y0
          cases m with
          | zero =>
            rw [List.replicate_zero, List.append_nil] at h2
            omega
          | succ m =>
            rw [List.replicate_succ', ← List.append_assoc, List.getLast?_concat] at y1
            exact absurd (Option.some.inj y1) ne
        · omega
      rw [hfr] at hnin
      refine ⟨_, rfl, _, rfl, _, rfl, by show 3 ≤ sizeLine; decide, fun g hg => ?_⟩
      have sg := same_upd (o := .tup [V.str (sw fr), .non, .bl false]) hg
      have eg : (upd H6 g (.tup [V.str (sw fr), .non, .bl false])) g = some (.tup (rwVs (p0 ++ List.replicate m c0 ++ [c0], none, false))) := by rw [upd_same, hfr]; rfl
      have pr6 := paired_mono (fun _ _ h => RwT.same sg h) pr5
      have p6 := p5.same sg
      have k6 := kp15.trans (Same.kp sg)
      have ha6 := sg _ _ ha5
      generalize upd H6 g (.tup [V.str (sw fr), .non, .bl false]) = H7 at sg eg pr6 p6 k6 ha6
      refine ⟨by show 1 ≤ sizeLine; decide, fun l1 hl1 => ?_⟩
      have s1 := same_upd (o := .lst [V.ref g]) hl1
      have e1 : (upd H7 l1 (.lst [V.ref g])) l1 = some (.lst [V.ref g]) := upd_same
      have ha7 := s1 _ _ ha6
      refine ⟨a, l1, ws, _, rfl, rfl, ha7, e1, by rw [sizeLine_eq]; show _ + 1 ≤ _; omega, fun l2 hl2 => ⟨by show 2 ≤ sizeLine; decide, fun t ht => ?_⟩⟩
      have s2 := same_upd (o := .lst (ws ++ [V.ref g])) hl2
      have e2 : (upd (upd H7 l1 (.lst [V.ref g])) l2 (.lst (ws ++ [V.ref g]))) l2 = some (.lst (ws ++ [V.ref g])) := upd_same
      have st := same_upd (o := .tup [V.str (sw z), .ref l2]) ht
      have sA := (s1.trans s2).trans st
      exact q _ t l2 z _ _ (chg_new lz gu (by omega) (by rw [hos]; exact hpm) (List.mem_of_getElem? h0) (by rw [hos]; exact hnin) hlt) upd_same (st _ _ e2) (paired_app (paired_mono (fun _ _ h => RwT.same sA h) pr6) (.cons ⟨g, rfl, sA _ _ eg⟩ .nil)) (k6.trans (Same.kp sA)) ((p6.same sA).mono (by omega))
end
end Toy
set_option Elab.async false
set_option linter.all false
set_option maxRecDepth 100000
set_option maxHeartbeats 4000000
namespace Toy
open PySem L2 Sh ShL LamX NdefX
/-! ### the law's places -/
structure PsOk (z : Wd) (qs : List Wd) : Prop where
  clo : Clo qs
  nd : qs.Nodup
  wd : ∀ p ∈ qs, ∀ c ∈ p, c ∈ z
  l200 : ∀ p ∈ qs, p.length ≤ 200
  len : qs.length ≤ 300
  last : ∀ p ∈ qs, p.length = 200 → ∃ c0 c1, z[0]? = some c0 ∧ p.getLast? = some c1 ∧ c0 ≠ c1
theorem PlOk.ps {z : Wd} {ps : List Wd} (h : PlOk z ps 12) : PsOk z ps :=
  ⟨h.clo, h.nd, h.wd, fun p hp => Nat.le_trans (h.l p hp) (by decide), Nat.le_trans h.len (by decide), fun p hp e => by have := h.l p hp; omega⟩
theorem repS_sw (c n : Nat) : repS ⟨#[c]⟩ n = sw (List.replicate n c) := by
  unfold repS sw
  congr 1
  congr 1
  induction n with
  | zero => rfl
  | succ n ih =>
    rw [List.replicate_succ, List.flatten_cons, ih, List.replicate_succ]
    rfl
abbrev newPs (far : Wd) (ps : List Wd) : List Wd := ((List.range far.length).filter fun k => decide (¬ far.take (k + 1) ∈ ps)).map fun k => far.take (k + 1)
theorem far_ok {z : Wd} {ps : List Wd} {y c0 c1 m : Nat} (lz : LetOk z) (h : PlOk z ps 12) (hy : y ∈ z) (h0 : z[0]? = some c0) (h1 : z[1]? = some c1) (hm : m ≤ 199) : PsOk z (ps ++ newPs (List.replicate m y ++ [c1]) ps) := by
  generalize hf : List.replicate m y ++ [c1] = far
  have hfl : far.length = m + 1 := by rw [← hf]; simp
  have hfz : ∀ c ∈ far, c ∈ z := fun c hc => by
    rw [← hf] at hc
    rcases List.mem_append.mp hc with hc | hc
    · rw [List.eq_of_mem_replicate hc]; exact hy
    · rw [List.mem_singleton.mp hc]; exact List.mem_of_getElem? h1
  have hn : ∀ p, p ∈ newPs far ps ↔ ∃ k, k < far.length ∧ far.take (k + 1) ∉ ps ∧ p = far.take (k + 1) := fun p => by
    constructor
    · intro hp
      obtain ⟨k, hk, rfl⟩ := List.mem_map.mp hp
      obtain ⟨a, b⟩ := List.mem_filter.mp hk
      exact ⟨k, List.mem_range.mp a, of_decide_eq_true b, rfl⟩
    · rintro ⟨k, a, b, rfl⟩
      exact List.mem_map.mpr ⟨k, List.mem_filter.mpr ⟨List.mem_range.mpr a, decide_eq_true b⟩, rfl⟩
  have htk : ∀ j, far.take j ∈ ps ++ newPs far ps := fun j => by
    by_cases hj : far.take j ∈ ps
    · exact List.mem_append_left _ hj
    · refine List.mem_append_right _ ((hn _).mpr ?_)
      cases j with
      | zero => exact absurd h.clo.1 (by rw [List.take_zero] at hj; exact hj)
      | succ j =>
        by_cases hl : j < far.length
        · exact ⟨j, hl, hj, rfl⟩
        · refine ⟨far.length - 1, by omega, ?_, ?_⟩
          · rw [show far.length - 1 + 1 = far.length by omega, List.take_of_length_le (Nat.le_refl _)]
            rw [List.take_of_length_le (by omega)] at hj
            exact hj
          · rw [show far.length - 1 + 1 = far.length by omega, List.take_of_length_le (Nat.le_refl _), List.take_of_length_le (by omega)]
  refine ⟨⟨List.mem_append_left _ h.clo.1, fun p hp n => ?_⟩, ?_, fun p hp c hc => ?_, fun p hp => ?_, ?_, fun p hp e => ?_⟩
  · rcases List.mem_append.mp hp with hp | hp
    · exact List.mem_append_left _ (h.clo.2 p hp n)
    · obtain ⟨k, _, _, rfl⟩ := (hn p).mp hp
      rw [List.take_take]
      exact htk _
  · refine List.nodup_append.mpr ⟨h.nd, ?_, fun a ha b hb => ?_⟩
    · unfold List.Nodup
      rw [List.pairwise_map]
      refine List.Pairwise.imp_of_mem ?_ (List.Pairwise.filter _ (List.nodup_range (n := far.length)))
      intro a b ha hb hab e
      have ha2 := List.mem_range.mp (List.mem_filter.mp ha).1
      have hb2 := List.mem_range.mp (List.mem_filter.mp hb).1
      have := congrArg List.length e
      rw [List.length_take, List.length_take] at this
      exact hab (by omega)
    · obtain ⟨k, _, hk, rfl⟩ := (hn b).mp hb
      exact fun e => hk (by rw [← e]; exact ha)
  · rcases List.mem_append.mp hp with hp | hp
    · exact h.wd p hp c hc
    · obtain ⟨k, _, _, rfl⟩ := (hn p).mp hp
      exact hfz c (List.mem_of_mem_take hc)
  · rcases List.mem_append.mp hp with hp | hp
    · have := h.l p hp
      omega
    · obtain ⟨k, _, _, rfl⟩ := (hn p).mp hp
      rw [List.length_take]
      omega
  · rw [List.length_append, List.length_map]
    have h2 := List.length_filter_le (fun k => decide (¬ far.take (k + 1) ∈ ps)) (List.range far.length)
    rw [List.length_range] at h2
    have := h.len
    omega
  · rcases List.mem_append.mp hp with hp | hp
    · have := h.l p hp
      omega
    · obtain ⟨k, _, _, rfl⟩ := (hn p).mp hp
      rw [List.length_take] at e
      have e2 : far.take (k + 1) = far := List.take_of_length_le (by omega)
      refine ⟨c0, c1, h0, ?_, fun z1 => ?_⟩
      · rw [e2, ← hf, List.getLast?_concat]
      · rw [z1] at h0
        exact absurd (nd_ix lz.nd h0 h1) (by decide)
theorem PsOk.ord {z : Wd} {qs : List Wd} (h : PsOk z qs) : PsOk z (ordW z qs) :=
  ⟨⟨ordW_mem.mpr h.clo.1, fun p hp n => ordW_mem.mpr (h.clo.2 p (ordW_mem.mp hp) n)⟩, ordW_nodup h.nd, fun p hp => h.wd p (ordW_mem.mp hp), fun p hp => h.l200 p (ordW_mem.mp hp), by rw [ordW_len]; exact h.len, fun p hp => h.last p (ordW_mem.mp hp)⟩
theorem walk_rng1 (n : Nat) : Walk (Itr 1 n) ((List.range n).map fun k : Nat => V.int (1 + (k : Int))).length (fun _ => True) (YAt ((List.range n).map fun k : Nat => V.int (1 + (k : Int)))) := by
  have := walk_range (lo := 1) (n := n)
  rw [List.length_map, List.length_range]
  refine this.mono (fun _ h => h) fun i H x H' hi _ ⟨e, h⟩ => ⟨e, ?_⟩
  rw [List.getElem?_map, List.getElem?_range hi, h]
  rfl
/-- a row for the place p -/
def RwP (H : Hp) (v : V) (p : Wd) : Prop := ∃ o f, RwT H v (p, o, f) ∧ ∀ i, o = some i → 1 ≤ i ∧ i ≤ 9
theorem rows_of {H : Hp} : ∀ {vs : List V} {ps : List Wd}, Paired (RwP H) vs ps → ∃ rs : List Rw, rs.map (·.1) = ps ∧ Paired (RwT H) vs rs ∧ ∀ r ∈ rs, ∀ i, r.2.1 = some i → 1 ≤ i ∧ i ≤ 9
  | _, _, .nil => ⟨[], rfl, .nil, fun r h => by cases h⟩
  | _, _, .cons (b := p) ⟨o, f, h, hv⟩ t => by
    obtain ⟨rs, e, pr, ok⟩ := rows_of t
    refine ⟨(p, o, f) :: rs, by rw [List.map_cons, e], .cons h pr, fun r hr => ?_⟩
    rcases List.mem_cons.mp hr with rfl | hr
    · exact hv
    · exact ok r hr
theorem perm_paired {α β : Type} {R : α → β → Prop} {xs ys : List α} (h : ys.Perm xs) : ∀ {us : List β}, Paired R xs us → ∃ vs : List β, vs.Perm us ∧ Paired R ys vs := by
  induction h with
  | nil => exact fun p => by cases p; exact ⟨[], List.Perm.refl _, .nil⟩
  | cons x _ ih =>
    intro us p
    cases p with
    | cons r t =>
      obtain ⟨vs, h1, h2⟩ := ih t
      exact ⟨_ :: vs, h1.cons _, .cons r h2⟩
  | swap x y l =>
    intro us p
    cases p with
    | cons r t =>
      cases t with
      | cons r2 t => exact ⟨_, List.Perm.swap _ _ _, .cons r2 (.cons r t)⟩
  | trans _ _ ih1 ih2 =>
    intro us p
    obtain ⟨vs, h1, h2⟩ := ih2 p
    obtain ⟨ws, h3, h4⟩ := ih1 h2
    exact ⟨ws, h3.trans h1, h4⟩
theorem PsOk.good {z : Wd} {rs : List Rw} (h : PsOk z (rs.map (·.1))) (hv : ∀ r ∈ rs, ∀ i, r.2.1 = some i → 1 ≤ i ∧ i ≤ 9) : GoodUs z rs := by
  refine ⟨fun r hr => ⟨h.wd _ (List.mem_map.mpr ⟨r, hr, rfl⟩), h.l200 _ (List.mem_map.mpr ⟨r, hr, rfl⟩), hv r hr⟩, h.nd, h.clo.1, fun p hp => ?_, ?_⟩
  · rw [List.dropLast_eq_take]
    exact h.clo.2 p hp _
  · have := h.len
    rw [List.length_map] at this
    omega
theorem GoodUs.perm {z : Wd} {rs us : List Rw} (g : GoodUs z rs) (h : us.Perm rs) : GoodUs z us :=
  ⟨fun r hr => g.ok r (h.mem_iff.mp hr), (h.map _).nodup_iff.mpr g.nd, (h.map _).mem_iff.mpr g.root, fun p hp => (h.map _).mem_iff.mpr (g.par p ((h.map _).mem_iff.mp hp)), by rw [h.length_eq]; exact g.len⟩
theorem Pen.sm {T : List (Addr × Str)} {H H' : Hp} {d c : Addr} {n : Nat} (p : Pen H d c n) (s : Sm T H H') : Pen H' d c n := by
  obtain ⟨ns, b, l, h1, h2, h3⟩ := p
  exact ⟨ns, b, l, s.get h1, s.get h2, h3⟩
theorem tabs_kp {T : List (Addr × Str)} {H H' : Hp} {d c : Addr} {n : Nat} (t : Tabs T H) (p : Pen H d c n) (s : Kp d H H') : Tabs T H' := by
  obtain ⟨ns, b, l, h1, _⟩ := p
  exact Sh.Tabs.kp t h1 s
def spLaw (K : PySem.W.Frag) (T : List (Addr × Str)) : Sp := fun vs H Q _ => ∃ (a : Addr) (ns : List Int), vs = [.ref a] ∧ SqL K H a (ns.map V.int) ∧ Tabs T H ∧ ∀ H', Q (.bl true) H'
end Toy
set_option Elab.async false
set_option linter.all false
set_option maxRecDepth 100000
set_option maxHeartbeats 4000000
namespace Toy
open PySem L2 Sh ShL LamX NdefX
/-- what stands while the law looks at the tree -/
structure LwAt (T : List (Addr × Str)) (C d c x ra oa sa : Addr) (z : Wd) (acc ys : List V) (rs us : List Rw) (n : Nat) (H : Hp) : Prop where
  pen : Pen H d c n
  tabs : Tabs T H
  tree : TreeAt C H x z rs
  ra : H ra = some (.lst acc)
  pr : Paired (RwT H) acc rs
  oa : H oa = some (.lst (wsV (rs.map (·.1))))
  sa : H sa = some (.lst ys)
  pu : Paired (RwT H) ys us
section
variable {T : List (Addr × Str)} {C d c x ra oa sa : Addr} {z : Wd} {acc ys : List V} {rs us : List Rw} {n m : Nat} {H H' : Hp}
theorem LwAt.sm (l : LwAt T C d c x ra oa sa z acc ys rs us n H) (s : Sm T H H') : LwAt T C d c x ra oa sa z acc ys rs us n H' :=
  ⟨Pen.sm l.pen s, s.2, l.tree.sm s, s.get l.ra, paired_mono (fun _ _ h => RwT.sm s h) l.pr, s.get l.oa, s.get l.sa, paired_mono (fun _ _ h => RwT.sm s h) l.pu⟩
theorem LwAt.same (l : LwAt T C d c x ra oa sa z acc ys rs us n H) (s : Same H H') : LwAt T C d c x ra oa sa z acc ys rs us n H' := l.sm (Sm.of l.tabs s)
theorem LwAt.kp (l : LwAt T C d c x ra oa sa z acc ys rs us n H) (s : Kp d H H') (p : Pen H' d c m) : LwAt T C d c x ra oa sa z acc ys rs us m H' := by
  obtain ⟨kvs, hd⟩ := l.pen.at
  have g : ∀ {b : Addr} {xs : List V}, H b = some (.lst xs) → H' b = some (.lst xs) := fun h => s _ _ h (ne_of h hd (by intro z; cases z))
  exact ⟨p, tabs_kp l.tabs l.pen s, l.tree.kp l.pen s, g l.ra, paired_mono (fun _ _ h => RwT.kp hd s h) l.pr, g l.oa, g l.sa, paired_mono (fun _ _ h => RwT.kp hd s h) l.pu⟩
theorem LwAt.up (l : LwAt T C d c x ra oa sa z acc ys rs us n H) (h : n ≤ m) : LwAt T C d c x ra oa sa z acc ys rs us m H := ⟨l.pen.mono h, l.tabs, l.tree, l.ra, l.pr, l.oa, l.sa, l.pu⟩
end
theorem sort_rows (z : Wd) (us : List Rw) : ∃ rs : List Rw, us.Perm rs ∧ rs.map (·.1) = ordW z (us.map (·.1)) := by
  obtain ⟨vs, h1, h2⟩ := perm_paired (R := fun p (r : Rw) => p = r.1) (ordW_perm z (us.map (·.1))) (paired_self us)
  exact ⟨vs, h1.symm, (paired_eq h2).symm⟩
theorem mk_tree' {T : List (Addr × Str)} {C : Addr} {H : Hp} {z : Wd} {a : Addr} {xs : List V} {us rs : List Rw} {E : XK} (hz : LetOk z) (ha : H a = some (.lst xs)) (pr : Paired (RwE H) xs us) (gu : GoodUs z us) (pm : us.Perm rs) (od : rs.map (·.1) = ordW z (us.map (·.1))) (tb : Tabs T H)
    (x dx : Addr) (hx : H x = none) (hdx : H dx = none) (hne : dx ≠ x) (Qf : VK) (q : ∀ H', Sm T H H' → TreeAt C H' x z rs → Qf .non H') : spInit T C (.ref x :: ([.str (sw z), .ref a] ++ [])) (upd (upd H dx (.own x)) x (.ins C dx [])) Qf E := by
  have s1 := same_upd (o := .own x) hdx
  have s2 : Same H (upd (upd H dx (.own x)) x (.ins C dx [])) := same_of_new s1 hx
  exact ⟨x, dx, a, z, xs, us, rs, rfl, upd_same, hz, s2 _ _ ha, paired_mono (fun v r h => h.same s2) pr, gu, pm, od, tb.ext s2, fun H' k t => q H' ⟨fun b u hb nt => k.1 b u (s2 _ _ hb) nt (ne_of_none hb hx), k.2⟩ t⟩
section
variable {P : Program} {w : World} {K : PySem.W.Frag} {mg : Str → Option Value} {base : Heap}
theorem ok_law (T : Tx P K mg) (B : Bx T base) : FnOk P w K mg base CX0 9 T.a_law T.fd_law ["_law_script"] (spLaw K (tabs T)) := by
  refine okT T.F_law sc_law (fun vs H Q E h => ?_) (fun cdv A outer s H vs Q E hcd hr h => ?_)
  · obtain ⟨a, ns, rfl, _⟩ := h
    rfl
  have hu := hu_of hr
  have hu65 := hu65_of hr
  obtain ⟨a, ns, rfl, hS, tb, q⟩ := h
  refine ⟨_, (pss_cons (ps_set (i := 1) sc_law.nd rfl (by first | exact Or.inl rfl | exact Or.inr rfl) (pe_call (ok_l_pen T B) (hr.mono (by decide)) (by rfl) T.m_l_pen T.F_l_pen.kp T.bi_l_pen .nil pass0 (pa_cons (pv 0) pa_nil)))
 (pss_cons (ps_set (i := 2) sc_law.nd rfl (by first | exact Or.inl rfl | exact Or.inr rfl) (pe_call (ok_l_letters T B) (hr.mono (by decide)) (by rfl) T.m_l_letters T.F_l_letters.kp T.bi_l_letters .nil pass0 (pa_cons (pv 1) (pa_cons pe_int pa_nil))))
 (pss_cons (ps_set (i := 3) sc_law.nd rfl (by first | exact Or.inl rfl | exact Or.inr rfl) (pe_call (ok_l_places T B) (hr.mono (by decide)) (by rfl) T.m_l_places T.F_l_places.kp T.bi_l_places .nil pass0 (pa_cons (pv 1) (pa_cons (pv 2) (pa_cons pe_int pa_nil)))))
 (pss_cons (ps_if (pt_cmpR op_eq (pe_call (ok_l_draw T B) (hr.mono (by decide)) (by rfl) T.m_l_draw T.F_l_draw.kp T.bi_l_draw .nil pass0 (pa_cons (pv 1) (pa_cons pe_int pa_nil))) pe_int (nomark _))
 (pss_cons (ps_set (i := 4) sc_law.nd rfl (by first | exact Or.inl rfl | exact Or.inr rfl) (pe_op op_add_str (pe_op op_mulS (pe_call (ok_l_pick T B) (hr.mono (by decide)) (by rfl) T.m_l_pick T.F_l_pick.kp T.bi_l_pick .nil pass0 (pa_cons (pv 1) (pa_cons (pv 2) pa_nil))) (pe_op op_add pe_int (pe_call (ok_l_draw T B) (hr.mono (by decide)) (by rfl) T.m_l_draw T.F_l_draw.kp T.bi_l_draw .nil pass0 (pa_cons (pv 1) (pa_cons pe_int pa_nil))))) (pe_ix ix_str (pv 2) pe_int (fun _ _ => rfl))))
 (pss_one (ps_set (i := 3) sc_law.nd rfl (by first | exact Or.inl rfl | exact Or.inr rfl) (pe_op op_cat (pv 3) (pe_lc (own := [("_law_length", 14)]) (g := gName 14) rfl sc_law.nd (pi_range2 (by rfl) T.b_range (pa_cons pe_int (pa_cons (pe_op op_add (pe_callB call_len_str (by rfl) T.b_len (by decide +kernel) (pa_cons (pv 4) pa_nil)) pe_int) pa_nil))) (blkOk_by (own := [("_law_length", 14)]) (N := N_law) (sc := defScope s_law) (by decide +kernel)) (fun _ _ _ _ _ => (pg_name (i := 14) sc_law.nd rfl (by first | exact Or.inl rfl | exact Or.inr rfl))) (fun _ _ _ _ _ => (pts_one (pt_cmpR (by exact op_notIn_seq : OpR _ (compareOp .NotIn) (rIn K true)) (pe_slice sl_str (pv 4) po_none (po_some (pv 14))) (pv 3) (by rfl)))) (fun _ _ _ _ _ => (pe_slice sl_str (pv 4) po_none (po_some (pv 14)))))))))
 pss_nil)
 (pss_cons (ps_set (i := 3) sc_law.nd rfl (by first | exact Or.inl rfl | exact Or.inr rfl) (pe_call (ok_l_ordered T B) (hr.mono (by decide)) (by rfl) T.m_l_ordered T.F_l_ordered.kp T.bi_l_ordered .nil pass0 (pa_cons (pv 2) (pa_cons (pv 3) pa_nil))))
 (pss_cons (ps_setLc (i := 5) (own := [("_law_place", 11)]) (g := gName 11) rfl sc_law.nd rfl rfl (sw_true rfl rfl rfl (by decide +kernel)) (pi_list (pv 3)) (blkOk_by (own := [("_law_place", 11)]) (N := N_law) (sc := defScope s_law) (by decide +kernel)) (fun _ _ _ _ _ => (pg_name (i := 11) sc_law.nd rfl (by first | exact Or.inl rfl | exact Or.inr rfl))) (fun _ _ _ _ _ => pts_nil) (fun _ _ _ _ _ => (pe_call (ok_l_row T B) (hr.mono (by decide)) (by rfl) T.m_l_row T.F_l_row.kp T.bi_l_row .nil pass0 (pa_cons (pv 1) (pa_cons (pv 11) pa_nil)))))
 (pss_cons (ps_set (i := 6) sc_law.nd rfl (by first | exact Or.inl rfl | exact Or.inr rfl) (pe_call (ok_l_shuffled T B) (hr.mono (by decide)) (by rfl) T.m_l_shuffled T.F_l_shuffled.kp T.bi_l_shuffled .nil pass0 (pa_cons (pv 1) (pa_cons (pv 5) pa_nil))))
 (pss_cons (ps_setLc (i := 7) (own := [("_law_row_here", 15)]) (g := gName 15) rfl sc_law.nd rfl rfl (sw_true rfl rfl rfl (by decide +kernel)) (pi_list (pv 6)) (blkOk_by (own := [("_law_row_here", 15)]) (N := N_law) (sc := defScope s_law) (by decide +kernel)) (fun _ _ _ _ _ => (pg_name (i := 15) sc_law.nd rfl (by first | exact Or.inl rfl | exact Or.inr rfl))) (fun _ _ _ _ _ => pts_nil) (fun _ _ _ _ _ => (pe_ifExp (pt_cmpR op_eq (pe_call (ok_l_draw T B) (hr.mono (by decide)) (by rfl) T.m_l_draw T.F_l_draw.kp T.bi_l_draw .nil pass0 (pa_cons (pv 1) (pa_cons pe_int pa_nil))) pe_int (nomark _)) (pe_callTy (by exact call_list_of : CallR _ (.type "list") (fun xs H Q => ∃ p ys, xs = [.ref p] ∧ (SqL K H p ys ∨ SqT K H p ys) ∧ ∀ l, H l = none → Q (.ref l) (upd H l (.lst ys)))) (by rfl) T.b_list (by decide +kernel) (pa_cons (pv 15) pa_nil)) (pv 15))))
 (pss_cons (ps_par (i := 8) (j := 9) (by rfl) sc_law.nd rfl rfl (by decide) rfl rfl (pa_cons (pe_make T.mk_Tree (ok_Tree_init T B) (hr.mono (by decide)) (by rfl) T.m_Tree T.bi_Tree_init .nil pass0 (pa_cons (pv 2) (pa_cons (pv 7) pa_nil))) (pa_cons (pe_make T.mk_Tree (ok_Tree_init T B) (hr.mono (by decide)) (by rfl) T.m_Tree T.bi_Tree_init .nil pass0 (pa_cons (pv 2) (pa_cons (pv 5) pa_nil))) pa_nil)) (by rfl))
 (pss_cons (ps_expr (pe_bm PySem.F.plainAttrs_list PySem.F.slot_list_append PySem.F.type_list_append mt_append (pv 7) (pa_cons pe_non pa_nil)))
 (pss_cons (ps_if (PW.pt (pw_or (pt_not (pt_val (pe_call (ok_l_right_told T B) (hr.mono (by decide)) (by rfl) T.m_l_right_told T.F_l_right_told.kp T.bi_l_right_told .nil pass0 (pa_cons (pv 8) (pa_cons (pv 2) (pa_cons (pv 5) pa_nil)))))) (pw_or (pt_not (pt_cmpR (op_eqO T.eq_Tree (ok_Tree_eq T B) T.bi_Tree_eq pass0 (hr.mono (by decide))) (pv 8) (pv 9) (nomark _))) (pw_or (pt_cmpR (op_neO T.eq_Tree (ok_Tree_eq T B) T.bi_Tree_eq pass0 (hr.mono (by decide))) (pv 8) (pv 9) (nomark _)) (pw_or1 (pt_cmpR (op_eqNL T.eq_Tree T.F_Tree_eq sc_Tree_eq rfl T.bi_Tree_eq (by decide +kernel) T.b_NotImplemented (fun _ _ _ _ _ _ hr => (pt_not (pt_val (pe_callB (by exact call_isi : CallR _ (.builtin "isinstance") (rIsi K)) (by rfl) T.b_isinstance (by decide +kernel) (pa_cons (pv 1) (pa_cons (pe_glob (v := .ref T.c_Tree) (by rfl) T.m_Tree rfl) pa_nil)))))) (hr.mono (by decide))) (pv 8) (pv 5) (nomark _)))))))
 (pss_one (ps_ret pe_bl))
 pss_nil)
 (pss_cons (ps_for PassesOwn.never rfl (pi_range1 (by rfl) T.b_range (pa_cons pe_int pa_nil)) (pg_name (i := 10) sc_law.nd rfl (by first | exact Or.inl rfl | exact Or.inr rfl))
 (pss_one (ps_for PassesOwn.never rfl (pi_list (pe_call (ok_l_near T B) (hr.mono (by decide)) (by rfl) T.m_l_near T.F_l_near.kp T.bi_l_near .nil pass0 (pa_cons (pv 1) (pa_cons (pv 2) (pa_cons (pv 3) pa_nil))))) (pg_name (i := 11) sc_law.nd rfl (by first | exact Or.inl rfl | exact Or.inr rfl))
 (pss_one (ps_if (pt_not (pt_val (pe_call (ok_l_right_at T B) (hr.mono (by decide)) (by rfl) T.m_l_right_at T.F_l_right_at.kp T.bi_l_right_at .nil pass0 (pa_cons (pv 8) (pa_cons (pv 2) (pa_cons (pv 3) (pa_cons (pv 5) (pa_cons (pv 11) pa_nil))))))))
 (pss_one (ps_ret pe_bl))
 pss_nil)))))
 (pss_cons (ps_asg (pe_call (ok_l_changed T B) (hr.mono (by decide)) (by rfl) T.m_l_changed T.F_l_changed.kp T.bi_l_changed .nil pass0 (pa_cons (pv 1) (pa_cons (pv 2) (pa_cons (pv 5) pa_nil)))) (pg_tup rfl (pgs_cons (pg_name (i := 12) sc_law.nd rfl (by first | exact Or.inl rfl | exact Or.inr rfl)) (pgs_cons (pg_name (i := 13) sc_law.nd rfl (by first | exact Or.inl rfl | exact Or.inr rfl)) pgs_nil))))
 (pss_cons (ps_if (PW.pt (pw_or (pt_cmpR (op_eqO T.eq_Tree (ok_Tree_eq T B) T.bi_Tree_eq pass0 (hr.mono (by decide))) (pv 8) (pe_make T.mk_Tree (ok_Tree_init T B) (hr.mono (by decide)) (by rfl) T.m_Tree T.bi_Tree_init .nil pass0 (pa_cons (pv 12) (pa_cons (pv 13) pa_nil))) (nomark _)) (pw_or1 (pt_not (pt_val (pe_call (ok_l_right_told T B) (hr.mono (by decide)) (by rfl) T.m_l_right_told T.F_l_right_told.kp T.bi_l_right_told .nil pass0 (pa_cons (pv 8) (pa_cons (pv 2) (pa_cons (pv 5) pa_nil)))))))))
 (pss_one (ps_ret pe_bl))
 pss_nil)
 (pss_one (ps_ret (pe_call (ok_l_right_of_kept T B) (hr.mono (by decide)) (by rfl) T.m_l_right_of_kept T.F_l_right_of_kept.kp T.bi_l_right_of_kept .nil pass0 (pa_cons (pv 2) (pa_cons (pv 5) (pa_cons (pv 6) pa_nil)))))))))))))))))))), ?_⟩
  refine ⟨_, rfl, a, ns, rfl, hS, fun H1 d c s1 p1 => ?_⟩
  have t1 := tb.ext s1
  refine ⟨_, rfl, d, c, 0, rfl, p1, by omega, fun H2 z lz l5 kp2 p2 => ?_⟩
  have t2 := tabs_kp t1 p1 kp2
  have z2 := lz.l2
  have z26 := lz.l26
  refine ⟨_, rfl, _, rfl, d, c, 6, z, rfl, p2, by omega, lz, fun H3 pa ps pk hpa kp3 p3 => ?_⟩
  have t3 := tabs_kp t2 p2 kp3
  have npd : pa ≠ d := by
    obtain ⟨kvs, hd⟩ := p3.at
    exact ne_of hpa hd (by intro z; cases z)
  -- a far way, or none
  dsimp only [gName]
  refine seqW (fun σ' H' => ∃ qa qs v4, σ' = [some (.ref a), some (.ref d), some (.str (sw z)), some (.ref qa), v4, none, none, none, none, none, none, none, none, none, none, none] ∧ Tabs (tabs T) H' ∧ Pen H' d c 40 ∧ H' qa = some (.lst (wsV qs)) ∧ PsOk z qs)
    (fun N hN => ?_) (fun σ' H4 ⟨qa, qs, v4, e, t4, p4, hqa, qk⟩ => ?_)
  · refine ⟨_, rfl, d, c, 30, 12, rfl, p3, by omega, by decide, by decide, fun H5 r r0 r1 kp5 p5 => ⟨rfl, _, rfl, ?_⟩⟩
    have t5 := tabs_kp t3 p3 kp5
    have hpa5 := kp5 _ _ hpa npd
    refine ite2 (fun _ => ?_) (fun _ => ?_)
    · obtain ⟨c0, h0⟩ : ∃ c0, z[0]? = some c0 := ⟨_, List.getElem?_eq_getElem (by omega)⟩
      obtain ⟨c1, h1⟩ : ∃ c1, z[1]? = some c1 := ⟨_, List.getElem?_eq_getElem (by omega)⟩
      refine ⟨_, rfl, _, rfl, .inr ⟨d, c, 31, sw z, rfl, p5, by omega, by rw [sw_len]; omega, by rw [sw_len]; omega, fun H6 y hy kp6 p6 => ?_⟩⟩
      have hyz : y ∈ z := hy
      have t6 := tabs_kp t5 p5 kp6
      have hpa6 := kp6 _ _ hpa5 npd
      refine ⟨_, rfl, d, c, 32, 199, rfl, p6, by omega, by decide, by decide, fun H7 r r0 r1 kp7 p7 => ?_⟩
      have t7 := tabs_kp t6 p6 kp7
      have hpa7 := kp7 _ _ hpa6 npd
      obtain ⟨m, rfl⟩ := Int.eq_ofNat_of_zero_le r0
      have hm : m + 1 ≤ 199 := by omega
      refine ⟨1, (m : Int), rfl, rfl, ⟨#[y]⟩, m + 1, rfl, (show V.int (1 + (m : Int)) = V.int ((m + 1 : Nat) : Int) by rw [show (1 : Int) + (m : Int) = ((m + 1 : Nat) : Int) by omega]), by omega, by show 1 ≤ 1000; decide, ?_⟩
      rw [repS_sw]
      refine ⟨_, rfl, sw z, _, c1, rfl, rfl, by rw [sw_len, sizeLine_eq]; omega, ?_, _, _, rfl, rfl, ?_, ?_⟩
      · exact atI_nat (j := 1) h1
      · rw [sw_len, List.length_replicate, sizeLine_eq]
        show _ + 1 ≤ _
        omega
      rw [sw_one, sw_app]
      generalize hf : List.replicate (m + 1) y ++ [c1] = far
      have hfl : far.length = m + 2 := by rw [← hf]; simp
      have hzl : (sw far).length ≤ sizeLine := by rw [sw_len, sizeLine_eq]; omega
      refine ⟨_, rfl, _, rfl, _, rfl, hzl, _, _, rfl, rfl, _, _, rfl, ⟨by decide, by decide, by omega, by rw [sw_len]; omega⟩, ?_⟩
      rw [sw_len, show (((far.length : Int) + 1) - 1).toNat = far.length by omega]
      intro D hD
      have hlps := pk.len
      refine lcF (walk_rng1 far.length) yat (paired_self (List.range far.length)) hD (fun _ _ => trivial) (by rw [List.length_range]; omega) (fun k => decide (¬ far.take (k + 1) ∈ ps)) (fun k => .str (sw (far.take (k + 1)))) (fun x k H' R N hk hx s' k1 k2 => ?_) (fun H8 s8 hD8 => ?_)
      · subst hx
        have hcut : cutS (sw far) none (some (1 + (k : Int))) = sw (far.take (k + 1)) := by
          rw [show (1 : Int) + (k : Int) = ((k + 1 : Nat) : Int) by omega]
          exact cut_to far (k + 1)
        refine ⟨rfl, _, rfl, _, rfl, _, rfl, _, rfl, hzl, ?_⟩
        rw [hcut]
        refine ⟨_, rfl, pa, _, rfl, .inl (SqL.of (s' _ _ hpa7)), rfl, wsV_flat _, _, rfl, ?_⟩
        rw [wsV_in]
        refine ite2 (fun h => ?_) (fun h => ?_)
        · refine ⟨_, rfl, _, rfl, _, rfl, _, rfl, hzl, ?_⟩
          rw [hcut]
          exact k1 (by simpa using h)
        · exact k2 (by simpa using h)
      have hnew : ((List.range far.length).filter fun k => decide (¬ far.take (k + 1) ∈ ps)).map (fun k => V.str (sw (far.take (k + 1)))) = wsV (newPs far ps) := by
        unfold wsV
        rw [List.map_map]
        rfl
      rw [hnew] at hD8
      have ok := far_ok lz pk hyz h0 h1 hm
      rw [hf] at ok
      refine ⟨pa, D, _, _, rfl, rfl, s8 _ _ hpa7, hD8, ?_, fun b hb => ?_⟩
      · have := ok.len
        rw [List.length_append] at this
        rw [List.length_map, List.length_map, sizeLine_eq]
        omega
      have s9 := same_upd (o := .lst (wsV ps ++ wsV (newPs far ps))) hb
      refine hN _ _ ⟨b, ps ++ newPs far ps, _, rfl, (t7.ext s8).ext s9, ((p7.same s8).same s9).mono (by omega), ?_, ok⟩
      rw [upd_same]
      unfold wsV
      rw [List.map_append]
    · exact hN _ _ ⟨pa, ps, _, rfl, t5, p5.mono (by omega), hpa5, pk.ps⟩
  subst e
  have qlen := qk.len
  -- in order
  refine ⟨_, rfl, _, rfl, z, qa, qs, rfl, SqL.of hqa, fun p hp => ⟨qk.l200 p hp, qk.wd p hp⟩, t4, fun H5 oa s5 hoa => ?_⟩
  have p5 := Pen.sm p4 s5
  have t5 := s5.2
  have ok := qk.ord
  have oo : ordW z (ordW z qs) = ordW z qs := ordW_idem qk.wd
  generalize hos : ordW z qs = os at hoa ok oo
  have osl := ok.len
  -- rows
  dsimp only [gName]
  refine asgS (fun v H6 => ∃ ra acc, v = .ref ra ∧ Kp d H5 H6 ∧ Pen H6 d c 940 ∧ H6 ra = some (.lst acc) ∧ Paired (RwP H6) acc os ∧ ra ≠ d) (fun R hR => ?_) (fun v H6 ⟨ra, acc, e1, k6, p6, hra, pa6, nrd⟩ => ?_)
  · have nod : oa ≠ d := by
      obtain ⟨kvs, hd⟩ := p5.at
      exact ne_of hoa hd (by intro z; cases z)
    refine ⟨_, rfl, oa, rfl, ⟨_, SqL.of hoa⟩, fun D hD => ?_⟩
    have nDd := p5.ne_free hD
    refine lcG (walk_list (K := K) (a := oa) (xs := wsV os)) yat (paired_self os) (fun i H' => Kp d H5 H' ∧ Pen H' d c (40 + 3 * i)) ⟨kp_new hD, p5.same (same_upd hD)⟩ (fun i H' acc ⟨k, p⟩ => ⟨kp_put0 k hD, Pen.put p5 hD p⟩) (fun i H' _ ⟨k, _⟩ => SqL.of (k _ _ hoa nod)) (by omega) (fun _ => true) RwP (fun H' acc acc' v u hD2 ⟨o, f, h, hv⟩ => ⟨o, f, h.putL hD2, hv⟩)
      (fun i x p H' acc R' N hp hx ⟨k, pp⟩ hD2 k1 _ => ?_) (fun H' acc ⟨k, pp⟩ hD2 pr => hR _ _ ⟨D, acc, rfl, k, pp.mono (by rw [List.length_map]; omega), hD2, by rw [filter_tt] at pr; exact pr, nDd⟩)
    subst hx
    have hi2 := (List.getElem?_eq_some_iff.mp hp).1
    refine ⟨rfl, yes_ite ?_⟩
    refine ⟨_, rfl, _, rfl, d, c, 40 + 3 * i, p, rfl, pp, by omega, fun H7 v o f ho hv k7 p7 => ?_⟩
    obtain ⟨kvs, hd⟩ := pp.at
    exact k1 rfl _ _ ⟨k.trans k7, p7.mono (by omega)⟩ (k7 _ _ hD2 nDd) (fun v u ⟨o, f, h, hv⟩ => ⟨o, f, h.kp hd k7, hv⟩) ⟨o, f, hv, ho⟩
  subst e1
  dsimp only [gName]
  obtain ⟨rs, rfl, pr6, hv6⟩ := rows_of pa6
  have t6 := tabs_kp t5 p5 k6
  have gu := ok.good hv6
  have hrl : rs.length ≤ 300 := by rw [List.length_map] at osl; exact osl
  have hal := pr6.length
  have hoa6 : H6 oa = some (.lst (wsV (rs.map (·.1)))) := by
    obtain ⟨kvs, hd⟩ := p5.at
    exact k6 _ _ hoa (ne_of hoa hd (by intro z; cases z))
  -- shuffled
  refine ⟨_, rfl, _, rfl, d, c, ra, 940, acc, rfl, p6, by omega, hra, by omega, fun H7 sa ys pm7 hsa k7 p7 => ?_⟩
  obtain ⟨us, pm, pu⟩ := perm_paired pm7 pr6
  have t7 := tabs_kp t6 p6 k7
  obtain ⟨kvs6, hd6⟩ := p6.at
  have hra7 := k7 _ _ hra nrd
  have hoa7 := k7 _ _ hoa6 (ne_of hoa6 hd6 (by intro z; cases z))
  have pr7 := paired_mono (fun _ _ h => RwT.kp hd6 k7 h) pr6
  have pu7 := paired_mono (fun _ _ h => RwT.kp hd6 k7 h) pu
  have hul := pm.length_eq
  have hyl := pu.length
  have p7' := p7.mono (show 940 + acc.length ≤ 1240 by omega)
  obtain ⟨kvs7, hd7⟩ := p7'.at
  have nsd : sa ≠ d := ne_of hsa hd7 (by intro z; cases z)
  -- told
  dsimp only [gName]
  refine asgS (fun v H8 => ∃ ta acc2, v = .ref ta ∧ Kp d H7 H8 ∧ Pen H8 d c 1540 ∧ H8 ta = some (.lst acc2) ∧ Paired (RwE H8) acc2 us ∧ ta ≠ d ∧ H7 ta = none) (fun R hR => ?_) (fun v H8 ⟨ta, tacc, e1, k8, p8, hta, pt8, ntd, n7⟩ => ?_)
  · refine ⟨_, rfl, sa, rfl, ⟨_, SqL.of hsa⟩, fun D hD => ?_⟩
    have nDd := p7'.ne_free hD
    refine lcG (walk_list (K := K) (a := sa) (xs := ys)) yat pu7 (fun i H' => Kp d H7 H' ∧ Pen H' d c (1240 + i)) ⟨kp_new hD, p7'.same (same_upd hD)⟩ (fun i H' acc ⟨k, p⟩ => ⟨kp_put0 k hD, Pen.put p7' hD p⟩) (fun i H' _ ⟨k, _⟩ => SqL.of (k _ _ hsa nsd)) (by omega) (fun _ => true) (fun H' v u => ∃ b, v = .ref b ∧ b ≠ D ∧ (H' b = some (.lst (rwVs u)) ∨ H' b = some (.tup (rwVs u))))
      (fun H' acc acc' v u hD2 ⟨b, e, ne, h⟩ => ⟨b, e, ne, by rw [upd_ne ne]; exact h⟩)
      (fun i x u H' acc R' N hu hx ⟨k, pp⟩ hD2 k1 _ => ?_) (fun H' acc ⟨k, pp⟩ hD2 pr => hR _ _ ⟨D, acc, rfl, k, pp.mono (by omega), hD2, by rw [filter_tt] at pr; exact paired_mono (fun _ _ ⟨b, e, _, h⟩ => ⟨b, e, h⟩) pr, nDd, hD⟩)
    obtain ⟨g, rfl, hg⟩ := hx
    have hi2 := (List.getElem?_eq_some_iff.mp hu).1
    have hgD : g ≠ D := ne_of_none hg hD
    have hg' := k _ _ hg (ne_of hg hd7 (by intro z; cases z))
    obtain ⟨kvs, hd⟩ := pp.at
    refine ⟨rfl, yes_ite ?_⟩
    refine ⟨_, rfl, d, c, 1240 + i, 2, rfl, pp, by omega, by decide, by decide, fun H9 r r0 r1 k9 p9 => ⟨rfl, _, rfl, ?_⟩⟩
    have hg9 := k9 _ _ hg' (ne_of hg' hd (by intro z; cases z))
    have keep9 : ∀ v u, (∃ b, v = V.ref b ∧ b ≠ D ∧ (H' b = some (.lst (rwVs u)) ∨ H' b = some (.tup (rwVs u)))) → ∃ b, v = V.ref b ∧ b ≠ D ∧ (H9 b = some (.lst (rwVs u)) ∨ H9 b = some (.tup (rwVs u))) := fun v u ⟨b, e, ne, h⟩ =>
      ⟨b, e, ne, h.imp (fun h => k9 _ _ h (ne_of h hd (by intro z; cases z))) fun h => k9 _ _ h (ne_of h hd (by intro z; cases z))⟩
    refine ite2 (fun _ => ?_) (fun _ => ?_)
    · refine ⟨_, rfl, g, _, rfl, .inr (SqT.of hg9), fun l hl => ?_⟩
      have sl := same_upd (o := .lst (rwVs u)) hl
      have nlD : l ≠ D := fun z => by rw [z, k9 _ _ hD2 nDd] at hl; cases hl
      exact k1 rfl _ _ ⟨(k.trans k9).trans (Same.kp sl), p9.same sl⟩ (sl _ _ (k9 _ _ hD2 nDd)) (fun v u h => by
        obtain ⟨b, e, ne, h⟩ := keep9 v u h
        exact ⟨b, e, ne, h.imp (sl _ _) (sl _ _)⟩) ⟨l, rfl, nlD, .inl upd_same⟩
    · exact ⟨_, rfl, k1 rfl _ _ ⟨k.trans k9, p9⟩ (k9 _ _ hD2 nDd) keep9 ⟨g, rfl, hgD, .inr hg9⟩⟩
  subst e1
  dsimp only [gName]
  have t8 := tabs_kp t7 p7' k8
  have hra8 := k8 _ _ hra7 nrd
  have hsa8 := k8 _ _ hsa nsd
  have hoa8 := k8 _ _ hoa7 (ne_of hoa7 hd7 (by intro z; cases z))
  have pr8 := paired_mono (fun _ _ h => RwT.kp hd7 k8 h) pr7
  have pu8 := paired_mono (fun _ _ h => RwT.kp hd7 k8 h) pu7
  have gus := gu.perm pm
  have odr : rs.map (·.1) = ordW z (rs.map (·.1)) := oo.symm
  have odu : rs.map (·.1) = ordW z (us.map (·.1)) := by
    rw [odr]
    exact ordW_uniq ((pm.map _).symm) (fun p hp => ok.wd p hp)
  -- two trees
  refine ⟨_, rfl, _, rfl, fun x dx hx hdx hne => mk_tree' lz hta pt8 gus pm odu t8 x dx hx hdx hne _ fun H9 s9 tx => ⟨rfl, ?_⟩⟩
  have hra9 := s9.get hra8
  have pr9 := paired_mono (fun _ _ h => RwT.sm s9 h) pr8
  refine ⟨_, rfl, _, rfl, fun x2 dx2 hx2 hdx2 hne2 => mk_tree' lz hra9 (paired_mono (fun _ _ h => RwT.e h) pr9) gu (List.Perm.refl _) odr s9.2 x2 dx2 hx2 hdx2 hne2 _ fun H10 s10 tx2 => ⟨rfl, ?_⟩⟩
  refine ⟨_, _, rfl, ?_⟩
  have sA := s9.trans s10
  have tx' := tx.sm s10
  have hta10 := sA.get hta
  refine ⟨_, rfl, .inl ⟨rfl, _, SqL.of hta10⟩, ta, _, _, rfl, rfl, hta10, ?_, ?_⟩
  · have := pt8.length
    rw [sizeLine_eq]
    omega
  have p10 : Pen H10 d c 1540 := Pen.sm p8 sA
  have nrt : ra ≠ ta := ne_of_none hra7 n7
  have nst : sa ≠ ta := ne_of_none hsa n7
  have not_ : oa ≠ ta := ne_of_none hoa7 n7
  have lw : LwAt (tabs T) T.c_Tree d c x ra oa sa z acc ys rs us 1540 (upd H10 ta (.lst (tacc ++ [.non]))) :=
    ⟨Pen.put p7' n7 p10, tabs_put sA.2 hta10 (by intro ps z; cases z) (by intro c q z; unfold CodeO at z; cases z), TreeAt.putL tx' hta10, by rw [upd_ne nrt]; exact sA.get hra8,
      paired_mono (fun _ _ h => (RwT.sm sA h).putL hta10) pr8, by rw [upd_ne not_]; exact sA.get hoa8, by rw [upd_ne nst]; exact sA.get hsa8, paired_mono (fun _ _ h => (RwT.sm sA h).putL hta10) pu8⟩
  have tx2' := TreeAt.putL (ys := tacc ++ [.non]) tx2 hta10
  generalize upd H10 ta (.lst (tacc ++ [.non])) = H11 at lw tx2'
  have hl200 : ∀ r ∈ rs, r.1.length ≤ 200 := fun r hr => (gu.ok r hr).l200
  have told : ∀ (H' : Hp) (R : VK) (σ : L2.St) (n : Nat), LwAt (tabs T) T.c_Tree d c x ra oa sa z acc ys rs us n H' → σ[8]? = some (some (.ref x)) → σ[2]? = some (some (.str (sw z))) → σ[5]? = some (some (.ref ra)) → (∀ H'', Same H' H'' → R (.bl true) H'') →
      tCall (spTold T.c_Tree) [] E0 (tCons (tVar 8) (tCons (tVar 2) (tCons (tVar 5) tNil))) σ H' R := fun H' R σ n l h8 h2 h5 k =>
    ⟨_, h8, _, h2, _, h5, x, z, ra, acc, rs, rfl, l.tree, l.ra, l.pr, by omega, hl200, k⟩
  refine told H11 _ _ 1540 lw rfl rfl rfl fun H12 s12 => ⟨_, rfl, iteF ?_⟩
  have lw12 := lw.same s12
  have tx12 := tx2'.same s12
  obtain ⟨dx1, t1', d1', e1', m1', vs1', us1', i1, _⟩ := lw12.tree.ex
  obtain ⟨dx2', t2', d2', e2', m2', vs2', us2', i2, _⟩ := tx12.ex
  refine ⟨_, rfl, _, rfl, x, x2, dx1, dx2', _, _, rfl, rfl, i1, i2, x, x2, z, z, rs, rs, rfl, lw12.tree, tx12, _, rfl, _, rfl, ?_⟩
  rw [decide_eq_true (show z = z ∧ rs = rs from ⟨rfl, rfl⟩)]
  refine iteF ?_
  refine ⟨_, rfl, _, rfl, x, x2, dx1, dx2', _, _, rfl, rfl, i1, i2, x, x2, z, z, rs, rs, rfl, lw12.tree, tx12, _, rfl, _, rfl, ?_⟩
  rw [decide_eq_true (show z = z ∧ rs = rs from ⟨rfl, rfl⟩)]
  refine iteF ?_
  refine ⟨_, rfl, _, rfl, x, ra, dx1, _, acc, rfl, rfl, i1, lw12.ra, ?_⟩
  refine ⟨_, rfl, _, _, _, _, _, rfl, .own _, .base (.lst lw12.ra), T.kl_Tree, _, rfl, rfl, i1, lw12.ra, _, rfl, iteF ?_⟩
  -- at places and near them
  refine nextS ?_
  dsimp only
  refine ⟨_, rfl, by decide, by decide, ?_⟩
  refine for_range (fun k σ H' => ∃ v10 v11, σ = [some (.ref a), some (.ref d), some (.str (sw z)), some (.ref oa), v4, some (.ref ra), some (.ref sa), some (.ref ta), some (.ref x), some (.ref x2), v10, v11, none, none, none, none] ∧ LwAt (tabs T) T.c_Tree d c x ra oa sa z acc ys rs us (1540 + 4 * k) H')
    ⟨_, _, rfl, lw12⟩ (fun k σ H13 hk ⟨v10, v11, e, l13⟩ => ?_) (fun σ H13 ⟨v10, v11, e, l13⟩ => ?_)
  · subst e
    have hk3 : k < 3 := hk
    have hr0 : 0 < rs.length := by
      obtain ⟨r, hr, _⟩ := List.mem_map.mp gu.root
      exact List.length_pos_of_mem hr
    refine ⟨_, rfl, _, rfl, _, rfl, d, c, oa, 1540 + 4 * k, z, rs.map (·.1), rfl, l13.pen, by omega, lz, l13.oa, by rw [List.length_map]; exact hr0, by rw [List.length_map]; omega, fun p hp => ok.l200 p hp, fun H14 nb vs4 l4 hv4 hnb k14 p14 => ⟨nb, rfl, ⟨_, SqL.of hnb⟩, ?_⟩⟩
    have l14 := l13.kp k14 p14
    refine for_it (walk_list (K := K) (a := nb) (xs := vs4)) (fun i σ H' => ∃ v11, σ = [some (.ref a), some (.ref d), some (.str (sw z)), some (.ref oa), v4, some (.ref ra), some (.ref sa), some (.ref ta), some (.ref x), some (.ref x2), some (.int (0 + (k : Int))), v11, none, none, none, none] ∧
        LwAt (tabs T) T.c_Tree d c x ra oa sa z acc ys rs us (1540 + 4 * k + 4) H' ∧ H' nb = some (.lst vs4) ∧ ∀ v ∈ vs4, PlN H' v)
      ⟨_, rfl, l14, hnb, hv4⟩ (fun i σ H' _ ⟨_, _, _, h, _⟩ => SqL.of h) (fun i v σ H15 H16 hi ⟨v11, e, l15, hnb15, hv15⟩ y => ?_) (fun σ H15 ⟨v11, e, l15, hnb15, hv15⟩ => ?_)
    · obtain ⟨rfl, hv⟩ := y
      subst e
      refine ⟨_, rfl, _, rfl, _, rfl, _, rfl, _, rfl, x, z, oa, ra, acc, rs, v, rfl, l15.tree, gu.nd, by omega, hl200, z26, l15.oa, l15.ra, l15.pr, hv15 v (List.mem_of_getElem? hv), l15.tabs, fun H17 s17 => ⟨_, rfl, iteF ?_⟩⟩
      exact ⟨_, rfl, l15.sm s17, s17.get hnb15, fun u hu => (hv15 u hu).sm s17⟩
    · subst e
      exact ⟨_, _, rfl, l15.up (by omega)⟩
  subst e
  dsimp only
  -- one thing changed
  refine ⟨_, rfl, _, rfl, _, rfl, d, c, ra, _, z, acc, rs, rfl, l13.pen, by omega, lz, l13.ra, l13.pr, gu, by omega, odr, fun p hp e => ok.last p hp e, fun H14 t b2 z' us' xs' ch ht hb2 prx k14 p14 => ?_⟩
  have l14 := l13.kp k14 p14
  refine ⟨t, _, rfl, SqT.of ht, rfl, _, _, rfl, _, _, rfl, rfl, ?_⟩
  obtain ⟨rs', pm', od'⟩ := sort_rows z' us'
  obtain ⟨dx3, t3', d3', e3', m3', vs3', us3', i3, _⟩ := l14.tree.ex
  refine ⟨_, rfl, _, rfl, _, rfl, fun x3 dx3' hx3 hdx3 hne3 => mk_tree' ch.lz hb2 (paired_mono (fun _ _ h => RwT.e h) prx) ch.gu pm' od' l14.tabs x3 dx3' hx3 hdx3 hne3 _ fun H15 s15 tx3 => ⟨rfl, ?_⟩⟩
  have l15 := l14.sm s15
  obtain ⟨dx4, t4', d4', e4', m4', vs4', us4', i4, _⟩ := tx3.ex
  refine ⟨x, x3, dx3, dx4, _, _, rfl, rfl, s15.get i3, i4, x, x3, z, z', rs, rs', rfl, l15.tree, tx3, _, rfl, _, rfl, ?_⟩
  rw [decide_eq_false (ch.ne rs' pm' od')]
  refine iteF ?_
  refine told H15 _ _ _ l15 rfl rfl rfl fun H16 s16 => ⟨_, rfl, iteF ?_⟩
  have l16 := l15.same s16
  refine nextS ?_
  dsimp only
  exact ⟨_, rfl, _, rfl, _, rfl, z, ra, sa, acc, ys, rs, us, rfl, lz, l16.ra, l16.pr, l16.sa, l16.pu, pm, gu, by omega, l16.tabs, fun H17 _ => q H17⟩
end
end Toy
set_option Elab.async false
set_option linter.all false
set_option maxRecDepth 100000
set_option maxHeartbeats 4000000
namespace Toy
open PySem L2 Sh
abbrev PP : Program := (PySem.Challenge.rw_treeshed_k01_whole_trees_read).prog
def hFa : List He.Fa := [.free "len", .free "isinstance", .free "int", .free "list", .free "sorted", .free "abs", .free "range", .free "tuple", .free "max", .free "all", .free "enumerate", .free "str", .free "bool", .free "NotImplemented", .free "dict", .free "super", .glo "ShedError", .glo "NoPlace", .glo "Tree", .cls "Tree", .noat "Tree" "letters", .noat "Tree" "rows", .noat "Tree" "size", .noat "Tree" "height", .noat "Tree" "triples", .noat "Tree" "ways", .str "SMALL" "abcdefghijklmnopqrstuvwxyz", .int "MOST_LETTERS" 200, .int "MOST_PLACES" 2000, .int "MOST_VALUE" 9, .glo "is_letters", .glo "is_word", .glo "is_value", .glo "is_row", .glo "in_order", .glo "values_of", .glo "beginnings", .mkr "Tree", .meth "Tree" "__eq__", .meth "Tree" "has", .meth "Tree" "row", .meth "Tree" "below", .meth "Tree" "value_of", .meth "Tree" "word_items", .glo "_law_pen", .glo "_law_draw", .glo "_law_pick", .glo "_law_letters", .glo "_law_places", .glo "_law_row", .glo "_law_shuffled", .glo "_law_ordered", .glo "_law_no_place", .glo "_law_is_row", .glo "_law_near", .glo "_law_right_at", .glo "_law_right_told", .glo "_law_right_of_kept", .glo "_law_changed", .glo "law"]
def hFn : List He.DefD := [⟨("is_letters", none), "is_letters", "is_letters", defArgs s_is_letters, defBody s_is_letters, defScope s_is_letters, [], []⟩, ⟨("is_word", none), "is_word", "is_word", defArgs s_is_word, defBody s_is_word, defScope s_is_word, [], []⟩, ⟨("is_value", none), "is_value", "is_value", defArgs s_is_value, defBody s_is_value, defScope s_is_value, [], []⟩, ⟨("is_row", none), "is_row", "is_row", defArgs s_is_row, defBody s_is_row, defScope s_is_row, [], []⟩, ⟨("in_order", none), "in_order", "in_order", defArgs s_in_order, defBody s_in_order, defScope s_in_order, [], []⟩, ⟨("values_of", none), "values_of", "values_of", defArgs s_values_of, defBody s_values_of, defScope s_values_of, [], []⟩, ⟨("beginnings", none), "beginnings", "beginnings", defArgs s_beginnings, defBody s_beginnings, defScope s_beginnings, [], []⟩, ⟨("Tree", some "__init__"), "__init__", "Tree.__init__", defArgs s_Tree_init, defBody s_Tree_init, defScope s_Tree_init, [], []⟩, ⟨("Tree", some "__eq__"), "__eq__", "Tree.__eq__", defArgs s_Tree_eq, defBody s_Tree_eq, defScope s_Tree_eq, [], []⟩, ⟨("Tree", some "has"), "has", "Tree.has", defArgs s_Tree_has, defBody s_Tree_has, defScope s_Tree_has, [], []⟩, ⟨("Tree", some "row"), "row", "Tree.row", defArgs s_Tree_row, defBody s_Tree_row, defScope s_Tree_row, [], []⟩, ⟨("Tree", some "below"), "below", "Tree.below", defArgs s_Tree_below, defBody s_Tree_below, defScope s_Tree_below, [], []⟩, ⟨("Tree", some "value_of"), "value_of", "Tree.value_of", defArgs s_Tree_value_of, defBody s_Tree_value_of, defScope s_Tree_value_of, [], []⟩, ⟨("Tree", some "word_items"), "word_items", "Tree.word_items", defArgs s_Tree_word_items, defBody s_Tree_word_items, defScope s_Tree_word_items, [], []⟩, ⟨("_law_pen", none), "_law_pen", "_law_pen", defArgs s_l_pen, defBody s_l_pen, defScope s_l_pen, [], []⟩, ⟨("_law_draw", none), "_law_draw", "_law_draw", defArgs s_l_draw, defBody s_l_draw, defScope s_l_draw, [], []⟩, ⟨("_law_pick", none), "_law_pick", "_law_pick", defArgs s_l_pick, defBody s_l_pick, defScope s_l_pick, [], []⟩, ⟨("_law_letters", none), "_law_letters", "_law_letters", defArgs s_l_letters, defBody s_l_letters, defScope s_l_letters, [], []⟩, ⟨("_law_places", none), "_law_places", "_law_places", defArgs s_l_places, defBody s_l_places, defScope s_l_places, [], []⟩, ⟨("_law_row", none), "_law_row", "_law_row", defArgs s_l_row, defBody s_l_row, defScope s_l_row, [], []⟩, ⟨("_law_shuffled", none), "_law_shuffled", "_law_shuffled", defArgs s_l_shuffled, defBody s_l_shuffled, defScope s_l_shuffled, [], []⟩, ⟨("_law_ordered", none), "_law_ordered", "_law_ordered", defArgs s_l_ordered, defBody s_l_ordered, defScope s_l_ordered, [], []⟩, ⟨("_law_no_place", none), "_law_no_place", "_law_no_place", defArgs s_l_no_place, defBody s_l_no_place, defScope s_l_no_place, [], []⟩, ⟨("_law_is_row", none), "_law_is_row", "_law_is_row", defArgs s_l_is_row, defBody s_l_is_row, defScope s_l_is_row, [], []⟩, ⟨("_law_near", none), "_law_near", "_law_near", defArgs s_l_near, defBody s_l_near, defScope s_l_near, [], []⟩, ⟨("_law_right_at", none), "_law_right_at", "_law_right_at", defArgs s_l_right_at, defBody s_l_right_at, defScope s_l_right_at, [], []⟩, ⟨("_law_right_told", none), "_law_right_told", "_law_right_told", defArgs s_l_right_told, defBody s_l_right_told, defScope s_l_right_told, [], []⟩, ⟨("_law_right_of_kept", none), "_law_right_of_kept", "_law_right_of_kept", defArgs s_l_right_of_kept, defBody s_l_right_of_kept, defScope s_l_right_of_kept, [], []⟩, ⟨("_law_changed", none), "_law_changed", "_law_changed", defArgs s_l_changed, defBody s_l_changed, defScope s_l_changed, [], []⟩, ⟨("law", none), "law", "law", defArgs s_law, defBody s_law, defScope s_law, [], []⟩]
def hEx : List (PySem.W.Frag → Bool) := [fun K => (PySem.W.clsIn K (He.ga K "ShedError")).isSome,
  fun K => decide (PySem.W.typeIn K (.ref (He.ga K "ShedError")) = some (.type "type")),
  fun K => decide (PySem.W.specialIn K (.builtin "object.__class__") "__get__" = some (some (.builtin "getset_descriptor.__get__"))),
  fun K => decide (PySem.W.takesIn K (.builtin "object.__class__") = some true),
  fun K => xclsB K (He.ga K "ShedError") (He.ga K "NoPlace"),
  fun K => xinitB PP.main.file K (He.ga K "NoPlace") (He.ma K (He.ga K "NoPlace") "__init__") "NoPlace.__init__",
  fun K => decide (PySem.W.nsIn K cStatics "thirdparty.any" = some none),
  fun K => decide (PySem.W.findIn K (.ref (He.ga K "NoPlace")) "place" = some none),
  fun K => decide ([He.ga K "NoPlace", He.ga K "ShedError"].Nodup),
  fun K => decide (PySem.W.findIn K (.ref (He.ga K "Tree")) "__eq__" = some (some (.ref (He.ma K (He.ga K "Tree") "__eq__")))),
  fun K => PySem.W.isFn K (.ref (He.ma K (He.ga K "Tree") "__eq__")),
  fun K => decide (PySem.W.findIn K (.ref (He.ga K "Tree")) "__ne__" = some (some (.builtin "object.__ne__"))),
  fun K => decide (PySem.W.mroIn K (He.ga K "Tree") (.type "object") = some true),
  fun K => decide (PySem.W.mroIn K (He.ga K "Tree") (.type "list") = some false),
  fun K => decide (PySem.W.mroIn K (He.ga K "Tree") (.type "tuple") = some false),
  fun K => decide (PySem.W.findIn K (.ref (He.ga K "Tree")) "__class__" = some (some (.builtin "object.__class__"))),
  fun K => decide (PySem.W.kitOne K (.type "list") (.ref (He.ga K "Tree")) = some false),
  fun K => decide ([He.tabOf K (He.codeOf K ("in_order", none)), He.tabOf K (He.codeOf K ("_law_ordered", none)), He.tabOf K (He.codeOf K ("_law_right_at", none))].Nodup)]
def hXs : List XD := [⟨"NoPlace", "NoPlace.__init__", s_x_NoPlace⟩]
abbrev Says (K : PySem.W.Frag) : Prop := SaysX hFa hFn hEx hXs K
def lawAt : Nat := 37
def loose : List PySem.Str := (["__name__", "ShedError", "BadLetters", "TooMany", "BadRow", "Lone", "NoPlace", "BadItem", "SMALL", "MOST_LETTERS", "MOST_PLACES", "MOST_VALUE", "is_letters", "is_word", "is_value", "is_row", "in_order", "values_of", "beginnings", "Tree", "_law_pen", "_law_draw", "_law_pick", "_law_letters", "_law_places", "_law_row", "_law_shuffled", "_law_ordered", "_law_no_place", "_law_is_row"] : List PySem.Str) ++ (["_law_near", "_law_right_at", "_law_right_told", "_law_right_of_kept", "_law_changed"] : List PySem.Str)
theorem IXe_NoPlace {K : PySem.W.Frag} {h : Heap} {mg : Str → Option Value} (X : K.In h) (G : h.Ns mainGlobals mg) (c : Says K) : ∃ fd, XInit PP K mg (He.ga K "NoPlace") (He.ma K (He.ga K "NoPlace") "__init__") "NoPlace.__init__" s_x_NoPlace fd := (xinit_of (P := PP) (mg := mg) (d := ⟨"NoPlace", "NoPlace.__init__", s_x_NoPlace⟩) (xclsB_ok (c.e 4 (f := fun K => xclsB K (He.ga K "ShedError") (He.ga K "NoPlace")) rfl)) (c.x 0 rfl) (c.e 5 (f := fun K => xinitB PP.main.file K (He.ga K "NoPlace") (He.ma K (He.ga K "NoPlace") "__init__") "NoPlace.__init__") rfl) (He.free_ok X G (c.d.fact 15 (f := .free "super") rfl)) (of_decide_eq_true (c.e 6 (f := fun K => decide (PySem.W.nsIn K cStatics "thirdparty.any" = some none)) rfl)) (by decide +kernel) ⟨_, rfl, rfl⟩ (by decide +kernel) (by decide +kernel) (by decide +kernel))
theorem IX_NoPlace {K : PySem.W.Frag} {h : Heap} {mg : Str → Option Value} (X : K.In h) (G : h.Ns mainGlobals mg) (c : Says K) : XInit PP K mg (He.ga K "NoPlace") (He.ma K (He.ga K "NoPlace") "__init__") "NoPlace.__init__" s_x_NoPlace (IXe_NoPlace X G c).choose := (IXe_NoPlace X G c).choose_spec
def hTf : List He.Defn := [("in_order", none), ("_law_ordered", none), ("_law_right_at", none)]
def hCm : List CD := [⟨"Tree", "of", "Tree.of", s_Tree_of⟩]
abbrev SaysT (h : Heap) (K : PySem.W.Frag) : Prop := SaysXT hFa hFn hEx hXs hTf hCm h K
noncomputable def tx_of {K : PySem.W.Frag} {h : Heap} {mg : Str → Option Value} (X : K.In h) (G : h.Ns mainGlobals mg) (c : SaysT h K) : Tx PP K mg where
  b_len := He.free_ok X G (c.s.d.fact 0 (f := .free "len") rfl)
  b_isinstance := He.free_ok X G (c.s.d.fact 1 (f := .free "isinstance") rfl)
  b_int := He.free_ok X G (c.s.d.fact 2 (f := .free "int") rfl)
  b_list := He.free_ok X G (c.s.d.fact 3 (f := .free "list") rfl)
  b_sorted := He.free_ok X G (c.s.d.fact 4 (f := .free "sorted") rfl)
  b_abs := He.free_ok X G (c.s.d.fact 5 (f := .free "abs") rfl)
  b_range := He.free_ok X G (c.s.d.fact 6 (f := .free "range") rfl)
  b_tuple := He.free_ok X G (c.s.d.fact 7 (f := .free "tuple") rfl)
  b_max := He.free_ok X G (c.s.d.fact 8 (f := .free "max") rfl)
  b_all := He.free_ok X G (c.s.d.fact 9 (f := .free "all") rfl)
  b_enumerate := He.free_ok X G (c.s.d.fact 10 (f := .free "enumerate") rfl)
  b_str := He.free_ok X G (c.s.d.fact 11 (f := .free "str") rfl)
  b_bool := He.free_ok X G (c.s.d.fact 12 (f := .free "bool") rfl)
  b_NotImplemented := He.free_ok X G (c.s.d.fact 13 (f := .free "NotImplemented") rfl)
  b_dict := He.free_ok X G (c.s.d.fact 14 (f := .free "dict") rfl)
  b_super := He.free_ok X G (c.s.d.fact 15 (f := .free "super") rfl)
  c_ShedError := He.ga K "ShedError"
  m_ShedError := He.glo_ok X G (c.s.d.fact 16 (f := .glo "ShedError") rfl)
  iS := (c.s.e 0 (f := fun K => (PySem.W.clsIn K (He.ga K "ShedError")).isSome) rfl)
  tS := of_decide_eq_true (c.s.e 1 (f := fun K => decide (PySem.W.typeIn K (.ref (He.ga K "ShedError")) = some (.type "type"))) rfl)
  o_get := of_decide_eq_true (c.s.e 2 (f := fun K => decide (PySem.W.specialIn K (.builtin "object.__class__") "__get__" = some (some (.builtin "getset_descriptor.__get__")))) rfl)
  o_tk := of_decide_eq_true (c.s.e 3 (f := fun K => decide (PySem.W.takesIn K (.builtin "object.__class__") = some true)) rfl)
  c_NoPlace := He.ga K "NoPlace"
  m_NoPlace := He.glo_ok X G (c.s.d.fact 17 (f := .glo "NoPlace") rfl)
  x_NoPlace := xclsB_ok (c.s.e 4 (f := fun K => xclsB K (He.ga K "ShedError") (He.ga K "NoPlace")) rfl)
  a_x_NoPlace := He.ma K (He.ga K "NoPlace") "__init__"
  fd_x_NoPlace := (IXe_NoPlace X G c.s).choose
  i_NoPlace := IX_NoPlace X G c.s
  nf_NoPlace_place := of_decide_eq_true (c.s.e 7 (f := fun K => decide (PySem.W.findIn K (.ref (He.ga K "NoPlace")) "place" = some none)) rfl)
  kb_NoPlace_1 := kbn_x (IX_NoPlace X G c.s) fun cc kV doc pm an cda ct us ws h1 h2 => match us, ws, h1, h2 with | [_, _], [], _, _ => rfl
  xnd := of_decide_eq_true (c.s.e 8 (f := fun K => decide ([He.ga K "NoPlace", He.ga K "ShedError"].Nodup)) rfl)
  c_Tree := He.ga K "Tree"
  m_Tree := He.glo_ok X G (c.s.d.fact 18 (f := .glo "Tree") rfl)
  cl_Tree := He.cls_ok (c.s.d.fact 19 (f := .cls "Tree") rfl)
  na_Tree_letters := He.noat_ok (c.s.d.fact 20 (f := .noat "Tree" "letters") rfl)
  na_Tree_rows := He.noat_ok (c.s.d.fact 21 (f := .noat "Tree" "rows") rfl)
  na_Tree_size := He.noat_ok (c.s.d.fact 22 (f := .noat "Tree" "size") rfl)
  na_Tree_height := He.noat_ok (c.s.d.fact 23 (f := .noat "Tree" "height") rfl)
  na_Tree_triples := He.noat_ok (c.s.d.fact 24 (f := .noat "Tree" "triples") rfl)
  na_Tree_ways := He.noat_ok (c.s.d.fact 25 (f := .noat "Tree" "ways") rfl)
  m_SMALL := He.str_ok X G (c.s.d.fact 26 (f := .str "SMALL" "abcdefghijklmnopqrstuvwxyz") rfl)
  m_MOST_LETTERS := He.int_ok X G (c.s.d.fact 27 (f := .int "MOST_LETTERS" 200) rfl)
  m_MOST_PLACES := He.int_ok X G (c.s.d.fact 28 (f := .int "MOST_PLACES" 2000) rfl)
  m_MOST_VALUE := He.int_ok X G (c.s.d.fact 29 (f := .int "MOST_VALUE" 9) rfl)
  a_is_letters := (He.ga K "is_letters")
  fd_is_letters := (c.s.d.def_ 0 (d := ⟨("is_letters", none), "is_letters", "is_letters", defArgs s_is_letters, defBody s_is_letters, defScope s_is_letters, [], []⟩) rfl).choose
  F_is_letters := fun_of (st := s_is_letters) (c.s.d.def_ 0 (d := ⟨("is_letters", none), "is_letters", "is_letters", defArgs s_is_letters, defBody s_is_letters, defScope s_is_letters, [], []⟩) rfl).choose_spec
  bi_is_letters := (fun_of (st := s_is_letters) (c.s.d.def_ 0 (d := ⟨("is_letters", none), "is_letters", "is_letters", defArgs s_is_letters, defBody s_is_letters, defScope s_is_letters, [], []⟩) rfl).choose_spec).binds (ps := ["letters"]) fun _ _ _ _ _ _ us hl => match us, hl with | [_], _ => rfl
  m_is_letters := He.glo_ok X G (c.s.d.fact 30 (f := .glo "is_letters") rfl)
  a_is_word := (He.ga K "is_word")
  fd_is_word := (c.s.d.def_ 1 (d := ⟨("is_word", none), "is_word", "is_word", defArgs s_is_word, defBody s_is_word, defScope s_is_word, [], []⟩) rfl).choose
  F_is_word := fun_of (st := s_is_word) (c.s.d.def_ 1 (d := ⟨("is_word", none), "is_word", "is_word", defArgs s_is_word, defBody s_is_word, defScope s_is_word, [], []⟩) rfl).choose_spec
  bi_is_word := (fun_of (st := s_is_word) (c.s.d.def_ 1 (d := ⟨("is_word", none), "is_word", "is_word", defArgs s_is_word, defBody s_is_word, defScope s_is_word, [], []⟩) rfl).choose_spec).binds (ps := ["letters", "word"]) fun _ _ _ _ _ _ us hl => match us, hl with | [_, _], _ => rfl
  m_is_word := He.glo_ok X G (c.s.d.fact 31 (f := .glo "is_word") rfl)
  a_is_value := (He.ga K "is_value")
  fd_is_value := (c.s.d.def_ 2 (d := ⟨("is_value", none), "is_value", "is_value", defArgs s_is_value, defBody s_is_value, defScope s_is_value, [], []⟩) rfl).choose
  F_is_value := fun_of (st := s_is_value) (c.s.d.def_ 2 (d := ⟨("is_value", none), "is_value", "is_value", defArgs s_is_value, defBody s_is_value, defScope s_is_value, [], []⟩) rfl).choose_spec
  bi_is_value := (fun_of (st := s_is_value) (c.s.d.def_ 2 (d := ⟨("is_value", none), "is_value", "is_value", defArgs s_is_value, defBody s_is_value, defScope s_is_value, [], []⟩) rfl).choose_spec).binds (ps := ["value"]) fun _ _ _ _ _ _ us hl => match us, hl with | [_], _ => rfl
  m_is_value := He.glo_ok X G (c.s.d.fact 32 (f := .glo "is_value") rfl)
  a_is_row := (He.ga K "is_row")
  fd_is_row := (c.s.d.def_ 3 (d := ⟨("is_row", none), "is_row", "is_row", defArgs s_is_row, defBody s_is_row, defScope s_is_row, [], []⟩) rfl).choose
  F_is_row := fun_of (st := s_is_row) (c.s.d.def_ 3 (d := ⟨("is_row", none), "is_row", "is_row", defArgs s_is_row, defBody s_is_row, defScope s_is_row, [], []⟩) rfl).choose_spec
  bi_is_row := (fun_of (st := s_is_row) (c.s.d.def_ 3 (d := ⟨("is_row", none), "is_row", "is_row", defArgs s_is_row, defBody s_is_row, defScope s_is_row, [], []⟩) rfl).choose_spec).binds (ps := ["letters", "row"]) fun _ _ _ _ _ _ us hl => match us, hl with | [_, _], _ => rfl
  m_is_row := He.glo_ok X G (c.s.d.fact 33 (f := .glo "is_row") rfl)
  kc_in_order := He.codeOf K ("in_order", none)
  tb_in_order := He.tabOf K (He.codeOf K ("in_order", none))
  ec_in_order := ec_of (p := ("in_order", none)) (fun_of (st := s_in_order) (c.s.d.def_ 4 (d := ⟨("in_order", none), "in_order", "in_order", defArgs s_in_order, defBody s_in_order, defScope s_in_order, [], []⟩) rfl).choose_spec)
  a_in_order := (He.ga K "in_order")
  fd_in_order := (c.s.d.def_ 4 (d := ⟨("in_order", none), "in_order", "in_order", defArgs s_in_order, defBody s_in_order, defScope s_in_order, [], []⟩) rfl).choose
  F_in_order := fun_of (st := s_in_order) (c.s.d.def_ 4 (d := ⟨("in_order", none), "in_order", "in_order", defArgs s_in_order, defBody s_in_order, defScope s_in_order, [], []⟩) rfl).choose_spec
  bi_in_order := (fun_of (st := s_in_order) (c.s.d.def_ 4 (d := ⟨("in_order", none), "in_order", "in_order", defArgs s_in_order, defBody s_in_order, defScope s_in_order, [], []⟩) rfl).choose_spec).binds (ps := ["letters", "places"]) fun _ _ _ _ _ _ us hl => match us, hl with | [_, _], _ => rfl
  m_in_order := He.glo_ok X G (c.s.d.fact 34 (f := .glo "in_order") rfl)
  a_values_of := (He.ga K "values_of")
  fd_values_of := (c.s.d.def_ 5 (d := ⟨("values_of", none), "values_of", "values_of", defArgs s_values_of, defBody s_values_of, defScope s_values_of, [], []⟩) rfl).choose
  F_values_of := fun_of (st := s_values_of) (c.s.d.def_ 5 (d := ⟨("values_of", none), "values_of", "values_of", defArgs s_values_of, defBody s_values_of, defScope s_values_of, [], []⟩) rfl).choose_spec
  bi_values_of := (fun_of (st := s_values_of) (c.s.d.def_ 5 (d := ⟨("values_of", none), "values_of", "values_of", defArgs s_values_of, defBody s_values_of, defScope s_values_of, [], []⟩) rfl).choose_spec).binds (ps := ["letters", "items"]) fun _ _ _ _ _ _ us hl => match us, hl with | [_, _], _ => rfl
  m_values_of := He.glo_ok X G (c.s.d.fact 35 (f := .glo "values_of") rfl)
  a_beginnings := (He.ga K "beginnings")
  fd_beginnings := (c.s.d.def_ 6 (d := ⟨("beginnings", none), "beginnings", "beginnings", defArgs s_beginnings, defBody s_beginnings, defScope s_beginnings, [], []⟩) rfl).choose
  F_beginnings := fun_of (st := s_beginnings) (c.s.d.def_ 6 (d := ⟨("beginnings", none), "beginnings", "beginnings", defArgs s_beginnings, defBody s_beginnings, defScope s_beginnings, [], []⟩) rfl).choose_spec
  bi_beginnings := (fun_of (st := s_beginnings) (c.s.d.def_ 6 (d := ⟨("beginnings", none), "beginnings", "beginnings", defArgs s_beginnings, defBody s_beginnings, defScope s_beginnings, [], []⟩) rfl).choose_spec).binds (ps := ["words"]) fun _ _ _ _ _ _ us hl => match us, hl with | [_], _ => rfl
  m_beginnings := He.glo_ok X G (c.s.d.fact 36 (f := .glo "beginnings") rfl)
  a_Tree_init := (He.ma K (He.ga K "Tree") "__init__")
  fd_Tree_init := (c.s.d.def_ 7 (d := ⟨("Tree", some "__init__"), "__init__", "Tree.__init__", defArgs s_Tree_init, defBody s_Tree_init, defScope s_Tree_init, [], []⟩) rfl).choose
  F_Tree_init := fun_of (st := s_Tree_init) (c.s.d.def_ 7 (d := ⟨("Tree", some "__init__"), "__init__", "Tree.__init__", defArgs s_Tree_init, defBody s_Tree_init, defScope s_Tree_init, [], []⟩) rfl).choose_spec
  bi_Tree_init := (fun_of (st := s_Tree_init) (c.s.d.def_ 7 (d := ⟨("Tree", some "__init__"), "__init__", "Tree.__init__", defArgs s_Tree_init, defBody s_Tree_init, defScope s_Tree_init, [], []⟩) rfl).choose_spec).binds (ps := ["self", "letters", "rows"]) fun _ _ _ _ _ _ us hl => match us, hl with | [_, _, _], _ => rfl
  mk_Tree := He.mkr_ok (c.s.d.fact 37 (f := .mkr "Tree") rfl)
  a_Tree_eq := (He.ma K (He.ga K "Tree") "__eq__")
  fd_Tree_eq := (c.s.d.def_ 8 (d := ⟨("Tree", some "__eq__"), "__eq__", "Tree.__eq__", defArgs s_Tree_eq, defBody s_Tree_eq, defScope s_Tree_eq, [], []⟩) rfl).choose
  F_Tree_eq := fun_of (st := s_Tree_eq) (c.s.d.def_ 8 (d := ⟨("Tree", some "__eq__"), "__eq__", "Tree.__eq__", defArgs s_Tree_eq, defBody s_Tree_eq, defScope s_Tree_eq, [], []⟩) rfl).choose_spec
  bi_Tree_eq := (fun_of (st := s_Tree_eq) (c.s.d.def_ 8 (d := ⟨("Tree", some "__eq__"), "__eq__", "Tree.__eq__", defArgs s_Tree_eq, defBody s_Tree_eq, defScope s_Tree_eq, [], []⟩) rfl).choose_spec).binds (ps := ["self", "other"]) fun _ _ _ _ _ _ us hl => match us, hl with | [_, _], _ => rfl
  me_Tree_eq := He.meth_ok (c.s.d.fact 38 (f := .meth "Tree" "__eq__") rfl)
  a_Tree_has := (He.ma K (He.ga K "Tree") "has")
  fd_Tree_has := (c.s.d.def_ 9 (d := ⟨("Tree", some "has"), "has", "Tree.has", defArgs s_Tree_has, defBody s_Tree_has, defScope s_Tree_has, [], []⟩) rfl).choose
  F_Tree_has := fun_of (st := s_Tree_has) (c.s.d.def_ 9 (d := ⟨("Tree", some "has"), "has", "Tree.has", defArgs s_Tree_has, defBody s_Tree_has, defScope s_Tree_has, [], []⟩) rfl).choose_spec
  bi_Tree_has := (fun_of (st := s_Tree_has) (c.s.d.def_ 9 (d := ⟨("Tree", some "has"), "has", "Tree.has", defArgs s_Tree_has, defBody s_Tree_has, defScope s_Tree_has, [], []⟩) rfl).choose_spec).binds (ps := ["self", "place"]) fun _ _ _ _ _ _ us hl => match us, hl with | [_, _], _ => rfl
  me_Tree_has := He.meth_ok (c.s.d.fact 39 (f := .meth "Tree" "has") rfl)
  a_Tree_row := (He.ma K (He.ga K "Tree") "row")
  fd_Tree_row := (c.s.d.def_ 10 (d := ⟨("Tree", some "row"), "row", "Tree.row", defArgs s_Tree_row, defBody s_Tree_row, defScope s_Tree_row, [], []⟩) rfl).choose
  F_Tree_row := fun_of (st := s_Tree_row) (c.s.d.def_ 10 (d := ⟨("Tree", some "row"), "row", "Tree.row", defArgs s_Tree_row, defBody s_Tree_row, defScope s_Tree_row, [], []⟩) rfl).choose_spec
  bi_Tree_row := (fun_of (st := s_Tree_row) (c.s.d.def_ 10 (d := ⟨("Tree", some "row"), "row", "Tree.row", defArgs s_Tree_row, defBody s_Tree_row, defScope s_Tree_row, [], []⟩) rfl).choose_spec).binds (ps := ["self", "place"]) fun _ _ _ _ _ _ us hl => match us, hl with | [_, _], _ => rfl
  me_Tree_row := He.meth_ok (c.s.d.fact 40 (f := .meth "Tree" "row") rfl)
  a_Tree_below := (He.ma K (He.ga K "Tree") "below")
  fd_Tree_below := (c.s.d.def_ 11 (d := ⟨("Tree", some "below"), "below", "Tree.below", defArgs s_Tree_below, defBody s_Tree_below, defScope s_Tree_below, [], []⟩) rfl).choose
  F_Tree_below := fun_of (st := s_Tree_below) (c.s.d.def_ 11 (d := ⟨("Tree", some "below"), "below", "Tree.below", defArgs s_Tree_below, defBody s_Tree_below, defScope s_Tree_below, [], []⟩) rfl).choose_spec
  bi_Tree_below := (fun_of (st := s_Tree_below) (c.s.d.def_ 11 (d := ⟨("Tree", some "below"), "below", "Tree.below", defArgs s_Tree_below, defBody s_Tree_below, defScope s_Tree_below, [], []⟩) rfl).choose_spec).binds (ps := ["self", "place"]) fun _ _ _ _ _ _ us hl => match us, hl with | [_, _], _ => rfl
  me_Tree_below := He.meth_ok (c.s.d.fact 41 (f := .meth "Tree" "below") rfl)
  a_Tree_value_of := (He.ma K (He.ga K "Tree") "value_of")
  fd_Tree_value_of := (c.s.d.def_ 12 (d := ⟨("Tree", some "value_of"), "value_of", "Tree.value_of", defArgs s_Tree_value_of, defBody s_Tree_value_of, defScope s_Tree_value_of, [], []⟩) rfl).choose
  F_Tree_value_of := fun_of (st := s_Tree_value_of) (c.s.d.def_ 12 (d := ⟨("Tree", some "value_of"), "value_of", "Tree.value_of", defArgs s_Tree_value_of, defBody s_Tree_value_of, defScope s_Tree_value_of, [], []⟩) rfl).choose_spec
  bi_Tree_value_of := (fun_of (st := s_Tree_value_of) (c.s.d.def_ 12 (d := ⟨("Tree", some "value_of"), "value_of", "Tree.value_of", defArgs s_Tree_value_of, defBody s_Tree_value_of, defScope s_Tree_value_of, [], []⟩) rfl).choose_spec).binds (ps := ["self", "word"]) fun _ _ _ _ _ _ us hl => match us, hl with | [_, _], _ => rfl
  me_Tree_value_of := He.meth_ok (c.s.d.fact 42 (f := .meth "Tree" "value_of") rfl)
  a_Tree_word_items := (He.ma K (He.ga K "Tree") "word_items")
  fd_Tree_word_items := (c.s.d.def_ 13 (d := ⟨("Tree", some "word_items"), "word_items", "Tree.word_items", defArgs s_Tree_word_items, defBody s_Tree_word_items, defScope s_Tree_word_items, [], []⟩) rfl).choose
  F_Tree_word_items := fun_of (st := s_Tree_word_items) (c.s.d.def_ 13 (d := ⟨("Tree", some "word_items"), "word_items", "Tree.word_items", defArgs s_Tree_word_items, defBody s_Tree_word_items, defScope s_Tree_word_items, [], []⟩) rfl).choose_spec
  bi_Tree_word_items := (fun_of (st := s_Tree_word_items) (c.s.d.def_ 13 (d := ⟨("Tree", some "word_items"), "word_items", "Tree.word_items", defArgs s_Tree_word_items, defBody s_Tree_word_items, defScope s_Tree_word_items, [], []⟩) rfl).choose_spec).binds (ps := ["self"]) fun _ _ _ _ _ _ us hl => match us, hl with | [_], _ => rfl
  me_Tree_word_items := He.meth_ok (c.s.d.fact 43 (f := .meth "Tree" "word_items") rfl)
  a_Tree_of := CD.fn K ⟨"Tree", "of", "Tree.of", s_Tree_of⟩
  fd_Tree_of := (CD.fun_ (c.cmo 0 (d := ⟨"Tree", "of", "Tree.of", s_Tree_of⟩) rfl) (c.cmv 0 (d := ⟨"Tree", "of", "Tree.of", s_Tree_of⟩) rfl)).choose
  F_Tree_of := (CD.fun_ (c.cmo 0 (d := ⟨"Tree", "of", "Tree.of", s_Tree_of⟩) rfl) (c.cmv 0 (d := ⟨"Tree", "of", "Tree.of", s_Tree_of⟩) rfl)).choose_spec
  bi_Tree_of := ((CD.fun_ (c.cmo 0 (d := ⟨"Tree", "of", "Tree.of", s_Tree_of⟩) rfl) (c.cmv 0 (d := ⟨"Tree", "of", "Tree.of", s_Tree_of⟩) rfl)).choose_spec).binds (ps := ["cls", "letters", "items"]) fun _ _ _ _ _ _ us hl => match us, hl with | [_, _, _], _ => rfl
  cr_Tree := CD.read (c.cmo 0 (d := ⟨"Tree", "of", "Tree.of", s_Tree_of⟩) rfl)
  p_Tree_of := CD.rcd K ⟨"Tree", "of", "Tree.of", s_Tree_of⟩
  cm_Tree_of := CD.met (c.cmo 0 (d := ⟨"Tree", "of", "Tree.of", s_Tree_of⟩) rfl)
  a_l_pen := (He.ga K "_law_pen")
  fd_l_pen := (c.s.d.def_ 14 (d := ⟨("_law_pen", none), "_law_pen", "_law_pen", defArgs s_l_pen, defBody s_l_pen, defScope s_l_pen, [], []⟩) rfl).choose
  F_l_pen := fun_of (st := s_l_pen) (c.s.d.def_ 14 (d := ⟨("_law_pen", none), "_law_pen", "_law_pen", defArgs s_l_pen, defBody s_l_pen, defScope s_l_pen, [], []⟩) rfl).choose_spec
  bi_l_pen := (fun_of (st := s_l_pen) (c.s.d.def_ 14 (d := ⟨("_law_pen", none), "_law_pen", "_law_pen", defArgs s_l_pen, defBody s_l_pen, defScope s_l_pen, [], []⟩) rfl).choose_spec).binds (ps := ["_law_script"]) fun _ _ _ _ _ _ us hl => match us, hl with | [_], _ => rfl
  m_l_pen := He.glo_ok X G (c.s.d.fact 44 (f := .glo "_law_pen") rfl)
  a_l_draw := (He.ga K "_law_draw")
  fd_l_draw := (c.s.d.def_ 15 (d := ⟨("_law_draw", none), "_law_draw", "_law_draw", defArgs s_l_draw, defBody s_l_draw, defScope s_l_draw, [], []⟩) rfl).choose
  F_l_draw := fun_of (st := s_l_draw) (c.s.d.def_ 15 (d := ⟨("_law_draw", none), "_law_draw", "_law_draw", defArgs s_l_draw, defBody s_l_draw, defScope s_l_draw, [], []⟩) rfl).choose_spec
  bi_l_draw := (fun_of (st := s_l_draw) (c.s.d.def_ 15 (d := ⟨("_law_draw", none), "_law_draw", "_law_draw", defArgs s_l_draw, defBody s_l_draw, defScope s_l_draw, [], []⟩) rfl).choose_spec).binds (ps := ["_law_pen_here", "_law_many"]) fun _ _ _ _ _ _ us hl => match us, hl with | [_, _], _ => rfl
  m_l_draw := He.glo_ok X G (c.s.d.fact 45 (f := .glo "_law_draw") rfl)
  a_l_pick := (He.ga K "_law_pick")
  fd_l_pick := (c.s.d.def_ 16 (d := ⟨("_law_pick", none), "_law_pick", "_law_pick", defArgs s_l_pick, defBody s_l_pick, defScope s_l_pick, [], []⟩) rfl).choose
  F_l_pick := fun_of (st := s_l_pick) (c.s.d.def_ 16 (d := ⟨("_law_pick", none), "_law_pick", "_law_pick", defArgs s_l_pick, defBody s_l_pick, defScope s_l_pick, [], []⟩) rfl).choose_spec
  bi_l_pick := (fun_of (st := s_l_pick) (c.s.d.def_ 16 (d := ⟨("_law_pick", none), "_law_pick", "_law_pick", defArgs s_l_pick, defBody s_l_pick, defScope s_l_pick, [], []⟩) rfl).choose_spec).binds (ps := ["_law_pen_here", "_law_some"]) fun _ _ _ _ _ _ us hl => match us, hl with | [_, _], _ => rfl
  m_l_pick := He.glo_ok X G (c.s.d.fact 46 (f := .glo "_law_pick") rfl)
  a_l_letters := (He.ga K "_law_letters")
  fd_l_letters := (c.s.d.def_ 17 (d := ⟨("_law_letters", none), "_law_letters", "_law_letters", defArgs s_l_letters, defBody s_l_letters, defScope s_l_letters, [], []⟩) rfl).choose
  F_l_letters := fun_of (st := s_l_letters) (c.s.d.def_ 17 (d := ⟨("_law_letters", none), "_law_letters", "_law_letters", defArgs s_l_letters, defBody s_l_letters, defScope s_l_letters, [], []⟩) rfl).choose_spec
  bi_l_letters := (fun_of (st := s_l_letters) (c.s.d.def_ 17 (d := ⟨("_law_letters", none), "_law_letters", "_law_letters", defArgs s_l_letters, defBody s_l_letters, defScope s_l_letters, [], []⟩) rfl).choose_spec).binds (ps := ["_law_pen_here", "_law_most"]) fun _ _ _ _ _ _ us hl => match us, hl with | [_, _], _ => rfl
  m_l_letters := He.glo_ok X G (c.s.d.fact 47 (f := .glo "_law_letters") rfl)
  a_l_places := (He.ga K "_law_places")
  fd_l_places := (c.s.d.def_ 18 (d := ⟨("_law_places", none), "_law_places", "_law_places", defArgs s_l_places, defBody s_l_places, defScope s_l_places, [], []⟩) rfl).choose
  F_l_places := fun_of (st := s_l_places) (c.s.d.def_ 18 (d := ⟨("_law_places", none), "_law_places", "_law_places", defArgs s_l_places, defBody s_l_places, defScope s_l_places, [], []⟩) rfl).choose_spec
  bi_l_places := (fun_of (st := s_l_places) (c.s.d.def_ 18 (d := ⟨("_law_places", none), "_law_places", "_law_places", defArgs s_l_places, defBody s_l_places, defScope s_l_places, [], []⟩) rfl).choose_spec).binds (ps := ["_law_pen_here", "_law_letters_here", "_law_many"]) fun _ _ _ _ _ _ us hl => match us, hl with | [_, _, _], _ => rfl
  m_l_places := He.glo_ok X G (c.s.d.fact 48 (f := .glo "_law_places") rfl)
  a_l_row := (He.ga K "_law_row")
  fd_l_row := (c.s.d.def_ 19 (d := ⟨("_law_row", none), "_law_row", "_law_row", defArgs s_l_row, defBody s_l_row, defScope s_l_row, [], []⟩) rfl).choose
  F_l_row := fun_of (st := s_l_row) (c.s.d.def_ 19 (d := ⟨("_law_row", none), "_law_row", "_law_row", defArgs s_l_row, defBody s_l_row, defScope s_l_row, [], []⟩) rfl).choose_spec
  bi_l_row := (fun_of (st := s_l_row) (c.s.d.def_ 19 (d := ⟨("_law_row", none), "_law_row", "_law_row", defArgs s_l_row, defBody s_l_row, defScope s_l_row, [], []⟩) rfl).choose_spec).binds (ps := ["_law_pen_here", "_law_place"]) fun _ _ _ _ _ _ us hl => match us, hl with | [_, _], _ => rfl
  m_l_row := He.glo_ok X G (c.s.d.fact 49 (f := .glo "_law_row") rfl)
  a_l_shuffled := (He.ga K "_law_shuffled")
  fd_l_shuffled := (c.s.d.def_ 20 (d := ⟨("_law_shuffled", none), "_law_shuffled", "_law_shuffled", defArgs s_l_shuffled, defBody s_l_shuffled, defScope s_l_shuffled, [], []⟩) rfl).choose
  F_l_shuffled := fun_of (st := s_l_shuffled) (c.s.d.def_ 20 (d := ⟨("_law_shuffled", none), "_law_shuffled", "_law_shuffled", defArgs s_l_shuffled, defBody s_l_shuffled, defScope s_l_shuffled, [], []⟩) rfl).choose_spec
  bi_l_shuffled := (fun_of (st := s_l_shuffled) (c.s.d.def_ 20 (d := ⟨("_law_shuffled", none), "_law_shuffled", "_law_shuffled", defArgs s_l_shuffled, defBody s_l_shuffled, defScope s_l_shuffled, [], []⟩) rfl).choose_spec).binds (ps := ["_law_pen_here", "_law_some"]) fun _ _ _ _ _ _ us hl => match us, hl with | [_, _], _ => rfl
  m_l_shuffled := He.glo_ok X G (c.s.d.fact 50 (f := .glo "_law_shuffled") rfl)
  kc_l_ordered := He.codeOf K ("_law_ordered", none)
  tb_l_ordered := He.tabOf K (He.codeOf K ("_law_ordered", none))
  ec_l_ordered := ec_of (p := ("_law_ordered", none)) (fun_of (st := s_l_ordered) (c.s.d.def_ 21 (d := ⟨("_law_ordered", none), "_law_ordered", "_law_ordered", defArgs s_l_ordered, defBody s_l_ordered, defScope s_l_ordered, [], []⟩) rfl).choose_spec)
  a_l_ordered := (He.ga K "_law_ordered")
  fd_l_ordered := (c.s.d.def_ 21 (d := ⟨("_law_ordered", none), "_law_ordered", "_law_ordered", defArgs s_l_ordered, defBody s_l_ordered, defScope s_l_ordered, [], []⟩) rfl).choose
  F_l_ordered := fun_of (st := s_l_ordered) (c.s.d.def_ 21 (d := ⟨("_law_ordered", none), "_law_ordered", "_law_ordered", defArgs s_l_ordered, defBody s_l_ordered, defScope s_l_ordered, [], []⟩) rfl).choose_spec
  bi_l_ordered := (fun_of (st := s_l_ordered) (c.s.d.def_ 21 (d := ⟨("_law_ordered", none), "_law_ordered", "_law_ordered", defArgs s_l_ordered, defBody s_l_ordered, defScope s_l_ordered, [], []⟩) rfl).choose_spec).binds (ps := ["_law_letters_here", "_law_words"]) fun _ _ _ _ _ _ us hl => match us, hl with | [_, _], _ => rfl
  m_l_ordered := He.glo_ok X G (c.s.d.fact 51 (f := .glo "_law_ordered") rfl)
  a_l_no_place := (He.ga K "_law_no_place")
  fd_l_no_place := (c.s.d.def_ 22 (d := ⟨("_law_no_place", none), "_law_no_place", "_law_no_place", defArgs s_l_no_place, defBody s_l_no_place, defScope s_l_no_place, [], []⟩) rfl).choose
  F_l_no_place := fun_of (st := s_l_no_place) (c.s.d.def_ 22 (d := ⟨("_law_no_place", none), "_law_no_place", "_law_no_place", defArgs s_l_no_place, defBody s_l_no_place, defScope s_l_no_place, [], []⟩) rfl).choose_spec
  bi_l_no_place := (fun_of (st := s_l_no_place) (c.s.d.def_ 22 (d := ⟨("_law_no_place", none), "_law_no_place", "_law_no_place", defArgs s_l_no_place, defBody s_l_no_place, defScope s_l_no_place, [], []⟩) rfl).choose_spec).binds (ps := ["_law_function"]) fun _ _ _ _ _ _ us hl => match us, hl with | [_], _ => rfl
  m_l_no_place := He.glo_ok X G (c.s.d.fact 52 (f := .glo "_law_no_place") rfl)
  a_l_is_row := (He.ga K "_law_is_row")
  fd_l_is_row := (c.s.d.def_ 23 (d := ⟨("_law_is_row", none), "_law_is_row", "_law_is_row", defArgs s_l_is_row, defBody s_l_is_row, defScope s_l_is_row, [], []⟩) rfl).choose
  F_l_is_row := fun_of (st := s_l_is_row) (c.s.d.def_ 23 (d := ⟨("_law_is_row", none), "_law_is_row", "_law_is_row", defArgs s_l_is_row, defBody s_l_is_row, defScope s_l_is_row, [], []⟩) rfl).choose_spec
  bi_l_is_row := (fun_of (st := s_l_is_row) (c.s.d.def_ 23 (d := ⟨("_law_is_row", none), "_law_is_row", "_law_is_row", defArgs s_l_is_row, defBody s_l_is_row, defScope s_l_is_row, [], []⟩) rfl).choose_spec).binds (ps := ["_law_row_here", "_law_place", "_law_value", "_law_flag"]) fun _ _ _ _ _ _ us hl => match us, hl with | [_, _, _, _], _ => rfl
  m_l_is_row := He.glo_ok X G (c.s.d.fact 53 (f := .glo "_law_is_row") rfl)
  a_l_near := (He.ga K "_law_near")
  fd_l_near := (c.s.d.def_ 24 (d := ⟨("_law_near", none), "_law_near", "_law_near", defArgs s_l_near, defBody s_l_near, defScope s_l_near, [], []⟩) rfl).choose
  F_l_near := fun_of (st := s_l_near) (c.s.d.def_ 24 (d := ⟨("_law_near", none), "_law_near", "_law_near", defArgs s_l_near, defBody s_l_near, defScope s_l_near, [], []⟩) rfl).choose_spec
  bi_l_near := (fun_of (st := s_l_near) (c.s.d.def_ 24 (d := ⟨("_law_near", none), "_law_near", "_law_near", defArgs s_l_near, defBody s_l_near, defScope s_l_near, [], []⟩) rfl).choose_spec).binds (ps := ["_law_pen_here", "_law_letters_here", "_law_places_here"]) fun _ _ _ _ _ _ us hl => match us, hl with | [_, _, _], _ => rfl
  m_l_near := He.glo_ok X G (c.s.d.fact 54 (f := .glo "_law_near") rfl)
  kc_l_right_at := He.codeOf K ("_law_right_at", none)
  tb_l_right_at := He.tabOf K (He.codeOf K ("_law_right_at", none))
  ec_l_right_at := ec_of (p := ("_law_right_at", none)) (fun_of (st := s_l_right_at) (c.s.d.def_ 25 (d := ⟨("_law_right_at", none), "_law_right_at", "_law_right_at", defArgs s_l_right_at, defBody s_l_right_at, defScope s_l_right_at, [], []⟩) rfl).choose_spec)
  a_l_right_at := (He.ga K "_law_right_at")
  fd_l_right_at := (c.s.d.def_ 25 (d := ⟨("_law_right_at", none), "_law_right_at", "_law_right_at", defArgs s_l_right_at, defBody s_l_right_at, defScope s_l_right_at, [], []⟩) rfl).choose
  F_l_right_at := fun_of (st := s_l_right_at) (c.s.d.def_ 25 (d := ⟨("_law_right_at", none), "_law_right_at", "_law_right_at", defArgs s_l_right_at, defBody s_l_right_at, defScope s_l_right_at, [], []⟩) rfl).choose_spec
  bi_l_right_at := (fun_of (st := s_l_right_at) (c.s.d.def_ 25 (d := ⟨("_law_right_at", none), "_law_right_at", "_law_right_at", defArgs s_l_right_at, defBody s_l_right_at, defScope s_l_right_at, [], []⟩) rfl).choose_spec).binds (ps := ["_law_tree", "_law_letters_here", "_law_there", "_law_rows", "_law_place"]) fun _ _ _ _ _ _ us hl => match us, hl with | [_, _, _, _, _], _ => rfl
  m_l_right_at := He.glo_ok X G (c.s.d.fact 55 (f := .glo "_law_right_at") rfl)
  a_l_right_told := (He.ga K "_law_right_told")
  fd_l_right_told := (c.s.d.def_ 26 (d := ⟨("_law_right_told", none), "_law_right_told", "_law_right_told", defArgs s_l_right_told, defBody s_l_right_told, defScope s_l_right_told, [], []⟩) rfl).choose
  F_l_right_told := fun_of (st := s_l_right_told) (c.s.d.def_ 26 (d := ⟨("_law_right_told", none), "_law_right_told", "_law_right_told", defArgs s_l_right_told, defBody s_l_right_told, defScope s_l_right_told, [], []⟩) rfl).choose_spec
  bi_l_right_told := (fun_of (st := s_l_right_told) (c.s.d.def_ 26 (d := ⟨("_law_right_told", none), "_law_right_told", "_law_right_told", defArgs s_l_right_told, defBody s_l_right_told, defScope s_l_right_told, [], []⟩) rfl).choose_spec).binds (ps := ["_law_tree", "_law_letters_here", "_law_rows"]) fun _ _ _ _ _ _ us hl => match us, hl with | [_, _, _], _ => rfl
  m_l_right_told := He.glo_ok X G (c.s.d.fact 56 (f := .glo "_law_right_told") rfl)
  a_l_right_of_kept := (He.ga K "_law_right_of_kept")
  fd_l_right_of_kept := (c.s.d.def_ 27 (d := ⟨("_law_right_of_kept", none), "_law_right_of_kept", "_law_right_of_kept", defArgs s_l_right_of_kept, defBody s_l_right_of_kept, defScope s_l_right_of_kept, [], []⟩) rfl).choose
  F_l_right_of_kept := fun_of (st := s_l_right_of_kept) (c.s.d.def_ 27 (d := ⟨("_law_right_of_kept", none), "_law_right_of_kept", "_law_right_of_kept", defArgs s_l_right_of_kept, defBody s_l_right_of_kept, defScope s_l_right_of_kept, [], []⟩) rfl).choose_spec
  bi_l_right_of_kept := (fun_of (st := s_l_right_of_kept) (c.s.d.def_ 27 (d := ⟨("_law_right_of_kept", none), "_law_right_of_kept", "_law_right_of_kept", defArgs s_l_right_of_kept, defBody s_l_right_of_kept, defScope s_l_right_of_kept, [], []⟩) rfl).choose_spec).binds (ps := ["_law_letters_here", "_law_rows", "_law_shuffled_here"]) fun _ _ _ _ _ _ us hl => match us, hl with | [_, _, _], _ => rfl
  m_l_right_of_kept := He.glo_ok X G (c.s.d.fact 57 (f := .glo "_law_right_of_kept") rfl)
  a_l_changed := (He.ga K "_law_changed")
  fd_l_changed := (c.s.d.def_ 28 (d := ⟨("_law_changed", none), "_law_changed", "_law_changed", defArgs s_l_changed, defBody s_l_changed, defScope s_l_changed, [], []⟩) rfl).choose
  F_l_changed := fun_of (st := s_l_changed) (c.s.d.def_ 28 (d := ⟨("_law_changed", none), "_law_changed", "_law_changed", defArgs s_l_changed, defBody s_l_changed, defScope s_l_changed, [], []⟩) rfl).choose_spec
  bi_l_changed := (fun_of (st := s_l_changed) (c.s.d.def_ 28 (d := ⟨("_law_changed", none), "_law_changed", "_law_changed", defArgs s_l_changed, defBody s_l_changed, defScope s_l_changed, [], []⟩) rfl).choose_spec).binds (ps := ["_law_pen_here", "_law_letters_here", "_law_rows"]) fun _ _ _ _ _ _ us hl => match us, hl with | [_, _, _], _ => rfl
  m_l_changed := He.glo_ok X G (c.s.d.fact 58 (f := .glo "_law_changed") rfl)
  a_law := (He.ga K "law")
  fd_law := (c.s.d.def_ 29 (d := ⟨("law", none), "law", "law", defArgs s_law, defBody s_law, defScope s_law, [], []⟩) rfl).choose
  F_law := fun_of (st := s_law) (c.s.d.def_ 29 (d := ⟨("law", none), "law", "law", defArgs s_law, defBody s_law, defScope s_law, [], []⟩) rfl).choose_spec
  bi_law := (fun_of (st := s_law) (c.s.d.def_ 29 (d := ⟨("law", none), "law", "law", defArgs s_law, defBody s_law, defScope s_law, [], []⟩) rfl).choose_spec).binds (ps := ["_law_script"]) fun _ _ _ _ _ _ us hl => match us, hl with | [_], _ => rfl
  m_law := He.glo_ok X G (c.s.d.fact 59 (f := .glo "law") rfl)
  eq_Tree := ⟨of_decide_eq_true (c.s.e 9 (f := fun K => decide (PySem.W.findIn K (.ref (He.ga K "Tree")) "__eq__" = some (some (.ref (He.ma K (He.ga K "Tree") "__eq__"))))) rfl), (c.s.e 10 (f := fun K => PySem.W.isFn K (.ref (He.ma K (He.ga K "Tree") "__eq__"))) rfl), of_decide_eq_true (c.s.e 11 (f := fun K => decide (PySem.W.findIn K (.ref (He.ga K "Tree")) "__ne__" = some (some (.builtin "object.__ne__")))) rfl), of_decide_eq_true (c.s.e 12 (f := fun K => decide (PySem.W.mroIn K (He.ga K "Tree") (.type "object") = some true)) rfl), of_decide_eq_true (c.s.e 13 (f := fun K => decide (PySem.W.mroIn K (He.ga K "Tree") (.type "list") = some false)) rfl), of_decide_eq_true (c.s.e 14 (f := fun K => decide (PySem.W.mroIn K (He.ga K "Tree") (.type "tuple") = some false)) rfl)⟩
  ca_Tree := of_decide_eq_true (c.s.e 15 (f := fun K => decide (PySem.W.findIn K (.ref (He.ga K "Tree")) "__class__" = some (some (.builtin "object.__class__")))) rfl)
  kl_Tree := of_decide_eq_true (c.s.e 16 (f := fun K => decide (PySem.W.kitOne K (.type "list") (.ref (He.ga K "Tree")) = some false)) rfl)
  tnd := of_decide_eq_true (c.s.e 17 (f := fun K => decide ([He.tabOf K (He.codeOf K ("in_order", none)), He.tabOf K (He.codeOf K ("_law_ordered", none)), He.tabOf K (He.codeOf K ("_law_right_at", none))].Nodup)) rfl)
end Toy
set_option Elab.async false
set_option linter.all false
set_option maxRecDepth 100000
set_option maxHeartbeats 4000000
namespace Toy
open PySem L2 Sh
/-! ### the end -/
theorem facts {w : World} {K : PySem.W.Frag} {h : Heap} {mg : Str → Option Value} {fa : Addr} (X : K.In h) (G : h.Ns mainGlobals mg) (hfa : mg ("law" : Str) = some (.ref fa)) (c : SaysT h K) :
    LamX.LawAtS PySem.Challenge.rw_treeshed_k01_whole_trees_read w K CX0 9 63 "_law_script" mg fa h := by
  have e := hfa.symm.trans (tx_of X G c).m_law
  cases e
  have m1 : ∀ q ∈ hTf, He.cT K q ∈ hTf.map (He.cT K) := fun q hq => List.mem_map.mpr ⟨q, hq, rfl⟩
  have q1 : (("in_order", none) : He.Defn) ∈ hTf := .head _
  have q2 : (("_law_ordered", none) : He.Defn) ∈ hTf := .tail _ (.head _)
  have q3 : (("_law_right_at", none) : He.Defn) ∈ hTf := .tail _ (.tail _ (.head _))
  refine ⟨(tx_of X G c).fd_law, hTf.map (He.cT K), spLaw K (tabs (tx_of X G c)), fun p hp => ?_, fun p hp => ?_, fun p hp => ?_, fun s v => ?_, fun H a ns hl _ ht hS => ⟨a, ns, rfl, hS, fun p hp => ?_, fun _ => rfl⟩, fun base _ _ hB => ok_law (tx_of X G c) ⟨hB _ (m1 _ q1), hB _ (m1 _ q2), hB _ (m1 _ q3)⟩⟩
  · obtain ⟨q, hq, rfl⟩ := List.mem_map.mp hp
    exact c.empty q hq
  · obtain ⟨q, hq, rfl⟩ := List.mem_map.mp hp
    exact c.out q hq
  · obtain ⟨q, hq, rfl⟩ := List.mem_map.mp hp
    exact PySem.W.codeHd_of_K X (c.hd q hq)
  · obtain ⟨oc, od, kV, doc, pm, an, cdv, ct, osl, h, _⟩ := (tx_of X G c).F_law.ex
    rw [h]
    exact .of_eq rfl
  · unfold tabs at hp
    rcases List.mem_cons.mp hp with rfl | hp
    · exact LamX.TabS.nil (ht _ (m1 _ q1))
    rcases List.mem_cons.mp hp with rfl | hp
    · exact LamX.TabS.nil (ht _ (m1 _ q2))
    rcases List.mem_cons.mp hp with rfl | hp
    · exact LamX.TabS.nil (ht _ (m1 _ q3))
    cases hp
end Toy
set_option Elab.async false
set_option linter.all false
set_option maxRecDepth 100000
set_option maxHeartbeats 4000000
namespace Toy
open PySem L2 Sh
/-! ### the head: the run of the top, in the kernel -/
abbrev R : PySem.W.OpenRow := PySem.W.OpenLaw.row PySem.Challenge.rw_treeshed_k01_whole_trees_read
abbrev hk : PySem.W.Hook := hookXT 4 hFa hFn hEx hXs hTf hCm
def ob (s : PySem.W.SharedT) : AlXT := obsXT hFa hFn hEx hXs hTf hCm 4 (HandSHeadRun.getT s)
theorem ob_eq (s : PySem.W.SharedT) : ob s = hk.obs s.abs := obsXT_eq (HandSHeadRun.getT_eq s)
set_option maxHeartbeats 0 in
theorem run (w : World) : HandSHeadRun.RunEq R (PySem.W.view R.prog [37]) hk ob 20000 loose w := by
  intro os
  kernel_rfl
end Toy
set_option Elab.async false
set_option linter.all false
set_option maxRecDepth 100000
set_option maxHeartbeats 4000000
open PySem PySem.W PySem.Calls PyProof.Rows
set_option maxRecDepth 100000 in
set_option maxHeartbeats 0 in
theorem PySem.Challenge.cw_treeshed_k01_whole_trees_read_holds : PySem.Challenge.rw_treeshed_k01_whole_trees_read.Holds := by
  w_on; o_law
  refine HandSHeadRun.head_any (r := OpenLaw.row PySem.Challenge.rw_treeshed_k01_whole_trees_read) (q := view (OpenLaw.row PySem.Challenge.rw_treeshed_k01_whole_trees_read).prog [37]) (H := Toy.hk) (ob := Toy.ob) (M := 20000) (loose := Toy.loose) (d := HandSHeadRun.topDef (OpenLaw.row PySem.Challenge.rw_treeshed_k01_whole_trees_read).prog 37) (kwd := []) Toy.ob_eq
    (by kernel_rfl) (fun s => by kernel_rfl) Toy.run (by kernel_rfl) (by kernel_rfl) (by kernel_rfl) (by rfl) (by first | assumption | decide +kernel) (by decide +kernel) ⟨rfl, rfl, rfl, rfl, rfl, by decide +kernel⟩ ?hw ?hc
  case hw => w_witness2
  case hc =>
    refine LamX.walk_ofTsE (l := PySem.Challenge.rw_treeshed_k01_whole_trees_read) (n := 63) (k := 9) (x := "_law_script") (CX := fun _ => L2.CX0) rfl (by decide) (by kernel_rfl) ⟨rfl, by decide, by decide⟩ ?F (fun _ _ _ _ _ h => h)
    intro w mg fa h Y G hmg0
    obtain ⟨K, KX, c⟩ := Y
    have hmg : mg ("law" : PySem.Str) = some (.ref fa) := by
      have e : (HandSHeadRun.topDef (OpenLaw.row PySem.Challenge.rw_treeshed_k01_whole_trees_read).prog 37).name = ("law" : PySem.Str) := by kernel_rfl
      rw [← e]
      exact hmg0
    exact ⟨K, KX, Toy.facts (w := w) KX G hmg c⟩
#print axioms PySem.Challenge.cw_treeshed_k01_whole_trees_read_holds
