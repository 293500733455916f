import PyProof.Rows.All
import Wide.All
import OpenK.AllK
import Wide.FinOn
import HandS.ForMost
import HandS.Deep
import HandS.Style
import HandS.IsInst
import HandS.TupAny
import HandS.Codes
import KE.SortData
import HandS.Exc
import HandS.ExcInit
import HandS.Nested
import KE.KSuper
import KE.KExcSuper
import HandS.Defaults
import HandS.MakeKw
import HandS.ExcValue
import KE.KExcIs
import PyProof.ReprReads
import PyProof.StrHeap
import PyProof.ReprHeadsEmpty
import HandS.RaiseMore
import KE.KStateDown
import HandS.Head0
import HandS.Head1
import HandS.Head2
import HandS.HeadEnd
import HandS.HeadHook1
import HandS.HeadHook2
import HandS.NoneIn
import HandS.Conv
import HandS.SortInts
import PySem.Challenge.RW_treeshed_k86_errors_by_place_and_by_name
set_option Elab.async false
set_option linter.all false
set_option maxRecDepth 100000
set_option maxHeartbeats 4000000
namespace Sh
open PySem PySem.Spec PyProof.Rows L2
/-! ### rules of my own over the hand layer -/
section
variable {X : Cx}
def rInDT (K : PySem.W.Frag) : R2 := fun x y H Q => ∃ d ds, Dp K H x d ∧ Dp K H y (.tuple ds) ∧ SeqAt.shaped d = true ∧ SeqAt.shaped (.tuple ds) = true ∧ Q (.bl (ds.any fun z => PyData.eqv z d)) H
def rNotInDT (K : PySem.W.Frag) : R2 := fun x y H Q => ∃ d ds, Dp K H x d ∧ Dp K H y (.tuple ds) ∧ SeqAt.shaped d = true ∧ SeqAt.shaped (.tuple ds) = true ∧ Q (.bl (!ds.any fun z => PyData.eqv z d)) H
theorem op_inDT (hu : X.A.units + 65 < cLine) : OpR X (compareOp .In) (rInDT X.K) := by
  intro pins s σ H x y v u Q I rx ry h
  obtain ⟨d, ds, hd, he, sd, se, q⟩ := h
  obtain ⟨as, r1⟩ := Dp.reads I d x v hd rx
  obtain ⟨bs, r2⟩ := Dp.reads I (.tuple ds) y u he ry
  exact SeqAt.in_tuple_reads r2 r1 (SeqAt.canLay_of_shaped se) (SeqAt.canLay_of_shaped sd) (room_in_shaped sd hu) ⟨.bl _, H, I, rfl, q⟩
theorem op_notInDT (hu : X.A.units + 65 < cLine) : OpR X (compareOp .NotIn) (rNotInDT X.K) := by
  intro pins s σ H x y v u Q I rx ry h
  obtain ⟨d, ds, hd, he, sd, se, q⟩ := h
  obtain ⟨as, r1⟩ := Dp.reads I d x v hd rx
  obtain ⟨bs, r2⟩ := Dp.reads I (.tuple ds) y u he ry
  exact SeqAt.notIn_tuple_reads r2 r1 (SeqAt.canLay_of_shaped se) (SeqAt.canLay_of_shaped sd) (room_in_shaped sd hu) ⟨.bl _, H, I, rfl, q⟩
/-! sorted of a list that reads as data -/
def sortPairs (xs : List V) (ds : List PyData) : List (V × PyData) := (xs.zip ds).mergeSort (PySem.W.dataLe false Prod.snd)
def rSortedDD (K : PySem.W.Frag) : List V → Hp → VK → Prop := fun vs H Q => ∃ (a : Addr) (xs : List V) (ds : List PyData), vs = [V.ref a] ∧ SqL K H a xs ∧ DpAll K H xs ds ∧ PySem.W.AllAlike ds ∧ PySem.W.Sortable ds ∧ (∀ d ∈ ds, d.depth ≤ 60) ∧
  ∀ p, H p = none → Q (.ref p) (upd H p (.lst ((sortPairs xs ds).map Prod.fst)))
theorem DpAll.len {K : PySem.W.Frag} {H : Hp} : ∀ {xs : List V} {ds : List PyData}, DpAll K H xs ds → xs.length = ds.length
  | _, _, .nil => rfl
  | _, _, .cons _ t => by
    show _ + 1 = _ + 1
    rw [DpAll.len t]
theorem zip_snd {α β : Type} : ∀ {xs : List α} {ds : List β}, xs.length = ds.length → (xs.zip ds).map Prod.snd = ds
  | [], [], _ => rfl
  | x :: xs, d :: ds, h => by
    show d :: (xs.zip ds).map Prod.snd = d :: ds
    rw [zip_snd (Nat.succ.inj h)]
theorem each_rel {K : PySem.W.Frag} {H : Hp} : ∀ {xs : List V} {ds : List PyData} {its : List Value}, Vals xs its → xs.length = ds.length → PySem.W.EachIs (fun (v : Value) (b : V × PyData) => RelV b.1 v) its (xs.zip ds)
  | [], [], _, .nil, _ => .nil
  | _ :: _, _ :: _, _, .cons r t, h => .cons r (each_rel (K := K) (H := H) t (Nat.succ.inj h))
theorem each_reads {pins : List (Addr × Obj)} {σ : L2.St} {H : Hp} {s : Shared} (I : L2.Inv X pins σ H s) : ∀ {xs : List V} {ds : List PyData} {its : List Value}, Vals xs its → DpAll X.K H xs ds → PySem.W.EachIs (fun (v : Value) (b : V × PyData) => ∃ as, Reads s.heap v b.2 as) its (xs.zip ds)
  | [], [], _, .nil, _ => .nil
  | _ :: _, _ :: _, _, .cons r t, .cons h hs => .cons (Dp.reads I _ _ _ h r) (each_reads I t hs)
theorem vals_of_each : ∀ {out : List Value} {bs : List (V × PyData)}, PySem.W.EachIs (fun (v : Value) (b : V × PyData) => RelV b.1 v) out bs → Vals (bs.map Prod.fst) out
  | _, _, .nil => .nil
  | _, _, .cons r t => .cons r (vals_of_each t)
theorem cr_sortedDD (hu : X.A.units + 65 < cLine) : CallR X (.builtin "sorted") (rSortedDD X.K) := by
  intro pins s σ H vs us Q I r h
  obtain ⟨a, xs, ds, rfl, hs, hd, hal, hk, hdp, q⟩ := h
  obtain ⟨its, rv, hl, hz⟩ := I.list hs
  rw [Vals.ref1 r]
  have el := DpAll.len hd
  have ez : (xs.zip ds).map Prod.snd = ds := zip_snd el
  have elz : (xs.zip ds).length = xs.length := by rw [List.length_zip, el, Nat.min_self]
  refine PySem.W.sorted_data (enc := Prod.snd) (bs := xs.zip ds) hl.isList (each_rel (K := X.K) (H := H) rv el) (each_reads I rv hd) (by rw [ez]; exact hal) (by rw [ez]; exact hk) (by rw [elz]; exact hz) (fun b hb => ?_) fun out ho eo => ?_
  · have hm : b.2 ∈ ds := by
      rw [← ez]
      exact List.mem_map.mpr ⟨b, hb, rfl⟩
    have := hdp _ hm
    omega
  · obtain ⟨ep, he'⟩ := PyProof.Rows.sortedAll_at s.heap its out.toArray
    have hlen : ((sortPairs xs ds).map Prod.fst).length ≤ sizeLine := by
      rw [List.length_map, sortPairs, List.length_mergeSort, elz]
      exact hz
    refine ⟨.ref _, upd H (s.heap.objs.size + 1) (.lst ((sortPairs xs ds).map Prod.fst)), I.laid (t' := s.toks) (fun _ _ => PyProof.Rows.sortedAll_old) (Nat.le_succ _) ⟨hlen, out, ep, vals_of_each eo, he'⟩, rfl, q _ (I.hok.fresh (Nat.le_succ _))⟩
end
/-! ### heaps -/
/-- all that was tracked is as it was, but for d -/
def Kp (d : Addr) (H H' : Hp) : Prop := ∀ b o, H b = some o → b ≠ d → H' b = some o
theorem Kp.refl (d : Addr) (H : Hp) : Kp d H H := fun _ _ h _ => h
theorem Kp.trans {d : Addr} {H H1 H2 : Hp} (a : Kp d H H1) (b : Kp d H1 H2) : Kp d H H2 := fun c o h n => b c o (a c o h n) n
theorem same_upd {H : Hp} {p : Addr} {o : HO} (h : H p = none) : Same H (upd H p o) := fun b x e => by
  rw [upd_ne (ne_of_none e h)]
  exact e
theorem Same.kp {d : Addr} {H H' : Hp} (s : Same H H') : Kp d H H' := fun b o h _ => s b o h
theorem kp_new {d : Addr} {H : Hp} {p : Addr} {o : HO} (h : H p = none) : Kp d H (upd H p o) := Same.kp (same_upd h)
theorem kp_put {d : Addr} {H : Hp} {o : HO} : Kp d H (upd H d o) := fun b x e n => by
  rw [upd_ne n]
  exact e
/-- a place that was free stays apart -/
theorem Kp.free {d : Addr} {H H' : Hp} (e : Kp d H H') {o : HO} (hd : H' d = some o) {l : Addr} (h : H' l = none) : H l = none := by
  cases q : H l with
  | none => rfl
  | some u =>
    by_cases hl : l = d
    · subst hl
      rw [hd] at h
      cases h
    · rw [e l u q hl] at h
      cases h
mutual
theorem dp_keep {K : PySem.W.Frag} {H H' : Hp} (k : ∀ a u, Rd H a u → (∃ xs, u = .lst xs ∨ u = .tup xs) → Rd H' a u) : ∀ (d : PyData) (v : V), Dp K H v d → Dp K H' v d
  | .none, _, h => by cases h; exact .non
  | .bool b, _, h => by cases h; exact .bl b
  | .int i, _, h => by cases h; exact .int i
  | .str x, _, h => by cases h; exact .str x
  | .list ds, _, h => by
    cases h with
    | lst h1 h2 =>
      refine .lst ?_ (dpAll_keep k ds _ h2)
      rcases h1 with h1 | h1
      · exact .inl (k _ _ h1 ⟨_, .inl rfl⟩)
      · exact .inr h1
  | .tuple ds, _, h => by
    cases h with
    | tup h1 h2 =>
      refine .tup ?_ (dpAll_keep k ds _ h2)
      rcases h1 with h1 | h1
      · exact .inl (k _ _ h1 ⟨_, .inr rfl⟩)
      · exact .inr h1
theorem dpAll_keep {K : PySem.W.Frag} {H H' : Hp} (k : ∀ a u, Rd H a u → (∃ xs, u = .lst xs ∨ u = .tup xs) → Rd H' a u) : ∀ (ds : List PyData) (vs : List V), DpAll K H vs ds → DpAll K H' vs ds
  | [], _, h => by cases h; exact .nil
  | d :: ds, _, h => by
    cases h with
    | cons h1 h2 => exact .cons (dp_keep k d _ h1) (dpAll_keep k ds _ h2)
end
/-! ### loops -/
theorem for_enum {K : PySem.W.Frag} {a : Addr} {xs : List V} {g : TG} {tb : TS} {D : Ends} {σ : L2.St} {H : Hp} (Pv : Nat → L2.St → Hp → Prop) (h0 : Pv 0 σ H) (hl : ∀ i σ H, i ≤ xs.length → Pv i σ H → SqL K H a xs)
    (hs : ∀ (i : Nat) (x : V) (σ : L2.St) (H : Hp) (T : Addr), xs[i]? = some x → H T = none → Pv i σ H → g (.ref T) σ (upd H T (.tup [.int (i : Nat), x])) fun σ2 H2 => tb { D with nx := Pv (i + 1), ct := Pv (i + 1), bk := D.nx } σ2 H2) (hd : ∀ σ H, Pv xs.length σ H → D.nx σ H) :
    ∃ W : Nat → Nat → L2.St → Hp → Prop, (∃ m, W 0 m σ H) ∧ ∀ i m σ H, W i m σ H →
      ((Ite K a).stop i H ∧ D.nx σ H) ∨ ((Ite K a).go i H ∧ ∃ N : L2.St → Hp → Prop, (∀ σ' H', N σ' H' → ∃ m', m' < m ∧ W (i + 1) m' σ' H') ∧ ∀ x H', (Ite K a).yld i H x H' → g x σ H' fun σ2 H2 => tb { D with nx := N, ct := N, bk := D.nx } σ2 H2) := by
  refine ⟨fun i m σ H => m = xs.length - i ∧ i ≤ xs.length ∧ Pv i σ H, ⟨xs.length, by simp, Nat.zero_le _, h0⟩, ?_⟩
  rintro i m σ H ⟨rfl, hi, p⟩
  have q := hl i σ H hi p
  by_cases hlt : i < xs.length
  · refine .inr ⟨⟨xs, xs[i], q, by simp [hlt]⟩, Pv (i + 1), fun σ' H' p' => ⟨xs.length - (i + 1), by omega, rfl, hlt, p'⟩, fun x H' y => ?_⟩
    obtain ⟨T, x, rfl, nT, rfl, y⟩ := y
    exact hs i x σ _ T (y xs q) nT p
  · have e : i = xs.length := by omega
    subst e
    exact .inl ⟨⟨xs, q, Nat.le_refl _⟩, hd σ H p⟩
/-- a cut: what is known of the value that is stored -/
theorem asgW {te : TE} {g : TG} {D : Ends} {σ : L2.St} {H : Hp} (W : VK) (h1 : ∀ R : VK, (∀ v H2, W v H2 → R v H2) → te σ H R) (h2 : ∀ v H2, W v H2 → g v σ H2 D.nx) : tAsg te g D σ H := h1 _ h2
theorem asgS {te : TE} {g : TG} {u : TS} {D : Ends} {σ : L2.St} {H : Hp} (W : VK) (h1 : ∀ R : VK, (∀ v H2, W v H2 → R v H2) → te σ H R) (h2 : ∀ v H2, W v H2 → g v σ H2 (u D)) : tSeq (tAsg te g) u D σ H := h1 _ h2
/-- a cut behind a statement -/
theorem seqW {t u : TS} {D : Ends} {σ : L2.St} {H : Hp} (W : L2.St → Hp → Prop) (h1 : ∀ N : L2.St → Hp → Prop, (∀ σ' H', W σ' H' → N σ' H') → t { D with nx := N } σ H) (h2 : ∀ σ' H', W σ' H' → u D σ' H') : tSeq t u D σ H := h1 _ h2
theorem nextS {D : Ends} {σ : L2.St} {H : Hp} (h : D.nx σ H) : tNext D σ H := h
theorem yes_ite {σ : L2.St} {H : Hp} {A B : Hp → Prop} (h : A H) : tYes σ H fun b H3 => if b = true then A H3 else B H3 := (iteT h : if true = true then A H else B H)
/-- a new object: the heap behind it by what is known of it -/
theorem newW {G : VK} {H : Hp} {o : HO} (h : ∀ p H1, H p = none → Same H H1 → H1 p = some o → G (.ref p) H1) : ∀ p, H p = none → G (.ref p) (upd H p o) := fun p hp => h p _ hp (same_upd hp) upd_same
theorem seqT {K : PySem.W.Frag} {H H' : Hp} {a : Addr} {xs : List V} (e : Same H H') (h : SqT K H a xs) : SqT K H' a xs := by
  rcases h with (h | ⟨o, h⟩) | h
  · exact .inl (.inl (e _ _ h))
  · exact .inl (.inr ⟨o, e _ _ h⟩)
  · exact .inr h
end Sh
set_option Elab.async false
set_option linter.all false
set_option maxRecDepth 100000
set_option maxHeartbeats 4000000
namespace Sh
open PySem PySem.Spec PySem.W PyProof.Rows L2 NdefX
/-! ### own exceptions whose __init__ says super().__init__(..) -/
/-- what the written part says of such an __init__ -/
structure SupF (P : Program) (K : Frag) (mg : Str → Option Value) (cc cda D : Addr) (params : Arguments) (scope : Scope) (sn : Str) : Prop where
  head : ∃ ar : Arg, (params.posonlyargs ++ params.args).head? = some ar ∧ ar.arg = sn
  code : ∃ ccl cdd vs ccs file tf, K.lookup cda = some ⟨ccl, cdd, .fields vs, ccs⟩ ∧ vs[2]? = some (.str file tf) ∧ ((P.main.file : Str) == file) = true
  cell : ∃ cl cld csl, K.lookup cc = some ⟨cl, cld, .cell (some (.ref D)), csl⟩
  clsD : ∃ cdD, clsIn K D = some cdD
  ks : scope.names.lookup ("super" : Str) = some .globalImplicit
  kc : scope.names.lookup ("__class__" : Str) = some .free
  ka : scope.names.lookup sn = some .local
  top : (P.main.scope.names.lookup ("super" : Str)).isSome = false
  mgs : mg "super" = none
  opq : nsIn K cStatics "thirdparty.any" = some none
theorem boot_super : bootBuiltins "super" = some (.type "super") := by decide +kernel
theorem call_mw {prog : Program} {w : World} {A : Around} {E : Value → Shared → Prop} {h : Heap} {g : Array GenState} {d : Drawn} {t : Nat} {os : OsState} {nm q : Str} {C N : Addr} {bs bm : List Value} {hdct : Bool} {sn : List Str} {sub : List Value} {ab : Bool} {col : Option Bool} {dd : Option Addr} {k0 k1 k2 k3 k5 : Option Value}
    {u e t0 : Addr} {rest : List Value} {Q : Value → Shared → Prop}
    (hC : h.get? C = some (excClassObj nm q C N bs bm hdct sn sub ab col dd k0 k1 k2 k3 k5 "ValueError.__new__")) (he : h.get? e = some (excObj C t0 none .none)) (hu : h.get? u = some (kxs_mw "ValueError.__init__" e)) (hz : rest.length ≤ sizeLine)
    (hq : ∀ h', (∀ b o, b ≠ e → h.get? b = some o → h'.get? b = some o) → h'.get? e = some (excObj C h.objs.size none .none) → Q .none ⟨h', g, d, t, os⟩) :
    wpAny (model prog w) A (call (.ref u) rest) Q E ⟨h, g, d, t, os⟩ := by
  have FB := F.excBase_ValueError
  refine wpAny_call (codeAny_of_tree ?_)
  show wpAny _ A.in1 (callAny (.ref u) ⟨rest, []⟩) _ _ _
  simp only [callAny]
  refine wpAny_bind (wpAny_load hu ?_)
  simp only [kxs_mw, show (Value.type "method-wrapper" == Value.type "method" || Value.type "method-wrapper" == Value.type "builtin_function_or_method" || Value.type "method-wrapper" == Value.type "method-wrapper") = true by decide, if_true]
  refine KFB.if_so (by decide) ?_
  refine wpAny_bind (check_bound_init FB.toExcCallFacts hC he rfl ?_)
  refine wpAny_bind (wpAny_pure (wpAny_pure ?_))
  refine ⟨plainId_quiet FB.init.plain _, codeAny_builtin FB.initEntry ?_⟩
  exact exc_init_tree (cls := .ref C) (t0 := t0) (dv := none) (c2 := .none) (c3 := .none) (b4 := .bool false) he hz fun h' k e' _ => hq h' k e'
/-- what is asked of the class of the exception that is made -/
structure SupC (K : Frag) (C D : Addr) : Prop where
  ox : OexC K C
  mro : mroIn K C (.ref D) = some true
  sup : ks_superIn K C D "__init__" = some (some (.builtin "ValueError.__init__"))
  sub : subIn K (.ref C) (.type "ValueError") = some true
section
variable {CX : CXT} {P : Program} {w : World} {K : Frag} {mg : Str → Option Value} {base : Heap} {k : Nat} {f cc cda D : Addr} {name qual : Str} {params : Arguments} {body rest : List Stmt} {scope : Scope} {dV kV doc pm oc ct : Value} {an od : Option Addr} {osl : Array (Option Value)} {N ps : List Str} {sp : Sp} {sn : Str}
  {p0 p1 p2 p3 p4 : Pos} {e : Expr} {es : List Expr}
theorem fn_super (lk : K.lookup f = some ⟨oc, od, .func (fnX name qual params body scope [("__class__", cc)] dV kV doc pm an (.ref cda) ct), osl⟩) (hcd : codeIn K (.ref cda) qual = true)
    (S : NScope N ps ["__class__"] scope) (hN0 : N[0]? = some sn) (SF : SupF P K mg cc cda D params scope sn)
    (hb : body = .Expr (.Call (.Attribute (.Call (.Name "super" p0) [] [] p1) "__init__" p2) (e :: es) [] p3) p4 :: rest)
    (len : ∀ vs H Q E, sp vs H Q E → vs.length = ps.length)
    (hbody : ∀ (A : Around) (outer : List Env) (s : Shared) (H : Hp) (vs : List V) (Q : VK) (E : XK), Room k (A.deeper (envF ⟨name, qual, params, body, scope, [("__class__", cc)], cda⟩ f s.heap.objs.size)) → sp vs H Q E →
      ∃ (a C : Addr) (ta : TA) (t : TS), (startF N vs [some (.ref D)])[0]? = some (some (.ref a)) ∧ H a = some (exo a C none) ∧ SupC K C D ∧
        PA (ncx CX P w K mg base N ⟨name, qual, params, body, scope, [("__class__", cc)], cda⟩ f A outer s H E) (e :: es) ta ∧ PSs (ncx CX P w K mg base N ⟨name, qual, params, body, scope, [("__class__", cc)], cda⟩ f A outer s H E) rest t ∧
        ta (startF N vs [some (.ref D)]) H (fun ws H1 => ws.length ≤ 1000 ∧ H1 a = some (exo a C none) ∧ t { nx := fun _ H' => Q .non H', rt := Q } (startF N vs [some (.ref D)]) H1))
    (hc : ∀ env : Env, ∃ pl : Sem Bool, eval (.Call (.Attribute (.Call (.Name "super" p0) [] [] p1) "__init__" p2) (e :: es) [] p3) env = (do
      let ov ← attributeBase (.Call (.Name "super" p0) [] [] p1) "__init__" env (eval (.Call (.Name "super" p0) [] [] p1) env)
      standAt p2.atName
      let (f, first) ← holding [ov] (getMethod ov "__init__" pl)
      callWith p3 f first (backTo p3 (starEach (e :: es) env)) []) := by exact fun env => ⟨_, rfl⟩)
    (hsw : ∀ env : Env, swapsWith (.Call (.Attribute (.Call (.Name "super" p0) [] [] p1) "__init__" p2) (e :: es) [] p3) none p4.line env = pure false := by intro _; rfl)
    (he : ∀ env, starEach (e :: es) env = (false, eval e env) :: starEach es env := by intro _; rfl) (hpl : ∀ env, (backTo p3 (starEach es env)).any (·.1) = false := by intro _; rfl) :
    FnOk P w K mg base CX (k + 1) f (fnX name qual params body scope [("__class__", cc)] dV kV doc pm an (.ref cda) ct) ps sp := by
  refine ⟨len, fun A outer s H args us vs Q E hr e0 hbi r hsp => ?_⟩
  have hl := len _ _ _ _ hsp
  have KX : K.In s.heap := e0.mod.kin.keeps fun b o z => (e0.bs b o z).1
  have lim : s.heap.NoLimit := e0.mod.nolimit.keeps fun b o z => (e0.bs b o z).1
  obtain ⟨a, C, ta, t, h0, ea, SC, hPA, hPS, hq⟩ := hbody A outer s H vs Q E (hr.deeper _) hsp
  obtain ⟨ar, hhead, har⟩ := SF.head
  obtain ⟨ccl, cdd, vsC, ccs, file, tf, hcode, hvs, hfile⟩ := SF.code
  obtain ⟨ccl', cld, csl, hcell⟩ := SF.cell
  obtain ⟨cdD, hD⟩ := SF.clsD
  have hCA : CellsAt [("__class__", cc)] ["__class__"] [some (V.ref D)] s.heap H := by
    have hn : H cc = none := (e0.bs cc _ (e0.mod.kin _ _ hcell)).2
    have hc : s.heap.IsCell cc (some (.ref D)) := ⟨_, KX _ _ hcell, rfl⟩
    refine ⟨rfl, fun y c z => ?_, fun x y c z1 z2 => ?_, fun i y z => ?_⟩
    · have : c = cc := by
        simp only [List.lookup] at z
        split at z
        · cases z; rfl
        · cases z
      subst this
      exact ⟨hn, _, hc⟩
    · simp only [List.lookup] at z1 z2
      split at z1
      · rename_i q1
        split at z2
        · rename_i q2
          rw [beq_iff_eq] at q1 q2
          rw [q1, q2]
        · cases z2
      · cases z1
    · match i, z with
      | 0, z =>
        cases z
        refine ⟨cc, rfl, fun v z => ?_⟩
        cases z
        exact ⟨_, rfl, hc⟩
      | i + 1, z => simp at z
  refine ks_codeAny_call_defAt hr.depth (KX _ _ lk) rfl lim (codeRec_of KX hcd) rfl hbi S.nocell (fun ⟨n, _⟩ hy => S.par n (List.of_mem_zip hy).1) (fun h₁ hns hk => ?_) S.co S.gen S.kind
  have I : Inv (ncx CX P w K mg base N ⟨name, qual, params, body, scope, [("__class__", cc)], cda⟩ f A outer s H E) [] (startF N vs [some (.ref D)]) H { s with heap := h₁, toks := s.toks + (ps.zip us).length } :=
    inv_startN (F := ⟨name, qual, params, body, scope, [("__class__", cc)], cda⟩) S hr.hd e0 hl r hCA hns hk
  have Ih : K.In h₁ := KX.keeps hk
  subst hb
  have hC' : ∃ cd, clsIn K C = some cd := by
    have := SC.sup
    unfold ks_superIn at this
    cases hc : clsIn K C with
    | none => rw [hc] at this; cases this
    | some cd => exact ⟨cd, rfl⟩
  obtain ⟨cd, hcC⟩ := hC'
  obtain ⟨t1, hoe⟩ := exo_at I.hok ea
  have IA : InstAt h₁ a { cls := .ref C, dict := none, data := .fields #[.ref t1, .none, .none, .none, .bool false, .none] } C none := ⟨hoe, rfl, rfl, trivial⟩
  obtain ⟨oD, hD1, hD2⟩ : ∃ oD, h₁.get? D = some oD ∧ oD.data = .cls cdD := by
    unfold clsIn at hD
    split at hD
    · rename_i c d cd' sl ho
      cases hD
      exact ⟨_, Ih _ _ ho, rfl⟩
    · cases hD
  obtain ⟨pl, hpe⟩ := hc (callEnv (fnX name qual params (.Expr (.Call (.Attribute (.Call (.Name "super" p0) [] [] p1) "__init__" p2) (e :: es) [] p3) p4 :: rest) scope [("__class__", cc)] dV kV doc pm an (.ref cda) ct) s.heap.objs.size f)
  refine ks_wpAt_execs_cons (ks_wpAt_Expr_any (ks_wpAt_MethodCall (pl := pl) ?_ hpe) I.quiet (hsw _))
  refine ks_wpAt_super_base (fd := fnX name qual params _ scope [("__class__", cc)] dV kV doc pm an (.ref cda) ct) (ar := ar) SF.ks SF.kc (by decide) rfl (Ih _ _ lk) rfl hhead rfl (Ih _ _ hcode) rfl hvs hfile SF.top ?_
  obtain ⟨mb, hb1, hb2⟩ := I.mod.blt
  refine ks_loadName_global S.kind SF.ks (Calls.loadGlobal_builtin (mg := mg) (mb := mb) (I.mod.glob.keeps I.bk) SF.mgs (hb1.keeps I.bk) ((hb2 "super" (by decide)).trans boot_super) ⟨rfl, ?_⟩)
  refine wpAny_loadName_free S.kind SF.kc rfl ⟨_, Ih _ _ hcell, rfl⟩ ?_
  obtain ⟨m, hm, hloc⟩ := I.loc
  obtain ⟨u, ru, hlk⟩ := hloc 0 sn (.ref a) hN0 h0 (.inl SF.ka)
  obtain rfl : u = Value.ref a := ru
  have hmv : m ar.arg = some (.ref a) := by
    rw [har]
    rcases hlk with ⟨_, z⟩ | ⟨z, _⟩
    · exact z
    · rcases z with z | z <;> (exfalso; have y := SF.ka; rw [show (ncx CX P w K mg base N _ f A outer s H E).env.kindOf sn = scope.names.lookup sn from rfl, y] at z; cases z)
  refine wpAny_loadName_local S.kind (har ▸ SF.ka) hm hmv ?_
  refine ks_wpAny_isType_cls hD1 hD2 ⟨rfl, ?_⟩
  refine ks_wpAny_call_super hD1 hD2 IA.at_ IA.cls (fun c e => by cases e) (looks_mroIn Ih SC.mro) (fun h2 hso k2 => ?_)
  have Ih2 : K.In h2 := Ih.keeps k2
  have IA2 : InstAt h2 a { cls := .ref C, dict := none, data := .fields #[.ref t1, .none, .none, .none, .bool false, .none] } C none := ⟨k2 _ _ hoe, rfl, rfl, trivial⟩
  have hsup := SC.sup
  unfold ks_superIn at hsup
  rw [hcC] at hsup
  refine kxs_getMethod kxs_ValueError hso (looks_opaque Ih2 SF.opq) (l₀ := cd.mro) (fun A Q E s k q => wpAny_bind ((looks_clsIn Ih2 hcC) A _ E s k (wpAny_pure q))) rfl Ih2 hsup (IA2.type.andThen (looks_subIn Ih2 SC.sub)) (ks_ne Ih2 IA2 hcC) (by decide) ?_
  have hlt : h₁.objs.size < h2.objs.size := Heap.lt_size hso
  have I2 : Inv (ncx CX P w K mg base N ⟨name, qual, params, _, scope, [("__class__", cc)], cda⟩ f A outer s H E) [] (startF N vs [some (.ref D)]) H ⟨h2.push (kxs_mw "ValueError.__init__" a), s.gens, s.drawn, s.toks + (ps.zip us).length + 1, s.os⟩ :=
    I.kept (h' := h2.push (kxs_mw "ValueError.__init__" a)) (t' := s.toks + (ps.zip us).length + 1) fun b o z => Heap.get?_push_of_some _ (k2 b o z)
  have I3 := I2.pins_of (pins' := [(h2.objs.size, kxs_mw "ValueError.__init__" a)]) (fun p hp => by
    rw [List.mem_singleton.mp hp]
    exact ⟨Heap.get?_push_at rfl rfl, I.hok.fresh (Nat.le_of_lt hlt), Nat.ne_of_gt (Nat.lt_trans I.lt hlt), I.nofs (Nat.le_of_lt hlt), fun v z => by cases z⟩)
  have hstar := he (envF ⟨name, qual, params, .Expr (.Call (.Attribute (.Call (.Name "super" p0) [] [] p1) "__init__" p2) (e :: es) [] p3) p4 :: rest, scope, [("__class__", cc)], cda⟩ f s.heap.objs.size)
  have hplain := hpl (envF ⟨name, qual, params, .Expr (.Call (.Attribute (.Call (.Name "super" p0) [] [] p1) "__init__" p2) (e :: es) [] p3) p4 :: rest, scope, [("__class__", cc)], cda⟩ f s.heap.objs.size)
  have key := hPA.run p3 [(h2.objs.size, kxs_mw "ValueError.__init__" a)] _ _ H _ I3 hq
  show wpAny _ _ (callWith p3 (.ref h2.objs.size) [] (backTo p3 (starEach (e :: es) (envF ⟨name, qual, params, .Expr (.Call (.Attribute (.Call (.Name "super" p0) [] [] p1) "__init__" p2) (e :: es) [] p3) p4 :: rest, scope, [("__class__", cc)], cda⟩ f s.heap.objs.size))) []) _ _ _
  change wpAny _ _ (spliced (backTo p3 (starEach (e :: es) (envF ⟨name, qual, params, .Expr (.Call (.Attribute (.Call (.Name "super" p0) [] [] p1) "__init__" p2) (e :: es) [] p3) p4 :: rest, scope, [("__class__", cc)], cda⟩ f s.heap.objs.size)))) _ _ _ at key
  rw [hstar] at key ⊢
  refine kxs_callWith (i := "ValueError.__init__") (x := a) (by show (false || (backTo p3 (starEach es _)).any (·.1)) = false; rw [hplain]; rfl) (Calls.evalArgs_plain ?_)
  refine wpAny_mono key (fun us' s1 hv => ?_) fun _ _ z => z
  obtain ⟨ws, H1, I1, r1, hz, ea1, q1⟩ := hv
  refine ⟨(I1.pin _ (List.mem_append_right _ (List.mem_singleton.mpr rfl))).1, ?_⟩
  have hpin := (I1.pin _ (List.mem_append_right _ (List.mem_singleton.mpr rfl))).1
  obtain ⟨nm, qn, NN, bs, bm, sn', sub, ab, col, dd, k0, k1, k2', k3, k5, hCl, hbm⟩ := SC.ox.cls
  obtain ⟨t2, hoe2⟩ := exo_at I1.hok ea1
  obtain ⟨hp, g1, d1, tk1, os1⟩ := s1
  refine call_mw (I1.kIn _ _ hCl) hoe2 hpin (by show us'.length ≤ sizeLine; rw [← Paired.length r1, sizeLine_eq]; omega) fun h' k' e' => ?_
  have J := I1.write (t' := tk1) (x := a) (e := a) (o := exo a C none) (by rw [ea1]; exact True.intro) (.inl rfl) k' ⟨_, e'⟩ (exo_ok e')
  have eu : upd H1 a (exo a C none) = H1 := by
    funext b
    by_cases hb : b = a
    · rw [hb, upd_same, ea1]
    · rw [upd_ne hb]
  rw [eu] at J
  have J0 := J.pins_of (pins' := []) (fun p hp => by cases hp)
  refine wpAt_of_wpAny (wpAny_mono (hPS.run [] _ _ H1 _ J0 q1) (fun fl s' hs => ?_) fun e s' hs => hs)
  have fin : ∀ {σ' : L2.St} {H' : Hp} {v : V} {u : Value}, Inv (ncx CX P w K mg base N ⟨name, qual, params, .Expr (.Call (.Attribute (.Call (.Name "super" p0) [] [] p1) "__init__" p2) (e :: es) [] p3) p4 :: rest, scope, [("__class__", cc)], cda⟩ f A outer s H E) [] σ' H' s' → L2.RelV v u → Q v H' → CE outer P w H s Q u s' :=
    fun {σ' H' v u} J rv q => ⟨v, H', J.os, J.bare, J.base, J.hok, rv, q⟩
  cases fl with
  | ret u =>
    obtain ⟨v, σ', H', J, rv, q⟩ := hs
    exact fin J rv q
  | next =>
    obtain ⟨σ', H', J, q⟩ := hs
    exact fin (v := V.non) (u := Value.none) J rfl q
  | brk =>
    obtain ⟨_, _, _, q⟩ := hs
    exact False.elim q
  | cont =>
    obtain ⟨_, _, _, q⟩ := hs
    exact False.elim q
end
end Sh
set_option Elab.async false
set_option linter.all false
set_option maxRecDepth 100000
set_option maxHeartbeats 4000000
namespace Sh
open PySem PySem.Spec PySem.W PyProof.Rows L2
/-! ### own exceptions as values -/
/-- the class's facts that a reader of its instances asks -/
structure ExR (K : Frag) (C : Addr) : Prop where
  ox : OexC K C
  ga : findIn K (.ref C) "__getattribute__" = some (some (.builtin "BaseException.__getattribute__"))
  gg : findIn K (.ref C) "__getattr__" = some none
  hd : hasDictIn K C = true
  cl : findIn K (.ref C) "__class__" = some (some (.builtin "object.__class__"))
  ob : mroIn K C (.type "object") = some true
theorem ExR.isCls {K : Frag} {C : Addr} (R : ExR K C) : (clsIn K C).isSome = true := by
  have h := R.hd
  unfold hasDictIn at h
  cases q : clsIn K C with
  | none => rw [q] at h; cases h
  | some cd => rfl
/-- an exception's object is an instance of its class -/
theorem exo_inst {P : Program} {w : World} {H : Hp} {h : Heap} {a C : Addr} {d : Option Addr} {fs : List (Str × V)} (hok : HOk P w H h) (ea : H a = some (exo a C d)) (ed : ∀ dx, d = some dx → ∃ fs, H dx = some (exd dx fs)) : ∃ ox od, InstAt h a ox C od ∧ (d = none → od = none) := by
  obtain ⟨t1, ho⟩ := exo_at hok ea
  cases d with
  | none => exact ⟨_, none, ⟨ho, rfl, rfl, trivial⟩, fun _ => rfl⟩
  | some dx =>
    obtain ⟨fs, e⟩ := ed dx rfl
    obtain ⟨mA, hns, _⟩ := exd_at hok e
    obtain ⟨od, h1, _⟩ := lookIn_ns hns
    exact ⟨_, some od, ⟨ho, rfl, rfl, h1⟩, fun z => by cases z⟩
section
variable {X : Cx}
/-- e.f of an exception that is held -/
def tXGet (K : Frag) (f : Str) (te : TE) : TE := fun σ H Q => te σ H fun x H1 => ∃ (a C dx : Addr) (fs : List (Str × V)) (v : V), x = .ref a ∧ ExR K C ∧ findIn K (.ref C) f = some none ∧ H1 a = some (exo a C (some dx)) ∧ H1 dx = some (exd dx fs) ∧ fs.lookup f = some v ∧ Q v H1
theorem pe_xget {e : Expr} {te : TE} {f : Str} {pos : Pos} (he : PE X e te) (hb : attributeBase e f X.env (eval e X.env) = eval e X.env := by rfl) : PE X (.Attribute e f pos) (tXGet X.K f te) := by
  refine ⟨fun pins s σ H Q I h => attr_of hb (thn (he.run pins s σ H _ I h) fun u s1 hh => ?_)⟩
  obtain ⟨x, H1, I1, rx, a, C, dx, fs, v, rfl, R, hno, ea, ed, hl, q⟩ := hh
  obtain rfl : u = Value.ref a := rx
  obtain ⟨t1, ho⟩ := exo_at I1.hok ea
  obtain ⟨mA, hns, hr⟩ := exd_at I1.hok ed
  obtain ⟨od, hod, hlk⟩ := lookIn_ns hns
  obtain ⟨u, hu, ru⟩ := RelO.some_of (v := v) (o := mA f) (by rw [← hl]; exact hr f)
  have J : InstAt s1.heap a _ C (some od) := ⟨ho, rfl, rfl, hod⟩
  exact HandSPX.exc_get I1.kIn J R.ga R.gg R.ox.exC (findObj_own R.hd hno rfl (by rw [hlk, hu])) (handed_of ru) ⟨v, H1, I1.tok _, ru, q⟩
/-- isinstance(e, C) -/
def rIsX (K : Frag) : List V → Hp → VK → Prop := fun xs H Q => ∃ (a C : Addr) (d : Option Addr) (c : V) (u : Value) (b : Bool), xs = [.ref a, c] ∧ ClsV c u ∧ ExR K C ∧ H a = some (exo a C d) ∧ (∀ dx, d = some dx → ∃ fs, H dx = some (exd dx fs)) ∧ kitOne K (.ref C) u = some b ∧ Q (.bl b) H
theorem call_isX (hn : specialIn X.K (.builtin "object.__class__") "__get__" = some (some (.builtin "getset_descriptor.__get__"))) (htk : takesIn X.K (.builtin "object.__class__") = some true) : CallR X (.builtin "isinstance") (rIsX X.K) := by
  intro pins s σ H xs us Q I r h
  obtain ⟨a, C, d, c, u, b, rfl, k, R, ea, ed, e, q⟩ := h
  obtain ⟨u1, u2, rfl, r1, r2⟩ := vals2 r
  obtain rfl := k.eq r2
  obtain rfl : u1 = Value.ref a := r1
  obtain ⟨ox, od, J, _⟩ := exo_inst (fs := []) I.hok ea ed
  exact kia_one (kitx_exc R.isCls R.ga R.gg R.ox.exC R.cl hn htk R.ob) I.kIn J e (fun z => nomatch z) fun tk => ⟨.bl b, H, I.tok tk, rfl, q⟩
end
/-! ### C(e, .., k = v, ..): a new exception, as a value -/
section
variable {prog : Program} {w : World} {M : Model} {A : Around} {E : Value → Shared → Prop} {R : Result → Shared → Prop} {hh : Heap} {gs : Array GenState} {dr : Drawn} {tk : Nat} {os : OsState}
variable {nm q : Str} {C N : Addr} {bs bm : List Value} {hdct : Bool} {sn : List Str} {sub : List Value} {ab : Bool} {col : Option Bool} {dd : Option Addr} {k0 k1 k2 k3 k5 : Option Value} {kw : List (Str × Value)} {rest : List Value}
theorem check_newK (hT : HandSPX.refsVE bm = true) {Q : Unit → Shared → Prop} (hC : hh.get? C = some (excClassObj nm q C N bs bm hdct sn sub ab col dd k0 k1 k2 k3 k5 "ValueError.__new__")) (hq : Q () ⟨hh, gs, dr, tk, os⟩) : wpAny M A (checkBuiltinCall "ValueError.__new__" ⟨.ref C :: rest, kw⟩) Q E ⟨hh, gs, dr, tk, os⟩ := by
  have FB := F.excBase_ValueError
  have hcont : (Value.ref C :: bm).contains (.type "ValueError") = true := by rw [List.contains_cons, HandSPX.refsVE_contains "ValueError" bm hT, FB.hasB, Bool.or_true]
  have hstar := FB.noStar
  simp only [checkBuiltinCall, FB.newKind, FB.newSplit, FB.newRow]
  repeat (first | refine wpAny_loadPart_at hC ?_ | (refine wpAny_isSubtype_exc hC ?_; rw [hcont]) | refine wpAny_staticBase_exc hC ?_ | refine wpAny_madeBy_exc hC ?_ | simp only [bne_self_eq_false, Bool.false_eq_true, if_false] | wp_step)
  exact hq
theorem new_K (hT : HandSPX.refsVE bm = true) (hC : hh.get? C = some (excClassObj nm q C N bs bm hdct sn sub ab col dd k0 k1 k2 k3 k5 "ValueError.__new__")) (hz : rest.length ≤ sizeLine)
    (hq : R (.ok (.ret (.ref (hh.objs.size + 1)))) ⟨(hh.push (kdv_tup rest)).push (HandSPX.excO C hh.objs.size), gs, dr, tk, os⟩) : codeAny (model prog w) A (.builtin "ValueError.__new__" ⟨.ref C :: rest, kw⟩) R ⟨hh, gs, dr, tk, os⟩ := by
  have FB := F.excBase_ValueError
  have hends := FB.ends
  have hcB : (Value.ref C :: bm).contains (.type "ValueError") = true := by rw [List.contains_cons, HandSPX.refsVE_contains "ValueError" bm hT, FB.hasB, Bool.or_true]
  have hcA : (Value.ref C :: bm).contains (.type "AttributeError") = false := by rw [List.contains_cons, HandSPX.refsVE_contains "AttributeError" bm hT, FB.noAttr]; rfl
  have hcN : (Value.ref C :: bm).contains (.type "NameError") = false := by rw [List.contains_cons, HandSPX.refsVE_contains "NameError" bm hT, FB.noName]; rfl
  refine codeAny_builtinAt FB.entry ?_
  unfold Builtin.«BaseException.__new__»
  refine PySem.wpAt_bind ?_
  show PySem.wpAt _ _ _ (stack >>= _) _ _ _
  refine PySem.wpAt_bind (PySem.wpAt_stack fun p below => PySem.wpAt_of_wpAny ?_)
  wp_walk
  refine PySem.wpAt_of_wpAny ?_
  rw [FB.owner]
  repeat (first | with_reducible refine wpAny_madeHere_exc FB.canon hC ?_ | with_reducible refine wpAny_loadPart_at hC ?_ | (with_reducible refine wpAny_isSubtype_exc hC ?_; first | rw [hcB] | rw [hcA] | rw [hcN]) | wp_step)
  show R _ _
  rw [Heap.size_push]
  exact hq
theorem type_callK (hT : HandSPX.refsVE bm = true) {fI : Addr} {Q : Fin → Shared → Prop} (hC : hh.get? C = some (excClassObj nm q C N bs bm hdct sn sub ab col dd k0 k1 k2 k3 k5 "ValueError.__new__"))
    (hi : Looks (model prog w) hh (typeLookup (.ref C) "__init__") (some (.ref fI))) (hb : ∀ self, Looks (model prog w) hh (bindSpecial (.ref fI) self) (.ref fI, [self])) (hz : rest.length ≤ sizeLine)
    (hq : codeAny (model prog w) A (.call (.ref fI) ⟨.ref (hh.objs.size + 1) :: rest, kw⟩)
      (fun r s' => match r with | .ok (.ret v) => v = .none ∧ Q (.done (.ret (.ref (hh.objs.size + 1)))) s' | .ok _ => False | .error e => E e s') ⟨(hh.push (kdv_tup rest)).push (HandSPX.excO C hh.objs.size), gs, dr, tk, os⟩) :
    wpAny (model prog w) A (Builtin.«type.__call__» ⟨.ref C :: rest, kw⟩) Q E ⟨hh, gs, dr, tk, os⟩ := by
  have FB := F.excBase_ValueError
  repeat (first | with_reducible refine wpAny_loadPart_at hC ?_ | with_reducible refine wpAny_madeBy_exc hC ?_ | wp_step)
  refine codeAny_call_builtin_code (Code.quiet_builtin _ FB.quiet) (check_newK hT hC ?_)
  refine new_K hT hC hz ?_
  show wpAny _ _ _ _ _ _
  have k : ∀ b o, hh.get? b = some o → ((hh.push (kdv_tup rest)).push (HandSPX.excO C hh.objs.size)).get? b = some o := fun b o e => Heap.get?_push_of_some _ (Heap.get?_push_of_some _ e)
  have hC₁ := k _ _ hC
  have hget : ((hh.push (kdv_tup rest)).push (HandSPX.excO C hh.objs.size)).get? (hh.objs.size + 1) = some (HandSPX.excO C hh.objs.size) := by heap_get
  have hcC : (Value.ref C :: bm).contains (.ref C) = true := by simp
  have i1 := hi.keeps k
  have b1 := (hb (.ref (hh.objs.size + 1))).keeps k
  unfold isInstance
  repeat (first | with_reducible refine wpAny_loadPart_at hget ?_ | (with_reducible refine wpAny_isSubtype_exc hC₁ ?_; rw [hcC]) | wp_step)
  show wpAny _ _ (typeLookup (.ref C) _) _ _ _
  refine i1.at (wpAny_holding (wpAny_bind (b1.at (wpAny_bind (wpAny_call (codeAny_mono hq fun r s' z => ?_))))))
  rcases r with e | (v | _ | _ | _) <;> first | exact z | exact z.elim | skip
  obtain ⟨rfl, z⟩ := z
  first | exact wpAny_pure (wpAny_pure z) | (wp_walk; exact z)
theorem check_tcK {Q : Unit → Shared → Prop} (hC : hh.get? C = some (excClassObj nm q C N bs bm hdct sn sub ab col dd k0 k1 k2 k3 k5 "ValueError.__new__")) (hq : Q () ⟨hh, gs, dr, tk, os⟩) : wpAny M A (checkBuiltinCall "type.__call__" ⟨.ref C :: rest, kw⟩) Q E ⟨hh, gs, dr, tk, os⟩ := by
  have f3 := tc_sub
  have hT : (⟨hh, gs, dr, tk, os⟩ : Shared).TypeIs (.ref C) "type" := ⟨_, hC, rfl⟩
  simp only [checkBuiltinCall, tc_kind, tc_split]
  repeat (any_goals (first | assumption | with_reducible refine wpAny_loadPart_at hC ?_ | with_reducible refine wpAny_onRaise ?_ | with_reducible refine wpAny_map ?_ | wp_step))
theorem call_K (hT : HandSPX.refsVE bm = true) {fI : Addr} (hC : hh.get? C = some (excClassObj nm q C N bs bm hdct sn sub ab col dd k0 k1 k2 k3 k5 "ValueError.__new__"))
    (hi : Looks (model prog w) hh (typeLookup (.ref C) "__init__") (some (.ref fI))) (hb : ∀ self, Looks (model prog w) hh (bindSpecial (.ref fI) self) (.ref fI, [self])) (hz : rest.length ≤ sizeLine)
    (hq : codeAny (model prog w) (A.under (.builtin "type.__call__" ⟨.ref C :: rest, kw⟩)) (.call (.ref fI) ⟨.ref (hh.objs.size + 1) :: rest, kw⟩) (InitBack (hh.objs.size + 1) R) ⟨(hh.push (kdv_tup rest)).push (HandSPX.excO C hh.objs.size), gs, dr, tk, os⟩) :
    codeAny (model prog w) A (.call (.ref C) ⟨rest, kw⟩) R ⟨hh, gs, dr, tk, os⟩ := by
  have f1 := tc_lookup
  have f2 := tc_bind (.ref C)
  have hTy : (⟨hh, gs, dr, tk, os⟩ : Shared).TypeIs (.ref C) "type" := ⟨_, hC, rfl⟩
  refine codeAny_of_tree ?_
  show wpAny _ _ (callAny (.ref C) _) _ _ _
  repeat (any_goals (first | assumption | with_reducible refine wpAny_loadPart_at hC ?_ | wp_step))
  refine ⟨rfl, ?_⟩
  refine codeAny_call_builtin_at (Code.quiet_builtin _ (by decide +kernel)) entry_typeCall (check_tcK hC (type_callK hT hC hi hb hz ?_))
  refine codeAny_mono hq fun r s' z => ?_
  rcases r with e | (v | _ | _ | _) <;> exact z
end
/-- what a maker of its instances asks -/
structure ExM (K : Frag) (C fI : Addr) : Prop where
  ox : OexC K C
  iC : findIn K (.ref C) "__init__" = some (some (.ref fI))
  tI : typeIn K (.ref fI) = some (.type "function")
section
variable {X : Cx} {CX : CXT} {k n : Nat} {fI C : Addr} {fd : FuncData} {ps ks : List Str} {sp : Sp} {x : Str} {p pos : Pos} {e : Expr} {es : List Expr} {kws : List Keyword} {t tk : TA} {g : List Value → List Value → List Value} {gV : List V → List V → List V}
theorem run_oex {pins : List (Addr × Obj)} {σ : L2.St} {H : Hp} {s : Shared} {Q : VK} {us ws : List Value} {vs zs : List V} (T : ExM X.K C fI) (F1 : FnOk X.prog X.w X.K X.mg X.base CX k fI fd ps sp) (hr : Room (k + 1) X.A) (hb : KBn X.K fd ps (n + 1) ks g gV)
    (hx : Passes CX X (fun _ _ _ => False)) (I : Inv X pins σ H s) (r : Vals vs us) (rz : Vals zs ws) (l1 : vs.length = n) (l2 : zs.length = ks.length) (hn : n ≤ 1000)
    (h : ∀ a, H a = none → sp (gV (.ref a :: vs) zs) (upd H a (exo a C none)) (fun v H2 => v = .non ∧ Q (.ref a) H2) (fun _ _ _ => False)) :
    wpAny (model X.prog X.w) X.A (call (.ref C) us (ks.zip ws)) (EP X pins σ Q) X.xe s := by
  obtain ⟨nm, q, N, bs, bm, sn, sub, ab, col, dd, k0, k1, k2, k3, k5, hC, hbm⟩ := T.ox.cls
  obtain ⟨hp, gs, dr, tk, os⟩ := s
  have hsz : hp.objs.size ≤ hp.objs.size + 1 := Nat.le_succ _
  have hq := h (hp.objs.size + 1) (I.hok.fresh hsz)
  have kk : ∀ b o, hp.get? b = some o → ((hp.push (kdv_tup us)).push (HandSPX.excO C hp.objs.size)).get? b = some o := fun b o e => Heap.get?_push_of_some _ (Heap.get?_push_of_some _ e)
  have hget : ((hp.push (kdv_tup us)).push (HandSPX.excO C hp.objs.size)).get? (hp.objs.size + 1) = some (HandSPX.excO C hp.objs.size) := by heap_get
  have I2 : Inv X pins σ (upd H (hp.objs.size + 1) (exo (hp.objs.size + 1) C none)) ⟨(hp.push (kdv_tup us)).push (HandSPX.excO C hp.objs.size), gs, dr, tk, os⟩ :=
    I.laid (t' := tk) (a := hp.objs.size + 1) (o := exo (hp.objs.size + 1) C none) (h' := (hp.push (kdv_tup us)).push (HandSPX.excO C hp.objs.size)) kk hsz (exo_ok hget)
  have r1 : Vals (V.ref (hp.objs.size + 1) :: vs) (Value.ref (hp.objs.size + 1) :: us) := .cons rfl r
  have r2 := hb.rel r1 rz
  have e1 : (Value.ref (hp.objs.size + 1) :: us).length = n + 1 := r1.length.symm.trans (congrArg Nat.succ l1)
  have e2 : ws.length = ks.length := rz.length.symm.trans l2
  have hus : us.length ≤ sizeLine := by
    rw [← Paired.length r, l1, sizeLine_eq]
    omega
  refine wpAny_call (call_K hbm (I.kIn _ _ hC) (looks_findIn I.kIn T.iC) (fun self => bind_fn I.kIn self T.tI) hus
    (codeAny_mono (F1.run _ X.stack _ _ ⟨Value.ref (hp.objs.size + 1) :: us, ks.zip ws⟩ (g (Value.ref (hp.objs.size + 1) :: us) ws) _ _ (fun _ _ _ => False) (hr.make C us (ks.zip ws)) (I2.env0.make C us (ks.zip ws)) (hb.to _ (Value.ref (hp.objs.size + 1) :: us) ws I2.kIn e1 e2) r2 hq) fun r s' hq' => ?_))
  cases r with
  | error er => exact hx pins σ _ _ er s' I2 hq'
  | ok fl =>
    cases fl with
    | ret u =>
      obtain ⟨v, H', I3, rv, ev, q3⟩ := I2.after hq'
      subst ev
      exact ⟨rv, ⟨V.ref (hp.objs.size + 1), H', I3, rfl, q3⟩⟩
    | next => exact False.elim hq'
    | brk => exact False.elim hq'
    | cont => exact False.elim hq'
/-- C(e, .., k = v, ..) -/
def tOex (C : Addr) (n m : Nat) (sp : Sp) (gV : List V → List V → List V) (t tk : TA) : TE := fun σ H Q => t σ H fun vs H1 => tk σ H1 fun zs H2 => vs.length = n ∧ zs.length = m ∧
  ∀ a, H2 a = none → sp (gV (.ref a :: vs) zs) (upd H2 a (exo a C none)) (fun v H3 => v = .non ∧ Q (.ref a) H3) (fun _ _ _ => False)
theorem pe_oexN (T : ExM X.K C fI) (F1 : FnOk X.prog X.w X.K X.mg X.base CX k fI fd ps sp) (hr : Room (k + 1) X.A) (hg : Gl X x) (hm : X.mg x = some (.ref C)) (hb : KBn X.K fd ps (n + 1) ks g gV) (hx : Passes CX X (fun _ _ _ => False))
    (ha : PA X (e :: es) t) (hkw : PK X kws tk) (hn : n ≤ 1000 := by decide) (hall : (backToKw pos (keywordEach kws X.env)).all (·.1.isSome) = true := by rfl) (hks : (backToKw pos (keywordEach kws X.env)).filterMap (·.1) = ks := by rfl)
    (hdb : (x == ("__debug__" : Str)) = false := by decide) (he : starEach (e :: es) X.env = (false, eval e X.env) :: starEach es X.env := by rfl)
    (hpl : ((backTo pos (starEach (e :: es) X.env)).any (·.1) || (backToKw pos (keywordEach kws X.env)).any (·.1.isNone)) = false := by rfl) :
    PE X (.Call (.Name x p) (e :: es) kws pos) (tOex C n ks.length sp gV t tk) := by
  refine ⟨fun pins s σ H Q I h => wpAny_Call_Name_kw (ld_glob I hg hm ?_ hdb)⟩
  refine callWith_KW (h₀ := X.base) I.ok.mod.kin T.ox.kC hall (thn (ha.run pos pins s σ H _ I h) fun us s1 ⟨vs, H1, I1, r, q⟩ => ?_) hpl he
  refine thn (hkw.run pos pins s1 σ H1 _ I1 q) fun ws s2 ⟨zs, H2, I2, rz, l1, l2, q2⟩ => ⟨I2.kIn, ?_⟩
  rw [hks]
  exact run_oex T F1 hr hb hx I2 r rz l1 l2 hn q2
theorem pe_oex0 (T : ExM X.K C fI) (F1 : FnOk X.prog X.w X.K X.mg X.base CX k fI fd ps sp) (hr : Room (k + 1) X.A) (hg : Gl X x) (hm : X.mg x = some (.ref C)) (hb : KBn X.K fd ps 1 ks g gV) (hx : Passes CX X (fun _ _ _ => False))
    (hkw : PK X kws tk) (hall : (backToKw pos (keywordEach kws X.env)).all (·.1.isSome) = true := by rfl) (hks : (backToKw pos (keywordEach kws X.env)).filterMap (·.1) = ks := by rfl)
    (hdb : (x == ("__debug__" : Str)) = false := by decide) (hpl : ((backTo pos (starEach [] X.env)).any (·.1) || (backToKw pos (keywordEach kws X.env)).any (·.1.isNone)) = false := by rfl) :
    PE X (.Call (.Name x p) [] kws pos) (tOex C 0 ks.length sp gV tNil tk) := by
  refine ⟨fun pins s σ H Q I h => wpAny_Call_Name_kw (ld_glob I hg hm ?_ hdb)⟩
  refine callWith_KW0 (h₀ := X.base) I.ok.mod.kin T.ox.kC hall ?_ hpl
  refine thn (hkw.run pos pins s σ H _ I h) fun ws s2 ⟨zs, H2, I2, rz, l1, l2, q2⟩ => ⟨I2.kIn, ?_⟩
  rw [hks]
  exact run_oex T F1 hr hb hx I2 .nil rz l1 l2 (by decide) q2
end
/-- C(), an own exception class without own __init__ -/
theorem pe_exn0 {X : Cx} {C : Addr} {x : Str} {p pos : Pos} (q : excIn X.K C [.type "ValueError", .type "Exception", .type "BaseException", .type "object"] "ValueError.__new__" = true) (gC : X.mg x = some (.ref C)) (kC : keepIn X.K (.ref C) = true) (hg : Gl X x) (hdb : (x == ("__debug__" : Str)) = false := by decide) :
    PE X (.Call (.Name x p) [] [] pos) (fun _ H Q => ∀ a, H a = none → Q (.ref a) (upd H a (exo a C none))) := by
  refine ⟨fun pins s σ H Q I h => wpAny_Call_Name_kw (ld_glob I hg gC ?_ hdb)⟩
  refine callWith_KW0 (h₀ := X.base) I.ok.mod.kin kC (by rfl) (wpAny_evalAll_nil ⟨I.kIn, ?_⟩) (by rfl)
  show wpAny _ _ (call (.ref C) []) _ _ _
  obtain ⟨bm, N, nm, qn, bs, hdct, sn, sub, ab, col, dd, k0, k1, k2, k3, k5, mN, hC, hN, hni, T⟩ := exc_obj I.kIn q
  refine wpAny_call_exc_subT F.excBase_ValueError T hC hN hni (fun h' a hm => ?_) (Nat.zero_le _)
  obtain ⟨t, ht, _, _⟩ := hm.there
  have hn : H a = none := I.hok.gone hm.new
  exact ⟨.ref a, upd H a (exo a C none), I.laidN hm.keeps hm.new hn (exo_ok ht), rfl, h a hn⟩
end Sh
set_option Elab.async false
set_option linter.all false
set_option maxRecDepth 100000
set_option maxHeartbeats 4000000
namespace Sh
open PySem PySem.Spec PySem.W PyProof.Rows L2 NdefX
/-! ### the facts of an own exception class, bundled -/
abbrev veTail : List Value := [.type "ValueError", .type "Exception", .type "BaseException", .type "object"]
/-- the class at C, right below the class at S, which is right below ValueError -/
structure XCls (K : Frag) (S C : Addr) : Prop where
  r : ExR K C
  sub : ∀ b : Value, mroIn K C b = some ((Value.ref C :: .ref S :: veTail).contains b)
  ty : typeIn K (.ref C) = some (.type "type")
  isC : (clsIn K C).isSome = true
theorem xcls_mk {K : Frag} {S C N : Addr} {nm q : Str} {bs : List Value} {sn : List Str} {sub : List Value} {ab : Bool} {col : Option Bool} {dd : Option Addr} {k0 k1 k2 k3 k5 : Option Value}
    (xL : K.lookup C = some (excClassObj nm q C N bs [.ref S, .type "ValueError", .type "Exception", .type "BaseException", .type "object"] true sn sub ab col dd k0 k1 k2 k3 k5 "ValueError.__new__"))
    (sa : findIn K (.ref C) "__setattr__" = some (some (.builtin "object.__setattr__"))) (ga : findIn K (.ref C) "__getattribute__" = some (some (.builtin "BaseException.__getattribute__"))) (gg : findIn K (.ref C) "__getattr__" = some none)
    (cl : findIn K (.ref C) "__class__" = some (some (.builtin "object.__class__"))) (kC : keepIn K (.ref C) = true) : XCls K S C := by
  have hcl : clsIn K C = some { name := nm, bases := bs, mro := .ref C :: [.ref S, .type "ValueError", .type "Exception", .type "BaseException", .type "object"], ns := N, qualname := q, hasDict := true, slotNames := sn, subclasses := sub, abstract := ab, collection := col, hasDel := false } := by
    unfold clsIn
    rw [xL]
  have hm : ∀ b : Value, mroIn K C b = some ((Value.ref C :: .ref S :: veTail).contains b) := fun b => by
    unfold mroIn
    rw [hcl]
    rfl
  have hty : typeIn K (.ref C) = some (.type "type") := by
    show (K.lookup C).map (·.cls) = _
    rw [xL]
    rfl
  have hin : ∀ T : String, veTail.contains (.type T) = true → (Value.ref C :: .ref S :: veTail).contains (.type T) = true := fun T z => by
    rw [List.contains_cons, List.contains_cons, z]
    simp
  refine ⟨⟨⟨⟨nm, q, N, bs, _, sn, sub, ab, col, dd, k0, k1, k2, k3, k5, xL, rfl⟩, sa, ?_, hty, kC⟩, ga, gg, ?_, cl, ?_⟩, hm, hty, by rw [hcl]; rfl⟩
  · show mroIn K C _ = _
    rw [hm, hin "BaseException" (by decide +kernel)]
  · unfold hasDictIn
    rw [hcl]
    rfl
  · rw [hm, hin "object" (by decide +kernel)]
/-- isinstance of an instance of C, asked of another such class -/
theorem XCls.own {K : Frag} {S C D : Addr} (x : XCls K S C) (y : XCls K S D) (h : D ≠ S) : kitOne K (.ref C) (.ref D) = some (decide (C = D)) := by
  unfold kitOne
  by_cases e : C = D
  · subst e
    rw [if_pos (by simp), decide_eq_true rfl]
  · rw [if_neg (by simp [e]), decide_eq_false e]
    unfold kitCls
    simp only [y.isC, y.ty, beq_self_eq_true, Bool.and_self, if_true]
    show mroIn K C (.ref D) = some false
    rw [x.sub]
    have e1 : (Value.ref D == Value.ref C) = false := by simp [Ne.symm e]
    have e2 : (Value.ref D == Value.ref S) = false := by simp [h]
    simp only [List.contains_cons, e1, e2, Bool.false_or]
    have e3 : ∀ T : String, (Value.ref D == Value.type T) = false := fun T => by simp
    simp [e3]
theorem XCls.base {K : Frag} {S C : Addr} (x : XCls K S C) (y : XCls K S C) (hS : (clsIn K S).isSome = true) (tS : typeIn K (.ref S) = some (.type "type")) : kitOne K (.ref C) (.ref S) = some true := by
  unfold kitOne
  split
  · rfl
  · unfold kitCls
    simp only [hS, tS, beq_self_eq_true, Bool.and_self, if_true]
    show mroIn K C (.ref S) = some true
    rw [x.sub]
    simp
theorem XCls.blt {K : Frag} {S C : Addr} (x : XCls K S C) (T : String) (hm : kitMeta T = true) : kitOne K (.ref C) (.type T) = some (veTail.contains (.type T)) := by
  unfold kitOne
  rw [if_neg (by simp)]
  unfold kitCls
  simp only [hm, if_true]
  show mroIn K C (.type T) = _
  rw [x.sub]
  simp [List.contains_cons]
/-- its __init__ -/
structure XInit (P : Program) (K : Frag) (mg : Str → Option Value) (C f : Addr) (qual : Str) (st : Stmt) (fd : FuncData) : Prop where
  m : ExM K C f
  sc : SupC K C C
  fn : ∃ oc od kV doc pm an ct osl cc cda, fd = fnX "__init__" qual (defArgs st) (defBody st) (defScope st) [("__class__", cc)] .none kV doc pm an (.ref cda) ct ∧ K.lookup f = some ⟨oc, od, .func fd, osl⟩ ∧ codeIn K (.ref cda) qual = true ∧ SupF P K mg cc cda C (defArgs st) (defScope st) "self"
theorem xinit_mk {P : Program} {K : Frag} {mg : Str → Option Value} {S C f cc cda : Addr} {qual file : Str} {st : Stmt} {oc kV doc pm ct ccl cl : Value} {od an cdd cld : Option Addr} {osl ccs csl : Array (Option Value)} {vs : Array Value} {tf : Tok} (x : XCls K S C)
    (iC : findIn K (.ref C) "__init__" = some (some (.ref f))) (tI : typeIn K (.ref f) = some (.type "function")) (lf : K.lookup f = some ⟨oc, od, .func (fnX "__init__" qual (defArgs st) (defBody st) (defScope st) [("__class__", cc)] .none kV doc pm an (.ref cda) ct), osl⟩)
    (c : codeIn K (.ref cda) qual = true) (lc : K.lookup cda = some ⟨ccl, cdd, .fields vs, ccs⟩) (hv : vs[2]? = some (.str file tf)) (hf : ((P.main.file : Str) == file) = true) (lx : K.lookup cc = some ⟨cl, cld, .cell (some (.ref C)), csl⟩)
    (sup : ks_superIn K C C "__init__" = some (some (.builtin "ValueError.__init__"))) (mgs : mg "super" = none) (opq : nsIn K cStatics "thirdparty.any" = some none) (top : (P.main.scope.names.lookup ("super" : Str)).isSome = false)
    (hh : ∃ ar : Arg, ((defArgs st).posonlyargs ++ (defArgs st).args).head? = some ar ∧ ar.arg = "self") (ks : (defScope st).names.lookup ("super" : Str) = some .globalImplicit) (kc : (defScope st).names.lookup ("__class__" : Str) = some .free) (ka : (defScope st).names.lookup ("self" : Str) = some .local) :
    XInit P K mg C f qual st (fnX "__init__" qual (defArgs st) (defBody st) (defScope st) [("__class__", cc)] .none kV doc pm an (.ref cda) ct) := by
  obtain ⟨cd, hcd⟩ := Option.isSome_iff_exists.mp x.isC
  refine ⟨⟨x.r.ox, iC, tI⟩, ⟨x.r.ox, ?_, sup, ?_⟩, oc, od, kV, doc, pm, an, ct, osl, cc, cda, rfl, lf, c, ⟨hh, ⟨ccl, cdd, vs, ccs, file, tf, lc, hv, hf⟩, ⟨cl, cld, csl, lx⟩, ⟨cd, hcd⟩, ks, kc, ka, top, mgs, opq⟩⟩
  · rw [x.sub]
    simp
  · show mroIn K C _ = _
    rw [x.sub]
    simp
/-- the arguments as they are bound: behind the positional ones the keywords', the first one last -/
def rotV (vs zs : List V) : List V := vs ++ (zs.drop 1 ++ zs.take 1)
def rotU (us ws : List Value) : List Value := us ++ (ws.drop 1 ++ ws.take 1)
theorem vals_take : ∀ {vs : List V} {us : List Value} (n : Nat), Vals vs us → Vals (vs.take n) (us.take n)
  | _, _, 0, _ => .nil
  | _, _, _ + 1, .nil => .nil
  | _, _, n + 1, .cons r t => .cons r (vals_take n t)
theorem vals_drop : ∀ {vs : List V} {us : List Value} (n : Nat), Vals vs us → Vals (vs.drop n) (us.drop n)
  | _, _, 0, h => h
  | _, _, _ + 1, .nil => .nil
  | _, _, n + 1, .cons _ t => vals_drop n t
theorem kbn_rot {K : Frag} {fd : FuncData} {ps ks : List Str} {n : Nat} (h : ∀ us ws : List Value, us.length = n → ws.length = ks.length → bindArgs fd ⟨us, ks.zip ws⟩ = pure (ps.zip (rotU us ws))) : KBn K fd ps n ks rotU rotV :=
  ⟨fun s us ws _ l1 l2 => .of_eq (h us ws l1 l2), fun r1 r2 => r1.append ((vals_drop 1 r2).append (vals_take 1 r2))⟩
theorem kbn_x {P : Program} {K : Frag} {mg : Str → Option Value} {C f : Addr} {qual : Str} {st : Stmt} {fd : FuncData} {ps ks : List Str} {n : Nat} (i : XInit P K mg C f qual st fd)
    (h : ∀ (cc : Addr) (kV doc pm : Value) (an : Option Addr) (cda : Addr) (ct : Value) (us ws : List Value), us.length = n → ws.length = ks.length → bindArgs (fnX "__init__" qual (defArgs st) (defBody st) (defScope st) [("__class__", cc)] .none kV doc pm an (.ref cda) ct) ⟨us, ks.zip ws⟩ = pure (ps.zip (rotU us ws))) : KBn K fd ps n ks rotU rotV := by
  obtain ⟨oc, od, kV, doc, pm, an, ct, osl, cc, cda, rfl, _⟩ := i.fn
  exact kbn_rot (h cc kV doc pm an cda ct)
/-- what is left of a new exception: its dict holds the fields -/
def spXI (C : Addr) (fs : List Str) : Sp := fun vs H Q _ => ∃ (a : Addr) (ws : List V), vs = .ref a :: ws ∧ ws.length = fs.length ∧ H a = some (exo a C none) ∧
  ∀ (H' : Hp) (d : Addr), Kp a H H' → H d = none → d ≠ a → H' a = some (exo a C (some d)) → H' d = some (exd d (fs.zip ws).reverse) → Q .non H'
/-- an exception that is held: of the class at C, with these fields -/
def ErrAt (H : Hp) (a C : Addr) (fs : List (Str × V)) : Prop := ∃ d, H a = some (exo a C (some d)) ∧ H d = some (exd d fs)
theorem ErrAt.same {H H' : Hp} {a C : Addr} {fs : List (Str × V)} (e : Same H H') (h : ErrAt H a C fs) : ErrAt H' a C fs := let ⟨d, h1, h2⟩ := h; ⟨d, e _ _ h1, e _ _ h2⟩
theorem mk_err {C : Addr} {n m : Nat} {fs : List Str} {t tk : TA} {σ : L2.St} {H : Hp} {Q : VK} {vs zs : List V}
    (h1 : ∀ R : List V → Hp → Prop, R vs H → t σ H R) (h2 : ∀ R : List V → Hp → Prop, R zs H → tk σ H R) (l1 : vs.length = n) (l2 : zs.length = m) (l3 : n + m = fs.length)
    (q : ∀ H' a, Same H H' → ErrAt H' a C (fs.zip (rotV vs zs)).reverse → Q (.ref a) H') : tOex C n m (spXI C fs) rotV t tk σ H Q := by
  refine h1 _ (h2 _ ⟨l1, l2, fun a ha => ⟨a, rotV vs zs, rfl, ?_, upd_same, fun H' d kp hd hne ea ed => ⟨rfl, q H' a (fun b o e => ?_) ⟨d, ea, ed⟩⟩⟩⟩)
  · unfold rotV
    rw [List.length_append, List.length_append, List.length_drop, List.length_take, l1, l2]
    omega
  · exact kp b o (by rw [upd_ne (ne_of_none e ha)]; exact e) (ne_of_none e ha)
end Sh
set_option Elab.async false
set_option linter.all false
set_option maxRecDepth 100000
set_option maxHeartbeats 4000000
namespace Sh
open PySem PySem.Spec PyProof.Rows
/-! ### repr of data, where no repr is under way -/
section
variable {prog : Program} {w : World} {A : Around} {E : Value → Shared → Prop} {s : Shared}
theorem repr_reads {v : Value} {d : PyData} {as : List Addr} {Q : Value → Shared → Prop} (r : Reads s.heap v d as) (hs : d.showable = true) (hsm : d.hasDict = true → sysModules ∉ as) (hz : d.shown.length ≤ sizeLine) (hg : A.guards = some []) (hu : A.units + 3 + d.depth < cLine)
    (hQ : ∀ h' u tk, (∀ b o, s.heap.get? b = some o → h'.get? b = some o) → Q (.str d.shown u) { s with heap := h', toks := tk }) : wpAny (model prog w) A (call (.builtin "repr") [v]) Q E s := by
  have here : ∀ {u : Nat} {x : Str}, x = d.shown → Q (.str x u) { s with toks := s.toks + 1 } := fun {u x} e => by
    rw [e]
    exact hQ s.heap u (s.toks + 1) fun _ _ z => z
  have keep : ∀ b o, s.heap.get? b = some o → s.heap.get? b = some o := fun _ _ z => z
  cases r with
  | none => exact P.repr_of_none (here (by simp only [PyData.shown]))
  | bool b => exact P.repr_of_bool (here (by simp only [PyData.shown]))
  | int i t => exact P.repr_of_int (by simpa [PyData.showable] using hs) (here (by simp only [PyData.shown]))
  | str x t => exact P.repr_of_str (here (by simp only [PyData.shown])) (by simpa only [PyData.shown] using hz)
  | @list a o vs n xs as h1 h2 h3 h4 =>
    have hz' : (listText (PyData.shownAll xs)).length ≤ sizeLine := by simpa only [PyData.shown] using hz
    obtain ⟨bs, hb, hk⟩ := ReprAllK.of_readsAll (prog := prog) (w := w) h4 (by simpa [PyData.showable] using hs) (fun hx hm => hsm (by simpa [PyData.hasDict] using hx) (List.mem_cons_of_mem _ hm)) (fun t ht => Nat.le_trans (listText_mem_le ht) hz')
    have hna : a ∉ bs := not_mem_of_deeper (.list h1 h2 h3 h4) (by simp only [PyData.depth]; omega) hb
    simp only [PyData.depth] at hu
    simp only [PyData.shown] at hQ
    refine call_repr_slot (by omega) ⟨o, h1, h2⟩ F.slot_list_repr.toG ?_
    obtain ⟨l⟩ := vs
    cases l with
    | nil =>
      have h4' : ReadsAll s.heap [] xs _ := h4
      cases h4'
      simp only [PyData.shownAll, listText_nil] at hQ
      exact call_list_repr_empty ⟨o, h1, h2⟩ h1 h3 ⟨_, _, rfl, hQ s.heap _ _ keep⟩
    | cons x l => exact call_list_reprK h1 h2 h3 hna (by simpa using hk.length_eq) (fun i y e => hk.item i y (by simpa using e)) hg (fun b _ => Clear.nil b) (by show A.units + 1 + _ < cLine; omega) keep (fun h' u tk hk' => ⟨_, _, rfl, hQ h' u tk hk'⟩) hz'
  | @tuple a o vs n xs as h1 h2 h3 h4 =>
    have hz' : (tupleText (PyData.shownAll xs)).length ≤ sizeLine := by simpa only [PyData.shown] using hz
    obtain ⟨bs, hb, hk⟩ := ReprAllK.of_readsAll (prog := prog) (w := w) h4 (by simpa [PyData.showable] using hs) (fun hx => hsm (by simpa [PyData.hasDict] using hx)) (fun t ht => Nat.le_trans (tupleText_mem_le ht) hz')
    have hna : a ∉ bs := not_mem_of_deeper (.tuple h1 h2 h3 h4) (by simp only [PyData.depth]; omega) hb
    simp only [PyData.depth] at hu
    simp only [PyData.shown] at hQ
    exact call_repr_slot (by omega) ⟨o, h1, h2⟩ F.slot_tuple_repr (call_tuple_reprK h1 h2 h3 hna hk hg (fun b _ => Clear.nil b) (by show A.units + 1 + _ < cLine; omega) keep (fun h' u tk hk' => ⟨_, _, rfl, hQ h' u tk hk'⟩) hz')
  | @dict a o es n kvs as bs h1 h2 h3 h4 h5 =>
    have hz' : (dictText (PyData.shownKv kvs)).length ≤ sizeLine := by simpa only [PyData.shown] using hz
    have hno : sysModules ∉ a :: as ++ bs := hsm (by simp only [PyData.hasDict])
    obtain ⟨hs1, hs2⟩ := PyData.showableKv_split kvs (by simpa [PyData.showable] using hs)
    obtain ⟨b1, hb1, k1⟩ := ReprAllK.of_readsAll (prog := prog) (w := w) h4 hs1 (fun _ hm => hno (List.mem_cons_of_mem _ (List.mem_append_left _ hm))) (fun t ht => let ⟨p, hp, hl⟩ := PyData.shownKv_key_le kvs t ht; Nat.le_trans hl (Nat.le_trans (dictText_mem_le hp) hz'))
    obtain ⟨b2, hb2, k2⟩ := ReprAllK.of_readsAll (prog := prog) (w := w) h5 hs2 (fun _ hm => hno (List.mem_cons_of_mem _ (List.mem_append_right _ hm))) (fun t ht => let ⟨p, hp, hl⟩ := PyData.shownKv_val_le kvs t ht; Nat.le_trans hl (Nat.le_trans (dictText_mem_le hp) hz'))
    have hb : ReadAtMost s.heap (PyData.depthKv kvs) (b1 ++ b2) := (hb1.mono (PyData.depthAll_keys_le kvs)).append (hb2.mono (PyData.depthAll_vals_le kvs))
    have hna : a ∉ b1 ++ b2 := not_mem_of_deeper (.dict h1 h2 h3 h4 h5) (by simp only [PyData.depth]; omega) hb
    have hsys : (a == sysModules) = false := beq_eq_false_iff_ne.mpr fun e => hno (e ▸ List.mem_cons_self ..)
    simp only [PyData.depth] at hu
    simp only [PyData.shown, PyData.shownKv_eq] at hQ
    exact call_repr_slot (by omega) ⟨o, h1, h2⟩ F.slot_dict_repr (call_dict_reprK h1 h2 h3 hsys hna (ReprEntriesK.of_two es.toList _ _
      (k1.more_le (fun b hb => List.mem_append_left _ hb) (PyData.depthAll_keys_le kvs)) (k2.more_le (fun b hb => List.mem_append_right _ hb) (PyData.depthAll_vals_le kvs)))
      hg (fun b _ => Clear.nil b) (by show A.units + 1 + _ < cLine; omega) keep (fun h' u tk hk' => ⟨_, _, rfl, hQ h' u tk hk'⟩) (by rw [← PyData.shownKv_eq]; exact hz'))
end
/-! ### the values that are told -/
open L2 in
/-- a value of any kind -/
inductive Thing (H : Hp) : V → PyData → Prop
  | non : Thing H .non .none
  | bl (b : Bool) : Thing H (.bl b) (.bool b)
  | int (i : Int) (h : i.natAbs < 10 ^ 31) : Thing H (.int i) (.int i)
  | str (x : Str) (h : (reprText x).length ≤ 40) : Thing H (.str x) (.str x)
  | tupS {a : Addr} (x : Str) (h : (reprText x).length ≤ 40) : H a = some (.tup [.str x]) → Thing H (.ref a) (.tuple [.str x])
  | tupN {a b : Addr} (i : Int) (h : i.natAbs < 10 ^ 31) : H a = some (.tup [.int 1, .ref b]) → H b = some (.tup [.int i]) → Thing H (.ref a) (.tuple [.int 1, .tuple [.int i]])
  | lst0 {a : Addr} : H a = some (.lst []) → (a == sysModules) = false → Thing H (.ref a) (.list [])
  | lst1 {a : Addr} (i : Int) (h : i.natAbs < 10 ^ 31) : H a = some (.lst [.int i]) → (a == sysModules) = false → Thing H (.ref a) (.list [.int i])
  | dic0 {a : Addr} : H a = some (.dK []) → Thing H (.ref a) (.dict [])
  | dic1 {a : Addr} (i : Int) (h : i.natAbs < 10 ^ 31) : H a = some (.dK [(Sum.inr "a", .int i)]) → Thing H (.ref a) (.dict [(.str "a", .int i)])
open L2 in
theorem Thing.same {H H' : Hp} {v : V} {d : PyData} (s : Same H H') (h : Thing H v d) : Thing H' v d := by
  cases h with
  | non => exact .non
  | bl b => exact .bl b
  | int i h => exact .int i h
  | str x h => exact .str x h
  | tupS x h e => exact .tupS x h (s _ _ e)
  | tupN i h e1 e2 => exact .tupN i h (s _ _ e1) (s _ _ e2)
  | lst0 e z => exact .lst0 (s _ _ e) z
  | lst1 i h e z => exact .lst1 i h (s _ _ e) z
  | dic0 e => exact .dic0 (s _ _ e)
  | dic1 i h e => exact .dic1 i h (s _ _ e)
theorem int_show {i : Int} (h : i.natAbs < 10 ^ 31) : (Str.ofString (toString i)).length ≤ 32 ∧ i.natAbs.log2 < 1920 := by
  have e := int_text_length_le10 (k := 31) (by decide) h
  refine ⟨by rw [PySem.ofString_length]; omega, ?_⟩
  by_cases h0 : i.natAbs = 0
  · rw [h0]
    decide
  · refine (Nat.log2_lt h0).mpr (Nat.lt_of_lt_of_le h (Nat.le_trans (by decide : 10 ^ 31 ≤ 2 ^ 104) (Nat.pow_le_pow_right (by decide) (by decide))))
theorem tupText_le (ts : List Str) : (tupleText ts).length ≤ 4 + piled ts := by
  unfold tupleText
  rw [strLen_append, strLen_append]
  have e1 : (("(" : Str)).length = 1 := by decide +kernel
  have e2 : ∀ b : Bool, (((if b = true then ",)" else ")" : String) : Str)).length ≤ 2 := by decide +kernel
  have e3 := e2 (ts.length == 1)
  by_cases h : ts = []
  · subst h
    have e4 : (Str.join ", " []).length = 0 := by decide +kernel
    omega
  · have e4 := join_length_add ts h
    omega
theorem dicText_le (ts : List Str) : (dictText ts).length ≤ 4 + piled ts := by
  unfold dictText
  rw [strLen_append, strLen_append]
  have e1 : (("{" : Str)).length = 1 := by decide +kernel
  have e2 : (("}" : Str)).length = 1 := by decide +kernel
  by_cases h : ts = []
  · subst h
    have e4 : (Str.join ", " []).length = 0 := by decide +kernel
    omega
  · have e4 := join_length_add ts h
    omega
open L2 in
theorem Thing.show {H : Hp} {v : V} {d : PyData} (h : Thing H v d) : d.showable = true ∧ d.shown.length ≤ 200 ∧ d.depth ≤ 2 := by
  cases h with
  | non => exact ⟨by simp [PyData.showable], by simp only [PyData.shown]; decide +kernel, by simp [PyData.depth]⟩
  | bl b => exact ⟨by simp [PyData.showable], by simp only [PyData.shown]; cases b <;> decide +kernel, by simp [PyData.depth]⟩
  | int i h => 
    have := int_show h
    exact ⟨by simp [PyData.showable, this.2], by simp only [PyData.shown]; exact Nat.le_trans this.1 (by decide), by simp [PyData.depth]⟩
  | str x h => exact ⟨by simp [PyData.showable], by simp only [PyData.shown]; omega, by simp [PyData.depth]⟩
  | tupS x h e =>
    refine ⟨by simp [PyData.showable, PyData.showableAll], ?_, by simp [PyData.depth, PyData.depthAll]⟩
    simp only [PyData.shown, PyData.shownAll]
    have := tupText_le [reprText x]
    simp only [piled_cons, piled_nil] at this
    omega
  | tupN i h e1 e2 =>
    have q := int_show h
    refine ⟨by simp [PyData.showable, PyData.showableAll, q.2]; decide, ?_, by simp [PyData.depth, PyData.depthAll]⟩
    simp only [PyData.shown, PyData.shownAll]
    have t1 := tupText_le [Str.ofString (toString i)]
    have t2 := tupText_le [Str.ofString (toString (1 : Int)), tupleText [Str.ofString (toString i)]]
    have t3 : (Str.ofString (toString (1 : Int))).length ≤ 2 := by decide +kernel
    simp only [piled_cons, piled_nil] at t1 t2
    omega
  | lst0 e z => exact ⟨by simp [PyData.showable, PyData.showableAll], by simp only [PyData.shown, PyData.shownAll]; decide +kernel, by simp [PyData.depth, PyData.depthAll]⟩
  | lst1 i h e z =>
    have q := int_show h
    refine ⟨by simp [PyData.showable, PyData.showableAll, q.2], ?_, by simp [PyData.depth, PyData.depthAll]⟩
    simp only [PyData.shown, PyData.shownAll]
    have e1 : listText [Str.ofString (toString i)] = ("[" : Str) ++ ("" : String) ++ Str.ofString (toString i) ++ "]" := rfl
    rw [e1, strLen_append, strLen_append, strLen_append]
    have e2 : (("[" : Str)).length = 1 := by decide +kernel
    have e3 : (("]" : Str)).length = 1 := by decide +kernel
    have e4 : ((("" : String) : Str)).length = 0 := by decide +kernel
    omega
  | dic0 e => exact ⟨by simp [PyData.showable, PyData.showableKv], by simp only [PyData.shown, PyData.shownKv]; decide +kernel, by simp [PyData.depth, PyData.depthKv]⟩
  | dic1 i h e =>
    have q := int_show h
    refine ⟨by simp [PyData.showable, PyData.showableKv, q.2], ?_, by simp [PyData.depth, PyData.depthKv]⟩
    simp only [PyData.shown, PyData.shownKv]
    have t1 := dicText_le [reprText "a" ++ ": " ++ Str.ofString (toString i)]
    simp only [piled_cons, piled_nil] at t1
    rw [strLen_append, strLen_append] at t1
    have t2 : (reprText "a").length ≤ 10 := by decide +kernel
    have t3 : ((": " : Str)).length = 2 := by decide +kernel
    omega
open L2
section
variable {X : Cx} {pins : List (Addr × Obj)} {σ : L2.St} {H : Hp} {s : Shared}
theorem Thing.reads {v : V} {d : PyData} {u : Value} (I : Inv X pins σ H s) (h : Thing H v d) (r : RelV v u) : ∃ as, Reads s.heap u d as ∧ sysModules ∉ as := by
  have nosys : ∀ {a : Addr}, (a == sysModules) = false → sysModules ∉ [a] := fun z m => by
    rw [List.mem_singleton.mp m] at z
    simp at z
  cases h with
  | non => cases r; exact ⟨_, .none, List.not_mem_nil⟩
  | bl b => cases r; exact ⟨_, .bool b, List.not_mem_nil⟩
  | int i h => obtain ⟨t, rfl⟩ := r; exact ⟨_, .int i t, List.not_mem_nil⟩
  | str x h => obtain ⟨t, rfl⟩ := r; exact ⟨_, .str x t, List.not_mem_nil⟩
  | @tupS a x h e =>
    obtain rfl : u = Value.ref a := r
    obtain ⟨its, rv, ⟨o, h1, h2, n, h3⟩, _⟩ := I.tuple (SqT.of (K := X.K) e)
    cases rv with
    | cons r1 rn =>
      cases rn
      obtain ⟨t, rfl⟩ := r1
      exact ⟨_, .tuple h1 h2 h3 (.cons (.str x t) .nil), List.not_mem_nil⟩
  | @tupN a b i h e1 e2 =>
    obtain rfl : u = Value.ref a := r
    obtain ⟨its, rv, ⟨o, h1, h2, n, h3⟩, _⟩ := I.tuple (SqT.of (K := X.K) e1)
    obtain ⟨its2, rv2, ⟨o2, g1, g2, n2, g3⟩, _⟩ := I.tuple (SqT.of (K := X.K) e2)
    cases rv2 with
    | cons r2 rn2 =>
      cases rn2
      obtain ⟨t2, rfl⟩ := r2
      cases rv with
      | cons r1 rn =>
        obtain ⟨t1, rfl⟩ := r1
        cases rn with
        | @cons _ u3 _ _ r3 rn3 =>
          obtain rfl : u3 = Value.ref b := r3
          cases rn3
          exact ⟨_, .tuple h1 h2 h3 (.cons (.int 1 t1) (.cons (.tuple g1 g2 g3 (.cons (.int i t2) .nil)) .nil)), List.not_mem_nil⟩
  | @lst0 a e z =>
    obtain rfl : u = Value.ref a := r
    obtain ⟨its, rv, ⟨o, n, h1, h2, _, h3⟩, _⟩ := I.list (SqL.of (K := X.K) e)
    cases rv
    exact ⟨_, .list h1 h2 h3 .nil, nosys z⟩
  | @lst1 a i h e z =>
    obtain rfl : u = Value.ref a := r
    obtain ⟨its, rv, ⟨o, n, h1, h2, _, h3⟩, _⟩ := I.list (SqL.of (K := X.K) e)
    cases rv with
    | cons r1 rn =>
      cases rn
      obtain ⟨t, rfl⟩ := r1
      exact ⟨_, .list h1 h2 h3 (.cons (.int i t) .nil), nosys z⟩
  | @dic0 a e =>
    obtain rfl : u = Value.ref a := r
    obtain ⟨_, z, vs, kv, o, es, ep, h1, h2, h3, _, hp, _⟩ := (show ObjOk X.prog X.w H s.heap a (.dK []) from I.hok a _ e)
    cases kv
    cases hes : es.toList with
    | cons e1 r1 => rw [hes] at hp; cases hp
    | nil => exact ⟨_, .dict (kvs := []) h1 h2.1 h3 (by rw [hes]; exact .nil) (by rw [hes]; exact .nil), nosys z⟩
  | @dic1 a i h e =>
    obtain rfl : u = Value.ref a := r
    obtain ⟨_, z, vs, kv, o, es, ep, h1, h2, h3, _, hp, _⟩ := (show ObjOk X.prog X.w H s.heap a (.dK [(Sum.inr "a", .int i)]) from I.hok a _ e)
    cases kv with
    | @cons _ q _ _ r1 rn =>
      cases rn
      obtain ⟨qk, qv⟩ := q
      obtain ⟨rfl, t, rfl⟩ := r1
      cases hes : es.toList with
      | nil => rw [hes] at hp; cases hp
      | cons e1 rest =>
        rw [hes] at hp
        cases hp with
        | cons k1 v1 hr =>
          cases hr
          rcases keyIs_shape (show keyIs (Sum.inr ("a" : Str)) e1.key = true from k1) with ⟨j, t', e2, _⟩ | ⟨y, t', e2, e3⟩
          · cases e2
          · cases e2
            exact ⟨_, .dict (kvs := [(.str "a", .int i)]) h1 h2.1 h3 (by rw [hes]; show ReadsAll _ [e1.key] _ _; rw [e3]; exact .cons (.str _ t') .nil) (by rw [hes]; show ReadsAll _ [e1.val] _ _; rw [v1]; exact .cons (.int i t) .nil), nosys z⟩
/-- things, one by one -/
inductive Things (H : Hp) : List V → List PyData → Prop
  | nil : Things H [] []
  | cons {v : V} {vs : List V} {d : PyData} {ds : List PyData} : Thing H v d → Things H vs ds → Things H (v :: vs) (d :: ds)
theorem Things.same {H H' : Hp} (e : Same H H') : ∀ {vs : List V} {ds : List PyData}, Things H vs ds → Things H' vs ds
  | _, _, .nil => .nil
  | _, _, .cons h t => .cons (h.same e) (Things.same e t)
theorem Things.reads (I : Inv X pins σ H s) : ∀ {vs : List V} {ds : List PyData} {us : List Value}, Things H vs ds → Vals vs us → ∃ as, ReadsAll s.heap us ds as ∧ sysModules ∉ as
  | _, _, _, .nil, .nil => ⟨_, .nil, List.not_mem_nil⟩
  | _, _, _, .cons h t, .cons r rs => by
    obtain ⟨as, q1, n1⟩ := h.reads I r
    obtain ⟨bs, q2, n2⟩ := Things.reads I t rs
    exact ⟨_, .cons q1 q2, fun z => (List.mem_append.mp z).elim n1 n2⟩
theorem Things.show {H : Hp} : ∀ {vs : List V} {ds : List PyData}, Things H vs ds → PyData.showableAll ds = true ∧ piled (PyData.shownAll ds) ≤ 202 * ds.length ∧ PyData.depthAll ds ≤ 2
  | _, _, .nil => ⟨rfl, by simp only [PyData.shownAll]; exact Nat.zero_le _, by simp [PyData.depthAll]⟩
  | _, d :: ds, .cons h t => by
    obtain ⟨a1, a2, a3⟩ := h.show
    obtain ⟨b1, b2, b3⟩ := Things.show t
    refine ⟨by simp [PyData.showableAll, a1, b1], ?_, by simp only [PyData.depthAll]; omega⟩
    simp only [PyData.shownAll, piled_cons, List.length_cons]
    omega
end
section
variable {X : Cx}
/-- repr(x), x a thing or a tuple of a few of them -/
def rRepr (xs : List V) (H : Hp) (Q : VK) : Prop := ∃ v, xs = [v] ∧ ((∃ d, Thing H v d ∧ Q (.str d.shown) H) ∨ ∃ (a : Addr) (vs : List V) (ds : List PyData), v = .ref a ∧ H a = some (.tup vs) ∧ Things H vs ds ∧ ds.length ≤ 10 ∧ Q (.str (PyData.tuple ds).shown) H)
theorem call_repr (hg : X.A.guards = some []) (hu : X.A.units + 65 < cLine) : CallR X (.builtin "repr") rRepr := by
  intro pins s σ H xs us Q I r h
  obtain ⟨v, rfl, h⟩ := h
  cases r with
  | @cons _ u _ _ r1 rn =>
    cases rn
    rcases h with ⟨d, hd, q⟩ | ⟨a, vs, ds, rfl, ha, hd, hl, q⟩
    · obtain ⟨as, rd, ns⟩ := hd.reads I r1
      obtain ⟨s1, s2, s3⟩ := hd.show
      exact repr_reads rd s1 (fun _ => ns) (by rw [sizeLine_eq]; omega) hg (by omega) fun h' u tk k => ⟨.str _, H, I.kept (t' := tk) k, ⟨u, rfl⟩, q⟩
    · obtain rfl : u = Value.ref a := r1
      obtain ⟨its, rv, ⟨o, h1, h2, n, h3⟩, _⟩ := I.tuple (SqT.of (K := X.K) ha)
      obtain ⟨as, rd, ns⟩ := Things.reads I hd rv
      obtain ⟨s1, s2, s3⟩ := Things.show hd
      have hz : (PyData.tuple ds).shown.length ≤ sizeLine := by
        simp only [PyData.shown]
        have := tupText_le (PyData.shownAll ds)
        rw [sizeLine_eq]
        omega
      exact repr_reads (.tuple h1 h2 h3 rd) (by simp [PyData.showable, s1]) (fun _ => ns) hz hg (by simp only [PyData.depth]; omega) fun h' u tk k => ⟨.str _, H, I.kept (t' := tk) k, ⟨u, rfl⟩, q⟩
/-- [e, ..]: the new list is not the modules' own dict -/
def tLstB (t : TA) : TE := fun σ H Q => t σ H fun xs H1 => xs.length ≤ sizeLine ∧ ∀ p, H1 p = none → (p == sysModules) = false → Q (.ref p) (upd H1 p (.lst xs))
theorem pe_lstB {es : List Expr} {t : TA} {pos : Pos} (h : PA X es t) : PE X (.List es pos) (tLstB t) := by
  refine ⟨fun pins s σ H Q I hq => wpAny_List_spliced (thn (h.run pos pins s σ H _ I hq) fun us s1 ⟨xs, H1, I1, r, z, q⟩ => ⟨by rw [← r.length]; exact z, ?_⟩)⟩
  have hf : H1 s1.heap.objs.size = none := I1.hok.fresh (Nat.le_refl _)
  have hne : (s1.heap.objs.size == sysModules) = false := beq_eq_false_iff_ne.mpr (Nat.ne_of_gt I1.big)
  exact ⟨.ref s1.heap.objs.size, upd H1 s1.heap.objs.size (.lst xs), I1.laid (t' := s1.toks) (fun b u e => Heap.get?_push_of_some _ e) (Nat.le_refl _) ⟨z, us, 0, r, Heap.get?_push_size _ rfl⟩, rfl, q _ hf hne⟩
end
end Sh
set_option Elab.async false
set_option linter.all false
set_option maxRecDepth 100000
set_option maxHeartbeats 4000000
namespace Sh
open PySem PySem.Spec PyProof.Rows L2
/-! ### a law that asks for a repr: its promise where no repr is under way -/
structure FnG (P : Program) (w : World) (K : PySem.W.Frag) (mg : Str → Option Value) (base : Heap) (CX : CXT) (k : Nat) (f : Addr) (fd : FuncData) (ps : List Str) (sp : Sp) : Prop where
  run : ∀ (A : Around) (outer : List Env) (s : Shared) (H : Hp) (args : Args) (us : List Value) (vs : List V) (Q : VK) (E : XK), A.guards = some [] → Room k A → Env0 P w K mg base A outer s H → BindsTo s fd args (ps.zip us) → Vals vs us → sp vs H Q E →
    codeAny (model P w) A (.call (.ref f) args) (CR CX outer P w H s Q E) s
section
variable {P : Program} {w : World} {K : PySem.W.Frag} {mg : Str → Option Value} {base : Heap}
/-- a promise at one place in the stack, from the promise over all of them that the body keeps -/
theorem okG {x qual : Str} {st : Stmt} {f : Addr} {fd : FuncData} {N ps : List Str} {k : Nat} {sp : Sp} (F : Fun K x qual st f fd) (S : FnScope N ps (defScope st)) (len : ∀ vs H Q E, sp vs H Q E → vs.length = ps.length)
    (hbody : ∀ (cdv : Value) (A : Around) (outer : List Env) (s : Shared) (H : Hp) (vs : List V) (Q : VK) (E : XK), (A.deeper (envOfC qual (defScope st) s.heap.objs.size f cdv)).guards = some [] → Room k (A.deeper (envOfC qual (defScope st) s.heap.objs.size f cdv)) → sp vs H Q E →
      ∃ t, PSs (cxOf CX0 P w K mg base N qual (defScope st) f cdv A outer s H E).nox (defBody st) t ∧ t { nx := fun _ H' => Q .non H', rt := Q } (start N vs) H) : FnG P w K mg base CX0 (k + 1) f fd ps sp := by
  refine ⟨fun A outer s H args us vs Q E hgd hr e0 hb r hsp => ?_⟩
  obtain ⟨oc, od, kV, doc, pm, an, cdv, ct, osl, rfl, lk, hcd⟩ := F.ex
  have hl := len _ _ _ _ hsp
  have KX : K.In s.heap := e0.mod.kin.keeps fun b o z => (e0.bs b o z).1
  have hkind : ∀ y ∈ ps.zip us, (defScope st).names.lookup y.1 = some .local ∨ ((defScope st).names.lookup y.1 = some .cell ∧ ((cellsFrom (s.heap.objs.size + 1) (defScope st).names []).lookup y.1).isSome = true) := fun y hy =>
    (S.par y.1 (List.of_mem_zip (a := y.1) (b := y.2) hy).1).imp id fun z => ⟨z, PySem.W.cellsFrom_some _ _ _ (.inl z)⟩
  refine codeAny_call_function hr.depth (KX _ _ lk) rfl S.co S.gen rfl (PySem.W.codeRec_of KX hcd) (hb _ _ _ _ (wpAny_newFunctionEnv_cells S.kind hkind fun env he s1 y => ?_))
  subst he
  refine ⟨(e0.mod.nolimit.keeps fun b o z => (e0.bs b o z).1).keeps y.toInCall.keep, codeAny_func ?_⟩
  obtain ⟨t, ht, hq⟩ := hbody cdv A outer s H vs Q E hgd (hr.deeper _) hsp
  have I : Inv (cxOf CX0 P w K mg base N qual (defScope st) f cdv A outer s H E) [] (start N vs) H s1 := inv_start S hr.hd e0 hl r y
  refine wpAny_mono (ht.nox.run [] s1 (start N vs) H _ I hq) (fun fl s' hs => ?_) fun e s' hs => hs
  cases fl with
  | ret u =>
    obtain ⟨v, _, H', J, rv, q⟩ := hs
    exact ⟨v, H', J.os, J.bare, J.base, J.hok, rv, q⟩
  | next =>
    obtain ⟨_, H', J, q⟩ := hs
    exact ⟨V.non, H', J.os, J.bare, J.base, J.hok, rfl, q⟩
  | brk => exact False.elim hs.choose_spec.choose_spec.2
  | cont => exact False.elim hs.choose_spec.choose_spec.2
end
section
variable {P : Program} {w : World} {K : PySem.W.Frag} {mg mb : Str → Option Value} {k : Nat} {fa a : Addr} {fd : FuncData} {x : Str} {sp : Sp} {t : Shared} {vs : List Value} {ns : List Int}
abbrev Told (t : Shared) (r : Result) (t' : Shared) : Prop := r = .ok (.ret (.bool true)) ∧ OldK t.heap t'.heap ∧ t'.os = t.os ∧ AllBare t'.gens
/-- the call, over an abstract heap in which at most the script is tracked -/
theorem call_over {H : Hp} (KX : K.In t.heap) (hns : t.heap.Ns mainGlobals mg) (hb : t.heap.Ns builtinsNs mb) (hbb : ∀ x : Str, x ≠ "__name__" → mb x = bootBuiltins x) (hlim : t.heap.NoLimit) (hg : t.gens = #[])
    (ha : t.heap.get? a = some { cls := .type "list", data := .seq vs.toArray }) (hr : Room k callerA)
    (G : ∀ base : Heap, K.In base → base.Ns mainGlobals mg → FnG P w K mg base CX0 k fa fd [x] sp) (hbind : ∀ (s : Shared) (u : Value), BindsTo s fd ⟨[u], []⟩ [(x, u)])
    (hO : Only H) (hsp : sp [.ref a] H (fun v _ => v = .bl true) fun _ _ _ => False) (hok : HOk P w H t.heap) (hA : ∀ b, H b ≠ none → b = a) (hK : H a ≠ none → K.lookup a = none) :
    codeAny (model P w) callerA (.call (.ref fa) ⟨[.ref a], []⟩) (Told t) t := by
  have free : ∀ {b : Addr}, b ≠ a → H b = none := fun {b} hb' => Classical.byContradiction fun z => hb' (hA b z)
  have nsK : ∀ {b : Addr} {m : Str → Option Value}, t.heap.Ns b m → (hidT t.heap H).Ns b m := fun {b m} ⟨o, es, ep, e, d, r⟩ => by
    refine ⟨o, es, ep, hidT_get e (free fun z => ?_), d, r⟩
    subst z
    rw [ha] at e
    cases e
    cases d
  have hKb : K.In (hidT t.heap H) := fun b o e => hidT_get (KX b o e) (Classical.byContradiction fun z => by
    have hba := hA b z
    subst hba
    rw [hK z] at e
    cases e)
  obtain ⟨mc, l1, l2⟩ := hlim
  have e0 : Env0 P w K mg (hidT t.heap H) callerA [] t H := ⟨rfl, ⟨hKb, nsK hns, ⟨mb, nsK hb, hbb⟩, mc, nsK l1, l2⟩, fun b o e => of_hidT e, Nat.le_of_eq (hidT_size _ _), trivial, fun b z => (nomatch z), hok, .of_eq hg⟩
  refine codeAny_mono ((G _ hKb (nsK hns)).run callerA [] t H ⟨[.ref a], []⟩ [.ref a] [.ref a] _ _ rfl hr e0 (hbind t (.ref a)) (.cons rfl .nil) hsp) fun r t' hres => ?_
  match r, hres with
  | .ok (.ret u), hres =>
    obtain ⟨v, H', ho, hbare, un, hok', r', q⟩ := hres
    obtain rfl : v = .bl true := q
    obtain rfl : u = Value.bool true := r'
    refine ⟨rfl, OldK.of_keep fun b o e => ?_, ho, hbare⟩
    cases hb' : H b with
    | none => exact un.keep b o e hb' (fun z => nomatch (show b ∈ ([] : List Addr) from z)) (fun z => nomatch z)
    | some y =>
      rcases hO b with z | ⟨ob, xs, z⟩
      · rw [hb'] at z
        cases z
      · obtain ⟨e1, _⟩ := hok b _ z
        obtain ⟨e2, _⟩ := hok' b _ (un.frzs b ob _ z)
        rw [e] at e1
        cases e1
        exact e2
  | .ok .next, hres => exact False.elim hres
  | .ok .brk, hres => exact False.elim hres
  | .ok .cont, hres => exact False.elim hres
  | .error e, hres => exact False.elim hres
theorem law_callG (KX : K.In t.heap) (hns : t.heap.Ns mainGlobals mg) (hb : t.heap.Ns builtinsNs mb) (hbb : ∀ x : Str, x ≠ "__name__" → mb x = bootBuiltins x) (hlim : t.heap.NoLimit) (hg : t.gens = #[])
    (ha : t.heap.get? a = some { cls := .type "list", data := .seq vs.toArray }) (hi : IntsAre vs ns) (hl : ns.length ≤ sizeLine) (hr : Room k callerA)
    (G : ∀ base : Heap, K.In base → base.Ns mainGlobals mg → FnG P w K mg base CX0 k fa fd [x] sp) (hbind : ∀ (s : Shared) (u : Value), BindsTo s fd ⟨[u], []⟩ [(x, u)])
    (hsp : ∀ H : Hp, Only H → SqL K H a (ns.map V.int) → sp [.ref a] H (fun v _ => v = .bl true) fun _ _ _ => False) : codeAny (model P w) callerA (.call (.ref fa) ⟨[.ref a], []⟩) (Told t) t := by
  have rv := vals_ints hi
  have lenV := hi.length
  cases hk : K.lookup a with
  | some o =>
    have e := KX a o hk
    rw [ha] at e
    cases e
    have hO : Only (fun _ => none) := fun _ => .inl rfl
    refine call_over KX hns hb hbb hlim hg ha hr G hbind hO (hsp _ hO (.inr ⟨_, vs.toArray, _, hk, rfl, rfl, rfl, by rw [List.size_toArray, lenV]; exact hl, by simpa using rv⟩)) (fun b u z => nomatch z) (fun b z => absurd rfl z) fun z => absurd rfl z
  | none =>
    have hO : Only (upd (fun _ => none) a (.frz { cls := .type "list", data := .seq vs.toArray } (.lst (ns.map V.int)))) := fun b => by
      by_cases hb' : b = a
      · subst hb'
        exact .inr ⟨_, _, upd_same⟩
      · exact .inl (upd_ne hb')
    refine call_over KX hns hb hbb hlim hg ha hr G hbind hO (hsp _ hO (.inl (.inr ⟨_, upd_same⟩))) (fun b u z => ?_) (fun b z => ?_) fun _ => hk
    · by_cases hb' : b = a
      · subst hb'
        rw [upd_same] at z
        cases z
        exact ⟨ha, by rw [List.length_map]; exact hl, vs, _, rv, ha⟩
      · rw [upd_ne hb'] at z
        cases z
    · by_cases hb' : b = a
      · exact hb'
      · exact absurd (upd_ne hb') z
end
theorem walk_ofG {l : PySem.W.OpenLaw} {n k : Nat} {q : Program} {loose : List Str} {XP : (Str → Option Value) → Heap → Prop} {YP : World → Heap → Prop} {d : DefRec} {K : Params → PySem.W.Frag} {sp : PySem.W.Frag → Sp} {x : Str}
    (hn : l.most = some n) (hn2 : n ≤ sizeLine) (hdf : d.params.defaults = []) (hr : Room k callerA) (hY : ∀ (w : World) (h : Heap), YP w h → (K w.params).In h)
    (G : ∀ (w : World) (mg : Str → Option Value) (fa : Addr) (h : Heap), (K w.params).In h → h.Ns mainGlobals mg → mg d.name = some (.ref fa) →
      ∃ fd : FuncData, (∀ (s : Shared) (u : Value), BindsTo s fd ⟨[u], []⟩ [(x, u)]) ∧ ∀ base : Heap, (K w.params).In base → base.Ns mainGlobals mg → FnG l.prog w (K w.params) mg base CX0 k fa fd [x] (sp (K w.params)))
    (hsp : ∀ (K : PySem.W.Frag) (H : Hp) (a : Addr) (ns : List Int), ns.length ≤ n → SqL K H a (ns.map V.int) → sp K [.ref a] H (fun v _ => v = .bl true) fun _ _ _ => False) :
    PySem.W.WalkO q loose XP YP l.row.toRowW d [] (fun f vs => PySem.call f vs) := by
  refine Att.attach_call hn hdf fun w s₀ t mg mb fa o pm cd doc a vs ns Gr Y ho hd hcd hmg hobj hints hlen hg => ?_
  have KX := hY w _ Y
  obtain ⟨fd, hb, hF⟩ := G w mg fa _ KX Gr.T.g hmg
  exact law_callG KX Gr.T.g Gr.T.b Gr.T.builtins Gr.T.nolimit hg hobj hints (Nat.le_trans hlen hn2) hr hF hb fun H _ hS => hsp (K w.params) H a ns hlen hS
end Sh
set_option Elab.async false
set_option linter.all false
set_option maxRecDepth 100000
set_option maxHeartbeats 4000000
namespace Sh
open PySem PySem.Spec PySem.W PyProof.Rows L2 NdefX
/-! ### a head by facts, own exceptions among them -/
theorem andB {a b : Bool} (h : (a && b) = true) : a = true ∧ b = true := Bool.and_eq_true_iff.mp h
/-- the cells that functions hold -/
def cellsG (g : Addr → Option Obj) (as : List Addr) : List Addr := as.flatMap fun a => match g a with
  | some ⟨_, _, .func fd, _⟩ => fd.closure.map (·.2)
  | _ => []
def asX (g : Addr → Option Obj) (n : Nat) : List Addr := cStatics :: (He.asD g n ++ cellsG g (He.asD g n))
/-- an own exception class right below S -/
def xclsB (K : Frag) (S C : Addr) : Bool := (match K.lookup C with
  | some ⟨.type t, _, .cls cd, sl⟩ => decide (t = "type") && (decide (cd.mro = [.ref C, .ref S, .type "ValueError", .type "Exception", .type "BaseException", .type "object"]) && (cd.hasDict && (!cd.hasDel && (match sl.toList with
    | [_, _, _, _, some (.builtin n), _] => decide (n = "ValueError.__new__")
    | _ => false))))
  | _ => false) && (decide (findIn K (.ref C) "__setattr__" = some (some (.builtin "object.__setattr__"))) && (decide (findIn K (.ref C) "__getattribute__" = some (some (.builtin "BaseException.__getattribute__"))) && (decide (findIn K (.ref C) "__getattr__" = some none) &&
    (decide (findIn K (.ref C) "__class__" = some (some (.builtin "object.__class__"))) && keepIn K (.ref C)))))
theorem xclsB_ok {K : Frag} {S C : Addr} (h : xclsB K S C = true) : XCls K S C := by
  obtain ⟨h1, h⟩ := andB h
  obtain ⟨h2, h⟩ := andB h
  obtain ⟨h3, h⟩ := andB h
  obtain ⟨h4, h⟩ := andB h
  obtain ⟨h5, h6⟩ := andB h
  cases q : K.lookup C with
  | none => rw [q] at h1; cases h1
  | some o =>
    obtain ⟨oc, dd, dt, sl⟩ := o
    rw [q] at h1
    cases oc with
    | type t =>
      cases dt with
      | cls cd =>
        obtain ⟨nm, bs, mro, ns, qn, hd, sn, sb, ab, col, del⟩ := cd
        obtain ⟨a1, h1⟩ := andB h1
        obtain ⟨a2, h1⟩ := andB h1
        obtain ⟨a3, h1⟩ := andB h1
        obtain ⟨a4, a5⟩ := andB h1
        have e1 : t = "type" := of_decide_eq_true a1
        have e2 : mro = _ := of_decide_eq_true a2
        have e3 : hd = true := a3
        have e4 : del = false := by
          cases del
          · rfl
          · cases a4
        subst e1 e2 e3 e4
        have es : ∃ k0 k1 k2 k3 k5, sl = #[k0, k1, k2, k3, some (.builtin "ValueError.__new__"), k5] := by
          obtain ⟨l⟩ := sl
          match l, a5 with
          | [k0, k1, k2, k3, some (.builtin n), k5], a5 =>
            have e5 : n = "ValueError.__new__" := of_decide_eq_true a5
            subst e5
            exact ⟨k0, k1, k2, k3, k5, rfl⟩
        obtain ⟨k0, k1, k2, k3, k5, rfl⟩ := es
        exact xcls_mk q (of_decide_eq_true h2) (of_decide_eq_true h3) (of_decide_eq_true h4) (of_decide_eq_true h5) h6
      | _ => cases h1
    | _ => cases h1
def fileB (file : Str) (vs : Array Value) : Bool := match vs[2]? with
  | some (Value.str fl _) => file == fl
  | _ => false
theorem fileB_ok {file : Str} {vs : Array Value} (h : fileB file vs = true) : ∃ fl tf, vs[2]? = some (.str fl tf) ∧ (file == fl) = true := by
  unfold fileB at h
  cases q : vs[2]? with
  | none => rw [q] at h; cases h
  | some v =>
    rw [q] at h
    cases v with
    | str fl tf => exact ⟨fl, tf, rfl, h⟩
    | _ => cases h
/-- its __init__: what it holds beside its text -/
def xinitB (file : Str) (K : Frag) (C f : Addr) (qual : Str) : Bool := decide (findIn K (.ref C) "__init__" = some (some (.ref f))) && (decide (typeIn K (.ref f) = some (.type "function")) &&
  ((match K.lookup f with
    | some ⟨_, _, .func fd, _⟩ => (match fd.code, fd.closure with
      | .ref cd, [(_, cc)] => codeIn K (.ref cd) qual && ((match K.lookup cd with
          | some ⟨_, _, .fields vs, _⟩ => fileB file vs
          | _ => false) && (match K.lookup cc with
          | some ⟨_, _, .cell (some (.ref D)), _⟩ => decide (D = C)
          | _ => false))
      | _, _ => false)
    | _ => false) && decide (ks_superIn K C C "__init__" = some (some (.builtin "ValueError.__init__")))))
abbrev XV : Type := Option (Str × Str × Arguments × FuncBody × Scope × Addr × List Str × Value × Addr)
def xvOf (K : Frag) (f : Addr) : XV := match K.lookup f with
  | some ⟨_, _, .func fd, _⟩ => some (fd.name, fd.qualname, fd.params, fd.body, fd.scope, fd.globals, fd.closure.map (·.1), fd.defaults, fd.builtins)
  | _ => none
structure XD where
  cls : Str
  qual : Str
  st : Stmt
def XD.val (d : XD) : XV := some ("__init__", d.qual, defArgs d.st, .stmts (defBody d.st), defScope d.st, mainGlobals, ["__class__"], .none, builtinsNs)
def XD.fn (K : Frag) (d : XD) : Addr := He.ma K (He.ga K d.cls) "__init__"
theorem xinit_of {P : Program} {K : Frag} {mg : Str → Option Value} {S C f : Addr} {d : XD} (x : XCls K S C) (e : xvOf K f = d.val) (b : xinitB P.main.file K C f d.qual = true) (mgs : mg "super" = none) (opq : nsIn K cStatics "thirdparty.any" = some none)
    (top : (P.main.scope.names.lookup ("super" : Str)).isSome = false) (hh : ∃ ar : Arg, ((defArgs d.st).posonlyargs ++ (defArgs d.st).args).head? = some ar ∧ ar.arg = "self") (ks : (defScope d.st).names.lookup ("super" : Str) = some .globalImplicit)
    (kc : (defScope d.st).names.lookup ("__class__" : Str) = some .free) (ka : (defScope d.st).names.lookup ("self" : Str) = some .local) : ∃ fd, XInit P K mg C f d.qual d.st fd := by
  obtain ⟨b1, b⟩ := andB b
  obtain ⟨b2, b⟩ := andB b
  obtain ⟨b3, b4⟩ := andB b
  unfold xvOf at e
  cases q : K.lookup f with
  | none => rw [q] at b3; cases b3
  | some o =>
    obtain ⟨oc, od, dt, osl⟩ := o
    rw [q] at b3 e
    cases dt with
    | func fd =>
      obtain ⟨n1, n2, n3, n4, n5, n6, n7, n8, n9, n10, n11, n12, n13, n14, n15⟩ := fd
      have e2 : (some (n1, n2, n3, n4, n5, n6, n7.map (·.1), n8, n15) : XV) = (some (("__init__" : Str), d.qual, defArgs d.st, .stmts (defBody d.st), defScope d.st, mainGlobals, ["__class__"], .none, builtinsNs) : XV) := e
      simp only [Option.some.injEq, Prod.mk.injEq] at e2
      obtain ⟨h1, h2, h3, h4, h5, h6, h7, h8, h9⟩ := e2
      subst h1 h2 h3 h4 h5 h6 h8 h9
      cases n7 with
      | nil => cases h7
      | cons p r =>
        cases r with
        | cons p2 r2 => exact nomatch (List.cons.inj h7).2
        | nil =>
          obtain ⟨nn, cc⟩ := p
          have en : nn = "__class__" := (List.cons.inj h7).1
          subst en
          cases n13 with
          | ref cd =>
            obtain ⟨c1, c2⟩ := andB b3
            obtain ⟨c2, c3⟩ := andB c2
            cases q2 : K.lookup cd with
            | none => rw [q2] at c2; cases c2
            | some o2 =>
              obtain ⟨oc2, od2, dt2, osl2⟩ := o2
              rw [q2] at c2
              cases dt2 with
              | fields vs =>
                obtain ⟨fl, tf, hv1, hv2⟩ := fileB_ok c2
                cases q3 : K.lookup cc with
                | none => rw [q3] at c3; cases c3
                | some o3 =>
                  obtain ⟨oc3, od3, dt3, osl3⟩ := o3
                  rw [q3] at c3
                  cases dt3 with
                  | cell co =>
                    cases co with
                    | none => cases c3
                    | some v =>
                      cases v with
                      | ref D =>
                        have eD : D = C := of_decide_eq_true c3
                        subst eD
                        exact ⟨_, xinit_mk (st := d.st) x (of_decide_eq_true b1) (of_decide_eq_true b2) q c1 q2 hv1 hv2 q3 (of_decide_eq_true b4) mgs opq top hh ks kc ka⟩
                      | _ => cases c3
                  | _ => cases c3
              | _ => cases c2
          | _ => cases b3
    | _ => cases b3
/-! the Hook -/
abbrev AlX : Type := He.AlD × Bool × List XV
def obsX (fa : List He.Fa) (fn : List He.DefD) (ex : List (Frag → Bool)) (xs : List XD) (K : Frag) : AlX := (He.obsD fa fn K, ex.all (fun f => f K), xs.map fun d => xvOf K (d.fn K))
def valX (fn : List He.DefD) (xs : List XD) : AlX := (He.valD fn, true, xs.map XD.val)
structure SaysX (fa : List He.Fa) (fn : List He.DefD) (ex : List (Frag → Bool)) (xs : List XD) (K : Frag) : Prop where
  d : He.SaysD fa fn K
  e : ∀ (i : Nat) {f : Frag → Bool}, ex[i]? = some f → f K = true
  x : ∀ (i : Nat) {d : XD}, xs[i]? = some d → xvOf K (d.fn K) = d.val
theorem says_of {fa : List He.Fa} {fn : List He.DefD} {ex : List (Frag → Bool)} {xs : List XD} {K : Frag} (h : obsX fa fn ex xs K = valX fn xs) : SaysX fa fn ex xs K := by
  have h1 : He.obsD fa fn K = He.valD fn := congrArg (fun z : AlX => z.1) h
  have h2 : ex.all (fun f => f K) = true := congrArg (fun z : AlX => z.2.1) h
  have h3 : xs.map (fun d => xvOf K (d.fn K)) = xs.map XD.val := congrArg (fun z : AlX => z.2.2) h
  refine ⟨h1, fun i f e => List.all_eq_true.mp h2 f (List.mem_of_getElem? e), fun i d e => ?_⟩
  have e2 : (xs.map fun d => xvOf K (d.fn K))[i]? = (xs.map XD.val)[i]? := by rw [h3]
  rw [List.getElem?_map, List.getElem?_map, e] at e2
  exact Option.some.inj e2
def obsXG (n : Nat) (fa : List He.Fa) (fn : List He.DefD) (ex : List (Frag → Bool)) (xs : List XD) (g : Addr → Option Obj) : AlX := obsX fa fn ex xs (He.frG g (asX g n))
def hookX (n : Nat) (fa : List He.Fa) (fn : List He.DefD) (ex : List (Frag → Bool)) (xs : List XD) : PySem.W.Hook where
  α := AlX
  obs := fun s => obsXG n fa fn ex xs s.heap.get?
  val := fun _ => valX fn xs
  says := fun _ h => ∃ K : Frag, K.In h ∧ SaysX fa fn ex xs K
  of := fun _ _ e => ⟨_, He.frG_in, says_of e⟩
  keeps := fun _ _ _ ⟨K, hK, c⟩ k => ⟨K, Frag.In.keeps hK k, c⟩
theorem obsXG_eq {n : Nat} {fa : List He.Fa} {fn : List He.DefD} {ex : List (Frag → Bool)} {xs : List XD} {g : Addr → Option Obj} {s : Shared} (h : ∀ a, g a = s.heap.get? a) : obsXG n fa fn ex xs g = (hookX n fa fn ex xs).obs s := by
  have e : g = s.heap.get? := funext h
  rw [e] <;> rfl
/-- a def without defaults -/
theorem fun_of {K : Frag} {x qual : Str} {st : Stmt} {f : Addr} {fd : FuncData} (F : FunD K x qual (defArgs st) (defBody st) (defScope st) [] [] f fd) : Fun K x qual st f fd := by
  obtain ⟨oc, od, dV, kV, doc, pm, an, cdv, ct, osl, rfl, lk, hcd, hD, hK⟩ := F.ex
  rcases hD with ⟨_, rfl⟩ | ⟨z, _⟩
  · exact ⟨⟨oc, od, kV, doc, pm, an, cdv, ct, osl, rfl, lk, hcd⟩, F.kp⟩
  · exact absurd rfl z
theorem walk_ofEG {l : PySem.W.OpenLaw} {n k : Nat} {q : Program} {loose : List Str} {XP : (Str → Option Value) → Heap → Prop} {YP : World → Heap → Prop} {d : DefRec} {x : Str}
    (hn : l.most = some n) (hn2 : n ≤ sizeLine) (hdf : d.params.defaults = []) (hr : Room k callerA)
    (G : ∀ (w : World) (mg : Str → Option Value) (fa : Addr) (h : Heap), YP w h → h.Ns mainGlobals mg → mg d.name = some (.ref fa) →
      ∃ (K : Frag) (fd : FuncData) (sp : Sp), K.In h ∧ (∀ (s : Shared) (u : Value), BindsTo s fd ⟨[u], []⟩ [(x, u)]) ∧
        (∀ (H : Hp) (a : Addr) (ns : List Int), ns.length ≤ n → SqL K H a (ns.map V.int) → sp [.ref a] H (fun v _ => v = .bl true) fun _ _ _ => False) ∧
        ∀ base : Heap, K.In base → base.Ns mainGlobals mg → FnG l.prog w K mg base CX0 k fa fd [x] sp) :
    WalkO q loose XP YP l.row.toRowW d [] (fun f vs => PySem.call f vs) := by
  refine Att.attach_call hn hdf fun w s₀ t mg mb fa o pm cd doc a vs ns Gr Y ho hd hcd hmg hobj hints hlen hg => ?_
  obtain ⟨K, fd, sp, KX, hb, hsp, hF⟩ := G w mg fa _ Y Gr.T.g hmg
  exact law_callG KX Gr.T.g Gr.T.b Gr.T.builtins Gr.T.nolimit hg hobj hints (Nat.le_trans hlen hn2) hr hF hb fun H _ hS => hsp H a ns hlen hS
end Sh

set_option Elab.async false
set_option linter.all false
set_option maxRecDepth 100000
set_option maxHeartbeats 4000000
namespace Toy
open PySem L2 Sh
def top (i : Nat) : Stmt := PySem.Challenge.pw_treeshed_k86_errors_by_place_and_by_name.main.body.getD i (.Pass ⟨0, 0, 0, 0⟩)
abbrev s_x_BadLetters : Stmt := inClass (top 2) 0
theorem sc_x_BadLetters : NdefX.NScope ["self", "letters", "__class__"] ["self", "letters"] ["__class__"] (defScope s_x_BadLetters) := NdefX.nscope_by (by decide +kernel)
abbrev s_x_TooMany : Stmt := inClass (top 3) 0
theorem sc_x_TooMany : NdefX.NScope ["self", "what", "many", "most", "__class__"] ["self", "what", "many", "most"] ["__class__"] (defScope s_x_TooMany) := NdefX.nscope_by (by decide +kernel)
abbrev s_x_BadRow : Stmt := inClass (top 4) 0
theorem sc_x_BadRow : NdefX.NScope ["self", "number", "__class__"] ["self", "number"] ["__class__"] (defScope s_x_BadRow) := NdefX.nscope_by (by decide +kernel)
abbrev s_x_Lone : Stmt := inClass (top 5) 0
theorem sc_x_Lone : NdefX.NScope ["self", "place", "__class__"] ["self", "place"] ["__class__"] (defScope s_x_Lone) := NdefX.nscope_by (by decide +kernel)
abbrev s_x_NoPlace : Stmt := inClass (top 6) 0
theorem sc_x_NoPlace : NdefX.NScope ["self", "place", "__class__"] ["self", "place"] ["__class__"] (defScope s_x_NoPlace) := NdefX.nscope_by (by decide +kernel)
abbrev s_x_BadItem : Stmt := inClass (top 7) 0
theorem sc_x_BadItem : NdefX.NScope ["self", "number", "__class__"] ["self", "number"] ["__class__"] (defScope s_x_BadItem) := NdefX.nscope_by (by decide +kernel)
abbrev s_x_BadKind : Stmt := inClass (top 8) 0
theorem sc_x_BadKind : NdefX.NScope ["self", "side", "number", "__class__"] ["self", "side", "number"] ["__class__"] (defScope s_x_BadKind) := NdefX.nscope_by (by decide +kernel)
abbrev s_x_BadName : Stmt := inClass (top 9) 0
theorem sc_x_BadName : NdefX.NScope ["self", "name", "__class__"] ["self", "name"] ["__class__"] (defScope s_x_BadName) := NdefX.nscope_by (by decide +kernel)
abbrev s_x_BadSize : Stmt := inClass (top 11) 0
theorem sc_x_BadSize : NdefX.NScope ["self", "size", "__class__"] ["self", "size"] ["__class__"] (defScope s_x_BadSize) := NdefX.nscope_by (by decide +kernel)
abbrev s_x_BadValues : Stmt := inClass (top 12) 0
theorem sc_x_BadValues : NdefX.NScope ["self", "index", "__class__"] ["self", "index"] ["__class__"] (defScope s_x_BadValues) := NdefX.nscope_by (by decide +kernel)
abbrev s_x_BadStatement : Stmt := inClass (top 13) 0
theorem sc_x_BadStatement : NdefX.NScope ["self", "block", "number", "__class__"] ["self", "block", "number"] ["__class__"] (defScope s_x_BadStatement) := NdefX.nscope_by (by decide +kernel)
abbrev s_x_BadText : Stmt := inClass (top 14) 0
theorem sc_x_BadText : NdefX.NScope ["self", "line", "__class__"] ["self", "line"] ["__class__"] (defScope s_x_BadText) := NdefX.nscope_by (by decide +kernel)
abbrev s_x_BadCall : Stmt := inClass (top 15) 0
theorem sc_x_BadCall : NdefX.NScope ["self", "number", "__class__"] ["self", "number"] ["__class__"] (defScope s_x_BadCall) := NdefX.nscope_by (by decide +kernel)
abbrev s_x_BadWord : Stmt := inClass (top 16) 0
theorem sc_x_BadWord : NdefX.NScope ["self", "number", "__class__"] ["self", "number"] ["__class__"] (defScope s_x_BadWord) := NdefX.nscope_by (by decide +kernel)
abbrev s_x_BadValue : Stmt := inClass (top 17) 0
theorem sc_x_BadValue : NdefX.NScope ["self", "number", "__class__"] ["self", "number"] ["__class__"] (defScope s_x_BadValue) := NdefX.nscope_by (by decide +kernel)
abbrev s_x_BadScript : Stmt := inClass (top 18) 0
theorem sc_x_BadScript : NdefX.NScope ["self", "script", "index", "__class__"] ["self", "script", "index"] ["__class__"] (defScope s_x_BadScript) := NdefX.nscope_by (by decide +kernel)
abbrev s_x_BadAspect : Stmt := inClass (top 19) 0
theorem sc_x_BadAspect : NdefX.NScope ["self", "index", "__class__"] ["self", "index"] ["__class__"] (defScope s_x_BadAspect) := NdefX.nscope_by (by decide +kernel)
abbrev s_x_BadWhere : Stmt := inClass (top 20) 0
theorem sc_x_BadWhere : NdefX.NScope ["self", "number", "__class__"] ["self", "number"] ["__class__"] (defScope s_x_BadWhere) := NdefX.nscope_by (by decide +kernel)
abbrev s_x_BadRelation : Stmt := inClass (top 21) 0
theorem sc_x_BadRelation : NdefX.NScope ["self", "relation", "__class__"] ["self", "relation"] ["__class__"] (defScope s_x_BadRelation) := NdefX.nscope_by (by decide +kernel)
abbrev s_x_NoNumber : Stmt := inClass (top 22) 0
theorem sc_x_NoNumber : NdefX.NScope ["self", "number", "__class__"] ["self", "number"] ["__class__"] (defScope s_x_NoNumber) := NdefX.nscope_by (by decide +kernel)
abbrev s_x_InTheWay : Stmt := inClass (top 23) 0
theorem sc_x_InTheWay : NdefX.NScope ["self", "number", "__class__"] ["self", "number"] ["__class__"] (defScope s_x_InTheWay) := NdefX.nscope_by (by decide +kernel)
abbrev s_x_BadPlan : Stmt := inClass (top 24) 0
theorem sc_x_BadPlan : NdefX.NScope ["self", "field", "__class__"] ["self", "field"] ["__class__"] (defScope s_x_BadPlan) := NdefX.nscope_by (by decide +kernel)
abbrev s_x_NoVersion : Stmt := inClass (top 26) 0
theorem sc_x_NoVersion : NdefX.NScope ["self", "number", "__class__"] ["self", "number"] ["__class__"] (defScope s_x_NoVersion) := NdefX.nscope_by (by decide +kernel)
abbrev s_x_NoBranch : Stmt := inClass (top 27) 0
theorem sc_x_NoBranch : NdefX.NScope ["self", "name", "__class__"] ["self", "name"] ["__class__"] (defScope s_x_NoBranch) := NdefX.nscope_by (by decide +kernel)
abbrev s_x_UsedName : Stmt := inClass (top 28) 0
theorem sc_x_UsedName : NdefX.NScope ["self", "name", "__class__"] ["self", "name"] ["__class__"] (defScope s_x_UsedName) := NdefX.nscope_by (by decide +kernel)
abbrev s_x_NoDeed : Stmt := inClass (top 29) 0
theorem sc_x_NoDeed : NdefX.NScope ["self", "name", "__class__"] ["self", "name"] ["__class__"] (defScope s_x_NoDeed) := NdefX.nscope_by (by decide +kernel)
abbrev s_x_BadDeed : Stmt := inClass (top 30) 0
theorem sc_x_BadDeed : NdefX.NScope ["self", "name", "__class__"] ["self", "name"] ["__class__"] (defScope s_x_BadDeed) := NdefX.nscope_by (by decide +kernel)
abbrev s_x_BadRule : Stmt := inClass (top 32) 0
theorem sc_x_BadRule : NdefX.NScope ["self", "name", "__class__"] ["self", "name"] ["__class__"] (defScope s_x_BadRule) := NdefX.nscope_by (by decide +kernel)
abbrev s_x_Ring : Stmt := inClass (top 33) 0
theorem sc_x_Ring : NdefX.NScope ["self", "name", "__class__"] ["self", "name"] ["__class__"] (defScope s_x_Ring) := NdefX.nscope_by (by decide +kernel)
abbrev s_x_NoRule : Stmt := inClass (top 34) 0
theorem sc_x_NoRule : NdefX.NScope ["self", "root", "__class__"] ["self", "root"] ["__class__"] (defScope s_x_NoRule) := NdefX.nscope_by (by decide +kernel)
abbrev s_x_BadRank : Stmt := inClass (top 35) 0
theorem sc_x_BadRank : NdefX.NScope ["self", "number", "__class__"] ["self", "number"] ["__class__"] (defScope s_x_BadRank) := NdefX.nscope_by (by decide +kernel)
abbrev s_x_UsedLabel : Stmt := inClass (top 36) 0
theorem sc_x_UsedLabel : NdefX.NScope ["self", "label", "__class__"] ["self", "label"] ["__class__"] (defScope s_x_UsedLabel) := NdefX.nscope_by (by decide +kernel)
abbrev s_x_NoLabel : Stmt := inClass (top 37) 0
theorem sc_x_NoLabel : NdefX.NScope ["self", "label", "__class__"] ["self", "label"] ["__class__"] (defScope s_x_NoLabel) := NdefX.nscope_by (by decide +kernel)
abbrev s_x_BadLog : Stmt := inClass (top 38) 0
theorem sc_x_BadLog : NdefX.NScope ["self", "index", "__class__"] ["self", "index"] ["__class__"] (defScope s_x_BadLog) := NdefX.nscope_by (by decide +kernel)
abbrev s_l_pen : Stmt := top 40
abbrev N_l_pen : List Str := ["_law_script"]
theorem sc_l_pen : FnScope ["_law_script"] ["_law_script"] (defScope s_l_pen) := ⟨rfl, rfl, rfl, by decide +kernel, rfl, by decide +kernel, by decide +kernel⟩
abbrev s_l_draw : Stmt := top 41
abbrev N_l_draw : List Str := ["_law_pen_here", "_law_limit", "_law_digit", "_law_k", "_law_told_cells", "_law_cell", "_law_mix"]
theorem sc_l_draw : FnScope ["_law_pen_here", "_law_limit", "_law_digit", "_law_k", "_law_told_cells", "_law_cell", "_law_mix"] ["_law_pen_here", "_law_limit"] (defScope s_l_draw) := ⟨rfl, rfl, rfl, by decide +kernel, rfl, by decide +kernel, by decide +kernel⟩
abbrev s_l_pick : Stmt := top 42
abbrev N_l_pick : List Str := ["_law_pen_here", "_law_some"]
theorem sc_l_pick : FnScope ["_law_pen_here", "_law_some"] ["_law_pen_here", "_law_some"] (defScope s_l_pick) := ⟨rfl, rfl, rfl, by decide +kernel, rfl, by decide +kernel, by decide +kernel⟩
abbrev s_l_value : Stmt := top 43
abbrev N_l_value : List Str := ["_law_pen_here", "_law_far"]
theorem sc_l_value : FnScope ["_law_pen_here", "_law_far"] ["_law_pen_here"] (defScope s_l_value) := ⟨rfl, rfl, rfl, by decide +kernel, rfl, by decide +kernel, by decide +kernel⟩
abbrev s_l_of_numbers : Stmt := top 44
abbrev N_l_of_numbers : List Str := ["_law_thing", "_law_rows", "_law_spot", "_law_error"]
theorem sc_l_of_numbers : FnScope ["_law_thing", "_law_rows", "_law_spot", "_law_error"] ["_law_thing"] (defScope s_l_of_numbers) := ⟨rfl, rfl, rfl, by decide +kernel, rfl, by decide +kernel, by decide +kernel⟩
abbrev s_l_of_names : Stmt := top 45
abbrev N_l_of_names : List Str := ["_law_thing", "_law_rows", "_law_spot", "_law_error"]
theorem sc_l_of_names : FnScope ["_law_thing", "_law_rows", "_law_spot", "_law_error"] ["_law_thing"] (defScope s_l_of_names) := ⟨rfl, rfl, rfl, by decide +kernel, rfl, by decide +kernel, by decide +kernel⟩
abbrev s_l_of_indices : Stmt := top 46
abbrev N_l_of_indices : List Str := ["_law_thing", "_law_rows", "_law_spot", "_law_error"]
theorem sc_l_of_indices : FnScope ["_law_thing", "_law_rows", "_law_spot", "_law_error"] ["_law_thing"] (defScope s_l_of_indices) := ⟨rfl, rfl, rfl, by decide +kernel, rfl, by decide +kernel, by decide +kernel⟩
abbrev s_l_of_places : Stmt := top 47
abbrev N_l_of_places : List Str := ["_law_thing", "_law_rows", "_law_spot", "_law_error"]
theorem sc_l_of_places : FnScope ["_law_thing", "_law_rows", "_law_spot", "_law_error"] ["_law_thing"] (defScope s_l_of_places) := ⟨rfl, rfl, rfl, by decide +kernel, rfl, by decide +kernel, by decide +kernel⟩
abbrev s_l_of_labels : Stmt := top 48
abbrev N_l_of_labels : List Str := ["_law_thing", "_law_rows", "_law_spot", "_law_error"]
theorem sc_l_of_labels : FnScope ["_law_thing", "_law_rows", "_law_spot", "_law_error"] ["_law_thing"] (defScope s_l_of_labels) := ⟨rfl, rfl, rfl, by decide +kernel, rfl, by decide +kernel, by decide +kernel⟩
abbrev s_l_of_others : Stmt := top 49
abbrev N_l_of_others : List Str := ["_law_thing", "_law_found", "_law_error"]
theorem sc_l_of_others : FnScope ["_law_thing", "_law_found", "_law_error"] ["_law_thing"] (defScope s_l_of_others) := ⟨rfl, rfl, rfl, by decide +kernel, rfl, by decide +kernel, by decide +kernel⟩
abbrev s_l_of_several : Stmt := top 50
abbrev N_l_of_several : List Str := ["_law_thing", "_law_other", "_law_third", "_law_found", "_law_error"]
theorem sc_l_of_several : FnScope ["_law_thing", "_law_other", "_law_third", "_law_found", "_law_error"] ["_law_thing", "_law_other", "_law_third"] (defScope s_l_of_several) := ⟨rfl, rfl, rfl, by decide +kernel, rfl, by decide +kernel, by decide +kernel⟩
abbrev s_l_met : Stmt := top 51
abbrev N_l_met : List Str := ["_law_error", "_law_told", "_law_spot"]
theorem sc_l_met : FnScope ["_law_error", "_law_told", "_law_spot"] ["_law_error"] (defScope s_l_met) := ⟨rfl, rfl, rfl, by decide +kernel, rfl, by decide +kernel, by decide +kernel⟩
abbrev s_l_is_below : Stmt := top 52
abbrev N_l_is_below : List Str := ["_law_error"]
theorem sc_l_is_below : FnScope ["_law_error"] ["_law_error"] (defScope s_l_is_below) := ⟨rfl, rfl, rfl, by decide +kernel, rfl, by decide +kernel, by decide +kernel⟩
abbrev s_law : Stmt := top 53
abbrev N_law : List Str := ["_law_script", "_law_pen_here", "_law_thing", "_law_other", "_law_third", "_law_rows", "_law_several", "_law_made", "_law_spot", "_law_error", "_law_row"]
theorem sc_law : FnScope ["_law_script", "_law_pen_here", "_law_thing", "_law_other", "_law_third", "_law_rows", "_law_several", "_law_made", "_law_spot", "_law_error", "_law_row"] ["_law_script"] (defScope s_law) := ⟨rfl, rfl, rfl, by decide +kernel, rfl, by decide +kernel, by decide +kernel⟩
structure Tx (P : Program) (K : PySem.W.Frag) (mg : Str → Option Value) where
  b_super : mg "super" = none
  c_ShedError : Addr
  m_ShedError : mg "ShedError" = some (.ref c_ShedError)
  iS : (PySem.W.clsIn K c_ShedError).isSome = true
  tS : PySem.W.typeIn K (.ref c_ShedError) = some (.type "type")
  o_get : PySem.W.specialIn K (.builtin "object.__class__") "__get__" = some (some (.builtin "getset_descriptor.__get__"))
  o_tk : PySem.W.takesIn K (.builtin "object.__class__") = some true
  c_BadLetters : Addr
  m_BadLetters : mg "BadLetters" = some (.ref c_BadLetters)
  x_BadLetters : XCls K c_ShedError c_BadLetters
  c_TooMany : Addr
  m_TooMany : mg "TooMany" = some (.ref c_TooMany)
  x_TooMany : XCls K c_ShedError c_TooMany
  c_BadRow : Addr
  m_BadRow : mg "BadRow" = some (.ref c_BadRow)
  x_BadRow : XCls K c_ShedError c_BadRow
  c_Lone : Addr
  m_Lone : mg "Lone" = some (.ref c_Lone)
  x_Lone : XCls K c_ShedError c_Lone
  c_NoPlace : Addr
  m_NoPlace : mg "NoPlace" = some (.ref c_NoPlace)
  x_NoPlace : XCls K c_ShedError c_NoPlace
  c_BadItem : Addr
  m_BadItem : mg "BadItem" = some (.ref c_BadItem)
  x_BadItem : XCls K c_ShedError c_BadItem
  c_BadKind : Addr
  m_BadKind : mg "BadKind" = some (.ref c_BadKind)
  x_BadKind : XCls K c_ShedError c_BadKind
  c_BadName : Addr
  m_BadName : mg "BadName" = some (.ref c_BadName)
  x_BadName : XCls K c_ShedError c_BadName
  c_BadSize : Addr
  m_BadSize : mg "BadSize" = some (.ref c_BadSize)
  x_BadSize : XCls K c_ShedError c_BadSize
  c_BadValues : Addr
  m_BadValues : mg "BadValues" = some (.ref c_BadValues)
  x_BadValues : XCls K c_ShedError c_BadValues
  c_BadStatement : Addr
  m_BadStatement : mg "BadStatement" = some (.ref c_BadStatement)
  x_BadStatement : XCls K c_ShedError c_BadStatement
  c_BadText : Addr
  m_BadText : mg "BadText" = some (.ref c_BadText)
  x_BadText : XCls K c_ShedError c_BadText
  c_BadCall : Addr
  m_BadCall : mg "BadCall" = some (.ref c_BadCall)
  x_BadCall : XCls K c_ShedError c_BadCall
  c_BadWord : Addr
  m_BadWord : mg "BadWord" = some (.ref c_BadWord)
  x_BadWord : XCls K c_ShedError c_BadWord
  c_BadValue : Addr
  m_BadValue : mg "BadValue" = some (.ref c_BadValue)
  x_BadValue : XCls K c_ShedError c_BadValue
  c_BadScript : Addr
  m_BadScript : mg "BadScript" = some (.ref c_BadScript)
  x_BadScript : XCls K c_ShedError c_BadScript
  c_BadAspect : Addr
  m_BadAspect : mg "BadAspect" = some (.ref c_BadAspect)
  x_BadAspect : XCls K c_ShedError c_BadAspect
  c_BadWhere : Addr
  m_BadWhere : mg "BadWhere" = some (.ref c_BadWhere)
  x_BadWhere : XCls K c_ShedError c_BadWhere
  c_BadRelation : Addr
  m_BadRelation : mg "BadRelation" = some (.ref c_BadRelation)
  x_BadRelation : XCls K c_ShedError c_BadRelation
  c_NoNumber : Addr
  m_NoNumber : mg "NoNumber" = some (.ref c_NoNumber)
  x_NoNumber : XCls K c_ShedError c_NoNumber
  c_InTheWay : Addr
  m_InTheWay : mg "InTheWay" = some (.ref c_InTheWay)
  x_InTheWay : XCls K c_ShedError c_InTheWay
  c_BadPlan : Addr
  m_BadPlan : mg "BadPlan" = some (.ref c_BadPlan)
  x_BadPlan : XCls K c_ShedError c_BadPlan
  c_NoVersion : Addr
  m_NoVersion : mg "NoVersion" = some (.ref c_NoVersion)
  x_NoVersion : XCls K c_ShedError c_NoVersion
  c_NoBranch : Addr
  m_NoBranch : mg "NoBranch" = some (.ref c_NoBranch)
  x_NoBranch : XCls K c_ShedError c_NoBranch
  c_UsedName : Addr
  m_UsedName : mg "UsedName" = some (.ref c_UsedName)
  x_UsedName : XCls K c_ShedError c_UsedName
  c_NoDeed : Addr
  m_NoDeed : mg "NoDeed" = some (.ref c_NoDeed)
  x_NoDeed : XCls K c_ShedError c_NoDeed
  c_BadDeed : Addr
  m_BadDeed : mg "BadDeed" = some (.ref c_BadDeed)
  x_BadDeed : XCls K c_ShedError c_BadDeed
  c_BadRule : Addr
  m_BadRule : mg "BadRule" = some (.ref c_BadRule)
  x_BadRule : XCls K c_ShedError c_BadRule
  c_Ring : Addr
  m_Ring : mg "Ring" = some (.ref c_Ring)
  x_Ring : XCls K c_ShedError c_Ring
  c_NoRule : Addr
  m_NoRule : mg "NoRule" = some (.ref c_NoRule)
  x_NoRule : XCls K c_ShedError c_NoRule
  c_BadRank : Addr
  m_BadRank : mg "BadRank" = some (.ref c_BadRank)
  x_BadRank : XCls K c_ShedError c_BadRank
  c_UsedLabel : Addr
  m_UsedLabel : mg "UsedLabel" = some (.ref c_UsedLabel)
  x_UsedLabel : XCls K c_ShedError c_UsedLabel
  c_NoLabel : Addr
  m_NoLabel : mg "NoLabel" = some (.ref c_NoLabel)
  x_NoLabel : XCls K c_ShedError c_NoLabel
  c_BadLog : Addr
  m_BadLog : mg "BadLog" = some (.ref c_BadLog)
  x_BadLog : XCls K c_ShedError c_BadLog
  c_NotExact : Addr
  m_NotExact : mg "NotExact" = some (.ref c_NotExact)
  x_NotExact : XCls K c_ShedError c_NotExact
  c_OtherLetters : Addr
  m_OtherLetters : mg "OtherLetters" = some (.ref c_OtherLetters)
  x_OtherLetters : XCls K c_ShedError c_OtherLetters
  c_BrokenRule : Addr
  m_BrokenRule : mg "BrokenRule" = some (.ref c_BrokenRule)
  x_BrokenRule : XCls K c_ShedError c_BrokenRule
  e0_NotExact : PySem.W.excIn K c_NotExact [.type "ValueError", .type "Exception", .type "BaseException", .type "object"] "ValueError.__new__" = true
  e0_OtherLetters : PySem.W.excIn K c_OtherLetters [.type "ValueError", .type "Exception", .type "BaseException", .type "object"] "ValueError.__new__" = true
  e0_BrokenRule : PySem.W.excIn K c_BrokenRule [.type "ValueError", .type "Exception", .type "BaseException", .type "object"] "ValueError.__new__" = true
  a_x_BadLetters : Addr
  fd_x_BadLetters : FuncData
  i_BadLetters : XInit P K mg c_BadLetters a_x_BadLetters "BadLetters.__init__" s_x_BadLetters fd_x_BadLetters
  nf_BadLetters_letters : PySem.W.findIn K (.ref c_BadLetters) "letters" = some none
  a_x_TooMany : Addr
  fd_x_TooMany : FuncData
  i_TooMany : XInit P K mg c_TooMany a_x_TooMany "TooMany.__init__" s_x_TooMany fd_x_TooMany
  nf_TooMany_what : PySem.W.findIn K (.ref c_TooMany) "what" = some none
  nf_TooMany_many : PySem.W.findIn K (.ref c_TooMany) "many" = some none
  nf_TooMany_most : PySem.W.findIn K (.ref c_TooMany) "most" = some none
  a_x_BadRow : Addr
  fd_x_BadRow : FuncData
  i_BadRow : XInit P K mg c_BadRow a_x_BadRow "BadRow.__init__" s_x_BadRow fd_x_BadRow
  nf_BadRow_number : PySem.W.findIn K (.ref c_BadRow) "number" = some none
  a_x_Lone : Addr
  fd_x_Lone : FuncData
  i_Lone : XInit P K mg c_Lone a_x_Lone "Lone.__init__" s_x_Lone fd_x_Lone
  nf_Lone_place : PySem.W.findIn K (.ref c_Lone) "place" = some none
  a_x_NoPlace : Addr
  fd_x_NoPlace : FuncData
  i_NoPlace : XInit P K mg c_NoPlace a_x_NoPlace "NoPlace.__init__" s_x_NoPlace fd_x_NoPlace
  nf_NoPlace_place : PySem.W.findIn K (.ref c_NoPlace) "place" = some none
  a_x_BadItem : Addr
  fd_x_BadItem : FuncData
  i_BadItem : XInit P K mg c_BadItem a_x_BadItem "BadItem.__init__" s_x_BadItem fd_x_BadItem
  nf_BadItem_number : PySem.W.findIn K (.ref c_BadItem) "number" = some none
  a_x_BadKind : Addr
  fd_x_BadKind : FuncData
  i_BadKind : XInit P K mg c_BadKind a_x_BadKind "BadKind.__init__" s_x_BadKind fd_x_BadKind
  nf_BadKind_side : PySem.W.findIn K (.ref c_BadKind) "side" = some none
  nf_BadKind_number : PySem.W.findIn K (.ref c_BadKind) "number" = some none
  a_x_BadName : Addr
  fd_x_BadName : FuncData
  i_BadName : XInit P K mg c_BadName a_x_BadName "BadName.__init__" s_x_BadName fd_x_BadName
  nf_BadName_name : PySem.W.findIn K (.ref c_BadName) "name" = some none
  a_x_BadSize : Addr
  fd_x_BadSize : FuncData
  i_BadSize : XInit P K mg c_BadSize a_x_BadSize "BadSize.__init__" s_x_BadSize fd_x_BadSize
  nf_BadSize_size : PySem.W.findIn K (.ref c_BadSize) "size" = some none
  a_x_BadValues : Addr
  fd_x_BadValues : FuncData
  i_BadValues : XInit P K mg c_BadValues a_x_BadValues "BadValues.__init__" s_x_BadValues fd_x_BadValues
  nf_BadValues_index : PySem.W.findIn K (.ref c_BadValues) "index" = some none
  a_x_BadStatement : Addr
  fd_x_BadStatement : FuncData
  i_BadStatement : XInit P K mg c_BadStatement a_x_BadStatement "BadStatement.__init__" s_x_BadStatement fd_x_BadStatement
  nf_BadStatement_block : PySem.W.findIn K (.ref c_BadStatement) "block" = some none
  nf_BadStatement_number : PySem.W.findIn K (.ref c_BadStatement) "number" = some none
  a_x_BadText : Addr
  fd_x_BadText : FuncData
  i_BadText : XInit P K mg c_BadText a_x_BadText "BadText.__init__" s_x_BadText fd_x_BadText
  nf_BadText_line : PySem.W.findIn K (.ref c_BadText) "line" = some none
  a_x_BadCall : Addr
  fd_x_BadCall : FuncData
  i_BadCall : XInit P K mg c_BadCall a_x_BadCall "BadCall.__init__" s_x_BadCall fd_x_BadCall
  nf_BadCall_number : PySem.W.findIn K (.ref c_BadCall) "number" = some none
  a_x_BadWord : Addr
  fd_x_BadWord : FuncData
  i_BadWord : XInit P K mg c_BadWord a_x_BadWord "BadWord.__init__" s_x_BadWord fd_x_BadWord
  nf_BadWord_number : PySem.W.findIn K (.ref c_BadWord) "number" = some none
  a_x_BadValue : Addr
  fd_x_BadValue : FuncData
  i_BadValue : XInit P K mg c_BadValue a_x_BadValue "BadValue.__init__" s_x_BadValue fd_x_BadValue
  nf_BadValue_number : PySem.W.findIn K (.ref c_BadValue) "number" = some none
  a_x_BadScript : Addr
  fd_x_BadScript : FuncData
  i_BadScript : XInit P K mg c_BadScript a_x_BadScript "BadScript.__init__" s_x_BadScript fd_x_BadScript
  nf_BadScript_script : PySem.W.findIn K (.ref c_BadScript) "script" = some none
  nf_BadScript_index : PySem.W.findIn K (.ref c_BadScript) "index" = some none
  a_x_BadAspect : Addr
  fd_x_BadAspect : FuncData
  i_BadAspect : XInit P K mg c_BadAspect a_x_BadAspect "BadAspect.__init__" s_x_BadAspect fd_x_BadAspect
  nf_BadAspect_index : PySem.W.findIn K (.ref c_BadAspect) "index" = some none
  a_x_BadWhere : Addr
  fd_x_BadWhere : FuncData
  i_BadWhere : XInit P K mg c_BadWhere a_x_BadWhere "BadWhere.__init__" s_x_BadWhere fd_x_BadWhere
  nf_BadWhere_number : PySem.W.findIn K (.ref c_BadWhere) "number" = some none
  a_x_BadRelation : Addr
  fd_x_BadRelation : FuncData
  i_BadRelation : XInit P K mg c_BadRelation a_x_BadRelation "BadRelation.__init__" s_x_BadRelation fd_x_BadRelation
  nf_BadRelation_relation : PySem.W.findIn K (.ref c_BadRelation) "relation" = some none
  a_x_NoNumber : Addr
  fd_x_NoNumber : FuncData
  i_NoNumber : XInit P K mg c_NoNumber a_x_NoNumber "NoNumber.__init__" s_x_NoNumber fd_x_NoNumber
  nf_NoNumber_number : PySem.W.findIn K (.ref c_NoNumber) "number" = some none
  a_x_InTheWay : Addr
  fd_x_InTheWay : FuncData
  i_InTheWay : XInit P K mg c_InTheWay a_x_InTheWay "InTheWay.__init__" s_x_InTheWay fd_x_InTheWay
  nf_InTheWay_number : PySem.W.findIn K (.ref c_InTheWay) "number" = some none
  a_x_BadPlan : Addr
  fd_x_BadPlan : FuncData
  i_BadPlan : XInit P K mg c_BadPlan a_x_BadPlan "BadPlan.__init__" s_x_BadPlan fd_x_BadPlan
  nf_BadPlan_field : PySem.W.findIn K (.ref c_BadPlan) "field" = some none
  a_x_NoVersion : Addr
  fd_x_NoVersion : FuncData
  i_NoVersion : XInit P K mg c_NoVersion a_x_NoVersion "NoVersion.__init__" s_x_NoVersion fd_x_NoVersion
  nf_NoVersion_number : PySem.W.findIn K (.ref c_NoVersion) "number" = some none
  a_x_NoBranch : Addr
  fd_x_NoBranch : FuncData
  i_NoBranch : XInit P K mg c_NoBranch a_x_NoBranch "NoBranch.__init__" s_x_NoBranch fd_x_NoBranch
  nf_NoBranch_name : PySem.W.findIn K (.ref c_NoBranch) "name" = some none
  a_x_UsedName : Addr
  fd_x_UsedName : FuncData
  i_UsedName : XInit P K mg c_UsedName a_x_UsedName "UsedName.__init__" s_x_UsedName fd_x_UsedName
  nf_UsedName_name : PySem.W.findIn K (.ref c_UsedName) "name" = some none
  a_x_NoDeed : Addr
  fd_x_NoDeed : FuncData
  i_NoDeed : XInit P K mg c_NoDeed a_x_NoDeed "NoDeed.__init__" s_x_NoDeed fd_x_NoDeed
  nf_NoDeed_name : PySem.W.findIn K (.ref c_NoDeed) "name" = some none
  a_x_BadDeed : Addr
  fd_x_BadDeed : FuncData
  i_BadDeed : XInit P K mg c_BadDeed a_x_BadDeed "BadDeed.__init__" s_x_BadDeed fd_x_BadDeed
  nf_BadDeed_name : PySem.W.findIn K (.ref c_BadDeed) "name" = some none
  a_x_BadRule : Addr
  fd_x_BadRule : FuncData
  i_BadRule : XInit P K mg c_BadRule a_x_BadRule "BadRule.__init__" s_x_BadRule fd_x_BadRule
  nf_BadRule_name : PySem.W.findIn K (.ref c_BadRule) "name" = some none
  a_x_Ring : Addr
  fd_x_Ring : FuncData
  i_Ring : XInit P K mg c_Ring a_x_Ring "Ring.__init__" s_x_Ring fd_x_Ring
  nf_Ring_name : PySem.W.findIn K (.ref c_Ring) "name" = some none
  a_x_NoRule : Addr
  fd_x_NoRule : FuncData
  i_NoRule : XInit P K mg c_NoRule a_x_NoRule "NoRule.__init__" s_x_NoRule fd_x_NoRule
  nf_NoRule_root : PySem.W.findIn K (.ref c_NoRule) "root" = some none
  a_x_BadRank : Addr
  fd_x_BadRank : FuncData
  i_BadRank : XInit P K mg c_BadRank a_x_BadRank "BadRank.__init__" s_x_BadRank fd_x_BadRank
  nf_BadRank_number : PySem.W.findIn K (.ref c_BadRank) "number" = some none
  a_x_UsedLabel : Addr
  fd_x_UsedLabel : FuncData
  i_UsedLabel : XInit P K mg c_UsedLabel a_x_UsedLabel "UsedLabel.__init__" s_x_UsedLabel fd_x_UsedLabel
  nf_UsedLabel_label : PySem.W.findIn K (.ref c_UsedLabel) "label" = some none
  a_x_NoLabel : Addr
  fd_x_NoLabel : FuncData
  i_NoLabel : XInit P K mg c_NoLabel a_x_NoLabel "NoLabel.__init__" s_x_NoLabel fd_x_NoLabel
  nf_NoLabel_label : PySem.W.findIn K (.ref c_NoLabel) "label" = some none
  a_x_BadLog : Addr
  fd_x_BadLog : FuncData
  i_BadLog : XInit P K mg c_BadLog a_x_BadLog "BadLog.__init__" s_x_BadLog fd_x_BadLog
  nf_BadLog_index : PySem.W.findIn K (.ref c_BadLog) "index" = some none
  kb_BadRow_1 : KBn K fd_x_BadRow ["self", "number"] 2 [] rotU rotV
  kb_BadRow_0_number : KBn K fd_x_BadRow ["self", "number"] 1 ["number"] rotU rotV
  kb_BadItem_1 : KBn K fd_x_BadItem ["self", "number"] 2 [] rotU rotV
  kb_BadItem_0_number : KBn K fd_x_BadItem ["self", "number"] 1 ["number"] rotU rotV
  kb_BadCall_1 : KBn K fd_x_BadCall ["self", "number"] 2 [] rotU rotV
  kb_BadCall_0_number : KBn K fd_x_BadCall ["self", "number"] 1 ["number"] rotU rotV
  kb_BadWord_1 : KBn K fd_x_BadWord ["self", "number"] 2 [] rotU rotV
  kb_BadWord_0_number : KBn K fd_x_BadWord ["self", "number"] 1 ["number"] rotU rotV
  kb_BadValue_1 : KBn K fd_x_BadValue ["self", "number"] 2 [] rotU rotV
  kb_BadValue_0_number : KBn K fd_x_BadValue ["self", "number"] 1 ["number"] rotU rotV
  kb_BadWhere_1 : KBn K fd_x_BadWhere ["self", "number"] 2 [] rotU rotV
  kb_BadWhere_0_number : KBn K fd_x_BadWhere ["self", "number"] 1 ["number"] rotU rotV
  kb_NoNumber_1 : KBn K fd_x_NoNumber ["self", "number"] 2 [] rotU rotV
  kb_NoNumber_0_number : KBn K fd_x_NoNumber ["self", "number"] 1 ["number"] rotU rotV
  kb_InTheWay_1 : KBn K fd_x_InTheWay ["self", "number"] 2 [] rotU rotV
  kb_InTheWay_0_number : KBn K fd_x_InTheWay ["self", "number"] 1 ["number"] rotU rotV
  kb_NoVersion_1 : KBn K fd_x_NoVersion ["self", "number"] 2 [] rotU rotV
  kb_NoVersion_0_number : KBn K fd_x_NoVersion ["self", "number"] 1 ["number"] rotU rotV
  kb_BadRank_1 : KBn K fd_x_BadRank ["self", "number"] 2 [] rotU rotV
  kb_BadRank_0_number : KBn K fd_x_BadRank ["self", "number"] 1 ["number"] rotU rotV
  kb_BadName_1 : KBn K fd_x_BadName ["self", "name"] 2 [] rotU rotV
  kb_BadName_0_name : KBn K fd_x_BadName ["self", "name"] 1 ["name"] rotU rotV
  kb_NoBranch_1 : KBn K fd_x_NoBranch ["self", "name"] 2 [] rotU rotV
  kb_NoBranch_0_name : KBn K fd_x_NoBranch ["self", "name"] 1 ["name"] rotU rotV
  kb_UsedName_1 : KBn K fd_x_UsedName ["self", "name"] 2 [] rotU rotV
  kb_UsedName_0_name : KBn K fd_x_UsedName ["self", "name"] 1 ["name"] rotU rotV
  kb_NoDeed_1 : KBn K fd_x_NoDeed ["self", "name"] 2 [] rotU rotV
  kb_NoDeed_0_name : KBn K fd_x_NoDeed ["self", "name"] 1 ["name"] rotU rotV
  kb_BadDeed_1 : KBn K fd_x_BadDeed ["self", "name"] 2 [] rotU rotV
  kb_BadDeed_0_name : KBn K fd_x_BadDeed ["self", "name"] 1 ["name"] rotU rotV
  kb_BadRule_1 : KBn K fd_x_BadRule ["self", "name"] 2 [] rotU rotV
  kb_BadRule_0_name : KBn K fd_x_BadRule ["self", "name"] 1 ["name"] rotU rotV
  kb_Ring_1 : KBn K fd_x_Ring ["self", "name"] 2 [] rotU rotV
  kb_Ring_0_name : KBn K fd_x_Ring ["self", "name"] 1 ["name"] rotU rotV
  kb_BadValues_1 : KBn K fd_x_BadValues ["self", "index"] 2 [] rotU rotV
  kb_BadValues_0_index : KBn K fd_x_BadValues ["self", "index"] 1 ["index"] rotU rotV
  kb_BadAspect_1 : KBn K fd_x_BadAspect ["self", "index"] 2 [] rotU rotV
  kb_BadAspect_0_index : KBn K fd_x_BadAspect ["self", "index"] 1 ["index"] rotU rotV
  kb_BadLog_1 : KBn K fd_x_BadLog ["self", "index"] 2 [] rotU rotV
  kb_BadLog_0_index : KBn K fd_x_BadLog ["self", "index"] 1 ["index"] rotU rotV
  kb_Lone_1 : KBn K fd_x_Lone ["self", "place"] 2 [] rotU rotV
  kb_Lone_0_place : KBn K fd_x_Lone ["self", "place"] 1 ["place"] rotU rotV
  kb_NoPlace_1 : KBn K fd_x_NoPlace ["self", "place"] 2 [] rotU rotV
  kb_NoPlace_0_place : KBn K fd_x_NoPlace ["self", "place"] 1 ["place"] rotU rotV
  kb_UsedLabel_1 : KBn K fd_x_UsedLabel ["self", "label"] 2 [] rotU rotV
  kb_UsedLabel_0_label : KBn K fd_x_UsedLabel ["self", "label"] 1 ["label"] rotU rotV
  kb_NoLabel_1 : KBn K fd_x_NoLabel ["self", "label"] 2 [] rotU rotV
  kb_NoLabel_0_label : KBn K fd_x_NoLabel ["self", "label"] 1 ["label"] rotU rotV
  kb_BadLetters_1 : KBn K fd_x_BadLetters ["self", "letters"] 2 [] rotU rotV
  kb_BadLetters_0_letters : KBn K fd_x_BadLetters ["self", "letters"] 1 ["letters"] rotU rotV
  kb_BadSize_1 : KBn K fd_x_BadSize ["self", "size"] 2 [] rotU rotV
  kb_BadSize_0_size : KBn K fd_x_BadSize ["self", "size"] 1 ["size"] rotU rotV
  kb_BadText_1 : KBn K fd_x_BadText ["self", "line"] 2 [] rotU rotV
  kb_BadText_0_line : KBn K fd_x_BadText ["self", "line"] 1 ["line"] rotU rotV
  kb_BadRelation_1 : KBn K fd_x_BadRelation ["self", "relation"] 2 [] rotU rotV
  kb_BadRelation_0_relation : KBn K fd_x_BadRelation ["self", "relation"] 1 ["relation"] rotU rotV
  kb_BadPlan_1 : KBn K fd_x_BadPlan ["self", "field"] 2 [] rotU rotV
  kb_BadPlan_0_field : KBn K fd_x_BadPlan ["self", "field"] 1 ["field"] rotU rotV
  kb_NoRule_1 : KBn K fd_x_NoRule ["self", "root"] 2 [] rotU rotV
  kb_NoRule_0_root : KBn K fd_x_NoRule ["self", "root"] 1 ["root"] rotU rotV
  kb_BadKind_2 : KBn K fd_x_BadKind ["self", "side", "number"] 3 [] rotU rotV
  kb_BadKind_0_number_side : KBn K fd_x_BadKind ["self", "side", "number"] 1 ["number", "side"] rotU rotV
  kb_BadStatement_2 : KBn K fd_x_BadStatement ["self", "block", "number"] 3 [] rotU rotV
  kb_BadStatement_0_number_block : KBn K fd_x_BadStatement ["self", "block", "number"] 1 ["number", "block"] rotU rotV
  kb_BadScript_2 : KBn K fd_x_BadScript ["self", "script", "index"] 3 [] rotU rotV
  kb_BadScript_1_index : KBn K fd_x_BadScript ["self", "script", "index"] 2 ["index"] rotU rotV
  kb_TooMany_3 : KBn K fd_x_TooMany ["self", "what", "many", "most"] 4 [] rotU rotV
  kb_TooMany_0_most_what_many : KBn K fd_x_TooMany ["self", "what", "many", "most"] 1 ["most", "what", "many"] rotU rotV
  xnd : [c_BadLetters, c_TooMany, c_BadRow, c_Lone, c_NoPlace, c_BadItem, c_BadKind, c_BadName, c_NotExact, c_BadSize, c_BadValues, c_BadStatement, c_BadText, c_BadCall, c_BadWord, c_BadValue, c_BadScript, c_BadAspect, c_BadWhere, c_BadRelation, c_NoNumber, c_InTheWay, c_BadPlan, c_OtherLetters, c_NoVersion, c_NoBranch, c_UsedName, c_NoDeed, c_BadDeed, c_BrokenRule, c_BadRule, c_Ring, c_NoRule, c_BadRank, c_UsedLabel, c_NoLabel, c_BadLog, c_ShedError].Nodup
  b_len : mg "len" = none
  b_isinstance : mg "isinstance" = none
  b_int : mg "int" = none
  b_list : mg "list" = none
  b_sorted : mg "sorted" = none
  b_abs : mg "abs" = none
  b_range : mg "range" = none
  b_dict : mg "dict" = none
  b_repr : mg "repr" = none
  b_KeyError : mg "KeyError" = none
  b_IndexError : mg "IndexError" = none
  b_TypeError : mg "TypeError" = none
  b_ValueError : mg "ValueError" = none
  a_l_pen : Addr
  fd_l_pen : FuncData
  F_l_pen : Fun K "_law_pen" "_law_pen" s_l_pen a_l_pen fd_l_pen
  bi_l_pen : Binds K fd_l_pen ["_law_script"] []
  m_l_pen : mg "_law_pen" = some (.ref a_l_pen)
  a_l_draw : Addr
  fd_l_draw : FuncData
  F_l_draw : Fun K "_law_draw" "_law_draw" s_l_draw a_l_draw fd_l_draw
  bi_l_draw : Binds K fd_l_draw ["_law_pen_here", "_law_limit"] []
  m_l_draw : mg "_law_draw" = some (.ref a_l_draw)
  a_l_pick : Addr
  fd_l_pick : FuncData
  F_l_pick : Fun K "_law_pick" "_law_pick" s_l_pick a_l_pick fd_l_pick
  bi_l_pick : Binds K fd_l_pick ["_law_pen_here", "_law_some"] []
  m_l_pick : mg "_law_pick" = some (.ref a_l_pick)
  a_l_value : Addr
  fd_l_value : FuncData
  F_l_value : Fun K "_law_value" "_law_value" s_l_value a_l_value fd_l_value
  bi_l_value : Binds K fd_l_value ["_law_pen_here"] []
  m_l_value : mg "_law_value" = some (.ref a_l_value)
  a_l_of_numbers : Addr
  fd_l_of_numbers : FuncData
  F_l_of_numbers : Fun K "_law_of_numbers" "_law_of_numbers" s_l_of_numbers a_l_of_numbers fd_l_of_numbers
  bi_l_of_numbers : Binds K fd_l_of_numbers ["_law_thing"] []
  m_l_of_numbers : mg "_law_of_numbers" = some (.ref a_l_of_numbers)
  a_l_of_names : Addr
  fd_l_of_names : FuncData
  F_l_of_names : Fun K "_law_of_names" "_law_of_names" s_l_of_names a_l_of_names fd_l_of_names
  bi_l_of_names : Binds K fd_l_of_names ["_law_thing"] []
  m_l_of_names : mg "_law_of_names" = some (.ref a_l_of_names)
  a_l_of_indices : Addr
  fd_l_of_indices : FuncData
  F_l_of_indices : Fun K "_law_of_indices" "_law_of_indices" s_l_of_indices a_l_of_indices fd_l_of_indices
  bi_l_of_indices : Binds K fd_l_of_indices ["_law_thing"] []
  m_l_of_indices : mg "_law_of_indices" = some (.ref a_l_of_indices)
  a_l_of_places : Addr
  fd_l_of_places : FuncData
  F_l_of_places : Fun K "_law_of_places" "_law_of_places" s_l_of_places a_l_of_places fd_l_of_places
  bi_l_of_places : Binds K fd_l_of_places ["_law_thing"] []
  m_l_of_places : mg "_law_of_places" = some (.ref a_l_of_places)
  a_l_of_labels : Addr
  fd_l_of_labels : FuncData
  F_l_of_labels : Fun K "_law_of_labels" "_law_of_labels" s_l_of_labels a_l_of_labels fd_l_of_labels
  bi_l_of_labels : Binds K fd_l_of_labels ["_law_thing"] []
  m_l_of_labels : mg "_law_of_labels" = some (.ref a_l_of_labels)
  a_l_of_others : Addr
  fd_l_of_others : FuncData
  F_l_of_others : Fun K "_law_of_others" "_law_of_others" s_l_of_others a_l_of_others fd_l_of_others
  bi_l_of_others : Binds K fd_l_of_others ["_law_thing"] []
  m_l_of_others : mg "_law_of_others" = some (.ref a_l_of_others)
  a_l_of_several : Addr
  fd_l_of_several : FuncData
  F_l_of_several : Fun K "_law_of_several" "_law_of_several" s_l_of_several a_l_of_several fd_l_of_several
  bi_l_of_several : Binds K fd_l_of_several ["_law_thing", "_law_other", "_law_third"] []
  m_l_of_several : mg "_law_of_several" = some (.ref a_l_of_several)
  a_l_met : Addr
  fd_l_met : FuncData
  F_l_met : Fun K "_law_met" "_law_met" s_l_met a_l_met fd_l_met
  bi_l_met : Binds K fd_l_met ["_law_error"] []
  m_l_met : mg "_law_met" = some (.ref a_l_met)
  a_l_is_below : Addr
  fd_l_is_below : FuncData
  F_l_is_below : Fun K "_law_is_below" "_law_is_below" s_l_is_below a_l_is_below fd_l_is_below
  bi_l_is_below : Binds K fd_l_is_below ["_law_error"] []
  m_l_is_below : mg "_law_is_below" = some (.ref a_l_is_below)
  a_law : Addr
  fd_law : FuncData
  F_law : Fun K "law" "law" s_law a_law fd_law
  bi_law : Binds K fd_law ["_law_script"] []
  m_law : mg "law" = some (.ref a_law)
theorem hu65_of {A : Around} {k : Nat} (hr : Room k A) : A.units + 65 < cLine := by have := hr.un; omega
abbrev PP : Program := (PySem.Challenge.rw_treeshed_k86_errors_by_place_and_by_name).prog
def hFa : List He.Fa := [.free "len", .free "isinstance", .free "int", .free "list", .free "sorted", .free "abs", .free "range", .free "dict", .free "repr", .free "KeyError", .free "IndexError", .free "TypeError", .free "ValueError", .free "super", .glo "ShedError", .glo "BadLetters", .glo "TooMany", .glo "BadRow", .glo "Lone", .glo "NoPlace", .glo "BadItem", .glo "BadKind", .glo "BadName", .glo "BadSize", .glo "BadValues", .glo "BadStatement", .glo "BadText", .glo "BadCall", .glo "BadWord", .glo "BadValue", .glo "BadScript", .glo "BadAspect", .glo "BadWhere", .glo "BadRelation", .glo "NoNumber", .glo "InTheWay", .glo "BadPlan", .glo "NoVersion", .glo "NoBranch", .glo "UsedName", .glo "NoDeed", .glo "BadDeed", .glo "BadRule", .glo "Ring", .glo "NoRule", .glo "BadRank", .glo "UsedLabel", .glo "NoLabel", .glo "BadLog", .glo "NotExact", .glo "OtherLetters", .glo "BrokenRule", .glo "_law_pen", .glo "_law_draw", .glo "_law_pick", .glo "_law_value", .glo "_law_of_numbers", .glo "_law_of_names", .glo "_law_of_indices", .glo "_law_of_places", .glo "_law_of_labels", .glo "_law_of_others", .glo "_law_of_several", .glo "_law_met", .glo "_law_is_below", .glo "law"]
def hFn : List He.DefD := [⟨("_law_pen", none), "_law_pen", "_law_pen", defArgs s_l_pen, defBody s_l_pen, defScope s_l_pen, [], []⟩, ⟨("_law_draw", none), "_law_draw", "_law_draw", defArgs s_l_draw, defBody s_l_draw, defScope s_l_draw, [], []⟩, ⟨("_law_pick", none), "_law_pick", "_law_pick", defArgs s_l_pick, defBody s_l_pick, defScope s_l_pick, [], []⟩, ⟨("_law_value", none), "_law_value", "_law_value", defArgs s_l_value, defBody s_l_value, defScope s_l_value, [], []⟩, ⟨("_law_of_numbers", none), "_law_of_numbers", "_law_of_numbers", defArgs s_l_of_numbers, defBody s_l_of_numbers, defScope s_l_of_numbers, [], []⟩, ⟨("_law_of_names", none), "_law_of_names", "_law_of_names", defArgs s_l_of_names, defBody s_l_of_names, defScope s_l_of_names, [], []⟩, ⟨("_law_of_indices", none), "_law_of_indices", "_law_of_indices", defArgs s_l_of_indices, defBody s_l_of_indices, defScope s_l_of_indices, [], []⟩, ⟨("_law_of_places", none), "_law_of_places", "_law_of_places", defArgs s_l_of_places, defBody s_l_of_places, defScope s_l_of_places, [], []⟩, ⟨("_law_of_labels", none), "_law_of_labels", "_law_of_labels", defArgs s_l_of_labels, defBody s_l_of_labels, defScope s_l_of_labels, [], []⟩, ⟨("_law_of_others", none), "_law_of_others", "_law_of_others", defArgs s_l_of_others, defBody s_l_of_others, defScope s_l_of_others, [], []⟩, ⟨("_law_of_several", none), "_law_of_several", "_law_of_several", defArgs s_l_of_several, defBody s_l_of_several, defScope s_l_of_several, [], []⟩, ⟨("_law_met", none), "_law_met", "_law_met", defArgs s_l_met, defBody s_l_met, defScope s_l_met, [], []⟩, ⟨("_law_is_below", none), "_law_is_below", "_law_is_below", defArgs s_l_is_below, defBody s_l_is_below, defScope s_l_is_below, [], []⟩, ⟨("law", none), "law", "law", defArgs s_law, defBody s_law, defScope s_law, [], []⟩]
def hEx : List (PySem.W.Frag → Bool) := [fun K => (PySem.W.clsIn K (He.ga K "ShedError")).isSome,
  fun K => decide (PySem.W.typeIn K (.ref (He.ga K "ShedError")) = some (.type "type")),
  fun K => decide (PySem.W.specialIn K (.builtin "object.__class__") "__get__" = some (some (.builtin "getset_descriptor.__get__"))),
  fun K => decide (PySem.W.takesIn K (.builtin "object.__class__") = some true),
  fun K => xclsB K (He.ga K "ShedError") (He.ga K "BadLetters"),
  fun K => xclsB K (He.ga K "ShedError") (He.ga K "TooMany"),
  fun K => xclsB K (He.ga K "ShedError") (He.ga K "BadRow"),
  fun K => xclsB K (He.ga K "ShedError") (He.ga K "Lone"),
  fun K => xclsB K (He.ga K "ShedError") (He.ga K "NoPlace"),
  fun K => xclsB K (He.ga K "ShedError") (He.ga K "BadItem"),
  fun K => xclsB K (He.ga K "ShedError") (He.ga K "BadKind"),
  fun K => xclsB K (He.ga K "ShedError") (He.ga K "BadName"),
  fun K => xclsB K (He.ga K "ShedError") (He.ga K "BadSize"),
  fun K => xclsB K (He.ga K "ShedError") (He.ga K "BadValues"),
  fun K => xclsB K (He.ga K "ShedError") (He.ga K "BadStatement"),
  fun K => xclsB K (He.ga K "ShedError") (He.ga K "BadText"),
  fun K => xclsB K (He.ga K "ShedError") (He.ga K "BadCall"),
  fun K => xclsB K (He.ga K "ShedError") (He.ga K "BadWord"),
  fun K => xclsB K (He.ga K "ShedError") (He.ga K "BadValue"),
  fun K => xclsB K (He.ga K "ShedError") (He.ga K "BadScript"),
  fun K => xclsB K (He.ga K "ShedError") (He.ga K "BadAspect"),
  fun K => xclsB K (He.ga K "ShedError") (He.ga K "BadWhere"),
  fun K => xclsB K (He.ga K "ShedError") (He.ga K "BadRelation"),
  fun K => xclsB K (He.ga K "ShedError") (He.ga K "NoNumber"),
  fun K => xclsB K (He.ga K "ShedError") (He.ga K "InTheWay"),
  fun K => xclsB K (He.ga K "ShedError") (He.ga K "BadPlan"),
  fun K => xclsB K (He.ga K "ShedError") (He.ga K "NoVersion"),
  fun K => xclsB K (He.ga K "ShedError") (He.ga K "NoBranch"),
  fun K => xclsB K (He.ga K "ShedError") (He.ga K "UsedName"),
  fun K => xclsB K (He.ga K "ShedError") (He.ga K "NoDeed"),
  fun K => xclsB K (He.ga K "ShedError") (He.ga K "BadDeed"),
  fun K => xclsB K (He.ga K "ShedError") (He.ga K "BadRule"),
  fun K => xclsB K (He.ga K "ShedError") (He.ga K "Ring"),
  fun K => xclsB K (He.ga K "ShedError") (He.ga K "NoRule"),
  fun K => xclsB K (He.ga K "ShedError") (He.ga K "BadRank"),
  fun K => xclsB K (He.ga K "ShedError") (He.ga K "UsedLabel"),
  fun K => xclsB K (He.ga K "ShedError") (He.ga K "NoLabel"),
  fun K => xclsB K (He.ga K "ShedError") (He.ga K "BadLog"),
  fun K => xclsB K (He.ga K "ShedError") (He.ga K "NotExact"),
  fun K => xclsB K (He.ga K "ShedError") (He.ga K "OtherLetters"),
  fun K => xclsB K (He.ga K "ShedError") (He.ga K "BrokenRule"),
  fun K => PySem.W.excIn K (He.ga K "NotExact") [.type "ValueError", .type "Exception", .type "BaseException", .type "object"] "ValueError.__new__",
  fun K => PySem.W.excIn K (He.ga K "OtherLetters") [.type "ValueError", .type "Exception", .type "BaseException", .type "object"] "ValueError.__new__",
  fun K => PySem.W.excIn K (He.ga K "BrokenRule") [.type "ValueError", .type "Exception", .type "BaseException", .type "object"] "ValueError.__new__",
  fun K => xinitB PP.main.file K (He.ga K "BadLetters") (He.ma K (He.ga K "BadLetters") "__init__") "BadLetters.__init__",
  fun K => decide (PySem.W.nsIn K cStatics "thirdparty.any" = some none),
  fun K => decide (PySem.W.findIn K (.ref (He.ga K "BadLetters")) "letters" = some none),
  fun K => xinitB PP.main.file K (He.ga K "TooMany") (He.ma K (He.ga K "TooMany") "__init__") "TooMany.__init__",
  fun K => decide (PySem.W.findIn K (.ref (He.ga K "TooMany")) "what" = some none),
  fun K => decide (PySem.W.findIn K (.ref (He.ga K "TooMany")) "many" = some none),
  fun K => decide (PySem.W.findIn K (.ref (He.ga K "TooMany")) "most" = some none),
  fun K => xinitB PP.main.file K (He.ga K "BadRow") (He.ma K (He.ga K "BadRow") "__init__") "BadRow.__init__",
  fun K => decide (PySem.W.findIn K (.ref (He.ga K "BadRow")) "number" = some none),
  fun K => xinitB PP.main.file K (He.ga K "Lone") (He.ma K (He.ga K "Lone") "__init__") "Lone.__init__",
  fun K => decide (PySem.W.findIn K (.ref (He.ga K "Lone")) "place" = some none),
  fun K => xinitB PP.main.file K (He.ga K "NoPlace") (He.ma K (He.ga K "NoPlace") "__init__") "NoPlace.__init__",
  fun K => decide (PySem.W.findIn K (.ref (He.ga K "NoPlace")) "place" = some none),
  fun K => xinitB PP.main.file K (He.ga K "BadItem") (He.ma K (He.ga K "BadItem") "__init__") "BadItem.__init__",
  fun K => decide (PySem.W.findIn K (.ref (He.ga K "BadItem")) "number" = some none),
  fun K => xinitB PP.main.file K (He.ga K "BadKind") (He.ma K (He.ga K "BadKind") "__init__") "BadKind.__init__",
  fun K => decide (PySem.W.findIn K (.ref (He.ga K "BadKind")) "side" = some none),
  fun K => decide (PySem.W.findIn K (.ref (He.ga K "BadKind")) "number" = some none),
  fun K => xinitB PP.main.file K (He.ga K "BadName") (He.ma K (He.ga K "BadName") "__init__") "BadName.__init__",
  fun K => decide (PySem.W.findIn K (.ref (He.ga K "BadName")) "name" = some none),
  fun K => xinitB PP.main.file K (He.ga K "BadSize") (He.ma K (He.ga K "BadSize") "__init__") "BadSize.__init__",
  fun K => decide (PySem.W.findIn K (.ref (He.ga K "BadSize")) "size" = some none),
  fun K => xinitB PP.main.file K (He.ga K "BadValues") (He.ma K (He.ga K "BadValues") "__init__") "BadValues.__init__",
  fun K => decide (PySem.W.findIn K (.ref (He.ga K "BadValues")) "index" = some none),
  fun K => xinitB PP.main.file K (He.ga K "BadStatement") (He.ma K (He.ga K "BadStatement") "__init__") "BadStatement.__init__",
  fun K => decide (PySem.W.findIn K (.ref (He.ga K "BadStatement")) "block" = some none),
  fun K => decide (PySem.W.findIn K (.ref (He.ga K "BadStatement")) "number" = some none),
  fun K => xinitB PP.main.file K (He.ga K "BadText") (He.ma K (He.ga K "BadText") "__init__") "BadText.__init__",
  fun K => decide (PySem.W.findIn K (.ref (He.ga K "BadText")) "line" = some none),
  fun K => xinitB PP.main.file K (He.ga K "BadCall") (He.ma K (He.ga K "BadCall") "__init__") "BadCall.__init__",
  fun K => decide (PySem.W.findIn K (.ref (He.ga K "BadCall")) "number" = some none),
  fun K => xinitB PP.main.file K (He.ga K "BadWord") (He.ma K (He.ga K "BadWord") "__init__") "BadWord.__init__",
  fun K => decide (PySem.W.findIn K (.ref (He.ga K "BadWord")) "number" = some none),
  fun K => xinitB PP.main.file K (He.ga K "BadValue") (He.ma K (He.ga K "BadValue") "__init__") "BadValue.__init__",
  fun K => decide (PySem.W.findIn K (.ref (He.ga K "BadValue")) "number" = some none),
  fun K => xinitB PP.main.file K (He.ga K "BadScript") (He.ma K (He.ga K "BadScript") "__init__") "BadScript.__init__",
  fun K => decide (PySem.W.findIn K (.ref (He.ga K "BadScript")) "script" = some none),
  fun K => decide (PySem.W.findIn K (.ref (He.ga K "BadScript")) "index" = some none),
  fun K => xinitB PP.main.file K (He.ga K "BadAspect") (He.ma K (He.ga K "BadAspect") "__init__") "BadAspect.__init__",
  fun K => decide (PySem.W.findIn K (.ref (He.ga K "BadAspect")) "index" = some none),
  fun K => xinitB PP.main.file K (He.ga K "BadWhere") (He.ma K (He.ga K "BadWhere") "__init__") "BadWhere.__init__",
  fun K => decide (PySem.W.findIn K (.ref (He.ga K "BadWhere")) "number" = some none),
  fun K => xinitB PP.main.file K (He.ga K "BadRelation") (He.ma K (He.ga K "BadRelation") "__init__") "BadRelation.__init__",
  fun K => decide (PySem.W.findIn K (.ref (He.ga K "BadRelation")) "relation" = some none),
  fun K => xinitB PP.main.file K (He.ga K "NoNumber") (He.ma K (He.ga K "NoNumber") "__init__") "NoNumber.__init__",
  fun K => decide (PySem.W.findIn K (.ref (He.ga K "NoNumber")) "number" = some none),
  fun K => xinitB PP.main.file K (He.ga K "InTheWay") (He.ma K (He.ga K "InTheWay") "__init__") "InTheWay.__init__",
  fun K => decide (PySem.W.findIn K (.ref (He.ga K "InTheWay")) "number" = some none),
  fun K => xinitB PP.main.file K (He.ga K "BadPlan") (He.ma K (He.ga K "BadPlan") "__init__") "BadPlan.__init__",
  fun K => decide (PySem.W.findIn K (.ref (He.ga K "BadPlan")) "field" = some none),
  fun K => xinitB PP.main.file K (He.ga K "NoVersion") (He.ma K (He.ga K "NoVersion") "__init__") "NoVersion.__init__",
  fun K => decide (PySem.W.findIn K (.ref (He.ga K "NoVersion")) "number" = some none),
  fun K => xinitB PP.main.file K (He.ga K "NoBranch") (He.ma K (He.ga K "NoBranch") "__init__") "NoBranch.__init__",
  fun K => decide (PySem.W.findIn K (.ref (He.ga K "NoBranch")) "name" = some none),
  fun K => xinitB PP.main.file K (He.ga K "UsedName") (He.ma K (He.ga K "UsedName") "__init__") "UsedName.__init__",
  fun K => decide (PySem.W.findIn K (.ref (He.ga K "UsedName")) "name" = some none),
  fun K => xinitB PP.main.file K (He.ga K "NoDeed") (He.ma K (He.ga K "NoDeed") "__init__") "NoDeed.__init__",
  fun K => decide (PySem.W.findIn K (.ref (He.ga K "NoDeed")) "name" = some none),
  fun K => xinitB PP.main.file K (He.ga K "BadDeed") (He.ma K (He.ga K "BadDeed") "__init__") "BadDeed.__init__",
  fun K => decide (PySem.W.findIn K (.ref (He.ga K "BadDeed")) "name" = some none),
  fun K => xinitB PP.main.file K (He.ga K "BadRule") (He.ma K (He.ga K "BadRule") "__init__") "BadRule.__init__",
  fun K => decide (PySem.W.findIn K (.ref (He.ga K "BadRule")) "name" = some none),
  fun K => xinitB PP.main.file K (He.ga K "Ring") (He.ma K (He.ga K "Ring") "__init__") "Ring.__init__",
  fun K => decide (PySem.W.findIn K (.ref (He.ga K "Ring")) "name" = some none),
  fun K => xinitB PP.main.file K (He.ga K "NoRule") (He.ma K (He.ga K "NoRule") "__init__") "NoRule.__init__",
  fun K => decide (PySem.W.findIn K (.ref (He.ga K "NoRule")) "root" = some none),
  fun K => xinitB PP.main.file K (He.ga K "BadRank") (He.ma K (He.ga K "BadRank") "__init__") "BadRank.__init__",
  fun K => decide (PySem.W.findIn K (.ref (He.ga K "BadRank")) "number" = some none),
  fun K => xinitB PP.main.file K (He.ga K "UsedLabel") (He.ma K (He.ga K "UsedLabel") "__init__") "UsedLabel.__init__",
  fun K => decide (PySem.W.findIn K (.ref (He.ga K "UsedLabel")) "label" = some none),
  fun K => xinitB PP.main.file K (He.ga K "NoLabel") (He.ma K (He.ga K "NoLabel") "__init__") "NoLabel.__init__",
  fun K => decide (PySem.W.findIn K (.ref (He.ga K "NoLabel")) "label" = some none),
  fun K => xinitB PP.main.file K (He.ga K "BadLog") (He.ma K (He.ga K "BadLog") "__init__") "BadLog.__init__",
  fun K => decide (PySem.W.findIn K (.ref (He.ga K "BadLog")) "index" = some none),
  fun K => decide ([He.ga K "BadLetters", He.ga K "TooMany", He.ga K "BadRow", He.ga K "Lone", He.ga K "NoPlace", He.ga K "BadItem", He.ga K "BadKind", He.ga K "BadName", He.ga K "NotExact", He.ga K "BadSize", He.ga K "BadValues", He.ga K "BadStatement", He.ga K "BadText", He.ga K "BadCall", He.ga K "BadWord", He.ga K "BadValue", He.ga K "BadScript", He.ga K "BadAspect", He.ga K "BadWhere", He.ga K "BadRelation", He.ga K "NoNumber", He.ga K "InTheWay", He.ga K "BadPlan", He.ga K "OtherLetters", He.ga K "NoVersion", He.ga K "NoBranch", He.ga K "UsedName", He.ga K "NoDeed", He.ga K "BadDeed", He.ga K "BrokenRule", He.ga K "BadRule", He.ga K "Ring", He.ga K "NoRule", He.ga K "BadRank", He.ga K "UsedLabel", He.ga K "NoLabel", He.ga K "BadLog", He.ga K "ShedError"].Nodup)]
def hXs : List XD := [⟨"BadLetters", "BadLetters.__init__", s_x_BadLetters⟩, ⟨"TooMany", "TooMany.__init__", s_x_TooMany⟩, ⟨"BadRow", "BadRow.__init__", s_x_BadRow⟩, ⟨"Lone", "Lone.__init__", s_x_Lone⟩, ⟨"NoPlace", "NoPlace.__init__", s_x_NoPlace⟩, ⟨"BadItem", "BadItem.__init__", s_x_BadItem⟩, ⟨"BadKind", "BadKind.__init__", s_x_BadKind⟩, ⟨"BadName", "BadName.__init__", s_x_BadName⟩, ⟨"BadSize", "BadSize.__init__", s_x_BadSize⟩, ⟨"BadValues", "BadValues.__init__", s_x_BadValues⟩, ⟨"BadStatement", "BadStatement.__init__", s_x_BadStatement⟩, ⟨"BadText", "BadText.__init__", s_x_BadText⟩, ⟨"BadCall", "BadCall.__init__", s_x_BadCall⟩, ⟨"BadWord", "BadWord.__init__", s_x_BadWord⟩, ⟨"BadValue", "BadValue.__init__", s_x_BadValue⟩, ⟨"BadScript", "BadScript.__init__", s_x_BadScript⟩, ⟨"BadAspect", "BadAspect.__init__", s_x_BadAspect⟩, ⟨"BadWhere", "BadWhere.__init__", s_x_BadWhere⟩, ⟨"BadRelation", "BadRelation.__init__", s_x_BadRelation⟩, ⟨"NoNumber", "NoNumber.__init__", s_x_NoNumber⟩, ⟨"InTheWay", "InTheWay.__init__", s_x_InTheWay⟩, ⟨"BadPlan", "BadPlan.__init__", s_x_BadPlan⟩, ⟨"NoVersion", "NoVersion.__init__", s_x_NoVersion⟩, ⟨"NoBranch", "NoBranch.__init__", s_x_NoBranch⟩, ⟨"UsedName", "UsedName.__init__", s_x_UsedName⟩, ⟨"NoDeed", "NoDeed.__init__", s_x_NoDeed⟩, ⟨"BadDeed", "BadDeed.__init__", s_x_BadDeed⟩, ⟨"BadRule", "BadRule.__init__", s_x_BadRule⟩, ⟨"Ring", "Ring.__init__", s_x_Ring⟩, ⟨"NoRule", "NoRule.__init__", s_x_NoRule⟩, ⟨"BadRank", "BadRank.__init__", s_x_BadRank⟩, ⟨"UsedLabel", "UsedLabel.__init__", s_x_UsedLabel⟩, ⟨"NoLabel", "NoLabel.__init__", s_x_NoLabel⟩, ⟨"BadLog", "BadLog.__init__", s_x_BadLog⟩]
abbrev Says (K : PySem.W.Frag) : Prop := SaysX hFa hFn hEx hXs K
def lawAt : Nat := 53
def loose : List PySem.Str := (["__name__", "ShedError", "BadLetters", "TooMany", "BadRow", "Lone", "NoPlace", "BadItem", "BadKind", "BadName", "NotExact", "BadSize", "BadValues", "BadStatement", "BadText", "BadCall", "BadWord", "BadValue", "BadScript", "BadAspect", "BadWhere", "BadRelation", "NoNumber", "InTheWay", "BadPlan", "OtherLetters", "NoVersion", "NoBranch", "UsedName", "NoDeed"] : List PySem.Str) ++ (["BadDeed", "BrokenRule", "BadRule", "Ring", "NoRule", "BadRank", "UsedLabel", "NoLabel", "BadLog", "_law_pen", "_law_draw", "_law_pick", "_law_value", "_law_of_numbers", "_law_of_names", "_law_of_indices", "_law_of_places", "_law_of_labels", "_law_of_others", "_law_of_several", "_law_met", "_law_is_below"] : List PySem.Str)
theorem IXe_BadLetters {K : PySem.W.Frag} {h : Heap} {mg : Str → Option Value} (X : K.In h) (G : h.Ns mainGlobals mg) (c : Says K) : ∃ fd, XInit PP K mg (He.ga K "BadLetters") (He.ma K (He.ga K "BadLetters") "__init__") "BadLetters.__init__" s_x_BadLetters fd := (xinit_of (P := PP) (mg := mg) (d := ⟨"BadLetters", "BadLetters.__init__", s_x_BadLetters⟩) (xclsB_ok (c.e 4 (f := fun K => xclsB K (He.ga K "ShedError") (He.ga K "BadLetters")) rfl)) (c.x 0 rfl) (c.e 44 (f := fun K => xinitB PP.main.file K (He.ga K "BadLetters") (He.ma K (He.ga K "BadLetters") "__init__") "BadLetters.__init__") rfl) (He.free_ok X G (c.d.fact 13 (f := .free "super") rfl)) (of_decide_eq_true (c.e 45 (f := fun K => decide (PySem.W.nsIn K cStatics "thirdparty.any" = some none)) rfl)) (by decide +kernel) ⟨_, rfl, rfl⟩ (by decide +kernel) (by decide +kernel) (by decide +kernel))
theorem IX_BadLetters {K : PySem.W.Frag} {h : Heap} {mg : Str → Option Value} (X : K.In h) (G : h.Ns mainGlobals mg) (c : Says K) : XInit PP K mg (He.ga K "BadLetters") (He.ma K (He.ga K "BadLetters") "__init__") "BadLetters.__init__" s_x_BadLetters (IXe_BadLetters X G c).choose := (IXe_BadLetters X G c).choose_spec
theorem IXe_TooMany {K : PySem.W.Frag} {h : Heap} {mg : Str → Option Value} (X : K.In h) (G : h.Ns mainGlobals mg) (c : Says K) : ∃ fd, XInit PP K mg (He.ga K "TooMany") (He.ma K (He.ga K "TooMany") "__init__") "TooMany.__init__" s_x_TooMany fd := (xinit_of (P := PP) (mg := mg) (d := ⟨"TooMany", "TooMany.__init__", s_x_TooMany⟩) (xclsB_ok (c.e 5 (f := fun K => xclsB K (He.ga K "ShedError") (He.ga K "TooMany")) rfl)) (c.x 1 rfl) (c.e 47 (f := fun K => xinitB PP.main.file K (He.ga K "TooMany") (He.ma K (He.ga K "TooMany") "__init__") "TooMany.__init__") rfl) (He.free_ok X G (c.d.fact 13 (f := .free "super") rfl)) (of_decide_eq_true (c.e 45 (f := fun K => decide (PySem.W.nsIn K cStatics "thirdparty.any" = some none)) rfl)) (by decide +kernel) ⟨_, rfl, rfl⟩ (by decide +kernel) (by decide +kernel) (by decide +kernel))
theorem IX_TooMany {K : PySem.W.Frag} {h : Heap} {mg : Str → Option Value} (X : K.In h) (G : h.Ns mainGlobals mg) (c : Says K) : XInit PP K mg (He.ga K "TooMany") (He.ma K (He.ga K "TooMany") "__init__") "TooMany.__init__" s_x_TooMany (IXe_TooMany X G c).choose := (IXe_TooMany X G c).choose_spec
theorem IXe_BadRow {K : PySem.W.Frag} {h : Heap} {mg : Str → Option Value} (X : K.In h) (G : h.Ns mainGlobals mg) (c : Says K) : ∃ fd, XInit PP K mg (He.ga K "BadRow") (He.ma K (He.ga K "BadRow") "__init__") "BadRow.__init__" s_x_BadRow fd := (xinit_of (P := PP) (mg := mg) (d := ⟨"BadRow", "BadRow.__init__", s_x_BadRow⟩) (xclsB_ok (c.e 6 (f := fun K => xclsB K (He.ga K "ShedError") (He.ga K "BadRow")) rfl)) (c.x 2 rfl) (c.e 51 (f := fun K => xinitB PP.main.file K (He.ga K "BadRow") (He.ma K (He.ga K "BadRow") "__init__") "BadRow.__init__") rfl) (He.free_ok X G (c.d.fact 13 (f := .free "super") rfl)) (of_decide_eq_true (c.e 45 (f := fun K => decide (PySem.W.nsIn K cStatics "thirdparty.any" = some none)) rfl)) (by decide +kernel) ⟨_, rfl, rfl⟩ (by decide +kernel) (by decide +kernel) (by decide +kernel))
theorem IX_BadRow {K : PySem.W.Frag} {h : Heap} {mg : Str → Option Value} (X : K.In h) (G : h.Ns mainGlobals mg) (c : Says K) : XInit PP K mg (He.ga K "BadRow") (He.ma K (He.ga K "BadRow") "__init__") "BadRow.__init__" s_x_BadRow (IXe_BadRow X G c).choose := (IXe_BadRow X G c).choose_spec
theorem IXe_Lone {K : PySem.W.Frag} {h : Heap} {mg : Str → Option Value} (X : K.In h) (G : h.Ns mainGlobals mg) (c : Says K) : ∃ fd, XInit PP K mg (He.ga K "Lone") (He.ma K (He.ga K "Lone") "__init__") "Lone.__init__" s_x_Lone fd := (xinit_of (P := PP) (mg := mg) (d := ⟨"Lone", "Lone.__init__", s_x_Lone⟩) (xclsB_ok (c.e 7 (f := fun K => xclsB K (He.ga K "ShedError") (He.ga K "Lone")) rfl)) (c.x 3 rfl) (c.e 53 (f := fun K => xinitB PP.main.file K (He.ga K "Lone") (He.ma K (He.ga K "Lone") "__init__") "Lone.__init__") rfl) (He.free_ok X G (c.d.fact 13 (f := .free "super") rfl)) (of_decide_eq_true (c.e 45 (f := fun K => decide (PySem.W.nsIn K cStatics "thirdparty.any" = some none)) rfl)) (by decide +kernel) ⟨_, rfl, rfl⟩ (by decide +kernel) (by decide +kernel) (by decide +kernel))
theorem IX_Lone {K : PySem.W.Frag} {h : Heap} {mg : Str → Option Value} (X : K.In h) (G : h.Ns mainGlobals mg) (c : Says K) : XInit PP K mg (He.ga K "Lone") (He.ma K (He.ga K "Lone") "__init__") "Lone.__init__" s_x_Lone (IXe_Lone X G c).choose := (IXe_Lone X G c).choose_spec
theorem IXe_NoPlace {K : PySem.W.Frag} {h : Heap} {mg : Str → Option Value} (X : K.In h) (G : h.Ns mainGlobals mg) (c : Says K) : ∃ fd, XInit PP K mg (He.ga K "NoPlace") (He.ma K (He.ga K "NoPlace") "__init__") "NoPlace.__init__" s_x_NoPlace fd := (xinit_of (P := PP) (mg := mg) (d := ⟨"NoPlace", "NoPlace.__init__", s_x_NoPlace⟩) (xclsB_ok (c.e 8 (f := fun K => xclsB K (He.ga K "ShedError") (He.ga K "NoPlace")) rfl)) (c.x 4 rfl) (c.e 55 (f := fun K => xinitB PP.main.file K (He.ga K "NoPlace") (He.ma K (He.ga K "NoPlace") "__init__") "NoPlace.__init__") rfl) (He.free_ok X G (c.d.fact 13 (f := .free "super") rfl)) (of_decide_eq_true (c.e 45 (f := fun K => decide (PySem.W.nsIn K cStatics "thirdparty.any" = some none)) rfl)) (by decide +kernel) ⟨_, rfl, rfl⟩ (by decide +kernel) (by decide +kernel) (by decide +kernel))
theorem IX_NoPlace {K : PySem.W.Frag} {h : Heap} {mg : Str → Option Value} (X : K.In h) (G : h.Ns mainGlobals mg) (c : Says K) : XInit PP K mg (He.ga K "NoPlace") (He.ma K (He.ga K "NoPlace") "__init__") "NoPlace.__init__" s_x_NoPlace (IXe_NoPlace X G c).choose := (IXe_NoPlace X G c).choose_spec
theorem IXe_BadItem {K : PySem.W.Frag} {h : Heap} {mg : Str → Option Value} (X : K.In h) (G : h.Ns mainGlobals mg) (c : Says K) : ∃ fd, XInit PP K mg (He.ga K "BadItem") (He.ma K (He.ga K "BadItem") "__init__") "BadItem.__init__" s_x_BadItem fd := (xinit_of (P := PP) (mg := mg) (d := ⟨"BadItem", "BadItem.__init__", s_x_BadItem⟩) (xclsB_ok (c.e 9 (f := fun K => xclsB K (He.ga K "ShedError") (He.ga K "BadItem")) rfl)) (c.x 5 rfl) (c.e 57 (f := fun K => xinitB PP.main.file K (He.ga K "BadItem") (He.ma K (He.ga K "BadItem") "__init__") "BadItem.__init__") rfl) (He.free_ok X G (c.d.fact 13 (f := .free "super") rfl)) (of_decide_eq_true (c.e 45 (f := fun K => decide (PySem.W.nsIn K cStatics "thirdparty.any" = some none)) rfl)) (by decide +kernel) ⟨_, rfl, rfl⟩ (by decide +kernel) (by decide +kernel) (by decide +kernel))
theorem IX_BadItem {K : PySem.W.Frag} {h : Heap} {mg : Str → Option Value} (X : K.In h) (G : h.Ns mainGlobals mg) (c : Says K) : XInit PP K mg (He.ga K "BadItem") (He.ma K (He.ga K "BadItem") "__init__") "BadItem.__init__" s_x_BadItem (IXe_BadItem X G c).choose := (IXe_BadItem X G c).choose_spec
theorem IXe_BadKind {K : PySem.W.Frag} {h : Heap} {mg : Str → Option Value} (X : K.In h) (G : h.Ns mainGlobals mg) (c : Says K) : ∃ fd, XInit PP K mg (He.ga K "BadKind") (He.ma K (He.ga K "BadKind") "__init__") "BadKind.__init__" s_x_BadKind fd := (xinit_of (P := PP) (mg := mg) (d := ⟨"BadKind", "BadKind.__init__", s_x_BadKind⟩) (xclsB_ok (c.e 10 (f := fun K => xclsB K (He.ga K "ShedError") (He.ga K "BadKind")) rfl)) (c.x 6 rfl) (c.e 59 (f := fun K => xinitB PP.main.file K (He.ga K "BadKind") (He.ma K (He.ga K "BadKind") "__init__") "BadKind.__init__") rfl) (He.free_ok X G (c.d.fact 13 (f := .free "super") rfl)) (of_decide_eq_true (c.e 45 (f := fun K => decide (PySem.W.nsIn K cStatics "thirdparty.any" = some none)) rfl)) (by decide +kernel) ⟨_, rfl, rfl⟩ (by decide +kernel) (by decide +kernel) (by decide +kernel))
theorem IX_BadKind {K : PySem.W.Frag} {h : Heap} {mg : Str → Option Value} (X : K.In h) (G : h.Ns mainGlobals mg) (c : Says K) : XInit PP K mg (He.ga K "BadKind") (He.ma K (He.ga K "BadKind") "__init__") "BadKind.__init__" s_x_BadKind (IXe_BadKind X G c).choose := (IXe_BadKind X G c).choose_spec
theorem IXe_BadName {K : PySem.W.Frag} {h : Heap} {mg : Str → Option Value} (X : K.In h) (G : h.Ns mainGlobals mg) (c : Says K) : ∃ fd, XInit PP K mg (He.ga K "BadName") (He.ma K (He.ga K "BadName") "__init__") "BadName.__init__" s_x_BadName fd := (xinit_of (P := PP) (mg := mg) (d := ⟨"BadName", "BadName.__init__", s_x_BadName⟩) (xclsB_ok (c.e 11 (f := fun K => xclsB K (He.ga K "ShedError") (He.ga K "BadName")) rfl)) (c.x 7 rfl) (c.e 62 (f := fun K => xinitB PP.main.file K (He.ga K "BadName") (He.ma K (He.ga K "BadName") "__init__") "BadName.__init__") rfl) (He.free_ok X G (c.d.fact 13 (f := .free "super") rfl)) (of_decide_eq_true (c.e 45 (f := fun K => decide (PySem.W.nsIn K cStatics "thirdparty.any" = some none)) rfl)) (by decide +kernel) ⟨_, rfl, rfl⟩ (by decide +kernel) (by decide +kernel) (by decide +kernel))
theorem IX_BadName {K : PySem.W.Frag} {h : Heap} {mg : Str → Option Value} (X : K.In h) (G : h.Ns mainGlobals mg) (c : Says K) : XInit PP K mg (He.ga K "BadName") (He.ma K (He.ga K "BadName") "__init__") "BadName.__init__" s_x_BadName (IXe_BadName X G c).choose := (IXe_BadName X G c).choose_spec
theorem IXe_BadSize {K : PySem.W.Frag} {h : Heap} {mg : Str → Option Value} (X : K.In h) (G : h.Ns mainGlobals mg) (c : Says K) : ∃ fd, XInit PP K mg (He.ga K "BadSize") (He.ma K (He.ga K "BadSize") "__init__") "BadSize.__init__" s_x_BadSize fd := (xinit_of (P := PP) (mg := mg) (d := ⟨"BadSize", "BadSize.__init__", s_x_BadSize⟩) (xclsB_ok (c.e 12 (f := fun K => xclsB K (He.ga K "ShedError") (He.ga K "BadSize")) rfl)) (c.x 8 rfl) (c.e 64 (f := fun K => xinitB PP.main.file K (He.ga K "BadSize") (He.ma K (He.ga K "BadSize") "__init__") "BadSize.__init__") rfl) (He.free_ok X G (c.d.fact 13 (f := .free "super") rfl)) (of_decide_eq_true (c.e 45 (f := fun K => decide (PySem.W.nsIn K cStatics "thirdparty.any" = some none)) rfl)) (by decide +kernel) ⟨_, rfl, rfl⟩ (by decide +kernel) (by decide +kernel) (by decide +kernel))
theorem IX_BadSize {K : PySem.W.Frag} {h : Heap} {mg : Str → Option Value} (X : K.In h) (G : h.Ns mainGlobals mg) (c : Says K) : XInit PP K mg (He.ga K "BadSize") (He.ma K (He.ga K "BadSize") "__init__") "BadSize.__init__" s_x_BadSize (IXe_BadSize X G c).choose := (IXe_BadSize X G c).choose_spec
theorem IXe_BadValues {K : PySem.W.Frag} {h : Heap} {mg : Str → Option Value} (X : K.In h) (G : h.Ns mainGlobals mg) (c : Says K) : ∃ fd, XInit PP K mg (He.ga K "BadValues") (He.ma K (He.ga K "BadValues") "__init__") "BadValues.__init__" s_x_BadValues fd := (xinit_of (P := PP) (mg := mg) (d := ⟨"BadValues", "BadValues.__init__", s_x_BadValues⟩) (xclsB_ok (c.e 13 (f := fun K => xclsB K (He.ga K "ShedError") (He.ga K "BadValues")) rfl)) (c.x 9 rfl) (c.e 66 (f := fun K => xinitB PP.main.file K (He.ga K "BadValues") (He.ma K (He.ga K "BadValues") "__init__") "BadValues.__init__") rfl) (He.free_ok X G (c.d.fact 13 (f := .free "super") rfl)) (of_decide_eq_true (c.e 45 (f := fun K => decide (PySem.W.nsIn K cStatics "thirdparty.any" = some none)) rfl)) (by decide +kernel) ⟨_, rfl, rfl⟩ (by decide +kernel) (by decide +kernel) (by decide +kernel))
theorem IX_BadValues {K : PySem.W.Frag} {h : Heap} {mg : Str → Option Value} (X : K.In h) (G : h.Ns mainGlobals mg) (c : Says K) : XInit PP K mg (He.ga K "BadValues") (He.ma K (He.ga K "BadValues") "__init__") "BadValues.__init__" s_x_BadValues (IXe_BadValues X G c).choose := (IXe_BadValues X G c).choose_spec
theorem IXe_BadStatement {K : PySem.W.Frag} {h : Heap} {mg : Str → Option Value} (X : K.In h) (G : h.Ns mainGlobals mg) (c : Says K) : ∃ fd, XInit PP K mg (He.ga K "BadStatement") (He.ma K (He.ga K "BadStatement") "__init__") "BadStatement.__init__" s_x_BadStatement fd := (xinit_of (P := PP) (mg := mg) (d := ⟨"BadStatement", "BadStatement.__init__", s_x_BadStatement⟩) (xclsB_ok (c.e 14 (f := fun K => xclsB K (He.ga K "ShedError") (He.ga K "BadStatement")) rfl)) (c.x 10 rfl) (c.e 68 (f := fun K => xinitB PP.main.file K (He.ga K "BadStatement") (He.ma K (He.ga K "BadStatement") "__init__") "BadStatement.__init__") rfl) (He.free_ok X G (c.d.fact 13 (f := .free "super") rfl)) (of_decide_eq_true (c.e 45 (f := fun K => decide (PySem.W.nsIn K cStatics "thirdparty.any" = some none)) rfl)) (by decide +kernel) ⟨_, rfl, rfl⟩ (by decide +kernel) (by decide +kernel) (by decide +kernel))
theorem IX_BadStatement {K : PySem.W.Frag} {h : Heap} {mg : Str → Option Value} (X : K.In h) (G : h.Ns mainGlobals mg) (c : Says K) : XInit PP K mg (He.ga K "BadStatement") (He.ma K (He.ga K "BadStatement") "__init__") "BadStatement.__init__" s_x_BadStatement (IXe_BadStatement X G c).choose := (IXe_BadStatement X G c).choose_spec
theorem IXe_BadText {K : PySem.W.Frag} {h : Heap} {mg : Str → Option Value} (X : K.In h) (G : h.Ns mainGlobals mg) (c : Says K) : ∃ fd, XInit PP K mg (He.ga K "BadText") (He.ma K (He.ga K "BadText") "__init__") "BadText.__init__" s_x_BadText fd := (xinit_of (P := PP) (mg := mg) (d := ⟨"BadText", "BadText.__init__", s_x_BadText⟩) (xclsB_ok (c.e 15 (f := fun K => xclsB K (He.ga K "ShedError") (He.ga K "BadText")) rfl)) (c.x 11 rfl) (c.e 71 (f := fun K => xinitB PP.main.file K (He.ga K "BadText") (He.ma K (He.ga K "BadText") "__init__") "BadText.__init__") rfl) (He.free_ok X G (c.d.fact 13 (f := .free "super") rfl)) (of_decide_eq_true (c.e 45 (f := fun K => decide (PySem.W.nsIn K cStatics "thirdparty.any" = some none)) rfl)) (by decide +kernel) ⟨_, rfl, rfl⟩ (by decide +kernel) (by decide +kernel) (by decide +kernel))
theorem IX_BadText {K : PySem.W.Frag} {h : Heap} {mg : Str → Option Value} (X : K.In h) (G : h.Ns mainGlobals mg) (c : Says K) : XInit PP K mg (He.ga K "BadText") (He.ma K (He.ga K "BadText") "__init__") "BadText.__init__" s_x_BadText (IXe_BadText X G c).choose := (IXe_BadText X G c).choose_spec
theorem IXe_BadCall {K : PySem.W.Frag} {h : Heap} {mg : Str → Option Value} (X : K.In h) (G : h.Ns mainGlobals mg) (c : Says K) : ∃ fd, XInit PP K mg (He.ga K "BadCall") (He.ma K (He.ga K "BadCall") "__init__") "BadCall.__init__" s_x_BadCall fd := (xinit_of (P := PP) (mg := mg) (d := ⟨"BadCall", "BadCall.__init__", s_x_BadCall⟩) (xclsB_ok (c.e 16 (f := fun K => xclsB K (He.ga K "ShedError") (He.ga K "BadCall")) rfl)) (c.x 12 rfl) (c.e 73 (f := fun K => xinitB PP.main.file K (He.ga K "BadCall") (He.ma K (He.ga K "BadCall") "__init__") "BadCall.__init__") rfl) (He.free_ok X G (c.d.fact 13 (f := .free "super") rfl)) (of_decide_eq_true (c.e 45 (f := fun K => decide (PySem.W.nsIn K cStatics "thirdparty.any" = some none)) rfl)) (by decide +kernel) ⟨_, rfl, rfl⟩ (by decide +kernel) (by decide +kernel) (by decide +kernel))
theorem IX_BadCall {K : PySem.W.Frag} {h : Heap} {mg : Str → Option Value} (X : K.In h) (G : h.Ns mainGlobals mg) (c : Says K) : XInit PP K mg (He.ga K "BadCall") (He.ma K (He.ga K "BadCall") "__init__") "BadCall.__init__" s_x_BadCall (IXe_BadCall X G c).choose := (IXe_BadCall X G c).choose_spec
theorem IXe_BadWord {K : PySem.W.Frag} {h : Heap} {mg : Str → Option Value} (X : K.In h) (G : h.Ns mainGlobals mg) (c : Says K) : ∃ fd, XInit PP K mg (He.ga K "BadWord") (He.ma K (He.ga K "BadWord") "__init__") "BadWord.__init__" s_x_BadWord fd := (xinit_of (P := PP) (mg := mg) (d := ⟨"BadWord", "BadWord.__init__", s_x_BadWord⟩) (xclsB_ok (c.e 17 (f := fun K => xclsB K (He.ga K "ShedError") (He.ga K "BadWord")) rfl)) (c.x 13 rfl) (c.e 75 (f := fun K => xinitB PP.main.file K (He.ga K "BadWord") (He.ma K (He.ga K "BadWord") "__init__") "BadWord.__init__") rfl) (He.free_ok X G (c.d.fact 13 (f := .free "super") rfl)) (of_decide_eq_true (c.e 45 (f := fun K => decide (PySem.W.nsIn K cStatics "thirdparty.any" = some none)) rfl)) (by decide +kernel) ⟨_, rfl, rfl⟩ (by decide +kernel) (by decide +kernel) (by decide +kernel))
theorem IX_BadWord {K : PySem.W.Frag} {h : Heap} {mg : Str → Option Value} (X : K.In h) (G : h.Ns mainGlobals mg) (c : Says K) : XInit PP K mg (He.ga K "BadWord") (He.ma K (He.ga K "BadWord") "__init__") "BadWord.__init__" s_x_BadWord (IXe_BadWord X G c).choose := (IXe_BadWord X G c).choose_spec
theorem IXe_BadValue {K : PySem.W.Frag} {h : Heap} {mg : Str → Option Value} (X : K.In h) (G : h.Ns mainGlobals mg) (c : Says K) : ∃ fd, XInit PP K mg (He.ga K "BadValue") (He.ma K (He.ga K "BadValue") "__init__") "BadValue.__init__" s_x_BadValue fd := (xinit_of (P := PP) (mg := mg) (d := ⟨"BadValue", "BadValue.__init__", s_x_BadValue⟩) (xclsB_ok (c.e 18 (f := fun K => xclsB K (He.ga K "ShedError") (He.ga K "BadValue")) rfl)) (c.x 14 rfl) (c.e 77 (f := fun K => xinitB PP.main.file K (He.ga K "BadValue") (He.ma K (He.ga K "BadValue") "__init__") "BadValue.__init__") rfl) (He.free_ok X G (c.d.fact 13 (f := .free "super") rfl)) (of_decide_eq_true (c.e 45 (f := fun K => decide (PySem.W.nsIn K cStatics "thirdparty.any" = some none)) rfl)) (by decide +kernel) ⟨_, rfl, rfl⟩ (by decide +kernel) (by decide +kernel) (by decide +kernel))
theorem IX_BadValue {K : PySem.W.Frag} {h : Heap} {mg : Str → Option Value} (X : K.In h) (G : h.Ns mainGlobals mg) (c : Says K) : XInit PP K mg (He.ga K "BadValue") (He.ma K (He.ga K "BadValue") "__init__") "BadValue.__init__" s_x_BadValue (IXe_BadValue X G c).choose := (IXe_BadValue X G c).choose_spec
theorem IXe_BadScript {K : PySem.W.Frag} {h : Heap} {mg : Str → Option Value} (X : K.In h) (G : h.Ns mainGlobals mg) (c : Says K) : ∃ fd, XInit PP K mg (He.ga K "BadScript") (He.ma K (He.ga K "BadScript") "__init__") "BadScript.__init__" s_x_BadScript fd := (xinit_of (P := PP) (mg := mg) (d := ⟨"BadScript", "BadScript.__init__", s_x_BadScript⟩) (xclsB_ok (c.e 19 (f := fun K => xclsB K (He.ga K "ShedError") (He.ga K "BadScript")) rfl)) (c.x 15 rfl) (c.e 79 (f := fun K => xinitB PP.main.file K (He.ga K "BadScript") (He.ma K (He.ga K "BadScript") "__init__") "BadScript.__init__") rfl) (He.free_ok X G (c.d.fact 13 (f := .free "super") rfl)) (of_decide_eq_true (c.e 45 (f := fun K => decide (PySem.W.nsIn K cStatics "thirdparty.any" = some none)) rfl)) (by decide +kernel) ⟨_, rfl, rfl⟩ (by decide +kernel) (by decide +kernel) (by decide +kernel))
theorem IX_BadScript {K : PySem.W.Frag} {h : Heap} {mg : Str → Option Value} (X : K.In h) (G : h.Ns mainGlobals mg) (c : Says K) : XInit PP K mg (He.ga K "BadScript") (He.ma K (He.ga K "BadScript") "__init__") "BadScript.__init__" s_x_BadScript (IXe_BadScript X G c).choose := (IXe_BadScript X G c).choose_spec
theorem IXe_BadAspect {K : PySem.W.Frag} {h : Heap} {mg : Str → Option Value} (X : K.In h) (G : h.Ns mainGlobals mg) (c : Says K) : ∃ fd, XInit PP K mg (He.ga K "BadAspect") (He.ma K (He.ga K "BadAspect") "__init__") "BadAspect.__init__" s_x_BadAspect fd := (xinit_of (P := PP) (mg := mg) (d := ⟨"BadAspect", "BadAspect.__init__", s_x_BadAspect⟩) (xclsB_ok (c.e 20 (f := fun K => xclsB K (He.ga K "ShedError") (He.ga K "BadAspect")) rfl)) (c.x 16 rfl) (c.e 82 (f := fun K => xinitB PP.main.file K (He.ga K "BadAspect") (He.ma K (He.ga K "BadAspect") "__init__") "BadAspect.__init__") rfl) (He.free_ok X G (c.d.fact 13 (f := .free "super") rfl)) (of_decide_eq_true (c.e 45 (f := fun K => decide (PySem.W.nsIn K cStatics "thirdparty.any" = some none)) rfl)) (by decide +kernel) ⟨_, rfl, rfl⟩ (by decide +kernel) (by decide +kernel) (by decide +kernel))
theorem IX_BadAspect {K : PySem.W.Frag} {h : Heap} {mg : Str → Option Value} (X : K.In h) (G : h.Ns mainGlobals mg) (c : Says K) : XInit PP K mg (He.ga K "BadAspect") (He.ma K (He.ga K "BadAspect") "__init__") "BadAspect.__init__" s_x_BadAspect (IXe_BadAspect X G c).choose := (IXe_BadAspect X G c).choose_spec
theorem IXe_BadWhere {K : PySem.W.Frag} {h : Heap} {mg : Str → Option Value} (X : K.In h) (G : h.Ns mainGlobals mg) (c : Says K) : ∃ fd, XInit PP K mg (He.ga K "BadWhere") (He.ma K (He.ga K "BadWhere") "__init__") "BadWhere.__init__" s_x_BadWhere fd := (xinit_of (P := PP) (mg := mg) (d := ⟨"BadWhere", "BadWhere.__init__", s_x_BadWhere⟩) (xclsB_ok (c.e 21 (f := fun K => xclsB K (He.ga K "ShedError") (He.ga K "BadWhere")) rfl)) (c.x 17 rfl) (c.e 84 (f := fun K => xinitB PP.main.file K (He.ga K "BadWhere") (He.ma K (He.ga K "BadWhere") "__init__") "BadWhere.__init__") rfl) (He.free_ok X G (c.d.fact 13 (f := .free "super") rfl)) (of_decide_eq_true (c.e 45 (f := fun K => decide (PySem.W.nsIn K cStatics "thirdparty.any" = some none)) rfl)) (by decide +kernel) ⟨_, rfl, rfl⟩ (by decide +kernel) (by decide +kernel) (by decide +kernel))
theorem IX_BadWhere {K : PySem.W.Frag} {h : Heap} {mg : Str → Option Value} (X : K.In h) (G : h.Ns mainGlobals mg) (c : Says K) : XInit PP K mg (He.ga K "BadWhere") (He.ma K (He.ga K "BadWhere") "__init__") "BadWhere.__init__" s_x_BadWhere (IXe_BadWhere X G c).choose := (IXe_BadWhere X G c).choose_spec
theorem IXe_BadRelation {K : PySem.W.Frag} {h : Heap} {mg : Str → Option Value} (X : K.In h) (G : h.Ns mainGlobals mg) (c : Says K) : ∃ fd, XInit PP K mg (He.ga K "BadRelation") (He.ma K (He.ga K "BadRelation") "__init__") "BadRelation.__init__" s_x_BadRelation fd := (xinit_of (P := PP) (mg := mg) (d := ⟨"BadRelation", "BadRelation.__init__", s_x_BadRelation⟩) (xclsB_ok (c.e 22 (f := fun K => xclsB K (He.ga K "ShedError") (He.ga K "BadRelation")) rfl)) (c.x 18 rfl) (c.e 86 (f := fun K => xinitB PP.main.file K (He.ga K "BadRelation") (He.ma K (He.ga K "BadRelation") "__init__") "BadRelation.__init__") rfl) (He.free_ok X G (c.d.fact 13 (f := .free "super") rfl)) (of_decide_eq_true (c.e 45 (f := fun K => decide (PySem.W.nsIn K cStatics "thirdparty.any" = some none)) rfl)) (by decide +kernel) ⟨_, rfl, rfl⟩ (by decide +kernel) (by decide +kernel) (by decide +kernel))
theorem IX_BadRelation {K : PySem.W.Frag} {h : Heap} {mg : Str → Option Value} (X : K.In h) (G : h.Ns mainGlobals mg) (c : Says K) : XInit PP K mg (He.ga K "BadRelation") (He.ma K (He.ga K "BadRelation") "__init__") "BadRelation.__init__" s_x_BadRelation (IXe_BadRelation X G c).choose := (IXe_BadRelation X G c).choose_spec
theorem IXe_NoNumber {K : PySem.W.Frag} {h : Heap} {mg : Str → Option Value} (X : K.In h) (G : h.Ns mainGlobals mg) (c : Says K) : ∃ fd, XInit PP K mg (He.ga K "NoNumber") (He.ma K (He.ga K "NoNumber") "__init__") "NoNumber.__init__" s_x_NoNumber fd := (xinit_of (P := PP) (mg := mg) (d := ⟨"NoNumber", "NoNumber.__init__", s_x_NoNumber⟩) (xclsB_ok (c.e 23 (f := fun K => xclsB K (He.ga K "ShedError") (He.ga K "NoNumber")) rfl)) (c.x 19 rfl) (c.e 88 (f := fun K => xinitB PP.main.file K (He.ga K "NoNumber") (He.ma K (He.ga K "NoNumber") "__init__") "NoNumber.__init__") rfl) (He.free_ok X G (c.d.fact 13 (f := .free "super") rfl)) (of_decide_eq_true (c.e 45 (f := fun K => decide (PySem.W.nsIn K cStatics "thirdparty.any" = some none)) rfl)) (by decide +kernel) ⟨_, rfl, rfl⟩ (by decide +kernel) (by decide +kernel) (by decide +kernel))
theorem IX_NoNumber {K : PySem.W.Frag} {h : Heap} {mg : Str → Option Value} (X : K.In h) (G : h.Ns mainGlobals mg) (c : Says K) : XInit PP K mg (He.ga K "NoNumber") (He.ma K (He.ga K "NoNumber") "__init__") "NoNumber.__init__" s_x_NoNumber (IXe_NoNumber X G c).choose := (IXe_NoNumber X G c).choose_spec
theorem IXe_InTheWay {K : PySem.W.Frag} {h : Heap} {mg : Str → Option Value} (X : K.In h) (G : h.Ns mainGlobals mg) (c : Says K) : ∃ fd, XInit PP K mg (He.ga K "InTheWay") (He.ma K (He.ga K "InTheWay") "__init__") "InTheWay.__init__" s_x_InTheWay fd := (xinit_of (P := PP) (mg := mg) (d := ⟨"InTheWay", "InTheWay.__init__", s_x_InTheWay⟩) (xclsB_ok (c.e 24 (f := fun K => xclsB K (He.ga K "ShedError") (He.ga K "InTheWay")) rfl)) (c.x 20 rfl) (c.e 90 (f := fun K => xinitB PP.main.file K (He.ga K "InTheWay") (He.ma K (He.ga K "InTheWay") "__init__") "InTheWay.__init__") rfl) (He.free_ok X G (c.d.fact 13 (f := .free "super") rfl)) (of_decide_eq_true (c.e 45 (f := fun K => decide (PySem.W.nsIn K cStatics "thirdparty.any" = some none)) rfl)) (by decide +kernel) ⟨_, rfl, rfl⟩ (by decide +kernel) (by decide +kernel) (by decide +kernel))
theorem IX_InTheWay {K : PySem.W.Frag} {h : Heap} {mg : Str → Option Value} (X : K.In h) (G : h.Ns mainGlobals mg) (c : Says K) : XInit PP K mg (He.ga K "InTheWay") (He.ma K (He.ga K "InTheWay") "__init__") "InTheWay.__init__" s_x_InTheWay (IXe_InTheWay X G c).choose := (IXe_InTheWay X G c).choose_spec
theorem IXe_BadPlan {K : PySem.W.Frag} {h : Heap} {mg : Str → Option Value} (X : K.In h) (G : h.Ns mainGlobals mg) (c : Says K) : ∃ fd, XInit PP K mg (He.ga K "BadPlan") (He.ma K (He.ga K "BadPlan") "__init__") "BadPlan.__init__" s_x_BadPlan fd := (xinit_of (P := PP) (mg := mg) (d := ⟨"BadPlan", "BadPlan.__init__", s_x_BadPlan⟩) (xclsB_ok (c.e 25 (f := fun K => xclsB K (He.ga K "ShedError") (He.ga K "BadPlan")) rfl)) (c.x 21 rfl) (c.e 92 (f := fun K => xinitB PP.main.file K (He.ga K "BadPlan") (He.ma K (He.ga K "BadPlan") "__init__") "BadPlan.__init__") rfl) (He.free_ok X G (c.d.fact 13 (f := .free "super") rfl)) (of_decide_eq_true (c.e 45 (f := fun K => decide (PySem.W.nsIn K cStatics "thirdparty.any" = some none)) rfl)) (by decide +kernel) ⟨_, rfl, rfl⟩ (by decide +kernel) (by decide +kernel) (by decide +kernel))
theorem IX_BadPlan {K : PySem.W.Frag} {h : Heap} {mg : Str → Option Value} (X : K.In h) (G : h.Ns mainGlobals mg) (c : Says K) : XInit PP K mg (He.ga K "BadPlan") (He.ma K (He.ga K "BadPlan") "__init__") "BadPlan.__init__" s_x_BadPlan (IXe_BadPlan X G c).choose := (IXe_BadPlan X G c).choose_spec
theorem IXe_NoVersion {K : PySem.W.Frag} {h : Heap} {mg : Str → Option Value} (X : K.In h) (G : h.Ns mainGlobals mg) (c : Says K) : ∃ fd, XInit PP K mg (He.ga K "NoVersion") (He.ma K (He.ga K "NoVersion") "__init__") "NoVersion.__init__" s_x_NoVersion fd := (xinit_of (P := PP) (mg := mg) (d := ⟨"NoVersion", "NoVersion.__init__", s_x_NoVersion⟩) (xclsB_ok (c.e 26 (f := fun K => xclsB K (He.ga K "ShedError") (He.ga K "NoVersion")) rfl)) (c.x 22 rfl) (c.e 94 (f := fun K => xinitB PP.main.file K (He.ga K "NoVersion") (He.ma K (He.ga K "NoVersion") "__init__") "NoVersion.__init__") rfl) (He.free_ok X G (c.d.fact 13 (f := .free "super") rfl)) (of_decide_eq_true (c.e 45 (f := fun K => decide (PySem.W.nsIn K cStatics "thirdparty.any" = some none)) rfl)) (by decide +kernel) ⟨_, rfl, rfl⟩ (by decide +kernel) (by decide +kernel) (by decide +kernel))
theorem IX_NoVersion {K : PySem.W.Frag} {h : Heap} {mg : Str → Option Value} (X : K.In h) (G : h.Ns mainGlobals mg) (c : Says K) : XInit PP K mg (He.ga K "NoVersion") (He.ma K (He.ga K "NoVersion") "__init__") "NoVersion.__init__" s_x_NoVersion (IXe_NoVersion X G c).choose := (IXe_NoVersion X G c).choose_spec
theorem IXe_NoBranch {K : PySem.W.Frag} {h : Heap} {mg : Str → Option Value} (X : K.In h) (G : h.Ns mainGlobals mg) (c : Says K) : ∃ fd, XInit PP K mg (He.ga K "NoBranch") (He.ma K (He.ga K "NoBranch") "__init__") "NoBranch.__init__" s_x_NoBranch fd := (xinit_of (P := PP) (mg := mg) (d := ⟨"NoBranch", "NoBranch.__init__", s_x_NoBranch⟩) (xclsB_ok (c.e 27 (f := fun K => xclsB K (He.ga K "ShedError") (He.ga K "NoBranch")) rfl)) (c.x 23 rfl) (c.e 96 (f := fun K => xinitB PP.main.file K (He.ga K "NoBranch") (He.ma K (He.ga K "NoBranch") "__init__") "NoBranch.__init__") rfl) (He.free_ok X G (c.d.fact 13 (f := .free "super") rfl)) (of_decide_eq_true (c.e 45 (f := fun K => decide (PySem.W.nsIn K cStatics "thirdparty.any" = some none)) rfl)) (by decide +kernel) ⟨_, rfl, rfl⟩ (by decide +kernel) (by decide +kernel) (by decide +kernel))
theorem IX_NoBranch {K : PySem.W.Frag} {h : Heap} {mg : Str → Option Value} (X : K.In h) (G : h.Ns mainGlobals mg) (c : Says K) : XInit PP K mg (He.ga K "NoBranch") (He.ma K (He.ga K "NoBranch") "__init__") "NoBranch.__init__" s_x_NoBranch (IXe_NoBranch X G c).choose := (IXe_NoBranch X G c).choose_spec
theorem IXe_UsedName {K : PySem.W.Frag} {h : Heap} {mg : Str → Option Value} (X : K.In h) (G : h.Ns mainGlobals mg) (c : Says K) : ∃ fd, XInit PP K mg (He.ga K "UsedName") (He.ma K (He.ga K "UsedName") "__init__") "UsedName.__init__" s_x_UsedName fd := (xinit_of (P := PP) (mg := mg) (d := ⟨"UsedName", "UsedName.__init__", s_x_UsedName⟩) (xclsB_ok (c.e 28 (f := fun K => xclsB K (He.ga K "ShedError") (He.ga K "UsedName")) rfl)) (c.x 24 rfl) (c.e 98 (f := fun K => xinitB PP.main.file K (He.ga K "UsedName") (He.ma K (He.ga K "UsedName") "__init__") "UsedName.__init__") rfl) (He.free_ok X G (c.d.fact 13 (f := .free "super") rfl)) (of_decide_eq_true (c.e 45 (f := fun K => decide (PySem.W.nsIn K cStatics "thirdparty.any" = some none)) rfl)) (by decide +kernel) ⟨_, rfl, rfl⟩ (by decide +kernel) (by decide +kernel) (by decide +kernel))
theorem IX_UsedName {K : PySem.W.Frag} {h : Heap} {mg : Str → Option Value} (X : K.In h) (G : h.Ns mainGlobals mg) (c : Says K) : XInit PP K mg (He.ga K "UsedName") (He.ma K (He.ga K "UsedName") "__init__") "UsedName.__init__" s_x_UsedName (IXe_UsedName X G c).choose := (IXe_UsedName X G c).choose_spec
theorem IXe_NoDeed {K : PySem.W.Frag} {h : Heap} {mg : Str → Option Value} (X : K.In h) (G : h.Ns mainGlobals mg) (c : Says K) : ∃ fd, XInit PP K mg (He.ga K "NoDeed") (He.ma K (He.ga K "NoDeed") "__init__") "NoDeed.__init__" s_x_NoDeed fd := (xinit_of (P := PP) (mg := mg) (d := ⟨"NoDeed", "NoDeed.__init__", s_x_NoDeed⟩) (xclsB_ok (c.e 29 (f := fun K => xclsB K (He.ga K "ShedError") (He.ga K "NoDeed")) rfl)) (c.x 25 rfl) (c.e 100 (f := fun K => xinitB PP.main.file K (He.ga K "NoDeed") (He.ma K (He.ga K "NoDeed") "__init__") "NoDeed.__init__") rfl) (He.free_ok X G (c.d.fact 13 (f := .free "super") rfl)) (of_decide_eq_true (c.e 45 (f := fun K => decide (PySem.W.nsIn K cStatics "thirdparty.any" = some none)) rfl)) (by decide +kernel) ⟨_, rfl, rfl⟩ (by decide +kernel) (by decide +kernel) (by decide +kernel))
theorem IX_NoDeed {K : PySem.W.Frag} {h : Heap} {mg : Str → Option Value} (X : K.In h) (G : h.Ns mainGlobals mg) (c : Says K) : XInit PP K mg (He.ga K "NoDeed") (He.ma K (He.ga K "NoDeed") "__init__") "NoDeed.__init__" s_x_NoDeed (IXe_NoDeed X G c).choose := (IXe_NoDeed X G c).choose_spec
theorem IXe_BadDeed {K : PySem.W.Frag} {h : Heap} {mg : Str → Option Value} (X : K.In h) (G : h.Ns mainGlobals mg) (c : Says K) : ∃ fd, XInit PP K mg (He.ga K "BadDeed") (He.ma K (He.ga K "BadDeed") "__init__") "BadDeed.__init__" s_x_BadDeed fd := (xinit_of (P := PP) (mg := mg) (d := ⟨"BadDeed", "BadDeed.__init__", s_x_BadDeed⟩) (xclsB_ok (c.e 30 (f := fun K => xclsB K (He.ga K "ShedError") (He.ga K "BadDeed")) rfl)) (c.x 26 rfl) (c.e 102 (f := fun K => xinitB PP.main.file K (He.ga K "BadDeed") (He.ma K (He.ga K "BadDeed") "__init__") "BadDeed.__init__") rfl) (He.free_ok X G (c.d.fact 13 (f := .free "super") rfl)) (of_decide_eq_true (c.e 45 (f := fun K => decide (PySem.W.nsIn K cStatics "thirdparty.any" = some none)) rfl)) (by decide +kernel) ⟨_, rfl, rfl⟩ (by decide +kernel) (by decide +kernel) (by decide +kernel))
theorem IX_BadDeed {K : PySem.W.Frag} {h : Heap} {mg : Str → Option Value} (X : K.In h) (G : h.Ns mainGlobals mg) (c : Says K) : XInit PP K mg (He.ga K "BadDeed") (He.ma K (He.ga K "BadDeed") "__init__") "BadDeed.__init__" s_x_BadDeed (IXe_BadDeed X G c).choose := (IXe_BadDeed X G c).choose_spec
theorem IXe_BadRule {K : PySem.W.Frag} {h : Heap} {mg : Str → Option Value} (X : K.In h) (G : h.Ns mainGlobals mg) (c : Says K) : ∃ fd, XInit PP K mg (He.ga K "BadRule") (He.ma K (He.ga K "BadRule") "__init__") "BadRule.__init__" s_x_BadRule fd := (xinit_of (P := PP) (mg := mg) (d := ⟨"BadRule", "BadRule.__init__", s_x_BadRule⟩) (xclsB_ok (c.e 31 (f := fun K => xclsB K (He.ga K "ShedError") (He.ga K "BadRule")) rfl)) (c.x 27 rfl) (c.e 104 (f := fun K => xinitB PP.main.file K (He.ga K "BadRule") (He.ma K (He.ga K "BadRule") "__init__") "BadRule.__init__") rfl) (He.free_ok X G (c.d.fact 13 (f := .free "super") rfl)) (of_decide_eq_true (c.e 45 (f := fun K => decide (PySem.W.nsIn K cStatics "thirdparty.any" = some none)) rfl)) (by decide +kernel) ⟨_, rfl, rfl⟩ (by decide +kernel) (by decide +kernel) (by decide +kernel))
theorem IX_BadRule {K : PySem.W.Frag} {h : Heap} {mg : Str → Option Value} (X : K.In h) (G : h.Ns mainGlobals mg) (c : Says K) : XInit PP K mg (He.ga K "BadRule") (He.ma K (He.ga K "BadRule") "__init__") "BadRule.__init__" s_x_BadRule (IXe_BadRule X G c).choose := (IXe_BadRule X G c).choose_spec
theorem IXe_Ring {K : PySem.W.Frag} {h : Heap} {mg : Str → Option Value} (X : K.In h) (G : h.Ns mainGlobals mg) (c : Says K) : ∃ fd, XInit PP K mg (He.ga K "Ring") (He.ma K (He.ga K "Ring") "__init__") "Ring.__init__" s_x_Ring fd := (xinit_of (P := PP) (mg := mg) (d := ⟨"Ring", "Ring.__init__", s_x_Ring⟩) (xclsB_ok (c.e 32 (f := fun K => xclsB K (He.ga K "ShedError") (He.ga K "Ring")) rfl)) (c.x 28 rfl) (c.e 106 (f := fun K => xinitB PP.main.file K (He.ga K "Ring") (He.ma K (He.ga K "Ring") "__init__") "Ring.__init__") rfl) (He.free_ok X G (c.d.fact 13 (f := .free "super") rfl)) (of_decide_eq_true (c.e 45 (f := fun K => decide (PySem.W.nsIn K cStatics "thirdparty.any" = some none)) rfl)) (by decide +kernel) ⟨_, rfl, rfl⟩ (by decide +kernel) (by decide +kernel) (by decide +kernel))
theorem IX_Ring {K : PySem.W.Frag} {h : Heap} {mg : Str → Option Value} (X : K.In h) (G : h.Ns mainGlobals mg) (c : Says K) : XInit PP K mg (He.ga K "Ring") (He.ma K (He.ga K "Ring") "__init__") "Ring.__init__" s_x_Ring (IXe_Ring X G c).choose := (IXe_Ring X G c).choose_spec
theorem IXe_NoRule {K : PySem.W.Frag} {h : Heap} {mg : Str → Option Value} (X : K.In h) (G : h.Ns mainGlobals mg) (c : Says K) : ∃ fd, XInit PP K mg (He.ga K "NoRule") (He.ma K (He.ga K "NoRule") "__init__") "NoRule.__init__" s_x_NoRule fd := (xinit_of (P := PP) (mg := mg) (d := ⟨"NoRule", "NoRule.__init__", s_x_NoRule⟩) (xclsB_ok (c.e 33 (f := fun K => xclsB K (He.ga K "ShedError") (He.ga K "NoRule")) rfl)) (c.x 29 rfl) (c.e 108 (f := fun K => xinitB PP.main.file K (He.ga K "NoRule") (He.ma K (He.ga K "NoRule") "__init__") "NoRule.__init__") rfl) (He.free_ok X G (c.d.fact 13 (f := .free "super") rfl)) (of_decide_eq_true (c.e 45 (f := fun K => decide (PySem.W.nsIn K cStatics "thirdparty.any" = some none)) rfl)) (by decide +kernel) ⟨_, rfl, rfl⟩ (by decide +kernel) (by decide +kernel) (by decide +kernel))
theorem IX_NoRule {K : PySem.W.Frag} {h : Heap} {mg : Str → Option Value} (X : K.In h) (G : h.Ns mainGlobals mg) (c : Says K) : XInit PP K mg (He.ga K "NoRule") (He.ma K (He.ga K "NoRule") "__init__") "NoRule.__init__" s_x_NoRule (IXe_NoRule X G c).choose := (IXe_NoRule X G c).choose_spec
theorem IXe_BadRank {K : PySem.W.Frag} {h : Heap} {mg : Str → Option Value} (X : K.In h) (G : h.Ns mainGlobals mg) (c : Says K) : ∃ fd, XInit PP K mg (He.ga K "BadRank") (He.ma K (He.ga K "BadRank") "__init__") "BadRank.__init__" s_x_BadRank fd := (xinit_of (P := PP) (mg := mg) (d := ⟨"BadRank", "BadRank.__init__", s_x_BadRank⟩) (xclsB_ok (c.e 34 (f := fun K => xclsB K (He.ga K "ShedError") (He.ga K "BadRank")) rfl)) (c.x 30 rfl) (c.e 110 (f := fun K => xinitB PP.main.file K (He.ga K "BadRank") (He.ma K (He.ga K "BadRank") "__init__") "BadRank.__init__") rfl) (He.free_ok X G (c.d.fact 13 (f := .free "super") rfl)) (of_decide_eq_true (c.e 45 (f := fun K => decide (PySem.W.nsIn K cStatics "thirdparty.any" = some none)) rfl)) (by decide +kernel) ⟨_, rfl, rfl⟩ (by decide +kernel) (by decide +kernel) (by decide +kernel))
theorem IX_BadRank {K : PySem.W.Frag} {h : Heap} {mg : Str → Option Value} (X : K.In h) (G : h.Ns mainGlobals mg) (c : Says K) : XInit PP K mg (He.ga K "BadRank") (He.ma K (He.ga K "BadRank") "__init__") "BadRank.__init__" s_x_BadRank (IXe_BadRank X G c).choose := (IXe_BadRank X G c).choose_spec
theorem IXe_UsedLabel {K : PySem.W.Frag} {h : Heap} {mg : Str → Option Value} (X : K.In h) (G : h.Ns mainGlobals mg) (c : Says K) : ∃ fd, XInit PP K mg (He.ga K "UsedLabel") (He.ma K (He.ga K "UsedLabel") "__init__") "UsedLabel.__init__" s_x_UsedLabel fd := (xinit_of (P := PP) (mg := mg) (d := ⟨"UsedLabel", "UsedLabel.__init__", s_x_UsedLabel⟩) (xclsB_ok (c.e 35 (f := fun K => xclsB K (He.ga K "ShedError") (He.ga K "UsedLabel")) rfl)) (c.x 31 rfl) (c.e 112 (f := fun K => xinitB PP.main.file K (He.ga K "UsedLabel") (He.ma K (He.ga K "UsedLabel") "__init__") "UsedLabel.__init__") rfl) (He.free_ok X G (c.d.fact 13 (f := .free "super") rfl)) (of_decide_eq_true (c.e 45 (f := fun K => decide (PySem.W.nsIn K cStatics "thirdparty.any" = some none)) rfl)) (by decide +kernel) ⟨_, rfl, rfl⟩ (by decide +kernel) (by decide +kernel) (by decide +kernel))
theorem IX_UsedLabel {K : PySem.W.Frag} {h : Heap} {mg : Str → Option Value} (X : K.In h) (G : h.Ns mainGlobals mg) (c : Says K) : XInit PP K mg (He.ga K "UsedLabel") (He.ma K (He.ga K "UsedLabel") "__init__") "UsedLabel.__init__" s_x_UsedLabel (IXe_UsedLabel X G c).choose := (IXe_UsedLabel X G c).choose_spec
theorem IXe_NoLabel {K : PySem.W.Frag} {h : Heap} {mg : Str → Option Value} (X : K.In h) (G : h.Ns mainGlobals mg) (c : Says K) : ∃ fd, XInit PP K mg (He.ga K "NoLabel") (He.ma K (He.ga K "NoLabel") "__init__") "NoLabel.__init__" s_x_NoLabel fd := (xinit_of (P := PP) (mg := mg) (d := ⟨"NoLabel", "NoLabel.__init__", s_x_NoLabel⟩) (xclsB_ok (c.e 36 (f := fun K => xclsB K (He.ga K "ShedError") (He.ga K "NoLabel")) rfl)) (c.x 32 rfl) (c.e 114 (f := fun K => xinitB PP.main.file K (He.ga K "NoLabel") (He.ma K (He.ga K "NoLabel") "__init__") "NoLabel.__init__") rfl) (He.free_ok X G (c.d.fact 13 (f := .free "super") rfl)) (of_decide_eq_true (c.e 45 (f := fun K => decide (PySem.W.nsIn K cStatics "thirdparty.any" = some none)) rfl)) (by decide +kernel) ⟨_, rfl, rfl⟩ (by decide +kernel) (by decide +kernel) (by decide +kernel))
theorem IX_NoLabel {K : PySem.W.Frag} {h : Heap} {mg : Str → Option Value} (X : K.In h) (G : h.Ns mainGlobals mg) (c : Says K) : XInit PP K mg (He.ga K "NoLabel") (He.ma K (He.ga K "NoLabel") "__init__") "NoLabel.__init__" s_x_NoLabel (IXe_NoLabel X G c).choose := (IXe_NoLabel X G c).choose_spec
theorem IXe_BadLog {K : PySem.W.Frag} {h : Heap} {mg : Str → Option Value} (X : K.In h) (G : h.Ns mainGlobals mg) (c : Says K) : ∃ fd, XInit PP K mg (He.ga K "BadLog") (He.ma K (He.ga K "BadLog") "__init__") "BadLog.__init__" s_x_BadLog fd := (xinit_of (P := PP) (mg := mg) (d := ⟨"BadLog", "BadLog.__init__", s_x_BadLog⟩) (xclsB_ok (c.e 37 (f := fun K => xclsB K (He.ga K "ShedError") (He.ga K "BadLog")) rfl)) (c.x 33 rfl) (c.e 116 (f := fun K => xinitB PP.main.file K (He.ga K "BadLog") (He.ma K (He.ga K "BadLog") "__init__") "BadLog.__init__") rfl) (He.free_ok X G (c.d.fact 13 (f := .free "super") rfl)) (of_decide_eq_true (c.e 45 (f := fun K => decide (PySem.W.nsIn K cStatics "thirdparty.any" = some none)) rfl)) (by decide +kernel) ⟨_, rfl, rfl⟩ (by decide +kernel) (by decide +kernel) (by decide +kernel))
theorem IX_BadLog {K : PySem.W.Frag} {h : Heap} {mg : Str → Option Value} (X : K.In h) (G : h.Ns mainGlobals mg) (c : Says K) : XInit PP K mg (He.ga K "BadLog") (He.ma K (He.ga K "BadLog") "__init__") "BadLog.__init__" s_x_BadLog (IXe_BadLog X G c).choose := (IXe_BadLog X G c).choose_spec
noncomputable def tx_of {K : PySem.W.Frag} {h : Heap} {mg : Str → Option Value} (X : K.In h) (G : h.Ns mainGlobals mg) (c : Says K) : Tx PP K mg where
  b_len := He.free_ok X G (c.d.fact 0 (f := .free "len") rfl)
  b_isinstance := He.free_ok X G (c.d.fact 1 (f := .free "isinstance") rfl)
  b_int := He.free_ok X G (c.d.fact 2 (f := .free "int") rfl)
  b_list := He.free_ok X G (c.d.fact 3 (f := .free "list") rfl)
  b_sorted := He.free_ok X G (c.d.fact 4 (f := .free "sorted") rfl)
  b_abs := He.free_ok X G (c.d.fact 5 (f := .free "abs") rfl)
  b_range := He.free_ok X G (c.d.fact 6 (f := .free "range") rfl)
  b_dict := He.free_ok X G (c.d.fact 7 (f := .free "dict") rfl)
  b_repr := He.free_ok X G (c.d.fact 8 (f := .free "repr") rfl)
  b_KeyError := He.free_ok X G (c.d.fact 9 (f := .free "KeyError") rfl)
  b_IndexError := He.free_ok X G (c.d.fact 10 (f := .free "IndexError") rfl)
  b_TypeError := He.free_ok X G (c.d.fact 11 (f := .free "TypeError") rfl)
  b_ValueError := He.free_ok X G (c.d.fact 12 (f := .free "ValueError") rfl)
  b_super := He.free_ok X G (c.d.fact 13 (f := .free "super") rfl)
  c_ShedError := He.ga K "ShedError"
  m_ShedError := He.glo_ok X G (c.d.fact 14 (f := .glo "ShedError") rfl)
  iS := (c.e 0 (f := fun K => (PySem.W.clsIn K (He.ga K "ShedError")).isSome) rfl)
  tS := of_decide_eq_true (c.e 1 (f := fun K => decide (PySem.W.typeIn K (.ref (He.ga K "ShedError")) = some (.type "type"))) rfl)
  o_get := of_decide_eq_true (c.e 2 (f := fun K => decide (PySem.W.specialIn K (.builtin "object.__class__") "__get__" = some (some (.builtin "getset_descriptor.__get__")))) rfl)
  o_tk := of_decide_eq_true (c.e 3 (f := fun K => decide (PySem.W.takesIn K (.builtin "object.__class__") = some true)) rfl)
  c_BadLetters := He.ga K "BadLetters"
  m_BadLetters := He.glo_ok X G (c.d.fact 15 (f := .glo "BadLetters") rfl)
  x_BadLetters := xclsB_ok (c.e 4 (f := fun K => xclsB K (He.ga K "ShedError") (He.ga K "BadLetters")) rfl)
  c_TooMany := He.ga K "TooMany"
  m_TooMany := He.glo_ok X G (c.d.fact 16 (f := .glo "TooMany") rfl)
  x_TooMany := xclsB_ok (c.e 5 (f := fun K => xclsB K (He.ga K "ShedError") (He.ga K "TooMany")) rfl)
  c_BadRow := He.ga K "BadRow"
  m_BadRow := He.glo_ok X G (c.d.fact 17 (f := .glo "BadRow") rfl)
  x_BadRow := xclsB_ok (c.e 6 (f := fun K => xclsB K (He.ga K "ShedError") (He.ga K "BadRow")) rfl)
  c_Lone := He.ga K "Lone"
  m_Lone := He.glo_ok X G (c.d.fact 18 (f := .glo "Lone") rfl)
  x_Lone := xclsB_ok (c.e 7 (f := fun K => xclsB K (He.ga K "ShedError") (He.ga K "Lone")) rfl)
  c_NoPlace := He.ga K "NoPlace"
  m_NoPlace := He.glo_ok X G (c.d.fact 19 (f := .glo "NoPlace") rfl)
  x_NoPlace := xclsB_ok (c.e 8 (f := fun K => xclsB K (He.ga K "ShedError") (He.ga K "NoPlace")) rfl)
  c_BadItem := He.ga K "BadItem"
  m_BadItem := He.glo_ok X G (c.d.fact 20 (f := .glo "BadItem") rfl)
  x_BadItem := xclsB_ok (c.e 9 (f := fun K => xclsB K (He.ga K "ShedError") (He.ga K "BadItem")) rfl)
  c_BadKind := He.ga K "BadKind"
  m_BadKind := He.glo_ok X G (c.d.fact 21 (f := .glo "BadKind") rfl)
  x_BadKind := xclsB_ok (c.e 10 (f := fun K => xclsB K (He.ga K "ShedError") (He.ga K "BadKind")) rfl)
  c_BadName := He.ga K "BadName"
  m_BadName := He.glo_ok X G (c.d.fact 22 (f := .glo "BadName") rfl)
  x_BadName := xclsB_ok (c.e 11 (f := fun K => xclsB K (He.ga K "ShedError") (He.ga K "BadName")) rfl)
  c_BadSize := He.ga K "BadSize"
  m_BadSize := He.glo_ok X G (c.d.fact 23 (f := .glo "BadSize") rfl)
  x_BadSize := xclsB_ok (c.e 12 (f := fun K => xclsB K (He.ga K "ShedError") (He.ga K "BadSize")) rfl)
  c_BadValues := He.ga K "BadValues"
  m_BadValues := He.glo_ok X G (c.d.fact 24 (f := .glo "BadValues") rfl)
  x_BadValues := xclsB_ok (c.e 13 (f := fun K => xclsB K (He.ga K "ShedError") (He.ga K "BadValues")) rfl)
  c_BadStatement := He.ga K "BadStatement"
  m_BadStatement := He.glo_ok X G (c.d.fact 25 (f := .glo "BadStatement") rfl)
  x_BadStatement := xclsB_ok (c.e 14 (f := fun K => xclsB K (He.ga K "ShedError") (He.ga K "BadStatement")) rfl)
  c_BadText := He.ga K "BadText"
  m_BadText := He.glo_ok X G (c.d.fact 26 (f := .glo "BadText") rfl)
  x_BadText := xclsB_ok (c.e 15 (f := fun K => xclsB K (He.ga K "ShedError") (He.ga K "BadText")) rfl)
  c_BadCall := He.ga K "BadCall"
  m_BadCall := He.glo_ok X G (c.d.fact 27 (f := .glo "BadCall") rfl)
  x_BadCall := xclsB_ok (c.e 16 (f := fun K => xclsB K (He.ga K "ShedError") (He.ga K "BadCall")) rfl)
  c_BadWord := He.ga K "BadWord"
  m_BadWord := He.glo_ok X G (c.d.fact 28 (f := .glo "BadWord") rfl)
  x_BadWord := xclsB_ok (c.e 17 (f := fun K => xclsB K (He.ga K "ShedError") (He.ga K "BadWord")) rfl)
  c_BadValue := He.ga K "BadValue"
  m_BadValue := He.glo_ok X G (c.d.fact 29 (f := .glo "BadValue") rfl)
  x_BadValue := xclsB_ok (c.e 18 (f := fun K => xclsB K (He.ga K "ShedError") (He.ga K "BadValue")) rfl)
  c_BadScript := He.ga K "BadScript"
  m_BadScript := He.glo_ok X G (c.d.fact 30 (f := .glo "BadScript") rfl)
  x_BadScript := xclsB_ok (c.e 19 (f := fun K => xclsB K (He.ga K "ShedError") (He.ga K "BadScript")) rfl)
  c_BadAspect := He.ga K "BadAspect"
  m_BadAspect := He.glo_ok X G (c.d.fact 31 (f := .glo "BadAspect") rfl)
  x_BadAspect := xclsB_ok (c.e 20 (f := fun K => xclsB K (He.ga K "ShedError") (He.ga K "BadAspect")) rfl)
  c_BadWhere := He.ga K "BadWhere"
  m_BadWhere := He.glo_ok X G (c.d.fact 32 (f := .glo "BadWhere") rfl)
  x_BadWhere := xclsB_ok (c.e 21 (f := fun K => xclsB K (He.ga K "ShedError") (He.ga K "BadWhere")) rfl)
  c_BadRelation := He.ga K "BadRelation"
  m_BadRelation := He.glo_ok X G (c.d.fact 33 (f := .glo "BadRelation") rfl)
  x_BadRelation := xclsB_ok (c.e 22 (f := fun K => xclsB K (He.ga K "ShedError") (He.ga K "BadRelation")) rfl)
  c_NoNumber := He.ga K "NoNumber"
  m_NoNumber := He.glo_ok X G (c.d.fact 34 (f := .glo "NoNumber") rfl)
  x_NoNumber := xclsB_ok (c.e 23 (f := fun K => xclsB K (He.ga K "ShedError") (He.ga K "NoNumber")) rfl)
  c_InTheWay := He.ga K "InTheWay"
  m_InTheWay := He.glo_ok X G (c.d.fact 35 (f := .glo "InTheWay") rfl)
  x_InTheWay := xclsB_ok (c.e 24 (f := fun K => xclsB K (He.ga K "ShedError") (He.ga K "InTheWay")) rfl)
  c_BadPlan := He.ga K "BadPlan"
  m_BadPlan := He.glo_ok X G (c.d.fact 36 (f := .glo "BadPlan") rfl)
  x_BadPlan := xclsB_ok (c.e 25 (f := fun K => xclsB K (He.ga K "ShedError") (He.ga K "BadPlan")) rfl)
  c_NoVersion := He.ga K "NoVersion"
  m_NoVersion := He.glo_ok X G (c.d.fact 37 (f := .glo "NoVersion") rfl)
  x_NoVersion := xclsB_ok (c.e 26 (f := fun K => xclsB K (He.ga K "ShedError") (He.ga K "NoVersion")) rfl)
  c_NoBranch := He.ga K "NoBranch"
  m_NoBranch := He.glo_ok X G (c.d.fact 38 (f := .glo "NoBranch") rfl)
  x_NoBranch := xclsB_ok (c.e 27 (f := fun K => xclsB K (He.ga K "ShedError") (He.ga K "NoBranch")) rfl)
  c_UsedName := He.ga K "UsedName"
  m_UsedName := He.glo_ok X G (c.d.fact 39 (f := .glo "UsedName") rfl)
  x_UsedName := xclsB_ok (c.e 28 (f := fun K => xclsB K (He.ga K "ShedError") (He.ga K "UsedName")) rfl)
  c_NoDeed := He.ga K "NoDeed"
  m_NoDeed := He.glo_ok X G (c.d.fact 40 (f := .glo "NoDeed") rfl)
  x_NoDeed := xclsB_ok (c.e 29 (f := fun K => xclsB K (He.ga K "ShedError") (He.ga K "NoDeed")) rfl)
  c_BadDeed := He.ga K "BadDeed"
  m_BadDeed := He.glo_ok X G (c.d.fact 41 (f := .glo "BadDeed") rfl)
  x_BadDeed := xclsB_ok (c.e 30 (f := fun K => xclsB K (He.ga K "ShedError") (He.ga K "BadDeed")) rfl)
  c_BadRule := He.ga K "BadRule"
  m_BadRule := He.glo_ok X G (c.d.fact 42 (f := .glo "BadRule") rfl)
  x_BadRule := xclsB_ok (c.e 31 (f := fun K => xclsB K (He.ga K "ShedError") (He.ga K "BadRule")) rfl)
  c_Ring := He.ga K "Ring"
  m_Ring := He.glo_ok X G (c.d.fact 43 (f := .glo "Ring") rfl)
  x_Ring := xclsB_ok (c.e 32 (f := fun K => xclsB K (He.ga K "ShedError") (He.ga K "Ring")) rfl)
  c_NoRule := He.ga K "NoRule"
  m_NoRule := He.glo_ok X G (c.d.fact 44 (f := .glo "NoRule") rfl)
  x_NoRule := xclsB_ok (c.e 33 (f := fun K => xclsB K (He.ga K "ShedError") (He.ga K "NoRule")) rfl)
  c_BadRank := He.ga K "BadRank"
  m_BadRank := He.glo_ok X G (c.d.fact 45 (f := .glo "BadRank") rfl)
  x_BadRank := xclsB_ok (c.e 34 (f := fun K => xclsB K (He.ga K "ShedError") (He.ga K "BadRank")) rfl)
  c_UsedLabel := He.ga K "UsedLabel"
  m_UsedLabel := He.glo_ok X G (c.d.fact 46 (f := .glo "UsedLabel") rfl)
  x_UsedLabel := xclsB_ok (c.e 35 (f := fun K => xclsB K (He.ga K "ShedError") (He.ga K "UsedLabel")) rfl)
  c_NoLabel := He.ga K "NoLabel"
  m_NoLabel := He.glo_ok X G (c.d.fact 47 (f := .glo "NoLabel") rfl)
  x_NoLabel := xclsB_ok (c.e 36 (f := fun K => xclsB K (He.ga K "ShedError") (He.ga K "NoLabel")) rfl)
  c_BadLog := He.ga K "BadLog"
  m_BadLog := He.glo_ok X G (c.d.fact 48 (f := .glo "BadLog") rfl)
  x_BadLog := xclsB_ok (c.e 37 (f := fun K => xclsB K (He.ga K "ShedError") (He.ga K "BadLog")) rfl)
  c_NotExact := He.ga K "NotExact"
  m_NotExact := He.glo_ok X G (c.d.fact 49 (f := .glo "NotExact") rfl)
  x_NotExact := xclsB_ok (c.e 38 (f := fun K => xclsB K (He.ga K "ShedError") (He.ga K "NotExact")) rfl)
  c_OtherLetters := He.ga K "OtherLetters"
  m_OtherLetters := He.glo_ok X G (c.d.fact 50 (f := .glo "OtherLetters") rfl)
  x_OtherLetters := xclsB_ok (c.e 39 (f := fun K => xclsB K (He.ga K "ShedError") (He.ga K "OtherLetters")) rfl)
  c_BrokenRule := He.ga K "BrokenRule"
  m_BrokenRule := He.glo_ok X G (c.d.fact 51 (f := .glo "BrokenRule") rfl)
  x_BrokenRule := xclsB_ok (c.e 40 (f := fun K => xclsB K (He.ga K "ShedError") (He.ga K "BrokenRule")) rfl)
  e0_NotExact := (c.e 41 (f := fun K => PySem.W.excIn K (He.ga K "NotExact") [.type "ValueError", .type "Exception", .type "BaseException", .type "object"] "ValueError.__new__") rfl)
  e0_OtherLetters := (c.e 42 (f := fun K => PySem.W.excIn K (He.ga K "OtherLetters") [.type "ValueError", .type "Exception", .type "BaseException", .type "object"] "ValueError.__new__") rfl)
  e0_BrokenRule := (c.e 43 (f := fun K => PySem.W.excIn K (He.ga K "BrokenRule") [.type "ValueError", .type "Exception", .type "BaseException", .type "object"] "ValueError.__new__") rfl)
  a_x_BadLetters := He.ma K (He.ga K "BadLetters") "__init__"
  fd_x_BadLetters := (IXe_BadLetters X G c).choose
  i_BadLetters := IX_BadLetters X G c
  nf_BadLetters_letters := of_decide_eq_true (c.e 46 (f := fun K => decide (PySem.W.findIn K (.ref (He.ga K "BadLetters")) "letters" = some none)) rfl)
  a_x_TooMany := He.ma K (He.ga K "TooMany") "__init__"
  fd_x_TooMany := (IXe_TooMany X G c).choose
  i_TooMany := IX_TooMany X G c
  nf_TooMany_what := of_decide_eq_true (c.e 48 (f := fun K => decide (PySem.W.findIn K (.ref (He.ga K "TooMany")) "what" = some none)) rfl)
  nf_TooMany_many := of_decide_eq_true (c.e 49 (f := fun K => decide (PySem.W.findIn K (.ref (He.ga K "TooMany")) "many" = some none)) rfl)
  nf_TooMany_most := of_decide_eq_true (c.e 50 (f := fun K => decide (PySem.W.findIn K (.ref (He.ga K "TooMany")) "most" = some none)) rfl)
  a_x_BadRow := He.ma K (He.ga K "BadRow") "__init__"
  fd_x_BadRow := (IXe_BadRow X G c).choose
  i_BadRow := IX_BadRow X G c
  nf_BadRow_number := of_decide_eq_true (c.e 52 (f := fun K => decide (PySem.W.findIn K (.ref (He.ga K "BadRow")) "number" = some none)) rfl)
  a_x_Lone := He.ma K (He.ga K "Lone") "__init__"
  fd_x_Lone := (IXe_Lone X G c).choose
  i_Lone := IX_Lone X G c
  nf_Lone_place := of_decide_eq_true (c.e 54 (f := fun K => decide (PySem.W.findIn K (.ref (He.ga K "Lone")) "place" = some none)) rfl)
  a_x_NoPlace := He.ma K (He.ga K "NoPlace") "__init__"
  fd_x_NoPlace := (IXe_NoPlace X G c).choose
  i_NoPlace := IX_NoPlace X G c
  nf_NoPlace_place := of_decide_eq_true (c.e 56 (f := fun K => decide (PySem.W.findIn K (.ref (He.ga K "NoPlace")) "place" = some none)) rfl)
  a_x_BadItem := He.ma K (He.ga K "BadItem") "__init__"
  fd_x_BadItem := (IXe_BadItem X G c).choose
  i_BadItem := IX_BadItem X G c
  nf_BadItem_number := of_decide_eq_true (c.e 58 (f := fun K => decide (PySem.W.findIn K (.ref (He.ga K "BadItem")) "number" = some none)) rfl)
  a_x_BadKind := He.ma K (He.ga K "BadKind") "__init__"
  fd_x_BadKind := (IXe_BadKind X G c).choose
  i_BadKind := IX_BadKind X G c
  nf_BadKind_side := of_decide_eq_true (c.e 60 (f := fun K => decide (PySem.W.findIn K (.ref (He.ga K "BadKind")) "side" = some none)) rfl)
  nf_BadKind_number := of_decide_eq_true (c.e 61 (f := fun K => decide (PySem.W.findIn K (.ref (He.ga K "BadKind")) "number" = some none)) rfl)
  a_x_BadName := He.ma K (He.ga K "BadName") "__init__"
  fd_x_BadName := (IXe_BadName X G c).choose
  i_BadName := IX_BadName X G c
  nf_BadName_name := of_decide_eq_true (c.e 63 (f := fun K => decide (PySem.W.findIn K (.ref (He.ga K "BadName")) "name" = some none)) rfl)
  a_x_BadSize := He.ma K (He.ga K "BadSize") "__init__"
  fd_x_BadSize := (IXe_BadSize X G c).choose
  i_BadSize := IX_BadSize X G c
  nf_BadSize_size := of_decide_eq_true (c.e 65 (f := fun K => decide (PySem.W.findIn K (.ref (He.ga K "BadSize")) "size" = some none)) rfl)
  a_x_BadValues := He.ma K (He.ga K "BadValues") "__init__"
  fd_x_BadValues := (IXe_BadValues X G c).choose
  i_BadValues := IX_BadValues X G c
  nf_BadValues_index := of_decide_eq_true (c.e 67 (f := fun K => decide (PySem.W.findIn K (.ref (He.ga K "BadValues")) "index" = some none)) rfl)
  a_x_BadStatement := He.ma K (He.ga K "BadStatement") "__init__"
  fd_x_BadStatement := (IXe_BadStatement X G c).choose
  i_BadStatement := IX_BadStatement X G c
  nf_BadStatement_block := of_decide_eq_true (c.e 69 (f := fun K => decide (PySem.W.findIn K (.ref (He.ga K "BadStatement")) "block" = some none)) rfl)
  nf_BadStatement_number := of_decide_eq_true (c.e 70 (f := fun K => decide (PySem.W.findIn K (.ref (He.ga K "BadStatement")) "number" = some none)) rfl)
  a_x_BadText := He.ma K (He.ga K "BadText") "__init__"
  fd_x_BadText := (IXe_BadText X G c).choose
  i_BadText := IX_BadText X G c
  nf_BadText_line := of_decide_eq_true (c.e 72 (f := fun K => decide (PySem.W.findIn K (.ref (He.ga K "BadText")) "line" = some none)) rfl)
  a_x_BadCall := He.ma K (He.ga K "BadCall") "__init__"
  fd_x_BadCall := (IXe_BadCall X G c).choose
  i_BadCall := IX_BadCall X G c
  nf_BadCall_number := of_decide_eq_true (c.e 74 (f := fun K => decide (PySem.W.findIn K (.ref (He.ga K "BadCall")) "number" = some none)) rfl)
  a_x_BadWord := He.ma K (He.ga K "BadWord") "__init__"
  fd_x_BadWord := (IXe_BadWord X G c).choose
  i_BadWord := IX_BadWord X G c
  nf_BadWord_number := of_decide_eq_true (c.e 76 (f := fun K => decide (PySem.W.findIn K (.ref (He.ga K "BadWord")) "number" = some none)) rfl)
  a_x_BadValue := He.ma K (He.ga K "BadValue") "__init__"
  fd_x_BadValue := (IXe_BadValue X G c).choose
  i_BadValue := IX_BadValue X G c
  nf_BadValue_number := of_decide_eq_true (c.e 78 (f := fun K => decide (PySem.W.findIn K (.ref (He.ga K "BadValue")) "number" = some none)) rfl)
  a_x_BadScript := He.ma K (He.ga K "BadScript") "__init__"
  fd_x_BadScript := (IXe_BadScript X G c).choose
  i_BadScript := IX_BadScript X G c
  nf_BadScript_script := of_decide_eq_true (c.e 80 (f := fun K => decide (PySem.W.findIn K (.ref (He.ga K "BadScript")) "script" = some none)) rfl)
  nf_BadScript_index := of_decide_eq_true (c.e 81 (f := fun K => decide (PySem.W.findIn K (.ref (He.ga K "BadScript")) "index" = some none)) rfl)
  a_x_BadAspect := He.ma K (He.ga K "BadAspect") "__init__"
  fd_x_BadAspect := (IXe_BadAspect X G c).choose
  i_BadAspect := IX_BadAspect X G c
  nf_BadAspect_index := of_decide_eq_true (c.e 83 (f := fun K => decide (PySem.W.findIn K (.ref (He.ga K "BadAspect")) "index" = some none)) rfl)
  a_x_BadWhere := He.ma K (He.ga K "BadWhere") "__init__"
  fd_x_BadWhere := (IXe_BadWhere X G c).choose
  i_BadWhere := IX_BadWhere X G c
  nf_BadWhere_number := of_decide_eq_true (c.e 85 (f := fun K => decide (PySem.W.findIn K (.ref (He.ga K "BadWhere")) "number" = some none)) rfl)
  a_x_BadRelation := He.ma K (He.ga K "BadRelation") "__init__"
  fd_x_BadRelation := (IXe_BadRelation X G c).choose
  i_BadRelation := IX_BadRelation X G c
  nf_BadRelation_relation := of_decide_eq_true (c.e 87 (f := fun K => decide (PySem.W.findIn K (.ref (He.ga K "BadRelation")) "relation" = some none)) rfl)
  a_x_NoNumber := He.ma K (He.ga K "NoNumber") "__init__"
  fd_x_NoNumber := (IXe_NoNumber X G c).choose
  i_NoNumber := IX_NoNumber X G c
  nf_NoNumber_number := of_decide_eq_true (c.e 89 (f := fun K => decide (PySem.W.findIn K (.ref (He.ga K "NoNumber")) "number" = some none)) rfl)
  a_x_InTheWay := He.ma K (He.ga K "InTheWay") "__init__"
  fd_x_InTheWay := (IXe_InTheWay X G c).choose
  i_InTheWay := IX_InTheWay X G c
  nf_InTheWay_number := of_decide_eq_true (c.e 91 (f := fun K => decide (PySem.W.findIn K (.ref (He.ga K "InTheWay")) "number" = some none)) rfl)
  a_x_BadPlan := He.ma K (He.ga K "BadPlan") "__init__"
  fd_x_BadPlan := (IXe_BadPlan X G c).choose
  i_BadPlan := IX_BadPlan X G c
  nf_BadPlan_field := of_decide_eq_true (c.e 93 (f := fun K => decide (PySem.W.findIn K (.ref (He.ga K "BadPlan")) "field" = some none)) rfl)
  a_x_NoVersion := He.ma K (He.ga K "NoVersion") "__init__"
  fd_x_NoVersion := (IXe_NoVersion X G c).choose
  i_NoVersion := IX_NoVersion X G c
  nf_NoVersion_number := of_decide_eq_true (c.e 95 (f := fun K => decide (PySem.W.findIn K (.ref (He.ga K "NoVersion")) "number" = some none)) rfl)
  a_x_NoBranch := He.ma K (He.ga K "NoBranch") "__init__"
  fd_x_NoBranch := (IXe_NoBranch X G c).choose
  i_NoBranch := IX_NoBranch X G c
  nf_NoBranch_name := of_decide_eq_true (c.e 97 (f := fun K => decide (PySem.W.findIn K (.ref (He.ga K "NoBranch")) "name" = some none)) rfl)
  a_x_UsedName := He.ma K (He.ga K "UsedName") "__init__"
  fd_x_UsedName := (IXe_UsedName X G c).choose
  i_UsedName := IX_UsedName X G c
  nf_UsedName_name := of_decide_eq_true (c.e 99 (f := fun K => decide (PySem.W.findIn K (.ref (He.ga K "UsedName")) "name" = some none)) rfl)
  a_x_NoDeed := He.ma K (He.ga K "NoDeed") "__init__"
  fd_x_NoDeed := (IXe_NoDeed X G c).choose
  i_NoDeed := IX_NoDeed X G c
  nf_NoDeed_name := of_decide_eq_true (c.e 101 (f := fun K => decide (PySem.W.findIn K (.ref (He.ga K "NoDeed")) "name" = some none)) rfl)
  a_x_BadDeed := He.ma K (He.ga K "BadDeed") "__init__"
  fd_x_BadDeed := (IXe_BadDeed X G c).choose
  i_BadDeed := IX_BadDeed X G c
  nf_BadDeed_name := of_decide_eq_true (c.e 103 (f := fun K => decide (PySem.W.findIn K (.ref (He.ga K "BadDeed")) "name" = some none)) rfl)
  a_x_BadRule := He.ma K (He.ga K "BadRule") "__init__"
  fd_x_BadRule := (IXe_BadRule X G c).choose
  i_BadRule := IX_BadRule X G c
  nf_BadRule_name := of_decide_eq_true (c.e 105 (f := fun K => decide (PySem.W.findIn K (.ref (He.ga K "BadRule")) "name" = some none)) rfl)
  a_x_Ring := He.ma K (He.ga K "Ring") "__init__"
  fd_x_Ring := (IXe_Ring X G c).choose
  i_Ring := IX_Ring X G c
  nf_Ring_name := of_decide_eq_true (c.e 107 (f := fun K => decide (PySem.W.findIn K (.ref (He.ga K "Ring")) "name" = some none)) rfl)
  a_x_NoRule := He.ma K (He.ga K "NoRule") "__init__"
  fd_x_NoRule := (IXe_NoRule X G c).choose
  i_NoRule := IX_NoRule X G c
  nf_NoRule_root := of_decide_eq_true (c.e 109 (f := fun K => decide (PySem.W.findIn K (.ref (He.ga K "NoRule")) "root" = some none)) rfl)
  a_x_BadRank := He.ma K (He.ga K "BadRank") "__init__"
  fd_x_BadRank := (IXe_BadRank X G c).choose
  i_BadRank := IX_BadRank X G c
  nf_BadRank_number := of_decide_eq_true (c.e 111 (f := fun K => decide (PySem.W.findIn K (.ref (He.ga K "BadRank")) "number" = some none)) rfl)
  a_x_UsedLabel := He.ma K (He.ga K "UsedLabel") "__init__"
  fd_x_UsedLabel := (IXe_UsedLabel X G c).choose
  i_UsedLabel := IX_UsedLabel X G c
  nf_UsedLabel_label := of_decide_eq_true (c.e 113 (f := fun K => decide (PySem.W.findIn K (.ref (He.ga K "UsedLabel")) "label" = some none)) rfl)
  a_x_NoLabel := He.ma K (He.ga K "NoLabel") "__init__"
  fd_x_NoLabel := (IXe_NoLabel X G c).choose
  i_NoLabel := IX_NoLabel X G c
  nf_NoLabel_label := of_decide_eq_true (c.e 115 (f := fun K => decide (PySem.W.findIn K (.ref (He.ga K "NoLabel")) "label" = some none)) rfl)
  a_x_BadLog := He.ma K (He.ga K "BadLog") "__init__"
  fd_x_BadLog := (IXe_BadLog X G c).choose
  i_BadLog := IX_BadLog X G c
  nf_BadLog_index := of_decide_eq_true (c.e 117 (f := fun K => decide (PySem.W.findIn K (.ref (He.ga K "BadLog")) "index" = some none)) rfl)
  kb_BadRow_1 := kbn_x (IX_BadRow X G c) fun cc kV doc pm an cda ct us ws h1 h2 => match us, ws, h1, h2 with | [_, _], [], _, _ => rfl
  kb_BadRow_0_number := kbn_x (IX_BadRow X G c) fun cc kV doc pm an cda ct us ws h1 h2 => match us, ws, h1, h2 with | [_], [_], _, _ => rfl
  kb_BadItem_1 := kbn_x (IX_BadItem X G c) fun cc kV doc pm an cda ct us ws h1 h2 => match us, ws, h1, h2 with | [_, _], [], _, _ => rfl
  kb_BadItem_0_number := kbn_x (IX_BadItem X G c) fun cc kV doc pm an cda ct us ws h1 h2 => match us, ws, h1, h2 with | [_], [_], _, _ => rfl
  kb_BadCall_1 := kbn_x (IX_BadCall X G c) fun cc kV doc pm an cda ct us ws h1 h2 => match us, ws, h1, h2 with | [_, _], [], _, _ => rfl
  kb_BadCall_0_number := kbn_x (IX_BadCall X G c) fun cc kV doc pm an cda ct us ws h1 h2 => match us, ws, h1, h2 with | [_], [_], _, _ => rfl
  kb_BadWord_1 := kbn_x (IX_BadWord X G c) fun cc kV doc pm an cda ct us ws h1 h2 => match us, ws, h1, h2 with | [_, _], [], _, _ => rfl
  kb_BadWord_0_number := kbn_x (IX_BadWord X G c) fun cc kV doc pm an cda ct us ws h1 h2 => match us, ws, h1, h2 with | [_], [_], _, _ => rfl
  kb_BadValue_1 := kbn_x (IX_BadValue X G c) fun cc kV doc pm an cda ct us ws h1 h2 => match us, ws, h1, h2 with | [_, _], [], _, _ => rfl
  kb_BadValue_0_number := kbn_x (IX_BadValue X G c) fun cc kV doc pm an cda ct us ws h1 h2 => match us, ws, h1, h2 with | [_], [_], _, _ => rfl
  kb_BadWhere_1 := kbn_x (IX_BadWhere X G c) fun cc kV doc pm an cda ct us ws h1 h2 => match us, ws, h1, h2 with | [_, _], [], _, _ => rfl
  kb_BadWhere_0_number := kbn_x (IX_BadWhere X G c) fun cc kV doc pm an cda ct us ws h1 h2 => match us, ws, h1, h2 with | [_], [_], _, _ => rfl
  kb_NoNumber_1 := kbn_x (IX_NoNumber X G c) fun cc kV doc pm an cda ct us ws h1 h2 => match us, ws, h1, h2 with | [_, _], [], _, _ => rfl
  kb_NoNumber_0_number := kbn_x (IX_NoNumber X G c) fun cc kV doc pm an cda ct us ws h1 h2 => match us, ws, h1, h2 with | [_], [_], _, _ => rfl
  kb_InTheWay_1 := kbn_x (IX_InTheWay X G c) fun cc kV doc pm an cda ct us ws h1 h2 => match us, ws, h1, h2 with | [_, _], [], _, _ => rfl
  kb_InTheWay_0_number := kbn_x (IX_InTheWay X G c) fun cc kV doc pm an cda ct us ws h1 h2 => match us, ws, h1, h2 with | [_], [_], _, _ => rfl
  kb_NoVersion_1 := kbn_x (IX_NoVersion X G c) fun cc kV doc pm an cda ct us ws h1 h2 => match us, ws, h1, h2 with | [_, _], [], _, _ => rfl
  kb_NoVersion_0_number := kbn_x (IX_NoVersion X G c) fun cc kV doc pm an cda ct us ws h1 h2 => match us, ws, h1, h2 with | [_], [_], _, _ => rfl
  kb_BadRank_1 := kbn_x (IX_BadRank X G c) fun cc kV doc pm an cda ct us ws h1 h2 => match us, ws, h1, h2 with | [_, _], [], _, _ => rfl
  kb_BadRank_0_number := kbn_x (IX_BadRank X G c) fun cc kV doc pm an cda ct us ws h1 h2 => match us, ws, h1, h2 with | [_], [_], _, _ => rfl
  kb_BadName_1 := kbn_x (IX_BadName X G c) fun cc kV doc pm an cda ct us ws h1 h2 => match us, ws, h1, h2 with | [_, _], [], _, _ => rfl
  kb_BadName_0_name := kbn_x (IX_BadName X G c) fun cc kV doc pm an cda ct us ws h1 h2 => match us, ws, h1, h2 with | [_], [_], _, _ => rfl
  kb_NoBranch_1 := kbn_x (IX_NoBranch X G c) fun cc kV doc pm an cda ct us ws h1 h2 => match us, ws, h1, h2 with | [_, _], [], _, _ => rfl
  kb_NoBranch_0_name := kbn_x (IX_NoBranch X G c) fun cc kV doc pm an cda ct us ws h1 h2 => match us, ws, h1, h2 with | [_], [_], _, _ => rfl
  kb_UsedName_1 := kbn_x (IX_UsedName X G c) fun cc kV doc pm an cda ct us ws h1 h2 => match us, ws, h1, h2 with | [_, _], [], _, _ => rfl
  kb_UsedName_0_name := kbn_x (IX_UsedName X G c) fun cc kV doc pm an cda ct us ws h1 h2 => match us, ws, h1, h2 with | [_], [_], _, _ => rfl
  kb_NoDeed_1 := kbn_x (IX_NoDeed X G c) fun cc kV doc pm an cda ct us ws h1 h2 => match us, ws, h1, h2 with | [_, _], [], _, _ => rfl
  kb_NoDeed_0_name := kbn_x (IX_NoDeed X G c) fun cc kV doc pm an cda ct us ws h1 h2 => match us, ws, h1, h2 with | [_], [_], _, _ => rfl
  kb_BadDeed_1 := kbn_x (IX_BadDeed X G c) fun cc kV doc pm an cda ct us ws h1 h2 => match us, ws, h1, h2 with | [_, _], [], _, _ => rfl
  kb_BadDeed_0_name := kbn_x (IX_BadDeed X G c) fun cc kV doc pm an cda ct us ws h1 h2 => match us, ws, h1, h2 with | [_], [_], _, _ => rfl
  kb_BadRule_1 := kbn_x (IX_BadRule X G c) fun cc kV doc pm an cda ct us ws h1 h2 => match us, ws, h1, h2 with | [_, _], [], _, _ => rfl
  kb_BadRule_0_name := kbn_x (IX_BadRule X G c) fun cc kV doc pm an cda ct us ws h1 h2 => match us, ws, h1, h2 with | [_], [_], _, _ => rfl
  kb_Ring_1 := kbn_x (IX_Ring X G c) fun cc kV doc pm an cda ct us ws h1 h2 => match us, ws, h1, h2 with | [_, _], [], _, _ => rfl
  kb_Ring_0_name := kbn_x (IX_Ring X G c) fun cc kV doc pm an cda ct us ws h1 h2 => match us, ws, h1, h2 with | [_], [_], _, _ => rfl
  kb_BadValues_1 := kbn_x (IX_BadValues X G c) fun cc kV doc pm an cda ct us ws h1 h2 => match us, ws, h1, h2 with | [_, _], [], _, _ => rfl
  kb_BadValues_0_index := kbn_x (IX_BadValues X G c) fun cc kV doc pm an cda ct us ws h1 h2 => match us, ws, h1, h2 with | [_], [_], _, _ => rfl
  kb_BadAspect_1 := kbn_x (IX_BadAspect X G c) fun cc kV doc pm an cda ct us ws h1 h2 => match us, ws, h1, h2 with | [_, _], [], _, _ => rfl
  kb_BadAspect_0_index := kbn_x (IX_BadAspect X G c) fun cc kV doc pm an cda ct us ws h1 h2 => match us, ws, h1, h2 with | [_], [_], _, _ => rfl
  kb_BadLog_1 := kbn_x (IX_BadLog X G c) fun cc kV doc pm an cda ct us ws h1 h2 => match us, ws, h1, h2 with | [_, _], [], _, _ => rfl
  kb_BadLog_0_index := kbn_x (IX_BadLog X G c) fun cc kV doc pm an cda ct us ws h1 h2 => match us, ws, h1, h2 with | [_], [_], _, _ => rfl
  kb_Lone_1 := kbn_x (IX_Lone X G c) fun cc kV doc pm an cda ct us ws h1 h2 => match us, ws, h1, h2 with | [_, _], [], _, _ => rfl
  kb_Lone_0_place := kbn_x (IX_Lone X G c) fun cc kV doc pm an cda ct us ws h1 h2 => match us, ws, h1, h2 with | [_], [_], _, _ => rfl
  kb_NoPlace_1 := kbn_x (IX_NoPlace X G c) fun cc kV doc pm an cda ct us ws h1 h2 => match us, ws, h1, h2 with | [_, _], [], _, _ => rfl
  kb_NoPlace_0_place := kbn_x (IX_NoPlace X G c) fun cc kV doc pm an cda ct us ws h1 h2 => match us, ws, h1, h2 with | [_], [_], _, _ => rfl
  kb_UsedLabel_1 := kbn_x (IX_UsedLabel X G c) fun cc kV doc pm an cda ct us ws h1 h2 => match us, ws, h1, h2 with | [_, _], [], _, _ => rfl
  kb_UsedLabel_0_label := kbn_x (IX_UsedLabel X G c) fun cc kV doc pm an cda ct us ws h1 h2 => match us, ws, h1, h2 with | [_], [_], _, _ => rfl
  kb_NoLabel_1 := kbn_x (IX_NoLabel X G c) fun cc kV doc pm an cda ct us ws h1 h2 => match us, ws, h1, h2 with | [_, _], [], _, _ => rfl
  kb_NoLabel_0_label := kbn_x (IX_NoLabel X G c) fun cc kV doc pm an cda ct us ws h1 h2 => match us, ws, h1, h2 with | [_], [_], _, _ => rfl
  kb_BadLetters_1 := kbn_x (IX_BadLetters X G c) fun cc kV doc pm an cda ct us ws h1 h2 => match us, ws, h1, h2 with | [_, _], [], _, _ => rfl
  kb_BadLetters_0_letters := kbn_x (IX_BadLetters X G c) fun cc kV doc pm an cda ct us ws h1 h2 => match us, ws, h1, h2 with | [_], [_], _, _ => rfl
  kb_BadSize_1 := kbn_x (IX_BadSize X G c) fun cc kV doc pm an cda ct us ws h1 h2 => match us, ws, h1, h2 with | [_, _], [], _, _ => rfl
  kb_BadSize_0_size := kbn_x (IX_BadSize X G c) fun cc kV doc pm an cda ct us ws h1 h2 => match us, ws, h1, h2 with | [_], [_], _, _ => rfl
  kb_BadText_1 := kbn_x (IX_BadText X G c) fun cc kV doc pm an cda ct us ws h1 h2 => match us, ws, h1, h2 with | [_, _], [], _, _ => rfl
  kb_BadText_0_line := kbn_x (IX_BadText X G c) fun cc kV doc pm an cda ct us ws h1 h2 => match us, ws, h1, h2 with | [_], [_], _, _ => rfl
  kb_BadRelation_1 := kbn_x (IX_BadRelation X G c) fun cc kV doc pm an cda ct us ws h1 h2 => match us, ws, h1, h2 with | [_, _], [], _, _ => rfl
  kb_BadRelation_0_relation := kbn_x (IX_BadRelation X G c) fun cc kV doc pm an cda ct us ws h1 h2 => match us, ws, h1, h2 with | [_], [_], _, _ => rfl
  kb_BadPlan_1 := kbn_x (IX_BadPlan X G c) fun cc kV doc pm an cda ct us ws h1 h2 => match us, ws, h1, h2 with | [_, _], [], _, _ => rfl
  kb_BadPlan_0_field := kbn_x (IX_BadPlan X G c) fun cc kV doc pm an cda ct us ws h1 h2 => match us, ws, h1, h2 with | [_], [_], _, _ => rfl
  kb_NoRule_1 := kbn_x (IX_NoRule X G c) fun cc kV doc pm an cda ct us ws h1 h2 => match us, ws, h1, h2 with | [_, _], [], _, _ => rfl
  kb_NoRule_0_root := kbn_x (IX_NoRule X G c) fun cc kV doc pm an cda ct us ws h1 h2 => match us, ws, h1, h2 with | [_], [_], _, _ => rfl
  kb_BadKind_2 := kbn_x (IX_BadKind X G c) fun cc kV doc pm an cda ct us ws h1 h2 => match us, ws, h1, h2 with | [_, _, _], [], _, _ => rfl
  kb_BadKind_0_number_side := kbn_x (IX_BadKind X G c) fun cc kV doc pm an cda ct us ws h1 h2 => match us, ws, h1, h2 with | [_], [_, _], _, _ => rfl
  kb_BadStatement_2 := kbn_x (IX_BadStatement X G c) fun cc kV doc pm an cda ct us ws h1 h2 => match us, ws, h1, h2 with | [_, _, _], [], _, _ => rfl
  kb_BadStatement_0_number_block := kbn_x (IX_BadStatement X G c) fun cc kV doc pm an cda ct us ws h1 h2 => match us, ws, h1, h2 with | [_], [_, _], _, _ => rfl
  kb_BadScript_2 := kbn_x (IX_BadScript X G c) fun cc kV doc pm an cda ct us ws h1 h2 => match us, ws, h1, h2 with | [_, _, _], [], _, _ => rfl
  kb_BadScript_1_index := kbn_x (IX_BadScript X G c) fun cc kV doc pm an cda ct us ws h1 h2 => match us, ws, h1, h2 with | [_, _], [_], _, _ => rfl
  kb_TooMany_3 := kbn_x (IX_TooMany X G c) fun cc kV doc pm an cda ct us ws h1 h2 => match us, ws, h1, h2 with | [_, _, _, _], [], _, _ => rfl
  kb_TooMany_0_most_what_many := kbn_x (IX_TooMany X G c) fun cc kV doc pm an cda ct us ws h1 h2 => match us, ws, h1, h2 with | [_], [_, _, _], _, _ => rfl
  xnd := of_decide_eq_true (c.e 118 (f := fun K => decide ([He.ga K "BadLetters", He.ga K "TooMany", He.ga K "BadRow", He.ga K "Lone", He.ga K "NoPlace", He.ga K "BadItem", He.ga K "BadKind", He.ga K "BadName", He.ga K "NotExact", He.ga K "BadSize", He.ga K "BadValues", He.ga K "BadStatement", He.ga K "BadText", He.ga K "BadCall", He.ga K "BadWord", He.ga K "BadValue", He.ga K "BadScript", He.ga K "BadAspect", He.ga K "BadWhere", He.ga K "BadRelation", He.ga K "NoNumber", He.ga K "InTheWay", He.ga K "BadPlan", He.ga K "OtherLetters", He.ga K "NoVersion", He.ga K "NoBranch", He.ga K "UsedName", He.ga K "NoDeed", He.ga K "BadDeed", He.ga K "BrokenRule", He.ga K "BadRule", He.ga K "Ring", He.ga K "NoRule", He.ga K "BadRank", He.ga K "UsedLabel", He.ga K "NoLabel", He.ga K "BadLog", He.ga K "ShedError"].Nodup)) rfl)
  a_l_pen := (He.ga K "_law_pen")
  fd_l_pen := (c.d.def_ 0 (d := ⟨("_law_pen", none), "_law_pen", "_law_pen", defArgs s_l_pen, defBody s_l_pen, defScope s_l_pen, [], []⟩) rfl).choose
  F_l_pen := fun_of (st := s_l_pen) (c.d.def_ 0 (d := ⟨("_law_pen", none), "_law_pen", "_law_pen", defArgs s_l_pen, defBody s_l_pen, defScope s_l_pen, [], []⟩) rfl).choose_spec
  bi_l_pen := (fun_of (st := s_l_pen) (c.d.def_ 0 (d := ⟨("_law_pen", none), "_law_pen", "_law_pen", defArgs s_l_pen, defBody s_l_pen, defScope s_l_pen, [], []⟩) rfl).choose_spec).binds (ps := ["_law_script"]) fun _ _ _ _ _ _ us hl => match us, hl with | [_], _ => rfl
  m_l_pen := He.glo_ok X G (c.d.fact 52 (f := .glo "_law_pen") rfl)
  a_l_draw := (He.ga K "_law_draw")
  fd_l_draw := (c.d.def_ 1 (d := ⟨("_law_draw", none), "_law_draw", "_law_draw", defArgs s_l_draw, defBody s_l_draw, defScope s_l_draw, [], []⟩) rfl).choose
  F_l_draw := fun_of (st := s_l_draw) (c.d.def_ 1 (d := ⟨("_law_draw", none), "_law_draw", "_law_draw", defArgs s_l_draw, defBody s_l_draw, defScope s_l_draw, [], []⟩) rfl).choose_spec
  bi_l_draw := (fun_of (st := s_l_draw) (c.d.def_ 1 (d := ⟨("_law_draw", none), "_law_draw", "_law_draw", defArgs s_l_draw, defBody s_l_draw, defScope s_l_draw, [], []⟩) rfl).choose_spec).binds (ps := ["_law_pen_here", "_law_limit"]) fun _ _ _ _ _ _ us hl => match us, hl with | [_, _], _ => rfl
  m_l_draw := He.glo_ok X G (c.d.fact 53 (f := .glo "_law_draw") rfl)
  a_l_pick := (He.ga K "_law_pick")
  fd_l_pick := (c.d.def_ 2 (d := ⟨("_law_pick", none), "_law_pick", "_law_pick", defArgs s_l_pick, defBody s_l_pick, defScope s_l_pick, [], []⟩) rfl).choose
  F_l_pick := fun_of (st := s_l_pick) (c.d.def_ 2 (d := ⟨("_law_pick", none), "_law_pick", "_law_pick", defArgs s_l_pick, defBody s_l_pick, defScope s_l_pick, [], []⟩) rfl).choose_spec
  bi_l_pick := (fun_of (st := s_l_pick) (c.d.def_ 2 (d := ⟨("_law_pick", none), "_law_pick", "_law_pick", defArgs s_l_pick, defBody s_l_pick, defScope s_l_pick, [], []⟩) rfl).choose_spec).binds (ps := ["_law_pen_here", "_law_some"]) fun _ _ _ _ _ _ us hl => match us, hl with | [_, _], _ => rfl
  m_l_pick := He.glo_ok X G (c.d.fact 54 (f := .glo "_law_pick") rfl)
  a_l_value := (He.ga K "_law_value")
  fd_l_value := (c.d.def_ 3 (d := ⟨("_law_value", none), "_law_value", "_law_value", defArgs s_l_value, defBody s_l_value, defScope s_l_value, [], []⟩) rfl).choose
  F_l_value := fun_of (st := s_l_value) (c.d.def_ 3 (d := ⟨("_law_value", none), "_law_value", "_law_value", defArgs s_l_value, defBody s_l_value, defScope s_l_value, [], []⟩) rfl).choose_spec
  bi_l_value := (fun_of (st := s_l_value) (c.d.def_ 3 (d := ⟨("_law_value", none), "_law_value", "_law_value", defArgs s_l_value, defBody s_l_value, defScope s_l_value, [], []⟩) rfl).choose_spec).binds (ps := ["_law_pen_here"]) fun _ _ _ _ _ _ us hl => match us, hl with | [_], _ => rfl
  m_l_value := He.glo_ok X G (c.d.fact 55 (f := .glo "_law_value") rfl)
  a_l_of_numbers := (He.ga K "_law_of_numbers")
  fd_l_of_numbers := (c.d.def_ 4 (d := ⟨("_law_of_numbers", none), "_law_of_numbers", "_law_of_numbers", defArgs s_l_of_numbers, defBody s_l_of_numbers, defScope s_l_of_numbers, [], []⟩) rfl).choose
  F_l_of_numbers := fun_of (st := s_l_of_numbers) (c.d.def_ 4 (d := ⟨("_law_of_numbers", none), "_law_of_numbers", "_law_of_numbers", defArgs s_l_of_numbers, defBody s_l_of_numbers, defScope s_l_of_numbers, [], []⟩) rfl).choose_spec
  bi_l_of_numbers := (fun_of (st := s_l_of_numbers) (c.d.def_ 4 (d := ⟨("_law_of_numbers", none), "_law_of_numbers", "_law_of_numbers", defArgs s_l_of_numbers, defBody s_l_of_numbers, defScope s_l_of_numbers, [], []⟩) rfl).choose_spec).binds (ps := ["_law_thing"]) fun _ _ _ _ _ _ us hl => match us, hl with | [_], _ => rfl
  m_l_of_numbers := He.glo_ok X G (c.d.fact 56 (f := .glo "_law_of_numbers") rfl)
  a_l_of_names := (He.ga K "_law_of_names")
  fd_l_of_names := (c.d.def_ 5 (d := ⟨("_law_of_names", none), "_law_of_names", "_law_of_names", defArgs s_l_of_names, defBody s_l_of_names, defScope s_l_of_names, [], []⟩) rfl).choose
  F_l_of_names := fun_of (st := s_l_of_names) (c.d.def_ 5 (d := ⟨("_law_of_names", none), "_law_of_names", "_law_of_names", defArgs s_l_of_names, defBody s_l_of_names, defScope s_l_of_names, [], []⟩) rfl).choose_spec
  bi_l_of_names := (fun_of (st := s_l_of_names) (c.d.def_ 5 (d := ⟨("_law_of_names", none), "_law_of_names", "_law_of_names", defArgs s_l_of_names, defBody s_l_of_names, defScope s_l_of_names, [], []⟩) rfl).choose_spec).binds (ps := ["_law_thing"]) fun _ _ _ _ _ _ us hl => match us, hl with | [_], _ => rfl
  m_l_of_names := He.glo_ok X G (c.d.fact 57 (f := .glo "_law_of_names") rfl)
  a_l_of_indices := (He.ga K "_law_of_indices")
  fd_l_of_indices := (c.d.def_ 6 (d := ⟨("_law_of_indices", none), "_law_of_indices", "_law_of_indices", defArgs s_l_of_indices, defBody s_l_of_indices, defScope s_l_of_indices, [], []⟩) rfl).choose
  F_l_of_indices := fun_of (st := s_l_of_indices) (c.d.def_ 6 (d := ⟨("_law_of_indices", none), "_law_of_indices", "_law_of_indices", defArgs s_l_of_indices, defBody s_l_of_indices, defScope s_l_of_indices, [], []⟩) rfl).choose_spec
  bi_l_of_indices := (fun_of (st := s_l_of_indices) (c.d.def_ 6 (d := ⟨("_law_of_indices", none), "_law_of_indices", "_law_of_indices", defArgs s_l_of_indices, defBody s_l_of_indices, defScope s_l_of_indices, [], []⟩) rfl).choose_spec).binds (ps := ["_law_thing"]) fun _ _ _ _ _ _ us hl => match us, hl with | [_], _ => rfl
  m_l_of_indices := He.glo_ok X G (c.d.fact 58 (f := .glo "_law_of_indices") rfl)
  a_l_of_places := (He.ga K "_law_of_places")
  fd_l_of_places := (c.d.def_ 7 (d := ⟨("_law_of_places", none), "_law_of_places", "_law_of_places", defArgs s_l_of_places, defBody s_l_of_places, defScope s_l_of_places, [], []⟩) rfl).choose
  F_l_of_places := fun_of (st := s_l_of_places) (c.d.def_ 7 (d := ⟨("_law_of_places", none), "_law_of_places", "_law_of_places", defArgs s_l_of_places, defBody s_l_of_places, defScope s_l_of_places, [], []⟩) rfl).choose_spec
  bi_l_of_places := (fun_of (st := s_l_of_places) (c.d.def_ 7 (d := ⟨("_law_of_places", none), "_law_of_places", "_law_of_places", defArgs s_l_of_places, defBody s_l_of_places, defScope s_l_of_places, [], []⟩) rfl).choose_spec).binds (ps := ["_law_thing"]) fun _ _ _ _ _ _ us hl => match us, hl with | [_], _ => rfl
  m_l_of_places := He.glo_ok X G (c.d.fact 59 (f := .glo "_law_of_places") rfl)
  a_l_of_labels := (He.ga K "_law_of_labels")
  fd_l_of_labels := (c.d.def_ 8 (d := ⟨("_law_of_labels", none), "_law_of_labels", "_law_of_labels", defArgs s_l_of_labels, defBody s_l_of_labels, defScope s_l_of_labels, [], []⟩) rfl).choose
  F_l_of_labels := fun_of (st := s_l_of_labels) (c.d.def_ 8 (d := ⟨("_law_of_labels", none), "_law_of_labels", "_law_of_labels", defArgs s_l_of_labels, defBody s_l_of_labels, defScope s_l_of_labels, [], []⟩) rfl).choose_spec
  bi_l_of_labels := (fun_of (st := s_l_of_labels) (c.d.def_ 8 (d := ⟨("_law_of_labels", none), "_law_of_labels", "_law_of_labels", defArgs s_l_of_labels, defBody s_l_of_labels, defScope s_l_of_labels, [], []⟩) rfl).choose_spec).binds (ps := ["_law_thing"]) fun _ _ _ _ _ _ us hl => match us, hl with | [_], _ => rfl
  m_l_of_labels := He.glo_ok X G (c.d.fact 60 (f := .glo "_law_of_labels") rfl)
  a_l_of_others := (He.ga K "_law_of_others")
  fd_l_of_others := (c.d.def_ 9 (d := ⟨("_law_of_others", none), "_law_of_others", "_law_of_others", defArgs s_l_of_others, defBody s_l_of_others, defScope s_l_of_others, [], []⟩) rfl).choose
  F_l_of_others := fun_of (st := s_l_of_others) (c.d.def_ 9 (d := ⟨("_law_of_others", none), "_law_of_others", "_law_of_others", defArgs s_l_of_others, defBody s_l_of_others, defScope s_l_of_others, [], []⟩) rfl).choose_spec
  bi_l_of_others := (fun_of (st := s_l_of_others) (c.d.def_ 9 (d := ⟨("_law_of_others", none), "_law_of_others", "_law_of_others", defArgs s_l_of_others, defBody s_l_of_others, defScope s_l_of_others, [], []⟩) rfl).choose_spec).binds (ps := ["_law_thing"]) fun _ _ _ _ _ _ us hl => match us, hl with | [_], _ => rfl
  m_l_of_others := He.glo_ok X G (c.d.fact 61 (f := .glo "_law_of_others") rfl)
  a_l_of_several := (He.ga K "_law_of_several")
  fd_l_of_several := (c.d.def_ 10 (d := ⟨("_law_of_several", none), "_law_of_several", "_law_of_several", defArgs s_l_of_several, defBody s_l_of_several, defScope s_l_of_several, [], []⟩) rfl).choose
  F_l_of_several := fun_of (st := s_l_of_several) (c.d.def_ 10 (d := ⟨("_law_of_several", none), "_law_of_several", "_law_of_several", defArgs s_l_of_several, defBody s_l_of_several, defScope s_l_of_several, [], []⟩) rfl).choose_spec
  bi_l_of_several := (fun_of (st := s_l_of_several) (c.d.def_ 10 (d := ⟨("_law_of_several", none), "_law_of_several", "_law_of_several", defArgs s_l_of_several, defBody s_l_of_several, defScope s_l_of_several, [], []⟩) rfl).choose_spec).binds (ps := ["_law_thing", "_law_other", "_law_third"]) fun _ _ _ _ _ _ us hl => match us, hl with | [_, _, _], _ => rfl
  m_l_of_several := He.glo_ok X G (c.d.fact 62 (f := .glo "_law_of_several") rfl)
  a_l_met := (He.ga K "_law_met")
  fd_l_met := (c.d.def_ 11 (d := ⟨("_law_met", none), "_law_met", "_law_met", defArgs s_l_met, defBody s_l_met, defScope s_l_met, [], []⟩) rfl).choose
  F_l_met := fun_of (st := s_l_met) (c.d.def_ 11 (d := ⟨("_law_met", none), "_law_met", "_law_met", defArgs s_l_met, defBody s_l_met, defScope s_l_met, [], []⟩) rfl).choose_spec
  bi_l_met := (fun_of (st := s_l_met) (c.d.def_ 11 (d := ⟨("_law_met", none), "_law_met", "_law_met", defArgs s_l_met, defBody s_l_met, defScope s_l_met, [], []⟩) rfl).choose_spec).binds (ps := ["_law_error"]) fun _ _ _ _ _ _ us hl => match us, hl with | [_], _ => rfl
  m_l_met := He.glo_ok X G (c.d.fact 63 (f := .glo "_law_met") rfl)
  a_l_is_below := (He.ga K "_law_is_below")
  fd_l_is_below := (c.d.def_ 12 (d := ⟨("_law_is_below", none), "_law_is_below", "_law_is_below", defArgs s_l_is_below, defBody s_l_is_below, defScope s_l_is_below, [], []⟩) rfl).choose
  F_l_is_below := fun_of (st := s_l_is_below) (c.d.def_ 12 (d := ⟨("_law_is_below", none), "_law_is_below", "_law_is_below", defArgs s_l_is_below, defBody s_l_is_below, defScope s_l_is_below, [], []⟩) rfl).choose_spec
  bi_l_is_below := (fun_of (st := s_l_is_below) (c.d.def_ 12 (d := ⟨("_law_is_below", none), "_law_is_below", "_law_is_below", defArgs s_l_is_below, defBody s_l_is_below, defScope s_l_is_below, [], []⟩) rfl).choose_spec).binds (ps := ["_law_error"]) fun _ _ _ _ _ _ us hl => match us, hl with | [_], _ => rfl
  m_l_is_below := He.glo_ok X G (c.d.fact 64 (f := .glo "_law_is_below") rfl)
  a_law := (He.ga K "law")
  fd_law := (c.d.def_ 13 (d := ⟨("law", none), "law", "law", defArgs s_law, defBody s_law, defScope s_law, [], []⟩) rfl).choose
  F_law := fun_of (st := s_law) (c.d.def_ 13 (d := ⟨("law", none), "law", "law", defArgs s_law, defBody s_law, defScope s_law, [], []⟩) rfl).choose_spec
  bi_law := (fun_of (st := s_law) (c.d.def_ 13 (d := ⟨("law", none), "law", "law", defArgs s_law, defBody s_law, defScope s_law, [], []⟩) rfl).choose_spec).binds (ps := ["_law_script"]) fun _ _ _ _ _ _ us hl => match us, hl with | [_], _ => rfl
  m_law := He.glo_ok X G (c.d.fact 65 (f := .glo "law") rfl)
end Toy
set_option Elab.async false
set_option linter.all false
set_option maxRecDepth 100000
set_option maxHeartbeats 4000000
namespace Toy
open PySem L2 Sh
theorem ints_dp {K : PySem.W.Frag} {H : Hp} : ∀ ns : List Int, DpAll K H (ns.map V.int) (ns.map PyData.int)
  | [] => .nil
  | n :: ns => .cons (.int n) (ints_dp ns)
theorem ints_lay : ∀ ns : List Int, PyData.canLayAll0 (ns.map PyData.int) = true ∧ PyData.depthAll (ns.map PyData.int) ≤ 1
  | [] => ⟨rfl, by simp [PyData.depthAll]⟩
  | n :: ns => by
    obtain ⟨h1, h2⟩ := ints_lay ns
    refine ⟨by simp only [List.map_cons, PyData.canLayAll0, PyData.canLay0, h1]; rfl, ?_⟩
    simp only [List.map_cons, PyData.depthAll, PyData.depth]
    omega
theorem ints_shaped (ns : List Int) : SeqAt.shaped (.list (ns.map PyData.int)) = true := by
  obtain ⟨h1, h2⟩ := ints_lay ns
  show (PyData.canLay0 (.list (ns.map PyData.int)) && decide (PyData.depth (.list (ns.map PyData.int)) ≤ 64)) = true
  rw [Bool.and_eq_true]
  exact ⟨by simp only [PyData.canLay0]; exact h1, decide_eq_true (by simp only [PyData.depth]; omega)⟩
theorem ints_eqv (ns : List Int) : PyData.eqv (.list (ns.map PyData.int)) (.list []) = decide (ns.length = 0) := by
  cases ns <;> simp [PyData.eqv, PyData.eqvAll]
theorem posI {n : Nat} [NeZero n] : (0 : Int) < (OfNat.ofNat n : Int) := by
  have := Nat.pos_of_ne_zero (NeZero.ne n)
  exact Int.ofNat_lt.mpr this
/-! ### the pen -/
def penL (c : Addr) (b l : Int) : List (Key × V) := [(.inr "cells", .ref c), (.inr "opened", .int b), (.inr "left", .int l)]
theorem k12 : ¬ (("cells" : Str) = "opened") := by decide +kernel
theorem k13 : ¬ (("cells" : Str) = "left") := by decide +kernel
theorem k23 : ¬ (("opened" : Str) = "left") := by decide +kernel
theorem ki {a b : Str} (h : ¬ a = b) : ¬ (Sum.inr a : Key) = Sum.inr b := fun e => h (Sum.inr.inj e)
theorem pen_cells (c : Addr) (b l : Int) : valV (penL c b l) (.inr "cells") = some (.ref c) := valV_pos rfl
theorem pen_next (c : Addr) (b l : Int) : valV (penL c b l) (.inr "opened") = some (.int b) := (valV_neg (ki k12)).trans (valV_pos rfl)
theorem pen_left (c : Addr) (b l : Int) : valV (penL c b l) (.inr "left") = some (.int l) := (valV_neg (ki k13)).trans ((valV_neg (ki k23)).trans (valV_pos rfl))
theorem put2 {a b c : Str} {x y z v : V} (h12 : ¬ a = b) (h23 : ¬ b = c) : putK ([(.inr a, x), (.inr b, y), (.inr c, z)] : List (Key × V)) (.inr b) v = [(.inr a, x), (.inr b, v), (.inr c, z)] := by
  have h32 : ¬ c = b := fun e => h23 e.symm
  unfold putK
  simp [h12, h32]
theorem put3 {a b c : Str} {x y z v : V} (h13 : ¬ a = c) (h23 : ¬ b = c) : putK ([(.inr a, x), (.inr b, y), (.inr c, z)] : List (Key × V)) (.inr c) v = [(.inr a, x), (.inr b, y), (.inr c, v)] := by
  unfold putK
  simp [h13, h23]
theorem pen_put_next (c : Addr) (b l : Int) (v : Int) : putK (penL c b l) (.inr "opened") (.int v) = penL c v l := by
  unfold penL
  rw [put2 k12 k23]
theorem pen_put_left (c : Addr) (b l : Int) (v : Int) : putK (penL c b l) (.inr "left") (.int v) = penL c b v := by
  unfold penL
  rw [put3 k13 k23]
theorem at_mod {ns : List Int} {b : Int} (h : 0 < (ns.length : Int)) : ∃ v, atI (ns.map V.int) (b % (ns.length : Int)) = some (.int v) := by
  have h1 := Int.emod_nonneg b (show (ns.length : Int) ≠ 0 by omega)
  have h2 := Int.emod_lt_of_pos b h
  have h3 : (b % (ns.length : Int)).toNat < ns.length := by omega
  refine ⟨ns[(b % (ns.length : Int)).toNat], at_of (j := (b % (ns.length : Int)).toNat) (by omega) ?_⟩
  rw [List.getElem?_map, List.getElem?_eq_getElem h3]
  rfl
/-- a pen stands at d, n numbers were drawn from it at most -/
def Pen (H : Hp) (d c : Addr) (n : Nat) : Prop := ∃ (ns : List Int) (b l : Int), H d = some (.dK (penL c b l)) ∧ H c = some (.lst (ns.map V.int)) ∧ 0 ≤ b ∧ b ≤ (n : Int) ∧ 0 ≤ l
theorem Pen.mono {H : Hp} {d c : Addr} {n m : Nat} (p : Pen H d c n) (h : n ≤ m) : Pen H d c m := by
  obtain ⟨ns, b, l, h1, h2, h3, h4, h5⟩ := p
  exact ⟨ns, b, l, h1, h2, h3, by omega, h5⟩
theorem Pen.at {H : Hp} {d c : Addr} {n : Nat} (p : Pen H d c n) : ∃ kvs, H d = some (.dK kvs) := by
  obtain ⟨ns, b, l, h1, _⟩ := p
  exact ⟨_, h1⟩
theorem Pen.same {H H' : Hp} {d c : Addr} {n : Nat} (p : Pen H d c n) (s : Same H H') : Pen H' d c n := by
  obtain ⟨ns, b, l, h1, h2, h3⟩ := p
  exact ⟨ns, b, l, s _ _ h1, s _ _ h2, h3⟩
def spDraw : Sp := fun vs H Q _ => ∃ (d c : Addr) (n : Nat) (m : Int), vs = [.ref d, .int m] ∧ Pen H d c n ∧ n ≤ 100000 ∧ 0 < m ∧ m < 1000000000 ∧
  ∀ (H' : Hp) (r : Int), 0 ≤ r → r < m → Kp d H H' → Pen H' d c (n + 1) → Q (.int r) H'
section
variable {P : Program} {w : World} {K : PySem.W.Frag} {mg : Str → Option Value} {base : Heap}
theorem ok_l_draw (T : Tx P K mg) : FnOk P w K mg base CX0 1 T.a_l_draw T.fd_l_draw ["_law_pen_here", "_law_limit"] spDraw := by
  refine T.F_l_draw.ok sc_l_draw (fun vs H Q E h => ?_) (fun cdv A outer s H vs Q E hr h => ?_)
  · obtain ⟨d, c, n, m, rfl, _⟩ := h
    rfl
  have hu := hu_of hr
  obtain ⟨d, c, n, m, rfl, ⟨ns, b, l, hd, hc, hb0, hbn, hl⟩, hn, hm, hm2, q⟩ := h
  have ncd : c ≠ d := ne_of hc hd (by intro z; cases z)
  have gl : ∀ {H' : Hp} {c b l}, H' d = some (.dK (penL c b l)) → DGet H' d (.str "left") (some (.int l)) := fun h => by
    have := DGet.k (k := Sum.inr "left") h
    rw [pen_left] at this
    exact this
  have gb : ∀ {H' : Hp} {c b l}, H' d = some (.dK (penL c b l)) → DGet H' d (.str "opened") (some (.int b)) := fun h => by
    have := DGet.k (k := Sum.inr "opened") h
    rw [pen_next] at this
    exact this
  have gc : ∀ {H' : Hp} {c b l}, H' d = some (.dK (penL c b l)) → DGet H' d (.str "cells") (some (.ref c)) := fun h => by
    have := DGet.k (k := Sum.inr "cells") h
    rw [pen_cells] at this
    exact this
  have pb : ∀ {H' : Hp} {c b l} (v : Int), H' d = some (.dK (penL c b l)) → DPut H' d (.str "opened") (.int v) (upd H' d (.dK (penL c v l))) := fun v h => by
    have := DPut.k (k := Sum.inr "opened") (v := .int v) h (by show 3 < sizeLine; decide)
    rw [pen_put_next] at this
    exact this
  have pl : ∀ {H' : Hp} {c b l} (v : Int), H' d = some (.dK (penL c b l)) → DPut H' d (.str "left") (.int v) (upd H' d (.dK (penL c b v))) := fun v h => by
    have := DPut.k (k := Sum.inr "left") (v := .int v) h (by show 3 < sizeLine; decide)
    rw [pen_put_left] at this
    exact this
  refine ⟨_, (pss_cons (ps_if (pt_cmpR op_gt (pe_dget hu (pv 0) pe_str (fun _ _ => rfl)) pe_int (nomark _))
 (pss_cons (ps_set (i := 2) sc_l_draw.nd rfl (by first | exact Or.inl rfl | exact Or.inr rfl) (pe_op op_mod (pe_callTy call_int1 (by rfl) T.b_int (by decide +kernel) (pa_cons (pe_dget hu (pv 0) pe_str (fun _ _ => rfl)) pa_nil)) (pv 1)))
 (pss_cons (ps_dput hu (pv 0) pe_str (pe_op op_fdivN (pe_dget hu (pv 0) pe_str (fun _ _ => rfl)) (pv 1)) rfl)
 (pss_one (ps_ret (pv 2)))))
 pss_nil)
 (pss_cons (ps_par (i := 3) (j := 4) (by rfl) sc_l_draw.nd rfl rfl (by decide) rfl rfl (pa_cons (pe_dget hu (pv 0) pe_str (fun _ _ => rfl)) (pa_cons (pe_dget hu (pv 0) pe_str (fun _ _ => rfl)) pa_nil)) (by rfl))
 (pss_cons (ps_dput hu (pv 0) pe_str (pe_op op_add (pv 3) pe_int) rfl)
 (pss_cons (ps_if (pt_cmpR (op_eqD hr.units) (pv 4) (pe_lst pa_nil) (nomark _))
 (pss_one (ps_ret (pe_op op_mod (pe_callTy call_int1 (by rfl) T.b_int (by decide +kernel) (pa_cons (pe_op op_add (pe_op op_mul pe_int (pv 3)) pe_int) pa_nil)) (pv 1))))
 pss_nil)
 (pss_cons (ps_set (i := 5) sc_l_draw.nd rfl (by first | exact Or.inl rfl | exact Or.inr rfl) (pe_ix ix_list (pv 4) (pe_op op_mod (pe_callTy call_int1 (by rfl) T.b_int (by decide +kernel) (pa_cons (pv 3) pa_nil)) (pe_callB call_len_seq (by rfl) T.b_len (by decide +kernel) (pa_cons (pv 4) pa_nil))) (fun _ _ => rfl)))
 (pss_cons (ps_if (PW.pt (pw_and (pt_cmpR op_lt (pv 3) (pe_callB call_len_seq (by rfl) T.b_len (by decide +kernel) (pa_cons (pv 4) pa_nil)) (nomark _)) (pw_and1 (pt_cmpR op_ge (pe_callB call_abs (by rfl) T.b_abs (by decide +kernel) (pa_cons (pv 5) pa_nil)) (pe_op op_pow pe_int pe_int) (nomark _)))))
 (pss_cons (ps_dput hu (pv 0) pe_str (pe_op op_fdivN (pe_op op_sub (pe_callB call_abs (by rfl) T.b_abs (by decide +kernel) (pa_cons (pv 5) pa_nil)) (pe_op op_pow pe_int pe_int)) (pv 1)) rfl)
 (pss_one (ps_ret (pe_op op_mod (pe_callTy call_int1 (by rfl) T.b_int (by decide +kernel) (pa_cons (pe_op op_sub (pe_callB call_abs (by rfl) T.b_abs (by decide +kernel) (pa_cons (pv 5) pa_nil)) (pe_op op_pow pe_int pe_int)) pa_nil)) (pv 1)))))
 pss_nil)
 (pss_cons (ps_set (i := 6) sc_l_draw.nd rfl (by first | exact Or.inl rfl | exact Or.inr rfl) (pe_op op_mod (pe_callTy call_int1 (by rfl) T.b_int (by decide +kernel) (pa_cons (pe_op op_add (pe_op op_add (pe_op op_add (pe_op op_mul (pe_op op_mod (pe_callTy call_int1 (by rfl) T.b_int (by decide +kernel) (pa_cons (pv 5) pa_nil)) pe_int) pe_int) (pe_op op_mul (pe_op op_mul pe_int (pv 3)) (pv 3))) (pe_op op_mul pe_int (pv 3))) pe_int) pa_nil)) pe_int))
 (pss_cons (ps_set (i := 6) sc_l_draw.nd rfl (by first | exact Or.inl rfl | exact Or.inr rfl) (pe_op op_mod (pe_callTy call_int1 (by rfl) T.b_int (by decide +kernel) (pa_cons (pe_op op_add (pe_op op_add (pe_op op_mul (pv 6) (pv 6)) (pe_op op_mul pe_int (pv 6))) (pe_op op_mul pe_int (pv 3))) pa_nil)) pe_int))
 (pss_one (ps_ret (pe_op op_mod (pe_callTy call_int1 (by rfl) T.b_int (by decide +kernel) (pa_cons (pe_op op_fdivN (pe_op op_mod (pe_callTy call_int1 (by rfl) T.b_int (by decide +kernel) (pa_cons (pe_op op_mul (pv 6) (pe_op op_add (pv 6) pe_int)) pa_nil)) pe_int) pe_int) pa_nil)) (pv 1)))))))))))), ?_⟩
  -- if pen['left'] > 0
  refine ⟨_, rfl, d, _, rfl, gl hd, _, _, rfl, rfl, _, rfl, ?_⟩
  refine ite2 (fun h1 => ?_) (fun h1 => ?_)
  · refine ⟨_, rfl, d, _, rfl, gl hd, .inl ⟨_, rfl, _, rfl, _, _, rfl, rfl, hm, ?_⟩⟩
    refine ⟨_, rfl, d, _, rfl, gl hd, _, rfl, _, _, rfl, rfl, ⟨by omega, by omega⟩, _, rfl, d, _, rfl, pl _ hd, ?_⟩
    refine ⟨_, rfl, q _ _ (Int.emod_nonneg _ (by omega)) (Int.emod_lt_of_pos _ hm) kp_put ?_⟩
    refine ⟨ns, b, _, upd_same, by rw [upd_ne ncd]; exact hc, hb0, by omega, Int.fdiv_nonneg (by omega) (by omega)⟩
  -- k, told = (pen['opened'], pen['cells']); pen['opened'] = k + 1
  refine ⟨_, rfl, d, _, rfl, gb hd, _, rfl, d, _, rfl, gc hd, _, _, rfl, ?_⟩
  refine ⟨_, rfl, _, _, rfl, rfl, _, rfl, d, _, rfl, pb _ hd, ?_⟩
  have hd2 : (upd H d (.dK (penL c (b + 1) l))) d = some (.dK (penL c (b + 1) l)) := upd_same
  have hc2 : (upd H d (.dK (penL c (b + 1) l))) c = some (.lst (ns.map V.int)) := by rw [upd_ne ncd]; exact hc
  have kp2 : Kp d H (upd H d (.dK (penL c (b + 1) l))) := kp_put
  generalize upd H d (.dK (penL c (b + 1) l)) = H2 at hd2 hc2 kp2 ⊢
  -- if told == []
  refine ⟨_, rfl, Nat.zero_le _, fun e he => ?_⟩
  have s3 := same_upd (o := .lst []) he
  refine ⟨_, _, .lst (SqL.of (s3 _ _ hc2)) (ints_dp ns), .lst (SqL.of upd_same) .nil, ints_shaped ns, by decide +kernel, _, rfl, ?_⟩
  have hd3 := s3 _ _ hd2
  have hc3 := s3 _ _ hc2
  have kp3 : Kp d H (upd H2 e (.lst [])) := kp2.trans (Same.kp s3)
  generalize upd H2 e (.lst []) = H3 at hd3 hc3 kp3 ⊢
  rw [ints_eqv]
  refine ite2 (fun h2 => ?_) (fun h2 => ?_)
  · refine ⟨_, rfl, _, _, rfl, rfl, .inl ⟨by decide, by decide⟩, _, _, rfl, rfl, .inl ⟨_, rfl, _, rfl, _, _, rfl, rfl, hm, ?_⟩⟩
    exact q _ _ (Int.emod_nonneg _ (by omega)) (Int.emod_lt_of_pos _ hm) kp3 ⟨ns, b + 1, l, hd3, hc3, by omega, by omega, hl⟩
  have h3 : 0 < (ns.length : Int) := by
    have h4 : ¬ ns.length = 0 := fun z => h2 (decide_eq_true z)
    omega
  obtain ⟨z, hz⟩ := at_mod (b := b) h3
  have hlen : ((ns.map V.int).length : Int) = (ns.length : Int) := by rw [List.length_map]
  refine ⟨_, rfl, _, rfl, .inl ⟨_, rfl, _, rfl, c, _, rfl, .inl (SqL.of hc3), _, _, rfl, rfl, by rw [hlen]; exact h3, c, ns.map V.int, _, V.int z, rfl, rfl, SqL.of hc3, by rw [hlen]; exact hz, ?_⟩⟩
  -- if k < len(told) and abs(cell) >= 10 ** 18
  refine ⟨_, rfl, _, rfl, c, _, rfl, .inl (SqL.of hc3), _, _, rfl, rfl, _, rfl, ?_⟩
  have m1 := Int.emod_nonneg z (show (4294965361 : Int) ≠ 0 by decide)
  have m2 := Int.emod_lt_of_pos z (show (0 : Int) < 4294965361 by decide)
  have fin : ∀ X : Int, Q (.int (X % m)) H3 := fun X => q _ _ (Int.emod_nonneg _ (by omega)) (Int.emod_lt_of_pos _ hm) kp3 ⟨ns, b + 1, l, hd3, hc3, by omega, by omega, hl⟩
  refine ite2 (fun h4 => ?_) (fun h4 => ?_)
  · refine ⟨_, rfl, _, rfl, _, _, rfl, rfl, ⟨by decide, by decide, by decide⟩, _, _, rfl, rfl, _, rfl, ?_⟩
    refine ite2 (fun h5 => ?_) (fun h5 => ?_)
    · have h6 := of_decide_eq_true h5
      refine ⟨_, rfl, _, rfl, _, _, rfl, rfl, ⟨by decide, by decide, by decide⟩, _, _, rfl, rfl, _, rfl, _, _, rfl, rfl, ⟨by omega, by omega⟩, _, rfl, d, _, rfl, pl _ hd3, ?_⟩
      refine ⟨_, rfl, _, rfl, _, _, rfl, rfl, ⟨by decide, by decide, by decide⟩, _, _, rfl, rfl, .inl ⟨_, rfl, _, rfl, _, _, rfl, rfl, hm, ?_⟩⟩
      exact q _ _ (Int.emod_nonneg _ (by omega)) (Int.emod_lt_of_pos _ hm) (kp3.trans kp_put) ⟨ns, b + 1, _, upd_same, by rw [upd_ne ncd]; exact hc3, by omega, by omega, Int.fdiv_nonneg (by omega) (by omega)⟩
    · show tSeq _ _ _ _ _
      refine ⟨_, rfl, .inl ⟨_, rfl, _, _, rfl, rfl, posI, _, _, rfl, rfl, .inl ⟨by omega, by omega⟩, _, rfl, _, _, rfl, rfl, .inl ⟨by decide, by decide⟩, _, rfl, _, _, rfl, rfl, .inl ⟨by omega, by omega⟩, _, _, rfl, rfl, _, rfl, _, _, rfl, rfl, .inl ⟨by decide, by decide⟩, _, _, rfl, rfl, _, _, rfl, rfl, .inl ⟨_, rfl, _, _, rfl, rfl, posI, ?_⟩⟩⟩
      refine ⟨_, rfl, _, rfl, _, _, rfl, rfl, .inl ⟨by omega, by omega⟩, _, rfl, _, _, rfl, rfl, .inl ⟨by decide, by decide⟩, _, _, rfl, rfl, _, rfl, _, _, rfl, rfl, .inl ⟨by decide, by decide⟩, _, _, rfl, rfl, .inl ⟨_, rfl, _, _, rfl, rfl, posI, ?_⟩⟩
      exact ⟨_, rfl, _, rfl, _, _, rfl, rfl, _, _, rfl, rfl, .inl ⟨by omega, by omega⟩, .inl ⟨_, rfl, _, _, rfl, rfl, posI, _, _, rfl, rfl, ⟨by decide, by decide⟩, .inl ⟨_, rfl, _, rfl, _, _, rfl, rfl, hm, fin _⟩⟩⟩
  · refine iteF ?_
    show tSeq _ _ _ _ _
    refine ⟨_, rfl, .inl ⟨_, rfl, _, _, rfl, rfl, posI, _, _, rfl, rfl, .inl ⟨by omega, by omega⟩, _, rfl, _, _, rfl, rfl, .inl ⟨by decide, by decide⟩, _, rfl, _, _, rfl, rfl, .inl ⟨by omega, by omega⟩, _, _, rfl, rfl, _, rfl, _, _, rfl, rfl, .inl ⟨by decide, by decide⟩, _, _, rfl, rfl, _, _, rfl, rfl, .inl ⟨_, rfl, _, _, rfl, rfl, posI, ?_⟩⟩⟩
    refine ⟨_, rfl, _, rfl, _, _, rfl, rfl, .inl ⟨by omega, by omega⟩, _, rfl, _, _, rfl, rfl, .inl ⟨by decide, by decide⟩, _, _, rfl, rfl, _, rfl, _, _, rfl, rfl, .inl ⟨by decide, by decide⟩, _, _, rfl, rfl, .inl ⟨_, rfl, _, _, rfl, rfl, posI, ?_⟩⟩
    exact ⟨_, rfl, _, rfl, _, _, rfl, rfl, _, _, rfl, rfl, .inl ⟨by omega, by omega⟩, .inl ⟨_, rfl, _, _, rfl, rfl, posI, _, _, rfl, rfl, ⟨by decide, by decide⟩, .inl ⟨_, rfl, _, rfl, _, _, rfl, rfl, hm, fin _⟩⟩⟩
end
end Toy
set_option Elab.async false
set_option linter.all false
set_option maxRecDepth 100000
set_option maxHeartbeats 4000000
namespace Toy
open PySem L2 Sh
theorem cut_drop (xs : List V) (c : Nat) : cutV xs (some (c : Int)) none = xs.drop c := by
  unfold cutV
  rw [HT.sIx_nat, HT.sIx_none]
  by_cases h : c ≤ xs.length
  · rw [Nat.min_eq_left h]
    apply List.take_of_length_le
    rw [List.length_drop]
    exact Nat.le_refl _
  · rw [Nat.min_eq_right (by omega), List.drop_of_length_le (Nat.le_refl _), List.drop_of_length_le (by omega)]
    simp
theorem cut_take (xs : List V) (c : Nat) : cutV xs none (some (c : Int)) = xs.take c := by
  unfold cutV
  rw [HT.sIx_nat, HT.sIx_none]
  show (xs.drop 0).take (min c xs.length - 0) = xs.take c
  rw [List.drop_zero, Nat.sub_zero]
  by_cases h : c ≤ xs.length
  · rw [Nat.min_eq_left h]
  · rw [Nat.min_eq_right (by omega), List.take_of_length_le (Nat.le_refl _), List.take_of_length_le (by omega)]
theorem kp_upd {d p : Addr} {H H' : Hp} {o : HO} (h : Kp d H H') (n : H p = none) : Kp d H (upd H' p o) := fun b u e nb => by
  rw [upd_ne (ne_of_none e n)]
  exact h b u e nb
def spPenOf (K : PySem.W.Frag) : Sp := fun vs H Q _ => ∃ (a : Addr) (ns : List Int), vs = [.ref a] ∧ SqL K H a (ns.map V.int) ∧ ∀ (H' : Hp) (d c : Addr), Same H H' → Pen H' d c 0 → Q (.ref d) H'
section
variable {P : Program} {w : World} {K : PySem.W.Frag} {mg : Str → Option Value} {base : Heap}
theorem ok_l_pen (T : Tx P K mg) : FnOk P w K mg base CX0 1 T.a_l_pen T.fd_l_pen ["_law_script"] (spPenOf K) := by
  refine T.F_l_pen.ok sc_l_pen (fun vs H Q E h => ?_) (fun cdv A outer s H vs Q E hr h => ?_)
  · obtain ⟨a, ns, rfl, _⟩ := h
    rfl
  obtain ⟨a, ns, rfl, hS, q⟩ := h
  refine ⟨_, (pss_one (ps_ret (pe_disp (pps_cons pe_str (pe_callTy call_list_of (by rfl) T.b_list (by decide +kernel) (pa_cons (pe_slice sl_list (pv 0) po_none (po_some pe_int)) pa_nil)) (pps_cons pe_str pe_int (pps_cons pe_str pe_int pps_nil))) (by rfl) (by rfl) (fun z => by cases z) (by decide)))), ?_⟩
  intro p hp
  have s1 : Same H (upd H p (.dK [])) := same_upd hp
  refine ⟨_, rfl, _, rfl, a, _, rfl, s1.seq hS, fun c hc => ?_⟩
  have s2 : Same (upd H p (.dK [])) _ := same_upd (o := .lst (cutV (ns.map V.int) none (some 63))) hc
  refine ⟨c, _, rfl, .inl (SqL.of upd_same), fun l hl => ?_⟩
  have s3 : Same (upd (upd H p (.dK [])) c (.lst (cutV (ns.map V.int) none (some 63)))) _ := same_upd (o := .lst (cutV (ns.map V.int) none (some 63))) hl
  have sA := (s1.trans s2).trans s3
  refine ⟨s3 _ _ (s2 _ _ upd_same), penL l 0 0, rfl, by show 3 ≤ 15; decide, ?_⟩
  have e : mergeK [] (penL l 0 0) = penL l 0 0 := by
    show putK (putK (putK ([] : List (Key × V)) (.inr "cells") (.ref l)) (.inr "opened") (.int 0)) (.inr "left") (.int 0) = _
    rw [show putK ([] : List (Key × V)) (.inr "cells") (.ref l) = [(.inr "cells", .ref l)] from rfl, putK_new _ ((valV_neg (ki k12)).trans valV_nil)]
    exact putK_new _ (show valV ([(.inr "cells", .ref l), (.inr "opened", .int 0)] : List (Key × V)) (.inr "left") = none from (valV_neg (ki k13)).trans ((valV_neg (ki k23)).trans valV_nil))
  rw [e]
  have npl : p ≠ l := fun z => by
    subst z
    rw [s2 _ _ upd_same] at hl
    cases hl
  refine q _ p l (fun b o hb => ?_) ⟨ns.take 63, 0, 0, upd_same, ?_, Int.le_refl _, Int.le_refl _, Int.le_refl _⟩
  · rw [upd_ne (ne_of_none hb hp)]
    exact sA _ _ hb
  · rw [upd_ne npl.symm, upd_same, show cutV (ns.map V.int) none (some 63) = (ns.map V.int).take 63 from cut_take _ 63, List.map_take]
def spPick (K : PySem.W.Frag) : Sp := fun vs H Q _ => ∃ (d c a : Addr) (n : Nat) (xs : List V), vs = [.ref d, .ref a] ∧ Pen H d c n ∧ n ≤ 100000 ∧ H a = some (.lst xs) ∧ 0 < xs.length ∧ xs.length ≤ 1000 ∧
  ∀ (H' : Hp) (x : V), x ∈ xs → Kp d H H' → Pen H' d c (n + 1) → Q x H'
theorem at_mem {xs : List V} {r : Int} (h0 : 0 ≤ r) (h1 : r < (xs.length : Int)) : ∃ x, atI xs r = some x ∧ x ∈ xs := by
  have h3 : r.toNat < xs.length := by omega
  exact ⟨xs[r.toNat], at_of (j := r.toNat) (by omega) (List.getElem?_eq_getElem h3), List.getElem_mem h3⟩
theorem ok_l_pick (T : Tx P K mg) : FnOk P w K mg base CX0 2 T.a_l_pick T.fd_l_pick ["_law_pen_here", "_law_some"] (spPick K) := by
  refine T.F_l_pick.ok sc_l_pick (fun vs H Q E h => ?_) (fun cdv A outer s H vs Q E hr h => ?_)
  · obtain ⟨d, c, a, n, xs, rfl, _⟩ := h
    rfl
  obtain ⟨d, c, a, n, xs, rfl, hp, hn, ha, hx, hx2, q⟩ := h
  refine ⟨_, (pss_one (ps_ret (pe_ix ix_list (pv 1) (pe_call (ok_l_draw T) (hr.mono (by decide)) (by rfl) T.m_l_draw T.F_l_draw.kp T.bi_l_draw .nil pass0 (pa_cons (pv 0) (pa_cons (pe_callB call_len_seq (by rfl) T.b_len (by decide +kernel) (pa_cons (pv 1) pa_nil)) pa_nil))) (fun _ _ => rfl)))), ?_⟩
  refine ⟨_, rfl, _, rfl, _, rfl, a, xs, rfl, .inl (SqL.of ha), d, c, n, _, rfl, hp, hn, by omega, by omega, fun H1 r r0 r1 kp p1 => ?_⟩
  obtain ⟨kvs, hd⟩ := hp.at
  obtain ⟨x, e, hm⟩ := at_mem r0 r1
  exact ⟨a, xs, r, x, rfl, rfl, SqL.of (kp _ _ ha (ne_of ha hd (by intro z; cases z))), e, q _ x hm kp p1⟩
end
theorem Thing.kp {H H' : Hp} {d c : Addr} {n : Nat} {v : V} {x : PyData} (s : Kp d H H') (p : Pen H d c n) (h : Thing H v x) : Thing H' v x := by
  obtain ⟨ns, b, l, hd, _⟩ := p
  have nt : ∀ {a : Addr} {o : HO}, H a = some o → o ≠ .dK (penL c b l) → H' a = some o := fun {a o} e ne => s _ _ e fun z => ne (by rw [z, hd] at e; exact (Option.some.inj e).symm)
  cases h with
  | non => exact .non
  | bl b => exact .bl b
  | int i h => exact .int i h
  | str x h => exact .str x h
  | tupS x h e => exact .tupS x h (nt e (fun z => nomatch z))
  | tupN i h e1 e2 => exact .tupN i h (nt e1 (fun z => nomatch z)) (nt e2 (fun z => nomatch z))
  | lst0 e z => exact .lst0 (nt e (fun z => nomatch z)) z
  | lst1 i h e z => exact .lst1 i h (nt e (fun z => nomatch z)) z
  | dic0 e => exact .dic0 (nt e (fun z => by cases z))
  | dic1 i h e => exact .dic1 i h (nt e (fun z => by
      have := congrArg (fun o => match o with | HO.dK l => l.length | _ => 0) z
      simp [penL] at this))
end Toy
set_option Elab.async false
set_option linter.all false
set_option maxRecDepth 100000
set_option maxHeartbeats 4000000
namespace Toy
open PySem L2 Sh
/-! ### a value of any kind -/
def spValue : Sp := fun vs H Q _ => ∃ (d c : Addr) (n : Nat), vs = [.ref d] ∧ Pen H d c n ∧ n ≤ 50000 ∧ ∀ H' v x, Kp d H H' → Pen H' d c (n + 2) → Thing H' v x → Q v H'
section
variable {P : Program} {w : World} {K : PySem.W.Frag} {mg : Str → Option Value} {base : Heap}
theorem ok_l_value (T : Tx P K mg) : FnOk P w K mg base CX0 3 T.a_l_value T.fd_l_value ["_law_pen_here"] spValue := by
  refine T.F_l_value.ok sc_l_value (fun vs H Q E h => ?_) (fun cdv A outer s H vs Q E hr h => ?_)
  · obtain ⟨d, c, n, rfl, _⟩ := h
    rfl
  have hu := hu_of hr
  obtain ⟨d, c, n, rfl, hp, hn, q⟩ := h
  refine ⟨_, (pss_cons (ps_set (i := 1) sc_l_value.nd rfl (by first | exact Or.inl rfl | exact Or.inr rfl) (pe_op op_sub (pe_call (ok_l_draw T) (hr.mono (by decide)) (by rfl) T.m_l_draw T.F_l_draw.kp T.bi_l_draw .nil pass0 (pa_cons (pv 0) (pa_cons (pe_op op_pow pe_int pe_int) pa_nil))) (pe_op op_mul pe_int (pe_op op_pow pe_int pe_int))))
 (pss_one (ps_ret (pe_call (ok_l_pick T) (hr.mono (by decide)) (by rfl) T.m_l_pick T.F_l_pick.kp T.bi_l_pick .nil pass0 (pa_cons (pv 0) (pa_cons (pe_lst (pa_cons pe_non (pa_cons (pv 1) (pa_cons pe_bl (pa_cons pe_str (pa_cons pe_str (pa_cons (pe_tup (pa_cons pe_int (pa_cons (pe_tup (pa_cons (pv 1) pa_nil)) pa_nil))) (pa_cons (pe_lstB (pa_cons (pv 1) pa_nil)) (pa_cons (pe_lstB pa_nil) (pa_cons pe_dnewK (pa_cons (pe_disp (pps_cons pe_str (pv 1) pps_nil) (by rfl) (by rfl) (fun z => by cases z) (by decide)) (pa_cons (pe_op op_pow pe_int pe_int) (pa_cons (pe_tup (pa_cons pe_str pa_nil)) pa_nil))))))))))))) pa_nil)))))), ?_⟩
  refine ⟨_, rfl, _, _, rfl, rfl, ⟨by decide, by decide, by decide⟩, d, c, n, 1000000, rfl, hp, by omega, by decide, by decide, fun H1 r r0 r1 k1 p1 => ?_⟩
  refine ⟨_, _, rfl, rfl, ⟨by decide, by decide, by decide⟩, _, _, rfl, rfl, .inl ⟨by decide, by decide⟩, _, _, rfl, rfl, ?_⟩
  dsimp only [gName]
  have hf : (r - 5 * 10 ^ (5 : Int).toNat).natAbs < 10 ^ 31 := by
    have e : (10 : Int) ^ (5 : Int).toNat = 100000 := by decide
    rw [e]
    omega
  generalize r - 5 * 10 ^ (5 : Int).toNat = far at hf ⊢
  refine ⟨_, rfl, _, rfl, _, rfl, by show 1 ≤ sizeLine; decide, fun t1 n1 => ?_⟩
  have s1 := same_upd (o := .tup [V.int far]) n1
  have g1 : upd H1 t1 (.tup [V.int far]) t1 = some (.tup [V.int far]) := upd_same
  generalize upd H1 t1 (.tup [V.int far]) = Ha at s1 g1 ⊢
  refine ⟨by show 2 ≤ sizeLine; decide, fun t2 n2 => ?_⟩
  have s2 := same_upd (o := .tup [V.int 1, V.ref t1]) n2
  have g2 : upd Ha t2 (.tup [V.int 1, V.ref t1]) t2 = some (.tup [V.int 1, V.ref t1]) := upd_same
  generalize upd Ha t2 (.tup [V.int 1, V.ref t1]) = Hb at s2 g2 ⊢
  refine ⟨_, rfl, by show 1 ≤ sizeLine; decide, fun t3 n3 z3 => ?_⟩
  have s3 := same_upd (o := .lst [V.int far]) n3
  have g3 : upd Hb t3 (.lst [V.int far]) t3 = some (.lst [V.int far]) := upd_same
  generalize upd Hb t3 (.lst [V.int far]) = Hc at s3 g3 ⊢
  refine ⟨by show 0 ≤ sizeLine; decide, fun t4 n4 z4 => ?_⟩
  have s4 := same_upd (o := .lst ([] : List V)) n4
  have g4 : upd Hc t4 (.lst ([] : List V)) t4 = some (.lst []) := upd_same
  generalize upd Hc t4 (.lst ([] : List V)) = Hd at s4 g4 ⊢
  intro t5 n5
  have s5 := same_upd (o := .dK []) n5
  have g5 : upd Hd t5 (.dK []) t5 = some (.dK []) := upd_same
  generalize upd Hd t5 (.dK []) = He at s5 g5 ⊢
  intro t6 n6
  refine ⟨_, rfl, upd_same, [(Sum.inr "a", V.int far)], rfl, by show 1 ≤ 15; decide, ?_⟩
  have em : mergeK ([] : List (Key × V)) [((Sum.inr "a" : Key), V.int far)] = ([((Sum.inr "a" : Key), V.int far)] : List (Key × V)) := by
    show putK ([] : List (Key × V)) (.inr "a") (V.int far) = _
    rfl
  rw [em]
  have s6 : Same He (upd (upd He t6 (.dK [])) t6 (.dK [(Sum.inr "a", V.int far)])) := fun b o e => by
    rw [upd_ne (ne_of_none e n6), upd_ne (ne_of_none e n6)]
    exact e
  have g6 : upd (upd He t6 (.dK [])) t6 (.dK [(Sum.inr "a", V.int far)]) t6 = some (.dK [(Sum.inr "a", V.int far)]) := upd_same
  generalize upd (upd He t6 (.dK [])) t6 (.dK [(Sum.inr "a", V.int far)]) = Hf at s6 g6 ⊢
  refine ⟨_, _, rfl, rfl, ⟨by decide, by decide, by decide⟩, by show 1 ≤ sizeLine; decide, fun t7 n7 => ?_⟩
  have s7 := same_upd (o := .tup [V.str "a"]) n7
  have g7 : upd Hf t7 (.tup [V.str "a"]) t7 = some (.tup [V.str "a"]) := upd_same
  generalize upd Hf t7 (.tup [V.str "a"]) = Hg at s7 g7 ⊢
  refine ⟨by show 12 ≤ sizeLine; decide, fun t8 n8 => ?_⟩
  have s8 : ∀ o, Same Hg (upd Hg t8 o) := fun o => same_upd n8
  refine ⟨d, c, t8, n + 1, _, rfl, p1.same (s1.trans (s2.trans (s3.trans (s4.trans (s5.trans (s6.trans (s7.trans (s8 _)))))))), by omega, upd_same, by show 0 < 12; decide, by show 12 ≤ 1000; decide, fun H' x hm k' p' => ?_⟩
  replace s8 := s8 (.lst [V.non, V.int far, V.bl true, V.str "ab", V.str "", V.ref t2, V.ref t3, V.ref t4, V.ref t5, V.ref t6, V.int (10 ^ (30 : Int).toNat), V.ref t7])
  have a7 := s7.trans s8
  have a6 := s6.trans a7
  have a5 := s5.trans a6
  have a4 := s4.trans a5
  have a3 := s3.trans a4
  have a2 := s2.trans a3
  have a1 := s1.trans a2
  have p8 := p1.same a1
  have th : ∃ y, Thing (upd Hg t8 (.lst [V.non, V.int far, V.bl true, V.str "ab", V.str "", V.ref t2, V.ref t3, V.ref t4, V.ref t5, V.ref t6, V.int (10 ^ (30 : Int).toNat), V.ref t7])) x y := by
    simp only [List.mem_cons, List.not_mem_nil, or_false] at hm
    rcases hm with rfl | rfl | rfl | rfl | rfl | rfl | rfl | rfl | rfl | rfl | rfl | rfl
    · exact ⟨_, .non⟩
    · exact ⟨_, .int far hf⟩
    · exact ⟨_, .bl true⟩
    · exact ⟨_, .str "ab" (by decide +kernel)⟩
    · exact ⟨_, .str "" (by decide +kernel)⟩
    · exact ⟨_, .tupN far hf (a3 _ _ g2) (a2 _ _ g1)⟩
    · exact ⟨_, .lst1 far hf (a4 _ _ g3) z3⟩
    · exact ⟨_, .lst0 (a5 _ _ g4) z4⟩
    · exact ⟨_, .dic0 (a6 _ _ g5)⟩
    · exact ⟨_, .dic1 far hf (a7 _ _ g6)⟩
    · exact ⟨_, .int _ (by decide +kernel)⟩
    · exact ⟨_, .tupS "a" (by decide +kernel) (s8 _ _ g7)⟩
  obtain ⟨y, th⟩ := th
  exact q H' x y (k1.trans ((Same.kp a1).trans k')) p' (Thing.kp k' p8 th)
end
end Toy
set_option Elab.async false
set_option linter.all false
set_option maxRecDepth 100000
set_option maxHeartbeats 4000000
namespace Toy
open PySem L2 Sh
/-! ### the exceptions are made -/
theorem kp_two {H : Hp} {a dx : Addr} {o1 o2 : HO} (hd : H dx = none) : Kp a H (upd (upd H dx o1) a o2) := fun b o e nb => by
  rw [upd_ne nb, upd_ne (ne_of_none e hd)]
  exact e
theorem kp_more {H H1 : Hp} {a dx : Addr} {o1 : HO} (k : Kp a H H1) (hd : H dx = none) : Kp a H (upd H1 dx o1) := fun b o e nb => by
  rw [upd_ne (ne_of_none e hd)]
  exact k b o e nb
section
variable {P : Program} {w : World} {K : PySem.W.Frag} {mg : Str → Option Value} {base : Heap}
theorem ok_x_BadLetters (T : Tx P K mg) : FnOk P w K mg base CX0 1 T.a_x_BadLetters T.fd_x_BadLetters ["self", "letters"] (spXI T.c_BadLetters ["letters"]) := by
  obtain ⟨oc, od, kV, doc, pm, an, ct, osl, cc, cda, hfd, lk, hcd, SF⟩ := T.i_BadLetters.fn
  rw [hfd] at lk ⊢
  refine fn_super (k := 0) lk hcd sc_x_BadLetters rfl SF rfl (fun vs H Q E h => ?_) (fun A outer s H vs Q E hr h => ?_)
  · obtain ⟨a, ws, rfl, hl, _⟩ := h
    rw [List.length_cons, hl]
    rfl
  obtain ⟨a, ws, rfl, hl, ha, q⟩ := h
  match ws, hl, q with
  | [v1], _, q =>
  refine ⟨a, T.c_BadLetters, _, _, rfl, ha, T.i_BadLetters.sc, (pa_cons (pv 1) pa_nil), (pss_one (ps_ost (pv 0) (pv 1))), ?_⟩
  refine ⟨_, rfl, by show 1 ≤ 1000; decide, ha, ?_⟩
  refine ⟨_, rfl, _, rfl, a, T.c_BadLetters, rfl, T.i_BadLetters.m.ox, T.nf_BadLetters_letters, .inl ⟨ha, fun dx hd hne => ?_⟩⟩
  exact q _ dx (kp_two hd) hd hne upd_same (by rw [upd_ne hne, upd_same]; rfl)
theorem ok_x_TooMany (T : Tx P K mg) : FnOk P w K mg base CX0 1 T.a_x_TooMany T.fd_x_TooMany ["self", "what", "many", "most"] (spXI T.c_TooMany ["what", "many", "most"]) := by
  obtain ⟨oc, od, kV, doc, pm, an, ct, osl, cc, cda, hfd, lk, hcd, SF⟩ := T.i_TooMany.fn
  rw [hfd] at lk ⊢
  refine fn_super (k := 0) lk hcd sc_x_TooMany rfl SF rfl (fun vs H Q E h => ?_) (fun A outer s H vs Q E hr h => ?_)
  · obtain ⟨a, ws, rfl, hl, _⟩ := h
    rw [List.length_cons, hl]
    rfl
  obtain ⟨a, ws, rfl, hl, ha, q⟩ := h
  match ws, hl, q with
  | [v1, v2, v3], _, q =>
  refine ⟨a, T.c_TooMany, _, _, rfl, ha, T.i_TooMany.sc, (pa_cons (pv 1) (pa_cons (pv 2) (pa_cons (pv 3) pa_nil))), (pss_cons (ps_ost (pv 0) (pv 1)) (pss_cons (ps_ost (pv 0) (pv 2)) (pss_one (ps_ost (pv 0) (pv 3))))), ?_⟩
  refine ⟨_, rfl, _, rfl, _, rfl, by show 3 ≤ 1000; decide, ha, ?_⟩
  refine ⟨_, rfl, _, rfl, a, T.c_TooMany, rfl, T.i_TooMany.m.ox, T.nf_TooMany_what, .inl ⟨ha, fun dx hd hne => ?_⟩⟩
  have ea := (upd_same : upd (upd H dx (exd dx [("what", v1)])) a (exo a T.c_TooMany (some dx)) a = _)
  have ed : upd (upd H dx (exd dx [("what", v1)])) a (exo a T.c_TooMany (some dx)) dx = some (exd dx [("what", v1)]) := by rw [upd_ne hne, upd_same]
  have k0 := (kp_two hd : Kp a H (upd (upd H dx (exd dx [("what", v1)])) a (exo a T.c_TooMany (some dx))))
  generalize upd (upd H dx (exd dx [("what", v1)])) a (exo a T.c_TooMany (some dx)) = H1 at ea ed k0 ⊢
  refine ⟨_, rfl, _, rfl, a, T.c_TooMany, rfl, T.i_TooMany.m.ox, T.nf_TooMany_many, .inr ⟨dx, _, ea, ed, by show 1 ≤ 900; decide, ?_⟩⟩
  have k2 := (kp_more k0 hd : Kp a H (upd H1 dx (exd dx [("many", v2), ("what", v1)])))
  replace ea : upd H1 dx (exd dx [("many", v2), ("what", v1)]) a = some (exo a T.c_TooMany (some dx)) := by rw [upd_ne hne.symm]; exact ea
  replace ed : upd H1 dx (exd dx [("many", v2), ("what", v1)]) dx = some (exd dx [("many", v2), ("what", v1)]) := upd_same
  generalize upd H1 dx (exd dx [("many", v2), ("what", v1)]) = H2 at ea ed k2 ⊢
  refine ⟨_, rfl, _, rfl, a, T.c_TooMany, rfl, T.i_TooMany.m.ox, T.nf_TooMany_most, .inr ⟨dx, _, ea, ed, by show 2 ≤ 900; decide, ?_⟩⟩
  exact q _ dx (kp_more k2 hd) hd hne (by rw [upd_ne hne.symm]; exact ea) upd_same
theorem ok_x_BadRow (T : Tx P K mg) : FnOk P w K mg base CX0 1 T.a_x_BadRow T.fd_x_BadRow ["self", "number"] (spXI T.c_BadRow ["number"]) := by
  obtain ⟨oc, od, kV, doc, pm, an, ct, osl, cc, cda, hfd, lk, hcd, SF⟩ := T.i_BadRow.fn
  rw [hfd] at lk ⊢
  refine fn_super (k := 0) lk hcd sc_x_BadRow rfl SF rfl (fun vs H Q E h => ?_) (fun A outer s H vs Q E hr h => ?_)
  · obtain ⟨a, ws, rfl, hl, _⟩ := h
    rw [List.length_cons, hl]
    rfl
  obtain ⟨a, ws, rfl, hl, ha, q⟩ := h
  match ws, hl, q with
  | [v1], _, q =>
  refine ⟨a, T.c_BadRow, _, _, rfl, ha, T.i_BadRow.sc, (pa_cons (pv 1) pa_nil), (pss_one (ps_ost (pv 0) (pv 1))), ?_⟩
  refine ⟨_, rfl, by show 1 ≤ 1000; decide, ha, ?_⟩
  refine ⟨_, rfl, _, rfl, a, T.c_BadRow, rfl, T.i_BadRow.m.ox, T.nf_BadRow_number, .inl ⟨ha, fun dx hd hne => ?_⟩⟩
  exact q _ dx (kp_two hd) hd hne upd_same (by rw [upd_ne hne, upd_same]; rfl)
theorem ok_x_Lone (T : Tx P K mg) : FnOk P w K mg base CX0 1 T.a_x_Lone T.fd_x_Lone ["self", "place"] (spXI T.c_Lone ["place"]) := by
  obtain ⟨oc, od, kV, doc, pm, an, ct, osl, cc, cda, hfd, lk, hcd, SF⟩ := T.i_Lone.fn
  rw [hfd] at lk ⊢
  refine fn_super (k := 0) lk hcd sc_x_Lone rfl SF rfl (fun vs H Q E h => ?_) (fun A outer s H vs Q E hr h => ?_)
  · obtain ⟨a, ws, rfl, hl, _⟩ := h
    rw [List.length_cons, hl]
    rfl
  obtain ⟨a, ws, rfl, hl, ha, q⟩ := h
  match ws, hl, q with
  | [v1], _, q =>
  refine ⟨a, T.c_Lone, _, _, rfl, ha, T.i_Lone.sc, (pa_cons (pv 1) pa_nil), (pss_one (ps_ost (pv 0) (pv 1))), ?_⟩
  refine ⟨_, rfl, by show 1 ≤ 1000; decide, ha, ?_⟩
  refine ⟨_, rfl, _, rfl, a, T.c_Lone, rfl, T.i_Lone.m.ox, T.nf_Lone_place, .inl ⟨ha, fun dx hd hne => ?_⟩⟩
  exact q _ dx (kp_two hd) hd hne upd_same (by rw [upd_ne hne, upd_same]; rfl)
theorem ok_x_NoPlace (T : Tx P K mg) : FnOk P w K mg base CX0 1 T.a_x_NoPlace T.fd_x_NoPlace ["self", "place"] (spXI T.c_NoPlace ["place"]) := by
  obtain ⟨oc, od, kV, doc, pm, an, ct, osl, cc, cda, hfd, lk, hcd, SF⟩ := T.i_NoPlace.fn
  rw [hfd] at lk ⊢
  refine fn_super (k := 0) lk hcd sc_x_NoPlace rfl SF rfl (fun vs H Q E h => ?_) (fun A outer s H vs Q E hr h => ?_)
  · obtain ⟨a, ws, rfl, hl, _⟩ := h
    rw [List.length_cons, hl]
    rfl
  obtain ⟨a, ws, rfl, hl, ha, q⟩ := h
  match ws, hl, q with
  | [v1], _, q =>
  refine ⟨a, T.c_NoPlace, _, _, rfl, ha, T.i_NoPlace.sc, (pa_cons (pv 1) pa_nil), (pss_one (ps_ost (pv 0) (pv 1))), ?_⟩
  refine ⟨_, rfl, by show 1 ≤ 1000; decide, ha, ?_⟩
  refine ⟨_, rfl, _, rfl, a, T.c_NoPlace, rfl, T.i_NoPlace.m.ox, T.nf_NoPlace_place, .inl ⟨ha, fun dx hd hne => ?_⟩⟩
  exact q _ dx (kp_two hd) hd hne upd_same (by rw [upd_ne hne, upd_same]; rfl)
theorem ok_x_BadItem (T : Tx P K mg) : FnOk P w K mg base CX0 1 T.a_x_BadItem T.fd_x_BadItem ["self", "number"] (spXI T.c_BadItem ["number"]) := by
  obtain ⟨oc, od, kV, doc, pm, an, ct, osl, cc, cda, hfd, lk, hcd, SF⟩ := T.i_BadItem.fn
  rw [hfd] at lk ⊢
  refine fn_super (k := 0) lk hcd sc_x_BadItem rfl SF rfl (fun vs H Q E h => ?_) (fun A outer s H vs Q E hr h => ?_)
  · obtain ⟨a, ws, rfl, hl, _⟩ := h
    rw [List.length_cons, hl]
    rfl
  obtain ⟨a, ws, rfl, hl, ha, q⟩ := h
  match ws, hl, q with
  | [v1], _, q =>
  refine ⟨a, T.c_BadItem, _, _, rfl, ha, T.i_BadItem.sc, (pa_cons (pv 1) pa_nil), (pss_one (ps_ost (pv 0) (pv 1))), ?_⟩
  refine ⟨_, rfl, by show 1 ≤ 1000; decide, ha, ?_⟩
  refine ⟨_, rfl, _, rfl, a, T.c_BadItem, rfl, T.i_BadItem.m.ox, T.nf_BadItem_number, .inl ⟨ha, fun dx hd hne => ?_⟩⟩
  exact q _ dx (kp_two hd) hd hne upd_same (by rw [upd_ne hne, upd_same]; rfl)
theorem ok_x_BadKind (T : Tx P K mg) : FnOk P w K mg base CX0 1 T.a_x_BadKind T.fd_x_BadKind ["self", "side", "number"] (spXI T.c_BadKind ["side", "number"]) := by
  obtain ⟨oc, od, kV, doc, pm, an, ct, osl, cc, cda, hfd, lk, hcd, SF⟩ := T.i_BadKind.fn
  rw [hfd] at lk ⊢
  refine fn_super (k := 0) lk hcd sc_x_BadKind rfl SF rfl (fun vs H Q E h => ?_) (fun A outer s H vs Q E hr h => ?_)
  · obtain ⟨a, ws, rfl, hl, _⟩ := h
    rw [List.length_cons, hl]
    rfl
  obtain ⟨a, ws, rfl, hl, ha, q⟩ := h
  match ws, hl, q with
  | [v1, v2], _, q =>
  refine ⟨a, T.c_BadKind, _, _, rfl, ha, T.i_BadKind.sc, (pa_cons (pv 1) (pa_cons (pv 2) pa_nil)), (pss_cons (ps_ost (pv 0) (pv 1)) (pss_one (ps_ost (pv 0) (pv 2)))), ?_⟩
  refine ⟨_, rfl, _, rfl, by show 2 ≤ 1000; decide, ha, ?_⟩
  refine ⟨_, rfl, _, rfl, a, T.c_BadKind, rfl, T.i_BadKind.m.ox, T.nf_BadKind_side, .inl ⟨ha, fun dx hd hne => ?_⟩⟩
  have ea := (upd_same : upd (upd H dx (exd dx [("side", v1)])) a (exo a T.c_BadKind (some dx)) a = _)
  have ed : upd (upd H dx (exd dx [("side", v1)])) a (exo a T.c_BadKind (some dx)) dx = some (exd dx [("side", v1)]) := by rw [upd_ne hne, upd_same]
  have k0 := (kp_two hd : Kp a H (upd (upd H dx (exd dx [("side", v1)])) a (exo a T.c_BadKind (some dx))))
  generalize upd (upd H dx (exd dx [("side", v1)])) a (exo a T.c_BadKind (some dx)) = H1 at ea ed k0 ⊢
  refine ⟨_, rfl, _, rfl, a, T.c_BadKind, rfl, T.i_BadKind.m.ox, T.nf_BadKind_number, .inr ⟨dx, _, ea, ed, by show 1 ≤ 900; decide, ?_⟩⟩
  exact q _ dx (kp_more k0 hd) hd hne (by rw [upd_ne hne.symm]; exact ea) upd_same
theorem ok_x_BadName (T : Tx P K mg) : FnOk P w K mg base CX0 1 T.a_x_BadName T.fd_x_BadName ["self", "name"] (spXI T.c_BadName ["name"]) := by
  obtain ⟨oc, od, kV, doc, pm, an, ct, osl, cc, cda, hfd, lk, hcd, SF⟩ := T.i_BadName.fn
  rw [hfd] at lk ⊢
  refine fn_super (k := 0) lk hcd sc_x_BadName rfl SF rfl (fun vs H Q E h => ?_) (fun A outer s H vs Q E hr h => ?_)
  · obtain ⟨a, ws, rfl, hl, _⟩ := h
    rw [List.length_cons, hl]
    rfl
  obtain ⟨a, ws, rfl, hl, ha, q⟩ := h
  match ws, hl, q with
  | [v1], _, q =>
  refine ⟨a, T.c_BadName, _, _, rfl, ha, T.i_BadName.sc, (pa_cons (pv 1) pa_nil), (pss_one (ps_ost (pv 0) (pv 1))), ?_⟩
  refine ⟨_, rfl, by show 1 ≤ 1000; decide, ha, ?_⟩
  refine ⟨_, rfl, _, rfl, a, T.c_BadName, rfl, T.i_BadName.m.ox, T.nf_BadName_name, .inl ⟨ha, fun dx hd hne => ?_⟩⟩
  exact q _ dx (kp_two hd) hd hne upd_same (by rw [upd_ne hne, upd_same]; rfl)
theorem ok_x_BadSize (T : Tx P K mg) : FnOk P w K mg base CX0 1 T.a_x_BadSize T.fd_x_BadSize ["self", "size"] (spXI T.c_BadSize ["size"]) := by
  obtain ⟨oc, od, kV, doc, pm, an, ct, osl, cc, cda, hfd, lk, hcd, SF⟩ := T.i_BadSize.fn
  rw [hfd] at lk ⊢
  refine fn_super (k := 0) lk hcd sc_x_BadSize rfl SF rfl (fun vs H Q E h => ?_) (fun A outer s H vs Q E hr h => ?_)
  · obtain ⟨a, ws, rfl, hl, _⟩ := h
    rw [List.length_cons, hl]
    rfl
  obtain ⟨a, ws, rfl, hl, ha, q⟩ := h
  match ws, hl, q with
  | [v1], _, q =>
  refine ⟨a, T.c_BadSize, _, _, rfl, ha, T.i_BadSize.sc, (pa_cons (pv 1) pa_nil), (pss_one (ps_ost (pv 0) (pv 1))), ?_⟩
  refine ⟨_, rfl, by show 1 ≤ 1000; decide, ha, ?_⟩
  refine ⟨_, rfl, _, rfl, a, T.c_BadSize, rfl, T.i_BadSize.m.ox, T.nf_BadSize_size, .inl ⟨ha, fun dx hd hne => ?_⟩⟩
  exact q _ dx (kp_two hd) hd hne upd_same (by rw [upd_ne hne, upd_same]; rfl)
theorem ok_x_BadValues (T : Tx P K mg) : FnOk P w K mg base CX0 1 T.a_x_BadValues T.fd_x_BadValues ["self", "index"] (spXI T.c_BadValues ["index"]) := by
  obtain ⟨oc, od, kV, doc, pm, an, ct, osl, cc, cda, hfd, lk, hcd, SF⟩ := T.i_BadValues.fn
  rw [hfd] at lk ⊢
  refine fn_super (k := 0) lk hcd sc_x_BadValues rfl SF rfl (fun vs H Q E h => ?_) (fun A outer s H vs Q E hr h => ?_)
  · obtain ⟨a, ws, rfl, hl, _⟩ := h
    rw [List.length_cons, hl]
    rfl
  obtain ⟨a, ws, rfl, hl, ha, q⟩ := h
  match ws, hl, q with
  | [v1], _, q =>
  refine ⟨a, T.c_BadValues, _, _, rfl, ha, T.i_BadValues.sc, (pa_cons (pv 1) pa_nil), (pss_one (ps_ost (pv 0) (pv 1))), ?_⟩
  refine ⟨_, rfl, by show 1 ≤ 1000; decide, ha, ?_⟩
  refine ⟨_, rfl, _, rfl, a, T.c_BadValues, rfl, T.i_BadValues.m.ox, T.nf_BadValues_index, .inl ⟨ha, fun dx hd hne => ?_⟩⟩
  exact q _ dx (kp_two hd) hd hne upd_same (by rw [upd_ne hne, upd_same]; rfl)
theorem ok_x_BadStatement (T : Tx P K mg) : FnOk P w K mg base CX0 1 T.a_x_BadStatement T.fd_x_BadStatement ["self", "block", "number"] (spXI T.c_BadStatement ["block", "number"]) := by
  obtain ⟨oc, od, kV, doc, pm, an, ct, osl, cc, cda, hfd, lk, hcd, SF⟩ := T.i_BadStatement.fn
  rw [hfd] at lk ⊢
  refine fn_super (k := 0) lk hcd sc_x_BadStatement rfl SF rfl (fun vs H Q E h => ?_) (fun A outer s H vs Q E hr h => ?_)
  · obtain ⟨a, ws, rfl, hl, _⟩ := h
    rw [List.length_cons, hl]
    rfl
  obtain ⟨a, ws, rfl, hl, ha, q⟩ := h
  match ws, hl, q with
  | [v1, v2], _, q =>
  refine ⟨a, T.c_BadStatement, _, _, rfl, ha, T.i_BadStatement.sc, (pa_cons (pv 1) (pa_cons (pv 2) pa_nil)), (pss_cons (ps_ost (pv 0) (pv 1)) (pss_one (ps_ost (pv 0) (pv 2)))), ?_⟩
  refine ⟨_, rfl, _, rfl, by show 2 ≤ 1000; decide, ha, ?_⟩
  refine ⟨_, rfl, _, rfl, a, T.c_BadStatement, rfl, T.i_BadStatement.m.ox, T.nf_BadStatement_block, .inl ⟨ha, fun dx hd hne => ?_⟩⟩
  have ea := (upd_same : upd (upd H dx (exd dx [("block", v1)])) a (exo a T.c_BadStatement (some dx)) a = _)
  have ed : upd (upd H dx (exd dx [("block", v1)])) a (exo a T.c_BadStatement (some dx)) dx = some (exd dx [("block", v1)]) := by rw [upd_ne hne, upd_same]
  have k0 := (kp_two hd : Kp a H (upd (upd H dx (exd dx [("block", v1)])) a (exo a T.c_BadStatement (some dx))))
  generalize upd (upd H dx (exd dx [("block", v1)])) a (exo a T.c_BadStatement (some dx)) = H1 at ea ed k0 ⊢
  refine ⟨_, rfl, _, rfl, a, T.c_BadStatement, rfl, T.i_BadStatement.m.ox, T.nf_BadStatement_number, .inr ⟨dx, _, ea, ed, by show 1 ≤ 900; decide, ?_⟩⟩
  exact q _ dx (kp_more k0 hd) hd hne (by rw [upd_ne hne.symm]; exact ea) upd_same
theorem ok_x_BadText (T : Tx P K mg) : FnOk P w K mg base CX0 1 T.a_x_BadText T.fd_x_BadText ["self", "line"] (spXI T.c_BadText ["line"]) := by
  obtain ⟨oc, od, kV, doc, pm, an, ct, osl, cc, cda, hfd, lk, hcd, SF⟩ := T.i_BadText.fn
  rw [hfd] at lk ⊢
  refine fn_super (k := 0) lk hcd sc_x_BadText rfl SF rfl (fun vs H Q E h => ?_) (fun A outer s H vs Q E hr h => ?_)
  · obtain ⟨a, ws, rfl, hl, _⟩ := h
    rw [List.length_cons, hl]
    rfl
  obtain ⟨a, ws, rfl, hl, ha, q⟩ := h
  match ws, hl, q with
  | [v1], _, q =>
  refine ⟨a, T.c_BadText, _, _, rfl, ha, T.i_BadText.sc, (pa_cons (pv 1) pa_nil), (pss_one (ps_ost (pv 0) (pv 1))), ?_⟩
  refine ⟨_, rfl, by show 1 ≤ 1000; decide, ha, ?_⟩
  refine ⟨_, rfl, _, rfl, a, T.c_BadText, rfl, T.i_BadText.m.ox, T.nf_BadText_line, .inl ⟨ha, fun dx hd hne => ?_⟩⟩
  exact q _ dx (kp_two hd) hd hne upd_same (by rw [upd_ne hne, upd_same]; rfl)
theorem ok_x_BadCall (T : Tx P K mg) : FnOk P w K mg base CX0 1 T.a_x_BadCall T.fd_x_BadCall ["self", "number"] (spXI T.c_BadCall ["number"]) := by
  obtain ⟨oc, od, kV, doc, pm, an, ct, osl, cc, cda, hfd, lk, hcd, SF⟩ := T.i_BadCall.fn
  rw [hfd] at lk ⊢
  refine fn_super (k := 0) lk hcd sc_x_BadCall rfl SF rfl (fun vs H Q E h => ?_) (fun A outer s H vs Q E hr h => ?_)
  · obtain ⟨a, ws, rfl, hl, _⟩ := h
    rw [List.length_cons, hl]
    rfl
  obtain ⟨a, ws, rfl, hl, ha, q⟩ := h
  match ws, hl, q with
  | [v1], _, q =>
  refine ⟨a, T.c_BadCall, _, _, rfl, ha, T.i_BadCall.sc, (pa_cons (pv 1) pa_nil), (pss_one (ps_ost (pv 0) (pv 1))), ?_⟩
  refine ⟨_, rfl, by show 1 ≤ 1000; decide, ha, ?_⟩
  refine ⟨_, rfl, _, rfl, a, T.c_BadCall, rfl, T.i_BadCall.m.ox, T.nf_BadCall_number, .inl ⟨ha, fun dx hd hne => ?_⟩⟩
  exact q _ dx (kp_two hd) hd hne upd_same (by rw [upd_ne hne, upd_same]; rfl)
theorem ok_x_BadWord (T : Tx P K mg) : FnOk P w K mg base CX0 1 T.a_x_BadWord T.fd_x_BadWord ["self", "number"] (spXI T.c_BadWord ["number"]) := by
  obtain ⟨oc, od, kV, doc, pm, an, ct, osl, cc, cda, hfd, lk, hcd, SF⟩ := T.i_BadWord.fn
  rw [hfd] at lk ⊢
  refine fn_super (k := 0) lk hcd sc_x_BadWord rfl SF rfl (fun vs H Q E h => ?_) (fun A outer s H vs Q E hr h => ?_)
  · obtain ⟨a, ws, rfl, hl, _⟩ := h
    rw [List.length_cons, hl]
    rfl
  obtain ⟨a, ws, rfl, hl, ha, q⟩ := h
  match ws, hl, q with
  | [v1], _, q =>
  refine ⟨a, T.c_BadWord, _, _, rfl, ha, T.i_BadWord.sc, (pa_cons (pv 1) pa_nil), (pss_one (ps_ost (pv 0) (pv 1))), ?_⟩
  refine ⟨_, rfl, by show 1 ≤ 1000; decide, ha, ?_⟩
  refine ⟨_, rfl, _, rfl, a, T.c_BadWord, rfl, T.i_BadWord.m.ox, T.nf_BadWord_number, .inl ⟨ha, fun dx hd hne => ?_⟩⟩
  exact q _ dx (kp_two hd) hd hne upd_same (by rw [upd_ne hne, upd_same]; rfl)
theorem ok_x_BadValue (T : Tx P K mg) : FnOk P w K mg base CX0 1 T.a_x_BadValue T.fd_x_BadValue ["self", "number"] (spXI T.c_BadValue ["number"]) := by
  obtain ⟨oc, od, kV, doc, pm, an, ct, osl, cc, cda, hfd, lk, hcd, SF⟩ := T.i_BadValue.fn
  rw [hfd] at lk ⊢
  refine fn_super (k := 0) lk hcd sc_x_BadValue rfl SF rfl (fun vs H Q E h => ?_) (fun A outer s H vs Q E hr h => ?_)
  · obtain ⟨a, ws, rfl, hl, _⟩ := h
    rw [List.length_cons, hl]
    rfl
  obtain ⟨a, ws, rfl, hl, ha, q⟩ := h
  match ws, hl, q with
  | [v1], _, q =>
  refine ⟨a, T.c_BadValue, _, _, rfl, ha, T.i_BadValue.sc, (pa_cons (pv 1) pa_nil), (pss_one (ps_ost (pv 0) (pv 1))), ?_⟩
  refine ⟨_, rfl, by show 1 ≤ 1000; decide, ha, ?_⟩
  refine ⟨_, rfl, _, rfl, a, T.c_BadValue, rfl, T.i_BadValue.m.ox, T.nf_BadValue_number, .inl ⟨ha, fun dx hd hne => ?_⟩⟩
  exact q _ dx (kp_two hd) hd hne upd_same (by rw [upd_ne hne, upd_same]; rfl)
theorem ok_x_BadScript (T : Tx P K mg) : FnOk P w K mg base CX0 1 T.a_x_BadScript T.fd_x_BadScript ["self", "script", "index"] (spXI T.c_BadScript ["script", "index"]) := by
  obtain ⟨oc, od, kV, doc, pm, an, ct, osl, cc, cda, hfd, lk, hcd, SF⟩ := T.i_BadScript.fn
  rw [hfd] at lk ⊢
  refine fn_super (k := 0) lk hcd sc_x_BadScript rfl SF rfl (fun vs H Q E h => ?_) (fun A outer s H vs Q E hr h => ?_)
  · obtain ⟨a, ws, rfl, hl, _⟩ := h
    rw [List.length_cons, hl]
    rfl
  obtain ⟨a, ws, rfl, hl, ha, q⟩ := h
  match ws, hl, q with
  | [v1, v2], _, q =>
  refine ⟨a, T.c_BadScript, _, _, rfl, ha, T.i_BadScript.sc, (pa_cons (pv 1) (pa_cons (pv 2) pa_nil)), (pss_cons (ps_ost (pv 0) (pv 1)) (pss_one (ps_ost (pv 0) (pv 2)))), ?_⟩
  refine ⟨_, rfl, _, rfl, by show 2 ≤ 1000; decide, ha, ?_⟩
  refine ⟨_, rfl, _, rfl, a, T.c_BadScript, rfl, T.i_BadScript.m.ox, T.nf_BadScript_script, .inl ⟨ha, fun dx hd hne => ?_⟩⟩
  have ea := (upd_same : upd (upd H dx (exd dx [("script", v1)])) a (exo a T.c_BadScript (some dx)) a = _)
  have ed : upd (upd H dx (exd dx [("script", v1)])) a (exo a T.c_BadScript (some dx)) dx = some (exd dx [("script", v1)]) := by rw [upd_ne hne, upd_same]
  have k0 := (kp_two hd : Kp a H (upd (upd H dx (exd dx [("script", v1)])) a (exo a T.c_BadScript (some dx))))
  generalize upd (upd H dx (exd dx [("script", v1)])) a (exo a T.c_BadScript (some dx)) = H1 at ea ed k0 ⊢
  refine ⟨_, rfl, _, rfl, a, T.c_BadScript, rfl, T.i_BadScript.m.ox, T.nf_BadScript_index, .inr ⟨dx, _, ea, ed, by show 1 ≤ 900; decide, ?_⟩⟩
  exact q _ dx (kp_more k0 hd) hd hne (by rw [upd_ne hne.symm]; exact ea) upd_same
theorem ok_x_BadAspect (T : Tx P K mg) : FnOk P w K mg base CX0 1 T.a_x_BadAspect T.fd_x_BadAspect ["self", "index"] (spXI T.c_BadAspect ["index"]) := by
  obtain ⟨oc, od, kV, doc, pm, an, ct, osl, cc, cda, hfd, lk, hcd, SF⟩ := T.i_BadAspect.fn
  rw [hfd] at lk ⊢
  refine fn_super (k := 0) lk hcd sc_x_BadAspect rfl SF rfl (fun vs H Q E h => ?_) (fun A outer s H vs Q E hr h => ?_)
  · obtain ⟨a, ws, rfl, hl, _⟩ := h
    rw [List.length_cons, hl]
    rfl
  obtain ⟨a, ws, rfl, hl, ha, q⟩ := h
  match ws, hl, q with
  | [v1], _, q =>
  refine ⟨a, T.c_BadAspect, _, _, rfl, ha, T.i_BadAspect.sc, (pa_cons (pv 1) pa_nil), (pss_one (ps_ost (pv 0) (pv 1))), ?_⟩
  refine ⟨_, rfl, by show 1 ≤ 1000; decide, ha, ?_⟩
  refine ⟨_, rfl, _, rfl, a, T.c_BadAspect, rfl, T.i_BadAspect.m.ox, T.nf_BadAspect_index, .inl ⟨ha, fun dx hd hne => ?_⟩⟩
  exact q _ dx (kp_two hd) hd hne upd_same (by rw [upd_ne hne, upd_same]; rfl)
theorem ok_x_BadWhere (T : Tx P K mg) : FnOk P w K mg base CX0 1 T.a_x_BadWhere T.fd_x_BadWhere ["self", "number"] (spXI T.c_BadWhere ["number"]) := by
  obtain ⟨oc, od, kV, doc, pm, an, ct, osl, cc, cda, hfd, lk, hcd, SF⟩ := T.i_BadWhere.fn
  rw [hfd] at lk ⊢
  refine fn_super (k := 0) lk hcd sc_x_BadWhere rfl SF rfl (fun vs H Q E h => ?_) (fun A outer s H vs Q E hr h => ?_)
  · obtain ⟨a, ws, rfl, hl, _⟩ := h
    rw [List.length_cons, hl]
    rfl
  obtain ⟨a, ws, rfl, hl, ha, q⟩ := h
  match ws, hl, q with
  | [v1], _, q =>
  refine ⟨a, T.c_BadWhere, _, _, rfl, ha, T.i_BadWhere.sc, (pa_cons (pv 1) pa_nil), (pss_one (ps_ost (pv 0) (pv 1))), ?_⟩
  refine ⟨_, rfl, by show 1 ≤ 1000; decide, ha, ?_⟩
  refine ⟨_, rfl, _, rfl, a, T.c_BadWhere, rfl, T.i_BadWhere.m.ox, T.nf_BadWhere_number, .inl ⟨ha, fun dx hd hne => ?_⟩⟩
  exact q _ dx (kp_two hd) hd hne upd_same (by rw [upd_ne hne, upd_same]; rfl)
theorem ok_x_BadRelation (T : Tx P K mg) : FnOk P w K mg base CX0 1 T.a_x_BadRelation T.fd_x_BadRelation ["self", "relation"] (spXI T.c_BadRelation ["relation"]) := by
  obtain ⟨oc, od, kV, doc, pm, an, ct, osl, cc, cda, hfd, lk, hcd, SF⟩ := T.i_BadRelation.fn
  rw [hfd] at lk ⊢
  refine fn_super (k := 0) lk hcd sc_x_BadRelation rfl SF rfl (fun vs H Q E h => ?_) (fun A outer s H vs Q E hr h => ?_)
  · obtain ⟨a, ws, rfl, hl, _⟩ := h
    rw [List.length_cons, hl]
    rfl
  obtain ⟨a, ws, rfl, hl, ha, q⟩ := h
  match ws, hl, q with
  | [v1], _, q =>
  refine ⟨a, T.c_BadRelation, _, _, rfl, ha, T.i_BadRelation.sc, (pa_cons (pv 1) pa_nil), (pss_one (ps_ost (pv 0) (pv 1))), ?_⟩
  refine ⟨_, rfl, by show 1 ≤ 1000; decide, ha, ?_⟩
  refine ⟨_, rfl, _, rfl, a, T.c_BadRelation, rfl, T.i_BadRelation.m.ox, T.nf_BadRelation_relation, .inl ⟨ha, fun dx hd hne => ?_⟩⟩
  exact q _ dx (kp_two hd) hd hne upd_same (by rw [upd_ne hne, upd_same]; rfl)
theorem ok_x_NoNumber (T : Tx P K mg) : FnOk P w K mg base CX0 1 T.a_x_NoNumber T.fd_x_NoNumber ["self", "number"] (spXI T.c_NoNumber ["number"]) := by
  obtain ⟨oc, od, kV, doc, pm, an, ct, osl, cc, cda, hfd, lk, hcd, SF⟩ := T.i_NoNumber.fn
  rw [hfd] at lk ⊢
  refine fn_super (k := 0) lk hcd sc_x_NoNumber rfl SF rfl (fun vs H Q E h => ?_) (fun A outer s H vs Q E hr h => ?_)
  · obtain ⟨a, ws, rfl, hl, _⟩ := h
    rw [List.length_cons, hl]
    rfl
  obtain ⟨a, ws, rfl, hl, ha, q⟩ := h
  match ws, hl, q with
  | [v1], _, q =>
  refine ⟨a, T.c_NoNumber, _, _, rfl, ha, T.i_NoNumber.sc, (pa_cons (pv 1) pa_nil), (pss_one (ps_ost (pv 0) (pv 1))), ?_⟩
  refine ⟨_, rfl, by show 1 ≤ 1000; decide, ha, ?_⟩
  refine ⟨_, rfl, _, rfl, a, T.c_NoNumber, rfl, T.i_NoNumber.m.ox, T.nf_NoNumber_number, .inl ⟨ha, fun dx hd hne => ?_⟩⟩
  exact q _ dx (kp_two hd) hd hne upd_same (by rw [upd_ne hne, upd_same]; rfl)
theorem ok_x_InTheWay (T : Tx P K mg) : FnOk P w K mg base CX0 1 T.a_x_InTheWay T.fd_x_InTheWay ["self", "number"] (spXI T.c_InTheWay ["number"]) := by
  obtain ⟨oc, od, kV, doc, pm, an, ct, osl, cc, cda, hfd, lk, hcd, SF⟩ := T.i_InTheWay.fn
  rw [hfd] at lk ⊢
  refine fn_super (k := 0) lk hcd sc_x_InTheWay rfl SF rfl (fun vs H Q E h => ?_) (fun A outer s H vs Q E hr h => ?_)
  · obtain ⟨a, ws, rfl, hl, _⟩ := h
    rw [List.length_cons, hl]
    rfl
  obtain ⟨a, ws, rfl, hl, ha, q⟩ := h
  match ws, hl, q with
  | [v1], _, q =>
  refine ⟨a, T.c_InTheWay, _, _, rfl, ha, T.i_InTheWay.sc, (pa_cons (pv 1) pa_nil), (pss_one (ps_ost (pv 0) (pv 1))), ?_⟩
  refine ⟨_, rfl, by show 1 ≤ 1000; decide, ha, ?_⟩
  refine ⟨_, rfl, _, rfl, a, T.c_InTheWay, rfl, T.i_InTheWay.m.ox, T.nf_InTheWay_number, .inl ⟨ha, fun dx hd hne => ?_⟩⟩
  exact q _ dx (kp_two hd) hd hne upd_same (by rw [upd_ne hne, upd_same]; rfl)
theorem ok_x_BadPlan (T : Tx P K mg) : FnOk P w K mg base CX0 1 T.a_x_BadPlan T.fd_x_BadPlan ["self", "field"] (spXI T.c_BadPlan ["field"]) := by
  obtain ⟨oc, od, kV, doc, pm, an, ct, osl, cc, cda, hfd, lk, hcd, SF⟩ := T.i_BadPlan.fn
  rw [hfd] at lk ⊢
  refine fn_super (k := 0) lk hcd sc_x_BadPlan rfl SF rfl (fun vs H Q E h => ?_) (fun A outer s H vs Q E hr h => ?_)
  · obtain ⟨a, ws, rfl, hl, _⟩ := h
    rw [List.length_cons, hl]
    rfl
  obtain ⟨a, ws, rfl, hl, ha, q⟩ := h
  match ws, hl, q with
  | [v1], _, q =>
  refine ⟨a, T.c_BadPlan, _, _, rfl, ha, T.i_BadPlan.sc, (pa_cons (pv 1) pa_nil), (pss_one (ps_ost (pv 0) (pv 1))), ?_⟩
  refine ⟨_, rfl, by show 1 ≤ 1000; decide, ha, ?_⟩
  refine ⟨_, rfl, _, rfl, a, T.c_BadPlan, rfl, T.i_BadPlan.m.ox, T.nf_BadPlan_field, .inl ⟨ha, fun dx hd hne => ?_⟩⟩
  exact q _ dx (kp_two hd) hd hne upd_same (by rw [upd_ne hne, upd_same]; rfl)
theorem ok_x_NoVersion (T : Tx P K mg) : FnOk P w K mg base CX0 1 T.a_x_NoVersion T.fd_x_NoVersion ["self", "number"] (spXI T.c_NoVersion ["number"]) := by
  obtain ⟨oc, od, kV, doc, pm, an, ct, osl, cc, cda, hfd, lk, hcd, SF⟩ := T.i_NoVersion.fn
  rw [hfd] at lk ⊢
  refine fn_super (k := 0) lk hcd sc_x_NoVersion rfl SF rfl (fun vs H Q E h => ?_) (fun A outer s H vs Q E hr h => ?_)
  · obtain ⟨a, ws, rfl, hl, _⟩ := h
    rw [List.length_cons, hl]
    rfl
  obtain ⟨a, ws, rfl, hl, ha, q⟩ := h
  match ws, hl, q with
  | [v1], _, q =>
  refine ⟨a, T.c_NoVersion, _, _, rfl, ha, T.i_NoVersion.sc, (pa_cons (pv 1) pa_nil), (pss_one (ps_ost (pv 0) (pv 1))), ?_⟩
  refine ⟨_, rfl, by show 1 ≤ 1000; decide, ha, ?_⟩
  refine ⟨_, rfl, _, rfl, a, T.c_NoVersion, rfl, T.i_NoVersion.m.ox, T.nf_NoVersion_number, .inl ⟨ha, fun dx hd hne => ?_⟩⟩
  exact q _ dx (kp_two hd) hd hne upd_same (by rw [upd_ne hne, upd_same]; rfl)
theorem ok_x_NoBranch (T : Tx P K mg) : FnOk P w K mg base CX0 1 T.a_x_NoBranch T.fd_x_NoBranch ["self", "name"] (spXI T.c_NoBranch ["name"]) := by
  obtain ⟨oc, od, kV, doc, pm, an, ct, osl, cc, cda, hfd, lk, hcd, SF⟩ := T.i_NoBranch.fn
  rw [hfd] at lk ⊢
  refine fn_super (k := 0) lk hcd sc_x_NoBranch rfl SF rfl (fun vs H Q E h => ?_) (fun A outer s H vs Q E hr h => ?_)
  · obtain ⟨a, ws, rfl, hl, _⟩ := h
    rw [List.length_cons, hl]
    rfl
  obtain ⟨a, ws, rfl, hl, ha, q⟩ := h
  match ws, hl, q with
  | [v1], _, q =>
  refine ⟨a, T.c_NoBranch, _, _, rfl, ha, T.i_NoBranch.sc, (pa_cons (pv 1) pa_nil), (pss_one (ps_ost (pv 0) (pv 1))), ?_⟩
  refine ⟨_, rfl, by show 1 ≤ 1000; decide, ha, ?_⟩
  refine ⟨_, rfl, _, rfl, a, T.c_NoBranch, rfl, T.i_NoBranch.m.ox, T.nf_NoBranch_name, .inl ⟨ha, fun dx hd hne => ?_⟩⟩
  exact q _ dx (kp_two hd) hd hne upd_same (by rw [upd_ne hne, upd_same]; rfl)
theorem ok_x_UsedName (T : Tx P K mg) : FnOk P w K mg base CX0 1 T.a_x_UsedName T.fd_x_UsedName ["self", "name"] (spXI T.c_UsedName ["name"]) := by
  obtain ⟨oc, od, kV, doc, pm, an, ct, osl, cc, cda, hfd, lk, hcd, SF⟩ := T.i_UsedName.fn
  rw [hfd] at lk ⊢
  refine fn_super (k := 0) lk hcd sc_x_UsedName rfl SF rfl (fun vs H Q E h => ?_) (fun A outer s H vs Q E hr h => ?_)
  · obtain ⟨a, ws, rfl, hl, _⟩ := h
    rw [List.length_cons, hl]
    rfl
  obtain ⟨a, ws, rfl, hl, ha, q⟩ := h
  match ws, hl, q with
  | [v1], _, q =>
  refine ⟨a, T.c_UsedName, _, _, rfl, ha, T.i_UsedName.sc, (pa_cons (pv 1) pa_nil), (pss_one (ps_ost (pv 0) (pv 1))), ?_⟩
  refine ⟨_, rfl, by show 1 ≤ 1000; decide, ha, ?_⟩
  refine ⟨_, rfl, _, rfl, a, T.c_UsedName, rfl, T.i_UsedName.m.ox, T.nf_UsedName_name, .inl ⟨ha, fun dx hd hne => ?_⟩⟩
  exact q _ dx (kp_two hd) hd hne upd_same (by rw [upd_ne hne, upd_same]; rfl)
theorem ok_x_NoDeed (T : Tx P K mg) : FnOk P w K mg base CX0 1 T.a_x_NoDeed T.fd_x_NoDeed ["self", "name"] (spXI T.c_NoDeed ["name"]) := by
  obtain ⟨oc, od, kV, doc, pm, an, ct, osl, cc, cda, hfd, lk, hcd, SF⟩ := T.i_NoDeed.fn
  rw [hfd] at lk ⊢
  refine fn_super (k := 0) lk hcd sc_x_NoDeed rfl SF rfl (fun vs H Q E h => ?_) (fun A outer s H vs Q E hr h => ?_)
  · obtain ⟨a, ws, rfl, hl, _⟩ := h
    rw [List.length_cons, hl]
    rfl
  obtain ⟨a, ws, rfl, hl, ha, q⟩ := h
  match ws, hl, q with
  | [v1], _, q =>
  refine ⟨a, T.c_NoDeed, _, _, rfl, ha, T.i_NoDeed.sc, (pa_cons (pv 1) pa_nil), (pss_one (ps_ost (pv 0) (pv 1))), ?_⟩
  refine ⟨_, rfl, by show 1 ≤ 1000; decide, ha, ?_⟩
  refine ⟨_, rfl, _, rfl, a, T.c_NoDeed, rfl, T.i_NoDeed.m.ox, T.nf_NoDeed_name, .inl ⟨ha, fun dx hd hne => ?_⟩⟩
  exact q _ dx (kp_two hd) hd hne upd_same (by rw [upd_ne hne, upd_same]; rfl)
theorem ok_x_BadDeed (T : Tx P K mg) : FnOk P w K mg base CX0 1 T.a_x_BadDeed T.fd_x_BadDeed ["self", "name"] (spXI T.c_BadDeed ["name"]) := by
  obtain ⟨oc, od, kV, doc, pm, an, ct, osl, cc, cda, hfd, lk, hcd, SF⟩ := T.i_BadDeed.fn
  rw [hfd] at lk ⊢
  refine fn_super (k := 0) lk hcd sc_x_BadDeed rfl SF rfl (fun vs H Q E h => ?_) (fun A outer s H vs Q E hr h => ?_)
  · obtain ⟨a, ws, rfl, hl, _⟩ := h
    rw [List.length_cons, hl]
    rfl
  obtain ⟨a, ws, rfl, hl, ha, q⟩ := h
  match ws, hl, q with
  | [v1], _, q =>
  refine ⟨a, T.c_BadDeed, _, _, rfl, ha, T.i_BadDeed.sc, (pa_cons (pv 1) pa_nil), (pss_one (ps_ost (pv 0) (pv 1))), ?_⟩
  refine ⟨_, rfl, by show 1 ≤ 1000; decide, ha, ?_⟩
  refine ⟨_, rfl, _, rfl, a, T.c_BadDeed, rfl, T.i_BadDeed.m.ox, T.nf_BadDeed_name, .inl ⟨ha, fun dx hd hne => ?_⟩⟩
  exact q _ dx (kp_two hd) hd hne upd_same (by rw [upd_ne hne, upd_same]; rfl)
theorem ok_x_BadRule (T : Tx P K mg) : FnOk P w K mg base CX0 1 T.a_x_BadRule T.fd_x_BadRule ["self", "name"] (spXI T.c_BadRule ["name"]) := by
  obtain ⟨oc, od, kV, doc, pm, an, ct, osl, cc, cda, hfd, lk, hcd, SF⟩ := T.i_BadRule.fn
  rw [hfd] at lk ⊢
  refine fn_super (k := 0) lk hcd sc_x_BadRule rfl SF rfl (fun vs H Q E h => ?_) (fun A outer s H vs Q E hr h => ?_)
  · obtain ⟨a, ws, rfl, hl, _⟩ := h
    rw [List.length_cons, hl]
    rfl
  obtain ⟨a, ws, rfl, hl, ha, q⟩ := h
  match ws, hl, q with
  | [v1], _, q =>
  refine ⟨a, T.c_BadRule, _, _, rfl, ha, T.i_BadRule.sc, (pa_cons (pv 1) pa_nil), (pss_one (ps_ost (pv 0) (pv 1))), ?_⟩
  refine ⟨_, rfl, by show 1 ≤ 1000; decide, ha, ?_⟩
  refine ⟨_, rfl, _, rfl, a, T.c_BadRule, rfl, T.i_BadRule.m.ox, T.nf_BadRule_name, .inl ⟨ha, fun dx hd hne => ?_⟩⟩
  exact q _ dx (kp_two hd) hd hne upd_same (by rw [upd_ne hne, upd_same]; rfl)
theorem ok_x_Ring (T : Tx P K mg) : FnOk P w K mg base CX0 1 T.a_x_Ring T.fd_x_Ring ["self", "name"] (spXI T.c_Ring ["name"]) := by
  obtain ⟨oc, od, kV, doc, pm, an, ct, osl, cc, cda, hfd, lk, hcd, SF⟩ := T.i_Ring.fn
  rw [hfd] at lk ⊢
  refine fn_super (k := 0) lk hcd sc_x_Ring rfl SF rfl (fun vs H Q E h => ?_) (fun A outer s H vs Q E hr h => ?_)
  · obtain ⟨a, ws, rfl, hl, _⟩ := h
    rw [List.length_cons, hl]
    rfl
  obtain ⟨a, ws, rfl, hl, ha, q⟩ := h
  match ws, hl, q with
  | [v1], _, q =>
  refine ⟨a, T.c_Ring, _, _, rfl, ha, T.i_Ring.sc, (pa_cons (pv 1) pa_nil), (pss_one (ps_ost (pv 0) (pv 1))), ?_⟩
  refine ⟨_, rfl, by show 1 ≤ 1000; decide, ha, ?_⟩
  refine ⟨_, rfl, _, rfl, a, T.c_Ring, rfl, T.i_Ring.m.ox, T.nf_Ring_name, .inl ⟨ha, fun dx hd hne => ?_⟩⟩
  exact q _ dx (kp_two hd) hd hne upd_same (by rw [upd_ne hne, upd_same]; rfl)
theorem ok_x_NoRule (T : Tx P K mg) : FnOk P w K mg base CX0 1 T.a_x_NoRule T.fd_x_NoRule ["self", "root"] (spXI T.c_NoRule ["root"]) := by
  obtain ⟨oc, od, kV, doc, pm, an, ct, osl, cc, cda, hfd, lk, hcd, SF⟩ := T.i_NoRule.fn
  rw [hfd] at lk ⊢
  refine fn_super (k := 0) lk hcd sc_x_NoRule rfl SF rfl (fun vs H Q E h => ?_) (fun A outer s H vs Q E hr h => ?_)
  · obtain ⟨a, ws, rfl, hl, _⟩ := h
    rw [List.length_cons, hl]
    rfl
  obtain ⟨a, ws, rfl, hl, ha, q⟩ := h
  match ws, hl, q with
  | [v1], _, q =>
  refine ⟨a, T.c_NoRule, _, _, rfl, ha, T.i_NoRule.sc, (pa_cons (pv 1) pa_nil), (pss_one (ps_ost (pv 0) (pv 1))), ?_⟩
  refine ⟨_, rfl, by show 1 ≤ 1000; decide, ha, ?_⟩
  refine ⟨_, rfl, _, rfl, a, T.c_NoRule, rfl, T.i_NoRule.m.ox, T.nf_NoRule_root, .inl ⟨ha, fun dx hd hne => ?_⟩⟩
  exact q _ dx (kp_two hd) hd hne upd_same (by rw [upd_ne hne, upd_same]; rfl)
theorem ok_x_BadRank (T : Tx P K mg) : FnOk P w K mg base CX0 1 T.a_x_BadRank T.fd_x_BadRank ["self", "number"] (spXI T.c_BadRank ["number"]) := by
  obtain ⟨oc, od, kV, doc, pm, an, ct, osl, cc, cda, hfd, lk, hcd, SF⟩ := T.i_BadRank.fn
  rw [hfd] at lk ⊢
  refine fn_super (k := 0) lk hcd sc_x_BadRank rfl SF rfl (fun vs H Q E h => ?_) (fun A outer s H vs Q E hr h => ?_)
  · obtain ⟨a, ws, rfl, hl, _⟩ := h
    rw [List.length_cons, hl]
    rfl
  obtain ⟨a, ws, rfl, hl, ha, q⟩ := h
  match ws, hl, q with
  | [v1], _, q =>
  refine ⟨a, T.c_BadRank, _, _, rfl, ha, T.i_BadRank.sc, (pa_cons (pv 1) pa_nil), (pss_one (ps_ost (pv 0) (pv 1))), ?_⟩
  refine ⟨_, rfl, by show 1 ≤ 1000; decide, ha, ?_⟩
  refine ⟨_, rfl, _, rfl, a, T.c_BadRank, rfl, T.i_BadRank.m.ox, T.nf_BadRank_number, .inl ⟨ha, fun dx hd hne => ?_⟩⟩
  exact q _ dx (kp_two hd) hd hne upd_same (by rw [upd_ne hne, upd_same]; rfl)
theorem ok_x_UsedLabel (T : Tx P K mg) : FnOk P w K mg base CX0 1 T.a_x_UsedLabel T.fd_x_UsedLabel ["self", "label"] (spXI T.c_UsedLabel ["label"]) := by
  obtain ⟨oc, od, kV, doc, pm, an, ct, osl, cc, cda, hfd, lk, hcd, SF⟩ := T.i_UsedLabel.fn
  rw [hfd] at lk ⊢
  refine fn_super (k := 0) lk hcd sc_x_UsedLabel rfl SF rfl (fun vs H Q E h => ?_) (fun A outer s H vs Q E hr h => ?_)
  · obtain ⟨a, ws, rfl, hl, _⟩ := h
    rw [List.length_cons, hl]
    rfl
  obtain ⟨a, ws, rfl, hl, ha, q⟩ := h
  match ws, hl, q with
  | [v1], _, q =>
  refine ⟨a, T.c_UsedLabel, _, _, rfl, ha, T.i_UsedLabel.sc, (pa_cons (pv 1) pa_nil), (pss_one (ps_ost (pv 0) (pv 1))), ?_⟩
  refine ⟨_, rfl, by show 1 ≤ 1000; decide, ha, ?_⟩
  refine ⟨_, rfl, _, rfl, a, T.c_UsedLabel, rfl, T.i_UsedLabel.m.ox, T.nf_UsedLabel_label, .inl ⟨ha, fun dx hd hne => ?_⟩⟩
  exact q _ dx (kp_two hd) hd hne upd_same (by rw [upd_ne hne, upd_same]; rfl)
theorem ok_x_NoLabel (T : Tx P K mg) : FnOk P w K mg base CX0 1 T.a_x_NoLabel T.fd_x_NoLabel ["self", "label"] (spXI T.c_NoLabel ["label"]) := by
  obtain ⟨oc, od, kV, doc, pm, an, ct, osl, cc, cda, hfd, lk, hcd, SF⟩ := T.i_NoLabel.fn
  rw [hfd] at lk ⊢
  refine fn_super (k := 0) lk hcd sc_x_NoLabel rfl SF rfl (fun vs H Q E h => ?_) (fun A outer s H vs Q E hr h => ?_)
  · obtain ⟨a, ws, rfl, hl, _⟩ := h
    rw [List.length_cons, hl]
    rfl
  obtain ⟨a, ws, rfl, hl, ha, q⟩ := h
  match ws, hl, q with
  | [v1], _, q =>
  refine ⟨a, T.c_NoLabel, _, _, rfl, ha, T.i_NoLabel.sc, (pa_cons (pv 1) pa_nil), (pss_one (ps_ost (pv 0) (pv 1))), ?_⟩
  refine ⟨_, rfl, by show 1 ≤ 1000; decide, ha, ?_⟩
  refine ⟨_, rfl, _, rfl, a, T.c_NoLabel, rfl, T.i_NoLabel.m.ox, T.nf_NoLabel_label, .inl ⟨ha, fun dx hd hne => ?_⟩⟩
  exact q _ dx (kp_two hd) hd hne upd_same (by rw [upd_ne hne, upd_same]; rfl)
theorem ok_x_BadLog (T : Tx P K mg) : FnOk P w K mg base CX0 1 T.a_x_BadLog T.fd_x_BadLog ["self", "index"] (spXI T.c_BadLog ["index"]) := by
  obtain ⟨oc, od, kV, doc, pm, an, ct, osl, cc, cda, hfd, lk, hcd, SF⟩ := T.i_BadLog.fn
  rw [hfd] at lk ⊢
  refine fn_super (k := 0) lk hcd sc_x_BadLog rfl SF rfl (fun vs H Q E h => ?_) (fun A outer s H vs Q E hr h => ?_)
  · obtain ⟨a, ws, rfl, hl, _⟩ := h
    rw [List.length_cons, hl]
    rfl
  obtain ⟨a, ws, rfl, hl, ha, q⟩ := h
  match ws, hl, q with
  | [v1], _, q =>
  refine ⟨a, T.c_BadLog, _, _, rfl, ha, T.i_BadLog.sc, (pa_cons (pv 1) pa_nil), (pss_one (ps_ost (pv 0) (pv 1))), ?_⟩
  refine ⟨_, rfl, by show 1 ≤ 1000; decide, ha, ?_⟩
  refine ⟨_, rfl, _, rfl, a, T.c_BadLog, rfl, T.i_BadLog.m.ox, T.nf_BadLog_index, .inl ⟨ha, fun dx hd hne => ?_⟩⟩
  exact q _ dx (kp_two hd) hd hne upd_same (by rw [upd_ne hne, upd_same]; rfl)
end
end Toy
set_option Elab.async false
set_option linter.all false
set_option maxRecDepth 100000
set_option maxHeartbeats 4000000
namespace Toy
open PySem L2 Sh
/-! ### rows of errors -/
def Tx.cs {P : Program} {K : PySem.W.Frag} {mg : Str → Option Value} (T : Tx P K mg) : List Addr := [T.c_BadLetters, T.c_TooMany, T.c_BadRow, T.c_Lone, T.c_NoPlace, T.c_BadItem, T.c_BadKind, T.c_BadName, T.c_NotExact, T.c_BadSize, T.c_BadValues, T.c_BadStatement, T.c_BadText, T.c_BadCall, T.c_BadWord, T.c_BadValue, T.c_BadScript, T.c_BadAspect, T.c_BadWhere, T.c_BadRelation, T.c_NoNumber, T.c_InTheWay, T.c_BadPlan, T.c_OtherLetters, T.c_NoVersion, T.c_NoBranch, T.c_UsedName, T.c_NoDeed, T.c_BadDeed, T.c_BrokenRule, T.c_BadRule, T.c_Ring, T.c_NoRule, T.c_BadRank, T.c_UsedLabel, T.c_NoLabel, T.c_BadLog]
theorem Tx.xs {P : Program} {K : PySem.W.Frag} {mg : Str → Option Value} (T : Tx P K mg) : ∀ C ∈ T.cs, XCls K T.c_ShedError C := by
  intro C h
  simp only [Tx.cs, List.mem_cons, List.not_mem_nil, or_false] at h
  rcases h with rfl | rfl | rfl | rfl | rfl | rfl | rfl | rfl | rfl | rfl | rfl | rfl | rfl | rfl | rfl | rfl | rfl | rfl | rfl | rfl | rfl | rfl | rfl | rfl | rfl | rfl | rfl | rfl | rfl | rfl | rfl | rfl | rfl | rfl | rfl | rfl | rfl
  · exact T.x_BadLetters
  · exact T.x_TooMany
  · exact T.x_BadRow
  · exact T.x_Lone
  · exact T.x_NoPlace
  · exact T.x_BadItem
  · exact T.x_BadKind
  · exact T.x_BadName
  · exact T.x_NotExact
  · exact T.x_BadSize
  · exact T.x_BadValues
  · exact T.x_BadStatement
  · exact T.x_BadText
  · exact T.x_BadCall
  · exact T.x_BadWord
  · exact T.x_BadValue
  · exact T.x_BadScript
  · exact T.x_BadAspect
  · exact T.x_BadWhere
  · exact T.x_BadRelation
  · exact T.x_NoNumber
  · exact T.x_InTheWay
  · exact T.x_BadPlan
  · exact T.x_OtherLetters
  · exact T.x_NoVersion
  · exact T.x_NoBranch
  · exact T.x_UsedName
  · exact T.x_NoDeed
  · exact T.x_BadDeed
  · exact T.x_BrokenRule
  · exact T.x_BadRule
  · exact T.x_Ring
  · exact T.x_NoRule
  · exact T.x_BadRank
  · exact T.x_UsedLabel
  · exact T.x_NoLabel
  · exact T.x_BadLog
section
variable {P : Program} {w : World} {K : PySem.W.Frag} {mg : Str → Option Value} {base : Heap}
/-- an error of the i-th class -/
def ErrI (T : Tx P K mg) (H : Hp) (a : Addr) (i : Nat) : Prop := ∃ C d, T.cs[i]? = some C ∧ H a = some (exo a C d) ∧ ∀ dx, d = some dx → ∃ fs, H dx = some (exd dx fs)
theorem ErrI.same {T : Tx P K mg} {H H' : Hp} {a : Addr} {i : Nat} (s : Same H H') (h : ErrI T H a i) : ErrI T H' a i := by
  obtain ⟨C, d, h1, h2, h3⟩ := h
  exact ⟨C, d, h1, s _ _ h2, fun dx e => let ⟨fs, q⟩ := h3 dx e; ⟨fs, s _ _ q⟩⟩
/-- (i, error), the error's field f holds x -/
def RowE (T : Tx P K mg) (H : Hp) (f : Str) (x v : V) (i : Nat) : Prop := ∃ t a C, v = .ref t ∧ H t = some (.tup [.int i, .ref a]) ∧ T.cs[i]? = some C ∧ ErrAt H a C [(f, x)] ∧ PySem.W.findIn K (.ref C) f = some none
theorem RowE.same {T : Tx P K mg} {H H' : Hp} {f : Str} {x v : V} {i : Nat} (s : Same H H') (h : RowE T H f x v i) : RowE T H' f x v i := by
  obtain ⟨t, a, C, h1, h2, h3, h4, h5⟩ := h
  exact ⟨t, a, C, h1, s _ _ h2, h3, h4.same s, h5⟩
/-- (i, error, x) -/
def RowT (T : Tx P K mg) (H : Hp) (x v : V) (i : Nat) : Prop := ∃ t a, v = .ref t ∧ H t = some (.tup [.int i, .ref a, x]) ∧ ErrI T H a i
theorem RowT.same {T : Tx P K mg} {H H' : Hp} {x v : V} {i : Nat} (s : Same H H') (h : RowT T H x v i) : RowT T H' x v i := by
  obtain ⟨t, a, h1, h2, h3⟩ := h
  exact ⟨t, a, h1, s _ _ h2, h3.same s⟩
theorem paired_mono {α β : Type} {R S : α → β → Prop} (f : ∀ a b, R a b → S a b) : ∀ {xs : List α} {ys : List β}, Paired R xs ys → Paired S xs ys
  | _, _, .nil => .nil
  | _, _, .cons h t => .cons (f _ _ h) (paired_mono f t)
theorem paired_get {α β : Type} {R : α → β → Prop} : ∀ {xs : List α} {ys : List β} {n : Nat} {x : α}, Paired R xs ys → xs[n]? = some x → ∃ y, ys[n]? = some y ∧ R x y
  | _ :: _, _ :: _, 0, _, .cons h _, e => by cases e; exact ⟨_, rfl, h⟩
  | _ :: _, _ :: _, n + 1, x, .cons _ t, e => by
    obtain ⟨y, h1, h2⟩ := paired_get (n := n) (x := x) t (by simpa using e)
    exact ⟨y, by simpa using h1, h2⟩
theorem paired_app {α β : Type} {R : α → β → Prop} : ∀ {xs xs' : List α} {ys ys' : List β}, Paired R xs ys → Paired R xs' ys' → Paired R (xs ++ xs') (ys ++ ys')
  | _, _, _, _, .nil, h => h
  | _, _, _, _, .cons a t, h => .cons a (paired_app t h)
theorem paired_take {α β : Type} {R : α → β → Prop} : ∀ {xs : List α} {ys : List β} (n : Nat), Paired R xs ys → Paired R (xs.take n) (ys.take n)
  | _, _, 0, _ => .nil
  | _, _, _ + 1, .nil => .nil
  | _, _, n + 1, .cons h t => .cons h (paired_take n t)
theorem take_nx {α : Type} {xs : List α} {i : Nat} {x : α} (h : xs[i]? = some x) : xs.take i ++ [x] = xs.take (i + 1) := by
  rw [List.take_add_one, h]
  rfl
theorem tupW {c : V} {te : TE} {σ : L2.St} {H : Hp} {Q : VK} (h : te σ H (fun v H1 => [c, v].length ≤ sizeLine ∧ ∀ p, H1 p = none → Q (.ref p) (upd H1 p (.tup [c, v])))) : tTup (tCons (tC c) (tCons te tNil)) σ H Q := h
theorem mk_row {T : Tx P K mg} {C : Addr} {f : Str} {i n m : Nat} {x : V} {t tk : TA} {σ : L2.St} {H : Hp} {Q : VK} {vs zs : List V} (hC : T.cs[i]? = some C) (hf : PySem.W.findIn K (.ref C) f = some none)
    (h1 : ∀ R : List V → Hp → Prop, R vs H → t σ H R) (h2 : ∀ R : List V → Hp → Prop, R zs H → tk σ H R) (l1 : vs.length = n) (l2 : zs.length = m) (e : rotV vs zs = [x])
    (q : ∀ H' v, Same H H' → RowE T H' f x v i → Q v H') : tTup (tCons (tC (.int (i : Nat))) (tCons (tOex C n m (spXI C [f]) rotV t tk) tNil)) σ H Q := by
  have l3 : n + m = [f].length := by
    have := congrArg List.length e
    unfold rotV at this
    rw [List.length_append, List.length_append, List.length_drop, List.length_take] at this
    simp at this ⊢
    omega
  refine tupW (mk_err h1 h2 l1 l2 l3 fun H1 a s1 er => ?_)
  rw [e] at er
  refine ⟨by show 2 ≤ sizeLine; decide, fun p hp => ?_⟩
  have s2 := same_upd (o := .tup [V.int (i : Nat), V.ref a]) hp
  exact q _ _ (s1.trans s2) ⟨p, a, C, rfl, upd_same, hC, er.same s2, hf⟩
theorem lc_rows (T : Tx P K mg) {f : Str} {x : V} {σ : L2.St} {H : Hp} {Q : VK} {D : Addr} {rs : List V} {is : List Nat} (hσ : σ[1]? = some (some (.ref D))) (hl : σ.length = 4) (hD : H D = some (.lst rs)) (hr : Paired (RowE T H f x) rs is) (hn : rs.length ≤ 100)
    (q : ∀ H' D' rs', Same H H' → H' D' = some (.lst rs') → Paired (RowT T H' x) rs' is → Q (.ref D') H') :
    tLc (iList K (tVar 1)) (gTup K 2 (gCons (gName 2) (gCons (gName 3) gNil))) tYes (tTup (tCons (tVar 2) (tCons (tVar 3) (tCons (tXGet K f (tVar 3)) tNil)))) [2, 3] σ H Q := by
  refine ⟨_, hσ, D, rfl, ⟨_, SqL.of hD⟩, fun E nE => ?_⟩
  refine lc_list (K := K) (a := D) (xs := rs) (fun n H2 => Same H H2 ∧ ∃ rs', H2 E = some (.lst rs') ∧ rs'.length = n ∧ Paired (RowT T H2 x) rs' (is.take n)) ⟨same_upd nE, [], upd_same, rfl, .nil⟩ (fun n H2 _ ⟨s2, _⟩ => SqL.of (s2 _ _ hD)) ?_ ?_
  · rintro n v H2 hv ⟨s2, rs', hE, hlen, hp⟩
    obtain ⟨i, hi, t, a, C, rfl, ht, hC, ⟨dx, e1, e2⟩, hf⟩ := paired_get hr hv
    have hnl : n < rs.length := (List.getElem?_eq_some_iff.mp hv).1
    refine ⟨t, _, rfl, SqT.of (s2 _ _ ht), rfl, _, _, rfl, _, _, rfl, rfl, ?_, yes_ite ?_⟩
    · match σ, hl with
      | [_, _, _, _], _ => rfl
    · have g2 : (((wipe σ [2, 3]).set 2 (some (V.int (i : Nat)))).set 3 (some (V.ref a)))[2]? = some (some (V.int (i : Nat))) := by
        match σ, hl with
        | [_, _, _, _], _ => rfl
      have g3 : (((wipe σ [2, 3]).set 2 (some (V.int (i : Nat)))).set 3 (some (V.ref a)))[3]? = some (some (V.ref a)) := by
        match σ, hl with
        | [_, _, _, _], _ => rfl
      refine ⟨_, g2, _, g3, _, g3, a, C, dx, _, x, rfl, (T.xs C (List.mem_of_getElem? hC)).r, hf, s2 _ _ e1, s2 _ _ e2, by simp [List.lookup], by show 3 ≤ sizeLine; decide, fun p hp' => ?_⟩
      have s3 := same_upd (o := .tup [V.int (i : Nat), V.ref a, x]) hp'
      refine ⟨rs', s3 _ _ hE, Nat.lt_of_le_of_lt (show rs'.length ≤ 100 by omega) (by decide), ?_, rs' ++ [.ref p], upd_same, by rw [List.length_append, hlen]; rfl, ?_⟩
      · intro b o z
        rw [upd_ne (ne_of_none z nE)]
        exact s3 _ _ (s2 _ _ z)
      · have keep : ∀ H3 v j, H3 E = some (.lst rs') → RowT T H3 x v j → RowT T (upd H3 E (.lst (rs' ++ [.ref p]))) x v j := fun H3 v j hE3 ⟨t', a', r1, r2, C', d', r3, r4, r5⟩ => by
          have ne : ∀ {b : Addr} {u : HO}, H3 b = some u → u ≠ .lst rs' → (upd H3 E (.lst (rs' ++ [.ref p]))) b = some u := fun {b u} z z' => by
            rw [upd_ne (fun y => z' (by rw [y, hE3] at z; exact (Option.some.inj z).symm))]
            exact z
          refine ⟨t', a', r1, ne r2 (fun z => nomatch z), C', d', r3, ne r4 (fun z => nomatch z), fun dx' z => ?_⟩
          obtain ⟨fs, q'⟩ := r5 dx' z
          exact ⟨fs, ne q' (fun z => nomatch z)⟩
        rw [← take_nx hi]
        refine paired_app (paired_mono (fun v j h => keep _ v j (s3 _ _ hE) (h.same s3)) hp) (.cons (keep _ _ _ (s3 _ _ hE) ⟨p, a, rfl, upd_same, C, some dx, hC, s3 _ _ (s2 _ _ e1), fun dx' z => ?_⟩) .nil)
        cases z
        exact ⟨_, s3 _ _ (s2 _ _ e2)⟩
  · rintro H2 ⟨s2, rs', hE, hlen, hp⟩
    refine q _ _ _ s2 hE ?_
    have e : is.take rs.length = is := List.take_of_length_le (by rw [Paired.length hr]; exact Nat.le_refl _)
    rw [← e]
    exact hp
end
end Toy
set_option Elab.async false
set_option linter.all false
set_option maxRecDepth 100000
set_option maxHeartbeats 4000000
namespace Toy
open PySem L2 Sh
/-! ### the errors of one field -/
section
variable {P : Program} {w : World} {K : PySem.W.Frag} {mg : Str → Option Value} {base : Heap}
theorem lstW {te : TE} {u : TA} {σ : L2.St} {H : Hp} {Q : VK} (h : te σ H (fun v H1 => u σ H1 (fun vs H2 => (v :: vs).length ≤ sizeLine ∧ ∀ p, H2 p = none → Q (.ref p) (upd H2 p (.lst (v :: vs)))))) : tLst (tCons te u) σ H Q := h
def spRows (T : Tx P K mg) (is : List Nat) : Sp := fun vs H Q _ => ∃ x, vs = [x] ∧ ∀ H' D rs, Same H H' → H' D = some (.lst rs) → Paired (RowT T H' x) rs is → Q (.ref D) H'
theorem ok_l_of_numbers (T : Tx P K mg) : FnOk P w K mg base CX0 3 T.a_l_of_numbers T.fd_l_of_numbers ["_law_thing"] (spRows T [2, 2, 5, 5, 13, 13, 14, 14, 15, 15, 18, 18, 20, 20, 21, 21, 24, 24, 33, 33]) := by
  refine T.F_l_of_numbers.ok sc_l_of_numbers (fun vs H Q E h => ?_) (fun cdv A outer s H vs Q E hr h => ?_)
  · obtain ⟨x, rfl, _⟩ := h
    rfl
  obtain ⟨x, rfl, q⟩ := h
  refine ⟨_, (pss_cons (ps_set (i := 1) sc_l_of_numbers.nd rfl (by first | exact Or.inl rfl | exact Or.inr rfl) (pe_lst (pa_cons (pe_tup (pa_cons pe_int (pa_cons (pe_oexN T.i_BadRow.m (ok_x_BadRow T) (hr.mono (by decide)) (by rfl) T.m_BadRow T.kb_BadRow_1 pass0 (pa_cons (pv 0) pa_nil) pk_nil) pa_nil))) (pa_cons (pe_tup (pa_cons pe_int (pa_cons (pe_oex0 T.i_BadRow.m (ok_x_BadRow T) (hr.mono (by decide)) (by rfl) T.m_BadRow T.kb_BadRow_0_number pass0 (pk_cons (pv 0) pk_nil)) pa_nil))) (pa_cons (pe_tup (pa_cons pe_int (pa_cons (pe_oexN T.i_BadItem.m (ok_x_BadItem T) (hr.mono (by decide)) (by rfl) T.m_BadItem T.kb_BadItem_1 pass0 (pa_cons (pv 0) pa_nil) pk_nil) pa_nil))) (pa_cons (pe_tup (pa_cons pe_int (pa_cons (pe_oex0 T.i_BadItem.m (ok_x_BadItem T) (hr.mono (by decide)) (by rfl) T.m_BadItem T.kb_BadItem_0_number pass0 (pk_cons (pv 0) pk_nil)) pa_nil))) pa_nil))))))
 (pss_cons (ps_set (i := 1) sc_l_of_numbers.nd rfl (by first | exact Or.inl rfl | exact Or.inr rfl) (pe_op op_cat (pv 1) (pe_lst (pa_cons (pe_tup (pa_cons pe_int (pa_cons (pe_oexN T.i_BadCall.m (ok_x_BadCall T) (hr.mono (by decide)) (by rfl) T.m_BadCall T.kb_BadCall_1 pass0 (pa_cons (pv 0) pa_nil) pk_nil) pa_nil))) (pa_cons (pe_tup (pa_cons pe_int (pa_cons (pe_oex0 T.i_BadCall.m (ok_x_BadCall T) (hr.mono (by decide)) (by rfl) T.m_BadCall T.kb_BadCall_0_number pass0 (pk_cons (pv 0) pk_nil)) pa_nil))) (pa_cons (pe_tup (pa_cons pe_int (pa_cons (pe_oexN T.i_BadWord.m (ok_x_BadWord T) (hr.mono (by decide)) (by rfl) T.m_BadWord T.kb_BadWord_1 pass0 (pa_cons (pv 0) pa_nil) pk_nil) pa_nil))) pa_nil))))))
 (pss_cons (ps_set (i := 1) sc_l_of_numbers.nd rfl (by first | exact Or.inl rfl | exact Or.inr rfl) (pe_op op_cat (pv 1) (pe_lst (pa_cons (pe_tup (pa_cons pe_int (pa_cons (pe_oex0 T.i_BadWord.m (ok_x_BadWord T) (hr.mono (by decide)) (by rfl) T.m_BadWord T.kb_BadWord_0_number pass0 (pk_cons (pv 0) pk_nil)) pa_nil))) (pa_cons (pe_tup (pa_cons pe_int (pa_cons (pe_oexN T.i_BadValue.m (ok_x_BadValue T) (hr.mono (by decide)) (by rfl) T.m_BadValue T.kb_BadValue_1 pass0 (pa_cons (pv 0) pa_nil) pk_nil) pa_nil))) (pa_cons (pe_tup (pa_cons pe_int (pa_cons (pe_oex0 T.i_BadValue.m (ok_x_BadValue T) (hr.mono (by decide)) (by rfl) T.m_BadValue T.kb_BadValue_0_number pass0 (pk_cons (pv 0) pk_nil)) pa_nil))) pa_nil))))))
 (pss_cons (ps_set (i := 1) sc_l_of_numbers.nd rfl (by first | exact Or.inl rfl | exact Or.inr rfl) (pe_op op_cat (pv 1) (pe_lst (pa_cons (pe_tup (pa_cons pe_int (pa_cons (pe_oexN T.i_BadWhere.m (ok_x_BadWhere T) (hr.mono (by decide)) (by rfl) T.m_BadWhere T.kb_BadWhere_1 pass0 (pa_cons (pv 0) pa_nil) pk_nil) pa_nil))) (pa_cons (pe_tup (pa_cons pe_int (pa_cons (pe_oex0 T.i_BadWhere.m (ok_x_BadWhere T) (hr.mono (by decide)) (by rfl) T.m_BadWhere T.kb_BadWhere_0_number pass0 (pk_cons (pv 0) pk_nil)) pa_nil))) (pa_cons (pe_tup (pa_cons pe_int (pa_cons (pe_oexN T.i_NoNumber.m (ok_x_NoNumber T) (hr.mono (by decide)) (by rfl) T.m_NoNumber T.kb_NoNumber_1 pass0 (pa_cons (pv 0) pa_nil) pk_nil) pa_nil))) pa_nil))))))
 (pss_cons (ps_set (i := 1) sc_l_of_numbers.nd rfl (by first | exact Or.inl rfl | exact Or.inr rfl) (pe_op op_cat (pv 1) (pe_lst (pa_cons (pe_tup (pa_cons pe_int (pa_cons (pe_oex0 T.i_NoNumber.m (ok_x_NoNumber T) (hr.mono (by decide)) (by rfl) T.m_NoNumber T.kb_NoNumber_0_number pass0 (pk_cons (pv 0) pk_nil)) pa_nil))) (pa_cons (pe_tup (pa_cons pe_int (pa_cons (pe_oexN T.i_InTheWay.m (ok_x_InTheWay T) (hr.mono (by decide)) (by rfl) T.m_InTheWay T.kb_InTheWay_1 pass0 (pa_cons (pv 0) pa_nil) pk_nil) pa_nil))) (pa_cons (pe_tup (pa_cons pe_int (pa_cons (pe_oex0 T.i_InTheWay.m (ok_x_InTheWay T) (hr.mono (by decide)) (by rfl) T.m_InTheWay T.kb_InTheWay_0_number pass0 (pk_cons (pv 0) pk_nil)) pa_nil))) pa_nil))))))
 (pss_cons (ps_set (i := 1) sc_l_of_numbers.nd rfl (by first | exact Or.inl rfl | exact Or.inr rfl) (pe_op op_cat (pv 1) (pe_lst (pa_cons (pe_tup (pa_cons pe_int (pa_cons (pe_oexN T.i_NoVersion.m (ok_x_NoVersion T) (hr.mono (by decide)) (by rfl) T.m_NoVersion T.kb_NoVersion_1 pass0 (pa_cons (pv 0) pa_nil) pk_nil) pa_nil))) (pa_cons (pe_tup (pa_cons pe_int (pa_cons (pe_oex0 T.i_NoVersion.m (ok_x_NoVersion T) (hr.mono (by decide)) (by rfl) T.m_NoVersion T.kb_NoVersion_0_number pass0 (pk_cons (pv 0) pk_nil)) pa_nil))) (pa_cons (pe_tup (pa_cons pe_int (pa_cons (pe_oexN T.i_BadRank.m (ok_x_BadRank T) (hr.mono (by decide)) (by rfl) T.m_BadRank T.kb_BadRank_1 pass0 (pa_cons (pv 0) pa_nil) pk_nil) pa_nil))) pa_nil))))))
 (pss_cons (ps_set (i := 1) sc_l_of_numbers.nd rfl (by first | exact Or.inl rfl | exact Or.inr rfl) (pe_op op_cat (pv 1) (pe_lst (pa_cons (pe_tup (pa_cons pe_int (pa_cons (pe_oex0 T.i_BadRank.m (ok_x_BadRank T) (hr.mono (by decide)) (by rfl) T.m_BadRank T.kb_BadRank_0_number pass0 (pk_cons (pv 0) pk_nil)) pa_nil))) pa_nil))))
 (pss_one (ps_ret (pe_lc (own := [("_law_spot", 2), ("_law_error", 3)]) (g := gTup K 2 (gCons (gName 2) (gCons (gName 3) gNil))) rfl sc_l_of_numbers.nd (pi_list (pv 1)) (blkOk_by (own := [("_law_spot", 2), ("_law_error", 3)]) (N := N_l_of_numbers) (sc := defScope s_l_of_numbers) (by decide +kernel)) (fun _ _ _ _ _ => (pg_tup rfl (pgs_cons (pg_name (i := 2) sc_l_of_numbers.nd rfl (by first | exact Or.inl rfl | exact Or.inr rfl)) (pgs_cons (pg_name (i := 3) sc_l_of_numbers.nd rfl (by first | exact Or.inl rfl | exact Or.inr rfl)) pgs_nil)))) (fun _ _ _ _ _ => pts_nil) (fun _ _ _ _ _ => (pe_tup (pa_cons (pv 2) (pa_cons (pv 3) (pa_cons (by exact pe_xget (pv 3) : PE _ _ (tXGet K "number" (tVar 3))) pa_nil))))))))))))))), ?_⟩
  refine asgS (fun v G => Same H G ∧ ∃ D rs, v = .ref D ∧ G D = some (.lst rs) ∧ Paired (RowE T G "number" x) rs [2, 2, 5, 5] ∧ rs.length = 4) (fun R hR => ?_) ?_
  · refine lstW ?_
    refine mk_row (T := T) (i := 2) (x := x) (vs := [x]) (zs := []) rfl T.nf_BadRow_number (fun R h => ⟨_, rfl, h⟩) (fun R h => h) rfl rfl rfl fun K1 v1 s1 r1 => ?_
    refine mk_row (T := T) (i := 2) (x := x) (vs := []) (zs := [x]) rfl T.nf_BadRow_number (fun R h => h) (fun R h => ⟨_, rfl, h⟩) rfl rfl rfl fun K2 v2 s2 r2 => ?_
    refine mk_row (T := T) (i := 5) (x := x) (vs := [x]) (zs := []) rfl T.nf_BadItem_number (fun R h => ⟨_, rfl, h⟩) (fun R h => h) rfl rfl rfl fun K3 v3 s3 r3 => ?_
    refine mk_row (T := T) (i := 5) (x := x) (vs := []) (zs := [x]) rfl T.nf_BadItem_number (fun R h => h) (fun R h => ⟨_, rfl, h⟩) rfl rfl rfl fun K4 v4 s4 r4 => ?_
    refine ⟨by show 4 ≤ sizeLine; decide, fun D nD => ?_⟩
    have s5 := same_upd (o := .lst [v1, v2, v3, v4]) nD
    exact hR _ _ ⟨(s1.trans (s2.trans (s3.trans (s4.trans s5)))), D, _, rfl, upd_same, (.cons (r1.same (s2.trans (s3.trans (s4.trans s5)))) (.cons (r2.same (s3.trans (s4.trans s5))) (.cons (r3.same (s4.trans s5)) (.cons (r4.same s5) .nil)))), rfl⟩
  rintro v G1 ⟨t1, D1, rs1, rfl, h1, p1, l1⟩
  dsimp only [gName]
  refine asgS (fun v G => Same G1 G ∧ ∃ D rs, v = .ref D ∧ G D = some (.lst rs) ∧ Paired (RowE T G "number" x) rs [2, 2, 5, 5, 13, 13, 14] ∧ rs.length = 7) (fun R hR => ?_) ?_
  · refine ⟨_, rfl, lstW ?_⟩
    refine mk_row (T := T) (i := 13) (x := x) (vs := [x]) (zs := []) rfl T.nf_BadCall_number (fun R h => ⟨_, rfl, h⟩) (fun R h => h) rfl rfl rfl fun K1 v1 s1 r1 => ?_
    refine mk_row (T := T) (i := 13) (x := x) (vs := []) (zs := [x]) rfl T.nf_BadCall_number (fun R h => h) (fun R h => ⟨_, rfl, h⟩) rfl rfl rfl fun K2 v2 s2 r2 => ?_
    refine mk_row (T := T) (i := 14) (x := x) (vs := [x]) (zs := []) rfl T.nf_BadWord_number (fun R h => ⟨_, rfl, h⟩) (fun R h => h) rfl rfl rfl fun K3 v3 s3 r3 => ?_
    refine ⟨by show 3 ≤ sizeLine; decide, fun D nD => ?_⟩
    have s4 := same_upd (o := .lst [v1, v2, v3]) nD
    refine ⟨D1, D, rs1, [v1, v2, v3], rfl, rfl, (s1.trans (s2.trans (s3.trans s4))) _ _ h1, upd_same, by rw [l1]; show 7 ≤ sizeLine; decide, fun E nE => ?_⟩
    have s5 := same_upd (o := .lst (rs1 ++ [v1, v2, v3])) nE
    exact hR _ _ ⟨(s1.trans (s2.trans (s3.trans (s4.trans s5)))), E, _, rfl, upd_same, paired_app (paired_mono (fun v j h => h.same (s1.trans (s2.trans (s3.trans (s4.trans s5))))) p1) (.cons (r1.same (s2.trans (s3.trans (s4.trans s5)))) (.cons (r2.same (s3.trans (s4.trans s5))) (.cons (r3.same (s4.trans s5)) .nil))), by rw [List.length_append, l1]; rfl⟩
  rintro v G2 ⟨t2, D2, rs2, rfl, h2, p2, l2⟩
  dsimp only [gName]
  refine asgS (fun v G => Same G2 G ∧ ∃ D rs, v = .ref D ∧ G D = some (.lst rs) ∧ Paired (RowE T G "number" x) rs [2, 2, 5, 5, 13, 13, 14, 14, 15, 15] ∧ rs.length = 10) (fun R hR => ?_) ?_
  · refine ⟨_, rfl, lstW ?_⟩
    refine mk_row (T := T) (i := 14) (x := x) (vs := []) (zs := [x]) rfl T.nf_BadWord_number (fun R h => h) (fun R h => ⟨_, rfl, h⟩) rfl rfl rfl fun K1 v1 s1 r1 => ?_
    refine mk_row (T := T) (i := 15) (x := x) (vs := [x]) (zs := []) rfl T.nf_BadValue_number (fun R h => ⟨_, rfl, h⟩) (fun R h => h) rfl rfl rfl fun K2 v2 s2 r2 => ?_
    refine mk_row (T := T) (i := 15) (x := x) (vs := []) (zs := [x]) rfl T.nf_BadValue_number (fun R h => h) (fun R h => ⟨_, rfl, h⟩) rfl rfl rfl fun K3 v3 s3 r3 => ?_
    refine ⟨by show 3 ≤ sizeLine; decide, fun D nD => ?_⟩
    have s4 := same_upd (o := .lst [v1, v2, v3]) nD
    refine ⟨D2, D, rs2, [v1, v2, v3], rfl, rfl, (s1.trans (s2.trans (s3.trans s4))) _ _ h2, upd_same, by rw [l2]; show 10 ≤ sizeLine; decide, fun E nE => ?_⟩
    have s5 := same_upd (o := .lst (rs2 ++ [v1, v2, v3])) nE
    exact hR _ _ ⟨(s1.trans (s2.trans (s3.trans (s4.trans s5)))), E, _, rfl, upd_same, paired_app (paired_mono (fun v j h => h.same (s1.trans (s2.trans (s3.trans (s4.trans s5))))) p2) (.cons (r1.same (s2.trans (s3.trans (s4.trans s5)))) (.cons (r2.same (s3.trans (s4.trans s5))) (.cons (r3.same (s4.trans s5)) .nil))), by rw [List.length_append, l2]; rfl⟩
  rintro v G3 ⟨t3, D3, rs3, rfl, h3, p3, l3⟩
  dsimp only [gName]
  refine asgS (fun v G => Same G3 G ∧ ∃ D rs, v = .ref D ∧ G D = some (.lst rs) ∧ Paired (RowE T G "number" x) rs [2, 2, 5, 5, 13, 13, 14, 14, 15, 15, 18, 18, 20] ∧ rs.length = 13) (fun R hR => ?_) ?_
  · refine ⟨_, rfl, lstW ?_⟩
    refine mk_row (T := T) (i := 18) (x := x) (vs := [x]) (zs := []) rfl T.nf_BadWhere_number (fun R h => ⟨_, rfl, h⟩) (fun R h => h) rfl rfl rfl fun K1 v1 s1 r1 => ?_
    refine mk_row (T := T) (i := 18) (x := x) (vs := []) (zs := [x]) rfl T.nf_BadWhere_number (fun R h => h) (fun R h => ⟨_, rfl, h⟩) rfl rfl rfl fun K2 v2 s2 r2 => ?_
    refine mk_row (T := T) (i := 20) (x := x) (vs := [x]) (zs := []) rfl T.nf_NoNumber_number (fun R h => ⟨_, rfl, h⟩) (fun R h => h) rfl rfl rfl fun K3 v3 s3 r3 => ?_
    refine ⟨by show 3 ≤ sizeLine; decide, fun D nD => ?_⟩
    have s4 := same_upd (o := .lst [v1, v2, v3]) nD
    refine ⟨D3, D, rs3, [v1, v2, v3], rfl, rfl, (s1.trans (s2.trans (s3.trans s4))) _ _ h3, upd_same, by rw [l3]; show 13 ≤ sizeLine; decide, fun E nE => ?_⟩
    have s5 := same_upd (o := .lst (rs3 ++ [v1, v2, v3])) nE
    exact hR _ _ ⟨(s1.trans (s2.trans (s3.trans (s4.trans s5)))), E, _, rfl, upd_same, paired_app (paired_mono (fun v j h => h.same (s1.trans (s2.trans (s3.trans (s4.trans s5))))) p3) (.cons (r1.same (s2.trans (s3.trans (s4.trans s5)))) (.cons (r2.same (s3.trans (s4.trans s5))) (.cons (r3.same (s4.trans s5)) .nil))), by rw [List.length_append, l3]; rfl⟩
  rintro v G4 ⟨t4, D4, rs4, rfl, h4, p4, l4⟩
  dsimp only [gName]
  refine asgS (fun v G => Same G4 G ∧ ∃ D rs, v = .ref D ∧ G D = some (.lst rs) ∧ Paired (RowE T G "number" x) rs [2, 2, 5, 5, 13, 13, 14, 14, 15, 15, 18, 18, 20, 20, 21, 21] ∧ rs.length = 16) (fun R hR => ?_) ?_
  · refine ⟨_, rfl, lstW ?_⟩
    refine mk_row (T := T) (i := 20) (x := x) (vs := []) (zs := [x]) rfl T.nf_NoNumber_number (fun R h => h) (fun R h => ⟨_, rfl, h⟩) rfl rfl rfl fun K1 v1 s1 r1 => ?_
    refine mk_row (T := T) (i := 21) (x := x) (vs := [x]) (zs := []) rfl T.nf_InTheWay_number (fun R h => ⟨_, rfl, h⟩) (fun R h => h) rfl rfl rfl fun K2 v2 s2 r2 => ?_
    refine mk_row (T := T) (i := 21) (x := x) (vs := []) (zs := [x]) rfl T.nf_InTheWay_number (fun R h => h) (fun R h => ⟨_, rfl, h⟩) rfl rfl rfl fun K3 v3 s3 r3 => ?_
    refine ⟨by show 3 ≤ sizeLine; decide, fun D nD => ?_⟩
    have s4 := same_upd (o := .lst [v1, v2, v3]) nD
    refine ⟨D4, D, rs4, [v1, v2, v3], rfl, rfl, (s1.trans (s2.trans (s3.trans s4))) _ _ h4, upd_same, by rw [l4]; show 16 ≤ sizeLine; decide, fun E nE => ?_⟩
    have s5 := same_upd (o := .lst (rs4 ++ [v1, v2, v3])) nE
    exact hR _ _ ⟨(s1.trans (s2.trans (s3.trans (s4.trans s5)))), E, _, rfl, upd_same, paired_app (paired_mono (fun v j h => h.same (s1.trans (s2.trans (s3.trans (s4.trans s5))))) p4) (.cons (r1.same (s2.trans (s3.trans (s4.trans s5)))) (.cons (r2.same (s3.trans (s4.trans s5))) (.cons (r3.same (s4.trans s5)) .nil))), by rw [List.length_append, l4]; rfl⟩
  rintro v G5 ⟨t5, D5, rs5, rfl, h5, p5, l5⟩
  dsimp only [gName]
  refine asgS (fun v G => Same G5 G ∧ ∃ D rs, v = .ref D ∧ G D = some (.lst rs) ∧ Paired (RowE T G "number" x) rs [2, 2, 5, 5, 13, 13, 14, 14, 15, 15, 18, 18, 20, 20, 21, 21, 24, 24, 33] ∧ rs.length = 19) (fun R hR => ?_) ?_
  · refine ⟨_, rfl, lstW ?_⟩
    refine mk_row (T := T) (i := 24) (x := x) (vs := [x]) (zs := []) rfl T.nf_NoVersion_number (fun R h => ⟨_, rfl, h⟩) (fun R h => h) rfl rfl rfl fun K1 v1 s1 r1 => ?_
    refine mk_row (T := T) (i := 24) (x := x) (vs := []) (zs := [x]) rfl T.nf_NoVersion_number (fun R h => h) (fun R h => ⟨_, rfl, h⟩) rfl rfl rfl fun K2 v2 s2 r2 => ?_
    refine mk_row (T := T) (i := 33) (x := x) (vs := [x]) (zs := []) rfl T.nf_BadRank_number (fun R h => ⟨_, rfl, h⟩) (fun R h => h) rfl rfl rfl fun K3 v3 s3 r3 => ?_
    refine ⟨by show 3 ≤ sizeLine; decide, fun D nD => ?_⟩
    have s4 := same_upd (o := .lst [v1, v2, v3]) nD
    refine ⟨D5, D, rs5, [v1, v2, v3], rfl, rfl, (s1.trans (s2.trans (s3.trans s4))) _ _ h5, upd_same, by rw [l5]; show 19 ≤ sizeLine; decide, fun E nE => ?_⟩
    have s5 := same_upd (o := .lst (rs5 ++ [v1, v2, v3])) nE
    exact hR _ _ ⟨(s1.trans (s2.trans (s3.trans (s4.trans s5)))), E, _, rfl, upd_same, paired_app (paired_mono (fun v j h => h.same (s1.trans (s2.trans (s3.trans (s4.trans s5))))) p5) (.cons (r1.same (s2.trans (s3.trans (s4.trans s5)))) (.cons (r2.same (s3.trans (s4.trans s5))) (.cons (r3.same (s4.trans s5)) .nil))), by rw [List.length_append, l5]; rfl⟩
  rintro v G6 ⟨t6, D6, rs6, rfl, h6, p6, l6⟩
  dsimp only [gName]
  refine asgS (fun v G => Same G6 G ∧ ∃ D rs, v = .ref D ∧ G D = some (.lst rs) ∧ Paired (RowE T G "number" x) rs [2, 2, 5, 5, 13, 13, 14, 14, 15, 15, 18, 18, 20, 20, 21, 21, 24, 24, 33, 33] ∧ rs.length = 20) (fun R hR => ?_) ?_
  · refine ⟨_, rfl, lstW ?_⟩
    refine mk_row (T := T) (i := 33) (x := x) (vs := []) (zs := [x]) rfl T.nf_BadRank_number (fun R h => h) (fun R h => ⟨_, rfl, h⟩) rfl rfl rfl fun K1 v1 s1 r1 => ?_
    refine ⟨by show 1 ≤ sizeLine; decide, fun D nD => ?_⟩
    have s2 := same_upd (o := .lst [v1]) nD
    refine ⟨D6, D, rs6, [v1], rfl, rfl, (s1.trans s2) _ _ h6, upd_same, by rw [l6]; show 20 ≤ sizeLine; decide, fun E nE => ?_⟩
    have s3 := same_upd (o := .lst (rs6 ++ [v1])) nE
    exact hR _ _ ⟨(s1.trans (s2.trans s3)), E, _, rfl, upd_same, paired_app (paired_mono (fun v j h => h.same (s1.trans (s2.trans s3))) p6) (.cons (r1.same (s2.trans s3)) .nil), by rw [List.length_append, l6]; rfl⟩
  rintro v G7 ⟨t7, D7, rs7, rfl, h7, p7, l7⟩
  dsimp only [gName]
  exact lc_rows T rfl rfl h7 p7 (by omega) fun H' D' rs' s' h' p' => q _ _ _ ((t1.trans (t2.trans (t3.trans (t4.trans (t5.trans (t6.trans t7)))))).trans s') h' p'
theorem ok_l_of_names (T : Tx P K mg) : FnOk P w K mg base CX0 3 T.a_l_of_names T.fd_l_of_names ["_law_thing"] (spRows T [7, 7, 25, 25, 26, 26, 27, 27, 28, 28, 30, 30, 31, 31]) := by
  refine T.F_l_of_names.ok sc_l_of_names (fun vs H Q E h => ?_) (fun cdv A outer s H vs Q E hr h => ?_)
  · obtain ⟨x, rfl, _⟩ := h
    rfl
  obtain ⟨x, rfl, q⟩ := h
  refine ⟨_, (pss_cons (ps_set (i := 1) sc_l_of_names.nd rfl (by first | exact Or.inl rfl | exact Or.inr rfl) (pe_lst (pa_cons (pe_tup (pa_cons pe_int (pa_cons (pe_oexN T.i_BadName.m (ok_x_BadName T) (hr.mono (by decide)) (by rfl) T.m_BadName T.kb_BadName_1 pass0 (pa_cons (pv 0) pa_nil) pk_nil) pa_nil))) (pa_cons (pe_tup (pa_cons pe_int (pa_cons (pe_oex0 T.i_BadName.m (ok_x_BadName T) (hr.mono (by decide)) (by rfl) T.m_BadName T.kb_BadName_0_name pass0 (pk_cons (pv 0) pk_nil)) pa_nil))) (pa_cons (pe_tup (pa_cons pe_int (pa_cons (pe_oexN T.i_NoBranch.m (ok_x_NoBranch T) (hr.mono (by decide)) (by rfl) T.m_NoBranch T.kb_NoBranch_1 pass0 (pa_cons (pv 0) pa_nil) pk_nil) pa_nil))) pa_nil)))))
 (pss_cons (ps_set (i := 1) sc_l_of_names.nd rfl (by first | exact Or.inl rfl | exact Or.inr rfl) (pe_op op_cat (pv 1) (pe_lst (pa_cons (pe_tup (pa_cons pe_int (pa_cons (pe_oex0 T.i_NoBranch.m (ok_x_NoBranch T) (hr.mono (by decide)) (by rfl) T.m_NoBranch T.kb_NoBranch_0_name pass0 (pk_cons (pv 0) pk_nil)) pa_nil))) (pa_cons (pe_tup (pa_cons pe_int (pa_cons (pe_oexN T.i_UsedName.m (ok_x_UsedName T) (hr.mono (by decide)) (by rfl) T.m_UsedName T.kb_UsedName_1 pass0 (pa_cons (pv 0) pa_nil) pk_nil) pa_nil))) (pa_cons (pe_tup (pa_cons pe_int (pa_cons (pe_oex0 T.i_UsedName.m (ok_x_UsedName T) (hr.mono (by decide)) (by rfl) T.m_UsedName T.kb_UsedName_0_name pass0 (pk_cons (pv 0) pk_nil)) pa_nil))) pa_nil))))))
 (pss_cons (ps_set (i := 1) sc_l_of_names.nd rfl (by first | exact Or.inl rfl | exact Or.inr rfl) (pe_op op_cat (pv 1) (pe_lst (pa_cons (pe_tup (pa_cons pe_int (pa_cons (pe_oexN T.i_NoDeed.m (ok_x_NoDeed T) (hr.mono (by decide)) (by rfl) T.m_NoDeed T.kb_NoDeed_1 pass0 (pa_cons (pv 0) pa_nil) pk_nil) pa_nil))) (pa_cons (pe_tup (pa_cons pe_int (pa_cons (pe_oex0 T.i_NoDeed.m (ok_x_NoDeed T) (hr.mono (by decide)) (by rfl) T.m_NoDeed T.kb_NoDeed_0_name pass0 (pk_cons (pv 0) pk_nil)) pa_nil))) (pa_cons (pe_tup (pa_cons pe_int (pa_cons (pe_oexN T.i_BadDeed.m (ok_x_BadDeed T) (hr.mono (by decide)) (by rfl) T.m_BadDeed T.kb_BadDeed_1 pass0 (pa_cons (pv 0) pa_nil) pk_nil) pa_nil))) (pa_cons (pe_tup (pa_cons pe_int (pa_cons (pe_oex0 T.i_BadDeed.m (ok_x_BadDeed T) (hr.mono (by decide)) (by rfl) T.m_BadDeed T.kb_BadDeed_0_name pass0 (pk_cons (pv 0) pk_nil)) pa_nil))) pa_nil)))))))
 (pss_cons (ps_set (i := 1) sc_l_of_names.nd rfl (by first | exact Or.inl rfl | exact Or.inr rfl) (pe_op op_cat (pv 1) (pe_lst (pa_cons (pe_tup (pa_cons pe_int (pa_cons (pe_oexN T.i_BadRule.m (ok_x_BadRule T) (hr.mono (by decide)) (by rfl) T.m_BadRule T.kb_BadRule_1 pass0 (pa_cons (pv 0) pa_nil) pk_nil) pa_nil))) (pa_cons (pe_tup (pa_cons pe_int (pa_cons (pe_oex0 T.i_BadRule.m (ok_x_BadRule T) (hr.mono (by decide)) (by rfl) T.m_BadRule T.kb_BadRule_0_name pass0 (pk_cons (pv 0) pk_nil)) pa_nil))) (pa_cons (pe_tup (pa_cons pe_int (pa_cons (pe_oexN T.i_Ring.m (ok_x_Ring T) (hr.mono (by decide)) (by rfl) T.m_Ring T.kb_Ring_1 pass0 (pa_cons (pv 0) pa_nil) pk_nil) pa_nil))) (pa_cons (pe_tup (pa_cons pe_int (pa_cons (pe_oex0 T.i_Ring.m (ok_x_Ring T) (hr.mono (by decide)) (by rfl) T.m_Ring T.kb_Ring_0_name pass0 (pk_cons (pv 0) pk_nil)) pa_nil))) pa_nil)))))))
 (pss_one (ps_ret (pe_lc (own := [("_law_spot", 2), ("_law_error", 3)]) (g := gTup K 2 (gCons (gName 2) (gCons (gName 3) gNil))) rfl sc_l_of_names.nd (pi_list (pv 1)) (blkOk_by (own := [("_law_spot", 2), ("_law_error", 3)]) (N := N_l_of_names) (sc := defScope s_l_of_names) (by decide +kernel)) (fun _ _ _ _ _ => (pg_tup rfl (pgs_cons (pg_name (i := 2) sc_l_of_names.nd rfl (by first | exact Or.inl rfl | exact Or.inr rfl)) (pgs_cons (pg_name (i := 3) sc_l_of_names.nd rfl (by first | exact Or.inl rfl | exact Or.inr rfl)) pgs_nil)))) (fun _ _ _ _ _ => pts_nil) (fun _ _ _ _ _ => (pe_tup (pa_cons (pv 2) (pa_cons (pv 3) (pa_cons (by exact pe_xget (pv 3) : PE _ _ (tXGet K "name" (tVar 3))) pa_nil)))))))))))), ?_⟩
  refine asgS (fun v G => Same H G ∧ ∃ D rs, v = .ref D ∧ G D = some (.lst rs) ∧ Paired (RowE T G "name" x) rs [7, 7, 25] ∧ rs.length = 3) (fun R hR => ?_) ?_
  · refine lstW ?_
    refine mk_row (T := T) (i := 7) (x := x) (vs := [x]) (zs := []) rfl T.nf_BadName_name (fun R h => ⟨_, rfl, h⟩) (fun R h => h) rfl rfl rfl fun K1 v1 s1 r1 => ?_
    refine mk_row (T := T) (i := 7) (x := x) (vs := []) (zs := [x]) rfl T.nf_BadName_name (fun R h => h) (fun R h => ⟨_, rfl, h⟩) rfl rfl rfl fun K2 v2 s2 r2 => ?_
    refine mk_row (T := T) (i := 25) (x := x) (vs := [x]) (zs := []) rfl T.nf_NoBranch_name (fun R h => ⟨_, rfl, h⟩) (fun R h => h) rfl rfl rfl fun K3 v3 s3 r3 => ?_
    refine ⟨by show 3 ≤ sizeLine; decide, fun D nD => ?_⟩
    have s4 := same_upd (o := .lst [v1, v2, v3]) nD
    exact hR _ _ ⟨(s1.trans (s2.trans (s3.trans s4))), D, _, rfl, upd_same, (.cons (r1.same (s2.trans (s3.trans s4))) (.cons (r2.same (s3.trans s4)) (.cons (r3.same s4) .nil))), rfl⟩
  rintro v G1 ⟨t1, D1, rs1, rfl, h1, p1, l1⟩
  dsimp only [gName]
  refine asgS (fun v G => Same G1 G ∧ ∃ D rs, v = .ref D ∧ G D = some (.lst rs) ∧ Paired (RowE T G "name" x) rs [7, 7, 25, 25, 26, 26] ∧ rs.length = 6) (fun R hR => ?_) ?_
  · refine ⟨_, rfl, lstW ?_⟩
    refine mk_row (T := T) (i := 25) (x := x) (vs := []) (zs := [x]) rfl T.nf_NoBranch_name (fun R h => h) (fun R h => ⟨_, rfl, h⟩) rfl rfl rfl fun K1 v1 s1 r1 => ?_
    refine mk_row (T := T) (i := 26) (x := x) (vs := [x]) (zs := []) rfl T.nf_UsedName_name (fun R h => ⟨_, rfl, h⟩) (fun R h => h) rfl rfl rfl fun K2 v2 s2 r2 => ?_
    refine mk_row (T := T) (i := 26) (x := x) (vs := []) (zs := [x]) rfl T.nf_UsedName_name (fun R h => h) (fun R h => ⟨_, rfl, h⟩) rfl rfl rfl fun K3 v3 s3 r3 => ?_
    refine ⟨by show 3 ≤ sizeLine; decide, fun D nD => ?_⟩
    have s4 := same_upd (o := .lst [v1, v2, v3]) nD
    refine ⟨D1, D, rs1, [v1, v2, v3], rfl, rfl, (s1.trans (s2.trans (s3.trans s4))) _ _ h1, upd_same, by rw [l1]; show 6 ≤ sizeLine; decide, fun E nE => ?_⟩
    have s5 := same_upd (o := .lst (rs1 ++ [v1, v2, v3])) nE
    exact hR _ _ ⟨(s1.trans (s2.trans (s3.trans (s4.trans s5)))), E, _, rfl, upd_same, paired_app (paired_mono (fun v j h => h.same (s1.trans (s2.trans (s3.trans (s4.trans s5))))) p1) (.cons (r1.same (s2.trans (s3.trans (s4.trans s5)))) (.cons (r2.same (s3.trans (s4.trans s5))) (.cons (r3.same (s4.trans s5)) .nil))), by rw [List.length_append, l1]; rfl⟩
  rintro v G2 ⟨t2, D2, rs2, rfl, h2, p2, l2⟩
  dsimp only [gName]
  refine asgS (fun v G => Same G2 G ∧ ∃ D rs, v = .ref D ∧ G D = some (.lst rs) ∧ Paired (RowE T G "name" x) rs [7, 7, 25, 25, 26, 26, 27, 27, 28, 28] ∧ rs.length = 10) (fun R hR => ?_) ?_
  · refine ⟨_, rfl, lstW ?_⟩
    refine mk_row (T := T) (i := 27) (x := x) (vs := [x]) (zs := []) rfl T.nf_NoDeed_name (fun R h => ⟨_, rfl, h⟩) (fun R h => h) rfl rfl rfl fun K1 v1 s1 r1 => ?_
    refine mk_row (T := T) (i := 27) (x := x) (vs := []) (zs := [x]) rfl T.nf_NoDeed_name (fun R h => h) (fun R h => ⟨_, rfl, h⟩) rfl rfl rfl fun K2 v2 s2 r2 => ?_
    refine mk_row (T := T) (i := 28) (x := x) (vs := [x]) (zs := []) rfl T.nf_BadDeed_name (fun R h => ⟨_, rfl, h⟩) (fun R h => h) rfl rfl rfl fun K3 v3 s3 r3 => ?_
    refine mk_row (T := T) (i := 28) (x := x) (vs := []) (zs := [x]) rfl T.nf_BadDeed_name (fun R h => h) (fun R h => ⟨_, rfl, h⟩) rfl rfl rfl fun K4 v4 s4 r4 => ?_
    refine ⟨by show 4 ≤ sizeLine; decide, fun D nD => ?_⟩
    have s5 := same_upd (o := .lst [v1, v2, v3, v4]) nD
    refine ⟨D2, D, rs2, [v1, v2, v3, v4], rfl, rfl, (s1.trans (s2.trans (s3.trans (s4.trans s5)))) _ _ h2, upd_same, by rw [l2]; show 10 ≤ sizeLine; decide, fun E nE => ?_⟩
    have s6 := same_upd (o := .lst (rs2 ++ [v1, v2, v3, v4])) nE
    exact hR _ _ ⟨(s1.trans (s2.trans (s3.trans (s4.trans (s5.trans s6))))), E, _, rfl, upd_same, paired_app (paired_mono (fun v j h => h.same (s1.trans (s2.trans (s3.trans (s4.trans (s5.trans s6)))))) p2) (.cons (r1.same (s2.trans (s3.trans (s4.trans (s5.trans s6))))) (.cons (r2.same (s3.trans (s4.trans (s5.trans s6)))) (.cons (r3.same (s4.trans (s5.trans s6))) (.cons (r4.same (s5.trans s6)) .nil)))), by rw [List.length_append, l2]; rfl⟩
  rintro v G3 ⟨t3, D3, rs3, rfl, h3, p3, l3⟩
  dsimp only [gName]
  refine asgS (fun v G => Same G3 G ∧ ∃ D rs, v = .ref D ∧ G D = some (.lst rs) ∧ Paired (RowE T G "name" x) rs [7, 7, 25, 25, 26, 26, 27, 27, 28, 28, 30, 30, 31, 31] ∧ rs.length = 14) (fun R hR => ?_) ?_
  · refine ⟨_, rfl, lstW ?_⟩
    refine mk_row (T := T) (i := 30) (x := x) (vs := [x]) (zs := []) rfl T.nf_BadRule_name (fun R h => ⟨_, rfl, h⟩) (fun R h => h) rfl rfl rfl fun K1 v1 s1 r1 => ?_
    refine mk_row (T := T) (i := 30) (x := x) (vs := []) (zs := [x]) rfl T.nf_BadRule_name (fun R h => h) (fun R h => ⟨_, rfl, h⟩) rfl rfl rfl fun K2 v2 s2 r2 => ?_
    refine mk_row (T := T) (i := 31) (x := x) (vs := [x]) (zs := []) rfl T.nf_Ring_name (fun R h => ⟨_, rfl, h⟩) (fun R h => h) rfl rfl rfl fun K3 v3 s3 r3 => ?_
    refine mk_row (T := T) (i := 31) (x := x) (vs := []) (zs := [x]) rfl T.nf_Ring_name (fun R h => h) (fun R h => ⟨_, rfl, h⟩) rfl rfl rfl fun K4 v4 s4 r4 => ?_
    refine ⟨by show 4 ≤ sizeLine; decide, fun D nD => ?_⟩
    have s5 := same_upd (o := .lst [v1, v2, v3, v4]) nD
    refine ⟨D3, D, rs3, [v1, v2, v3, v4], rfl, rfl, (s1.trans (s2.trans (s3.trans (s4.trans s5)))) _ _ h3, upd_same, by rw [l3]; show 14 ≤ sizeLine; decide, fun E nE => ?_⟩
    have s6 := same_upd (o := .lst (rs3 ++ [v1, v2, v3, v4])) nE
    exact hR _ _ ⟨(s1.trans (s2.trans (s3.trans (s4.trans (s5.trans s6))))), E, _, rfl, upd_same, paired_app (paired_mono (fun v j h => h.same (s1.trans (s2.trans (s3.trans (s4.trans (s5.trans s6)))))) p3) (.cons (r1.same (s2.trans (s3.trans (s4.trans (s5.trans s6))))) (.cons (r2.same (s3.trans (s4.trans (s5.trans s6)))) (.cons (r3.same (s4.trans (s5.trans s6))) (.cons (r4.same (s5.trans s6)) .nil)))), by rw [List.length_append, l3]; rfl⟩
  rintro v G4 ⟨t4, D4, rs4, rfl, h4, p4, l4⟩
  dsimp only [gName]
  exact lc_rows T rfl rfl h4 p4 (by omega) fun H' D' rs' s' h' p' => q _ _ _ ((t1.trans (t2.trans (t3.trans t4))).trans s') h' p'
theorem ok_l_of_indices (T : Tx P K mg) : FnOk P w K mg base CX0 3 T.a_l_of_indices T.fd_l_of_indices ["_law_thing"] (spRows T [10, 10, 17, 17, 36, 36]) := by
  refine T.F_l_of_indices.ok sc_l_of_indices (fun vs H Q E h => ?_) (fun cdv A outer s H vs Q E hr h => ?_)
  · obtain ⟨x, rfl, _⟩ := h
    rfl
  obtain ⟨x, rfl, q⟩ := h
  refine ⟨_, (pss_cons (ps_set (i := 1) sc_l_of_indices.nd rfl (by first | exact Or.inl rfl | exact Or.inr rfl) (pe_lst (pa_cons (pe_tup (pa_cons pe_int (pa_cons (pe_oexN T.i_BadValues.m (ok_x_BadValues T) (hr.mono (by decide)) (by rfl) T.m_BadValues T.kb_BadValues_1 pass0 (pa_cons (pv 0) pa_nil) pk_nil) pa_nil))) (pa_cons (pe_tup (pa_cons pe_int (pa_cons (pe_oex0 T.i_BadValues.m (ok_x_BadValues T) (hr.mono (by decide)) (by rfl) T.m_BadValues T.kb_BadValues_0_index pass0 (pk_cons (pv 0) pk_nil)) pa_nil))) (pa_cons (pe_tup (pa_cons pe_int (pa_cons (pe_oexN T.i_BadAspect.m (ok_x_BadAspect T) (hr.mono (by decide)) (by rfl) T.m_BadAspect T.kb_BadAspect_1 pass0 (pa_cons (pv 0) pa_nil) pk_nil) pa_nil))) pa_nil)))))
 (pss_cons (ps_set (i := 1) sc_l_of_indices.nd rfl (by first | exact Or.inl rfl | exact Or.inr rfl) (pe_op op_cat (pv 1) (pe_lst (pa_cons (pe_tup (pa_cons pe_int (pa_cons (pe_oex0 T.i_BadAspect.m (ok_x_BadAspect T) (hr.mono (by decide)) (by rfl) T.m_BadAspect T.kb_BadAspect_0_index pass0 (pk_cons (pv 0) pk_nil)) pa_nil))) (pa_cons (pe_tup (pa_cons pe_int (pa_cons (pe_oexN T.i_BadLog.m (ok_x_BadLog T) (hr.mono (by decide)) (by rfl) T.m_BadLog T.kb_BadLog_1 pass0 (pa_cons (pv 0) pa_nil) pk_nil) pa_nil))) (pa_cons (pe_tup (pa_cons pe_int (pa_cons (pe_oex0 T.i_BadLog.m (ok_x_BadLog T) (hr.mono (by decide)) (by rfl) T.m_BadLog T.kb_BadLog_0_index pass0 (pk_cons (pv 0) pk_nil)) pa_nil))) pa_nil))))))
 (pss_one (ps_ret (pe_lc (own := [("_law_spot", 2), ("_law_error", 3)]) (g := gTup K 2 (gCons (gName 2) (gCons (gName 3) gNil))) rfl sc_l_of_indices.nd (pi_list (pv 1)) (blkOk_by (own := [("_law_spot", 2), ("_law_error", 3)]) (N := N_l_of_indices) (sc := defScope s_l_of_indices) (by decide +kernel)) (fun _ _ _ _ _ => (pg_tup rfl (pgs_cons (pg_name (i := 2) sc_l_of_indices.nd rfl (by first | exact Or.inl rfl | exact Or.inr rfl)) (pgs_cons (pg_name (i := 3) sc_l_of_indices.nd rfl (by first | exact Or.inl rfl | exact Or.inr rfl)) pgs_nil)))) (fun _ _ _ _ _ => pts_nil) (fun _ _ _ _ _ => (pe_tup (pa_cons (pv 2) (pa_cons (pv 3) (pa_cons (by exact pe_xget (pv 3) : PE _ _ (tXGet K "index" (tVar 3))) pa_nil)))))))))), ?_⟩
  refine asgS (fun v G => Same H G ∧ ∃ D rs, v = .ref D ∧ G D = some (.lst rs) ∧ Paired (RowE T G "index" x) rs [10, 10, 17] ∧ rs.length = 3) (fun R hR => ?_) ?_
  · refine lstW ?_
    refine mk_row (T := T) (i := 10) (x := x) (vs := [x]) (zs := []) rfl T.nf_BadValues_index (fun R h => ⟨_, rfl, h⟩) (fun R h => h) rfl rfl rfl fun K1 v1 s1 r1 => ?_
    refine mk_row (T := T) (i := 10) (x := x) (vs := []) (zs := [x]) rfl T.nf_BadValues_index (fun R h => h) (fun R h => ⟨_, rfl, h⟩) rfl rfl rfl fun K2 v2 s2 r2 => ?_
    refine mk_row (T := T) (i := 17) (x := x) (vs := [x]) (zs := []) rfl T.nf_BadAspect_index (fun R h => ⟨_, rfl, h⟩) (fun R h => h) rfl rfl rfl fun K3 v3 s3 r3 => ?_
    refine ⟨by show 3 ≤ sizeLine; decide, fun D nD => ?_⟩
    have s4 := same_upd (o := .lst [v1, v2, v3]) nD
    exact hR _ _ ⟨(s1.trans (s2.trans (s3.trans s4))), D, _, rfl, upd_same, (.cons (r1.same (s2.trans (s3.trans s4))) (.cons (r2.same (s3.trans s4)) (.cons (r3.same s4) .nil))), rfl⟩
  rintro v G1 ⟨t1, D1, rs1, rfl, h1, p1, l1⟩
  dsimp only [gName]
  refine asgS (fun v G => Same G1 G ∧ ∃ D rs, v = .ref D ∧ G D = some (.lst rs) ∧ Paired (RowE T G "index" x) rs [10, 10, 17, 17, 36, 36] ∧ rs.length = 6) (fun R hR => ?_) ?_
  · refine ⟨_, rfl, lstW ?_⟩
    refine mk_row (T := T) (i := 17) (x := x) (vs := []) (zs := [x]) rfl T.nf_BadAspect_index (fun R h => h) (fun R h => ⟨_, rfl, h⟩) rfl rfl rfl fun K1 v1 s1 r1 => ?_
    refine mk_row (T := T) (i := 36) (x := x) (vs := [x]) (zs := []) rfl T.nf_BadLog_index (fun R h => ⟨_, rfl, h⟩) (fun R h => h) rfl rfl rfl fun K2 v2 s2 r2 => ?_
    refine mk_row (T := T) (i := 36) (x := x) (vs := []) (zs := [x]) rfl T.nf_BadLog_index (fun R h => h) (fun R h => ⟨_, rfl, h⟩) rfl rfl rfl fun K3 v3 s3 r3 => ?_
    refine ⟨by show 3 ≤ sizeLine; decide, fun D nD => ?_⟩
    have s4 := same_upd (o := .lst [v1, v2, v3]) nD
    refine ⟨D1, D, rs1, [v1, v2, v3], rfl, rfl, (s1.trans (s2.trans (s3.trans s4))) _ _ h1, upd_same, by rw [l1]; show 6 ≤ sizeLine; decide, fun E nE => ?_⟩
    have s5 := same_upd (o := .lst (rs1 ++ [v1, v2, v3])) nE
    exact hR _ _ ⟨(s1.trans (s2.trans (s3.trans (s4.trans s5)))), E, _, rfl, upd_same, paired_app (paired_mono (fun v j h => h.same (s1.trans (s2.trans (s3.trans (s4.trans s5))))) p1) (.cons (r1.same (s2.trans (s3.trans (s4.trans s5)))) (.cons (r2.same (s3.trans (s4.trans s5))) (.cons (r3.same (s4.trans s5)) .nil))), by rw [List.length_append, l1]; rfl⟩
  rintro v G2 ⟨t2, D2, rs2, rfl, h2, p2, l2⟩
  dsimp only [gName]
  exact lc_rows T rfl rfl h2 p2 (by omega) fun H' D' rs' s' h' p' => q _ _ _ ((t1.trans t2).trans s') h' p'
theorem ok_l_of_places (T : Tx P K mg) : FnOk P w K mg base CX0 3 T.a_l_of_places T.fd_l_of_places ["_law_thing"] (spRows T [3, 3, 4, 4]) := by
  refine T.F_l_of_places.ok sc_l_of_places (fun vs H Q E h => ?_) (fun cdv A outer s H vs Q E hr h => ?_)
  · obtain ⟨x, rfl, _⟩ := h
    rfl
  obtain ⟨x, rfl, q⟩ := h
  refine ⟨_, (pss_cons (ps_set (i := 1) sc_l_of_places.nd rfl (by first | exact Or.inl rfl | exact Or.inr rfl) (pe_lst (pa_cons (pe_tup (pa_cons pe_int (pa_cons (pe_oexN T.i_Lone.m (ok_x_Lone T) (hr.mono (by decide)) (by rfl) T.m_Lone T.kb_Lone_1 pass0 (pa_cons (pv 0) pa_nil) pk_nil) pa_nil))) (pa_cons (pe_tup (pa_cons pe_int (pa_cons (pe_oex0 T.i_Lone.m (ok_x_Lone T) (hr.mono (by decide)) (by rfl) T.m_Lone T.kb_Lone_0_place pass0 (pk_cons (pv 0) pk_nil)) pa_nil))) (pa_cons (pe_tup (pa_cons pe_int (pa_cons (pe_oexN T.i_NoPlace.m (ok_x_NoPlace T) (hr.mono (by decide)) (by rfl) T.m_NoPlace T.kb_NoPlace_1 pass0 (pa_cons (pv 0) pa_nil) pk_nil) pa_nil))) (pa_cons (pe_tup (pa_cons pe_int (pa_cons (pe_oex0 T.i_NoPlace.m (ok_x_NoPlace T) (hr.mono (by decide)) (by rfl) T.m_NoPlace T.kb_NoPlace_0_place pass0 (pk_cons (pv 0) pk_nil)) pa_nil))) pa_nil))))))
 (pss_one (ps_ret (pe_lc (own := [("_law_spot", 2), ("_law_error", 3)]) (g := gTup K 2 (gCons (gName 2) (gCons (gName 3) gNil))) rfl sc_l_of_places.nd (pi_list (pv 1)) (blkOk_by (own := [("_law_spot", 2), ("_law_error", 3)]) (N := N_l_of_places) (sc := defScope s_l_of_places) (by decide +kernel)) (fun _ _ _ _ _ => (pg_tup rfl (pgs_cons (pg_name (i := 2) sc_l_of_places.nd rfl (by first | exact Or.inl rfl | exact Or.inr rfl)) (pgs_cons (pg_name (i := 3) sc_l_of_places.nd rfl (by first | exact Or.inl rfl | exact Or.inr rfl)) pgs_nil)))) (fun _ _ _ _ _ => pts_nil) (fun _ _ _ _ _ => (pe_tup (pa_cons (pv 2) (pa_cons (pv 3) (pa_cons (by exact pe_xget (pv 3) : PE _ _ (tXGet K "place" (tVar 3))) pa_nil))))))))), ?_⟩
  refine asgS (fun v G => Same H G ∧ ∃ D rs, v = .ref D ∧ G D = some (.lst rs) ∧ Paired (RowE T G "place" x) rs [3, 3, 4, 4] ∧ rs.length = 4) (fun R hR => ?_) ?_
  · refine lstW ?_
    refine mk_row (T := T) (i := 3) (x := x) (vs := [x]) (zs := []) rfl T.nf_Lone_place (fun R h => ⟨_, rfl, h⟩) (fun R h => h) rfl rfl rfl fun K1 v1 s1 r1 => ?_
    refine mk_row (T := T) (i := 3) (x := x) (vs := []) (zs := [x]) rfl T.nf_Lone_place (fun R h => h) (fun R h => ⟨_, rfl, h⟩) rfl rfl rfl fun K2 v2 s2 r2 => ?_
    refine mk_row (T := T) (i := 4) (x := x) (vs := [x]) (zs := []) rfl T.nf_NoPlace_place (fun R h => ⟨_, rfl, h⟩) (fun R h => h) rfl rfl rfl fun K3 v3 s3 r3 => ?_
    refine mk_row (T := T) (i := 4) (x := x) (vs := []) (zs := [x]) rfl T.nf_NoPlace_place (fun R h => h) (fun R h => ⟨_, rfl, h⟩) rfl rfl rfl fun K4 v4 s4 r4 => ?_
    refine ⟨by show 4 ≤ sizeLine; decide, fun D nD => ?_⟩
    have s5 := same_upd (o := .lst [v1, v2, v3, v4]) nD
    exact hR _ _ ⟨(s1.trans (s2.trans (s3.trans (s4.trans s5)))), D, _, rfl, upd_same, (.cons (r1.same (s2.trans (s3.trans (s4.trans s5)))) (.cons (r2.same (s3.trans (s4.trans s5))) (.cons (r3.same (s4.trans s5)) (.cons (r4.same s5) .nil)))), rfl⟩
  rintro v G1 ⟨t1, D1, rs1, rfl, h1, p1, l1⟩
  dsimp only [gName]
  exact lc_rows T rfl rfl h1 p1 (by omega) fun H' D' rs' s' h' p' => q _ _ _ (t1.trans s') h' p'
theorem ok_l_of_labels (T : Tx P K mg) : FnOk P w K mg base CX0 3 T.a_l_of_labels T.fd_l_of_labels ["_law_thing"] (spRows T [34, 34, 35, 35]) := by
  refine T.F_l_of_labels.ok sc_l_of_labels (fun vs H Q E h => ?_) (fun cdv A outer s H vs Q E hr h => ?_)
  · obtain ⟨x, rfl, _⟩ := h
    rfl
  obtain ⟨x, rfl, q⟩ := h
  refine ⟨_, (pss_cons (ps_set (i := 1) sc_l_of_labels.nd rfl (by first | exact Or.inl rfl | exact Or.inr rfl) (pe_lst (pa_cons (pe_tup (pa_cons pe_int (pa_cons (pe_oexN T.i_UsedLabel.m (ok_x_UsedLabel T) (hr.mono (by decide)) (by rfl) T.m_UsedLabel T.kb_UsedLabel_1 pass0 (pa_cons (pv 0) pa_nil) pk_nil) pa_nil))) (pa_cons (pe_tup (pa_cons pe_int (pa_cons (pe_oex0 T.i_UsedLabel.m (ok_x_UsedLabel T) (hr.mono (by decide)) (by rfl) T.m_UsedLabel T.kb_UsedLabel_0_label pass0 (pk_cons (pv 0) pk_nil)) pa_nil))) (pa_cons (pe_tup (pa_cons pe_int (pa_cons (pe_oexN T.i_NoLabel.m (ok_x_NoLabel T) (hr.mono (by decide)) (by rfl) T.m_NoLabel T.kb_NoLabel_1 pass0 (pa_cons (pv 0) pa_nil) pk_nil) pa_nil))) pa_nil)))))
 (pss_cons (ps_set (i := 1) sc_l_of_labels.nd rfl (by first | exact Or.inl rfl | exact Or.inr rfl) (pe_op op_cat (pv 1) (pe_lst (pa_cons (pe_tup (pa_cons pe_int (pa_cons (pe_oex0 T.i_NoLabel.m (ok_x_NoLabel T) (hr.mono (by decide)) (by rfl) T.m_NoLabel T.kb_NoLabel_0_label pass0 (pk_cons (pv 0) pk_nil)) pa_nil))) pa_nil))))
 (pss_one (ps_ret (pe_lc (own := [("_law_spot", 2), ("_law_error", 3)]) (g := gTup K 2 (gCons (gName 2) (gCons (gName 3) gNil))) rfl sc_l_of_labels.nd (pi_list (pv 1)) (blkOk_by (own := [("_law_spot", 2), ("_law_error", 3)]) (N := N_l_of_labels) (sc := defScope s_l_of_labels) (by decide +kernel)) (fun _ _ _ _ _ => (pg_tup rfl (pgs_cons (pg_name (i := 2) sc_l_of_labels.nd rfl (by first | exact Or.inl rfl | exact Or.inr rfl)) (pgs_cons (pg_name (i := 3) sc_l_of_labels.nd rfl (by first | exact Or.inl rfl | exact Or.inr rfl)) pgs_nil)))) (fun _ _ _ _ _ => pts_nil) (fun _ _ _ _ _ => (pe_tup (pa_cons (pv 2) (pa_cons (pv 3) (pa_cons (by exact pe_xget (pv 3) : PE _ _ (tXGet K "label" (tVar 3))) pa_nil)))))))))), ?_⟩
  refine asgS (fun v G => Same H G ∧ ∃ D rs, v = .ref D ∧ G D = some (.lst rs) ∧ Paired (RowE T G "label" x) rs [34, 34, 35] ∧ rs.length = 3) (fun R hR => ?_) ?_
  · refine lstW ?_
    refine mk_row (T := T) (i := 34) (x := x) (vs := [x]) (zs := []) rfl T.nf_UsedLabel_label (fun R h => ⟨_, rfl, h⟩) (fun R h => h) rfl rfl rfl fun K1 v1 s1 r1 => ?_
    refine mk_row (T := T) (i := 34) (x := x) (vs := []) (zs := [x]) rfl T.nf_UsedLabel_label (fun R h => h) (fun R h => ⟨_, rfl, h⟩) rfl rfl rfl fun K2 v2 s2 r2 => ?_
    refine mk_row (T := T) (i := 35) (x := x) (vs := [x]) (zs := []) rfl T.nf_NoLabel_label (fun R h => ⟨_, rfl, h⟩) (fun R h => h) rfl rfl rfl fun K3 v3 s3 r3 => ?_
    refine ⟨by show 3 ≤ sizeLine; decide, fun D nD => ?_⟩
    have s4 := same_upd (o := .lst [v1, v2, v3]) nD
    exact hR _ _ ⟨(s1.trans (s2.trans (s3.trans s4))), D, _, rfl, upd_same, (.cons (r1.same (s2.trans (s3.trans s4))) (.cons (r2.same (s3.trans s4)) (.cons (r3.same s4) .nil))), rfl⟩
  rintro v G1 ⟨t1, D1, rs1, rfl, h1, p1, l1⟩
  dsimp only [gName]
  refine asgS (fun v G => Same G1 G ∧ ∃ D rs, v = .ref D ∧ G D = some (.lst rs) ∧ Paired (RowE T G "label" x) rs [34, 34, 35, 35] ∧ rs.length = 4) (fun R hR => ?_) ?_
  · refine ⟨_, rfl, lstW ?_⟩
    refine mk_row (T := T) (i := 35) (x := x) (vs := []) (zs := [x]) rfl T.nf_NoLabel_label (fun R h => h) (fun R h => ⟨_, rfl, h⟩) rfl rfl rfl fun K1 v1 s1 r1 => ?_
    refine ⟨by show 1 ≤ sizeLine; decide, fun D nD => ?_⟩
    have s2 := same_upd (o := .lst [v1]) nD
    refine ⟨D1, D, rs1, [v1], rfl, rfl, (s1.trans s2) _ _ h1, upd_same, by rw [l1]; show 4 ≤ sizeLine; decide, fun E nE => ?_⟩
    have s3 := same_upd (o := .lst (rs1 ++ [v1])) nE
    exact hR _ _ ⟨(s1.trans (s2.trans s3)), E, _, rfl, upd_same, paired_app (paired_mono (fun v j h => h.same (s1.trans (s2.trans s3))) p1) (.cons (r1.same (s2.trans s3)) .nil), by rw [List.length_append, l1]; rfl⟩
  rintro v G2 ⟨t2, D2, rs2, rfl, h2, p2, l2⟩
  dsimp only [gName]
  exact lc_rows T rfl rfl h2 p2 (by omega) fun H' D' rs' s' h' p' => q _ _ _ ((t1.trans t2).trans s') h' p'
end
end Toy
set_option Elab.async false
set_option linter.all false
set_option maxRecDepth 100000
set_option maxHeartbeats 4000000
namespace Toy
open PySem L2 Sh
/-! ### errors that are found one by one -/
section
variable {P : Program} {w : World} {K : PySem.W.Frag} {mg : Str → Option Value} {base : Heap}
theorem RowT.put {T : Tx P K mg} {H : Hp} {E : Addr} {xs ys : List V} {x v : V} {j : Nat} (hE : H E = some (.lst xs)) (h : RowT T H x v j) : RowT T (upd H E (.lst ys)) x v j := by
  obtain ⟨t', a', r1, r2, C', d', r3, r4, r5⟩ := h
  have ne : ∀ {b : Addr} {u : HO}, H b = some u → u ≠ .lst xs → (upd H E (.lst ys)) b = some u := fun {b u} z z' => by
    rw [upd_ne (fun y => z' (by rw [y, hE] at z; exact (Option.some.inj z).symm))]
    exact z
  refine ⟨t', a', r1, ne r2 (fun z => nomatch z), C', d', r3, ne r4 (fun z => nomatch z), fun dx' z => ?_⟩
  obtain ⟨fs, q'⟩ := r5 dx' z
  exact ⟨fs, ne q' (fun z => nomatch z)⟩
theorem ErrAt.put {H : Hp} {E a C : Addr} {xs ys : List V} {fs : List (Str × V)} (hE : H E = some (.lst xs)) (h : ErrAt H a C fs) : ErrAt (upd H E (.lst ys)) a C fs := by
  obtain ⟨d, h1, h2⟩ := h
  have ne : ∀ {b : Addr} {u : HO}, H b = some u → u ≠ .lst xs → (upd H E (.lst ys)) b = some u := fun {b u} z z' => by
    rw [upd_ne (fun y => z' (by rw [y, hE] at z; exact (Option.some.inj z).symm))]
    exact z
  exact ⟨d, ne h1 (fun z => nomatch z), ne h2 (fun z => nomatch z)⟩
/-- what was found so far -/
def Fd (T : Tx P K mg) (H0 : Hp) (F : Addr) (x : V) (is : List Nat) (H : Hp) : Prop := Same H0 H ∧ ∃ rs, H F = some (.lst rs) ∧ rs.length = is.length ∧ Paired (RowT T H x) rs is
theorem Fd.same {T : Tx P K mg} {H0 H H' : Hp} {F : Addr} {x : V} {is : List Nat} (s : Same H H') (h : Fd T H0 F x is H) : Fd T H0 F x is H' := by
  obtain ⟨s0, rs, h1, h2, h3⟩ := h
  exact ⟨s0.trans s, rs, s _ _ h1, h2, paired_mono (fun v j h => h.same s) h3⟩
theorem errW {C : Addr} {n m : Nat} {fs : List Str} {t tk : TA} {u : TA} {σ : L2.St} {H : Hp} {Q : List V → Hp → Prop} (h : tOex C n m (spXI C fs) rotV t tk σ H (fun v H1 => u σ H1 (fun vs H2 => Q (v :: vs) H2))) : tCons (tOex C n m (spXI C fs) rotV t tk) u σ H Q := h
theorem forW {ts : TA} {g : TG} {tb : TS} {D : Ends} {σ : L2.St} {H : Hp}
    (h : ts σ H (fun xs H1 => xs.length ≤ sizeLine ∧ ∀ p, H1 p = none → ∃ a, V.ref p = .ref a ∧ (∃ ys, SqL K (upd H1 p (.lst xs)) a ys) ∧ ∃ W : Nat → Nat → L2.St → Hp → Prop, (∃ m, W 0 m σ (upd H1 p (.lst xs))) ∧ ∀ i m σ H, W i m σ H →
      ((Itl K a).stop i H ∧ D.nx σ H) ∨ ((Itl K a).go i H ∧ ∃ N : L2.St → Hp → Prop, (∀ σ' H', N σ' H' → ∃ m', m' < m ∧ W (i + 1) m' σ' H') ∧ ∀ x H', (Itl K a).yld i H x H' → g x σ H' fun σ2 H2 => tb { D with nx := N, ct := N, bk := D.nx } σ2 H2))) :
    tFor (iList K (tLst ts)) g tb D σ H := h
theorem loop_one (T : Tx P K mg) {C F : Addr} {f : Str} {i : Nat} {x : V} {z : Option V} {is : List Nat} {H0 H : Hp} {D : Ends} (hC : T.cs[i]? = some C) (hf : PySem.W.findIn K (.ref C) f = some none) (nF : H0 F = none) (hl : is.length ≤ 90) (h : Fd T H0 F x is H)
    (q : ∀ H' z', Fd T H0 F x (is ++ [i, i]) H' → D.nx [some x, some (.ref F), z'] H') :
    tFor (iList K (tLst (tCons (tOex C 1 0 (spXI C [f]) rotV (tCons (tVar 0) tNil) tNil) (tCons (tOex C 0 1 (spXI C [f]) rotV tNil (tCons (tVar 0) tNil)) tNil)))) (gName 2)
      (tDrop (tBM K "list" rAppend (tVar 1) (tCons (tTup (tCons (tC (.int (i : Nat))) (tCons (tVar 2) (tCons (tXGet K f (tVar 2)) tNil)))) tNil))) D [some x, some (.ref F), z] H := by
  refine forW ?_
  refine errW (mk_err (vs := [x]) (zs := []) (fun R h => ⟨_, rfl, h⟩) (fun R h => h) rfl rfl rfl fun H1 a1 s1 e1 => ?_)
  refine errW (mk_err (vs := []) (zs := [x]) (fun R h => h) (fun R h => ⟨_, rfl, h⟩) rfl rfl rfl fun H2 a2 s2 e2 => ?_)
  refine ⟨by show 2 ≤ sizeLine; decide, fun L nL => ?_⟩
  have s3 := same_upd (o := .lst [V.ref a1, V.ref a2]) nL
  have f3 := h.same (s1.trans (s2.trans s3))
  have hLF : L ≠ F := fun y => by
    obtain ⟨_, rs, hF, _⟩ := h.same (s1.trans s2)
    rw [y, hF] at nL
    cases nL
  have e1' : ErrAt (upd H2 L (.lst [V.ref a1, V.ref a2])) a1 C [(f, x)] := e1.same (s2.trans s3)
  have e2' : ErrAt (upd H2 L (.lst [V.ref a1, V.ref a2])) a2 C [(f, x)] := e2.same s3
  refine ⟨L, rfl, ⟨_, SqL.of upd_same⟩, for_list (K := K) (a := L) (xs := [V.ref a1, V.ref a2]) (fun n σ H' => (∃ z', σ = [some x, some (.ref F), z']) ∧ Fd T H0 F x (is ++ [i, i].take n) H' ∧ H' L = some (.lst [V.ref a1, V.ref a2]) ∧ ErrAt H' a1 C [(f, x)] ∧ ErrAt H' a2 C [(f, x)])
    ⟨⟨z, rfl⟩, by rw [List.take_zero, List.append_nil]; exact f3, upd_same, e1', e2'⟩ (fun n σ H' _ ⟨_, _, hL, _⟩ => SqL.of hL) ?_ ?_⟩
  · rintro n v σ H' hv ⟨⟨z', rfl⟩, ⟨s0, rs, hF, hlen, hp⟩, hL, g1, g2⟩
    have key : ∃ a, v = .ref a ∧ ErrAt H' a C [(f, x)] ∧ [i, i][n]? = some i := by
      match n, hv with
      | 0, hv => cases hv; exact ⟨a1, rfl, g1, rfl⟩
      | 1, hv => cases hv; exact ⟨a2, rfl, g2, rfl⟩
      | n + 2, hv => simp at hv
    obtain ⟨a, rfl, ⟨dx, q1, q2⟩, hi⟩ := key
    have hn : n < 2 := by
      have := (List.getElem?_eq_some_iff.mp hv).1
      simpa using this
    dsimp only [gName]
    refine ⟨_, rfl, .inl ⟨rfl, _, SqL.of hF⟩, _, rfl, _, rfl, a, C, dx, _, x, rfl, (T.xs C (List.mem_of_getElem? hC)).r, hf, q1, q2, by simp [List.lookup], by show 3 ≤ sizeLine; decide, fun p np => ?_⟩
    have s4 := same_upd (o := .tup [V.int (i : Nat), V.ref a, x]) np
    have hF4 := s4 _ _ hF
    refine ⟨F, rs, _, rfl, rfl, hF4, Nat.lt_of_le_of_lt (show rs.length ≤ 100 by rw [hlen, List.length_append, List.length_take]; omega) (by decide), ⟨_, rfl⟩, ⟨?_, rs ++ [.ref p], upd_same, ?_, ?_⟩, ?_, ?_, ?_⟩
    · intro b o y
      rw [upd_ne (ne_of_none y nF)]
      exact s4 _ _ (s0 _ _ y)
    · rw [List.length_append, hlen, ← take_nx hi]
      simp
      omega
    · rw [← take_nx hi, ← List.append_assoc]
      refine paired_app (paired_mono (fun v j h => (h.same s4).put hF4) hp) (.cons (RowT.put hF4 ⟨p, a, rfl, upd_same, C, some dx, hC, s4 _ _ q1, fun dx' y => ?_⟩) .nil)
      cases y
      exact ⟨_, s4 _ _ q2⟩
    · rw [upd_ne hLF]
      exact s4 _ _ hL
    · exact ErrAt.put hF4 (g1.same s4)
    · exact ErrAt.put hF4 (g2.same s4)
  · rintro σ H' ⟨⟨z', rfl⟩, hfd, _⟩
    exact q H' z' hfd
theorem ok_l_of_others (T : Tx P K mg) : FnOk P w K mg base CX0 3 T.a_l_of_others T.fd_l_of_others ["_law_thing"] (spRows T [0, 0, 9, 9, 12, 12, 19, 19, 22, 22, 32, 32]) := by
  refine T.F_l_of_others.ok sc_l_of_others (fun vs H Q E h => ?_) (fun cdv A outer s H vs Q E hr h => ?_)
  · obtain ⟨x, rfl, _⟩ := h
    rfl
  obtain ⟨x, rfl, q⟩ := h
  refine ⟨_, (pss_cons (ps_set (i := 1) sc_l_of_others.nd rfl (by first | exact Or.inl rfl | exact Or.inr rfl) (pe_lst pa_nil))
 (pss_cons (ps_for PassesOwn.never rfl (pi_list (pe_lst (pa_cons (pe_oexN T.i_BadLetters.m (ok_x_BadLetters T) (hr.mono (by decide)) (by rfl) T.m_BadLetters T.kb_BadLetters_1 pass0 (pa_cons (pv 0) pa_nil) pk_nil) (pa_cons (pe_oex0 T.i_BadLetters.m (ok_x_BadLetters T) (hr.mono (by decide)) (by rfl) T.m_BadLetters T.kb_BadLetters_0_letters pass0 (pk_cons (pv 0) pk_nil)) pa_nil)))) (pg_name (i := 2) sc_l_of_others.nd rfl (by first | exact Or.inl rfl | exact Or.inr rfl))
 (pss_one (ps_expr (pe_bm PySem.F.plainAttrs_list PySem.F.slot_list_append PySem.F.type_list_append mt_append (pv 1) (pa_cons (pe_tup (pa_cons pe_int (pa_cons (pv 2) (pa_cons (pe_xget (pv 2)) pa_nil)))) pa_nil)))))
 (pss_cons (ps_for PassesOwn.never rfl (pi_list (pe_lst (pa_cons (pe_oexN T.i_BadSize.m (ok_x_BadSize T) (hr.mono (by decide)) (by rfl) T.m_BadSize T.kb_BadSize_1 pass0 (pa_cons (pv 0) pa_nil) pk_nil) (pa_cons (pe_oex0 T.i_BadSize.m (ok_x_BadSize T) (hr.mono (by decide)) (by rfl) T.m_BadSize T.kb_BadSize_0_size pass0 (pk_cons (pv 0) pk_nil)) pa_nil)))) (pg_name (i := 2) sc_l_of_others.nd rfl (by first | exact Or.inl rfl | exact Or.inr rfl))
 (pss_one (ps_expr (pe_bm PySem.F.plainAttrs_list PySem.F.slot_list_append PySem.F.type_list_append mt_append (pv 1) (pa_cons (pe_tup (pa_cons pe_int (pa_cons (pv 2) (pa_cons (pe_xget (pv 2)) pa_nil)))) pa_nil)))))
 (pss_cons (ps_for PassesOwn.never rfl (pi_list (pe_lst (pa_cons (pe_oexN T.i_BadText.m (ok_x_BadText T) (hr.mono (by decide)) (by rfl) T.m_BadText T.kb_BadText_1 pass0 (pa_cons (pv 0) pa_nil) pk_nil) (pa_cons (pe_oex0 T.i_BadText.m (ok_x_BadText T) (hr.mono (by decide)) (by rfl) T.m_BadText T.kb_BadText_0_line pass0 (pk_cons (pv 0) pk_nil)) pa_nil)))) (pg_name (i := 2) sc_l_of_others.nd rfl (by first | exact Or.inl rfl | exact Or.inr rfl))
 (pss_one (ps_expr (pe_bm PySem.F.plainAttrs_list PySem.F.slot_list_append PySem.F.type_list_append mt_append (pv 1) (pa_cons (pe_tup (pa_cons pe_int (pa_cons (pv 2) (pa_cons (pe_xget (pv 2)) pa_nil)))) pa_nil)))))
 (pss_cons (ps_for PassesOwn.never rfl (pi_list (pe_lst (pa_cons (pe_oexN T.i_BadRelation.m (ok_x_BadRelation T) (hr.mono (by decide)) (by rfl) T.m_BadRelation T.kb_BadRelation_1 pass0 (pa_cons (pv 0) pa_nil) pk_nil) (pa_cons (pe_oex0 T.i_BadRelation.m (ok_x_BadRelation T) (hr.mono (by decide)) (by rfl) T.m_BadRelation T.kb_BadRelation_0_relation pass0 (pk_cons (pv 0) pk_nil)) pa_nil)))) (pg_name (i := 2) sc_l_of_others.nd rfl (by first | exact Or.inl rfl | exact Or.inr rfl))
 (pss_one (ps_expr (pe_bm PySem.F.plainAttrs_list PySem.F.slot_list_append PySem.F.type_list_append mt_append (pv 1) (pa_cons (pe_tup (pa_cons pe_int (pa_cons (pv 2) (pa_cons (pe_xget (pv 2)) pa_nil)))) pa_nil)))))
 (pss_cons (ps_for PassesOwn.never rfl (pi_list (pe_lst (pa_cons (pe_oexN T.i_BadPlan.m (ok_x_BadPlan T) (hr.mono (by decide)) (by rfl) T.m_BadPlan T.kb_BadPlan_1 pass0 (pa_cons (pv 0) pa_nil) pk_nil) (pa_cons (pe_oex0 T.i_BadPlan.m (ok_x_BadPlan T) (hr.mono (by decide)) (by rfl) T.m_BadPlan T.kb_BadPlan_0_field pass0 (pk_cons (pv 0) pk_nil)) pa_nil)))) (pg_name (i := 2) sc_l_of_others.nd rfl (by first | exact Or.inl rfl | exact Or.inr rfl))
 (pss_one (ps_expr (pe_bm PySem.F.plainAttrs_list PySem.F.slot_list_append PySem.F.type_list_append mt_append (pv 1) (pa_cons (pe_tup (pa_cons pe_int (pa_cons (pv 2) (pa_cons (pe_xget (pv 2)) pa_nil)))) pa_nil)))))
 (pss_cons (ps_for PassesOwn.never rfl (pi_list (pe_lst (pa_cons (pe_oexN T.i_NoRule.m (ok_x_NoRule T) (hr.mono (by decide)) (by rfl) T.m_NoRule T.kb_NoRule_1 pass0 (pa_cons (pv 0) pa_nil) pk_nil) (pa_cons (pe_oex0 T.i_NoRule.m (ok_x_NoRule T) (hr.mono (by decide)) (by rfl) T.m_NoRule T.kb_NoRule_0_root pass0 (pk_cons (pv 0) pk_nil)) pa_nil)))) (pg_name (i := 2) sc_l_of_others.nd rfl (by first | exact Or.inl rfl | exact Or.inr rfl))
 (pss_one (ps_expr (pe_bm PySem.F.plainAttrs_list PySem.F.slot_list_append PySem.F.type_list_append mt_append (pv 1) (pa_cons (pe_tup (pa_cons pe_int (pa_cons (pv 2) (pa_cons (pe_xget (pv 2)) pa_nil)))) pa_nil)))))
 (pss_one (ps_ret (pv 1)))))))))), ?_⟩
  refine ⟨by show 0 ≤ sizeLine; decide, fun F nF => ?_⟩
  have f0 : Fd T H F x [] (upd H F (.lst [])) := ⟨same_upd nF, [], upd_same, rfl, .nil⟩
  refine loop_one T (i := 0) rfl T.nf_BadLetters_letters nF (by decide) f0 fun H1 z1 f1 => ?_
  refine loop_one T (i := 9) rfl T.nf_BadSize_size nF (by decide) f1 fun H2 z2 f2 => ?_
  refine loop_one T (i := 12) rfl T.nf_BadText_line nF (by decide) f2 fun H3 z3 f3 => ?_
  refine loop_one T (i := 19) rfl T.nf_BadRelation_relation nF (by decide) f3 fun H4 z4 f4 => ?_
  refine loop_one T (i := 22) rfl T.nf_BadPlan_field nF (by decide) f4 fun H5 z5 f5 => ?_
  refine loop_one T (i := 32) rfl T.nf_NoRule_root nF (by decide) f5 fun H6 z6 f6 => ?_
  obtain ⟨s6, rs, hF, _, hp⟩ := f6
  exact ⟨_, rfl, q _ _ _ s6 hF hp⟩
end
end Toy
set_option Elab.async false
set_option linter.all false
set_option maxRecDepth 100000
set_option maxHeartbeats 4000000
namespace Toy
open PySem L2 Sh
/-! ### errors of several fields -/
section
variable {P : Program} {w : World} {K : PySem.W.Frag} {mg : Str → Option Value} {base : Heap}
/-- (i, error, what it tells, what is due), both tuples of the same values -/
def RowS (T : Tx P K mg) (x y z : V) (H : Hp) (v : V) (i : Nat) : Prop := ∃ t a b c ws, v = .ref t ∧ H t = some (.tup [.int i, .ref a, .ref b, .ref c]) ∧ H b = some (.tup ws) ∧ H c = some (.tup ws) ∧ (ws = [x, y] ∨ ws = [x, y, z]) ∧ ErrI T H a i
theorem RowS.same {T : Tx P K mg} {H H' : Hp} {x y z v : V} {i : Nat} (s : Same H H') (h : RowS T x y z H v i) : RowS T x y z H' v i := by
  obtain ⟨t, a, b, c, ws, h1, h2, h3, h4, h5, h6⟩ := h
  exact ⟨t, a, b, c, ws, h1, s _ _ h2, s _ _ h3, s _ _ h4, h5, h6.same s⟩
theorem RowS.put {T : Tx P K mg} {H : Hp} {E : Addr} {xs ys : List V} {x y z v : V} {j : Nat} (hE : H E = some (.lst xs)) (h : RowS T x y z H v j) : RowS T x y z (upd H E (.lst ys)) v j := by
  obtain ⟨t, a, b, c, ws, h1, h2, h3, h4, h5, C', d', r3, r4, r5⟩ := h
  have ne : ∀ {b : Addr} {u : HO}, H b = some u → u ≠ .lst xs → (upd H E (.lst ys)) b = some u := fun {b u} q q' => by
    rw [upd_ne (fun y => q' (by rw [y, hE] at q; exact (Option.some.inj q).symm))]
    exact q
  refine ⟨t, a, b, c, ws, h1, ne h2 (fun q => nomatch q), ne h3 (fun q => nomatch q), ne h4 (fun q => nomatch q), h5, C', d', r3, ne r4 (fun q => nomatch q), fun dx' q => ?_⟩
  obtain ⟨fs, q'⟩ := r5 dx' q
  exact ⟨fs, ne q' (fun q => nomatch q)⟩
def Fs (T : Tx P K mg) (H0 : Hp) (F : Addr) (x y z : V) (is : List Nat) (H : Hp) : Prop := Same H0 H ∧ ∃ rs, H F = some (.lst rs) ∧ rs.length = is.length ∧ Paired (RowS T x y z H) rs is
theorem Fs.same {T : Tx P K mg} {H0 H H' : Hp} {F : Addr} {x y z : V} {is : List Nat} (s : Same H H') (h : Fs T H0 F x y z is H) : Fs T H0 F x y z is H' := by
  obtain ⟨s0, rs, h1, h2, h3⟩ := h
  exact ⟨s0.trans s, rs, s _ _ h1, h2, paired_mono (fun v j h => h.same s) h3⟩
theorem loop_two (T : Tx P K mg) {C F : Addr} {fs : List (Str × V)} {ws : List V} {i : Nat} {x y z : V} {e : Option V} {is : List Nat} {H0 H : Hp} {D : Ends} {ts : TA} {tA tB : TE} (hC : T.cs[i]? = some C) (nF : H0 F = none) (hl : is.length ≤ 90) (h : Fs T H0 F x y z is H)
    (hws : ws = [x, y] ∨ ws = [x, y, z])
    (hts : ∀ (Q : List V → Hp → Prop), (∀ H' a1 a2, Same H H' → ErrAt H' a1 C fs → ErrAt H' a2 C fs → Q [.ref a1, .ref a2] H') → ts [some x, some y, some z, some (.ref F), e] H Q)
    (hA : ∀ (a : Addr) (H' : Hp) (R : VK), ErrAt H' a C fs → (∀ p H2, Same H' H2 → H2 p = some (.tup ws) → R (.ref p) H2) → tA [some x, some y, some z, some (.ref F), some (.ref a)] H' R)
    (hB : ∀ (a : Addr) (H' : Hp) (R : VK), (∀ p H2, Same H' H2 → H2 p = some (.tup ws) → R (.ref p) H2) → tB [some x, some y, some z, some (.ref F), some (.ref a)] H' R)
    (q : ∀ H' e', Fs T H0 F x y z (is ++ [i, i]) H' → D.nx [some x, some y, some z, some (.ref F), e'] H') :
    tFor (iList K (tLst ts)) (gName 4) (tDrop (tBM K "list" rAppend (tVar 3) (tCons (tTup (tCons (tC (.int (i : Nat))) (tCons (tVar 4) (tCons tA (tCons tB tNil))))) tNil))) D [some x, some y, some z, some (.ref F), e] H := by
  refine forW (hts _ fun H2 a1 a2 s2 e1 e2 => ?_)
  refine ⟨by show 2 ≤ sizeLine; decide, fun L nL => ?_⟩
  have s3 := same_upd (o := .lst [V.ref a1, V.ref a2]) nL
  have f3 := h.same (s2.trans s3)
  have hLF : L ≠ F := fun y => by
    obtain ⟨_, rs, hF, _⟩ := h.same s2
    rw [y, hF] at nL
    cases nL
  refine ⟨L, rfl, ⟨_, SqL.of upd_same⟩, for_list (K := K) (a := L) (xs := [V.ref a1, V.ref a2]) (fun n σ H' => (∃ e', σ = [some x, some y, some z, some (.ref F), e']) ∧ Fs T H0 F x y z (is ++ [i, i].take n) H' ∧ H' L = some (.lst [V.ref a1, V.ref a2]) ∧ ErrAt H' a1 C fs ∧ ErrAt H' a2 C fs)
    ⟨⟨e, rfl⟩, by rw [List.take_zero, List.append_nil]; exact f3, upd_same, e1.same s3, e2.same s3⟩ (fun n σ H' _ ⟨_, _, hL, _⟩ => SqL.of hL) ?_ ?_⟩
  · rintro n v σ H' hv ⟨⟨e', rfl⟩, ⟨s0, rs, hF, hlen, hp⟩, hL, g1, g2⟩
    have key : ∃ a, v = .ref a ∧ ErrAt H' a C fs ∧ [i, i][n]? = some i := by
      match n, hv with
      | 0, hv => cases hv; exact ⟨a1, rfl, g1, rfl⟩
      | 1, hv => cases hv; exact ⟨a2, rfl, g2, rfl⟩
      | n + 2, hv => simp at hv
    obtain ⟨a, rfl, er, hi⟩ := key
    have hn : n < 2 := by
      have := (List.getElem?_eq_some_iff.mp hv).1
      simpa using this
    dsimp only [gName]
    refine ⟨_, rfl, .inl ⟨rfl, _, SqL.of hF⟩, _, rfl, ?_⟩
    refine hA a H' _ er fun b H3 s4 hb => ?_
    refine hB a H3 _ fun c H4 s5 hc => ?_
    refine ⟨by show 4 ≤ sizeLine; decide, fun p np => ?_⟩
    have s6 := same_upd (o := .tup [V.int (i : Nat), V.ref a, V.ref b, V.ref c]) np
    have sA := s4.trans (s5.trans s6)
    have hF4 := sA _ _ hF
    refine ⟨F, rs, _, rfl, rfl, hF4, Nat.lt_of_le_of_lt (show rs.length ≤ 100 by rw [hlen, List.length_append, List.length_take]; omega) (by decide), ⟨_, rfl⟩, ⟨?_, rs ++ [.ref p], upd_same, ?_, ?_⟩, ?_, ?_, ?_⟩
    · intro b o y
      rw [upd_ne (ne_of_none y nF)]
      exact sA _ _ (s0 _ _ y)
    · rw [List.length_append, hlen, ← take_nx hi]
      simp
      omega
    · rw [← take_nx hi, ← List.append_assoc]
      obtain ⟨dx, q1, q2⟩ := er
      refine paired_app (paired_mono (fun v j h => (h.same sA).put hF4) hp) (.cons (RowS.put hF4 ⟨p, a, b, c, ws, rfl, upd_same, (s5.trans s6) _ _ hb, s6 _ _ hc, hws, C, some dx, hC, sA _ _ q1, fun dx' y => ?_⟩) .nil)
      cases y
      exact ⟨_, sA _ _ q2⟩
    · rw [upd_ne hLF]
      exact sA _ _ hL
    · exact ErrAt.put hF4 (g1.same sA)
    · exact ErrAt.put hF4 (g2.same sA)
  · rintro σ H' ⟨⟨e', rfl⟩, hfd, _⟩
    exact q H' e' hfd
def spSeveral (T : Tx P K mg) : Sp := fun vs H Q _ => ∃ x y z, vs = [x, y, z] ∧ ∀ H' D rs, Same H H' → H' D = some (.lst rs) → Paired (RowS T x y z H') rs [6, 6, 11, 11, 16, 16, 1, 1] → Q (.ref D) H'
theorem ok_l_of_several (T : Tx P K mg) : FnOk P w K mg base CX0 3 T.a_l_of_several T.fd_l_of_several ["_law_thing", "_law_other", "_law_third"] (spSeveral T) := by
  refine T.F_l_of_several.ok sc_l_of_several (fun vs H Q E h => ?_) (fun cdv A outer s H vs Q E hr h => ?_)
  · obtain ⟨x, y, z, rfl, _⟩ := h
    rfl
  obtain ⟨x, y, z, rfl, q⟩ := h
  refine ⟨_, (pss_cons (ps_set (i := 3) sc_l_of_several.nd rfl (by first | exact Or.inl rfl | exact Or.inr rfl) (pe_lst pa_nil))
 (pss_cons (ps_for PassesOwn.never rfl (pi_list (pe_lst (pa_cons (pe_oexN T.i_BadKind.m (ok_x_BadKind T) (hr.mono (by decide)) (by rfl) T.m_BadKind T.kb_BadKind_2 pass0 (pa_cons (pv 0) (pa_cons (pv 1) pa_nil)) pk_nil) (pa_cons (pe_oex0 T.i_BadKind.m (ok_x_BadKind T) (hr.mono (by decide)) (by rfl) T.m_BadKind T.kb_BadKind_0_number_side pass0 (pk_cons (pv 1) (pk_cons (pv 0) pk_nil))) pa_nil)))) (pg_name (i := 4) sc_l_of_several.nd rfl (by first | exact Or.inl rfl | exact Or.inr rfl))
 (pss_one (ps_expr (pe_bm PySem.F.plainAttrs_list PySem.F.slot_list_append PySem.F.type_list_append mt_append (pv 3) (pa_cons (pe_tup (pa_cons pe_int (pa_cons (pv 4) (pa_cons (pe_tup (pa_cons (pe_xget (pv 4)) (pa_cons (pe_xget (pv 4)) pa_nil))) (pa_cons (pe_tup (pa_cons (pv 0) (pa_cons (pv 1) pa_nil))) pa_nil))))) pa_nil)))))
 (pss_cons (ps_for PassesOwn.never rfl (pi_list (pe_lst (pa_cons (pe_oexN T.i_BadStatement.m (ok_x_BadStatement T) (hr.mono (by decide)) (by rfl) T.m_BadStatement T.kb_BadStatement_2 pass0 (pa_cons (pv 0) (pa_cons (pv 1) pa_nil)) pk_nil) (pa_cons (pe_oex0 T.i_BadStatement.m (ok_x_BadStatement T) (hr.mono (by decide)) (by rfl) T.m_BadStatement T.kb_BadStatement_0_number_block pass0 (pk_cons (pv 1) (pk_cons (pv 0) pk_nil))) pa_nil)))) (pg_name (i := 4) sc_l_of_several.nd rfl (by first | exact Or.inl rfl | exact Or.inr rfl))
 (pss_one (ps_expr (pe_bm PySem.F.plainAttrs_list PySem.F.slot_list_append PySem.F.type_list_append mt_append (pv 3) (pa_cons (pe_tup (pa_cons pe_int (pa_cons (pv 4) (pa_cons (pe_tup (pa_cons (pe_xget (pv 4)) (pa_cons (pe_xget (pv 4)) pa_nil))) (pa_cons (pe_tup (pa_cons (pv 0) (pa_cons (pv 1) pa_nil))) pa_nil))))) pa_nil)))))
 (pss_cons (ps_for PassesOwn.never rfl (pi_list (pe_lst (pa_cons (pe_oexN T.i_BadScript.m (ok_x_BadScript T) (hr.mono (by decide)) (by rfl) T.m_BadScript T.kb_BadScript_2 pass0 (pa_cons (pv 0) (pa_cons (pv 1) pa_nil)) pk_nil) (pa_cons (pe_oexN T.i_BadScript.m (ok_x_BadScript T) (hr.mono (by decide)) (by rfl) T.m_BadScript T.kb_BadScript_1_index pass0 (pa_cons (pv 0) pa_nil) (pk_cons (pv 1) pk_nil)) pa_nil)))) (pg_name (i := 4) sc_l_of_several.nd rfl (by first | exact Or.inl rfl | exact Or.inr rfl))
 (pss_one (ps_expr (pe_bm PySem.F.plainAttrs_list PySem.F.slot_list_append PySem.F.type_list_append mt_append (pv 3) (pa_cons (pe_tup (pa_cons pe_int (pa_cons (pv 4) (pa_cons (pe_tup (pa_cons (pe_xget (pv 4)) (pa_cons (pe_xget (pv 4)) pa_nil))) (pa_cons (pe_tup (pa_cons (pv 0) (pa_cons (pv 1) pa_nil))) pa_nil))))) pa_nil)))))
 (pss_cons (ps_for PassesOwn.never rfl (pi_list (pe_lst (pa_cons (pe_oexN T.i_TooMany.m (ok_x_TooMany T) (hr.mono (by decide)) (by rfl) T.m_TooMany T.kb_TooMany_3 pass0 (pa_cons (pv 0) (pa_cons (pv 1) (pa_cons (pv 2) pa_nil))) pk_nil) (pa_cons (pe_oex0 T.i_TooMany.m (ok_x_TooMany T) (hr.mono (by decide)) (by rfl) T.m_TooMany T.kb_TooMany_0_most_what_many pass0 (pk_cons (pv 2) (pk_cons (pv 0) (pk_cons (pv 1) pk_nil)))) pa_nil)))) (pg_name (i := 4) sc_l_of_several.nd rfl (by first | exact Or.inl rfl | exact Or.inr rfl))
 (pss_one (ps_expr (pe_bm PySem.F.plainAttrs_list PySem.F.slot_list_append PySem.F.type_list_append mt_append (pv 3) (pa_cons (pe_tup (pa_cons pe_int (pa_cons (pv 4) (pa_cons (pe_tup (pa_cons (pe_xget (pv 4)) (pa_cons (pe_xget (pv 4)) (pa_cons (pe_xget (pv 4)) pa_nil)))) (pa_cons (pe_tup (pa_cons (pv 0) (pa_cons (pv 1) (pa_cons (pv 2) pa_nil)))) pa_nil))))) pa_nil)))))
 (pss_one (ps_ret (pv 3)))))))), ?_⟩
  refine ⟨by show 0 ≤ sizeLine; decide, fun F nF => ?_⟩
  have f0 : Fs T H F x y z [] (upd H F (.lst [])) := ⟨same_upd nF, [], upd_same, rfl, .nil⟩
  dsimp only [gName]
  show tFor _ _ _ _ _ _
  refine loop_two T (i := 6) (e := none) (fs := [("number", y), ("side", x)]) (ws := [x, y]) rfl nF (by decide) f0 (.inl rfl) (fun R hR => ?_) (fun a H' R er k => ?_) (fun a H' R k => ?_) fun H1 z1 f1 => ?_
  · refine errW (mk_err (vs := [x, y]) (zs := []) (fun R h => ⟨_, rfl, _, rfl, h⟩) (fun R h => h) rfl rfl rfl fun H1 a1 s1 e1 => ?_)
    refine errW (mk_err (vs := []) (zs := [y, x]) (fun R h => h) (fun R h => ⟨_, rfl, _, rfl, h⟩) rfl rfl rfl fun H2 a2 s2 e2 => ?_)
    exact hR _ _ _ (s1.trans s2) (e1.same s2) e2
  · obtain ⟨dx, q1, q2⟩ := er
    exact ⟨_, rfl, a, T.c_BadKind, dx, _, x, rfl, T.x_BadKind.r, T.nf_BadKind_side, q1, q2, rfl, _, rfl, a, T.c_BadKind, dx, _, y, rfl, T.x_BadKind.r, T.nf_BadKind_number, q1, q2, rfl, by show 2 ≤ sizeLine; decide, fun p np => k p _ (same_upd np) upd_same⟩
  · exact ⟨_, rfl, _, rfl, by show 2 ≤ sizeLine; decide, fun p np => k p _ (same_upd np) upd_same⟩
  dsimp only
  show tFor _ _ _ _ _ _
  refine loop_two T (i := 11) (e := z1) (fs := [("number", y), ("block", x)]) (ws := [x, y]) rfl nF (by decide) f1 (.inl rfl) (fun R hR => ?_) (fun a H' R er k => ?_) (fun a H' R k => ?_) fun H2 z2 f2 => ?_
  · refine errW (mk_err (vs := [x, y]) (zs := []) (fun R h => ⟨_, rfl, _, rfl, h⟩) (fun R h => h) rfl rfl rfl fun H1 a1 s1 e1 => ?_)
    refine errW (mk_err (vs := []) (zs := [y, x]) (fun R h => h) (fun R h => ⟨_, rfl, _, rfl, h⟩) rfl rfl rfl fun H2 a2 s2 e2 => ?_)
    exact hR _ _ _ (s1.trans s2) (e1.same s2) e2
  · obtain ⟨dx, q1, q2⟩ := er
    exact ⟨_, rfl, a, T.c_BadStatement, dx, _, x, rfl, T.x_BadStatement.r, T.nf_BadStatement_block, q1, q2, rfl, _, rfl, a, T.c_BadStatement, dx, _, y, rfl, T.x_BadStatement.r, T.nf_BadStatement_number, q1, q2, rfl, by show 2 ≤ sizeLine; decide, fun p np => k p _ (same_upd np) upd_same⟩
  · exact ⟨_, rfl, _, rfl, by show 2 ≤ sizeLine; decide, fun p np => k p _ (same_upd np) upd_same⟩
  dsimp only
  show tFor _ _ _ _ _ _
  refine loop_two T (i := 16) (e := z2) (fs := [("index", y), ("script", x)]) (ws := [x, y]) rfl nF (by decide) f2 (.inl rfl) (fun R hR => ?_) (fun a H' R er k => ?_) (fun a H' R k => ?_) fun H3 z3 f3 => ?_
  · refine errW (mk_err (vs := [x, y]) (zs := []) (fun R h => ⟨_, rfl, _, rfl, h⟩) (fun R h => h) rfl rfl rfl fun H1 a1 s1 e1 => ?_)
    refine errW (mk_err (vs := [x]) (zs := [y]) (fun R h => ⟨_, rfl, h⟩) (fun R h => ⟨_, rfl, h⟩) rfl rfl rfl fun H2 a2 s2 e2 => ?_)
    exact hR _ _ _ (s1.trans s2) (e1.same s2) e2
  · obtain ⟨dx, q1, q2⟩ := er
    exact ⟨_, rfl, a, T.c_BadScript, dx, _, x, rfl, T.x_BadScript.r, T.nf_BadScript_script, q1, q2, rfl, _, rfl, a, T.c_BadScript, dx, _, y, rfl, T.x_BadScript.r, T.nf_BadScript_index, q1, q2, rfl, by show 2 ≤ sizeLine; decide, fun p np => k p _ (same_upd np) upd_same⟩
  · exact ⟨_, rfl, _, rfl, by show 2 ≤ sizeLine; decide, fun p np => k p _ (same_upd np) upd_same⟩
  dsimp only
  show tFor _ _ _ _ _ _
  refine loop_two T (i := 1) (e := z3) (fs := [("most", z), ("many", y), ("what", x)]) (ws := [x, y, z]) rfl nF (by decide) f3 (.inr rfl) (fun R hR => ?_) (fun a H' R er k => ?_) (fun a H' R k => ?_) fun H4 z4 f4 => ?_
  · refine errW (mk_err (vs := [x, y, z]) (zs := []) (fun R h => ⟨_, rfl, _, rfl, _, rfl, h⟩) (fun R h => h) rfl rfl rfl fun H1 a1 s1 e1 => ?_)
    refine errW (mk_err (vs := []) (zs := [z, x, y]) (fun R h => h) (fun R h => ⟨_, rfl, _, rfl, _, rfl, h⟩) rfl rfl rfl fun H2 a2 s2 e2 => ?_)
    exact hR _ _ _ (s1.trans s2) (e1.same s2) e2
  · obtain ⟨dx, q1, q2⟩ := er
    exact ⟨_, rfl, a, T.c_TooMany, dx, _, x, rfl, T.x_TooMany.r, T.nf_TooMany_what, q1, q2, rfl, _, rfl, a, T.c_TooMany, dx, _, y, rfl, T.x_TooMany.r, T.nf_TooMany_many, q1, q2, rfl, _, rfl, a, T.c_TooMany, dx, _, z, rfl, T.x_TooMany.r, T.nf_TooMany_most, q1, q2, rfl, by show 3 ≤ sizeLine; decide, fun p np => k p _ (same_upd np) upd_same⟩
  · exact ⟨_, rfl, _, rfl, _, rfl, by show 3 ≤ sizeLine; decide, fun p np => k p _ (same_upd np) upd_same⟩
  obtain ⟨s6, rs, hF, _, hp⟩ := f4
  exact ⟨_, rfl, q _ _ _ s6 hF hp⟩
end
end Toy
set_option Elab.async false
set_option linter.all false
set_option maxRecDepth 100000
set_option maxHeartbeats 4000000
namespace Toy
open PySem L2 Sh
/-! ### which classes an error is of -/
section
variable {P : Program} {w : World} {K : PySem.W.Frag} {mg : Str → Option Value} {base : Heap}
theorem iteD {c A B : Prop} [Decidable c] (hA : c → A) (hB : ¬ c → B) : if decide c = true then A else B := ite2 (fun h => hA (of_decide_eq_true h)) fun h => hB fun z => h (decide_eq_true z)
theorem Tx.nd (T : Tx P K mg) : (T.cs ++ [T.c_ShedError]).Nodup := T.xnd
theorem Tx.neS (T : Tx P K mg) {c : Addr} (h : c ∈ T.cs) : c ≠ T.c_ShedError := fun e => by
  have := (List.nodup_append.mp T.nd).2.2 c h T.c_ShedError (List.mem_singleton.mpr rfl)
  exact this e
theorem isW {T : Tx P K mg} {σ : L2.St} {H : Hp} {Q : VK} {a C c : Addr} {d : Option Addr} (h0 : σ[0]? = some (some (.ref a))) (hC : C ∈ T.cs) (hc : c ∈ T.cs) (ha : H a = some (exo a C d)) (hd : ∀ dx, d = some dx → ∃ fs, H dx = some (exd dx fs))
    (q : Q (.bl (decide (C = c))) H) : tCB (rIsX K) (tCons (tVar 0) (tCons (tC (.ref c)) tNil)) σ H Q :=
  ⟨_, h0, a, C, d, _, _, _, rfl, .own c, (T.xs C hC).r, ha, hd, (T.xs C hC).own (T.xs c hc) (T.neS hc), q⟩
def spMet (T : Tx P K mg) : Sp := fun vs H Q _ => ∃ a i, vs = [.ref a] ∧ ErrI T H a i ∧ ∀ H' D, Same H H' → H' D = some (.lst [V.int (i : Nat)]) → Q (.ref D) H'
theorem tl0 {T : Tx P K mg} {n : Nat} {c : Addr} (h : T.cs[n]? = some c) : c ∈ T.cs := List.mem_of_getElem? h
theorem is_at {T : Tx P K mg} {i n : Nat} {C c : Addr} (h1 : T.cs[i]? = some C) (h2 : T.cs[n]? = some c) : decide (C = c) = decide (i = n) := by
  have nd := (List.nodup_append.mp T.nd).1
  by_cases e : i = n
  · subst e
    rw [h1] at h2
    cases h2
    simp
  · have : C ≠ c := fun z => e (by
      subst z
      obtain ⟨l1, e1⟩ := List.getElem?_eq_some_iff.mp h1
      obtain ⟨l2, e2⟩ := List.getElem?_eq_some_iff.mp h2
      exact (List.getElem_inj nd).mp (e1.trans e2.symm))
    simp [e, this]
theorem ok_l_met (T : Tx P K mg) : FnOk P w K mg base CX0 1 T.a_l_met T.fd_l_met ["_law_error"] (spMet T) := by
  refine T.F_l_met.ok sc_l_met (fun vs H Q E h => ?_) (fun cdv A outer s H vs Q E hr h => ?_)
  · obtain ⟨a, i, rfl, _⟩ := h
    rfl
  obtain ⟨a, i, rfl, ⟨C, d, hC, ha, hd⟩, q⟩ := h
  refine ⟨_, (pss_cons (ps_set (i := 1) sc_l_met.nd rfl (by first | exact Or.inl rfl | exact Or.inr rfl) (pe_lst (pa_cons (pe_callB (call_isX T.o_get T.o_tk) (by rfl) T.b_isinstance (by decide +kernel) (pa_cons (pv 0) (pa_cons (pe_glob (v := .ref T.c_BadLetters) (by rfl) T.m_BadLetters rfl) pa_nil))) (pa_cons (pe_callB (call_isX T.o_get T.o_tk) (by rfl) T.b_isinstance (by decide +kernel) (pa_cons (pv 0) (pa_cons (pe_glob (v := .ref T.c_TooMany) (by rfl) T.m_TooMany rfl) pa_nil))) (pa_cons (pe_callB (call_isX T.o_get T.o_tk) (by rfl) T.b_isinstance (by decide +kernel) (pa_cons (pv 0) (pa_cons (pe_glob (v := .ref T.c_BadRow) (by rfl) T.m_BadRow rfl) pa_nil))) pa_nil)))))
 (pss_cons (ps_set (i := 1) sc_l_met.nd rfl (by first | exact Or.inl rfl | exact Or.inr rfl) (pe_op op_cat (pv 1) (pe_lst (pa_cons (pe_callB (call_isX T.o_get T.o_tk) (by rfl) T.b_isinstance (by decide +kernel) (pa_cons (pv 0) (pa_cons (pe_glob (v := .ref T.c_Lone) (by rfl) T.m_Lone rfl) pa_nil))) (pa_cons (pe_callB (call_isX T.o_get T.o_tk) (by rfl) T.b_isinstance (by decide +kernel) (pa_cons (pv 0) (pa_cons (pe_glob (v := .ref T.c_NoPlace) (by rfl) T.m_NoPlace rfl) pa_nil))) (pa_cons (pe_callB (call_isX T.o_get T.o_tk) (by rfl) T.b_isinstance (by decide +kernel) (pa_cons (pv 0) (pa_cons (pe_glob (v := .ref T.c_BadItem) (by rfl) T.m_BadItem rfl) pa_nil))) pa_nil))))))
 (pss_cons (ps_set (i := 1) sc_l_met.nd rfl (by first | exact Or.inl rfl | exact Or.inr rfl) (pe_op op_cat (pv 1) (pe_lst (pa_cons (pe_callB (call_isX T.o_get T.o_tk) (by rfl) T.b_isinstance (by decide +kernel) (pa_cons (pv 0) (pa_cons (pe_glob (v := .ref T.c_BadKind) (by rfl) T.m_BadKind rfl) pa_nil))) (pa_cons (pe_callB (call_isX T.o_get T.o_tk) (by rfl) T.b_isinstance (by decide +kernel) (pa_cons (pv 0) (pa_cons (pe_glob (v := .ref T.c_BadName) (by rfl) T.m_BadName rfl) pa_nil))) (pa_cons (pe_callB (call_isX T.o_get T.o_tk) (by rfl) T.b_isinstance (by decide +kernel) (pa_cons (pv 0) (pa_cons (pe_glob (v := .ref T.c_NotExact) (by rfl) T.m_NotExact rfl) pa_nil))) pa_nil))))))
 (pss_cons (ps_set (i := 1) sc_l_met.nd rfl (by first | exact Or.inl rfl | exact Or.inr rfl) (pe_op op_cat (pv 1) (pe_lst (pa_cons (pe_callB (call_isX T.o_get T.o_tk) (by rfl) T.b_isinstance (by decide +kernel) (pa_cons (pv 0) (pa_cons (pe_glob (v := .ref T.c_BadSize) (by rfl) T.m_BadSize rfl) pa_nil))) (pa_cons (pe_callB (call_isX T.o_get T.o_tk) (by rfl) T.b_isinstance (by decide +kernel) (pa_cons (pv 0) (pa_cons (pe_glob (v := .ref T.c_BadValues) (by rfl) T.m_BadValues rfl) pa_nil))) (pa_cons (pe_callB (call_isX T.o_get T.o_tk) (by rfl) T.b_isinstance (by decide +kernel) (pa_cons (pv 0) (pa_cons (pe_glob (v := .ref T.c_BadStatement) (by rfl) T.m_BadStatement rfl) pa_nil))) pa_nil))))))
 (pss_cons (ps_set (i := 1) sc_l_met.nd rfl (by first | exact Or.inl rfl | exact Or.inr rfl) (pe_op op_cat (pv 1) (pe_lst (pa_cons (pe_callB (call_isX T.o_get T.o_tk) (by rfl) T.b_isinstance (by decide +kernel) (pa_cons (pv 0) (pa_cons (pe_glob (v := .ref T.c_BadText) (by rfl) T.m_BadText rfl) pa_nil))) (pa_cons (pe_callB (call_isX T.o_get T.o_tk) (by rfl) T.b_isinstance (by decide +kernel) (pa_cons (pv 0) (pa_cons (pe_glob (v := .ref T.c_BadCall) (by rfl) T.m_BadCall rfl) pa_nil))) (pa_cons (pe_callB (call_isX T.o_get T.o_tk) (by rfl) T.b_isinstance (by decide +kernel) (pa_cons (pv 0) (pa_cons (pe_glob (v := .ref T.c_BadWord) (by rfl) T.m_BadWord rfl) pa_nil))) pa_nil))))))
 (pss_cons (ps_set (i := 1) sc_l_met.nd rfl (by first | exact Or.inl rfl | exact Or.inr rfl) (pe_op op_cat (pv 1) (pe_lst (pa_cons (pe_callB (call_isX T.o_get T.o_tk) (by rfl) T.b_isinstance (by decide +kernel) (pa_cons (pv 0) (pa_cons (pe_glob (v := .ref T.c_BadValue) (by rfl) T.m_BadValue rfl) pa_nil))) (pa_cons (pe_callB (call_isX T.o_get T.o_tk) (by rfl) T.b_isinstance (by decide +kernel) (pa_cons (pv 0) (pa_cons (pe_glob (v := .ref T.c_BadScript) (by rfl) T.m_BadScript rfl) pa_nil))) (pa_cons (pe_callB (call_isX T.o_get T.o_tk) (by rfl) T.b_isinstance (by decide +kernel) (pa_cons (pv 0) (pa_cons (pe_glob (v := .ref T.c_BadAspect) (by rfl) T.m_BadAspect rfl) pa_nil))) pa_nil))))))
 (pss_cons (ps_set (i := 1) sc_l_met.nd rfl (by first | exact Or.inl rfl | exact Or.inr rfl) (pe_op op_cat (pv 1) (pe_lst (pa_cons (pe_callB (call_isX T.o_get T.o_tk) (by rfl) T.b_isinstance (by decide +kernel) (pa_cons (pv 0) (pa_cons (pe_glob (v := .ref T.c_BadWhere) (by rfl) T.m_BadWhere rfl) pa_nil))) (pa_cons (pe_callB (call_isX T.o_get T.o_tk) (by rfl) T.b_isinstance (by decide +kernel) (pa_cons (pv 0) (pa_cons (pe_glob (v := .ref T.c_BadRelation) (by rfl) T.m_BadRelation rfl) pa_nil))) (pa_cons (pe_callB (call_isX T.o_get T.o_tk) (by rfl) T.b_isinstance (by decide +kernel) (pa_cons (pv 0) (pa_cons (pe_glob (v := .ref T.c_NoNumber) (by rfl) T.m_NoNumber rfl) pa_nil))) pa_nil))))))
 (pss_cons (ps_set (i := 1) sc_l_met.nd rfl (by first | exact Or.inl rfl | exact Or.inr rfl) (pe_op op_cat (pv 1) (pe_lst (pa_cons (pe_callB (call_isX T.o_get T.o_tk) (by rfl) T.b_isinstance (by decide +kernel) (pa_cons (pv 0) (pa_cons (pe_glob (v := .ref T.c_InTheWay) (by rfl) T.m_InTheWay rfl) pa_nil))) (pa_cons (pe_callB (call_isX T.o_get T.o_tk) (by rfl) T.b_isinstance (by decide +kernel) (pa_cons (pv 0) (pa_cons (pe_glob (v := .ref T.c_BadPlan) (by rfl) T.m_BadPlan rfl) pa_nil))) (pa_cons (pe_callB (call_isX T.o_get T.o_tk) (by rfl) T.b_isinstance (by decide +kernel) (pa_cons (pv 0) (pa_cons (pe_glob (v := .ref T.c_OtherLetters) (by rfl) T.m_OtherLetters rfl) pa_nil))) pa_nil))))))
 (pss_cons (ps_set (i := 1) sc_l_met.nd rfl (by first | exact Or.inl rfl | exact Or.inr rfl) (pe_op op_cat (pv 1) (pe_lst (pa_cons (pe_callB (call_isX T.o_get T.o_tk) (by rfl) T.b_isinstance (by decide +kernel) (pa_cons (pv 0) (pa_cons (pe_glob (v := .ref T.c_NoVersion) (by rfl) T.m_NoVersion rfl) pa_nil))) (pa_cons (pe_callB (call_isX T.o_get T.o_tk) (by rfl) T.b_isinstance (by decide +kernel) (pa_cons (pv 0) (pa_cons (pe_glob (v := .ref T.c_NoBranch) (by rfl) T.m_NoBranch rfl) pa_nil))) (pa_cons (pe_callB (call_isX T.o_get T.o_tk) (by rfl) T.b_isinstance (by decide +kernel) (pa_cons (pv 0) (pa_cons (pe_glob (v := .ref T.c_UsedName) (by rfl) T.m_UsedName rfl) pa_nil))) pa_nil))))))
 (pss_cons (ps_set (i := 1) sc_l_met.nd rfl (by first | exact Or.inl rfl | exact Or.inr rfl) (pe_op op_cat (pv 1) (pe_lst (pa_cons (pe_callB (call_isX T.o_get T.o_tk) (by rfl) T.b_isinstance (by decide +kernel) (pa_cons (pv 0) (pa_cons (pe_glob (v := .ref T.c_NoDeed) (by rfl) T.m_NoDeed rfl) pa_nil))) (pa_cons (pe_callB (call_isX T.o_get T.o_tk) (by rfl) T.b_isinstance (by decide +kernel) (pa_cons (pv 0) (pa_cons (pe_glob (v := .ref T.c_BadDeed) (by rfl) T.m_BadDeed rfl) pa_nil))) (pa_cons (pe_callB (call_isX T.o_get T.o_tk) (by rfl) T.b_isinstance (by decide +kernel) (pa_cons (pv 0) (pa_cons (pe_glob (v := .ref T.c_BrokenRule) (by rfl) T.m_BrokenRule rfl) pa_nil))) pa_nil))))))
 (pss_cons (ps_set (i := 1) sc_l_met.nd rfl (by first | exact Or.inl rfl | exact Or.inr rfl) (pe_op op_cat (pv 1) (pe_lst (pa_cons (pe_callB (call_isX T.o_get T.o_tk) (by rfl) T.b_isinstance (by decide +kernel) (pa_cons (pv 0) (pa_cons (pe_glob (v := .ref T.c_BadRule) (by rfl) T.m_BadRule rfl) pa_nil))) (pa_cons (pe_callB (call_isX T.o_get T.o_tk) (by rfl) T.b_isinstance (by decide +kernel) (pa_cons (pv 0) (pa_cons (pe_glob (v := .ref T.c_Ring) (by rfl) T.m_Ring rfl) pa_nil))) (pa_cons (pe_callB (call_isX T.o_get T.o_tk) (by rfl) T.b_isinstance (by decide +kernel) (pa_cons (pv 0) (pa_cons (pe_glob (v := .ref T.c_NoRule) (by rfl) T.m_NoRule rfl) pa_nil))) pa_nil))))))
 (pss_cons (ps_set (i := 1) sc_l_met.nd rfl (by first | exact Or.inl rfl | exact Or.inr rfl) (pe_op op_cat (pv 1) (pe_lst (pa_cons (pe_callB (call_isX T.o_get T.o_tk) (by rfl) T.b_isinstance (by decide +kernel) (pa_cons (pv 0) (pa_cons (pe_glob (v := .ref T.c_BadRank) (by rfl) T.m_BadRank rfl) pa_nil))) (pa_cons (pe_callB (call_isX T.o_get T.o_tk) (by rfl) T.b_isinstance (by decide +kernel) (pa_cons (pv 0) (pa_cons (pe_glob (v := .ref T.c_UsedLabel) (by rfl) T.m_UsedLabel rfl) pa_nil))) (pa_cons (pe_callB (call_isX T.o_get T.o_tk) (by rfl) T.b_isinstance (by decide +kernel) (pa_cons (pv 0) (pa_cons (pe_glob (v := .ref T.c_NoLabel) (by rfl) T.m_NoLabel rfl) pa_nil))) pa_nil))))))
 (pss_cons (ps_set (i := 1) sc_l_met.nd rfl (by first | exact Or.inl rfl | exact Or.inr rfl) (pe_op op_cat (pv 1) (pe_lst (pa_cons (pe_callB (call_isX T.o_get T.o_tk) (by rfl) T.b_isinstance (by decide +kernel) (pa_cons (pv 0) (pa_cons (pe_glob (v := .ref T.c_BadLog) (by rfl) T.m_BadLog rfl) pa_nil))) pa_nil))))
 (pss_one (ps_ret (pe_lc (own := [("_law_spot", 2)]) (g := gName 2) rfl sc_l_met.nd (pi_range1 (by rfl) T.b_range (pa_cons (pe_callB call_len_seq (by rfl) T.b_len (by decide +kernel) (pa_cons (pv 1) pa_nil)) pa_nil)) (blkOk_by (own := [("_law_spot", 2)]) (N := N_l_met) (sc := defScope s_l_met) (by decide +kernel)) (fun _ _ _ _ _ => (pg_name (i := 2) sc_l_met.nd rfl (by first | exact Or.inl rfl | exact Or.inr rfl))) (fun _ _ _ _ _ => (pts_one (pt_val (pe_ix (by exact ix_list : IxR _ (rIxL K)) (pv 1) (pv 2) (fun _ _ => rfl))))) (fun _ _ _ _ _ => (pv 2)))))))))))))))))), ?_⟩
  have mC := tl0 hC
  have kd : ∀ {H'}, Same H H' → ∀ dx, d = some dx → ∃ fs, H' dx = some (exd dx fs) := fun s dx e => let ⟨fs, z⟩ := hd dx e; ⟨fs, s _ _ z⟩
  refine asgS (fun v G => Same H G ∧ ∃ D, v = .ref D ∧ G D = some (.lst ((T.cs.take 3).map fun c => V.bl (decide (C = c))))) (fun R hR => ?_) ?_
  · refine lstW ?_
    refine isW (T := T) rfl mC (tl0 (T := T) (n := 0) rfl) ((Same.refl H) _ _ ha) (kd (Same.refl H)) ?_
    refine isW (T := T) rfl mC (tl0 (T := T) (n := 1) rfl) ((Same.refl H) _ _ ha) (kd (Same.refl H)) ?_
    refine isW (T := T) rfl mC (tl0 (T := T) (n := 2) rfl) ((Same.refl H) _ _ ha) (kd (Same.refl H)) ?_
    refine ⟨by show 3 ≤ sizeLine; decide, fun D nD => ?_⟩
    exact hR _ _ ⟨same_upd nD, D, rfl, upd_same⟩
  rintro v G1 ⟨t1, D1, rfl, h1⟩
  dsimp only [gName]
  refine asgS (fun v G => Same H G ∧ ∃ D, v = .ref D ∧ G D = some (.lst ((T.cs.take 6).map fun c => V.bl (decide (C = c))))) (fun R hR => ?_) ?_
  · refine ⟨_, rfl, lstW ?_⟩
    refine isW (T := T) rfl mC (tl0 (T := T) (n := 3) rfl) (t1 _ _ ha) (kd t1) ?_
    refine isW (T := T) rfl mC (tl0 (T := T) (n := 4) rfl) (t1 _ _ ha) (kd t1) ?_
    refine isW (T := T) rfl mC (tl0 (T := T) (n := 5) rfl) (t1 _ _ ha) (kd t1) ?_
    refine ⟨by show 3 ≤ sizeLine; decide, fun D nD => ?_⟩
    have s1 := same_upd (o := .lst [V.bl (decide (C = T.c_Lone)), V.bl (decide (C = T.c_NoPlace)), V.bl (decide (C = T.c_BadItem))]) nD
    refine ⟨D1, D, _, _, rfl, rfl, s1 _ _ h1, upd_same, by show 6 ≤ sizeLine; decide, fun E nE => ?_⟩
    exact hR _ _ ⟨(t1.trans s1).trans (same_upd nE), E, rfl, upd_same⟩
  rintro v G2 ⟨t2, D2, rfl, h2⟩
  dsimp only [gName]
  refine asgS (fun v G => Same H G ∧ ∃ D, v = .ref D ∧ G D = some (.lst ((T.cs.take 9).map fun c => V.bl (decide (C = c))))) (fun R hR => ?_) ?_
  · refine ⟨_, rfl, lstW ?_⟩
    refine isW (T := T) rfl mC (tl0 (T := T) (n := 6) rfl) (t2 _ _ ha) (kd t2) ?_
    refine isW (T := T) rfl mC (tl0 (T := T) (n := 7) rfl) (t2 _ _ ha) (kd t2) ?_
    refine isW (T := T) rfl mC (tl0 (T := T) (n := 8) rfl) (t2 _ _ ha) (kd t2) ?_
    refine ⟨by show 3 ≤ sizeLine; decide, fun D nD => ?_⟩
    have s1 := same_upd (o := .lst [V.bl (decide (C = T.c_BadKind)), V.bl (decide (C = T.c_BadName)), V.bl (decide (C = T.c_NotExact))]) nD
    refine ⟨D2, D, _, _, rfl, rfl, s1 _ _ h2, upd_same, by show 9 ≤ sizeLine; decide, fun E nE => ?_⟩
    exact hR _ _ ⟨(t2.trans s1).trans (same_upd nE), E, rfl, upd_same⟩
  rintro v G3 ⟨t3, D3, rfl, h3⟩
  dsimp only [gName]
  refine asgS (fun v G => Same H G ∧ ∃ D, v = .ref D ∧ G D = some (.lst ((T.cs.take 12).map fun c => V.bl (decide (C = c))))) (fun R hR => ?_) ?_
  · refine ⟨_, rfl, lstW ?_⟩
    refine isW (T := T) rfl mC (tl0 (T := T) (n := 9) rfl) (t3 _ _ ha) (kd t3) ?_
    refine isW (T := T) rfl mC (tl0 (T := T) (n := 10) rfl) (t3 _ _ ha) (kd t3) ?_
    refine isW (T := T) rfl mC (tl0 (T := T) (n := 11) rfl) (t3 _ _ ha) (kd t3) ?_
    refine ⟨by show 3 ≤ sizeLine; decide, fun D nD => ?_⟩
    have s1 := same_upd (o := .lst [V.bl (decide (C = T.c_BadSize)), V.bl (decide (C = T.c_BadValues)), V.bl (decide (C = T.c_BadStatement))]) nD
    refine ⟨D3, D, _, _, rfl, rfl, s1 _ _ h3, upd_same, by show 12 ≤ sizeLine; decide, fun E nE => ?_⟩
    exact hR _ _ ⟨(t3.trans s1).trans (same_upd nE), E, rfl, upd_same⟩
  rintro v G4 ⟨t4, D4, rfl, h4⟩
  dsimp only [gName]
  refine asgS (fun v G => Same H G ∧ ∃ D, v = .ref D ∧ G D = some (.lst ((T.cs.take 15).map fun c => V.bl (decide (C = c))))) (fun R hR => ?_) ?_
  · refine ⟨_, rfl, lstW ?_⟩
    refine isW (T := T) rfl mC (tl0 (T := T) (n := 12) rfl) (t4 _ _ ha) (kd t4) ?_
    refine isW (T := T) rfl mC (tl0 (T := T) (n := 13) rfl) (t4 _ _ ha) (kd t4) ?_
    refine isW (T := T) rfl mC (tl0 (T := T) (n := 14) rfl) (t4 _ _ ha) (kd t4) ?_
    refine ⟨by show 3 ≤ sizeLine; decide, fun D nD => ?_⟩
    have s1 := same_upd (o := .lst [V.bl (decide (C = T.c_BadText)), V.bl (decide (C = T.c_BadCall)), V.bl (decide (C = T.c_BadWord))]) nD
    refine ⟨D4, D, _, _, rfl, rfl, s1 _ _ h4, upd_same, by show 15 ≤ sizeLine; decide, fun E nE => ?_⟩
    exact hR _ _ ⟨(t4.trans s1).trans (same_upd nE), E, rfl, upd_same⟩
  rintro v G5 ⟨t5, D5, rfl, h5⟩
  dsimp only [gName]
  refine asgS (fun v G => Same H G ∧ ∃ D, v = .ref D ∧ G D = some (.lst ((T.cs.take 18).map fun c => V.bl (decide (C = c))))) (fun R hR => ?_) ?_
  · refine ⟨_, rfl, lstW ?_⟩
    refine isW (T := T) rfl mC (tl0 (T := T) (n := 15) rfl) (t5 _ _ ha) (kd t5) ?_
    refine isW (T := T) rfl mC (tl0 (T := T) (n := 16) rfl) (t5 _ _ ha) (kd t5) ?_
    refine isW (T := T) rfl mC (tl0 (T := T) (n := 17) rfl) (t5 _ _ ha) (kd t5) ?_
    refine ⟨by show 3 ≤ sizeLine; decide, fun D nD => ?_⟩
    have s1 := same_upd (o := .lst [V.bl (decide (C = T.c_BadValue)), V.bl (decide (C = T.c_BadScript)), V.bl (decide (C = T.c_BadAspect))]) nD
    refine ⟨D5, D, _, _, rfl, rfl, s1 _ _ h5, upd_same, by show 18 ≤ sizeLine; decide, fun E nE => ?_⟩
    exact hR _ _ ⟨(t5.trans s1).trans (same_upd nE), E, rfl, upd_same⟩
  rintro v G6 ⟨t6, D6, rfl, h6⟩
  dsimp only [gName]
  refine asgS (fun v G => Same H G ∧ ∃ D, v = .ref D ∧ G D = some (.lst ((T.cs.take 21).map fun c => V.bl (decide (C = c))))) (fun R hR => ?_) ?_
  · refine ⟨_, rfl, lstW ?_⟩
    refine isW (T := T) rfl mC (tl0 (T := T) (n := 18) rfl) (t6 _ _ ha) (kd t6) ?_
    refine isW (T := T) rfl mC (tl0 (T := T) (n := 19) rfl) (t6 _ _ ha) (kd t6) ?_
    refine isW (T := T) rfl mC (tl0 (T := T) (n := 20) rfl) (t6 _ _ ha) (kd t6) ?_
    refine ⟨by show 3 ≤ sizeLine; decide, fun D nD => ?_⟩
    have s1 := same_upd (o := .lst [V.bl (decide (C = T.c_BadWhere)), V.bl (decide (C = T.c_BadRelation)), V.bl (decide (C = T.c_NoNumber))]) nD
    refine ⟨D6, D, _, _, rfl, rfl, s1 _ _ h6, upd_same, by show 21 ≤ sizeLine; decide, fun E nE => ?_⟩
    exact hR _ _ ⟨(t6.trans s1).trans (same_upd nE), E, rfl, upd_same⟩
  rintro v G7 ⟨t7, D7, rfl, h7⟩
  dsimp only [gName]
  refine asgS (fun v G => Same H G ∧ ∃ D, v = .ref D ∧ G D = some (.lst ((T.cs.take 24).map fun c => V.bl (decide (C = c))))) (fun R hR => ?_) ?_
  · refine ⟨_, rfl, lstW ?_⟩
    refine isW (T := T) rfl mC (tl0 (T := T) (n := 21) rfl) (t7 _ _ ha) (kd t7) ?_
    refine isW (T := T) rfl mC (tl0 (T := T) (n := 22) rfl) (t7 _ _ ha) (kd t7) ?_
    refine isW (T := T) rfl mC (tl0 (T := T) (n := 23) rfl) (t7 _ _ ha) (kd t7) ?_
    refine ⟨by show 3 ≤ sizeLine; decide, fun D nD => ?_⟩
    have s1 := same_upd (o := .lst [V.bl (decide (C = T.c_InTheWay)), V.bl (decide (C = T.c_BadPlan)), V.bl (decide (C = T.c_OtherLetters))]) nD
    refine ⟨D7, D, _, _, rfl, rfl, s1 _ _ h7, upd_same, by show 24 ≤ sizeLine; decide, fun E nE => ?_⟩
    exact hR _ _ ⟨(t7.trans s1).trans (same_upd nE), E, rfl, upd_same⟩
  rintro v G8 ⟨t8, D8, rfl, h8⟩
  dsimp only [gName]
  refine asgS (fun v G => Same H G ∧ ∃ D, v = .ref D ∧ G D = some (.lst ((T.cs.take 27).map fun c => V.bl (decide (C = c))))) (fun R hR => ?_) ?_
  · refine ⟨_, rfl, lstW ?_⟩
    refine isW (T := T) rfl mC (tl0 (T := T) (n := 24) rfl) (t8 _ _ ha) (kd t8) ?_
    refine isW (T := T) rfl mC (tl0 (T := T) (n := 25) rfl) (t8 _ _ ha) (kd t8) ?_
    refine isW (T := T) rfl mC (tl0 (T := T) (n := 26) rfl) (t8 _ _ ha) (kd t8) ?_
    refine ⟨by show 3 ≤ sizeLine; decide, fun D nD => ?_⟩
    have s1 := same_upd (o := .lst [V.bl (decide (C = T.c_NoVersion)), V.bl (decide (C = T.c_NoBranch)), V.bl (decide (C = T.c_UsedName))]) nD
    refine ⟨D8, D, _, _, rfl, rfl, s1 _ _ h8, upd_same, by show 27 ≤ sizeLine; decide, fun E nE => ?_⟩
    exact hR _ _ ⟨(t8.trans s1).trans (same_upd nE), E, rfl, upd_same⟩
  rintro v G9 ⟨t9, D9, rfl, h9⟩
  dsimp only [gName]
  refine asgS (fun v G => Same H G ∧ ∃ D, v = .ref D ∧ G D = some (.lst ((T.cs.take 30).map fun c => V.bl (decide (C = c))))) (fun R hR => ?_) ?_
  · refine ⟨_, rfl, lstW ?_⟩
    refine isW (T := T) rfl mC (tl0 (T := T) (n := 27) rfl) (t9 _ _ ha) (kd t9) ?_
    refine isW (T := T) rfl mC (tl0 (T := T) (n := 28) rfl) (t9 _ _ ha) (kd t9) ?_
    refine isW (T := T) rfl mC (tl0 (T := T) (n := 29) rfl) (t9 _ _ ha) (kd t9) ?_
    refine ⟨by show 3 ≤ sizeLine; decide, fun D nD => ?_⟩
    have s1 := same_upd (o := .lst [V.bl (decide (C = T.c_NoDeed)), V.bl (decide (C = T.c_BadDeed)), V.bl (decide (C = T.c_BrokenRule))]) nD
    refine ⟨D9, D, _, _, rfl, rfl, s1 _ _ h9, upd_same, by show 30 ≤ sizeLine; decide, fun E nE => ?_⟩
    exact hR _ _ ⟨(t9.trans s1).trans (same_upd nE), E, rfl, upd_same⟩
  rintro v G10 ⟨t10, D10, rfl, h10⟩
  dsimp only [gName]
  refine asgS (fun v G => Same H G ∧ ∃ D, v = .ref D ∧ G D = some (.lst ((T.cs.take 33).map fun c => V.bl (decide (C = c))))) (fun R hR => ?_) ?_
  · refine ⟨_, rfl, lstW ?_⟩
    refine isW (T := T) rfl mC (tl0 (T := T) (n := 30) rfl) (t10 _ _ ha) (kd t10) ?_
    refine isW (T := T) rfl mC (tl0 (T := T) (n := 31) rfl) (t10 _ _ ha) (kd t10) ?_
    refine isW (T := T) rfl mC (tl0 (T := T) (n := 32) rfl) (t10 _ _ ha) (kd t10) ?_
    refine ⟨by show 3 ≤ sizeLine; decide, fun D nD => ?_⟩
    have s1 := same_upd (o := .lst [V.bl (decide (C = T.c_BadRule)), V.bl (decide (C = T.c_Ring)), V.bl (decide (C = T.c_NoRule))]) nD
    refine ⟨D10, D, _, _, rfl, rfl, s1 _ _ h10, upd_same, by show 33 ≤ sizeLine; decide, fun E nE => ?_⟩
    exact hR _ _ ⟨(t10.trans s1).trans (same_upd nE), E, rfl, upd_same⟩
  rintro v G11 ⟨t11, D11, rfl, h11⟩
  dsimp only [gName]
  refine asgS (fun v G => Same H G ∧ ∃ D, v = .ref D ∧ G D = some (.lst ((T.cs.take 36).map fun c => V.bl (decide (C = c))))) (fun R hR => ?_) ?_
  · refine ⟨_, rfl, lstW ?_⟩
    refine isW (T := T) rfl mC (tl0 (T := T) (n := 33) rfl) (t11 _ _ ha) (kd t11) ?_
    refine isW (T := T) rfl mC (tl0 (T := T) (n := 34) rfl) (t11 _ _ ha) (kd t11) ?_
    refine isW (T := T) rfl mC (tl0 (T := T) (n := 35) rfl) (t11 _ _ ha) (kd t11) ?_
    refine ⟨by show 3 ≤ sizeLine; decide, fun D nD => ?_⟩
    have s1 := same_upd (o := .lst [V.bl (decide (C = T.c_BadRank)), V.bl (decide (C = T.c_UsedLabel)), V.bl (decide (C = T.c_NoLabel))]) nD
    refine ⟨D11, D, _, _, rfl, rfl, s1 _ _ h11, upd_same, by show 36 ≤ sizeLine; decide, fun E nE => ?_⟩
    exact hR _ _ ⟨(t11.trans s1).trans (same_upd nE), E, rfl, upd_same⟩
  rintro v G12 ⟨t12, D12, rfl, h12⟩
  dsimp only [gName]
  refine asgS (fun v G => Same H G ∧ ∃ D, v = .ref D ∧ G D = some (.lst ((T.cs.take 37).map fun c => V.bl (decide (C = c))))) (fun R hR => ?_) ?_
  · refine ⟨_, rfl, lstW ?_⟩
    refine isW (T := T) rfl mC (tl0 (T := T) (n := 36) rfl) (t12 _ _ ha) (kd t12) ?_
    refine ⟨by show 1 ≤ sizeLine; decide, fun D nD => ?_⟩
    have s1 := same_upd (o := .lst [V.bl (decide (C = T.c_BadLog))]) nD
    refine ⟨D12, D, _, _, rfl, rfl, s1 _ _ h12, upd_same, by show 37 ≤ sizeLine; decide, fun E nE => ?_⟩
    exact hR _ _ ⟨(t12.trans s1).trans (same_upd nE), E, rfl, upd_same⟩
  rintro v G13 ⟨t13, D13, rfl, h13⟩
  dsimp only [gName]
  have hi : i < 37 := (List.getElem?_eq_some_iff.mp hC).1
  refine ⟨_, rfl, D13, _, rfl, .inl (SqL.of h13), 37, rfl, by decide, by decide, fun E nE => ?_⟩
  refine lc_range (lo := 0) (n := 37) (fun n G => Same G13 G ∧ G E = some (.lst (if i < n then [V.int (i : Nat)] else []))) ⟨same_upd nE, by rw [upd_same]; rfl⟩ ?_ ?_
  · rintro n G hn ⟨sG, hE⟩
    obtain ⟨c, hc⟩ : ∃ c, T.cs[n]? = some c := ⟨T.cs[n]'hn, List.getElem?_eq_getElem hn⟩
    have hat : atI ((T.cs.take 37).map fun c => V.bl (decide (C = c))) (0 + (n : Int)) = some (V.bl (decide (i = n))) := by
      rw [Int.zero_add]
      refine atI_nat ?_
      rw [List.getElem?_map, List.getElem?_take_of_lt hn, hc, Option.map_some, is_at hC hc]
    refine ⟨rfl, _, rfl, _, rfl, D13, _, _, _, rfl, rfl, SqL.of (sG _ _ h13), hat, _, rfl, iteD (fun e => ?_) (fun e => ?_)⟩
    · subst e
      refine ⟨_, rfl, _, hE, ?_, fun b o z => by rw [upd_ne (ne_of_none z nE)]; exact sG _ _ z, ?_⟩
      · rw [if_neg (by omega)]
        decide
      · rw [upd_same, if_neg (by omega), if_pos (by omega), Int.zero_add]
        rfl
    · refine ⟨sG, ?_⟩
      rw [hE]
      congr 2
      by_cases l : i < n
      · rw [if_pos l, if_pos (by omega)]
      · rw [if_neg l, if_neg (by omega)]
  · rintro G ⟨sG, hE⟩
    rw [if_pos hi] at hE
    exact q _ _ (t13.trans sG) hE
def spBelow (T : Tx P K mg) : Sp := fun vs H Q _ => ∃ a i, vs = [.ref a] ∧ ErrI T H a i ∧ Q (.bl true) H
theorem isB {T : Tx P K mg} {σ : L2.St} {H : Hp} {Q : VK} {a C : Addr} {d : Option Addr} (n : String) (b : Bool) (h0 : σ[0]? = some (some (.ref a))) (hC : C ∈ T.cs) (ha : H a = some (exo a C d)) (hd : ∀ dx, d = some dx → ∃ fs, H dx = some (exd dx fs)) (hm : PySem.W.kitMeta n = true)
    (hb : veTail.contains (.type n) = b) (q : Q (.bl b) H) : tCB (rIsX K) (tCons (tVar 0) (tCons (tC (.ty n)) tNil)) σ H Q :=
  ⟨_, h0, a, C, d, _, _, _, rfl, .ty n, (T.xs C hC).r, ha, hd, by rw [(T.xs C hC).blt n hm, hb], q⟩
theorem ok_l_is_below (T : Tx P K mg) : FnOk P w K mg base CX0 1 T.a_l_is_below T.fd_l_is_below ["_law_error"] (spBelow T) := by
  refine T.F_l_is_below.ok sc_l_is_below (fun vs H Q E h => ?_) (fun cdv A outer s H vs Q E hr h => ?_)
  · obtain ⟨a, i, rfl, _⟩ := h
    rfl
  obtain ⟨a, i, rfl, ⟨C, d, hC, ha, hd⟩, q⟩ := h
  refine ⟨_, (pss_cons (ps_if (PW.pt (pw_or (pt_not (pt_val (pe_callB (call_isX T.o_get T.o_tk) (by rfl) T.b_isinstance (by decide +kernel) (pa_cons (pv 0) (pa_cons (pe_glob (v := .ref T.c_ShedError) (by rfl) T.m_ShedError rfl) pa_nil))))) (pw_or1 (pt_not (pt_val (pe_callB (call_isX T.o_get T.o_tk) (by rfl) T.b_isinstance (by decide +kernel) (pa_cons (pv 0) (pa_cons (pe_bltn (v := .ty "ValueError") (by rfl) T.b_ValueError (by decide +kernel) rfl) pa_nil))))))))
 (pss_one (ps_ret pe_bl))
 pss_nil)
 (pss_one (ps_ret (pe_and (pe_not (pe_callB (call_isX T.o_get T.o_tk) (by rfl) T.b_isinstance (by decide +kernel) (pa_cons (pv 0) (pa_cons (pe_bltn (v := .ty "KeyError") (by rfl) T.b_KeyError (by decide +kernel) rfl) pa_nil)))) (pe_and (pe_not (pe_callB (call_isX T.o_get T.o_tk) (by rfl) T.b_isinstance (by decide +kernel) (pa_cons (pv 0) (pa_cons (pe_bltn (v := .ty "IndexError") (by rfl) T.b_IndexError (by decide +kernel) rfl) pa_nil)))) (pe_one (pe_not (pe_callB (call_isX T.o_get T.o_tk) (by rfl) T.b_isinstance (by decide +kernel) (pa_cons (pv 0) (pa_cons (pe_bltn (v := .ty "TypeError") (by rfl) T.b_TypeError (by decide +kernel) rfl) pa_nil)))))))))), ?_⟩
  have mC := tl0 hC
  refine ⟨_, rfl, a, C, d, _, _, _, rfl, .own _, (T.xs C mC).r, ha, hd, (T.xs C mC).base (T.xs C mC) T.iS T.tS, true, rfl, iteF ?_⟩
  refine isB (T := T) "ValueError" true rfl mC ha hd (by decide +kernel) (by decide +kernel) ⟨true, rfl, iteF (nextS ?_)⟩
  dsimp only
  refine isB (T := T) "KeyError" false rfl mC ha hd (by decide +kernel) (by decide +kernel) ⟨_, rfl, _, rfl, iteT ?_⟩
  refine isB (T := T) "IndexError" false rfl mC ha hd (by decide +kernel) (by decide +kernel) ⟨_, rfl, _, rfl, iteT ?_⟩
  exact isB (T := T) "TypeError" false rfl mC ha hd (by decide +kernel) (by decide +kernel) ⟨_, rfl, q⟩
end
end Toy
set_option Elab.async false
set_option linter.all false
set_option maxRecDepth 100000
set_option maxHeartbeats 4000000
namespace Toy
open PySem L2 Sh
/-! ### comprehensions of the law -/
section
variable {P : Program} {w : World} {K : PySem.W.Frag} {mg : Str → Option Value} {base : Heap}
/-- (i, error) -/
def RowP (T : Tx P K mg) (H : Hp) (v : V) (i : Nat) : Prop := ∃ t a, v = .ref t ∧ H t = some (.tup [.int i, .ref a]) ∧ ErrI T H a i
theorem RowP.same {T : Tx P K mg} {H H' : Hp} {v : V} {i : Nat} (s : Same H H') (h : RowP T H v i) : RowP T H' v i := by
  obtain ⟨t, a, h1, h2, h3⟩ := h
  exact ⟨t, a, h1, s _ _ h2, h3.same s⟩
theorem ErrI.put {T : Tx P K mg} {H : Hp} {E a : Addr} {xs ys : List V} {i : Nat} (hE : H E = some (.lst xs)) (h : ErrI T H a i) : ErrI T (upd H E (.lst ys)) a i := by
  obtain ⟨C', d', r3, r4, r5⟩ := h
  have ne : ∀ {b : Addr} {u : HO}, H b = some u → u ≠ .lst xs → (upd H E (.lst ys)) b = some u := fun {b u} q q' => by
    rw [upd_ne (fun y => q' (by rw [y, hE] at q; exact (Option.some.inj q).symm))]
    exact q
  refine ⟨C', d', r3, ne r4 (fun q => nomatch q), fun dx' q => ?_⟩
  obtain ⟨fs, q'⟩ := r5 dx' q
  exact ⟨fs, ne q' (fun q => nomatch q)⟩
theorem RowP.put {T : Tx P K mg} {H : Hp} {E : Addr} {xs ys : List V} {v : V} {j : Nat} (hE : H E = some (.lst xs)) (h : RowP T H v j) : RowP T (upd H E (.lst ys)) v j := by
  obtain ⟨t, a, h1, h2, h3⟩ := h
  refine ⟨t, a, h1, ?_, h3.put hE⟩
  rw [upd_ne (ne_of h2 hE (by intro z; cases z))]
  exact h2
/-- [row for row in rows if test], where no row passes -/
theorem lc_none {σ : L2.St} {H : Hp} {Q : VK} {D : Addr} {rs : List V} {k : Nat} {tt : TT} (hσ : σ[k]? = some (some (.ref D))) (hl : σ.length = 11) (hD : H D = some (.lst rs))
    (ht : ∀ (n : Nat) (v : V) (H' : Hp) (R : Bool → Hp → Prop), rs[n]? = some v → Same H H' → R false H' → tt ((wipe σ [10]).set 10 (some v)) H' R)
    (q : ∀ H' D', Same H H' → H' D' = some (.lst []) → Q (.ref D') H') : tLc (iList K (tVar k)) (gName 10) tt (tVar 10) [10] σ H Q := by
  refine ⟨_, hσ, D, rfl, ⟨_, SqL.of hD⟩, fun E nE => ?_⟩
  refine lc_list (K := K) (a := D) (xs := rs) (fun n H2 => Same H H2 ∧ H2 E = some (.lst [])) ⟨same_upd nE, upd_same⟩ (fun n H2 _ ⟨s2, _⟩ => SqL.of (s2 _ _ hD)) ?_ ?_
  · rintro n v H2 hv ⟨s2, hE⟩
    refine ⟨?_, ht n v H2 _ hv s2 (iteF ⟨s2, hE⟩)⟩
    show ((wipe σ [10]).set 10 (some v)).set 10 none = wipe σ [10]
    match σ, hl with
    | [_, _, _, _, _, _, _, _, _, _, _], _ => rfl
  · rintro H2 ⟨s2, hE⟩
    exact q _ _ s2 hE
/-- [(row[0], row[1]) for row in rows] -/
theorem lc_pairs (T : Tx P K mg) {σ : L2.St} {H : Hp} {Q : VK} {D : Addr} {rs : List V} {is : List Nat} {k : Nat} (hσ : σ[k]? = some (some (.ref D))) (hl : σ.length = 11) (hD : H D = some (.lst rs)) (hn : rs.length ≤ 100)
    (hr : Paired (fun v i => ∃ t a us, v = .ref t ∧ H t = some (.tup (.int (i : Nat) :: .ref a :: us)) ∧ ErrI T H a i) rs is)
    (q : ∀ H' D' rs', Same H H' → H' D' = some (.lst rs') → Paired (RowP T H') rs' is → rs'.length = rs.length → Q (.ref D') H') :
    tLc (iList K (tVar k)) (gName 10) tYes (tTup (tCons (tOp (rIxT K) (tVar 10) (tC (.int 0))) (tCons (tOp (rIxT K) (tVar 10) (tC (.int 1))) tNil))) [10] σ H Q := by
  refine ⟨_, hσ, D, rfl, ⟨_, SqL.of hD⟩, fun E nE => ?_⟩
  refine lc_list (K := K) (a := D) (xs := rs) (fun n H2 => Same H H2 ∧ ∃ rs', H2 E = some (.lst rs') ∧ rs'.length = n ∧ Paired (RowP T H2) rs' (is.take n)) ⟨same_upd nE, [], upd_same, rfl, .nil⟩ (fun n H2 _ ⟨s2, _⟩ => SqL.of (s2 _ _ hD)) ?_ ?_
  · rintro n v H2 hv ⟨s2, rs', hE, hlen, hp⟩
    obtain ⟨i, hi, t, a, us, rfl, ht, he⟩ := paired_get hr hv
    have hnl : n < rs.length := (List.getElem?_eq_some_iff.mp hv).1
    have g : ((wipe σ [10]).set 10 (some (V.ref t)))[10]? = some (some (V.ref t)) := by
      match σ, hl with
      | [_, _, _, _, _, _, _, _, _, _, _], _ => rfl
    refine ⟨?_, yes_ite ?_⟩
    · show ((wipe σ [10]).set 10 (some (V.ref t))).set 10 none = wipe σ [10]
      match σ, hl with
      | [_, _, _, _, _, _, _, _, _, _, _], _ => rfl
    · refine ⟨_, g, t, _, _, V.int (i : Nat), rfl, rfl, SqT.of (s2 _ _ ht), atI_nat (j := 0) rfl, _, g, t, _, _, V.ref a, rfl, rfl, SqT.of (s2 _ _ ht), atI_nat (j := 1) rfl, by show 2 ≤ sizeLine; decide, fun p np => ?_⟩
      have s3 := same_upd (o := .tup [V.int (i : Nat), V.ref a]) np
      have hE3 := s3 _ _ hE
      refine ⟨rs', hE3, Nat.lt_of_le_of_lt (show rs'.length ≤ 100 by omega) (by decide), ?_, rs' ++ [.ref p], upd_same, by rw [List.length_append, hlen]; rfl, ?_⟩
      · intro b o z
        rw [upd_ne (ne_of_none z nE)]
        exact s3 _ _ (s2 _ _ z)
      · rw [← take_nx hi]
        exact paired_app (paired_mono (fun v j h => (h.same s3).put hE3) hp) (.cons (RowP.put hE3 ⟨p, a, rfl, upd_same, (he.same s2).same s3⟩) .nil)
  · rintro H2 ⟨s2, rs', hE, hlen, hp⟩
    have e : is.take rs.length = is := List.take_of_length_le (by rw [Paired.length hr]; exact Nat.le_refl _)
    rw [e] at hp
    exact q _ _ _ s2 hE hp hlen
end
end Toy
set_option Elab.async false
set_option linter.all false
set_option maxRecDepth 100000
set_option maxHeartbeats 4000000
namespace Toy
open PySem L2 Sh
/-! ### the law -/
def sN : List Nat := [2, 2, 5, 5, 13, 13, 14, 14, 15, 15, 18, 18, 20, 20, 21, 21, 24, 24, 33, 33]
def sM : List Nat := [7, 7, 25, 25, 26, 26, 27, 27, 28, 28, 30, 30, 31, 31]
def sI : List Nat := [10, 10, 17, 17, 36, 36]
def sP : List Nat := [3, 3, 4, 4]
def sL : List Nat := [34, 34, 35, 35]
def sO : List Nat := [0, 0, 9, 9, 12, 12, 19, 19, 22, 22, 32, 32]
def sS : List Nat := [6, 6, 11, 11, 16, 16, 1, 1]
/-! ### keys of a dict made of pairs -/
def addI (ns : List Int) (n : Int) : List Int := if n ∈ ns then ns else ns ++ [n]
theorem keys_put {kvs : List (Key × V)} {ns : List Int} {n : Int} {v : V} (h : kvs.map (·.1) = ns.map Sum.inl) : (putK kvs (.inl n) v).map (·.1) = (addI ns n).map Sum.inl := by
  have e : (kvs.any fun kv => decide (kv.1 = .inl n)) = decide (n ∈ ns) := by
    have e1 : (kvs.any fun kv => decide (kv.1 = .inl n)) = (kvs.map (·.1)).any (fun k => decide (k = .inl n)) := by rw [List.any_map]; rfl
    rw [e1, h, List.any_map]
    by_cases m : n ∈ ns
    · rw [decide_eq_true m, List.any_eq_true]
      exact ⟨n, m, by simp⟩
    · rw [decide_eq_false m, List.any_eq_false]
      intro x hx
      simp only [Function.comp, decide_eq_true_eq]
      intro z
      cases z
      exact m hx
  unfold putK addI
  rw [e]
  by_cases m : n ∈ ns
  · rw [if_pos (decide_eq_true m), if_pos m, ← h, List.map_map]
    refine List.map_congr_left fun kv _ => ?_
    by_cases z : kv.1 = .inl n
    · simp [z]
    · simp [z]
  · rw [if_neg (by simp [m]), if_neg m, List.map_append, List.map_append, h]
    rfl
theorem keys_merge : ∀ {more kvs : List (Key × V)} {ms ns : List Int}, more.map (·.1) = ms.map Sum.inl → kvs.map (·.1) = ns.map Sum.inl → (mergeK kvs more).map (·.1) = (ms.foldl addI ns).map Sum.inl
  | [], kvs, [], ns, _, h => h
  | [], kvs, m :: ms, ns, e, h => nomatch e
  | kv :: more, kvs, [], ns, e, h => nomatch e
  | (k, v) :: more, kvs, m :: ms, ns, e, h => by
    obtain ⟨e1, e2⟩ := List.cons.inj e
    cases e1
    exact keys_merge (more := more) (kvs := putK kvs (.inl m) v) (ms := ms) (ns := addI ns m) e2 (keys_put h)
def sAll : List Nat := sN ++ sM ++ sI ++ sP ++ sL ++ sO ++ sS ++ [8, 23, 29]
def r37 : List Int := (List.range 37).map fun n : Nat => (n : Int)
theorem all_keys : ((sAll.map fun n : Nat => (n : Int)).foldl addI []).Perm r37 := by decide +kernel
theorem all_up : r37.Pairwise (· ≤ ·) := by decide +kernel
theorem dpInts {K : PySem.W.Frag} {H : Hp} : ∀ ns : List Int, DpAll K H (ns.map V.int) (ns.map PyData.int)
  | [] => .nil
  | n :: ns => .cons (.int n) (dpInts ns)
def spLaw (K : PySem.W.Frag) : Sp := fun vs H Q _ => ∃ (a : Addr) (ns : List Int), vs = [.ref a] ∧ SqL K H a (ns.map V.int) ∧ ns.length ≤ 63 ∧ ∀ H', Q (.bl true) H'
section
variable {P : Program} {w : World} {K : PySem.W.Frag} {mg : Str → Option Value} {base : Heap}
theorem ifLc {r : R2} {wi : TI} {g : TG} {tt : TT} {te t2 : TE} {vs : List Nat} {A B C : TS} {D : Ends} {σ : L2.St} {H : Hp}
    (h : tLc wi g tt te vs σ H fun x H1 => t2 σ H1 fun y H2 => r x y H2 fun v H3 => ∃ k, v = .bl k ∧ if k = true then A { D with nx := C D } σ H3 else B { D with nx := C D } σ H3) :
    tSeq (tIfS (tTest (tOp r (tLc wi g tt te vs) t2)) A B) C D σ H := h
theorem catLc {r : R2} {wi wi' : TI} {g g' : TG} {tt tt' : TT} {te te' : TE} {vs vs' : List Nat} {σ : L2.St} {H : Hp} {Q : VK}
    (h : tLc wi g tt te vs σ H fun x H1 => tLc wi' g' tt' te' vs' σ H1 fun y H2 => r x y H2 Q) : tOp r (tLc wi g tt te vs) (tLc wi' g' tt' te' vs') σ H Q := h
theorem bare (T : Tx P K mg) {C : Addr} {i : Nat} {σ : L2.St} {H : Hp} {Q : VK} (hC : T.cs[i]? = some C) (q : ∀ H' t, Same H H' → RowP T H' (.ref t) i → Q (.ref t) H') :
    tTup (tCons (tC (.int (i : Nat))) (tCons (fun _ H Q => ∀ a : Addr, H a = none → Q (.ref a) (upd H a (exo a C none))) tNil)) σ H Q := by
  refine fun a na => ⟨by show 2 ≤ sizeLine; decide, fun t nt => ?_⟩
  have s1 := same_upd (o := exo a C none) na
  have s2 := same_upd (o := .tup [.int (i : Nat), .ref a]) nt
  exact q _ _ (s1.trans s2) ⟨t, a, rfl, upd_same, C, none, hC, s2 _ _ upd_same, fun dx z => nomatch z⟩
theorem pairs_of (T : Tx P K mg) {H : Hp} : ∀ {rs : List V} {is : List Nat}, Paired (RowP T H) rs is → ∃ (ps : List Addr) (kvs : List (Key × V)), rs = ps.map V.ref ∧ Paired (fun p kv => SqT K H p [kV kv.1, kv.2]) ps kvs ∧ kvs.map (·.1) = (is.map fun n : Nat => (n : Int)).map Sum.inl
  | _, _, .nil => ⟨[], [], rfl, .nil, rfl⟩
  | _, _, .cons (b := i) ⟨t, a, h1, h2, _⟩ h => by
    obtain ⟨ps, kvs, rfl, e2, e3⟩ := pairs_of T h
    exact ⟨t :: ps, (.inl (i : Nat), .ref a) :: kvs, by rw [h1]; rfl, .cons (SqT.of h2) e2, by rw [List.map_cons, e3]; rfl⟩
theorem ok_law (T : Tx P K mg) : FnG P w K mg base CX0 4 T.a_law T.fd_law ["_law_script"] (spLaw K) := by
  refine okG T.F_law sc_law (fun vs H Q E h => ?_) (fun cdv A outer s H vs Q E hgd hr h => ?_)
  · obtain ⟨a, ns, rfl, _⟩ := h
    rfl
  have hu65 := hu65_of hr
  have hu := hu_of hr
  obtain ⟨a, ns, rfl, hS, _, q⟩ := h
  refine ⟨_, (pss_cons (ps_set (i := 1) sc_law.nd rfl (by first | exact Or.inl rfl | exact Or.inr rfl) (pe_call (ok_l_pen T) (hr.mono (by decide)) (by rfl) T.m_l_pen T.F_l_pen.kp T.bi_l_pen .nil pass0 (pa_cons (pv 0) pa_nil)))
 (pss_cons (ps_asg (pe_tup (pa_cons (pe_call (ok_l_value T) (hr.mono (by decide)) (by rfl) T.m_l_value T.F_l_value.kp T.bi_l_value .nil pass0 (pa_cons (pv 1) pa_nil)) (pa_cons (pe_call (ok_l_value T) (hr.mono (by decide)) (by rfl) T.m_l_value T.F_l_value.kp T.bi_l_value .nil pass0 (pa_cons (pv 1) pa_nil)) (pa_cons (pe_call (ok_l_value T) (hr.mono (by decide)) (by rfl) T.m_l_value T.F_l_value.kp T.bi_l_value .nil pass0 (pa_cons (pv 1) pa_nil)) pa_nil)))) (pg_tup rfl (pgs_cons (pg_name (i := 2) sc_law.nd rfl (by first | exact Or.inl rfl | exact Or.inr rfl)) (pgs_cons (pg_name (i := 3) sc_law.nd rfl (by first | exact Or.inl rfl | exact Or.inr rfl)) (pgs_cons (pg_name (i := 4) sc_law.nd rfl (by first | exact Or.inl rfl | exact Or.inr rfl)) pgs_nil)))))
 (pss_cons (ps_set (i := 5) sc_law.nd rfl (by first | exact Or.inl rfl | exact Or.inr rfl) (pe_op op_cat (pe_op op_cat (pe_call (ok_l_of_numbers T) (hr.mono (by decide)) (by rfl) T.m_l_of_numbers T.F_l_of_numbers.kp T.bi_l_of_numbers .nil pass0 (pa_cons (pv 2) pa_nil)) (pe_call (ok_l_of_names T) (hr.mono (by decide)) (by rfl) T.m_l_of_names T.F_l_of_names.kp T.bi_l_of_names .nil pass0 (pa_cons (pv 2) pa_nil))) (pe_call (ok_l_of_indices T) (hr.mono (by decide)) (by rfl) T.m_l_of_indices T.F_l_of_indices.kp T.bi_l_of_indices .nil pass0 (pa_cons (pv 2) pa_nil))))
 (pss_cons (ps_set (i := 5) sc_law.nd rfl (by first | exact Or.inl rfl | exact Or.inr rfl) (pe_op op_cat (pe_op op_cat (pe_op op_cat (pv 5) (pe_call (ok_l_of_places T) (hr.mono (by decide)) (by rfl) T.m_l_of_places T.F_l_of_places.kp T.bi_l_of_places .nil pass0 (pa_cons (pv 2) pa_nil))) (pe_call (ok_l_of_labels T) (hr.mono (by decide)) (by rfl) T.m_l_of_labels T.F_l_of_labels.kp T.bi_l_of_labels .nil pass0 (pa_cons (pv 2) pa_nil))) (pe_call (ok_l_of_others T) (hr.mono (by decide)) (by rfl) T.m_l_of_others T.F_l_of_others.kp T.bi_l_of_others .nil pass0 (pa_cons (pv 2) pa_nil))))
 (pss_cons (ps_if (pt_cmpR (op_neD hr.units) (pe_lc (own := [("_law_row", 10)]) (g := gName 10) rfl sc_law.nd (pi_list (pv 5)) (blkOk_by (own := [("_law_row", 10)]) (N := N_law) (sc := defScope s_law) (by decide +kernel)) (fun _ _ _ _ _ => (pg_name (i := 10) sc_law.nd rfl (by first | exact Or.inl rfl | exact Or.inr rfl))) (fun _ _ _ _ _ => (pts_one (pt_cmpR op_ne (pe_callB (call_repr hgd hu65) (by rfl) T.b_repr (by decide +kernel) (pa_cons (pe_ix (by exact ix_tup : IxR _ (rIxT K)) (pv 10) pe_int (fun _ _ => rfl)) pa_nil)) (pe_callB (call_repr hgd hu65) (by rfl) T.b_repr (by decide +kernel) (pa_cons (pv 2) pa_nil)) (nomark _)))) (fun _ _ _ _ _ => (pv 10))) (pe_lst pa_nil) (nomark _))
 (pss_one (ps_ret pe_bl))
 pss_nil)
 (pss_cons (ps_set (i := 6) sc_law.nd rfl (by first | exact Or.inl rfl | exact Or.inr rfl) (pe_call (ok_l_of_several T) (hr.mono (by decide)) (by rfl) T.m_l_of_several T.F_l_of_several.kp T.bi_l_of_several .nil pass0 (pa_cons (pv 2) (pa_cons (pv 3) (pa_cons (pv 4) pa_nil)))))
 (pss_cons (ps_if (pt_cmpR (op_neD hr.units) (pe_lc (own := [("_law_row", 10)]) (g := gName 10) rfl sc_law.nd (pi_list (pv 6)) (blkOk_by (own := [("_law_row", 10)]) (N := N_law) (sc := defScope s_law) (by decide +kernel)) (fun _ _ _ _ _ => (pg_name (i := 10) sc_law.nd rfl (by first | exact Or.inl rfl | exact Or.inr rfl))) (fun _ _ _ _ _ => (pts_one (pt_cmpR op_ne (pe_callB (call_repr hgd hu65) (by rfl) T.b_repr (by decide +kernel) (pa_cons (pe_ix (by exact ix_tup : IxR _ (rIxT K)) (pv 10) pe_int (fun _ _ => rfl)) pa_nil)) (pe_callB (call_repr hgd hu65) (by rfl) T.b_repr (by decide +kernel) (pa_cons (pe_ix (by exact ix_tup : IxR _ (rIxT K)) (pv 10) pe_int (fun _ _ => rfl)) pa_nil)) (nomark _)))) (fun _ _ _ _ _ => (pv 10))) (pe_lst pa_nil) (nomark _))
 (pss_one (ps_ret pe_bl))
 pss_nil)
 (pss_cons (ps_set (i := 7) sc_law.nd rfl (by first | exact Or.inl rfl | exact Or.inr rfl) (pe_op op_cat (pe_lc (own := [("_law_row", 10)]) (g := gName 10) rfl sc_law.nd (pi_list (pv 5)) (blkOk_by (own := [("_law_row", 10)]) (N := N_law) (sc := defScope s_law) (by decide +kernel)) (fun _ _ _ _ _ => (pg_name (i := 10) sc_law.nd rfl (by first | exact Or.inl rfl | exact Or.inr rfl))) (fun _ _ _ _ _ => pts_nil) (fun _ _ _ _ _ => (pe_tup (pa_cons (pe_ix (by exact ix_tup : IxR _ (rIxT K)) (pv 10) pe_int (fun _ _ => rfl)) (pa_cons (pe_ix (by exact ix_tup : IxR _ (rIxT K)) (pv 10) pe_int (fun _ _ => rfl)) pa_nil))))) (pe_lc (own := [("_law_row", 10)]) (g := gName 10) rfl sc_law.nd (pi_list (pv 6)) (blkOk_by (own := [("_law_row", 10)]) (N := N_law) (sc := defScope s_law) (by decide +kernel)) (fun _ _ _ _ _ => (pg_name (i := 10) sc_law.nd rfl (by first | exact Or.inl rfl | exact Or.inr rfl))) (fun _ _ _ _ _ => pts_nil) (fun _ _ _ _ _ => (pe_tup (pa_cons (pe_ix (by exact ix_tup : IxR _ (rIxT K)) (pv 10) pe_int (fun _ _ => rfl)) (pa_cons (pe_ix (by exact ix_tup : IxR _ (rIxT K)) (pv 10) pe_int (fun _ _ => rfl)) pa_nil)))))))
 (pss_cons (ps_set (i := 7) sc_law.nd rfl (by first | exact Or.inl rfl | exact Or.inr rfl) (pe_op op_cat (pv 7) (pe_lst (pa_cons (pe_tup (pa_cons pe_int (pa_cons (pe_exn0 T.e0_NotExact T.m_NotExact T.x_NotExact.r.ox.kC (by rfl)) pa_nil))) (pa_cons (pe_tup (pa_cons pe_int (pa_cons (pe_exn0 T.e0_OtherLetters T.m_OtherLetters T.x_OtherLetters.r.ox.kC (by rfl)) pa_nil))) (pa_cons (pe_tup (pa_cons pe_int (pa_cons (pe_exn0 T.e0_BrokenRule T.m_BrokenRule T.x_BrokenRule.r.ox.kC (by rfl)) pa_nil))) pa_nil))))))
 (pss_cons (ps_for PassesOwn.never rfl (pi_list (pv 7)) (pg_tup rfl (pgs_cons (pg_name (i := 8) sc_law.nd rfl (by first | exact Or.inl rfl | exact Or.inr rfl)) (pgs_cons (pg_name (i := 9) sc_law.nd rfl (by first | exact Or.inl rfl | exact Or.inr rfl)) pgs_nil)))
 (pss_one (ps_if (PW.pt (pw_or (pt_cmpR (op_neD hr.units) (pe_call (ok_l_met T) (hr.mono (by decide)) (by rfl) T.m_l_met T.F_l_met.kp T.bi_l_met .nil pass0 (pa_cons (pv 9) pa_nil)) (pe_lst (pa_cons (pv 8) pa_nil)) (nomark _)) (pw_or1 (pt_not (pt_val (pe_call (ok_l_is_below T) (hr.mono (by decide)) (by rfl) T.m_l_is_below T.F_l_is_below.kp T.bi_l_is_below .nil pass0 (pa_cons (pv 9) pa_nil)))))))
 (pss_one (ps_ret pe_bl))
 pss_nil)))
 (pss_one (ps_ret (pe_cmpR (op_eqD hr.units) (pe_callB cr_sortedI (by rfl) T.b_sorted (by decide +kernel) (pa_cons (pe_callTy (call_list_dK rfl) (by rfl) T.b_list (by decide +kernel) (pa_cons (pe_callTy (call_dictP rfl) (by rfl) T.b_dict (by decide +kernel) (pa_cons (pv 7) pa_nil)) pa_nil)) pa_nil)) (pe_listRg rfl (by rfl) T.b_list (prg_1 (by rfl) T.b_range pe_int)) (nomark _)))))))))))))), ?_⟩
  refine ⟨_, rfl, a, ns, rfl, hS, fun H1 d c s1 p1 => ?_⟩
  dsimp only [gName]
  -- the values
  refine ⟨_, rfl, d, c, 0, rfl, p1, by decide, fun H2 x dx k2 p2 th1 => ?_⟩
  refine ⟨_, rfl, d, c, 2, rfl, p2, by decide, fun H3 y dy k3 p3 th2 => ?_⟩
  refine ⟨_, rfl, d, c, 4, rfl, p3, by decide, fun H4 z dz k4 p4 th3 => ?_⟩
  refine ⟨by show 3 ≤ sizeLine; decide, fun t nt => ?_⟩
  have s5 := same_upd (o := .tup [x, y, z]) nt
  have tx := (Thing.kp k4 p3 (Thing.kp k3 p2 th1)).same s5
  have ty := (Thing.kp k4 p3 th2).same s5
  have tz := th3.same s5
  have ht : upd H4 t (.tup [x, y, z]) t = some (.tup [x, y, z]) := upd_same
  generalize upd H4 t (.tup [x, y, z]) = H5 at s5 tx ty tz ht ⊢
  refine ⟨t, _, rfl, SqT.of ht, rfl, _, _, rfl, _, _, rfl, _, _, rfl, rfl, ?_⟩
  dsimp only [gName]
  -- rows
  refine asgS (fun v G => Same H5 G ∧ ∃ D rs, v = .ref D ∧ G D = some (.lst rs) ∧ Paired (RowT T G x) rs (sN ++ sM ++ sI) ∧ rs.length = 40) (fun R hR => ?_) ?_
  · refine ⟨_, rfl, x, rfl, fun Ha Da ra sa ha pa => ⟨_, rfl, x, rfl, fun Hb Db rb sb hb pb => ⟨Da, Db, ra, rb, rfl, rfl, sb _ _ ha, hb, ?_, fun Ec nc => ⟨_, rfl, x, rfl, fun Hd Dd rd sd hd pd => ⟨Ec, Dd, _, rd, rfl, rfl, sd _ _ upd_same, hd, ?_, fun Ee ne => ?_⟩⟩⟩⟩⟩
    all_goals have la := Paired.length pa
    all_goals have lb := Paired.length pb
    · rw [la, lb]; decide
    all_goals have ld := Paired.length pd
    · rw [List.length_append, la, lb, ld]; decide
    have sc := same_upd (o := .lst (ra ++ rb)) nc
    have se := same_upd (o := .lst (ra ++ rb ++ rd)) ne
    exact hR _ _ ⟨sa.trans (sb.trans (sc.trans (sd.trans se))), Ee, _, rfl, upd_same, paired_app (paired_app (paired_mono (fun v j h => h.same (sb.trans (sc.trans (sd.trans se)))) pa) (paired_mono (fun v j h => h.same (sc.trans (sd.trans se))) pb)) (paired_mono (fun v j h => h.same se) pd), by rw [List.length_append, List.length_append, la, lb, ld]; rfl⟩
  rintro v H6 ⟨s6, D6, r6, rfl, h6, q6, l6⟩
  dsimp only [gName]
  refine asgS (fun v G => Same H6 G ∧ ∃ D rs, v = .ref D ∧ G D = some (.lst rs) ∧ Paired (RowT T G x) rs (sN ++ sM ++ sI ++ sP ++ sL ++ sO) ∧ rs.length = 60) (fun R hR => ?_) ?_
  · refine ⟨_, rfl, _, rfl, x, rfl, fun Ha Da ra sa ha pa => ⟨D6, Da, r6, ra, rfl, rfl, sa _ _ h6, ha, ?_, fun Eb nb => ⟨_, rfl, x, rfl, fun Hc Dc rc sc hc pc => ⟨Eb, Dc, _, rc, rfl, rfl, sc _ _ upd_same, hc, ?_, fun Ed nd => ⟨_, rfl, x, rfl, fun He De re se he pe => ⟨Ed, De, _, re, rfl, rfl, se _ _ upd_same, he, ?_, fun Ef nf => ?_⟩⟩⟩⟩⟩⟩
    all_goals have la := Paired.length pa
    · rw [l6, la]; decide
    all_goals have lc := Paired.length pc
    · rw [List.length_append, l6, la, lc]; decide
    all_goals have le := Paired.length pe
    · rw [List.length_append, List.length_append, l6, la, lc, le]; decide
    have sb := same_upd (o := .lst (r6 ++ ra)) nb
    have sd := same_upd (o := .lst (r6 ++ ra ++ rc)) nd
    have sf := same_upd (o := .lst (r6 ++ ra ++ rc ++ re)) nf
    have b1 := sb.trans (sc.trans (sd.trans (se.trans sf)))
    exact hR _ _ ⟨sa.trans b1, Ef, _, rfl, upd_same, paired_app (paired_app (paired_app (paired_mono (fun v j h => h.same (sa.trans b1)) q6) (paired_mono (fun v j h => h.same b1) pa)) (paired_mono (fun v j h => h.same (sd.trans (se.trans sf))) pc)) (paired_mono (fun v j h => h.same sf) pe), by rw [List.length_append, List.length_append, List.length_append, l6, la, lc, le]; rfl⟩
  rintro v H7 ⟨s7, D7, r7, rfl, h7, q7, l7⟩
  dsimp only [gName]
  -- no row tells another
  have kx7 := tx.same (s6.trans s7)
  refine ifLc ?_
  refine lc_none (K := K) (D := D7) (rs := r7) (k := 5) rfl rfl h7 (fun n v H' R hv s' r => ?_) fun H8 D8 s8 h8 => ?_
  · obtain ⟨i, hi, t', a', rfl, ht', he'⟩ := paired_get q7 hv
    refine ⟨_, rfl, t', _, _, x, rfl, rfl, SqT.of (s' _ _ ht'), atI_nat (j := 2) rfl, x, rfl, .inl ⟨dx, kx7.same s', _, rfl, x, rfl, .inl ⟨dx, kx7.same s', rfl, _, rfl, ?_⟩⟩⟩
    have e : (!decide (V.str dx.shown = V.str dx.shown)) = false := by simp
    rw [e]
    exact r
  refine ⟨by show 0 ≤ sizeLine; decide, fun E9 n9 => ?_⟩
  have s9 := same_upd (o := .lst []) n9
  have h9 : upd H8 E9 (.lst []) E9 = some (.lst []) := upd_same
  generalize upd H8 E9 (.lst []) = H9 at s9 h9 ⊢
  refine ⟨.list [], .list [], .lst (SqL.of (s9 _ _ h8)) .nil, .lst (SqL.of h9) .nil, by decide, by decide, false, rfl, iteF (nextS ?_)⟩
  dsimp only
  -- the errors of several fields
  refine ⟨_, rfl, _, rfl, _, rfl, x, y, z, rfl, fun H10 D10 r10 s10 h10 q10 => ?_⟩
  dsimp only [gName]
  have t10 := s6.trans (s7.trans (s8.trans (s9.trans s10)))
  refine ifLc ?_
  refine lc_none (K := K) (D := D10) (rs := r10) (k := 6) rfl rfl h10 (fun n v H' R hv s' r => ?_) fun H11 D11 s11 h11 => ?_
  · obtain ⟨i, hi, t', a', b', c', ws, rfl, ht', hb', hc', hw, he'⟩ := paired_get q10 hv
    obtain ⟨ds, hds, hl⟩ : ∃ ds, Things H' ws ds ∧ ds.length ≤ 10 := by
      have kx := (tx.same t10).same s'
      have ky := (ty.same t10).same s'
      have kz := (tz.same t10).same s'
      rcases hw with rfl | rfl
      · exact ⟨[dx, dy], .cons kx (.cons ky .nil), by show 2 ≤ 10; decide⟩
      · exact ⟨[dx, dy, dz], .cons kx (.cons ky (.cons kz .nil)), by show 3 ≤ 10; decide⟩
    refine ⟨_, rfl, t', _, _, .ref b', rfl, rfl, SqT.of (s' _ _ ht'), atI_nat (j := 2) rfl, .ref b', rfl, .inr ⟨b', ws, ds, rfl, s' _ _ hb', hds, hl, _, rfl, t', _, _, .ref c', rfl, rfl, SqT.of (s' _ _ ht'), atI_nat (j := 3) rfl, .ref c', rfl, .inr ⟨c', ws, ds, rfl, s' _ _ hc', hds, hl, rfl, _, rfl, ?_⟩⟩⟩
    have e : (!decide (V.str (PyData.tuple ds).shown = V.str (PyData.tuple ds).shown)) = false := by simp
    rw [e]
    exact r
  refine ⟨by show 0 ≤ sizeLine; decide, fun E12 n12 => ?_⟩
  have s12 := same_upd (o := .lst []) n12
  have h12 : upd H11 E12 (.lst []) E12 = some (.lst []) := upd_same
  generalize upd H11 E12 (.lst []) = H12 at s12 h12 ⊢
  refine ⟨.list [], .list [], .lst (SqL.of (s12 _ _ h11)) .nil, .lst (SqL.of h12) .nil, by decide, by decide, false, rfl, iteF (nextS ?_)⟩
  dsimp only
  -- made
  have t12 := s8.trans (s9.trans (s10.trans (s11.trans s12)))
  have u12 := s11.trans s12
  refine asgS (fun v G => Same H12 G ∧ ∃ D rs, v = .ref D ∧ G D = some (.lst rs) ∧ Paired (RowP T G) rs (sN ++ sM ++ sI ++ sP ++ sL ++ sO ++ sS) ∧ rs.length = 68) (fun R hR => ?_) ?_
  · have l10 := Paired.length q10
    refine catLc ?_
    refine lc_pairs T (D := D7) (rs := r7) (k := 5) rfl rfl (t12 _ _ h7) (by rw [l7]; decide) (paired_mono (fun v j h => ?_) q7) fun Ha Da ra sa ha pa la => ?_
    · obtain ⟨t', a', e1, e2, e3⟩ := h
      exact ⟨t', a', [x], e1, t12 _ _ e2, e3.same t12⟩
    refine lc_pairs T (D := D10) (rs := r10) (k := 6) rfl rfl (sa _ _ (u12 _ _ h10)) (by rw [l10]; decide) (paired_mono (fun v j h => ?_) q10) fun Hb Db rb sb hb pb lb => ?_
    · obtain ⟨t', a', b', c', ws, e1, e2, _, _, _, e3⟩ := h
      exact ⟨t', a', _, e1, sa _ _ (u12 _ _ e2), (e3.same u12).same sa⟩
    refine ⟨Da, Db, ra, rb, rfl, rfl, sb _ _ ha, hb, ?_, fun Ec nc => ?_⟩
    · rw [la, lb, l7, l10]; decide
    have sc := same_upd (o := .lst (ra ++ rb)) nc
    exact hR _ _ ⟨sa.trans (sb.trans sc), Ec, _, rfl, upd_same, paired_app (paired_mono (fun v j h => h.same (sb.trans sc)) pa) (paired_mono (fun v j h => h.same sc) pb), by rw [List.length_append, la, lb, l7, l10]; rfl⟩
  rintro v H13 ⟨s13, D13, r13, rfl, h13, q13, l13⟩
  dsimp only [gName]
  refine asgS (fun v G => Same H13 G ∧ ∃ D rs, v = .ref D ∧ G D = some (.lst rs) ∧ Paired (RowP T G) rs (sN ++ sM ++ sI ++ sP ++ sL ++ sO ++ sS ++ [8, 23, 29]) ∧ rs.length = 71) (fun R hR => ?_) ?_
  · refine ⟨_, rfl, lstW ?_⟩
    refine bare T (i := 8) rfl fun Ha ta sa pa => ?_
    refine bare T (i := 23) rfl fun Hb tb sb pb => ?_
    refine bare T (i := 29) rfl fun Hc tc sc pc => ?_
    refine ⟨by show 3 ≤ sizeLine; decide, fun D nD => ?_⟩
    have sd := same_upd (o := .lst [.ref ta, .ref tb, .ref tc]) nD
    have u := sa.trans (sb.trans (sc.trans sd))
    refine ⟨D13, D, r13, _, rfl, rfl, u _ _ h13, upd_same, by show r13.length + 3 ≤ sizeLine; rw [l13]; decide, fun E nE => ?_⟩
    have se := same_upd (o := .lst (r13 ++ [.ref ta, .ref tb, .ref tc])) nE
    have f := sd.trans se
    exact hR _ _ ⟨u.trans se, E, _, rfl, upd_same, paired_app (paired_mono (fun v j h => h.same (u.trans se)) q13) (.cons (pa.same (sb.trans (sc.trans f))) (.cons (pb.same (sc.trans f)) (.cons (pc.same f) .nil))), by rw [List.length_append, l13]; rfl⟩
  rintro v H14 ⟨s14, D14, r14, rfl, h14, q14, l14⟩
  dsimp only [gName]
  -- each error is of one class
  refine seqW (fun σ' H' => ∃ v8 v9, σ' = [some (.ref a), some (.ref d), some x, some y, some z, some (.ref D7), some (.ref D10), some (.ref D14), v8, v9, none] ∧ Same H14 H') (fun N hN => ?_) ?_
  · refine ⟨_, rfl, D14, rfl, ⟨_, SqL.of h14⟩, ?_⟩
    refine for_list (K := K) (a := D14) (xs := r14) (fun n σ' H' => ∃ v8 v9, σ' = [some (.ref a), some (.ref d), some x, some y, some z, some (.ref D7), some (.ref D10), some (.ref D14), v8, v9, none] ∧ Same H14 H') ⟨none, none, rfl, Same.refl _⟩ (fun n σ H' _ ⟨_, _, _, s⟩ => SqL.of (s _ _ h14)) ?_ ?_
    · rintro n v σ H15 hv ⟨v8, v9, rfl, s15⟩
      obtain ⟨i, hi, t', a', rfl, ht', he'⟩ := paired_get q14 hv
      refine ⟨t', _, rfl, SqT.of (s15 _ _ ht'), rfl, _, _, rfl, _, _, rfl, rfl, ?_⟩
      dsimp only [gName]
      refine ⟨_, rfl, a', i, rfl, he'.same s15, fun H16 D16 s16 h16 => ?_⟩
      refine ⟨_, rfl, by show 1 ≤ sizeLine; decide, fun D17 n17 => ?_⟩
      have s17 := same_upd (o := .lst [V.int (i : Nat)]) n17
      have h17 : upd H16 D17 (.lst [V.int (i : Nat)]) D17 = some (.lst [V.int (i : Nat)]) := upd_same
      generalize upd H16 D17 (.lst [V.int (i : Nat)]) = H17 at s17 h17 ⊢
      refine ⟨.list [.int (i : Nat)], .list [.int (i : Nat)], .lst (SqL.of (s17 _ _ h16)) (.cons (.int _) .nil), .lst (SqL.of h17) (.cons (.int _) .nil), rfl, rfl, false, by simp [PyData.eqv, PyData.eqvAll], iteF ?_⟩
      refine ⟨_, rfl, a', i, rfl, he'.same (s15.trans (s16.trans s17)), true, rfl, iteF (nextS ⟨_, _, rfl, s15.trans (s16.trans s17)⟩)⟩
    · rintro σ H' h
      exact hN _ _ h
  rintro σ H15 ⟨v8, v9, rfl, s15⟩
  -- every spot
  obtain ⟨ps, kvs, e1, e2, e3⟩ := pairs_of T (paired_mono (fun v j h => h.same s15) q14)
  refine ⟨_, rfl, D14, ps, kvs, rfl, SqL.of (s15 _ _ (e1 ▸ h14)), e2, fun p16 n16 => ?_⟩
  have k16 : (mergeK [] kvs).map (·.1) = ((sAll.map fun n : Nat => (n : Int)).foldl addI []).map Sum.inl := keys_merge (ns := []) e3 rfl
  refine ⟨p16, mergeK [] kvs, rfl, upd_same, fun p17 n17 => ?_⟩
  have e17 : (mergeK [] kvs).map (fun kv => kV kv.1) = ((sAll.map fun n : Nat => (n : Int)).foldl addI []).map V.int := by
    have z := congrArg (List.map kV) k16
    rw [List.map_map, List.map_map] at z
    exact z
  refine ⟨p17, (sAll.map fun n : Nat => (n : Int)).foldl addI [], rfl, SqL.of (by rw [upd_same, e17]), fun ns' p18 hp ho n18 => ?_⟩
  have en : ns' = r37 := List.Perm.eq_of_pairwise (fun x y _ _ h1 h2 => Int.le_antisymm h1 h2) ho all_up (hp.trans all_keys)
  subst en
  refine ⟨37, rfl, RgOk.of_le (by decide) (by decide) (by decide) (by decide), fun p19 n19 => ?_⟩
  have ne : p18 ≠ p19 := fun z => by rw [z, upd_same] at n19; cases n19
  have er : rgV 0 37 = r37.map V.int := rfl
  refine ⟨.list (r37.map PyData.int), .list (r37.map PyData.int), .lst (SqL.of (xs := r37.map V.int) ?_) (dpInts r37), .lst (SqL.of (xs := r37.map V.int) ?_) (dpInts r37), by decide +kernel, by decide +kernel, ?_⟩
  · rw [upd_ne ne, upd_same]
  · rw [upd_same, er]
  rw [SeqAt.eqv_refl _ (by decide +kernel)]
  exact q _
end
end Toy
set_option Elab.async false
set_option linter.all false
set_option maxRecDepth 100000
set_option maxHeartbeats 4000000
namespace Toy
open PySem L2 Sh
/-! ### the head: the run of the top, in the kernel -/
abbrev R : PySem.W.OpenRow := PySem.W.OpenLaw.row PySem.Challenge.rw_treeshed_k86_errors_by_place_and_by_name
abbrev hk : PySem.W.Hook := hookX 4 hFa hFn hEx hXs
def ob (s : PySem.W.SharedT) : AlX := obsXG 4 hFa hFn hEx hXs (HandSHeadRun.getT s)
theorem ob_eq (s : PySem.W.SharedT) : ob s = hk.obs s.abs := obsXG_eq (HandSHeadRun.getT_eq s)
set_option maxHeartbeats 0 in
theorem run (w : World) : HandSHeadRun.RunEq R (PySem.W.view R.prog [53]) hk ob 20000 loose w := by
  intro os
  kernel_rfl
end Toy
set_option Elab.async false
set_option linter.all false
set_option maxRecDepth 100000
set_option maxHeartbeats 4000000
namespace Toy
open PySem L2 Sh
/-! ### the end -/
theorem facts {w : World} {K : PySem.W.Frag} {h : Heap} {mg : Str → Option Value} {fa : Addr} (X : K.In h) (G : h.Ns mainGlobals mg) (hfa : mg ("law" : Str) = some (.ref fa)) (c : Says K) :
    ∃ fd : FuncData, (∀ (s : Shared) (v : Value), BindsTo s fd ⟨[v], []⟩ [("_law_script", v)]) ∧ ∀ base : Heap, K.In base → base.Ns mainGlobals mg → FnG PP w K mg base CX0 4 fa fd ["_law_script"] (spLaw K) := by
  have T := tx_of X G c
  have e := hfa.symm.trans T.m_law
  cases e
  refine ⟨T.fd_law, fun s v => ?_, fun base _ _ => ok_law T⟩
  obtain ⟨oc, od, kV, doc, pm, an, cdv, ct, osl, h, _⟩ := T.F_law.ex
  rw [h]
  exact .of_eq rfl
end Toy
open PySem PySem.W PySem.Calls PyProof.Rows
set_option maxRecDepth 100000 in
set_option maxHeartbeats 0 in
theorem PySem.Challenge.cw_treeshed_k86_errors_by_place_and_by_name_holds : PySem.Challenge.rw_treeshed_k86_errors_by_place_and_by_name.Holds := by
  w_on; o_law
  refine HandSHeadRun.head_any (r := OpenLaw.row PySem.Challenge.rw_treeshed_k86_errors_by_place_and_by_name) (q := view (OpenLaw.row PySem.Challenge.rw_treeshed_k86_errors_by_place_and_by_name).prog [53]) (H := Toy.hk) (ob := Toy.ob) (M := 20000) (loose := Toy.loose) (d := HandSHeadRun.topDef (OpenLaw.row PySem.Challenge.rw_treeshed_k86_errors_by_place_and_by_name).prog 53) (kwd := []) Toy.ob_eq
    (by kernel_rfl) (fun s => by kernel_rfl) Toy.run (by kernel_rfl) (by kernel_rfl) (by kernel_rfl) (by rfl) (by first | assumption | decide +kernel) (by decide +kernel) ⟨rfl, rfl, rfl, rfl, rfl, by decide +kernel⟩ ?hw ?hc
  case hw => w_witness2
  case hc =>
    refine Sh.walk_ofEG (l := PySem.Challenge.rw_treeshed_k86_errors_by_place_and_by_name) (n := 63) (k := 4) (x := "_law_script") rfl (by decide) (by kernel_rfl) ⟨rfl, by decide, by decide⟩ ?F
    intro w mg fa h Y G hmg0
    obtain ⟨K, KX, c⟩ := Y
    have hmg : mg ("law" : PySem.Str) = some (.ref fa) := by
      have e : (HandSHeadRun.topDef (OpenLaw.row PySem.Challenge.rw_treeshed_k86_errors_by_place_and_by_name).prog 53).name = ("law" : PySem.Str) := by kernel_rfl
      rw [← e]
      exact hmg0
    obtain ⟨fd, hb, hF⟩ := Toy.facts (w := w) KX G hmg c
    exact ⟨K, fd, Toy.spLaw K, KX, hb, fun H a ns hl hS => ⟨a, ns, rfl, hS, hl, fun _ => rfl⟩, hF⟩
