import PyProof.Rows.All
import Wide.All
import OpenK.AllK
import Wide.FinOn
import HandS.ForMost
import HandS.Deep
import HandS.Style
import HandS.IsInst
import HandS.TupAny
import HandS.Codes
import KE.SortData
import PySem.Challenge.RW_treeshed_k28_cells_that_are_let
set_option Elab.async false
set_option linter.all false
set_option maxRecDepth 100000
set_option maxHeartbeats 4000000
namespace Sh
open PySem PySem.Spec PyProof.Rows L2
/-! ### rules of my own over the hand layer -/
section
variable {X : Cx}
def rInDT (K : PySem.W.Frag) : R2 := fun x y H Q => ∃ d ds, Dp K H x d ∧ Dp K H y (.tuple ds) ∧ SeqAt.shaped d = true ∧ SeqAt.shaped (.tuple ds) = true ∧ Q (.bl (ds.any fun z => PyData.eqv z d)) H
def rNotInDT (K : PySem.W.Frag) : R2 := fun x y H Q => ∃ d ds, Dp K H x d ∧ Dp K H y (.tuple ds) ∧ SeqAt.shaped d = true ∧ SeqAt.shaped (.tuple ds) = true ∧ Q (.bl (!ds.any fun z => PyData.eqv z d)) H
theorem op_inDT (hu : X.A.units + 65 < cLine) : OpR X (compareOp .In) (rInDT X.K) := by
  intro pins s σ H x y v u Q I rx ry h
  obtain ⟨d, ds, hd, he, sd, se, q⟩ := h
  obtain ⟨as, r1⟩ := Dp.reads I d x v hd rx
  obtain ⟨bs, r2⟩ := Dp.reads I (.tuple ds) y u he ry
  exact SeqAt.in_tuple_reads r2 r1 (SeqAt.canLay_of_shaped se) (SeqAt.canLay_of_shaped sd) (room_in_shaped sd hu) ⟨.bl _, H, I, rfl, q⟩
theorem op_notInDT (hu : X.A.units + 65 < cLine) : OpR X (compareOp .NotIn) (rNotInDT X.K) := by
  intro pins s σ H x y v u Q I rx ry h
  obtain ⟨d, ds, hd, he, sd, se, q⟩ := h
  obtain ⟨as, r1⟩ := Dp.reads I d x v hd rx
  obtain ⟨bs, r2⟩ := Dp.reads I (.tuple ds) y u he ry
  exact SeqAt.notIn_tuple_reads r2 r1 (SeqAt.canLay_of_shaped se) (SeqAt.canLay_of_shaped sd) (room_in_shaped sd hu) ⟨.bl _, H, I, rfl, q⟩
/-! sorted of a list that reads as data -/
def sortPairs (xs : List V) (ds : List PyData) : List (V × PyData) := (xs.zip ds).mergeSort (PySem.W.dataLe false Prod.snd)
def rSortedDD (K : PySem.W.Frag) : List V → Hp → VK → Prop := fun vs H Q => ∃ (a : Addr) (xs : List V) (ds : List PyData), vs = [V.ref a] ∧ SqL K H a xs ∧ DpAll K H xs ds ∧ PySem.W.AllAlike ds ∧ PySem.W.Sortable ds ∧ (∀ d ∈ ds, d.depth ≤ 60) ∧
  ∀ p, H p = none → Q (.ref p) (upd H p (.lst ((sortPairs xs ds).map Prod.fst)))
theorem DpAll.len {K : PySem.W.Frag} {H : Hp} : ∀ {xs : List V} {ds : List PyData}, DpAll K H xs ds → xs.length = ds.length
  | _, _, .nil => rfl
  | _, _, .cons _ t => by
    show _ + 1 = _ + 1
    rw [DpAll.len t]
theorem zip_snd {α β : Type} : ∀ {xs : List α} {ds : List β}, xs.length = ds.length → (xs.zip ds).map Prod.snd = ds
  | [], [], _ => rfl
  | x :: xs, d :: ds, h => by
    show d :: (xs.zip ds).map Prod.snd = d :: ds
    rw [zip_snd (Nat.succ.inj h)]
theorem each_rel {K : PySem.W.Frag} {H : Hp} : ∀ {xs : List V} {ds : List PyData} {its : List Value}, Vals xs its → xs.length = ds.length → PySem.W.EachIs (fun (v : Value) (b : V × PyData) => RelV b.1 v) its (xs.zip ds)
  | [], [], _, .nil, _ => .nil
  | _ :: _, _ :: _, _, .cons r t, h => .cons r (each_rel (K := K) (H := H) t (Nat.succ.inj h))
theorem each_reads {pins : List (Addr × Obj)} {σ : L2.St} {H : Hp} {s : Shared} (I : L2.Inv X pins σ H s) : ∀ {xs : List V} {ds : List PyData} {its : List Value}, Vals xs its → DpAll X.K H xs ds → PySem.W.EachIs (fun (v : Value) (b : V × PyData) => ∃ as, Reads s.heap v b.2 as) its (xs.zip ds)
  | [], [], _, .nil, _ => .nil
  | _ :: _, _ :: _, _, .cons r t, .cons h hs => .cons (Dp.reads I _ _ _ h r) (each_reads I t hs)
theorem vals_of_each : ∀ {out : List Value} {bs : List (V × PyData)}, PySem.W.EachIs (fun (v : Value) (b : V × PyData) => RelV b.1 v) out bs → Vals (bs.map Prod.fst) out
  | _, _, .nil => .nil
  | _, _, .cons r t => .cons r (vals_of_each t)
theorem cr_sortedDD (hu : X.A.units + 65 < cLine) : CallR X (.builtin "sorted") (rSortedDD X.K) := by
  intro pins s σ H vs us Q I r h
  obtain ⟨a, xs, ds, rfl, hs, hd, hal, hk, hdp, q⟩ := h
  obtain ⟨its, rv, hl, hz⟩ := I.list hs
  rw [Vals.ref1 r]
  have el := DpAll.len hd
  have ez : (xs.zip ds).map Prod.snd = ds := zip_snd el
  have elz : (xs.zip ds).length = xs.length := by rw [List.length_zip, el, Nat.min_self]
  refine PySem.W.sorted_data (enc := Prod.snd) (bs := xs.zip ds) hl.isList (each_rel (K := X.K) (H := H) rv el) (each_reads I rv hd) (by rw [ez]; exact hal) (by rw [ez]; exact hk) (by rw [elz]; exact hz) (fun b hb => ?_) fun out ho eo => ?_
  · have hm : b.2 ∈ ds := by
      rw [← ez]
      exact List.mem_map.mpr ⟨b, hb, rfl⟩
    have := hdp _ hm
    omega
  · obtain ⟨ep, he'⟩ := PyProof.Rows.sortedAll_at s.heap its out.toArray
    have hlen : ((sortPairs xs ds).map Prod.fst).length ≤ sizeLine := by
      rw [List.length_map, sortPairs, List.length_mergeSort, elz]
      exact hz
    refine ⟨.ref _, upd H (s.heap.objs.size + 1) (.lst ((sortPairs xs ds).map Prod.fst)), I.laid (t' := s.toks) (fun _ _ => PyProof.Rows.sortedAll_old) (Nat.le_succ _) ⟨hlen, out, ep, vals_of_each eo, he'⟩, rfl, q _ (I.hok.fresh (Nat.le_succ _))⟩
end
/-! ### heaps -/
/-- all that was tracked is as it was, but for d -/
def Kp (d : Addr) (H H' : Hp) : Prop := ∀ b o, H b = some o → b ≠ d → H' b = some o
theorem Kp.refl (d : Addr) (H : Hp) : Kp d H H := fun _ _ h _ => h
theorem Kp.trans {d : Addr} {H H1 H2 : Hp} (a : Kp d H H1) (b : Kp d H1 H2) : Kp d H H2 := fun c o h n => b c o (a c o h n) n
theorem same_upd {H : Hp} {p : Addr} {o : HO} (h : H p = none) : Same H (upd H p o) := fun b x e => by
  rw [upd_ne (ne_of_none e h)]
  exact e
theorem Same.kp {d : Addr} {H H' : Hp} (s : Same H H') : Kp d H H' := fun b o h _ => s b o h
theorem kp_new {d : Addr} {H : Hp} {p : Addr} {o : HO} (h : H p = none) : Kp d H (upd H p o) := Same.kp (same_upd h)
theorem kp_put {d : Addr} {H : Hp} {o : HO} : Kp d H (upd H d o) := fun b x e n => by
  rw [upd_ne n]
  exact e
/-- a place that was free stays apart -/
theorem Kp.free {d : Addr} {H H' : Hp} (e : Kp d H H') {o : HO} (hd : H' d = some o) {l : Addr} (h : H' l = none) : H l = none := by
  cases q : H l with
  | none => rfl
  | some u =>
    by_cases hl : l = d
    · subst hl
      rw [hd] at h
      cases h
    · rw [e l u q hl] at h
      cases h
mutual
theorem dp_keep {K : PySem.W.Frag} {H H' : Hp} (k : ∀ a u, Rd H a u → (∃ xs, u = .lst xs ∨ u = .tup xs) → Rd H' a u) : ∀ (d : PyData) (v : V), Dp K H v d → Dp K H' v d
  | .none, _, h => by cases h; exact .non
  | .bool b, _, h => by cases h; exact .bl b
  | .int i, _, h => by cases h; exact .int i
  | .str x, _, h => by cases h; exact .str x
  | .list ds, _, h => by
    cases h with
    | lst h1 h2 =>
      refine .lst ?_ (dpAll_keep k ds _ h2)
      rcases h1 with h1 | h1
      · exact .inl (k _ _ h1 ⟨_, .inl rfl⟩)
      · exact .inr h1
  | .tuple ds, _, h => by
    cases h with
    | tup h1 h2 =>
      refine .tup ?_ (dpAll_keep k ds _ h2)
      rcases h1 with h1 | h1
      · exact .inl (k _ _ h1 ⟨_, .inr rfl⟩)
      · exact .inr h1
theorem dpAll_keep {K : PySem.W.Frag} {H H' : Hp} (k : ∀ a u, Rd H a u → (∃ xs, u = .lst xs ∨ u = .tup xs) → Rd H' a u) : ∀ (ds : List PyData) (vs : List V), DpAll K H vs ds → DpAll K H' vs ds
  | [], _, h => by cases h; exact .nil
  | d :: ds, _, h => by
    cases h with
    | cons h1 h2 => exact .cons (dp_keep k d _ h1) (dpAll_keep k ds _ h2)
end
/-! ### loops -/
theorem for_enum {K : PySem.W.Frag} {a : Addr} {xs : List V} {g : TG} {tb : TS} {D : Ends} {σ : L2.St} {H : Hp} (Pv : Nat → L2.St → Hp → Prop) (h0 : Pv 0 σ H) (hl : ∀ i σ H, i ≤ xs.length → Pv i σ H → SqL K H a xs)
    (hs : ∀ (i : Nat) (x : V) (σ : L2.St) (H : Hp) (T : Addr), xs[i]? = some x → H T = none → Pv i σ H → g (.ref T) σ (upd H T (.tup [.int (i : Nat), x])) fun σ2 H2 => tb { D with nx := Pv (i + 1), ct := Pv (i + 1), bk := D.nx } σ2 H2) (hd : ∀ σ H, Pv xs.length σ H → D.nx σ H) :
    ∃ W : Nat → Nat → L2.St → Hp → Prop, (∃ m, W 0 m σ H) ∧ ∀ i m σ H, W i m σ H →
      ((Ite K a).stop i H ∧ D.nx σ H) ∨ ((Ite K a).go i H ∧ ∃ N : L2.St → Hp → Prop, (∀ σ' H', N σ' H' → ∃ m', m' < m ∧ W (i + 1) m' σ' H') ∧ ∀ x H', (Ite K a).yld i H x H' → g x σ H' fun σ2 H2 => tb { D with nx := N, ct := N, bk := D.nx } σ2 H2) := by
  refine ⟨fun i m σ H => m = xs.length - i ∧ i ≤ xs.length ∧ Pv i σ H, ⟨xs.length, by simp, Nat.zero_le _, h0⟩, ?_⟩
  rintro i m σ H ⟨rfl, hi, p⟩
  have q := hl i σ H hi p
  by_cases hlt : i < xs.length
  · refine .inr ⟨⟨xs, xs[i], q, by simp [hlt]⟩, Pv (i + 1), fun σ' H' p' => ⟨xs.length - (i + 1), by omega, rfl, hlt, p'⟩, fun x H' y => ?_⟩
    obtain ⟨T, x, rfl, nT, rfl, y⟩ := y
    exact hs i x σ _ T (y xs q) nT p
  · have e : i = xs.length := by omega
    subst e
    exact .inl ⟨⟨xs, q, Nat.le_refl _⟩, hd σ H p⟩
/-- a cut: what is known of the value that is stored -/
theorem asgW {te : TE} {g : TG} {D : Ends} {σ : L2.St} {H : Hp} (W : VK) (h1 : ∀ R : VK, (∀ v H2, W v H2 → R v H2) → te σ H R) (h2 : ∀ v H2, W v H2 → g v σ H2 D.nx) : tAsg te g D σ H := h1 _ h2
theorem asgS {te : TE} {g : TG} {u : TS} {D : Ends} {σ : L2.St} {H : Hp} (W : VK) (h1 : ∀ R : VK, (∀ v H2, W v H2 → R v H2) → te σ H R) (h2 : ∀ v H2, W v H2 → g v σ H2 (u D)) : tSeq (tAsg te g) u D σ H := h1 _ h2
theorem nextS {D : Ends} {σ : L2.St} {H : Hp} (h : D.nx σ H) : tNext D σ H := h
theorem yes_ite {σ : L2.St} {H : Hp} {A B : Hp → Prop} (h : A H) : tYes σ H fun b H3 => if b = true then A H3 else B H3 := (iteT h : if true = true then A H else B H)
/-- a new object: the heap behind it by what is known of it -/
theorem newW {G : VK} {H : Hp} {o : HO} (h : ∀ p H1, H p = none → Same H H1 → H1 p = some o → G (.ref p) H1) : ∀ p, H p = none → G (.ref p) (upd H p o) := fun p hp => h p _ hp (same_upd hp) upd_same
theorem seqT {K : PySem.W.Frag} {H H' : Hp} {a : Addr} {xs : List V} (e : Same H H') (h : SqT K H a xs) : SqT K H' a xs := by
  rcases h with (h | ⟨o, h⟩) | h
  · exact .inl (.inl (e _ _ h))
  · exact .inl (.inr ⟨o, e _ _ h⟩)
  · exact .inr h
end Sh
set_option Elab.async false
set_option linter.all false
set_option maxRecDepth 100000
set_option maxHeartbeats 4000000
namespace Toy
open PySem L2 Sh
def top (i : Nat) : Stmt := PySem.Challenge.pw_treeshed_k28_cells_that_are_let.main.body.getD i (.Pass ⟨0, 0, 0, 0⟩)
abbrev s_is_let : Stmt := top 5
abbrev N_is_let : List Str := ["rule", "cell", "there", "root", "kind", "one"]
theorem sc_is_let : FnScope ["rule", "cell", "there", "root", "kind", "one"] ["rule", "cell", "there", "root"] (defScope s_is_let) := ⟨rfl, rfl, rfl, by decide +kernel, rfl, by decide +kernel, by decide +kernel⟩
abbrev s_is_kind : Stmt := top 7
abbrev N_is_kind : List Str := ["kind", "kept", "flag", "children"]
theorem sc_is_kind : FnScope ["kind", "kept", "flag", "children"] ["kind"] (defScope s_is_kind) := ⟨rfl, rfl, rfl, by decide +kernel, rfl, by decide +kernel, by decide +kernel⟩
abbrev s_kinds_of : Stmt := top 8
abbrev N_kinds_of : List Str := ["side", "kinds", "found", "number", "kind"]
theorem sc_kinds_of : FnScope ["side", "kinds", "found", "number", "kind"] ["side", "kinds"] (defScope s_kinds_of) := ⟨rfl, rfl, rfl, by decide +kernel, rfl, by decide +kernel, by decide +kernel⟩
abbrev s_Rule_init : Stmt := inClass (top 9) 0
abbrev N_Rule_init : List Str := ["self", "root", "others"]
theorem sc_Rule_init : FnScope ["self", "root", "others"] ["self", "root", "others"] (defScope s_Rule_init) := ⟨rfl, rfl, rfl, by decide +kernel, rfl, by decide +kernel, by decide +kernel⟩
abbrev s_l_pen_of : Stmt := top 11
abbrev N_l_pen_of : List Str := ["_law_script"]
theorem sc_l_pen_of : FnScope ["_law_script"] ["_law_script"] (defScope s_l_pen_of) := ⟨rfl, rfl, rfl, by decide +kernel, rfl, by decide +kernel, by decide +kernel⟩
abbrev s_l_draw : Stmt := top 12
abbrev N_l_draw : List Str := ["_law_pen", "_law_many", "_law_digit", "_law_place", "_law_size", "_law_told", "_law_blend"]
theorem sc_l_draw : FnScope ["_law_pen", "_law_many", "_law_digit", "_law_place", "_law_size", "_law_told", "_law_blend"] ["_law_pen", "_law_many"] (defScope s_l_draw) := ⟨rfl, rfl, rfl, by decide +kernel, rfl, by decide +kernel, by decide +kernel⟩
abbrev s_l_pick : Stmt := top 13
abbrev N_l_pick : List Str := ["_law_pen", "_law_menu"]
theorem sc_l_pick : FnScope ["_law_pen", "_law_menu"] ["_law_pen", "_law_menu"] (defScope s_l_pick) := ⟨rfl, rfl, rfl, by decide +kernel, rfl, by decide +kernel, by decide +kernel⟩
abbrev s_l_rule_made : Stmt := top 14
abbrev N_l_rule_made : List Str := ["_law_rule"]
theorem sc_l_rule_made : FnScope ["_law_rule"] ["_law_rule"] (defScope s_l_rule_made) := ⟨rfl, rfl, rfl, by decide +kernel, rfl, by decide +kernel, by decide +kernel⟩
abbrev s_l_let : Stmt := top 15
abbrev N_l_let : List Str := ["_law_rule", "_law_cell", "_law_there", "_law_root", "_law_kind", "_law_leaf", "_law_one"]
theorem sc_l_let : FnScope ["_law_rule", "_law_cell", "_law_there", "_law_root", "_law_kind", "_law_leaf", "_law_one"] ["_law_rule", "_law_cell", "_law_there", "_law_root"] (defScope s_l_let) := ⟨rfl, rfl, rfl, by decide +kernel, rfl, by decide +kernel, by decide +kernel⟩
abbrev s_l_cells : Stmt := top 16
abbrev N_l_cells : List Str := ["_law_values", "_law_found", "_law_value", "_law_k"]
theorem sc_l_cells : FnScope ["_law_values", "_law_found", "_law_value", "_law_k"] ["_law_values"] (defScope s_l_cells) := ⟨rfl, rfl, rfl, by decide +kernel, rfl, by decide +kernel, by decide +kernel⟩
abbrev s_l_truth : Stmt := top 17
abbrev N_l_truth : List Str := ["_law_found", "_law_due"]
theorem sc_l_truth : FnScope ["_law_found", "_law_due"] ["_law_found", "_law_due"] (defScope s_l_truth) := ⟨rfl, rfl, rfl, by decide +kernel, rfl, by decide +kernel, by decide +kernel⟩
abbrev s_l_side : Stmt := top 18
abbrev N_l_side : List Str := ["_law_pen", "_law_every", "_law_most", "_law_found", "_law_cut", "_law_at", "_law_kind"]
theorem sc_l_side : FnScope ["_law_pen", "_law_every", "_law_most", "_law_found", "_law_cut", "_law_at", "_law_kind"] ["_law_pen"] (defScope s_l_side) := ⟨rfl, rfl, rfl, by decide +kernel, rfl, by decide +kernel, by decide +kernel⟩
abbrev s_law : Stmt := top 19
abbrev N_law : List Str := ["_law_script", "_law_pen", "_law_turn", "_law_rule", "_law_made", "_law_cell", "_law_there", "_law_root"]
theorem sc_law : FnScope ["_law_script", "_law_pen", "_law_turn", "_law_rule", "_law_made", "_law_cell", "_law_there", "_law_root"] ["_law_script"] (defScope s_law) := ⟨rfl, rfl, rfl, by decide +kernel, rfl, by decide +kernel, by decide +kernel⟩
structure Tx (K : PySem.W.Frag) (mg : Str → Option Value) where
  b_len : mg "len" = none
  b_min : mg "min" = none
  b_isinstance : mg "isinstance" = none
  b_bool : mg "bool" = none
  b_int : mg "int" = none
  b_list : mg "list" = none
  b_tuple : mg "tuple" = none
  b_enumerate : mg "enumerate" = none
  b_sorted : mg "sorted" = none
  b_abs : mg "abs" = none
  b_any : mg "any" = none
  b_range : mg "range" = none
  c_Rule : Addr
  m_Rule : mg "Rule" = some (.ref c_Rule)
  cl_Rule : Cls K c_Rule
  na_Rule_root : NoAttr K c_Rule "root"
  na_Rule_others : NoAttr K c_Rule "others"
  a_is_let : Addr
  fd_is_let : FuncData
  F_is_let : Fun K "is_let" "is_let" s_is_let a_is_let fd_is_let
  bi_is_let : Binds K fd_is_let ["rule", "cell", "there", "root"] []
  m_is_let : mg "is_let" = some (.ref a_is_let)
  a_is_kind : Addr
  fd_is_kind : FuncData
  F_is_kind : Fun K "is_kind" "is_kind" s_is_kind a_is_kind fd_is_kind
  bi_is_kind : Binds K fd_is_kind ["kind"] []
  m_is_kind : mg "is_kind" = some (.ref a_is_kind)
  a_kinds_of : Addr
  fd_kinds_of : FuncData
  F_kinds_of : Fun K "kinds_of" "kinds_of" s_kinds_of a_kinds_of fd_kinds_of
  bi_kinds_of : Binds K fd_kinds_of ["side", "kinds"] []
  m_kinds_of : mg "kinds_of" = some (.ref a_kinds_of)
  a_Rule_init : Addr
  fd_Rule_init : FuncData
  F_Rule_init : Fun K "__init__" "Rule.__init__" s_Rule_init a_Rule_init fd_Rule_init
  bi_Rule_init : Binds K fd_Rule_init ["self", "root", "others"] []
  mk_Rule : Mk K c_Rule a_Rule_init
  a_l_pen_of : Addr
  fd_l_pen_of : FuncData
  F_l_pen_of : Fun K "_law_pen_of" "_law_pen_of" s_l_pen_of a_l_pen_of fd_l_pen_of
  bi_l_pen_of : Binds K fd_l_pen_of ["_law_script"] []
  m_l_pen_of : mg "_law_pen_of" = some (.ref a_l_pen_of)
  a_l_draw : Addr
  fd_l_draw : FuncData
  F_l_draw : Fun K "_law_draw" "_law_draw" s_l_draw a_l_draw fd_l_draw
  bi_l_draw : Binds K fd_l_draw ["_law_pen", "_law_many"] []
  m_l_draw : mg "_law_draw" = some (.ref a_l_draw)
  a_l_pick : Addr
  fd_l_pick : FuncData
  F_l_pick : Fun K "_law_pick" "_law_pick" s_l_pick a_l_pick fd_l_pick
  bi_l_pick : Binds K fd_l_pick ["_law_pen", "_law_menu"] []
  m_l_pick : mg "_law_pick" = some (.ref a_l_pick)
  a_l_rule_made : Addr
  fd_l_rule_made : FuncData
  F_l_rule_made : Fun K "_law_rule_made" "_law_rule_made" s_l_rule_made a_l_rule_made fd_l_rule_made
  bi_l_rule_made : Binds K fd_l_rule_made ["_law_rule"] []
  m_l_rule_made : mg "_law_rule_made" = some (.ref a_l_rule_made)
  a_l_let : Addr
  fd_l_let : FuncData
  F_l_let : Fun K "_law_let" "_law_let" s_l_let a_l_let fd_l_let
  bi_l_let : Binds K fd_l_let ["_law_rule", "_law_cell", "_law_there", "_law_root"] []
  m_l_let : mg "_law_let" = some (.ref a_l_let)
  a_l_cells : Addr
  fd_l_cells : FuncData
  F_l_cells : Fun K "_law_cells" "_law_cells" s_l_cells a_l_cells fd_l_cells
  bi_l_cells : Binds K fd_l_cells ["_law_values"] []
  m_l_cells : mg "_law_cells" = some (.ref a_l_cells)
  a_l_truth : Addr
  fd_l_truth : FuncData
  F_l_truth : Fun K "_law_truth" "_law_truth" s_l_truth a_l_truth fd_l_truth
  bi_l_truth : Binds K fd_l_truth ["_law_found", "_law_due"] []
  m_l_truth : mg "_law_truth" = some (.ref a_l_truth)
  a_l_side : Addr
  fd_l_side : FuncData
  F_l_side : Fun K "_law_side" "_law_side" s_l_side a_l_side fd_l_side
  bi_l_side : Binds K fd_l_side ["_law_pen"] []
  m_l_side : mg "_law_side" = some (.ref a_l_side)
  a_law : Addr
  fd_law : FuncData
  F_law : Fun K "law" "law" s_law a_law fd_law
  bi_law : Binds K fd_law ["_law_script"] []
  m_law : mg "law" = some (.ref a_law)
theorem hu65_of {A : Around} {k : Nat} (hr : Room k A) : A.units + 65 < cLine := by have := hr.un; omega
theorem posI {n : Nat} [NeZero n] : (0 : Int) < (OfNat.ofNat n : Int) := by
  have := Nat.pos_of_ne_zero (NeZero.ne n)
  exact Int.ofNat_lt.mpr this
/-! ### the pen -/
def penL (c : Addr) (b l : Int) : List (Key × V) := [(.inr "cells", .ref c), (.inr "begun", .int b), (.inr "left", .int l)]
theorem k12 : ¬ (("cells" : Str) = "begun") := by decide +kernel
theorem k13 : ¬ (("cells" : Str) = "left") := by decide +kernel
theorem k23 : ¬ (("begun" : Str) = "left") := by decide +kernel
theorem ki {a b : Str} (h : ¬ a = b) : ¬ (Sum.inr a : Key) = Sum.inr b := fun e => h (Sum.inr.inj e)
theorem pen_cells (c : Addr) (b l : Int) : valV (penL c b l) (.inr "cells") = some (.ref c) := valV_pos rfl
theorem pen_begun (c : Addr) (b l : Int) : valV (penL c b l) (.inr "begun") = some (.int b) := (valV_neg (ki k12)).trans (valV_pos rfl)
theorem pen_left (c : Addr) (b l : Int) : valV (penL c b l) (.inr "left") = some (.int l) := (valV_neg (ki k13)).trans ((valV_neg (ki k23)).trans (valV_pos rfl))
theorem put2 {a b c : Str} {x y z v : V} (h12 : ¬ a = b) (h23 : ¬ b = c) : putK ([(.inr a, x), (.inr b, y), (.inr c, z)] : List (Key × V)) (.inr b) v = [(.inr a, x), (.inr b, v), (.inr c, z)] := by
  have h32 : ¬ c = b := fun e => h23 e.symm
  unfold putK
  simp [h12, h32]
theorem put3 {a b c : Str} {x y z v : V} (h13 : ¬ a = c) (h23 : ¬ b = c) : putK ([(.inr a, x), (.inr b, y), (.inr c, z)] : List (Key × V)) (.inr c) v = [(.inr a, x), (.inr b, y), (.inr c, v)] := by
  unfold putK
  simp [h13, h23]
theorem pen_put_begun (c : Addr) (b l : Int) (v : Int) : putK (penL c b l) (.inr "begun") (.int v) = penL c v l := by
  unfold penL
  rw [put2 k12 k23]
theorem pen_put_left (c : Addr) (b l : Int) (v : Int) : putK (penL c b l) (.inr "left") (.int v) = penL c b v := by
  unfold penL
  rw [put3 k13 k23]
theorem at_mod {ns : List Int} {b : Int} (h : 0 < (ns.length : Int)) : ∃ v, atI (ns.map V.int) (b % (ns.length : Int)) = some (.int v) := by
  have h1 := Int.emod_nonneg b (show (ns.length : Int) ≠ 0 by omega)
  have h2 := Int.emod_lt_of_pos b h
  have h3 : (b % (ns.length : Int)).toNat < ns.length := by omega
  refine ⟨ns[(b % (ns.length : Int)).toNat], at_of (j := (b % (ns.length : Int)).toNat) (by omega) ?_⟩
  rw [List.getElem?_map, List.getElem?_eq_getElem h3]
  rfl
/-- a pen stands at d, n numbers were drawn from it at most -/
def Pen (H : Hp) (d c : Addr) (n : Nat) : Prop := ∃ (ns : List Int) (b l : Int), H d = some (.dK (penL c b l)) ∧ H c = some (.lst (ns.map V.int)) ∧ 0 ≤ b ∧ b ≤ (n : Int) ∧ 0 ≤ l
theorem Pen.mono {H : Hp} {d c : Addr} {n m : Nat} (p : Pen H d c n) (h : n ≤ m) : Pen H d c m := by
  obtain ⟨ns, b, l, h1, h2, h3, h4, h5⟩ := p
  exact ⟨ns, b, l, h1, h2, h3, by omega, h5⟩
theorem Pen.at {H : Hp} {d c : Addr} {n : Nat} (p : Pen H d c n) : ∃ kvs, H d = some (.dK kvs) := by
  obtain ⟨ns, b, l, h1, _⟩ := p
  exact ⟨_, h1⟩
theorem Pen.same {H H' : Hp} {d c : Addr} {n : Nat} (p : Pen H d c n) (s : Same H H') : Pen H' d c n := by
  obtain ⟨ns, b, l, h1, h2, h3⟩ := p
  exact ⟨ns, b, l, s _ _ h1, s _ _ h2, h3⟩
def spDraw : Sp := fun vs H Q _ => ∃ (d c : Addr) (n : Nat) (m : Int), vs = [.ref d, .int m] ∧ Pen H d c n ∧ n ≤ 100000 ∧ 0 < m ∧ m < 1000000000 ∧
  ∀ (H' : Hp) (r : Int), 0 ≤ r → r < m → Kp d H H' → Pen H' d c (n + 1) → Q (.int r) H'
section
variable {P : Program} {w : World} {K : PySem.W.Frag} {mg : Str → Option Value} {base : Heap}
theorem ok_l_draw (T : Tx K mg) : FnOk P w K mg base CX0 1 T.a_l_draw T.fd_l_draw ["_law_pen", "_law_many"] spDraw := by
  refine T.F_l_draw.ok sc_l_draw (fun vs H Q E h => ?_) (fun cdv A outer s H vs Q E hr h => ?_)
  · obtain ⟨d, c, n, m, rfl, _⟩ := h
    rfl
  have hu := hu_of hr
  obtain ⟨d, c, n, m, rfl, ⟨ns, b, l, hd, hc, hb0, hbn, hl⟩, hn, hm, hm2, q⟩ := h
  have ncd : c ≠ d := ne_of hc hd (by intro z; cases z)
  have gl : ∀ {H' : Hp} {c b l}, H' d = some (.dK (penL c b l)) → DGet H' d (.str "left") (some (.int l)) := fun h => by
    have := DGet.k (k := Sum.inr "left") h
    rw [pen_left] at this
    exact this
  have gb : ∀ {H' : Hp} {c b l}, H' d = some (.dK (penL c b l)) → DGet H' d (.str "begun") (some (.int b)) := fun h => by
    have := DGet.k (k := Sum.inr "begun") h
    rw [pen_begun] at this
    exact this
  have gc : ∀ {H' : Hp} {c b l}, H' d = some (.dK (penL c b l)) → DGet H' d (.str "cells") (some (.ref c)) := fun h => by
    have := DGet.k (k := Sum.inr "cells") h
    rw [pen_cells] at this
    exact this
  have pb : ∀ {H' : Hp} {c b l} (v : Int), H' d = some (.dK (penL c b l)) → DPut H' d (.str "begun") (.int v) (upd H' d (.dK (penL c v l))) := fun v h => by
    have := DPut.k (k := Sum.inr "begun") (v := .int v) h (by show 3 < sizeLine; decide)
    rw [pen_put_begun] at this
    exact this
  have pl : ∀ {H' : Hp} {c b l} (v : Int), H' d = some (.dK (penL c b l)) → DPut H' d (.str "left") (.int v) (upd H' d (.dK (penL c b v))) := fun v h => by
    have := DPut.k (k := Sum.inr "left") (v := .int v) h (by show 3 < sizeLine; decide)
    rw [pen_put_left] at this
    exact this
  refine ⟨_, (pss_cons (ps_if (pt_cmpR op_gt (pe_dget hu (pv 0) pe_str (fun _ _ => rfl)) pe_int (nomark _))
 (pss_cons (ps_set (i := 2) sc_l_draw.nd rfl (by first | exact Or.inl rfl | exact Or.inr rfl) (pe_op op_mod (pe_callTy call_int1 (by rfl) T.b_int (by decide +kernel) (pa_cons (pe_dget hu (pv 0) pe_str (fun _ _ => rfl)) pa_nil)) (pv 1)))
 (pss_cons (ps_dput hu (pv 0) pe_str (pe_op op_fdivN (pe_dget hu (pv 0) pe_str (fun _ _ => rfl)) (pv 1)) rfl)
 (pss_one (ps_ret (pv 2)))))
 pss_nil)
 (pss_cons (ps_par (i := 3) (j := 4) (by rfl) sc_l_draw.nd rfl rfl (by decide) rfl rfl (pa_cons (pe_dget hu (pv 0) pe_str (fun _ _ => rfl)) (pa_cons (pe_callB call_len_seq (by rfl) T.b_len (by decide +kernel) (pa_cons (pe_dget hu (pv 0) pe_str (fun _ _ => rfl)) pa_nil)) pa_nil)) (by rfl))
 (pss_cons (ps_dput hu (pv 0) pe_str (pe_op op_add (pv 3) pe_int) rfl)
 (pss_cons (ps_set (i := 5) sc_l_draw.nd rfl (by first | exact Or.inl rfl | exact Or.inr rfl) (pe_ifExp (pt_cmpR op_gt (pv 4) pe_int (nomark _)) (pe_ix ix_list (pe_dget hu (pv 0) pe_str (fun _ _ => rfl)) (pe_op op_mod (pe_callTy call_int1 (by rfl) T.b_int (by decide +kernel) (pa_cons (pv 3) pa_nil)) (pv 4)) (fun _ _ => rfl)) (pe_op op_add (pe_op op_mul pe_int (pv 3)) pe_int)))
 (pss_cons (ps_if (PW.pt (pw_and (pt_cmpR op_lt (pv 3) (pv 4) (nomark _)) (pw_and1 (pt_cmpR op_ge (pe_callB call_abs (by rfl) T.b_abs (by decide +kernel) (pa_cons (pv 5) pa_nil)) (pe_op op_pow pe_int pe_int) (nomark _)))))
 (pss_cons (ps_dput hu (pv 0) pe_str (pe_op op_fdivN (pe_op op_sub (pe_callB call_abs (by rfl) T.b_abs (by decide +kernel) (pa_cons (pv 5) pa_nil)) (pe_op op_pow pe_int pe_int)) (pv 1)) rfl)
 (pss_one (ps_ret (pe_op op_mod (pe_callTy call_int1 (by rfl) T.b_int (by decide +kernel) (pa_cons (pe_op op_sub (pe_callB call_abs (by rfl) T.b_abs (by decide +kernel) (pa_cons (pv 5) pa_nil)) (pe_op op_pow pe_int pe_int)) pa_nil)) (pv 1)))))
 pss_nil)
 (pss_cons (ps_set (i := 6) sc_l_draw.nd rfl (by first | exact Or.inl rfl | exact Or.inr rfl) (pe_op op_mod (pe_callTy call_int1 (by rfl) T.b_int (by decide +kernel) (pa_cons (pe_op op_add (pe_op op_add (pe_op op_mul (pe_op op_mod (pe_callTy call_int1 (by rfl) T.b_int (by decide +kernel) (pa_cons (pv 5) pa_nil)) pe_int) pe_int) (pe_op op_mul (pe_op op_mul pe_int (pv 3)) (pv 3))) pe_int) pa_nil)) pe_int))
 (pss_cons (ps_set (i := 6) sc_l_draw.nd rfl (by first | exact Or.inl rfl | exact Or.inr rfl) (pe_op op_mod (pe_callTy call_int1 (by rfl) T.b_int (by decide +kernel) (pa_cons (pe_op op_add (pe_op op_add (pe_op op_add (pe_op op_mul (pv 6) (pv 6)) (pe_op op_mul pe_int (pv 6))) (pe_op op_mul pe_int (pv 3))) pe_int) pa_nil)) pe_int))
 (pss_one (ps_ret (pe_op op_mod (pe_callTy call_int1 (by rfl) T.b_int (by decide +kernel) (pa_cons (pe_op op_fdivN (pe_op op_mod (pe_callTy call_int1 (by rfl) T.b_int (by decide +kernel) (pa_cons (pe_op op_mul (pv 6) (pe_op op_add (pv 6) pe_int)) pa_nil)) pe_int) pe_int) pa_nil)) (pv 1))))))))))), ?_⟩
  -- if pen['left'] > 0
  refine ⟨_, rfl, d, _, rfl, gl hd, _, _, rfl, rfl, _, rfl, ?_⟩
  refine ite2 (fun h1 => ?_) (fun h1 => ?_)
  · refine ⟨_, rfl, d, _, rfl, gl hd, .inl ⟨_, rfl, _, rfl, _, _, rfl, rfl, hm, ?_⟩⟩
    refine ⟨_, rfl, d, _, rfl, gl hd, _, rfl, _, _, rfl, rfl, ⟨by omega, by omega⟩, _, rfl, d, _, rfl, pl _ hd, ?_⟩
    refine ⟨_, rfl, q _ _ (Int.emod_nonneg _ (by omega)) (Int.emod_lt_of_pos _ hm) kp_put ?_⟩
    refine ⟨ns, b, _, upd_same, by rw [upd_ne ncd]; exact hc, hb0, by omega, Int.fdiv_nonneg (by omega) (by omega)⟩
  -- place, size = (pen['begun'], len(pen['cells'])); pen['begun'] = place + 1
  refine ⟨_, rfl, d, _, rfl, gb hd, _, rfl, d, _, rfl, gc hd, c, _, rfl, .inl (.inl (.inl hc)), _, _, rfl, ?_⟩
  refine ⟨_, rfl, _, _, rfl, rfl, _, rfl, d, _, rfl, pb _ hd, ?_⟩
  have hd2 : (upd H d (.dK (penL c (b + 1) l))) d = some (.dK (penL c (b + 1) l)) := upd_same
  have hc2 : (upd H d (.dK (penL c (b + 1) l))) c = some (.lst (ns.map V.int)) := by rw [upd_ne ncd]; exact hc
  have kp2 : Kp d H (upd H d (.dK (penL c (b + 1) l))) := kp_put
  generalize upd H d (.dK (penL c (b + 1) l)) = H2 at hd2 hc2 kp2 ⊢
  -- told = cells[int(place) % size] if size > 0 else 7 * place + 3
  refine ⟨_, rfl, _, _, rfl, rfl, _, rfl, ?_⟩
  have hlen : ((ns.map V.int).length : Int) = (ns.length : Int) := by rw [List.length_map]
  rw [hlen]
  refine ite2 (fun h2 => ?_) (fun h2 => ?_)
  have h3 := of_decide_eq_true h2
  obtain ⟨z, hz⟩ := at_mod (b := b) h3
  refine ⟨_, rfl, d, _, rfl, gc hd2, _, rfl, .inl ⟨_, rfl, _, rfl, _, _, rfl, rfl, h3, c, ns.map V.int, _, V.int z, rfl, rfl, .inl (.inl hc2), hz, ?_⟩⟩
  clear hz h3
  revert z
  rotate_left
  refine ⟨_, rfl, _, _, rfl, rfl, .inl ⟨by decide, by decide⟩, _, _, rfl, rfl, ?_⟩
  generalize 7 * b + 3 = z
  revert z
  all_goals
    intro z
    -- if place < size and abs(told) >= 10 ** 18
    refine ⟨_, rfl, _, rfl, _, _, rfl, rfl, _, rfl, ?_⟩
    refine ite2 (fun h4 => ?_) (fun h4 => ?_)
    · refine ⟨_, rfl, _, rfl, _, _, rfl, rfl, ⟨by decide, by decide, by decide⟩, _, _, rfl, rfl, _, rfl, ?_⟩
      refine ite2 (fun h5 => ?_) (fun h5 => ?_)
      · have h6 := of_decide_eq_true h5
        refine ⟨_, rfl, _, rfl, _, _, rfl, rfl, ⟨by decide, by decide, by decide⟩, _, _, rfl, rfl, _, rfl, _, _, rfl, rfl, ⟨by omega, by omega⟩, _, rfl, d, _, rfl, pl _ hd2, ?_⟩
        refine ⟨_, rfl, _, rfl, _, _, rfl, rfl, ⟨by decide, by decide, by decide⟩, _, _, rfl, rfl, .inl ⟨_, rfl, _, rfl, _, _, rfl, rfl, hm, ?_⟩⟩
        refine q _ _ (Int.emod_nonneg _ (by omega)) (Int.emod_lt_of_pos _ hm) (kp2.trans kp_put) ⟨ns, b + 1, _, upd_same, by rw [upd_ne ncd]; exact hc2, by omega, by omega, Int.fdiv_nonneg (by omega) (by omega)⟩
      · show tSeq _ _ _ _ _
        -- blend = ..
        have m1 := Int.emod_nonneg z (show (4294967279 : Int) ≠ 0 by decide)
        have m2 := Int.emod_lt_of_pos z (show (0 : Int) < 4294967279 by decide)
        refine ⟨_, rfl, .inl ⟨_, rfl, _, _, rfl, rfl, posI, _, _, rfl, rfl, .inl ⟨by omega, by omega⟩, _, rfl, _, _, rfl, rfl, .inl ⟨by decide, by decide⟩, _, rfl, _, _, rfl, rfl, .inl ⟨by omega, by omega⟩, _, _, rfl, rfl, _, _, rfl, rfl, .inl ⟨_, rfl, _, _, rfl, rfl, posI, ?_⟩⟩⟩
        generalize hB : (z % 4294967279 * 50923 + 31249 * b * b + 977) % 4294967291 = B
        have b1 : 0 ≤ B := by rw [← hB]; exact Int.emod_nonneg _ (by decide)
        have b2 : B < 4294967291 := by rw [← hB]; exact Int.emod_lt_of_pos _ (by decide)
        clear hB
        refine ⟨_, rfl, _, rfl, _, _, rfl, rfl, .inl ⟨by omega, by omega⟩, _, rfl, _, _, rfl, rfl, .inl ⟨by decide, by decide⟩, _, _, rfl, rfl, _, rfl, _, _, rfl, rfl, .inl ⟨by decide, by decide⟩, _, _, rfl, rfl, _, _, rfl, rfl, .inl ⟨_, rfl, _, _, rfl, rfl, posI, ?_⟩⟩
        generalize hC : (B * B + 70001 * B + 41 * b + 13) % 4294967231 = C
        have c1 : 0 ≤ C := by rw [← hC]; exact Int.emod_nonneg _ (by decide)
        have c2 : C < 4294967231 := by rw [← hC]; exact Int.emod_lt_of_pos _ (by decide)
        clear hC
        refine ⟨_, rfl, _, rfl, _, _, rfl, rfl, _, _, rfl, rfl, .inl ⟨by omega, by omega⟩, .inl ⟨_, rfl, _, _, rfl, rfl, posI, _, _, rfl, rfl, ⟨by decide, by decide⟩, .inl ⟨_, rfl, _, rfl, _, _, rfl, rfl, hm, ?_⟩⟩⟩
        exact q _ _ (Int.emod_nonneg _ (by omega)) (Int.emod_lt_of_pos _ hm) kp2 ⟨ns, b + 1, l, hd2, hc2, by omega, by omega, hl⟩
    · refine iteF ?_
      show tSeq _ _ _ _ _
      -- blend = ..
      have m1 := Int.emod_nonneg z (show (4294967279 : Int) ≠ 0 by decide)
      have m2 := Int.emod_lt_of_pos z (show (0 : Int) < 4294967279 by decide)
      refine ⟨_, rfl, .inl ⟨_, rfl, _, _, rfl, rfl, posI, _, _, rfl, rfl, .inl ⟨by omega, by omega⟩, _, rfl, _, _, rfl, rfl, .inl ⟨by decide, by decide⟩, _, rfl, _, _, rfl, rfl, .inl ⟨by omega, by omega⟩, _, _, rfl, rfl, _, _, rfl, rfl, .inl ⟨_, rfl, _, _, rfl, rfl, posI, ?_⟩⟩⟩
      generalize hB : (z % 4294967279 * 50923 + 31249 * b * b + 977) % 4294967291 = B
      have b1 : 0 ≤ B := by rw [← hB]; exact Int.emod_nonneg _ (by decide)
      have b2 : B < 4294967291 := by rw [← hB]; exact Int.emod_lt_of_pos _ (by decide)
      clear hB
      refine ⟨_, rfl, _, rfl, _, _, rfl, rfl, .inl ⟨by omega, by omega⟩, _, rfl, _, _, rfl, rfl, .inl ⟨by decide, by decide⟩, _, _, rfl, rfl, _, rfl, _, _, rfl, rfl, .inl ⟨by decide, by decide⟩, _, _, rfl, rfl, _, _, rfl, rfl, .inl ⟨_, rfl, _, _, rfl, rfl, posI, ?_⟩⟩
      generalize hC : (B * B + 70001 * B + 41 * b + 13) % 4294967231 = C
      have c1 : 0 ≤ C := by rw [← hC]; exact Int.emod_nonneg _ (by decide)
      have c2 : C < 4294967231 := by rw [← hC]; exact Int.emod_lt_of_pos _ (by decide)
      clear hC
      refine ⟨_, rfl, _, rfl, _, _, rfl, rfl, _, _, rfl, rfl, .inl ⟨by omega, by omega⟩, .inl ⟨_, rfl, _, _, rfl, rfl, posI, _, _, rfl, rfl, ⟨by decide, by decide⟩, .inl ⟨_, rfl, _, rfl, _, _, rfl, rfl, hm, ?_⟩⟩⟩
      exact q _ _ (Int.emod_nonneg _ (by omega)) (Int.emod_lt_of_pos _ hm) kp2 ⟨ns, b + 1, l, hd2, hc2, by omega, by omega, hl⟩
end
end Toy
set_option Elab.async false
set_option linter.all false
set_option maxRecDepth 100000
set_option maxHeartbeats 4000000
namespace Toy
open PySem L2 Sh
/-! ### kinds -/
abbrev Kd := Bool × Bool × Int
def kdD (k : Kd) : PyData := .tuple [.bool k.1, .bool k.2.1, .int k.2.2]
def IsK (H : Hp) (v : V) (k : Kd) : Prop := ∃ t, v = .ref t ∧ H t = some (.tup [.bl k.1, .bl k.2.1, .int k.2.2])
abbrev AllK (H : Hp) : List V → List Kd → Prop := Paired (IsK H)
theorem IsK.dp {K : PySem.W.Frag} {H : Hp} {v : V} {k : Kd} (h : IsK H v k) : Dp K H v (kdD k) := by
  obtain ⟨t, rfl, e⟩ := h
  exact .tup (SqT.of e) (.cons (.bl _) (.cons (.bl _) (.cons (.int _) .nil)))
theorem AllK.dp {K : PySem.W.Frag} {H : Hp} : ∀ {vs : List V} {ks : List Kd}, AllK H vs ks → DpAll K H vs (ks.map kdD)
  | _, _, .nil => .nil
  | _, _, .cons r t => .cons r.dp (AllK.dp t)
theorem IsK.same {H H' : Hp} {v : V} {k : Kd} (s : Same H H') (h : IsK H v k) : IsK H' v k := by
  obtain ⟨t, rfl, e⟩ := h
  exact ⟨t, rfl, s _ _ e⟩
theorem IsK.kp {H H' : Hp} {d : Addr} {v : V} {k : Kd} (s : Kp d H H') (hd : ∃ kvs, H d = some (.dK kvs)) (h : IsK H v k) : IsK H' v k := by
  obtain ⟨t, rfl, e⟩ := h
  obtain ⟨kvs, hd⟩ := hd
  exact ⟨t, rfl, s _ _ e (ne_of e hd (by intro z; cases z))⟩
theorem AllK.mono {H H' : Hp} (f : ∀ v k, IsK H v k → IsK H' v k) : ∀ {vs : List V} {ks : List Kd}, AllK H vs ks → AllK H' vs ks
  | _, _, .nil => .nil
  | _, _, .cons r t => .cons (f _ _ r) (AllK.mono f t)
theorem AllK.same {H H' : Hp} {vs : List V} {ks : List Kd} (s : Same H H') (h : AllK H vs ks) : AllK H' vs ks := AllK.mono (fun _ _ => IsK.same s) h
theorem AllK.len {H : Hp} : ∀ {vs : List V} {ks : List Kd}, AllK H vs ks → vs.length = ks.length
  | _, _, .nil => rfl
  | _, _, .cons _ t => congrArg (· + 1) (AllK.len t)
theorem AllK.get {H : Hp} : ∀ {vs : List V} {ks : List Kd} {i : Nat} {v : V}, AllK H vs ks → vs[i]? = some v → ∃ k, ks[i]? = some k ∧ IsK H v k
  | _, _, _, _, .nil, e => by simp at e
  | _, _, 0, _, .cons r _, e => by simp at e; subst e; exact ⟨_, rfl, r⟩
  | _, _, i + 1, v, .cons _ t, e => by
    obtain ⟨k, h1, h2⟩ := AllK.get (i := i) (v := v) t (by simpa using e)
    exact ⟨k, by simpa using h1, h2⟩
theorem AllK.append {H : Hp} : ∀ {vs ws : List V} {ks js : List Kd}, AllK H vs ks → AllK H ws js → AllK H (vs ++ ws) (ks ++ js)
  | _, _, _, _, .nil, s => s
  | _, _, _, _, .cons r t, s => .cons r (AllK.append t s)
theorem AllK.take {H : Hp} : ∀ {vs : List V} {ks : List Kd} (n : Nat), AllK H vs ks → AllK H (vs.take n) (ks.take n)
  | _, _, 0, _ => .nil
  | _, _, _ + 1, .nil => .nil
  | _, _, n + 1, .cons r t => .cons r (AllK.take n t)
theorem AllK.drop {H : Hp} : ∀ {vs : List V} {ks : List Kd} (n : Nat), AllK H vs ks → AllK H (vs.drop n) (ks.drop n)
  | _, _, 0, r => r
  | _, _, _ + 1, .nil => .nil
  | _, _, n + 1, .cons _ t => AllK.drop n t
theorem kd_eqv (a b : Kd) : PyData.eqv (kdD a) (kdD b) = decide (a = b) := by
  obtain ⟨a1, a2, a3⟩ := a
  obtain ⟨b1, b2, b3⟩ := b
  simp only [kdD, PyData.eqv, PyData.eqvAll]
  cases a1 <;> cases a2 <;> cases b1 <;> cases b2 <;> simp [Bool.beq_eq_decide_eq]
theorem kd_any (k : Kd) : ∀ ks : List Kd, ((ks.map kdD).any fun z => PyData.eqv z (kdD k)) = decide (k ∈ ks)
  | [] => by simp
  | a :: ks => by
    rw [List.map_cons, List.any_cons, kd_any k ks, kd_eqv]
    by_cases h : a = k
    · subst h; simp
    · have h' : ¬ k = a := fun e => h e.symm
      simp [h, h']
theorem kd_depth (k : Kd) : (kdD k).depth = 1 := by simp [kdD, PyData.depth, PyData.depthAll]
theorem kd_lay (k : Kd) : (kdD k).canLay0 = true := by simp [kdD, PyData.canLay0, PyData.canLayAll0]
theorem kds_lay : ∀ ks : List Kd, PyData.canLayAll0 (ks.map kdD) = true
  | [] => by simp [PyData.canLayAll0]
  | z :: zs => by simp [PyData.canLayAll0, kd_lay z, kds_lay zs]
theorem kds_depth : ∀ ks : List Kd, PyData.depthAll (ks.map kdD) ≤ 1
  | [] => by simp [PyData.depthAll]
  | z :: zs => by
    have h1 := kds_depth zs
    have h2 := kd_depth z
    simp only [List.map_cons, PyData.depthAll]
    omega
theorem kd_shaped (k : Kd) : SeqAt.shaped (kdD k) = true := by
  have h := kd_depth k
  show ((kdD k).canLay0 && decide ((kdD k).depth ≤ 64)) = true
  rw [Bool.and_eq_true]
  exact ⟨kd_lay k, decide_eq_true (by omega)⟩
theorem kds_shapedL (ks : List Kd) : SeqAt.shaped (.list (ks.map kdD)) = true := by
  have h1 := kds_depth ks
  have h2 : PyData.depth (.list (ks.map kdD)) ≤ 64 := by
    simp only [PyData.depth]
    omega
  show (PyData.canLay0 (.list (ks.map kdD)) && decide (PyData.depth (.list (ks.map kdD)) ≤ 64)) = true
  rw [Bool.and_eq_true]
  exact ⟨by simp only [PyData.canLay0]; exact kds_lay ks, decide_eq_true h2⟩
theorem kds_shapedT (ks : List Kd) : SeqAt.shaped (.tuple (ks.map kdD)) = true := by
  have h1 := kds_depth ks
  have h2 : PyData.depth (.tuple (ks.map kdD)) ≤ 64 := by
    simp only [PyData.depth]
    omega
  show (PyData.canLay0 (.tuple (ks.map kdD)) && decide (PyData.depth (.tuple (ks.map kdD)) ≤ 64)) = true
  rw [Bool.and_eq_true]
  exact ⟨by simp only [PyData.canLay0]; exact kds_lay ks, decide_eq_true h2⟩
theorem kd_alike (a b : Kd) : PySem.W.alike (kdD a) (kdD b) = true := by simp [kdD, PySem.W.alike, PySem.W.alikeAll]
theorem kit_t {K : PySem.W.Frag} : PySem.W.kitAny K (.type "tuple") [.type "list", .type "tuple"] = some true :=
  kitAny_cons (b := false) (kit_ty (by decide +kernel)) (fun _ => kitAny_cons (b := true) (kit_ty (by decide +kernel)) (fun z => nomatch z) fun _ => rfl) fun z => nomatch z
/-- of a list of kinds, all of them right and none twice -/
def GoodK (ks : List Kd) : Prop := ks.Nodup ∧ (∀ k ∈ ks, 0 ≤ k.2.2 ∧ k.2.2 ≤ 2) ∧ ks.length ≤ 12
def spIsKind : Sp := fun vs H Q _ => ∃ (v : V) (k : Kd), vs = [v] ∧ IsK H v k ∧ 0 ≤ k.2.2 ∧ k.2.2 ≤ 2 ∧ ∀ H', Same H H' → Q (.bl true) H'
section
variable {P : Program} {w : World} {K : PySem.W.Frag} {mg : Str → Option Value} {base : Heap}
theorem ok_is_kind (T : Tx K mg) : FnOk P w K mg base CX0 1 T.a_is_kind T.fd_is_kind ["kind"] spIsKind := by
  refine T.F_is_kind.ok sc_is_kind (fun vs H Q E h => ?_) (fun cdv A outer s H vs Q E hr h => ?_)
  · obtain ⟨v, k, rfl, _⟩ := h
    rfl
  have hu := hu_of hr
  obtain ⟨v, ⟨k1, k2, k3⟩, rfl, ⟨t, rfl, ht⟩, h0, h2, q⟩ := h
  refine ⟨_, (pss_cons (ps_if (PW.pt (pw_or (pt_not (pt_val (pe_callB call_isiT (by rfl) T.b_isinstance (by decide +kernel) (pa_cons (pv 0) (pa_cons (pe_tup (pa_cons (pe_bltn (v := .ty "list") (by rfl) T.b_list (by decide +kernel) rfl) (pa_cons (pe_bltn (v := .ty "tuple") (by rfl) T.b_tuple (by decide +kernel) rfl) pa_nil))) pa_nil))))) (pw_or1 (pt_cmpR op_ne (pe_callB call_len_seq (by rfl) T.b_len (by decide +kernel) (pa_cons (pv 0) pa_nil)) pe_int (nomark _)))))
 (pss_one (ps_ret pe_bl))
 pss_nil)
 (pss_cons (ps_asg (pv 0) (pg_tup rfl (pgs_cons (pg_name (i := 1) sc_is_kind.nd rfl (by first | exact Or.inl rfl | exact Or.inr rfl)) (pgs_cons (pg_name (i := 2) sc_is_kind.nd rfl (by first | exact Or.inl rfl | exact Or.inr rfl)) (pgs_cons (pg_name (i := 3) sc_is_kind.nd rfl (by first | exact Or.inl rfl | exact Or.inr rfl)) pgs_nil)))))
 (pss_cons (ps_if (PW.pt (pw_or (pt_not (pt_val (pe_callB call_isi (by rfl) T.b_isinstance (by decide +kernel) (pa_cons (pv 1) (pa_cons (pe_bltn (v := .ty "bool") (by rfl) T.b_bool (by decide +kernel) rfl) pa_nil))))) (pw_or1 (pt_not (pt_val (pe_callB call_isi (by rfl) T.b_isinstance (by decide +kernel) (pa_cons (pv 2) (pa_cons (pe_bltn (v := .ty "bool") (by rfl) T.b_bool (by decide +kernel) rfl) pa_nil))))))))
 (pss_one (ps_ret pe_bl))
 pss_nil)
 (pss_one (ps_ret (pe_and (pe_callB call_isi (by rfl) T.b_isinstance (by decide +kernel) (pa_cons (pv 3) (pa_cons (pe_bltn (v := .ty "int") (by rfl) T.b_int (by decide +kernel) rfl) pa_nil))) (pe_and (pe_not (pe_callB call_isi (by rfl) T.b_isinstance (by decide +kernel) (pa_cons (pv 3) (pa_cons (pe_bltn (v := .ty "bool") (by rfl) T.b_bool (by decide +kernel) rfl) pa_nil)))) (pe_one (pe_chain op_le op_le pe_int (pv 3) pe_int))))))))), ?_⟩
  refine ⟨_, rfl, by show 2 ≤ sizeLine; decide, fun p hp => ?_⟩
  have ntp : t ≠ p := ne_of_none ht hp
  have ht1 : ∀ o, (upd H p o) t = some (.tup [.bl k1, .bl k2, .int k3]) := fun o => by rw [upd_ne ntp]; exact ht
  have s1 : ∀ o, Same H (upd H p o) := fun o => same_upd hp
  refine ⟨_, p, _, .type "tuple", [.type "list", .type "tuple"], true, rfl, upd_same, .cons (.ty _) (.cons (.ty _) .nil), .base (.tup (ht1 _)), kit_t, _, rfl, ?_⟩
  refine iteF ?_
  refine ⟨_, rfl, t, _, rfl, .inr (SqT.of (ht1 _)), rfl, _, rfl, ?_⟩
  refine iteNS rfl ?_
  refine ⟨_, rfl, t, _, rfl, SqT.of (ht1 _), rfl, _, _, rfl, _, _, rfl, _, _, rfl, rfl, ?_⟩
  refine ⟨_, rfl, _, _, _, _, true, rfl, .ty _, .base (.bl _), kit_ty (by decide +kernel), _, rfl, ?_⟩
  refine iteF ?_
  refine ⟨_, rfl, _, _, _, _, true, rfl, .ty _, .base (.bl _), kit_ty (by decide +kernel), _, rfl, ?_⟩
  refine iteF ?_
  refine ⟨_, rfl, _, _, _, _, true, rfl, .ty _, .base (.int _), kit_ty (by decide +kernel), _, rfl, ?_⟩
  refine iteT ?_
  refine ⟨_, rfl, _, _, _, _, false, rfl, .ty _, .base (.int _), kit_ty (by decide +kernel), _, rfl, _, rfl, ?_⟩
  refine iteT ?_
  refine ⟨_, rfl, _, _, rfl, rfl, _, rfl, ?_⟩
  rw [decide_eq_true h0]
  refine iteT ?_
  refine ⟨_, _, rfl, rfl, ?_⟩
  show Q (.bl (decide (k3 ≤ 2))) _
  rw [decide_eq_true h2]
  exact q _ (s1 _)
end
end Toy
set_option Elab.async false
set_option linter.all false
set_option maxRecDepth 100000
set_option maxHeartbeats 4000000
namespace Toy
open PySem L2 Sh
theorem kdD_inj {a b : Kd} (h : kdD a = kdD b) : a = b := by
  obtain ⟨a1, a2, a3⟩ := a
  obtain ⟨b1, b2, b3⟩ := b
  simp only [kdD, PyData.tuple.injEq, List.cons.injEq, PyData.bool.injEq, PyData.int.injEq] at h
  obtain ⟨h1, h2, h3, _⟩ := h
  rw [h1, h2, h3]
theorem pairs_k {H : Hp} : ∀ (L : List (V × PyData)), (∀ p ∈ L, ∃ k, p.2 = kdD k ∧ IsK H p.1 k) → ∃ js, AllK H (L.map Prod.fst) js ∧ L.map Prod.snd = js.map kdD
  | [], _ => ⟨[], .nil, rfl⟩
  | p :: L, h => by
    obtain ⟨js, h1, h2⟩ := pairs_k L fun p hp => h p (List.mem_cons_of_mem _ hp)
    obtain ⟨k, e, hk⟩ := h p List.mem_cons_self
    exact ⟨k :: js, .cons hk h1, by rw [List.map_cons, List.map_cons, h2, e]⟩
theorem zip_k {H : Hp} : ∀ {xs : List V} {ks : List Kd}, AllK H xs ks → ∀ p ∈ xs.zip (ks.map kdD), ∃ k, p.2 = kdD k ∧ IsK H p.1 k
  | _, _, .nil, p, hp => by simp at hp
  | _, _, .cons r t, p, hp => by
    rw [List.map_cons, List.zip_cons_cons, List.mem_cons] at hp
    rcases hp with rfl | hp
    · exact ⟨_, rfl, r⟩
    · exact zip_k t p hp
/-- the same kinds, as many -/
def Eqv (js ks : List Kd) : Prop := (∀ k, k ∈ js ↔ k ∈ ks) ∧ js.length = ks.length
theorem sort_k {H : Hp} {xs : List V} {ks : List Kd} (h : AllK H xs ks) : ∃ js, AllK H ((sortPairs xs (ks.map kdD)).map Prod.fst) js ∧ Eqv js ks := by
  have hp : (sortPairs xs (ks.map kdD)).Perm (xs.zip (ks.map kdD)) := List.mergeSort_perm _ _
  obtain ⟨js, h1, h2⟩ := pairs_k (H := H) (sortPairs xs (ks.map kdD)) fun p hp' => zip_k h p (hp.mem_iff.mp hp')
  have h3 : (js.map kdD).Perm (ks.map kdD) := by
    rw [← h2]
    have := hp.map Prod.snd
    rw [zip_snd (by rw [List.length_map]; exact AllK.len h)] at this
    exact this
  refine ⟨js, h1, fun k => ?_, by rw [← List.length_map (f := kdD), h3.length_eq, List.length_map]⟩
  have h4 : ∀ l : List Kd, k ∈ l ↔ kdD k ∈ l.map kdD := fun l => by
    rw [List.mem_map]
    constructor
    · intro h
      exact ⟨k, h, rfl⟩
    · rintro ⟨j, hj, e⟩
      rw [← kdD_inj e]
      exact hj
  rw [h4 js, h4 ks]
  exact h3.mem_iff
theorem alike_k (ks : List Kd) : PySem.W.AllAlike (ks.map kdD) := PySem.W.AllAlike.of kd_alike
theorem sortable_k (ks : List Kd) : PySem.W.Sortable (ks.map kdD) := PySem.W.Sortable.tuples fun b => ⟨_, _, rfl⟩
theorem depth_k (ks : List Kd) : ∀ d ∈ ks.map kdD, d.depth ≤ 60 := fun d hd => by
  obtain ⟨k, _, rfl⟩ := List.mem_map.mp hd
  rw [kd_depth]
  decide
def spKinds (K : PySem.W.Frag) : Sp := fun vs H Q _ => ∃ (z : Str) (a : Addr) (xs : List V) (ks : List Kd), vs = [.str z, .ref a] ∧ SqL K H a xs ∧ AllK H xs ks ∧ GoodK ks ∧
  ∀ (H' : Hp) (p : Addr) (ys : List V) (js : List Kd), Same H H' → H p = none → H' p = some (.tup ys) → AllK H' ys js → Eqv js ks → Q (.ref p) H'
theorem take_next {α : Type} {xs : List α} {i : Nat} {x : α} (h : xs[i]? = some x) : xs.take i ++ [x] = xs.take (i + 1) := by
  rw [List.take_add_one, h]
  rfl
section
variable {P : Program} {w : World} {K : PySem.W.Frag} {mg : Str → Option Value} {base : Heap}
theorem ok_kinds_of (T : Tx K mg) : FnOk P w K mg base CX0 2 T.a_kinds_of T.fd_kinds_of ["side", "kinds"] (spKinds K) := by
  refine T.F_kinds_of.ok sc_kinds_of (fun vs H Q E h => ?_) (fun cdv A outer s H vs Q E hr h => ?_)
  · obtain ⟨z, a, xs, ks, rfl, _⟩ := h
    rfl
  have hu := hu_of hr
  have hu65 := hu65_of hr
  obtain ⟨z, a, xs, ks, rfl, hS, hK, ⟨hnd, hgood, h12⟩, q⟩ := h
  refine ⟨_, (pss_cons (ps_set (i := 2) sc_kinds_of.nd rfl (by first | exact Or.inl rfl | exact Or.inr rfl) (pe_lst pa_nil))
 (pss_cons (ps_for PassesOwn.never rfl (pi_enum (by rfl) T.b_enumerate (pa_cons (pv 1) pa_nil)) (pg_tup rfl (pgs_cons (pg_name (i := 3) sc_kinds_of.nd rfl (by first | exact Or.inl rfl | exact Or.inr rfl)) (pgs_cons (pg_name (i := 4) sc_kinds_of.nd rfl (by first | exact Or.inl rfl | exact Or.inr rfl)) pgs_nil)))
 (pss_cons (ps_if (PW.pt (pw_or (pt_not (pt_val (pe_call (ok_is_kind T) (hr.mono (by decide)) (by rfl) T.m_is_kind T.F_is_kind.kp T.bi_is_kind .nil pass0 (pa_cons (pv 4) pa_nil)))) (pw_or1 (pt_cmpR (op_inD hu65) (pe_callTy call_tuple_of (by rfl) T.b_tuple (by decide +kernel) (pa_cons (pv 4) pa_nil)) (pv 2) (by rfl)))))
 (pss_one ps_never)
 pss_nil)
 (pss_one (ps_expr (pe_bm PySem.F.plainAttrs_list PySem.F.slot_list_append PySem.F.type_list_append mt_append (pv 2) (pa_cons (pe_callTy call_tuple_of (by rfl) T.b_tuple (by decide +kernel) (pa_cons (pv 4) pa_nil)) pa_nil))))))
 (pss_one (ps_ret (pe_callTy call_tuple_of (by rfl) T.b_tuple (by decide +kernel) (pa_cons (pe_callB (cr_sortedDD hu65) (by rfl) T.b_sorted (by decide +kernel) (pa_cons (pv 2) pa_nil)) pa_nil)))))), ?_⟩
  refine ⟨Nat.zero_le _, fun o no => ?_⟩
  have s1 : Same H (upd H o (.lst [])) := same_upd no
  refine ⟨_, rfl, a, xs, rfl, s1.seq hS, for_enum (K := K) (a := a) (xs := xs) (fun i σ H2 => ∃ v3 v4, σ = [some (.str z), some (.ref a), some (.ref o), v3, v4] ∧ Same H H2 ∧ H2 o = some (.lst (xs.take i)))
    ⟨none, none, rfl, s1, upd_same⟩ (fun i σ H2 _ ⟨_, _, _, s2, _⟩ => s2.seq hS) ?_ ?_⟩
  · rintro i x σ H2 t hi nt ⟨v3, v4, rfl, s2, ho⟩
    have s3 : Same H2 (upd H2 t (.tup [.int (i : Nat), x])) := same_upd nt
    refine ⟨t, _, rfl, SqT.of upd_same, rfl, _, _, rfl, _, _, rfl, rfl, ?_⟩
    obtain ⟨k, hk, hik⟩ := AllK.get hK hi
    have hkm : k ∈ ks := List.mem_of_getElem? hk
    have hil : i < xs.length := (List.getElem?_eq_some_iff.mp hi).1
    -- is_kind(kind)
    refine ⟨_, rfl, x, k, rfl, (hik.same s2).same s3, (hgood k hkm).1, (hgood k hkm).2, fun H4 s4 => ⟨_, rfl, ?_⟩⟩
    refine iteF ?_
    have sA : Same H H4 := (s2.trans s3).trans s4
    have ho4 : H4 o = some (.lst (xs.take i)) := s4 _ _ (s3 _ _ ho)
    have hx := hik.same sA
    have hxd : Dp K H4 x (kdD k) := hx.dp
    obtain ⟨b, rfl, hb⟩ := hx
    -- tuple(kind) in found
    refine ⟨_, rfl, b, _, rfl, .inr ⟨SqT.of hb, _, rfl, kdD k, (ks.take i).map kdD, hxd, .lst (SqL.of ho4) (AllK.dp (AllK.take i (AllK.same sA hK))), kd_shaped k, kds_shapedL _, _, rfl, ?_⟩⟩
    rw [kd_any]
    have hni : ¬ k ∈ ks.take i := fun hm => by
      obtain ⟨j, hj⟩ := List.mem_iff_getElem?.mp hm
      have hji : j < i := by
        have := (List.getElem?_eq_some_iff.mp hj).1
        rw [List.length_take] at this
        omega
      rw [List.getElem?_take_of_lt hji] at hj
      have := nd_ix hnd hj hk
      omega
    rw [decide_eq_false hni]
    refine iteF ?_
    -- found.append(tuple(kind))
    refine ⟨_, rfl, .inl ⟨rfl, _, SqL.of ho4⟩, _, rfl, b, _, rfl, .inr ⟨SqT.of hb, o, _, _, rfl, rfl, ho4, ?_, ?_⟩⟩
    · rw [List.length_take]
      have := AllK.len hK
      exact Nat.lt_of_le_of_lt (Nat.min_le_left _ _) (small1000 (by omega))
    · refine ⟨_, _, rfl, fun c u e => ?_, ?_⟩
      · rw [upd_ne (ne_of_none e no)]
        exact sA _ _ e
      · rw [upd_same, take_next hi]
  · rintro σ H2 ⟨v3, v4, rfl, s2, ho⟩
    rw [List.take_length] at ho
    have hK2 := AllK.same s2 hK
    refine ⟨_, rfl, o, xs, ks.map kdD, rfl, SqL.of ho, AllK.dp hK2, alike_k ks, sortable_k ks, depth_k ks, fun p hp => ⟨p, _, rfl, .inl ⟨SqL.of upd_same, fun l hl => ?_⟩⟩⟩
    obtain ⟨js, hj, hm⟩ := sort_k hK2
    have s3 : Same H2 (upd H2 p (.lst ((sortPairs xs (ks.map kdD)).map Prod.fst))) := same_upd hp
    have s4 := same_upd (o := .tup ((sortPairs xs (ks.map kdD)).map Prod.fst)) hl
    exact q _ l _ js ((s2.trans s3).trans s4) (s2.free (s3.free hl)) upd_same (AllK.same s4 (AllK.same s3 hj)) hm
/-! ### Rule -/
theorem ro : ¬ (("root" : Str) = "others") := by decide +kernel
def flds (p1 p2 : Addr) : List (Str × V) := putF "others" (.ref p2) (putF "root" (.ref p1) [])
theorem flds_root (p1 p2 : Addr) : (flds p1 p2).lookup ("root" : Str) = some (.ref p1) := by
  unfold flds
  rw [lookup_putF, if_neg ro, lookup_putF, if_pos rfl]
theorem flds_others (p1 p2 : Addr) : (flds p1 p2).lookup ("others" : Str) = some (.ref p2) := by
  unfold flds
  rw [lookup_putF, if_pos rfl]
def RuleAt (C : Addr) (H : Hp) (p : Addr) (js1 js2 : List Kd) : Prop := ∃ (dx p1 p2 : Addr) (ys1 ys2 : List V), H p = some (.ins C dx (flds p1 p2)) ∧ H p1 = some (.tup ys1) ∧ H p2 = some (.tup ys2) ∧ AllK H ys1 js1 ∧ AllK H ys2 js2
theorem RuleAt.same {C : Addr} {H H' : Hp} {p : Addr} {js1 js2 : List Kd} (s : Same H H') (h : RuleAt C H p js1 js2) : RuleAt C H' p js1 js2 := by
  obtain ⟨dx, p1, p2, ys1, ys2, h1, h2, h3, h4, h5⟩ := h
  exact ⟨dx, p1, p2, ys1, ys2, s _ _ h1, s _ _ h2, s _ _ h3, AllK.same s h4, AllK.same s h5⟩
def spInit (K : PySem.W.Frag) (C : Addr) : Sp := fun vs H Q _ => ∃ (p dx a b : Addr) (xs zs : List V) (ks ls : List Kd), vs = [.ref p, .ref a, .ref b] ∧ H p = some (.ins C dx []) ∧ SqL K H a xs ∧ SqL K H b zs ∧ AllK H xs ks ∧ AllK H zs ls ∧ GoodK ks ∧ GoodK ls ∧
  ∀ (H' : Hp) (js1 js2 : List Kd), Kp p H H' → RuleAt C H' p js1 js2 → Eqv js1 ks → Eqv js2 ls → Q .non H'
theorem ok_Rule_init (T : Tx K mg) : FnOk P w K mg base CX0 3 T.a_Rule_init T.fd_Rule_init ["self", "root", "others"] (spInit K T.c_Rule) := by
  refine T.F_Rule_init.ok sc_Rule_init (fun vs H Q E h => ?_) (fun cdv A outer s H vs Q E hr h => ?_)
  · obtain ⟨p, dx, a, b, xs, zs, ks, ls, rfl, _⟩ := h
    rfl
  have hu := hu_of hr
  obtain ⟨p, dx, a, b, xs, zs, ks, ls, rfl, hp, hx, hz, kx, kz, g1, g2, q⟩ := h
  refine ⟨_, (pss_cons (ps_fld (pv 0) (pe_call (ok_kinds_of T) (hr.mono (by decide)) (by rfl) T.m_kinds_of T.F_kinds_of.kp T.bi_kinds_of .nil pass0 (pa_cons pe_str (pa_cons (pv 1) pa_nil))) rfl)
 (pss_one (ps_fld (pv 0) (pe_call (ok_kinds_of T) (hr.mono (by decide)) (by rfl) T.m_kinds_of T.F_kinds_of.kp T.bi_kinds_of .nil pass0 (pa_cons pe_str (pa_cons (pv 2) pa_nil))) rfl))), ?_⟩
  refine ⟨_, rfl, _, a, xs, ks, rfl, hx, kx, g1, fun H1 p1 ys1 js1 s1 n1 h1 k1 m1 => ?_⟩
  refine ⟨_, rfl, p, T.c_Rule, dx, [], rfl, s1 _ _ hp, T.cl_Rule, T.na_Rule_root, (by show 0 < 1000; decide), ?_⟩
  have kp1 : Kp p H1 (upd H1 p (.ins T.c_Rule dx (putF "root" (.ref p1) []))) := kp_put
  have hp2 : (upd H1 p (.ins T.c_Rule dx (putF "root" (.ref p1) []))) p = some (.ins T.c_Rule dx (putF "root" (.ref p1) [])) := upd_same
  have tk : ∀ {H2 H3 : Hp}, Kp p H2 H3 → (∃ c e f, H2 p = some (.ins c e f)) → ∀ v k, IsK H2 v k → IsK H3 v k := fun kp ⟨_, _, _, e⟩ v k ⟨t, e1, e2⟩ => ⟨t, e1, kp _ _ e2 (ne_of e2 e (by intro z; cases z))⟩
  have lk : ∀ {H2 H3 : Hp} {b zs}, Kp p H2 H3 → (∃ c e f, H2 p = some (.ins c e f)) → SqL K H2 b zs → SqL K H3 b zs := fun kp ⟨_, _, _, e⟩ h => by
    rcases h with (h | ⟨o, h⟩) | h
    · exact .inl (.inl (kp _ _ h (ne_of h e (by intro z; cases z))))
    · exact .inl (.inr ⟨o, kp _ _ h (ne_of h e (by intro z; cases z))⟩)
    · exact .inr h
  have e1 : ∃ c e f, H1 p = some (.ins c e f) := ⟨_, _, _, s1 _ _ hp⟩
  have ne1 : p1 ≠ p := ne_of h1 (s1 _ _ hp) (by intro z; cases z)
  generalize upd H1 p (.ins T.c_Rule dx (putF "root" (.ref p1) [])) = H2 at kp1 hp2 ⊢
  refine ⟨_, rfl, _, b, zs, ls, rfl, lk kp1 e1 (s1.seq hz), AllK.mono (tk kp1 e1) (AllK.same s1 kz), g2, fun H3 p2 ys2 js2 s3 n3 h3 k3 m3 => ?_⟩
  refine ⟨_, rfl, p, T.c_Rule, dx, _, rfl, s3 _ _ hp2, T.cl_Rule, T.na_Rule_others, (by show 1 < 1000; decide), ?_⟩
  have kp3 : Kp p H3 (upd H3 p (.ins T.c_Rule dx (flds p1 p2))) := kp_put
  have e3 : ∃ c e f, H3 p = some (.ins c e f) := ⟨_, _, _, s3 _ _ hp2⟩
  have ne2 : p2 ≠ p := ne_of h3 (s3 _ _ hp2) (by intro z; cases z)
  refine q _ js1 js2 (((Same.kp s1).trans kp1).trans ((Same.kp s3).trans kp3)) ⟨dx, p1, p2, ys1, ys2, upd_same, ?_, ?_, ?_, ?_⟩ m1 m3
  · exact kp3 _ _ (s3 _ _ (kp1 _ _ h1 ne1)) ne1
  · exact kp3 _ _ h3 ne2
  · exact AllK.mono (tk kp3 e3) (AllK.same s3 (AllK.mono (tk kp1 e1) k1))
  · exact AllK.mono (tk kp3 e3) k3
def spRuleMade (K : PySem.W.Frag) (C : Addr) : Sp := fun vs H Q _ => ∃ (t a b : Addr) (xs zs : List V) (ks ls : List Kd), vs = [.ref t] ∧ H t = some (.tup [.ref a, .ref b]) ∧ H a = some (.lst xs) ∧ H b = some (.lst zs) ∧ AllK H xs ks ∧ AllK H zs ls ∧ GoodK ks ∧ GoodK ls ∧
  ∀ (H' : Hp) (p : Addr) (js1 js2 : List Kd), Same H H' → RuleAt C H' p js1 js2 → Eqv js1 ks → Eqv js2 ls → Q (.ref p) H'
theorem ok_l_rule_made (T : Tx K mg) : FnOk P w K mg base CX0 5 T.a_l_rule_made T.fd_l_rule_made ["_law_rule"] (spRuleMade K T.c_Rule) := by
  refine T.F_l_rule_made.ok sc_l_rule_made (fun vs H Q E h => ?_) (fun cdv A outer s H vs Q E hr h => ?_)
  · obtain ⟨t, a, b, xs, zs, ks, ls, rfl, _⟩ := h
    rfl
  have hu := hu_of hr
  obtain ⟨t, a, b, xs, zs, ks, ls, rfl, ht, ha, hb, kx, kz, g1, g2, q⟩ := h
  refine ⟨_, (pss_one (ps_ret (pe_make T.mk_Rule (ok_Rule_init T) (hr.mono (by decide)) (by rfl) T.m_Rule T.bi_Rule_init .nil pass0 (pa_cons (pe_callTy call_list_of (by rfl) T.b_list (by decide +kernel) (pa_cons (pe_ix ix_tup (pv 0) pe_int (fun _ _ => rfl)) pa_nil)) (pa_cons (pe_callTy call_list_of (by rfl) T.b_list (by decide +kernel) (pa_cons (pe_ix ix_tup (pv 0) pe_int (fun _ _ => rfl)) pa_nil)) pa_nil))))), ?_⟩
  refine ⟨_, rfl, t, _, _, _, rfl, rfl, SqT.of ht, rfl, a, xs, rfl, .inl (SqL.of ha), fun l hl => ?_⟩
  have s1 : Same H (upd H l (.lst xs)) := same_upd hl
  have hl1 : (upd H l (.lst xs)) l = some (.lst xs) := upd_same
  generalize upd H l (.lst xs) = H1 at s1 hl1 ⊢
  refine ⟨_, rfl, t, _, _, _, rfl, rfl, SqT.of (s1 _ _ ht), rfl, b, zs, rfl, .inl (SqL.of (s1 _ _ hb)), fun m hm => ?_⟩
  have s2 : Same H1 (upd H1 m (.lst zs)) := same_upd hm
  have hm1 : (upd H1 m (.lst zs)) m = some (.lst zs) := upd_same
  generalize upd H1 m (.lst zs) = H2 at s2 hm1 ⊢
  intro x dx nx ndx nex
  have s3 : Same H2 (upd (upd H2 dx (.own x)) x (.ins T.c_Rule dx [])) := fun b o e => by
    rw [upd_ne (ne_of_none e nx), upd_ne (ne_of_none e ndx)]
    exact e
  have hx : (upd (upd H2 dx (.own x)) x (.ins T.c_Rule dx [])) x = some (.ins T.c_Rule dx []) := upd_same
  generalize upd (upd H2 dx (.own x)) x (.ins T.c_Rule dx []) = H3 at s3 hx ⊢
  have sA : Same H H3 := (s1.trans s2).trans s3
  refine ⟨x, dx, l, m, xs, zs, ks, ls, rfl, hx, SqL.of (s3 _ _ (s2 _ _ hl1)), SqL.of (s3 _ _ hm1), AllK.same sA kx, AllK.same sA kz, g1, g2, fun H4 js1 js2 kp R m1 m2 => ⟨rfl, ?_⟩⟩
  exact q _ x js1 js2 (fun b o e => kp b o (sA b o e) (ne_of_none ((s1.trans s2) _ _ e) nx)) R m1 m2
end
end Toy
set_option Elab.async false
set_option linter.all false
set_option maxRecDepth 100000
set_option maxHeartbeats 4000000
namespace Toy
open PySem L2 Sh
def min2 (z : Int) : Int := if z < 2 then z else 2
def letB (A B : List Kd) : Option Kd → Int → Bool → Bool
  | none, th, rt => !rt && decide (th = 0)
  | some (v, f, r), th, rt => decide ((v, f, min2 (r + th)) ∈ (if rt = true then A else B)) && (decide (r = 0) || B.any fun k => decide (k.2.2 = 0))
theorem any_congr {A B : List Kd} (h : ∀ k, k ∈ A ↔ k ∈ B) (f : Kd → Bool) : A.any f = B.any f := by
  rw [Bool.eq_iff_iff, List.any_eq_true, List.any_eq_true]
  constructor
  · rintro ⟨x, h1, h2⟩
    exact ⟨x, (h x).mp h1, h2⟩
  · rintro ⟨x, h1, h2⟩
    exact ⟨x, (h x).mpr h1, h2⟩
theorem letB_congr {A B A' B' : List Kd} (ha : Eqv A A') (hb : Eqv B B') (c : Option Kd) (th : Int) (rt : Bool) : letB A B c th rt = letB A' B' c th rt := by
  cases c with
  | none => rfl
  | some k =>
    obtain ⟨v, f, r⟩ := k
    unfold letB
    rw [any_congr hb.1]
    congr 1
    cases rt
    · simp only [Bool.false_eq_true, if_false, hb.1]
    · simp only [if_true, ha.1]
def IsCell (H : Hp) (v : V) : Option Kd → Prop
  | none => v = .non
  | some k => ∃ t x, v = .ref t ∧ H t = some (.tup [x, .bl k.2.1, .int k.2.2]) ∧ k.1 = !decide (x = .non)
theorem IsCell.same {H H' : Hp} {v : V} {c : Option Kd} (s : Same H H') (h : IsCell H v c) : IsCell H' v c := by
  cases c with
  | none => exact h
  | some k =>
    obtain ⟨t, x, rfl, e, q⟩ := h
    exact ⟨t, x, rfl, s _ _ e, q⟩
theorem filt_next {js : List Kd} {i : Nat} {k : Kd} (h : js[i]? = some k) (f : Kd → Bool) : ((js.take (i + 1)).filter f) = (js.take i).filter f ++ (if f k = true then [k] else []) := by
  rw [← take_next h, List.filter_append]
  congr 1
  by_cases hf : f k = true
  · rw [if_pos hf, List.filter_cons_of_pos hf]
    rfl
  · rw [if_neg hf, List.filter_cons_of_neg hf]
    rfl
theorem filt_any (js : List Kd) (f : Kd → Bool) : decide (0 < ((js.filter f).length : Int)) = js.any f := by
  rw [Bool.eq_iff_iff, decide_eq_true_iff, List.any_eq_true]
  constructor
  · intro h
    have h' : 0 < (js.filter f).length := by omega
    obtain ⟨x, hx⟩ := List.exists_mem_of_length_pos h'
    have := List.mem_filter.mp hx
    exact ⟨x, this.1, this.2⟩
  · rintro ⟨x, h1, h2⟩
    have : 0 < (js.filter f).length := List.length_pos_of_mem (List.mem_filter.mpr ⟨h1, h2⟩)
    omega
theorem dec_int {x y : Int} : decide (V.int x = V.int y) = decide (x = y) := by
  by_cases h : x = y
  · subst h; simp
  · have : ¬ V.int x = V.int y := fun e => h (V.int.inj e)
    simp [h, this]
def spIsLet (C : Addr) : Sp := fun vs H Q _ => ∃ (p : Addr) (js1 js2 : List Kd) (v : V) (c : Option Kd) (th : Int) (rt : Bool), vs = [.ref p, v, .int th, .bl rt] ∧ RuleAt C H p js1 js2 ∧ js1.length ≤ 12 ∧ js2.length ≤ 12 ∧ IsCell H v c ∧
  ∀ H', Same H H' → Q (.bl (letB js1 js2 c th rt)) H'
section
variable {P : Program} {w : World} {K : PySem.W.Frag} {mg : Str → Option Value} {base : Heap}
theorem ok_is_let (T : Tx K mg) : FnOk P w K mg base CX0 1 T.a_is_let T.fd_is_let ["rule", "cell", "there", "root"] (spIsLet T.c_Rule) := by
  refine T.F_is_let.ok sc_is_let (fun vs H Q E h => ?_) (fun cdv A outer s H vs Q E hr h => ?_)
  · obtain ⟨p, js1, js2, v, c, th, rt, rfl, _⟩ := h
    rfl
  have hu := hu_of hr
  have hu65 := hu65_of hr
  obtain ⟨p, js1, js2, v, c, th, rt, rfl, R, l1, l2, hc, q⟩ := h
  refine ⟨_, (pss_cons (ps_if (pt_cmpR op_isN (pv 1) pe_non (nomark _))
 (pss_one (ps_ret (pe_and (pe_not (pv 3)) (pe_one (pe_cmpR op_eq (pv 2) pe_int (nomark _))))))
 pss_nil)
 (pss_cons (ps_set (i := 4) sc_is_let.nd rfl (by first | exact Or.inl rfl | exact Or.inr rfl) (pe_tup (pa_cons (pe_cmpR op_notN (pe_ix ix_tup (pv 1) pe_int (fun _ _ => rfl)) pe_non (nomark _)) (pa_cons (pe_ix ix_tup (pv 1) pe_int (fun _ _ => rfl)) (pa_cons (pe_callB (call_min2 rfl) (by rfl) T.b_min (by decide +kernel) (pa_cons pe_int (pa_cons (pe_op op_add (pe_ix ix_tup (pv 1) pe_int (fun _ _ => rfl)) (pv 2)) pa_nil))) pa_nil)))))
 (pss_cons (ps_if (pt_cmpR (op_notInDT hu65) (pv 4) (pe_ifExp (pt_val (pv 3)) (pe_fld (pv 0) rfl) (pe_fld (pv 0) rfl)) (by rfl))
 (pss_one (ps_ret pe_bl))
 pss_nil)
 (pss_one (ps_ret (pe_or (pe_cmpR op_eq (pe_ix ix_tup (pv 1) pe_int (fun _ _ => rfl)) pe_int (nomark _)) (pe_one (pe_cmpR op_gt (pe_callB call_len_seq (by rfl) T.b_len (by decide +kernel) (pa_cons (pe_lc (own := [("one", 5)]) (g := gName 5) rfl sc_is_let.nd (pi_tup (pe_fld (pv 0) rfl)) (blkOk_by (own := [("one", 5)]) (N := N_is_let) (sc := defScope s_is_let) (by decide +kernel)) (fun _ _ _ _ _ => (pg_name (i := 5) sc_is_let.nd rfl (by first | exact Or.inl rfl | exact Or.inr rfl))) (fun _ _ _ _ _ => (pts_one (pt_cmpR op_eq (pe_ix (by exact ix_tup : IxR _ (rIxT K)) (pv 5) pe_int (fun _ _ => rfl)) pe_int (nomark _)))) (fun _ _ _ _ _ => (pv 5))) pa_nil)) pe_int (nomark _))))))))), ?_⟩
  refine ⟨_, rfl, rfl, _, rfl, ?_⟩
  cases c with
  | none =>
    cases (show v = .non from hc)
    refine ite2 (fun _ => ?_) (fun h => absurd (decide_eq_true rfl) h)
    refine ⟨_, rfl, _, rfl, _, rfl, ?_⟩
    cases rt
    · refine iteT ?_
      refine ⟨_, rfl, rfl, ?_⟩
      rw [dec_int]
      exact q _ (Same.refl _)
    · refine iteF ?_
      exact q _ (Same.refl _)
  | some k =>
    obtain ⟨kp, kf, kr⟩ := k
    obtain ⟨t, x, rfl, ht, hkp⟩ := hc
    refine ite2 (fun h => absurd (of_decide_eq_true h) (by intro z; cases z)) (fun _ => ?_)
    refine nextS ?_
    dsimp only
    refine asgS (fun v H1 => ∃ p3, v = .ref p3 ∧ Same H H1 ∧ IsK H1 (.ref p3) (kp, kf, min2 (kr + th))) (fun R hR => ?_) ?_
    · refine ⟨_, rfl, t, _, _, _, rfl, rfl, SqT.of ht, rfl, rfl, _, rfl, t, _, _, _, rfl, rfl, SqT.of ht, rfl, _, rfl, t, _, _, _, rfl, rfl, SqT.of ht, rfl, _, rfl, _, _, rfl, rfl, _, _, rfl, by show 3 ≤ sizeLine; decide, fun p3 hp3 => ?_⟩
      refine hR _ _ ⟨p3, rfl, same_upd hp3, p3, rfl, ?_⟩
      rw [upd_same, ← hkp]
      rfl
    rintro v H1 ⟨p3, rfl, s1, hk3⟩
    have R1 := R.same s1
    have ht1 := s1 _ _ ht
    obtain ⟨dx, p1, p2, ys1, ys2, h1, h2, h3, a1, a2⟩ := id R1
    refine ⟨_, rfl, _, rfl, _, rfl, ?_⟩
    cases rt
    refine iteF ?_
    refine ⟨_, rfl, p, T.c_Rule, dx, _, _, rfl, h1, T.cl_Rule, T.na_Rule_others, flds_others _ _, kdD (kp, kf, min2 (kr + th)), js2.map kdD, hk3.dp, .tup (SqT.of h3) (AllK.dp a2), kd_shaped _, kds_shapedT _, _, rfl, ?_⟩
    rw [kd_any]
    rotate_left
    refine iteT ?_
    refine ⟨_, rfl, p, T.c_Rule, dx, _, _, rfl, h1, T.cl_Rule, T.na_Rule_root, flds_root _ _, kdD (kp, kf, min2 (kr + th)), js1.map kdD, hk3.dp, .tup (SqT.of h2) (AllK.dp a1), kd_shaped _, kds_shapedT _, _, rfl, ?_⟩
    rw [kd_any]
    all_goals
      refine ite2 (fun hn => ?_) (fun hn => ?_)
      · have q' := q _ s1
        simp only [letB, if_true, Bool.false_eq_true, if_false] at q'
        rw [Bool.not_eq_true'] at hn
        rw [hn, Bool.false_and] at q'
        exact q'
      · simp only [Bool.not_eq_true', Bool.not_eq_false] at hn
        refine ⟨_, rfl, t, _, _, _, rfl, rfl, SqT.of ht1, rfl, rfl, _, rfl, ?_⟩
        rw [dec_int]
        refine ite2 (fun h0 => ?_) (fun h0 => ?_)
        · have q' := q _ s1
          simp only [letB, if_true, Bool.false_eq_true, if_false] at q'
          rw [hn, h0, Bool.true_and, Bool.true_or] at q'
          exact q'
        · rw [Bool.not_eq_true] at h0
          refine ⟨_, rfl, p, T.c_Rule, dx, _, _, rfl, h1, T.cl_Rule, T.na_Rule_others, flds_others _ _, p2, rfl, ⟨_, SqT.of h3⟩, fun D hD => ?_⟩
          refine lc_tup (K := K) (a := p2) (xs := ys2) (fun i H2 => Same H1 H2 ∧ ∃ acc, H2 D = some (.lst acc) ∧ acc.length = ((js2.take i).filter fun k => decide (k.2.2 = 0)).length) ⟨same_upd hD, [], upd_same, rfl⟩ (fun i H2 _ ⟨s2, _⟩ => seqT s2 (SqT.of h3)) ?_ ?_
          · rintro i y H2 hi ⟨s2, acc, hacc, hlen⟩
            obtain ⟨k, hk, hik⟩ := AllK.get a2 hi
            obtain ⟨b, rfl, hb⟩ := hik.same s2
            refine ⟨rfl, ?_⟩
            refine ⟨_, rfl, b, _, _, _, rfl, rfl, SqT.of hb, rfl, rfl, _, rfl, ?_⟩
            rw [dec_int]
            have hfn := filt_next hk fun k => decide (k.2.2 = 0)
            refine ite2 (fun hz => ?_) (fun hz => ?_)
            · refine ⟨_, rfl, acc, hacc, ?_, fun c o e => ?_, acc ++ [_], upd_same, ?_⟩
              · rw [hlen]
                have : ((js2.take i).filter fun k => decide (k.2.2 = 0)).length ≤ js2.length := Nat.le_trans (List.length_filter_le _ _) (by rw [List.length_take]; exact Nat.min_le_right _ _)
                exact small1000 (by omega)
              · rw [upd_ne (ne_of_none e hD)]
                exact s2 _ _ e
              · rw [hfn, if_pos hz, List.length_append, List.length_append, hlen]
                rfl
            · refine ⟨s2, acc, hacc, ?_⟩
              rw [hfn, if_neg hz, List.append_nil]
              exact hlen
          · rintro H2 ⟨s2, acc, hacc, hlen⟩
            have hyl : ys2.length = js2.length := AllK.len a2
            rw [hyl, List.take_length] at hlen
            refine ⟨D, acc, rfl, .inl (SqL.of hacc), _, _, rfl, rfl, ?_⟩
            have q' := q _ (s1.trans s2)
            simp only [letB, if_true, Bool.false_eq_true, if_false] at q'
            rw [hn, h0, Bool.true_and, Bool.false_or, ← filt_any] at q'
            rw [hlen]
            exact q'
def spLet (K : PySem.W.Frag) : Sp := fun vs H Q _ => ∃ (t a b : Addr) (xs zs : List V) (ks ls : List Kd) (v : V) (c : Option Kd) (th : Int) (rt : Bool), vs = [.ref t, v, .int th, .bl rt] ∧ H t = some (.tup [.ref a, .ref b]) ∧ H a = some (.lst xs) ∧ H b = some (.lst zs) ∧ AllK H xs ks ∧ AllK H zs ls ∧ ks.length ≤ 12 ∧ ls.length ≤ 12 ∧ IsCell H v c ∧
  ∀ H', Same H H' → Q (.bl (letB ks ls c th rt)) H'
theorem ok_l_let (T : Tx K mg) : FnOk P w K mg base CX0 1 T.a_l_let T.fd_l_let ["_law_rule", "_law_cell", "_law_there", "_law_root"] (spLet K) := by
  refine T.F_l_let.ok sc_l_let (fun vs H Q E h => ?_) (fun cdv A outer s H vs Q E hr h => ?_)
  · obtain ⟨t, a, b, xs, zs, ks, ls, v, c, th, rt, rfl, _⟩ := h
    rfl
  have hu := hu_of hr
  have hu65 := hu65_of hr
  obtain ⟨t, a, b, xs, zs, ks, ls, v, c, th, rt, rfl, htt, ha, hb, kx, kz, l1, l2, hc, q⟩ := h
  refine ⟨_, (pss_cons (ps_if (pt_cmpR op_isN (pv 1) pe_non (nomark _))
 (pss_one (ps_ret (pe_and (pe_cmpR op_eq (pv 2) pe_int (nomark _)) (pe_one (pe_not (pv 3))))))
 pss_nil)
 (pss_cons (ps_set (i := 4) sc_l_let.nd rfl (by first | exact Or.inl rfl | exact Or.inr rfl) (pe_tup (pa_cons (pe_cmpR op_notN (pe_ix ix_tup (pv 1) pe_int (fun _ _ => rfl)) pe_non (nomark _)) (pa_cons (pe_ix ix_tup (pv 1) pe_int (fun _ _ => rfl)) (pa_cons (pe_callB (call_min2 rfl) (by rfl) T.b_min (by decide +kernel) (pa_cons pe_int (pa_cons (pe_op op_add (pe_ix ix_tup (pv 1) pe_int (fun _ _ => rfl)) (pv 2)) pa_nil))) pa_nil)))))
 (pss_cons (ps_set (i := 5) sc_l_let.nd rfl (by first | exact Or.inl rfl | exact Or.inr rfl) (pe_or (pe_cmpR op_eq (pe_ix ix_tup (pv 1) pe_int (fun _ _ => rfl)) pe_int (nomark _)) (pe_one (pe_callB (cr_any rfl) (by rfl) T.b_any (by decide +kernel) (pa_cons (pe_lc (own := [("_law_one", 6)]) (g := gName 6) rfl sc_l_let.nd (pi_list (pe_ix ix_tup (pv 0) pe_int (fun _ _ => rfl))) (blkOk_by (own := [("_law_one", 6)]) (N := N_l_let) (sc := defScope s_l_let) (by decide +kernel)) (fun _ _ _ _ _ => (pg_name (i := 6) sc_l_let.nd rfl (by first | exact Or.inl rfl | exact Or.inr rfl))) (fun _ _ _ _ _ => pts_nil) (fun _ _ _ _ _ => (pe_cmpR op_eq (pe_ix (by exact ix_tup : IxR _ (rIxT K)) (pv 6) pe_int (fun _ _ => rfl)) pe_int (nomark _)))) pa_nil)))))
 (pss_one (ps_ret (pe_and (pv 5) (pe_one (pe_cmpR (op_inD hu65) (pv 4) (pe_ix ix_tup (pv 0) (pe_callTy call_int1 (by rfl) T.b_int (by decide +kernel) (pa_cons (pe_not (pv 3)) pa_nil)) (fun _ _ => rfl)) (by rfl))))))))), ?_⟩
  refine ⟨_, rfl, rfl, _, rfl, ?_⟩
  cases c with
  | none =>
    cases (show v = .non from hc)
    refine ite2 (fun _ => ?_) (fun h => absurd (decide_eq_true rfl) h)
    refine ⟨_, rfl, rfl, _, rfl, ?_⟩
    rw [dec_int]
    have q' := q _ (Same.refl _)
    simp only [letB] at q'
    refine ite2 (fun h => ?_) (fun h => ?_)
    · rw [h, Bool.and_true] at q'
      exact ⟨_, rfl, _, rfl, q'⟩
    · rw [Bool.not_eq_true] at h
      rw [h, Bool.and_false] at q'
      exact q'
  | some k =>
    obtain ⟨kp, kf, kr⟩ := k
    obtain ⟨tc, x, rfl, ht, hkp⟩ := hc
    refine ite2 (fun h => absurd (of_decide_eq_true h) (by intro z; cases z)) (fun _ => ?_)
    refine nextS ?_
    dsimp only
    refine asgS (fun v H1 => ∃ p3, v = .ref p3 ∧ Same H H1 ∧ IsK H1 (.ref p3) (kp, kf, min2 (kr + th))) (fun R hR => ?_) ?_
    · refine ⟨_, rfl, tc, _, _, _, rfl, rfl, SqT.of ht, rfl, rfl, _, rfl, tc, _, _, _, rfl, rfl, SqT.of ht, rfl, _, rfl, tc, _, _, _, rfl, rfl, SqT.of ht, rfl, _, rfl, _, _, rfl, rfl, _, _, rfl, by show 3 ≤ sizeLine; decide, fun p3 hp3 => ?_⟩
      refine hR _ _ ⟨p3, rfl, same_upd hp3, p3, rfl, ?_⟩
      rw [upd_same, ← hkp]
      rfl
    rintro v H1 ⟨p3, rfl, s1, hk3⟩
    -- leaf
    show tSeq (tAsg _ _) _ _ _ _
    refine asgS (fun v H2 => Same H1 H2 ∧ v = .bl (decide (kr = 0) || ls.any fun k => decide (k.2.2 = 0))) (fun R hR => ?_) ?_
    · refine ⟨_, rfl, tc, _, _, _, rfl, rfl, SqT.of (s1 _ _ ht), rfl, rfl, _, rfl, ?_⟩
      rw [dec_int]
      refine ite2 (fun h0 => ?_) (fun h0 => ?_)
      · exact hR _ _ ⟨Same.refl _, by rw [show decide (kr = 0) = true from h0, Bool.true_or]⟩
      · rw [Bool.not_eq_true] at h0
        refine ⟨_, rfl, t, _, _, _, rfl, rfl, SqT.of (s1 _ _ htt), rfl, b, rfl, ⟨_, SqL.of (s1 _ _ hb)⟩, fun D hD => ?_⟩
        refine lc_list (K := K) (a := b) (xs := zs) (fun i H2 => Same H1 H2 ∧ H2 D = some (.lst (((ls.take i).map fun k => decide (k.2.2 = 0)).map V.bl))) ⟨same_upd hD, upd_same⟩ (fun i H2 _ ⟨s2, _⟩ => s2.seq (SqL.of (s1 _ _ hb))) ?_ ?_
        · rintro i y H2 hi ⟨s2, hacc⟩
          obtain ⟨k, hk, hik⟩ := AllK.get kz hi
          obtain ⟨bb, rfl, hbb⟩ := (hik.same s1).same s2
          refine ⟨rfl, yes_ite ?_⟩
          refine ⟨_, rfl, bb, _, _, _, rfl, rfl, SqT.of hbb, rfl, rfl, _, hacc, ?_, fun c o e => ?_, ?_⟩
          · rw [List.length_map, List.length_map, List.length_take]
            exact small1000 (by omega)
          · rw [upd_ne (ne_of_none e hD)]
            exact s2 _ _ e
          · rw [upd_same, ← take_next hk, dec_int, List.map_append, List.map_append]
            rfl
        · rintro H2 ⟨s2, hacc⟩
          have hyl : zs.length = ls.length := AllK.len kz
          rw [hyl, List.take_length] at hacc
          refine ⟨D, _, rfl, SqL.of hacc, hR _ _ ⟨s2, ?_⟩⟩
          rw [show decide (kr = 0) = false from h0, Bool.false_or, List.any_map]
          rfl
    · rintro v H2 ⟨s2, rfl⟩
      have sB := s1.trans s2
      refine ⟨_, rfl, _, rfl, ?_⟩
      have q' := fun H' s' => q H' s'
      simp only [letB] at q'
      refine ite2 (fun h => ?_) (fun h => ?_)
      · refine ⟨_, rfl, _, rfl, _, rfl, _, rfl, .inr ⟨_, rfl, ?_⟩⟩
        cases rt
        · refine ⟨t, _, _, _, rfl, rfl, SqT.of (sB _ _ htt), rfl, kdD (kp, kf, min2 (kr + th)), ls.map kdD, (hk3.same s2).dp, .lst (SqL.of (sB _ _ hb)) (AllK.dp (AllK.same sB kz)), kd_shaped _, kds_shapedL _, ?_⟩
          rw [kd_any]
          have q2 := q' _ sB
          simp only [Bool.false_eq_true, if_false] at q2
          rw [h, Bool.and_true] at q2
          exact q2
        · refine ⟨t, _, _, _, rfl, rfl, SqT.of (sB _ _ htt), rfl, kdD (kp, kf, min2 (kr + th)), ks.map kdD, (hk3.same s2).dp, .lst (SqL.of (sB _ _ ha)) (AllK.dp (AllK.same sB kx)), kd_shaped _, kds_shapedL _, ?_⟩
          rw [kd_any]
          have q2 := q' _ sB
          simp only [if_true] at q2
          rw [h, Bool.and_true] at q2
          exact q2
      · rw [Bool.not_eq_true] at h
        have q2 := q' _ sB
        rw [h, Bool.and_false] at q2
        exact q2
def spTruth : Sp := fun vs H Q _ => ∃ a : Bool, vs = [.bl a, .bl a] ∧ Q (.bl true) H
theorem ok_l_truth (T : Tx K mg) : FnOk P w K mg base CX0 1 T.a_l_truth T.fd_l_truth ["_law_found", "_law_due"] spTruth := by
  refine T.F_l_truth.ok sc_l_truth (fun vs H Q E h => ?_) (fun cdv A outer s H vs Q E hr h => ?_)
  · obtain ⟨a, rfl, _⟩ := h
    rfl
  obtain ⟨a, rfl, q⟩ := h
  refine ⟨_, (pss_one (ps_ret (pe_ifExp (pt_val (pv 1)) (pe_cmpR op_isBl (pv 0) pe_bl (nomark _)) (pe_cmpR op_isBl (pv 0) pe_bl (nomark _))))), ?_⟩
  refine ⟨_, rfl, _, rfl, ?_⟩
  cases a
  · exact iteF ⟨_, rfl, _, _, rfl, rfl, q⟩
  · exact iteT ⟨_, rfl, _, _, rfl, rfl, q⟩
end
end Toy
set_option Elab.async false
set_option linter.all false
set_option maxRecDepth 100000
set_option maxHeartbeats 4000000
namespace Toy
open PySem L2 Sh
theorem cut_drop (xs : List V) (c : Nat) : cutV xs (some (c : Int)) none = xs.drop c := by
  unfold cutV
  rw [HT.sIx_nat, HT.sIx_none]
  by_cases h : c ≤ xs.length
  · rw [Nat.min_eq_left h]
    apply List.take_of_length_le
    rw [List.length_drop]
    exact Nat.le_refl _
  · rw [Nat.min_eq_right (by omega), List.drop_of_length_le (Nat.le_refl _), List.drop_of_length_le (by omega)]
    simp
theorem cut_take (xs : List V) (c : Nat) : cutV xs none (some (c : Int)) = xs.take c := by
  unfold cutV
  rw [HT.sIx_nat, HT.sIx_none]
  show (xs.drop 0).take (min c xs.length - 0) = xs.take c
  rw [List.drop_zero, Nat.sub_zero]
  by_cases h : c ≤ xs.length
  · rw [Nat.min_eq_left h]
  · rw [Nat.min_eq_right (by omega), List.take_of_length_le (Nat.le_refl _), List.take_of_length_le (by omega)]
theorem kp_upd {d p : Addr} {H H' : Hp} {o : HO} (h : Kp d H H') (n : H p = none) : Kp d H (upd H' p o) := fun b u e nb => by
  rw [upd_ne (ne_of_none e n)]
  exact h b u e nb
theorem IsK.put {H : Hp} {D : Addr} {xs ys : List V} {v : V} {k : Kd} (h : H D = some (.lst xs)) (hk : IsK H v k) : IsK (upd H D (.lst ys)) v k := by
  obtain ⟨t, rfl, e⟩ := hk
  exact ⟨t, rfl, by rw [upd_ne (ne_of e h (by intro z; cases z))]; exact e⟩
def spPenOf (K : PySem.W.Frag) : Sp := fun vs H Q _ => ∃ (a : Addr) (ns : List Int), vs = [.ref a] ∧ SqL K H a (ns.map V.int) ∧ ∀ (H' : Hp) (d c : Addr), Same H H' → Pen H' d c 0 → Q (.ref d) H'
section
variable {P : Program} {w : World} {K : PySem.W.Frag} {mg : Str → Option Value} {base : Heap}
theorem ok_l_pen_of (T : Tx K mg) : FnOk P w K mg base CX0 1 T.a_l_pen_of T.fd_l_pen_of ["_law_script"] (spPenOf K) := by
  refine T.F_l_pen_of.ok sc_l_pen_of (fun vs H Q E h => ?_) (fun cdv A outer s H vs Q E hr h => ?_)
  · obtain ⟨a, ns, rfl, _⟩ := h
    rfl
  obtain ⟨a, ns, rfl, hS, q⟩ := h
  refine ⟨_, (pss_one (ps_ret (pe_disp (pps_cons pe_str (pe_callTy call_list_of (by rfl) T.b_list (by decide +kernel) (pa_cons (pe_slice sl_list (pv 0) po_none (po_some pe_int)) pa_nil)) (pps_cons pe_str pe_int (pps_cons pe_str pe_int pps_nil))) (by rfl) (by rfl) (fun z => by cases z) (by decide)))), ?_⟩
  intro p hp
  have s1 : Same H (upd H p (.dK [])) := same_upd hp
  refine ⟨_, rfl, _, rfl, a, _, rfl, s1.seq hS, fun c hc => ?_⟩
  have s2 : Same (upd H p (.dK [])) _ := same_upd (o := .lst (cutV (ns.map V.int) none (some 63))) hc
  refine ⟨c, _, rfl, .inl (SqL.of upd_same), fun l hl => ?_⟩
  have s3 : Same (upd (upd H p (.dK [])) c (.lst (cutV (ns.map V.int) none (some 63)))) _ := same_upd (o := .lst (cutV (ns.map V.int) none (some 63))) hl
  have sA := (s1.trans s2).trans s3
  refine ⟨s3 _ _ (s2 _ _ upd_same), penL l 0 0, rfl, by show 3 ≤ 15; decide, ?_⟩
  have e : mergeK [] (penL l 0 0) = penL l 0 0 := by
    show putK (putK (putK ([] : List (Key × V)) (.inr "cells") (.ref l)) (.inr "begun") (.int 0)) (.inr "left") (.int 0) = _
    rw [show putK ([] : List (Key × V)) (.inr "cells") (.ref l) = [(.inr "cells", .ref l)] from rfl, putK_new _ ((valV_neg (ki k12)).trans valV_nil)]
    exact putK_new _ (show valV ([(.inr "cells", .ref l), (.inr "begun", .int 0)] : List (Key × V)) (.inr "left") = none from (valV_neg (ki k13)).trans ((valV_neg (ki k23)).trans valV_nil))
  rw [e]
  have npl : p ≠ l := fun z => by
    subst z
    rw [s2 _ _ upd_same] at hl
    cases hl
  refine q _ p l (fun b o hb => ?_) ⟨ns.take 63, 0, 0, upd_same, ?_, Int.le_refl _, Int.le_refl _, Int.le_refl _⟩
  · rw [upd_ne (ne_of_none hb hp)]
    exact sA _ _ hb
  · rw [upd_ne npl.symm, upd_same, show cutV (ns.map V.int) none (some 63) = (ns.map V.int).take 63 from cut_take _ 63, List.map_take]
def spPick (K : PySem.W.Frag) : Sp := fun vs H Q _ => ∃ (d c a : Addr) (n : Nat) (xs : List V), vs = [.ref d, .ref a] ∧ Pen H d c n ∧ n ≤ 100000 ∧ H a = some (.lst xs) ∧ 0 < xs.length ∧ xs.length ≤ 1000 ∧
  ∀ (H' : Hp) (x : V), x ∈ xs → Kp d H H' → Pen H' d c (n + 1) → Q x H'
theorem at_mem {xs : List V} {r : Int} (h0 : 0 ≤ r) (h1 : r < (xs.length : Int)) : ∃ x, atI xs r = some x ∧ x ∈ xs := by
  have h3 : r.toNat < xs.length := by omega
  exact ⟨xs[r.toNat], at_of (j := r.toNat) (by omega) (List.getElem?_eq_getElem h3), List.getElem_mem h3⟩
theorem ok_l_pick (T : Tx K mg) : FnOk P w K mg base CX0 2 T.a_l_pick T.fd_l_pick ["_law_pen", "_law_menu"] (spPick K) := by
  refine T.F_l_pick.ok sc_l_pick (fun vs H Q E h => ?_) (fun cdv A outer s H vs Q E hr h => ?_)
  · obtain ⟨d, c, a, n, xs, rfl, _⟩ := h
    rfl
  obtain ⟨d, c, a, n, xs, rfl, hp, hn, ha, hx, hx2, q⟩ := h
  refine ⟨_, (pss_one (ps_ret (pe_ix ix_list (pv 1) (pe_call (ok_l_draw T) (hr.mono (by decide)) (by rfl) T.m_l_draw T.F_l_draw.kp T.bi_l_draw .nil pass0 (pa_cons (pv 0) (pa_cons (pe_callB call_len_seq (by rfl) T.b_len (by decide +kernel) (pa_cons (pv 1) pa_nil)) pa_nil))) (fun _ _ => rfl)))), ?_⟩
  refine ⟨_, rfl, _, rfl, _, rfl, a, xs, rfl, .inl (SqL.of ha), d, c, n, _, rfl, hp, hn, by omega, by omega, fun H1 r r0 r1 kp p1 => ?_⟩
  obtain ⟨kvs, hd⟩ := hp.at
  obtain ⟨x, e, hm⟩ := at_mem r0 r1
  exact ⟨a, xs, r, x, rfl, rfl, SqL.of (kp _ _ ha (ne_of ha hd (by intro z; cases z))), e, q _ x hm kp p1⟩
def spCells (K : PySem.W.Frag) : Sp := fun vs H Q _ => ∃ (a : Addr) (z : Int), vs = [.ref a] ∧ H a = some (.lst [.int z]) ∧
  ∀ (H' : Hp) (p : Addr) (xs : List V), Same H H' → H' p = some (.lst xs) → (∀ x ∈ xs, ∃ c, IsCell H' x c) → xs.length ≤ 13 → Q (.ref p) H'
theorem ok_l_cells (T : Tx K mg) : FnOk P w K mg base CX0 1 T.a_l_cells T.fd_l_cells ["_law_values"] (spCells K) := by
  refine T.F_l_cells.ok sc_l_cells (fun vs H Q E h => ?_) (fun cdv A outer s H vs Q E hr h => ?_)
  · obtain ⟨a, z, rfl, _⟩ := h
    rfl
  obtain ⟨a, z, rfl, ha, q⟩ := h
  refine ⟨_, (pss_cons (ps_set (i := 1) sc_l_cells.nd rfl (by first | exact Or.inl rfl | exact Or.inr rfl) (pe_lst (pa_cons pe_non pa_nil)))
 (pss_cons (ps_for PassesOwn.never rfl (pi_list (pe_op op_cat (pe_lst (pa_cons pe_non pa_nil)) (pe_callTy call_list_of (by rfl) T.b_list (by decide +kernel) (pa_cons (pv 0) pa_nil)))) (pg_name (i := 2) sc_l_cells.nd rfl (by first | exact Or.inl rfl | exact Or.inr rfl))
 (pss_one (ps_expr (pe_bm PySem.F.plainAttrs_list PySem.F.slot_list_extend PySem.F.type_list_extend mt_extend (pv 1) (pa_cons (pe_lc (own := [("_law_k", 3)]) (g := gName 3) rfl sc_l_cells.nd (pi_range1 (by rfl) T.b_range (pa_cons pe_int pa_nil)) (blkOk_by (own := [("_law_k", 3)]) (N := N_l_cells) (sc := defScope s_l_cells) (by decide +kernel)) (fun _ _ _ _ _ => (pg_name (i := 3) sc_l_cells.nd rfl (by first | exact Or.inl rfl | exact Or.inr rfl))) (fun _ _ _ _ _ => pts_nil) (fun _ _ _ _ _ => (pe_tup (pa_cons (pv 2) (pa_cons (pe_cmpR op_eq (pe_op op_mod (pe_callTy call_int1 (by rfl) T.b_int (by decide +kernel) (pa_cons (pv 3) pa_nil)) pe_int) pe_int (nomark _)) (pa_cons (pe_op op_fdivN (pe_callTy call_int1 (by rfl) T.b_int (by decide +kernel) (pa_cons (pv 3) pa_nil)) pe_int) pa_nil)))))) pa_nil)))))
 (pss_one (ps_ret (pv 1))))), ?_⟩
  refine asgS (fun v H1 => ∃ o, v = .ref o ∧ H o = none ∧ Same H H1 ∧ H1 o = some (.lst [.non])) (fun R hR => ⟨by show 1 ≤ sizeLine; decide, fun o no => hR _ _ ⟨o, rfl, no, same_upd no, upd_same⟩⟩) ?_
  rintro v H1 ⟨o, rfl, no, s1, ho⟩
  -- [None] + list(values)
  refine ⟨by show 1 ≤ sizeLine; decide, fun e1 n1 => ?_⟩
  have s2 : Same H1 (upd H1 e1 (.lst [.non])) := same_upd n1
  refine ⟨_, rfl, a, _, rfl, .inl (SqL.of (s2 _ _ (s1 _ _ ha))), fun e2 n2 => ?_⟩
  have s3 : Same (upd H1 e1 (.lst [.non])) (upd (upd H1 e1 (.lst [.non])) e2 (.lst [.int z])) := same_upd n2
  refine ⟨e1, e2, _, _, rfl, rfl, s3 _ _ upd_same, upd_same, by show 2 ≤ sizeLine; decide, fun e3 n3 => ?_⟩
  have s4 : Same _ (upd (upd (upd H1 e1 (.lst [.non])) e2 (.lst [.int z])) e3 (.lst ([.non] ++ [.int z]))) := same_upd n3
  have h3 : (upd (upd (upd H1 e1 (.lst [.non])) e2 (.lst [.int z])) e3 (.lst ([.non] ++ [.int z]))) e3 = some (.lst ([.non] ++ [.int z])) := upd_same
  have s5 := (s2.trans s3).trans s4
  have ne3 : o ≠ e3 := fun z => by
    subst z
    rw [s3 _ _ (s2 _ _ ho)] at n3
    cases n3
  generalize upd (upd (upd H1 e1 (.lst [.non])) e2 (.lst [.int z])) e3 (.lst ([.non] ++ [.int z])) = H2 at s4 h3 s5 ⊢
  refine ⟨e3, rfl, ⟨_, SqL.of h3⟩, for_list (K := K) (a := e3) (xs := [V.non] ++ [V.int z]) (fun i σ H' => ∃ v xs, σ = [some (.ref a), some (.ref o), v, none] ∧ Same H H' ∧ H' e3 = some (.lst ([V.non] ++ [V.int z])) ∧ H' o = some (.lst xs) ∧ (∀ x ∈ xs, ∃ c, IsCell H' x c) ∧ xs.length = 1 + 6 * i)
    ⟨none, [.non], rfl, s1.trans s5, h3, s5 _ _ ho, fun x hx => ⟨none, (by simpa using hx : x = V.non)⟩, rfl⟩ (fun i σ H' _ ⟨_, _, _, _, h, _⟩ => SqL.of h) ?_ ?_⟩
  · rintro i x σ H' hi ⟨v, xs, rfl, s6, h6, ho6, hc6, hl6⟩
    have hi2 : i < 2 := (List.getElem?_eq_some_iff.mp hi).1
    refine ⟨_, rfl, .inl ⟨rfl, _, SqL.of ho6⟩, 6, rfl, by decide, by decide, fun D hD => ?_⟩
    refine lc_range (lo := 0) (n := 6) (fun j H7 => Same H' H7 ∧ ∃ acc, H7 D = some (.lst acc) ∧ (∀ x ∈ acc, ∃ c, IsCell H7 x c) ∧ acc.length = j) ⟨same_upd hD, [], upd_same, fun x hx => (by simp at hx), rfl⟩ ?_ ?_
    · rintro j H7 hj ⟨s7, acc, hacc, hca, hla⟩
      refine ⟨rfl, yes_ite ?_⟩
      refine ⟨_, rfl, _, rfl, .inl ⟨_, rfl, _, _, rfl, rfl, posI, rfl, _, rfl, .inl ⟨_, rfl, _, _, rfl, rfl, ⟨by decide, by decide⟩, by show 3 ≤ sizeLine; decide, fun t ht => ?_⟩⟩⟩
      have nDt : D ≠ t := ne_of_none hacc ht
      refine ⟨acc, by rw [upd_ne nDt]; exact hacc, small1000 (by omega), fun b u e => ?_, acc ++ [.ref t], upd_same, fun y hy => ?_, by rw [List.length_append, hla]; rfl⟩
      · rw [upd_ne (ne_of_none e hD), upd_ne (ne_of_none (s7 _ _ e) ht)]
        exact s7 _ _ e
      · rcases List.mem_append.mp hy with hy | hy
        · obtain ⟨c, hc⟩ := hca y hy
          cases c with
          | none => exact ⟨none, hc⟩
          | some k =>
            obtain ⟨t', x', rfl, e, hk⟩ := hc
            exact ⟨some k, t', x', rfl, by rw [upd_ne (ne_of e hacc (by intro z; cases z)), upd_ne (ne_of_none e ht)]; exact e, hk⟩
        · simp only [List.mem_singleton] at hy
          subst hy
          exact ⟨some (_, _, _), t, _, rfl, by rw [upd_ne nDt.symm, upd_same], rfl⟩
    · rintro H7 ⟨s7, acc, hacc, hca, hla⟩
      refine ⟨o, D, xs, acc, rfl, rfl, s7 _ _ ho6, hacc, Nat.le_trans (show xs.length + acc.length ≤ 1000 by omega) (by decide), ?_⟩
      have noD : o ≠ D := ne_of_none ho6 hD
      refine ⟨_, xs ++ acc, rfl, fun b u e => ?_, ?_, upd_same, fun y hy => ?_, by rw [List.length_append, hl6, hla]; omega⟩
      · rw [upd_ne (ne_of_none e no)]
        exact s7 _ _ (s6 _ _ e)
      · rw [upd_ne ne3.symm]
        exact s7 _ _ h6
      · have hy' : ∃ c, IsCell H7 y c := by
          rcases List.mem_append.mp hy with hy | hy
          · obtain ⟨c, hc⟩ := hc6 y hy
            exact ⟨c, hc.same s7⟩
          · exact hca y hy
        obtain ⟨c, hc⟩ := hy'
        cases c with
        | none => exact ⟨none, hc⟩
        | some k =>
          obtain ⟨t', x', rfl, e, hk⟩ := hc
          exact ⟨some k, t', x', rfl, by rw [upd_ne (ne_of e (s7 _ _ ho6) (by intro z; cases z))]; exact e, hk⟩
  · rintro σ H' ⟨v, xs, rfl, s6, h6, ho6, hc6, hl6⟩
    exact ⟨_, rfl, q _ o xs s6 ho6 hc6 (by rw [hl6]; show 1 + 6 * 2 ≤ 13; decide)⟩
end
end Toy
set_option Elab.async false
set_option linter.all false
set_option maxRecDepth 100000
set_option maxHeartbeats 4000000
namespace Toy
open PySem L2 Sh
def ek (i : Nat) : Kd := (decide ((5 : Int) < 0 + (i : Int)), decide (V.int ((0 + (i : Int)).fdiv 3 % 2) = V.int 1), (0 + (i : Int)) % 3)
def every : List Kd := (List.range 12).map ek
theorem every_nd : every.Nodup := by decide +kernel
theorem every_good : ∀ k ∈ every, 0 ≤ k.2.2 ∧ k.2.2 ≤ 2 := by decide +kernel
theorem good_of {ks : List Kd} (h : ks.Sublist every) : GoodK ks := ⟨h.nodup every_nd, fun k hk => every_good k (h.subset hk), h.length_le⟩
theorem good_perm {ks js : List Kd} (h : js.Perm ks) (g : GoodK ks) : GoodK js := ⟨h.nodup_iff.mpr g.1, fun k hk => g.2.1 k (h.mem_iff.mp hk), by rw [h.length_eq]; exact g.2.2⟩
theorem good_sub {ks js : List Kd} (h : js.Sublist ks) (g : GoodK ks) : GoodK js := ⟨h.nodup g.1, fun k hk => g.2.1 k (h.subset hk), Nat.le_trans h.length_le g.2.2⟩
theorem sub_next {α : Type} {js xs : List α} {i : Nat} {k : α} (h : js.Sublist (xs.take i)) (hk : xs[i]? = some k) : (js ++ [k]).Sublist (xs.take (i + 1)) := by
  rw [← take_next hk]
  exact h.append (List.Sublist.refl _)
theorem sub_stay {α : Type} {js xs : List α} {i : Nat} {k : α} (h : js.Sublist (xs.take i)) (hk : xs[i]? = some k) : js.Sublist (xs.take (i + 1)) := by
  rw [← take_next hk]
  exact h.trans (List.sublist_append_left _ _)
theorem AllK.kp {H H' : Hp} {d : Addr} {vs : List V} {ks : List Kd} (s : Kp d H H') (hd : ∃ kvs, H d = some (.dK kvs)) (h : AllK H vs ks) : AllK H' vs ks := AllK.mono (fun _ _ => IsK.kp s hd) h
theorem AllK.put {H : Hp} {D : Addr} {xs ys : List V} {vs : List V} {ks : List Kd} (h : H D = some (.lst xs)) (a : AllK H vs ks) : AllK (upd H D (.lst ys)) vs ks := AllK.mono (fun _ _ => IsK.put h) a
theorem lst_kp {H H' : Hp} {d o : Addr} {xs : List V} (s : Kp d H H') (hd : ∃ kvs, H d = some (.dK kvs)) (h : H o = some (.lst xs)) : H' o = some (.lst xs) := by
  obtain ⟨kvs, hd⟩ := hd
  exact s _ _ h (ne_of h hd (by intro z; cases z))
theorem Pen.ne_free {H : Hp} {d c p : Addr} {n : Nat} (h : Pen H d c n) (hp : H p = none) : p ≠ d := by
  obtain ⟨kvs, e⟩ := h.at
  exact (ne_of_none e hp).symm
/-- the pen stays where an object changes that was not there ahead of H0 -/
theorem Pen.put {H0 H : Hp} {d c D : Addr} {n m : Nat} {o : HO} (h0 : Pen H0 d c m) (nD : H0 D = none) (h : Pen H d c n) : Pen (upd H D o) d c n := by
  obtain ⟨ns, b, l, a1, a2, a3⟩ := h
  obtain ⟨ns0, b0, l0, a01, a02, _⟩ := h0
  exact ⟨ns, b, l, by rw [upd_ne (ne_of_none a01 nD)]; exact a1, by rw [upd_ne (ne_of_none a02 nD)]; exact a2, a3⟩
def spSide : Sp := fun vs H Q _ => ∃ (d c : Addr) (n : Nat), vs = [.ref d] ∧ Pen H d c n ∧ n ≤ 50000 ∧
  ∀ (H' : Hp) (p : Addr) (xs : List V) (ks : List Kd), Kp d H H' → Pen H' d c (n + 15) → H' p = some (.lst xs) → AllK H' xs ks → GoodK ks → Q (.ref p) H'
section
variable {P : Program} {w : World} {K : PySem.W.Frag} {mg : Str → Option Value} {base : Heap}
theorem ok_l_side (T : Tx K mg) : FnOk P w K mg base CX0 3 T.a_l_side T.fd_l_side ["_law_pen"] spSide := by
  refine T.F_l_side.ok sc_l_side (fun vs H Q E h => ?_) (fun cdv A outer s H vs Q E hr h => ?_)
  · obtain ⟨d, c, n, rfl, _⟩ := h
    rfl
  have hu := hu_of hr
  obtain ⟨d, c, n, rfl, hp, hn, q⟩ := h
  refine ⟨_, (pss_cons (ps_asg (pe_tup (pa_cons (pe_lc (own := [("_law_at", 5)]) (g := gName 5) rfl sc_l_side.nd (pi_range1 (by rfl) T.b_range (pa_cons pe_int pa_nil)) (blkOk_by (own := [("_law_at", 5)]) (N := N_l_side) (sc := defScope s_l_side) (by decide +kernel)) (fun _ _ _ _ _ => (pg_name (i := 5) sc_l_side.nd rfl (by first | exact Or.inl rfl | exact Or.inr rfl))) (fun _ _ _ _ _ => pts_nil) (fun _ _ _ _ _ => (pe_tup (pa_cons (pe_cmpR op_gt (pv 5) pe_int (nomark _)) (pa_cons (pe_cmpR op_eq (pe_op op_mod (pe_op op_fdivN (pe_callTy call_int1 (by rfl) T.b_int (by decide +kernel) (pa_cons (pv 5) pa_nil)) pe_int) pe_int) pe_int (nomark _)) (pa_cons (pe_op op_mod (pe_callTy call_int1 (by rfl) T.b_int (by decide +kernel) (pa_cons (pv 5) pa_nil)) pe_int) pa_nil)))))) (pa_cons (pe_call (ok_l_pick T) (hr.mono (by decide)) (by rfl) T.m_l_pick T.F_l_pick.kp T.bi_l_pick .nil pass0 (pa_cons (pv 0) (pa_cons (pe_lst (pa_cons pe_int (pa_cons pe_int (pa_cons pe_int (pa_cons pe_int pa_nil))))) pa_nil))) pa_nil))) (pg_tup rfl (pgs_cons (pg_name (i := 1) sc_l_side.nd rfl (by first | exact Or.inl rfl | exact Or.inr rfl)) (pgs_cons (pg_name (i := 2) sc_l_side.nd rfl (by first | exact Or.inl rfl | exact Or.inr rfl)) pgs_nil))))
 (pss_cons (ps_setLc (i := 3) (own := [("_law_kind", 6)]) (g := gName 6) rfl sc_l_side.nd rfl rfl (sw_true rfl rfl rfl (by decide +kernel)) (pi_list (pv 1)) (blkOk_by (own := [("_law_kind", 6)]) (N := N_l_side) (sc := defScope s_l_side) (by decide +kernel)) (fun _ _ _ _ _ => (pg_name (i := 6) sc_l_side.nd rfl (by first | exact Or.inl rfl | exact Or.inr rfl))) (fun _ _ _ _ _ => (pts_one (pt_cmpR op_lt (pe_call (ok_l_draw T) (hr.mono (by decide)) (by rfl) T.m_l_draw T.F_l_draw.kp T.bi_l_draw .nil pass0 (pa_cons (pv 0) (pa_cons pe_int pa_nil))) (pv 2) (nomark _)))) (fun _ _ _ _ _ => (pv 6)))
 (pss_cons (ps_set (i := 4) sc_l_side.nd rfl (by first | exact Or.inl rfl | exact Or.inr rfl) (pe_call (ok_l_draw T) (hr.mono (by decide)) (by rfl) T.m_l_draw T.F_l_draw.kp T.bi_l_draw .nil pass0 (pa_cons (pv 0) (pa_cons (pe_op op_add (pe_callB call_len_seq (by rfl) T.b_len (by decide +kernel) (pa_cons (pv 3) pa_nil)) pe_int) pa_nil))))
 (pss_cons (ps_set (i := 3) sc_l_side.nd rfl (by first | exact Or.inl rfl | exact Or.inr rfl) (pe_op op_cat (pe_slice sl_list (pv 3) (po_some (pv 4)) po_none) (pe_slice sl_list (pv 3) po_none (po_some (pv 4)))))
 (pss_one (ps_ret (pe_ifExp (pt_cmpR op_eq (pe_call (ok_l_draw T) (hr.mono (by decide)) (by rfl) T.m_l_draw T.F_l_draw.kp T.bi_l_draw .nil pass0 (pa_cons (pv 0) (pa_cons pe_int pa_nil))) pe_int (nomark _)) (pe_lc (own := [("_law_kind", 6)]) (g := gName 6) rfl sc_l_side.nd (pi_list (pv 3)) (blkOk_by (own := [("_law_kind", 6)]) (N := N_l_side) (sc := defScope s_l_side) (by decide +kernel)) (fun _ _ _ _ _ => (pg_name (i := 6) sc_l_side.nd rfl (by first | exact Or.inl rfl | exact Or.inr rfl))) (fun _ _ _ _ _ => (pts_one (pt_cmpR op_gt (pe_ix (by exact ix_tup : IxR _ (rIxT K)) (pv 6) pe_int (fun _ _ => rfl)) pe_int (nomark _)))) (fun _ _ _ _ _ => (pv 6))) (pv 3)))))))), ?_⟩
  -- every, most
  refine asgS (fun v H1 => ∃ t o m xs, v = .ref t ∧ Kp d H H1 ∧ Pen H1 d c (n + 1) ∧ H1 t = some (.tup [.ref o, .int m]) ∧ H1 o = some (.lst xs) ∧ AllK H1 xs every) (fun R hR => ?_) ?_
  · refine ⟨12, rfl, by decide, by decide, fun D hD => ?_⟩
    refine lc_range (lo := 0) (n := 12) (fun j H7 => Same H H7 ∧ ∃ acc, H7 D = some (.lst acc) ∧ AllK H7 acc ((List.range j).map ek)) ⟨same_upd hD, [], upd_same, .nil⟩ ?_ ?_
    · rintro j H7 hj ⟨s7, acc, hacc, hk⟩
      refine ⟨rfl, yes_ite ?_⟩
      refine ⟨_, rfl, _, _, rfl, rfl, _, rfl, .inl ⟨_, rfl, _, _, rfl, rfl, ⟨by decide, by decide⟩, _, _, rfl, rfl, posI, rfl, _, rfl, .inl ⟨_, rfl, _, _, rfl, rfl, posI, by show 3 ≤ sizeLine; decide, fun t ht => ?_⟩⟩⟩
      have nDt : D ≠ t := ne_of_none hacc ht
      have hlen : acc.length = j := by rw [AllK.len hk, List.length_map, List.length_range]
      refine ⟨acc, by rw [upd_ne nDt]; exact hacc, small1000 (by omega), fun b u e => ?_, acc ++ [.ref t], upd_same, ?_⟩
      · rw [upd_ne (ne_of_none e hD), upd_ne (ne_of_none (s7 _ _ e) ht)]
        exact s7 _ _ e
      · rw [List.range_succ, List.map_append]
        have h1 : ∀ u, upd H7 t u D = some (.lst acc) := fun u => by rw [upd_ne nDt]; exact hacc
        exact AllK.append (AllK.put (h1 _) (AllK.same (same_upd ht) hk)) (.cons (IsK.put (h1 _) ⟨t, rfl, upd_same⟩) .nil)
    · rintro H7 ⟨s7, acc, hacc, hk⟩
      refine ⟨_, rfl, by show 4 ≤ sizeLine; decide, fun a ha => ?_⟩
      have s8 : Same H7 (upd H7 a (.lst [.int 1, .int 4, .int 9, .int 12])) := same_upd ha
      refine ⟨d, c, a, n, _, rfl, (hp.same s7).same s8, by omega, upd_same, by show 0 < 4; decide, by show 4 ≤ 1000; decide, fun H9 x hx kp p9 => ?_⟩
      obtain ⟨m, rfl⟩ : ∃ m, x = V.int m := by
        simp only [List.mem_cons, List.not_mem_nil, or_false] at hx
        rcases hx with rfl | rfl | rfl | rfl <;> exact ⟨_, rfl⟩
      have hat := ((hp.same s7).same s8).at
      refine ⟨by show 2 ≤ sizeLine; decide, fun t ht => hR _ _ ⟨t, D, m, acc, rfl, ?_, p9.same (same_upd ht), upd_same, ?_, ?_⟩⟩
      · exact (Same.kp (s7.trans s8)).trans (kp.trans (kp_new ht))
      · exact same_upd ht _ _ (lst_kp kp hat (s8 _ _ hacc))
      · exact AllK.same (same_upd ht) (AllK.kp kp hat (AllK.same s8 hk))
  rintro v H1 ⟨t, o, m, xs, rfl, kp1, p1, ht, ho, hx⟩
  refine ⟨t, _, rfl, SqT.of ht, rfl, _, _, rfl, _, _, rfl, rfl, ?_⟩
  -- found = [.. if draw < most]
  have hxl : xs.length = 12 := AllK.len hx
  refine asgS (fun v H2 => ∃ f ys ks, v = .ref f ∧ Kp d H1 H2 ∧ Pen H2 d c (n + 13) ∧ H2 f = some (.lst ys) ∧ AllK H2 ys ks ∧ GoodK ks) (fun R hR => ?_) ?_
  · refine ⟨_, rfl, o, rfl, ⟨_, SqL.of ho⟩, fun D hD => ?_⟩
    refine lc_list (K := K) (a := o) (xs := xs) (fun i H2 => Kp d H1 H2 ∧ Pen H2 d c (n + 1 + i) ∧ ∃ acc ks, H2 D = some (.lst acc) ∧ AllK H2 acc ks ∧ ks.Sublist (every.take i)) ⟨kp_new hD, p1.same (same_upd hD), [], [], upd_same, .nil, List.Sublist.refl _⟩ (fun i H2 _ ⟨k2, _⟩ => SqL.of (lst_kp k2 p1.at ho)) ?_ ?_
    · rintro i y H2 hi ⟨k2, p2, acc, ks, hacc, hk, hsub⟩
      have hi12 : i < 12 := by
        have := (List.getElem?_eq_some_iff.mp hi).1
        omega
      refine ⟨rfl, ?_⟩
      refine ⟨_, rfl, d, c, n + 1 + i, 12, rfl, p2, by omega, by decide, by decide, fun H3 r r0 r1 k3 p3 => ?_⟩
      refine ⟨_, rfl, _, _, rfl, rfl, _, rfl, ?_⟩
      obtain ⟨k, hek, hik⟩ := AllK.get hx hi
      have hacc3 := lst_kp k3 p2.at hacc
      have hk3 := AllK.kp k3 p2.at hk
      have hik3 := (hik.kp k2 p1.at).kp k3 p2.at
      refine ite2 (fun _ => ?_) (fun _ => ?_)
      · refine ⟨_, rfl, acc, hacc3, ?_, kp_upd (k2.trans k3) hD, Pen.put p1 hD p3, acc ++ [y], ks ++ [k], upd_same, AllK.append (AllK.put hacc3 hk3) (.cons (IsK.put hacc3 hik3) .nil), sub_next hsub hek⟩
        have h1 := AllK.len hk
        have h2 := hsub.length_le
        rw [List.length_take] at h2
        exact small1000 (by omega)
      · exact ⟨k2.trans k3, p3, acc, ks, hacc3, hk3, sub_stay hsub hek⟩
    · rintro H2 ⟨k2, p2, acc, ks, hacc, hk, hsub⟩
      refine hR _ _ ⟨D, acc, ks, rfl, k2, ?_, hacc, hk, good_of (hsub.trans (List.take_sublist _ _))⟩
      rw [hxl] at p2
      exact p2
  rintro v H2 ⟨f, ys, ks, rfl, kp2, p2, hf, hy, hg⟩
  have hyl : ys.length ≤ 12 := by rw [AllK.len hy]; exact hg.2.2
  -- cut = draw(pen, len(found) + 1)
  refine ⟨_, rfl, _, rfl, f, ys, rfl, .inl (SqL.of hf), _, _, rfl, rfl, d, c, n + 13, _, rfl, p2, by omega, by omega, by omega, fun H3 r r0 r1 k3 p3 => ?_⟩
  have hf3 := lst_kp k3 p2.at hf
  have hy3 := AllK.kp k3 p2.at hy
  obtain ⟨rn, rfl⟩ : ∃ rn : Nat, r = (rn : Int) := ⟨r.toNat, by omega⟩
  dsimp only [gName]
  refine asgS (fun v H4 => ∃ g zs js, v = .ref g ∧ Same H3 H4 ∧ H4 g = some (.lst zs) ∧ AllK H4 zs js ∧ GoodK js) (fun R hR => ?_) ?_
  · refine ⟨_, rfl, _, rfl, _, rfl, f, ys, rfl, SqL.of hf3, fun e1 n1 => ?_⟩
    have s1 := same_upd (o := .lst (cutV ys (some (rn : Int)) none)) n1
    refine ⟨_, rfl, _, rfl, _, rfl, f, ys, rfl, SqL.of (s1 _ _ hf3), fun e2 n2 => ?_⟩
    have s2 := same_upd (o := .lst (cutV ys none (some (rn : Int)))) n2
    refine ⟨e1, e2, _, _, rfl, rfl, s2 _ _ upd_same, upd_same, ?_, fun e3 n3 => ?_⟩
    · rw [cut_drop, cut_take, List.length_drop, List.length_take]
      exact Nat.le_trans (show _ ≤ 1000 by omega) (by decide)
    · have s3 := same_upd (o := .lst (cutV ys (some (rn : Int)) none ++ cutV ys none (some (rn : Int)))) n3
      refine hR _ _ ⟨e3, _, ks.drop rn ++ ks.take rn, rfl, (s1.trans s2).trans s3, upd_same, ?_, ?_⟩
      · rw [cut_drop, cut_take]
        have hy4 := AllK.same ((s1.trans s2).trans s3) hy3
        rw [cut_drop, cut_take] at hy4
        exact AllK.append (AllK.drop rn hy4) (AllK.take rn hy4)
      · have hperm : (ks.drop rn ++ ks.take rn).Perm ks := by
          have := List.perm_append_comm (l₁ := ks.drop rn) (l₂ := ks.take rn)
          rw [List.take_append_drop] at this
          exact this
        exact good_perm hperm hg
  rintro v H4 ⟨g, zs, js, rfl, s4, hg4, hz, hgj⟩
  have kp4 : Kp d H H4 := ((kp1.trans kp2).trans k3).trans (Same.kp s4)
  have p4 := p3.same s4
  -- return
  refine ⟨_, rfl, d, c, n + 14, 4, rfl, p4, by omega, by decide, by decide, fun H5 r5 r50 r51 k5 p5 => ⟨rfl, _, rfl, ?_⟩⟩
  have hg5 := lst_kp k5 p4.at hg4
  have hz5 := AllK.kp k5 p4.at hz
  have hzl : zs.length = js.length := AllK.len hz
  refine ite2 (fun _ => ?_) (fun _ => ?_)
  · refine ⟨_, rfl, g, rfl, ⟨_, SqL.of hg5⟩, fun D hD => ?_⟩
    refine lc_list (K := K) (a := g) (xs := zs) (fun i H6 => Same H5 H6 ∧ ∃ acc ls, H6 D = some (.lst acc) ∧ AllK H6 acc ls ∧ ls.Sublist (js.take i)) ⟨same_upd hD, [], [], upd_same, .nil, List.nil_sublist _⟩ (fun i H6 _ ⟨s6, _⟩ => s6.seq (SqL.of hg5)) ?_ ?_
    · rintro i y H6 hi ⟨s6, acc, ls, hacc, hk, hsub⟩
      obtain ⟨k, hek, hik⟩ := AllK.get hz5 hi
      have hik6 := hik.same s6
      have hsv := hik6
      obtain ⟨b, rfl, hb⟩ := hik6
      refine ⟨rfl, ?_⟩
      refine ⟨_, rfl, b, _, _, _, rfl, rfl, SqT.of hb, rfl, _, _, rfl, rfl, _, rfl, ?_⟩
      refine ite2 (fun _ => ?_) (fun _ => ?_)
      · refine ⟨_, rfl, acc, hacc, ?_, fun b' u e => ?_, acc ++ [.ref b], ls ++ [k], upd_same, AllK.append (AllK.put hacc hk) (.cons (IsK.put hacc hsv) .nil), sub_next hsub hek⟩
        · have h1 := AllK.len hk
          have h2 := hsub.length_le
          rw [List.length_take] at h2
          have h3 := hgj.2.2
          exact small1000 (by omega)
        · rw [upd_ne (ne_of_none e hD)]
          exact s6 _ _ e
      · exact ⟨s6, acc, ls, hacc, hk, sub_stay hsub hek⟩
    · rintro H6 ⟨s6, acc, ls, hacc, hk, hsub⟩
      exact q _ D acc ls ((kp4.trans k5).trans (Same.kp s6)) (p5.same s6) hacc hk (good_sub (hsub.trans (List.take_sublist _ _)) hgj)
  · exact ⟨_, rfl, q _ g zs js (kp4.trans k5) p5 hg5 hz5 hgj⟩
end
end Toy
set_option Elab.async false
set_option linter.all false
set_option maxRecDepth 100000
set_option maxHeartbeats 4000000
namespace Toy
open PySem L2 Sh
def spLaw (K : PySem.W.Frag) : Sp := fun vs H Q _ => ∃ (a : Addr) (ns : List Int), vs = [.ref a] ∧ SqL K H a (ns.map V.int) ∧ ns.length ≤ 63 ∧ ∀ H', Q (.bl true) H'
section
variable {P : Program} {w : World} {K : PySem.W.Frag} {mg : Str → Option Value} {base : Heap}
theorem ok_law (T : Tx K mg) : FnOk P w K mg base CX0 6 T.a_law T.fd_law ["_law_script"] (spLaw K) := by
  refine T.F_law.ok sc_law (fun vs H Q E h => ?_) (fun cdv A outer s H vs Q E hr h => ?_)
  · obtain ⟨a, ns, rfl, _⟩ := h
    rfl
  have hu := hu_of hr
  obtain ⟨a, ns, rfl, hS, _, q⟩ := h
  refine ⟨_, (pss_cons (ps_set (i := 1) sc_law.nd rfl (by first | exact Or.inl rfl | exact Or.inr rfl) (pe_call (ok_l_pen_of T) (hr.mono (by decide)) (by rfl) T.m_l_pen_of T.F_l_pen_of.kp T.bi_l_pen_of .nil pass0 (pa_cons (pv 0) pa_nil)))
 (pss_cons (ps_for PassesOwn.never rfl (pi_range1 (by rfl) T.b_range (pa_cons pe_int pa_nil)) (pg_name (i := 2) sc_law.nd rfl (by first | exact Or.inl rfl | exact Or.inr rfl))
 (pss_cons (ps_set (i := 3) sc_law.nd rfl (by first | exact Or.inl rfl | exact Or.inr rfl) (pe_tup (pa_cons (pe_call (ok_l_side T) (hr.mono (by decide)) (by rfl) T.m_l_side T.F_l_side.kp T.bi_l_side .nil pass0 (pa_cons (pv 1) pa_nil)) (pa_cons (pe_call (ok_l_side T) (hr.mono (by decide)) (by rfl) T.m_l_side T.F_l_side.kp T.bi_l_side .nil pass0 (pa_cons (pv 1) pa_nil)) pa_nil))))
 (pss_cons (ps_set (i := 4) sc_law.nd rfl (by first | exact Or.inl rfl | exact Or.inr rfl) (pe_call (ok_l_rule_made T) (hr.mono (by decide)) (by rfl) T.m_l_rule_made T.F_l_rule_made.kp T.bi_l_rule_made .nil pass0 (pa_cons (pv 3) pa_nil)))
 (pss_one (ps_for PassesOwn.never rfl (pi_list (pe_call (ok_l_cells T) (hr.mono (by decide)) (by rfl) T.m_l_cells T.F_l_cells.kp T.bi_l_cells .nil pass0 (pa_cons (pe_lst (pa_cons (pe_op op_add pe_int (pe_call (ok_l_draw T) (hr.mono (by decide)) (by rfl) T.m_l_draw T.F_l_draw.kp T.bi_l_draw .nil pass0 (pa_cons (pv 1) (pa_cons pe_int pa_nil)))) pa_nil)) pa_nil))) (pg_name (i := 5) sc_law.nd rfl (by first | exact Or.inl rfl | exact Or.inr rfl))
 (pss_one (ps_for PassesOwn.never rfl (pi_range1 (by rfl) T.b_range (pa_cons pe_int pa_nil)) (pg_name (i := 6) sc_law.nd rfl (by first | exact Or.inl rfl | exact Or.inr rfl))
 (pss_one (ps_for PassesOwn.never rfl (pi_list (pe_lst (pa_cons pe_bl (pa_cons pe_bl pa_nil)))) (pg_name (i := 7) sc_law.nd rfl (by first | exact Or.inl rfl | exact Or.inr rfl))
 (pss_one (ps_if (pt_not (pt_val (pe_call (ok_l_truth T) (hr.mono (by decide)) (by rfl) T.m_l_truth T.F_l_truth.kp T.bi_l_truth .nil pass0 (pa_cons (pe_call (ok_is_let T) (hr.mono (by decide)) (by rfl) T.m_is_let T.F_is_let.kp T.bi_is_let .nil pass0 (pa_cons (pv 4) (pa_cons (pv 5) (pa_cons (pv 6) (pa_cons (pv 7) pa_nil))))) (pa_cons (pe_call (ok_l_let T) (hr.mono (by decide)) (by rfl) T.m_l_let T.F_l_let.kp T.bi_l_let .nil pass0 (pa_cons (pv 3) (pa_cons (pv 5) (pa_cons (pv 6) (pa_cons (pv 7) pa_nil))))) pa_nil)))))
 (pss_one (ps_ret pe_bl))
 pss_nil)))))))))))
 (pss_one (ps_ret pe_bl)))), ?_⟩
  refine ⟨_, rfl, a, ns, rfl, hS, fun H1 d c s1 p1 => ?_⟩
  refine ⟨2, rfl, by decide, by decide, for_range (lo := 0) (n := 2) (fun i σ H' => ∃ v2 v3 v4 v5 v6 v7, σ = [some (.ref a), some (.ref d), v2, v3, v4, v5, v6, v7] ∧ Pen H' d c (31 * i)) ⟨none, none, none, none, none, none, rfl, p1⟩ ?_ ?_⟩
  · rintro i σ H2 hi ⟨v2, v3, v4, v5, v6, v7, rfl, p2⟩
    -- rule = (side(pen), side(pen))
    dsimp only [gName]
    refine asgS (fun v H3 => ∃ t x y xs ys ks ls, v = .ref t ∧ Pen H3 d c (31 * i + 30) ∧ H3 t = some (.tup [.ref x, .ref y]) ∧ H3 x = some (.lst xs) ∧ H3 y = some (.lst ys) ∧ AllK H3 xs ks ∧ AllK H3 ys ls ∧ GoodK ks ∧ GoodK ls) (fun R hR => ?_) ?_
    · refine ⟨_, rfl, d, c, 31 * i, rfl, p2, by omega, fun H3 x xs ks k3 p3 hx ax gx => ?_⟩
      refine ⟨_, rfl, d, c, 31 * i + 15, rfl, p3, by omega, fun H4 y ys ls k4 p4 hy ay gy => ?_⟩
      refine ⟨by show 2 ≤ sizeLine; decide, fun t ht => ?_⟩
      have s5 := same_upd (o := .tup [.ref x, .ref y]) ht
      exact hR _ _ ⟨t, x, y, xs, ys, ks, ls, rfl, p4.same s5, upd_same, s5 _ _ (lst_kp k4 p3.at hx), s5 _ _ hy, AllK.same s5 (AllK.kp k4 p3.at ax), AllK.same s5 ay, gx, gy⟩
    rintro v H3 ⟨t, x, y, xs, ys, ks, ls, rfl, p3, ht, hx, hy, ax, ay, gx, gy⟩
    -- made = rule_made(rule)
    refine ⟨_, rfl, t, x, y, xs, ys, ks, ls, rfl, ht, hx, hy, ax, ay, gx, gy, fun H4 p js1 js2 s4 R4 eq1 eq2 => ?_⟩
    have l1 : js1.length ≤ 12 := by rw [eq1.2]; exact gx.2.2
    have l2 : js2.length ≤ 12 := by rw [eq2.2]; exact gy.2.2
    have p4 := p3.same s4
    -- cells([1 + draw(pen, 9)])
    refine ⟨_, rfl, d, c, 31 * i + 30, 9, rfl, p4, by omega, by decide, by decide, fun H5 r r0 r1 k5 p5 => ⟨_, _, rfl, rfl, by show 1 ≤ sizeLine; decide, fun e he => ?_⟩⟩
    have s6 := same_upd (o := .lst [.int (1 + r)]) he
    refine ⟨e, 1 + r, rfl, upd_same, fun H7 cs zs s7 hcs hcell hlen => ?_⟩
    have ht4 := s4 _ _ ht
    have hat := p4.at
    have tup_kp : ∀ {o xs}, H4 o = some (.tup xs) → H5 o = some (.tup xs) := fun {o xs} h => by
      obtain ⟨kvs, hd⟩ := hat
      exact k5 _ _ h (ne_of h hd (by intro z; cases z))
    have R5 : RuleAt T.c_Rule H5 p js1 js2 := by
      obtain ⟨dx, p1, p2, ys1, ys2, h1, h2, h3, h4, h5⟩ := R4
      obtain ⟨kvs, hd⟩ := id hat
      exact ⟨dx, p1, p2, ys1, ys2, k5 _ _ h1 (ne_of h1 hd (by intro z; cases z)), tup_kp h2, tup_kp h3, AllK.kp k5 hat h4, AllK.kp k5 hat h5⟩
    have s8 := s6.trans s7
    have R7 := R5.same s8
    have ht7 := s8 _ _ (tup_kp ht4)
    have hx7 := s8 _ _ (lst_kp k5 hat (s4 _ _ hx))
    have hy7 := s8 _ _ (lst_kp k5 hat (s4 _ _ hy))
    have ax7 := AllK.same s8 (AllK.kp k5 hat (AllK.same s4 ax))
    have ay7 := AllK.same s8 (AllK.kp k5 hat (AllK.same s4 ay))
    have p7 : Pen H7 d c (31 * (i + 1)) := p5.same s8
    clear tup_kp
    refine ⟨cs, rfl, ⟨_, SqL.of hcs⟩, for_list (K := K) (a := cs) (xs := zs) (fun j σ H' => ∃ v5 v6 v7, σ = [some (.ref a), some (.ref d), some (.int (0 + (i : Int))), some (.ref t), some (.ref p), v5, v6, v7] ∧ Same H7 H') ⟨v5, v6, v7, rfl, Same.refl _⟩ (fun j σ H' _ ⟨_, _, _, _, h⟩ => h.seq (SqL.of hcs)) ?_ ?_⟩
    · rintro j cv σ H8 hj ⟨v5, v6, v7, rfl, s9⟩
      obtain ⟨cc, hcc⟩ := hcell cv (List.mem_of_getElem? hj)
      dsimp only [gName]
      refine ⟨3, rfl, by decide, by decide, for_range (lo := 0) (n := 3) (fun k σ H' => ∃ v6 v7, σ = [some (.ref a), some (.ref d), some (.int (0 + (i : Int))), some (.ref t), some (.ref p), some cv, v6, v7] ∧ Same H7 H') ⟨v6, v7, rfl, s9⟩ ?_ ?_⟩
      · rintro k σ H9 hk ⟨v6, v7, rfl, s10⟩
        dsimp only [gName]
        refine ⟨by show 2 ≤ sizeLine; decide, fun e2 ne2 => ?_⟩
        have s11 := same_upd (o := .lst [.bl false, .bl true]) ne2
        refine ⟨e2, rfl, ⟨_, SqL.of upd_same⟩, for_list (K := K) (a := e2) (xs := [V.bl false, V.bl true]) (fun m σ H' => ∃ v7, σ = [some (.ref a), some (.ref d), some (.int (0 + (i : Int))), some (.ref t), some (.ref p), some cv, some (.int (0 + (k : Int))), v7] ∧ Same H7 H' ∧ H' e2 = some (.lst [.bl false, .bl true])) ⟨v7, rfl, s10.trans s11, upd_same⟩ (fun m σ H' _ ⟨_, _, _, h⟩ => SqL.of h) ?_ ?_⟩
        · rintro m y σ H10 hm ⟨v7, rfl, s12, he2⟩
          obtain ⟨rt, rfl⟩ : ∃ rt, y = V.bl rt := by
            have := List.mem_of_getElem? hm
            simp only [List.mem_cons, List.not_mem_nil, or_false] at this
            rcases this with rfl | rfl <;> exact ⟨_, rfl⟩
          dsimp only [gName]
          refine ⟨_, rfl, _, rfl, _, rfl, _, rfl, p, js1, js2, cv, cc, 0 + (k : Int), rt, rfl, R7.same s12, l1, l2, hcc.same s12, fun H11 s13 => ?_⟩
          have s14 := s12.trans s13
          refine ⟨_, rfl, _, rfl, _, rfl, _, rfl, t, x, y, xs, ys, ks, ls, cv, cc, 0 + (k : Int), rt, rfl, s14 _ _ ht7, s14 _ _ hx7, s14 _ _ hy7, AllK.same s14 ax7, AllK.same s14 ay7, gx.2.2, gy.2.2, hcc.same s14, fun H12 s15 => ?_⟩
          refine ⟨letB ks ls cc (0 + (k : Int)) rt, by rw [letB_congr eq1 eq2]; rfl, _, rfl, ?_⟩
          refine iteF ?_
          exact ⟨_, rfl, s14.trans s15, s15 _ _ (s13 _ _ he2)⟩
        · rintro σ H10 ⟨v7, rfl, s12, he2⟩
          exact ⟨_, _, rfl, s12⟩
      · rintro σ H9 ⟨v6, v7, rfl, s10⟩
        exact ⟨_, _, _, rfl, s10⟩
    · rintro σ H8 ⟨v5, v6, v7, rfl, s9⟩
      exact ⟨_, _, _, _, _, _, rfl, p7.same s9⟩
  · rintro σ H2 ⟨v2, v3, v4, v5, v6, v7, rfl, p2⟩
    exact q _
end
end Toy
set_option Elab.async false
set_option linter.all false
set_option maxRecDepth 100000
set_option maxHeartbeats 4000000
namespace Toy
open PySem L2 Sh
def tx_mk {K : PySem.W.Frag} {h : Heap} {mg : Str → Option Value} {C_Rule f_is_let f_is_kind f_kinds_of f_Rule_init f_l_pen_of f_l_draw f_l_pick f_l_rule_made f_l_let f_l_cells f_l_truth f_l_side f_law : Addr} {oc_is_let kV_is_let dc_is_let pm_is_let cd_is_let ct_is_let : Value} {od_is_let an_is_let : Option Addr} {sl_is_let : Array (Option Value)} {oc_is_kind kV_is_kind dc_is_kind pm_is_kind cd_is_kind ct_is_kind : Value} {od_is_kind an_is_kind : Option Addr} {sl_is_kind : Array (Option Value)} {oc_kinds_of kV_kinds_of dc_kinds_of pm_kinds_of cd_kinds_of ct_kinds_of : Value} {od_kinds_of an_kinds_of : Option Addr} {sl_kinds_of : Array (Option Value)} {oc_Rule_init kV_Rule_init dc_Rule_init pm_Rule_init cd_Rule_init ct_Rule_init : Value} {od_Rule_init an_Rule_init : Option Addr} {sl_Rule_init : Array (Option Value)} {oc_l_pen_of kV_l_pen_of dc_l_pen_of pm_l_pen_of cd_l_pen_of ct_l_pen_of : Value} {od_l_pen_of an_l_pen_of : Option Addr} {sl_l_pen_of : Array (Option Value)} {oc_l_draw kV_l_draw dc_l_draw pm_l_draw cd_l_draw ct_l_draw : Value} {od_l_draw an_l_draw : Option Addr} {sl_l_draw : Array (Option Value)} {oc_l_pick kV_l_pick dc_l_pick pm_l_pick cd_l_pick ct_l_pick : Value} {od_l_pick an_l_pick : Option Addr} {sl_l_pick : Array (Option Value)} {oc_l_rule_made kV_l_rule_made dc_l_rule_made pm_l_rule_made cd_l_rule_made ct_l_rule_made : Value} {od_l_rule_made an_l_rule_made : Option Addr} {sl_l_rule_made : Array (Option Value)} {oc_l_let kV_l_let dc_l_let pm_l_let cd_l_let ct_l_let : Value} {od_l_let an_l_let : Option Addr} {sl_l_let : Array (Option Value)} {oc_l_cells kV_l_cells dc_l_cells pm_l_cells cd_l_cells ct_l_cells : Value} {od_l_cells an_l_cells : Option Addr} {sl_l_cells : Array (Option Value)} {oc_l_truth kV_l_truth dc_l_truth pm_l_truth cd_l_truth ct_l_truth : Value} {od_l_truth an_l_truth : Option Addr} {sl_l_truth : Array (Option Value)} {oc_l_side kV_l_side dc_l_side pm_l_side cd_l_side ct_l_side : Value} {od_l_side an_l_side : Option Addr} {sl_l_side : Array (Option Value)} {oc_law kV_law dc_law pm_law cd_law ct_law : Value} {od_law an_law : Option Addr} {sl_law : Array (Option Value)} (X : K.In h) (G : h.Ns mainGlobals mg)
  (aC_Rule : PySem.W.nsIn K mainGlobals "Rule" = some (some (.ref C_Rule)))
  (pg_Rule : PySem.W.plainGet K C_Rule Str.empty = true) (hd_Rule : PySem.W.hasDictIn K C_Rule = true) (po_Rule : PySem.W.plainOver K C_Rule = true) (sa_Rule : PySem.W.findIn K (.ref C_Rule) "__setattr__" = some (some (.builtin "object.__setattr__"))) (mk_Rule : PySem.W.makesIn K C_Rule = true) (kc_Rule : PySem.W.keepIn K (.ref C_Rule) = true)
  (na_Rule_root : PySem.W.findIn K (.ref C_Rule) "root" = some none)
  (na_Rule_others : PySem.W.findIn K (.ref C_Rule) "others" = some none)
  (z_len : PySem.W.nsIn K mainGlobals "len" = some none)
  (z_min : PySem.W.nsIn K mainGlobals "min" = some none)
  (z_isinstance : PySem.W.nsIn K mainGlobals "isinstance" = some none)
  (z_bool : PySem.W.nsIn K mainGlobals "bool" = some none)
  (z_int : PySem.W.nsIn K mainGlobals "int" = some none)
  (z_list : PySem.W.nsIn K mainGlobals "list" = some none)
  (z_tuple : PySem.W.nsIn K mainGlobals "tuple" = some none)
  (z_enumerate : PySem.W.nsIn K mainGlobals "enumerate" = some none)
  (z_sorted : PySem.W.nsIn K mainGlobals "sorted" = some none)
  (z_abs : PySem.W.nsIn K mainGlobals "abs" = some none)
  (z_any : PySem.W.nsIn K mainGlobals "any" = some none)
  (z_range : PySem.W.nsIn K mainGlobals "range" = some none)
  (a_is_let : PySem.W.nsIn K mainGlobals "is_let" = some (some (.ref f_is_let)))
  (l_is_let : K.lookup f_is_let = some ⟨oc_is_let, od_is_let, .func (PySem.W.fnOf "is_let" "is_let" (defArgs s_is_let) (defBody s_is_let) (defScope s_is_let) .none kV_is_let dc_is_let pm_is_let an_is_let cd_is_let ct_is_let), sl_is_let⟩) (c_is_let : PySem.W.codeIn K cd_is_let "is_let" = true) (k_is_let : PySem.W.keepIn K (.ref f_is_let) = true)
  (a_is_kind : PySem.W.nsIn K mainGlobals "is_kind" = some (some (.ref f_is_kind)))
  (l_is_kind : K.lookup f_is_kind = some ⟨oc_is_kind, od_is_kind, .func (PySem.W.fnOf "is_kind" "is_kind" (defArgs s_is_kind) (defBody s_is_kind) (defScope s_is_kind) .none kV_is_kind dc_is_kind pm_is_kind an_is_kind cd_is_kind ct_is_kind), sl_is_kind⟩) (c_is_kind : PySem.W.codeIn K cd_is_kind "is_kind" = true) (k_is_kind : PySem.W.keepIn K (.ref f_is_kind) = true)
  (a_kinds_of : PySem.W.nsIn K mainGlobals "kinds_of" = some (some (.ref f_kinds_of)))
  (l_kinds_of : K.lookup f_kinds_of = some ⟨oc_kinds_of, od_kinds_of, .func (PySem.W.fnOf "kinds_of" "kinds_of" (defArgs s_kinds_of) (defBody s_kinds_of) (defScope s_kinds_of) .none kV_kinds_of dc_kinds_of pm_kinds_of an_kinds_of cd_kinds_of ct_kinds_of), sl_kinds_of⟩) (c_kinds_of : PySem.W.codeIn K cd_kinds_of "kinds_of" = true) (k_kinds_of : PySem.W.keepIn K (.ref f_kinds_of) = true)
  (a_Rule_init : PySem.W.findIn K (.ref C_Rule) "__init__" = some (some (.ref f_Rule_init))) (i_Rule_init : PySem.W.isFn K (.ref f_Rule_init) = true)
  (l_Rule_init : K.lookup f_Rule_init = some ⟨oc_Rule_init, od_Rule_init, .func (PySem.W.fnOf "__init__" "Rule.__init__" (defArgs s_Rule_init) (defBody s_Rule_init) (defScope s_Rule_init) .none kV_Rule_init dc_Rule_init pm_Rule_init an_Rule_init cd_Rule_init ct_Rule_init), sl_Rule_init⟩) (c_Rule_init : PySem.W.codeIn K cd_Rule_init "Rule.__init__" = true) (k_Rule_init : PySem.W.keepIn K (.ref f_Rule_init) = true)
  (a_l_pen_of : PySem.W.nsIn K mainGlobals "_law_pen_of" = some (some (.ref f_l_pen_of)))
  (l_l_pen_of : K.lookup f_l_pen_of = some ⟨oc_l_pen_of, od_l_pen_of, .func (PySem.W.fnOf "_law_pen_of" "_law_pen_of" (defArgs s_l_pen_of) (defBody s_l_pen_of) (defScope s_l_pen_of) .none kV_l_pen_of dc_l_pen_of pm_l_pen_of an_l_pen_of cd_l_pen_of ct_l_pen_of), sl_l_pen_of⟩) (c_l_pen_of : PySem.W.codeIn K cd_l_pen_of "_law_pen_of" = true) (k_l_pen_of : PySem.W.keepIn K (.ref f_l_pen_of) = true)
  (a_l_draw : PySem.W.nsIn K mainGlobals "_law_draw" = some (some (.ref f_l_draw)))
  (l_l_draw : K.lookup f_l_draw = some ⟨oc_l_draw, od_l_draw, .func (PySem.W.fnOf "_law_draw" "_law_draw" (defArgs s_l_draw) (defBody s_l_draw) (defScope s_l_draw) .none kV_l_draw dc_l_draw pm_l_draw an_l_draw cd_l_draw ct_l_draw), sl_l_draw⟩) (c_l_draw : PySem.W.codeIn K cd_l_draw "_law_draw" = true) (k_l_draw : PySem.W.keepIn K (.ref f_l_draw) = true)
  (a_l_pick : PySem.W.nsIn K mainGlobals "_law_pick" = some (some (.ref f_l_pick)))
  (l_l_pick : K.lookup f_l_pick = some ⟨oc_l_pick, od_l_pick, .func (PySem.W.fnOf "_law_pick" "_law_pick" (defArgs s_l_pick) (defBody s_l_pick) (defScope s_l_pick) .none kV_l_pick dc_l_pick pm_l_pick an_l_pick cd_l_pick ct_l_pick), sl_l_pick⟩) (c_l_pick : PySem.W.codeIn K cd_l_pick "_law_pick" = true) (k_l_pick : PySem.W.keepIn K (.ref f_l_pick) = true)
  (a_l_rule_made : PySem.W.nsIn K mainGlobals "_law_rule_made" = some (some (.ref f_l_rule_made)))
  (l_l_rule_made : K.lookup f_l_rule_made = some ⟨oc_l_rule_made, od_l_rule_made, .func (PySem.W.fnOf "_law_rule_made" "_law_rule_made" (defArgs s_l_rule_made) (defBody s_l_rule_made) (defScope s_l_rule_made) .none kV_l_rule_made dc_l_rule_made pm_l_rule_made an_l_rule_made cd_l_rule_made ct_l_rule_made), sl_l_rule_made⟩) (c_l_rule_made : PySem.W.codeIn K cd_l_rule_made "_law_rule_made" = true) (k_l_rule_made : PySem.W.keepIn K (.ref f_l_rule_made) = true)
  (a_l_let : PySem.W.nsIn K mainGlobals "_law_let" = some (some (.ref f_l_let)))
  (l_l_let : K.lookup f_l_let = some ⟨oc_l_let, od_l_let, .func (PySem.W.fnOf "_law_let" "_law_let" (defArgs s_l_let) (defBody s_l_let) (defScope s_l_let) .none kV_l_let dc_l_let pm_l_let an_l_let cd_l_let ct_l_let), sl_l_let⟩) (c_l_let : PySem.W.codeIn K cd_l_let "_law_let" = true) (k_l_let : PySem.W.keepIn K (.ref f_l_let) = true)
  (a_l_cells : PySem.W.nsIn K mainGlobals "_law_cells" = some (some (.ref f_l_cells)))
  (l_l_cells : K.lookup f_l_cells = some ⟨oc_l_cells, od_l_cells, .func (PySem.W.fnOf "_law_cells" "_law_cells" (defArgs s_l_cells) (defBody s_l_cells) (defScope s_l_cells) .none kV_l_cells dc_l_cells pm_l_cells an_l_cells cd_l_cells ct_l_cells), sl_l_cells⟩) (c_l_cells : PySem.W.codeIn K cd_l_cells "_law_cells" = true) (k_l_cells : PySem.W.keepIn K (.ref f_l_cells) = true)
  (a_l_truth : PySem.W.nsIn K mainGlobals "_law_truth" = some (some (.ref f_l_truth)))
  (l_l_truth : K.lookup f_l_truth = some ⟨oc_l_truth, od_l_truth, .func (PySem.W.fnOf "_law_truth" "_law_truth" (defArgs s_l_truth) (defBody s_l_truth) (defScope s_l_truth) .none kV_l_truth dc_l_truth pm_l_truth an_l_truth cd_l_truth ct_l_truth), sl_l_truth⟩) (c_l_truth : PySem.W.codeIn K cd_l_truth "_law_truth" = true) (k_l_truth : PySem.W.keepIn K (.ref f_l_truth) = true)
  (a_l_side : PySem.W.nsIn K mainGlobals "_law_side" = some (some (.ref f_l_side)))
  (l_l_side : K.lookup f_l_side = some ⟨oc_l_side, od_l_side, .func (PySem.W.fnOf "_law_side" "_law_side" (defArgs s_l_side) (defBody s_l_side) (defScope s_l_side) .none kV_l_side dc_l_side pm_l_side an_l_side cd_l_side ct_l_side), sl_l_side⟩) (c_l_side : PySem.W.codeIn K cd_l_side "_law_side" = true) (k_l_side : PySem.W.keepIn K (.ref f_l_side) = true)
  (a_law : PySem.W.nsIn K mainGlobals "law" = some (some (.ref f_law)))
  (l_law : K.lookup f_law = some ⟨oc_law, od_law, .func (PySem.W.fnOf "law" "law" (defArgs s_law) (defBody s_law) (defScope s_law) .none kV_law dc_law pm_law an_law cd_law ct_law), sl_law⟩) (c_law : PySem.W.codeIn K cd_law "law" = true) (k_law : PySem.W.keepIn K (.ref f_law) = true) : Tx K mg where
  b_len := PySem.W.mg_none_of X G z_len
  b_min := PySem.W.mg_none_of X G z_min
  b_isinstance := PySem.W.mg_none_of X G z_isinstance
  b_bool := PySem.W.mg_none_of X G z_bool
  b_int := PySem.W.mg_none_of X G z_int
  b_list := PySem.W.mg_none_of X G z_list
  b_tuple := PySem.W.mg_none_of X G z_tuple
  b_enumerate := PySem.W.mg_none_of X G z_enumerate
  b_sorted := PySem.W.mg_none_of X G z_sorted
  b_abs := PySem.W.mg_none_of X G z_abs
  b_any := PySem.W.mg_none_of X G z_any
  b_range := PySem.W.mg_none_of X G z_range
  c_Rule := C_Rule
  m_Rule := PySem.W.mg_of X G aC_Rule
  cl_Rule := ⟨pg_Rule, hd_Rule, po_Rule, sa_Rule⟩
  na_Rule_root := na_Rule_root
  na_Rule_others := na_Rule_others
  a_is_let := f_is_let
  fd_is_let := _
  F_is_let := fun_mk (st := s_is_let) l_is_let c_is_let k_is_let
  bi_is_let := (fun_mk (st := s_is_let) l_is_let c_is_let k_is_let).binds (ps := ["rule", "cell", "there", "root"]) fun _ _ _ _ _ _ us hl => match us, hl with | [_, _, _, _], _ => rfl
  m_is_let := PySem.W.mg_of X G a_is_let
  a_is_kind := f_is_kind
  fd_is_kind := _
  F_is_kind := fun_mk (st := s_is_kind) l_is_kind c_is_kind k_is_kind
  bi_is_kind := (fun_mk (st := s_is_kind) l_is_kind c_is_kind k_is_kind).binds (ps := ["kind"]) fun _ _ _ _ _ _ us hl => match us, hl with | [_], _ => rfl
  m_is_kind := PySem.W.mg_of X G a_is_kind
  a_kinds_of := f_kinds_of
  fd_kinds_of := _
  F_kinds_of := fun_mk (st := s_kinds_of) l_kinds_of c_kinds_of k_kinds_of
  bi_kinds_of := (fun_mk (st := s_kinds_of) l_kinds_of c_kinds_of k_kinds_of).binds (ps := ["side", "kinds"]) fun _ _ _ _ _ _ us hl => match us, hl with | [_, _], _ => rfl
  m_kinds_of := PySem.W.mg_of X G a_kinds_of
  a_Rule_init := f_Rule_init
  fd_Rule_init := _
  F_Rule_init := fun_mk (st := s_Rule_init) l_Rule_init c_Rule_init k_Rule_init
  bi_Rule_init := (fun_mk (st := s_Rule_init) l_Rule_init c_Rule_init k_Rule_init).binds (ps := ["self", "root", "others"]) fun _ _ _ _ _ _ us hl => match us, hl with | [_, _, _], _ => rfl
  mk_Rule := ⟨mk_Rule, a_Rule_init, i_Rule_init, kc_Rule⟩
  a_l_pen_of := f_l_pen_of
  fd_l_pen_of := _
  F_l_pen_of := fun_mk (st := s_l_pen_of) l_l_pen_of c_l_pen_of k_l_pen_of
  bi_l_pen_of := (fun_mk (st := s_l_pen_of) l_l_pen_of c_l_pen_of k_l_pen_of).binds (ps := ["_law_script"]) fun _ _ _ _ _ _ us hl => match us, hl with | [_], _ => rfl
  m_l_pen_of := PySem.W.mg_of X G a_l_pen_of
  a_l_draw := f_l_draw
  fd_l_draw := _
  F_l_draw := fun_mk (st := s_l_draw) l_l_draw c_l_draw k_l_draw
  bi_l_draw := (fun_mk (st := s_l_draw) l_l_draw c_l_draw k_l_draw).binds (ps := ["_law_pen", "_law_many"]) fun _ _ _ _ _ _ us hl => match us, hl with | [_, _], _ => rfl
  m_l_draw := PySem.W.mg_of X G a_l_draw
  a_l_pick := f_l_pick
  fd_l_pick := _
  F_l_pick := fun_mk (st := s_l_pick) l_l_pick c_l_pick k_l_pick
  bi_l_pick := (fun_mk (st := s_l_pick) l_l_pick c_l_pick k_l_pick).binds (ps := ["_law_pen", "_law_menu"]) fun _ _ _ _ _ _ us hl => match us, hl with | [_, _], _ => rfl
  m_l_pick := PySem.W.mg_of X G a_l_pick
  a_l_rule_made := f_l_rule_made
  fd_l_rule_made := _
  F_l_rule_made := fun_mk (st := s_l_rule_made) l_l_rule_made c_l_rule_made k_l_rule_made
  bi_l_rule_made := (fun_mk (st := s_l_rule_made) l_l_rule_made c_l_rule_made k_l_rule_made).binds (ps := ["_law_rule"]) fun _ _ _ _ _ _ us hl => match us, hl with | [_], _ => rfl
  m_l_rule_made := PySem.W.mg_of X G a_l_rule_made
  a_l_let := f_l_let
  fd_l_let := _
  F_l_let := fun_mk (st := s_l_let) l_l_let c_l_let k_l_let
  bi_l_let := (fun_mk (st := s_l_let) l_l_let c_l_let k_l_let).binds (ps := ["_law_rule", "_law_cell", "_law_there", "_law_root"]) fun _ _ _ _ _ _ us hl => match us, hl with | [_, _, _, _], _ => rfl
  m_l_let := PySem.W.mg_of X G a_l_let
  a_l_cells := f_l_cells
  fd_l_cells := _
  F_l_cells := fun_mk (st := s_l_cells) l_l_cells c_l_cells k_l_cells
  bi_l_cells := (fun_mk (st := s_l_cells) l_l_cells c_l_cells k_l_cells).binds (ps := ["_law_values"]) fun _ _ _ _ _ _ us hl => match us, hl with | [_], _ => rfl
  m_l_cells := PySem.W.mg_of X G a_l_cells
  a_l_truth := f_l_truth
  fd_l_truth := _
  F_l_truth := fun_mk (st := s_l_truth) l_l_truth c_l_truth k_l_truth
  bi_l_truth := (fun_mk (st := s_l_truth) l_l_truth c_l_truth k_l_truth).binds (ps := ["_law_found", "_law_due"]) fun _ _ _ _ _ _ us hl => match us, hl with | [_, _], _ => rfl
  m_l_truth := PySem.W.mg_of X G a_l_truth
  a_l_side := f_l_side
  fd_l_side := _
  F_l_side := fun_mk (st := s_l_side) l_l_side c_l_side k_l_side
  bi_l_side := (fun_mk (st := s_l_side) l_l_side c_l_side k_l_side).binds (ps := ["_law_pen"]) fun _ _ _ _ _ _ us hl => match us, hl with | [_], _ => rfl
  m_l_side := PySem.W.mg_of X G a_l_side
  a_law := f_law
  fd_law := _
  F_law := fun_mk (st := s_law) l_law c_law k_law
  bi_law := (fun_mk (st := s_law) l_law c_law k_law).binds (ps := ["_law_script"]) fun _ _ _ _ _ _ us hl => match us, hl with | [_], _ => rfl
  m_law := PySem.W.mg_of X G a_law
theorem walk {l : PySem.W.OpenLaw} {q : Program} {loose : List Str} {XP : (Str → Option Value) → Heap → Prop} {YP : World → Heap → Prop} {d : DefRec} {K : Params → PySem.W.Frag} (hn : l.most = some 63) (hdf : d.params.defaults = [])
    (hY : ∀ (w : World) (h : Heap), YP w h → (K w.params).In h)
    (F : ∀ (w : World) (mg : Str → Option Value) (fa : Addr) (h : Heap), (K w.params).In h → h.Ns mainGlobals mg → mg d.name = some (.ref fa) →
      ∃ fd : FuncData, (∀ (s : Shared) (u : Value), BindsTo s fd ⟨[u], []⟩ [("_law_script", u)]) ∧ ∀ base : Heap, (K w.params).In base → base.Ns mainGlobals mg → FnOk l.prog w (K w.params) mg base CX0 6 fa fd ["_law_script"] (spLaw (K w.params))) :
    PySem.W.WalkO q loose XP YP l.row.toRowW d [] (fun f vs => PySem.call f vs) :=
  L2.walk_of (n := 63) (k := 6) (x := "_law_script") (CX := fun _ => CX0) (sp := fun w => spLaw (K w.params)) hn (by decide) hdf ⟨rfl, by decide, by decide⟩ hY F (fun _ _ a ns hl _ hS => ⟨a, ns, rfl, hS, hl, fun _ => rfl⟩) fun _ _ _ _ _ z => z
theorem all_of {l : PySem.W.OpenLaw} {w : World} {K : PySem.W.Frag} {mg : Str → Option Value} {fa : Addr} (hfa : mg "law" = some (.ref fa)) (T : Tx K mg) :
    ∃ fd : FuncData, (∀ (s : Shared) (v : Value), BindsTo s fd ⟨[v], []⟩ [("_law_script", v)]) ∧ ∀ base : Heap, K.In base → base.Ns mainGlobals mg → FnOk l.prog w K mg base CX0 6 fa fd ["_law_script"] (spLaw K) := by
  have e := hfa.symm.trans T.m_law
  cases e
  refine ⟨T.fd_law, fun s v => ?_, fun base _ _ => ok_law T⟩
  obtain ⟨oc, od, kV, doc, pm, an, cdv, ct, osl, h, _⟩ := T.F_law.ex
  rw [h]
  exact .of_eq rfl
end Toy
open PySem PySem.W PyProof.Rows
set_option maxRecDepth 100000 in
set_option maxHeartbeats 0 in
theorem PySem.Challenge.cw_treeshed_k28_cells_that_are_let_holds : PySem.Challenge.rw_treeshed_k28_cells_that_are_let.Holds := by
  w_on; o_law; k_head; (case hw => w_witness2)
  k_fill
  refine Toy.walk (l := PySem.Challenge.rw_treeshed_k28_cells_that_are_let) rfl rfl (fun w h Y => PySem.W.kIn_of Y) ?F
  case F =>
    intro w mg fa h KX G hmg
    refine Toy.all_of hmg ?T
    refine' Toy.tx_mk KX G ?aC_Rule ?pg_Rule ?hd_Rule ?po_Rule ?sa_Rule ?mk_Rule ?kc_Rule ?na_Rule_root ?na_Rule_others ?z_len ?z_min ?z_isinstance ?z_bool ?z_int ?z_list ?z_tuple ?z_enumerate ?z_sorted ?z_abs ?z_any ?z_range ?a_is_let ?l_is_let ?c_is_let ?k_is_let ?a_is_kind ?l_is_kind ?c_is_kind ?k_is_kind ?a_kinds_of ?l_kinds_of ?c_kinds_of ?k_kinds_of ?a_Rule_init ?i_Rule_init ?l_Rule_init ?c_Rule_init ?k_Rule_init ?a_l_pen_of ?l_l_pen_of ?c_l_pen_of ?k_l_pen_of ?a_l_draw ?l_l_draw ?c_l_draw ?k_l_draw ?a_l_pick ?l_l_pick ?c_l_pick ?k_l_pick ?a_l_rule_made ?l_l_rule_made ?c_l_rule_made ?k_l_rule_made ?a_l_let ?l_l_let ?c_l_let ?k_l_let ?a_l_cells ?l_l_cells ?c_l_cells ?k_l_cells ?a_l_truth ?l_l_truth ?c_l_truth ?k_l_truth ?a_l_side ?l_l_side ?c_l_side ?k_l_side ?a_law ?l_law ?c_law ?k_law
    (case aC_Rule => k_is)
    (case pg_Rule => k_is)
    (case hd_Rule => k_is)
    (case po_Rule => k_is)
    (case sa_Rule => k_is)
    (case mk_Rule => k_is)
    (case kc_Rule => k_is)
    (case na_Rule_root => k_is)
    (case na_Rule_others => k_is)
    (case z_len => k_is)
    (case z_min => k_is)
    (case z_isinstance => k_is)
    (case z_bool => k_is)
    (case z_int => k_is)
    (case z_list => k_is)
    (case z_tuple => k_is)
    (case z_enumerate => k_is)
    (case z_sorted => k_is)
    (case z_abs => k_is)
    (case z_any => k_is)
    (case z_range => k_is)
    (case a_is_let => k_is)
    (case l_is_let => k_is)
    (case c_is_let => k_is)
    (case k_is_let => k_is)
    (case a_is_kind => k_is)
    (case l_is_kind => k_is)
    (case c_is_kind => k_is)
    (case k_is_kind => k_is)
    (case a_kinds_of => k_is)
    (case l_kinds_of => k_is)
    (case c_kinds_of => k_is)
    (case k_kinds_of => k_is)
    (case a_Rule_init => k_is)
    (case i_Rule_init => k_is)
    (case l_Rule_init => k_is)
    (case c_Rule_init => k_is)
    (case k_Rule_init => k_is)
    (case a_l_pen_of => k_is)
    (case l_l_pen_of => k_is)
    (case c_l_pen_of => k_is)
    (case k_l_pen_of => k_is)
    (case a_l_draw => k_is)
    (case l_l_draw => k_is)
    (case c_l_draw => k_is)
    (case k_l_draw => k_is)
    (case a_l_pick => k_is)
    (case l_l_pick => k_is)
    (case c_l_pick => k_is)
    (case k_l_pick => k_is)
    (case a_l_rule_made => k_is)
    (case l_l_rule_made => k_is)
    (case c_l_rule_made => k_is)
    (case k_l_rule_made => k_is)
    (case a_l_let => k_is)
    (case l_l_let => k_is)
    (case c_l_let => k_is)
    (case k_l_let => k_is)
    (case a_l_cells => k_is)
    (case l_l_cells => k_is)
    (case c_l_cells => k_is)
    (case k_l_cells => k_is)
    (case a_l_truth => k_is)
    (case l_l_truth => k_is)
    (case c_l_truth => k_is)
    (case k_l_truth => k_is)
    (case a_l_side => k_is)
    (case l_l_side => k_is)
    (case c_l_side => k_is)
    (case k_l_side => k_is)
    (case a_law => k_is)
    (case l_law => k_is)
    (case c_law => k_is)
    (case k_law => k_is)
#print axioms PySem.Challenge.cw_treeshed_k28_cells_that_are_let_holds
