import PyProof.Rows.All
import Wide.All
import OpenK.AllK
import Wide.FinOn
import HandS.ForMost
import HandS.WordsExc
import HandS.TryOnly
import HandS.ExcOwn
import HandS.IsInst
import HandS.StrMore
import HandS.SortKw
import HandS.SortInts
import HandS.ListItems
import HandS.DictComp
import HandS.Defaults
import HandS.DictTup
import HandS.DictSubView
import HandS.Style
import HandS.Evl
import HandS.SortRule
import HandS.ExcIs
import HandS.ExcValue
import PySem.Challenge.RW_drawerdesk_k11_whole_lately_bounds
set_option Elab.async false
set_option linter.all false
set_option maxRecDepth 100000
set_option maxHeartbeats 4000000
/-! Rules of my own over the hand layer: the views of a dict whose keys are texts, and text times number. -/
namespace DK
open PySem PySem.Spec PyProof.Rows L2
section
variable {X : Cx}
/-- text times number -/
def rMulS : R2 := fun x y H Q => ∃ (z : Str) (n : Int), x = .str z ∧ y = .int n ∧ MulOk z n ∧ Q (.str (Txt.mul z n)) H
theorem op_mulS : OpR X (binaryOp .Mult) rMulS := by
  intro pins s σ H x y v u Q I rx ry h
  obtain ⟨z, n, rfl, rfl, ok, q⟩ := h
  obtain ⟨t, rfl⟩ := rx
  obtain ⟨t', rfl⟩ := ry
  exact SB.mul ok fun t'' k => ⟨.str _, H, I.tok k, ⟨t'', rfl⟩, q⟩

/-- the view d.values(), d.items() of a dict at d -/
def viewV (p d : Addr) : HO := .ext fun h => h.IsValuesView p d
def viewI (p d : Addr) : HO := .ext fun h => h.IsItemsView p d
theorem viewV_ok {P : Program} {w : World} {H : Hp} {h : Heap} {p d : Addr} (e : h.get? p = some { cls := .type "dict_values", data := .fields #[.ref d] }) : ObjOk P w H h p (viewV p d) := by
  refine ⟨⟨_, e, rfl, rfl⟩, ⟨_, e⟩, ?_⟩
  intro h1 h2 x k
  obtain ⟨o, ho, r⟩ := x
  exact ⟨o, k o ho, r⟩
theorem viewI_ok {P : Program} {w : World} {H : Hp} {h : Heap} {p d : Addr} (e : h.get? p = some { cls := .type "dict_items", data := .fields #[.ref d] }) : ObjOk P w H h p (viewI p d) := by
  refine ⟨⟨_, e, rfl, rfl⟩, ⟨_, e⟩, ?_⟩
  intro h1 h2 x k
  obtain ⟨o, ho, r⟩ := x
  exact ⟨o, k o ho, r⟩
def rVals : V → List V → Hp → VK → Prop := fun x xs H Q => ∃ (a : Addr) (kvs : List (Key × V)), x = .ref a ∧ xs = [] ∧ H a = some (.dK kvs) ∧ ∀ p, H p = none → Q (.ref p) (upd H p (viewV p a))
theorem mt_vals : MtR X "dict.values" rVals := by
  intro pins s σ H x xs v us Q I rx rxs h
  obtain ⟨a, kvs, rfl, rfl, ha, q⟩ := h
  cases rx
  cases rxs
  obtain ⟨z, lo, vs, rel, dd⟩ := dk_of I.hok ha
  refine call_meetsIn PySem.F.slot_dict_values dd.typeIs PySem.F.entry_dict_values (PySem.F.args_dict_values_1 _) (meets_dict_values (mixKind X.prog X.w) a lo) ⟨⟨vs, dd⟩, ?_⟩
  have hf : H s.heap.objs.size = none := I.hok.fresh (Nat.le_refl _)
  exact ⟨.ref s.heap.objs.size, upd H s.heap.objs.size (viewV s.heap.objs.size a), I.laid (t' := s.toks) (fun b u e => Heap.get?_push_of_some _ e) (Nat.le_refl _) (viewV_ok (Heap.get?_push_size _ rfl)), rfl, q _ hf⟩
def rItems : V → List V → Hp → VK → Prop := fun x xs H Q => ∃ (a : Addr) (kvs : List (Key × V)), x = .ref a ∧ xs = [] ∧ H a = some (.dK kvs) ∧ ∀ p, H p = none → Q (.ref p) (upd H p (viewI p a))
theorem mt_items : MtR X "dict.items" rItems := by
  intro pins s σ H x xs v us Q I rx rxs h
  obtain ⟨a, kvs, rfl, rfl, ha, q⟩ := h
  cases rx
  cases rxs
  obtain ⟨z, lo, vs, rel, o, es, ep, ho, hx, hdat, _⟩ := dk_of I.hok ha
  refine DT.callItems (es := es) (ep := ep) lo ⟨o, ho, hx, hdat⟩ ?_
  have hf : H s.heap.objs.size = none := I.hok.fresh (Nat.le_refl _)
  exact ⟨.ref s.heap.objs.size, upd H s.heap.objs.size (viewI s.heap.objs.size a), I.laid (t' := s.toks) (fun b u e => Heap.get?_push_of_some _ e) (Nat.le_refl _) (viewI_ok (Heap.get?_push_size _ rfl)), rfl, q _ hf⟩
/-- a view of the values: the source that the library's functions walk -/
theorem src_of {pins : List (Addr × Obj)} {σ : L2.St} {H : Hp} {s : Shared} {p a : Addr} {kvs : List (Key × V)} (I : Inv X pins σ H s) (hp : H p = some (viewV p a)) (ha : H a = some (.dK kvs)) :
    ∃ (vs : List (Key × Value)) (ep : Nat), KV kvs vs ∧ kvs.length ≤ sizeLine ∧ kvs.length = vs.length ∧ (s.heap.IsValuesView p a ∧ s.heap.DictAt (mixKind X.prog X.w) a vs ep) := by
  have view : s.heap.IsValuesView p a := (show ObjOk X.prog X.w H s.heap p (viewV p a) from I.hok p _ hp).1
  obtain ⟨z, lo, vs, rel, dd⟩ := dk_of I.hok ha
  obtain ⟨ep, hat⟩ := dd.dictAt
  exact ⟨vs, ep, rel, z, Paired.length rel, view, hat⟩
theorem kv_snd : ∀ {kvs : List (Key × V)} {vs : List (Key × Value)}, KV kvs vs → Vals (kvs.map (·.2)) (vs.map (·.2))
  | _, _, .nil => .nil
  | _, _, .cons r t => .cons r.2 (kv_snd t)
theorem items_vals {kvs : List (Key × V)} {vs : List (Key × Value)} {acc : List Value} (r : KV kvs vs) (hl : acc.length = vs.length) (h : ∀ (j : Nat) (v : Value), acc[j]? = some v → ∃ k, vs[j]? = some (k, v)) : acc = vs.map (·.2) := by
  refine List.ext_getElem? fun j => ?_
  rw [List.getElem?_map]
  cases e : acc[j]? with
  | none =>
    have hj : vs.length ≤ j := by rw [← hl]; exact List.getElem?_eq_none_iff.mp e
    rw [List.getElem?_eq_none_iff.mpr hj]
    rfl
  | some v =>
    obtain ⟨k, hk⟩ := h j v e
    rw [hk]
    rfl
/-- list(d.values()) -/
def rListV : List V → Hp → VK → Prop := fun xs H Q => ∃ (p a : Addr) (kvs : List (Key × V)), xs = [.ref p] ∧ H p = some (viewV p a) ∧ H a = some (.dK kvs) ∧ ∀ q, H q = none → Q (.ref q) (upd H q (.lst (kvs.map (·.2))))
theorem call_listV (hc : X.calm = true) : CallR X (.type "list") rListV := by
  intro pins s σ H xs us Q I r h
  obtain ⟨p, a, kvs, rfl, hp, ha, q⟩ := h
  obtain rfl := Vals.ref1 r
  obtain ⟨vs, ep, rel, z, hl, src⟩ := src_of I hp ha
  refine PySem.W.kdl_call (PySem.W.kdl_values (knd := mixKind X.prog X.w) (kvs := vs) (ep := ep)) (I.ok.hd hc) src (by rw [← hl]; exact z) fun h' tk acc c hk hS hacc => ?_
  have ea : acc.toList = vs.map (·.2) := items_vals rel (by rw [Array.length_toList]; exact hacc.1) fun j v e => hacc.2 j v (by rw [← Array.getElem?_toList]; exact e)
  refine ⟨.ref s.heap.objs.size, upd H s.heap.objs.size (.lst (kvs.map (·.2))), I.laid hk (Nat.le_refl _) (show ObjOk X.prog X.w _ _ _ (.lst (kvs.map (·.2))) from ⟨by rw [List.length_map]; exact z, acc.toList, c, by rw [ea]; exact kv_snd rel, by rw [Array.toArray_toList]; exact hS⟩), rfl, q _ (I.hok.fresh (Nat.le_refl _))⟩
end
end DK

set_option Elab.async false
set_option linter.all false
set_option maxRecDepth 100000
set_option maxHeartbeats 4000000
namespace DK
open PySem PySem.Spec PyProof.Rows L2
theorem pre_sum (ns : List Int) : ∀ j : Nat, PySem.preSum (fun i => ns.getD i 0) j = (ns.take j).sum
  | 0 => by simp [PySem.preSum]
  | j + 1 => by
    rw [PySem.preSum, pre_sum ns j]
    cases e : ns[j]? with
    | none =>
      have hj : ns.length ≤ j := List.getElem?_eq_none_iff.mp e
      rw [List.take_of_length_le hj, List.take_of_length_le (Nat.le_succ_of_le hj), List.getD_eq_getElem?_getD, e]
      simp
    | some z =>
      obtain ⟨hj, ez⟩ := List.getElem?_eq_some_iff.mp e
      rw [List.take_succ_eq_append_getElem hj, List.sum_append, List.getD_eq_getElem?_getD, e, ez]
      simp
section
variable {X : Cx} {pins : List (Addr × Obj)} {σ : L2.St} {H : Hp} {s : Shared}
/-- the i-th value of a walked view, whole numbers -/
theorem val_at {kvs : List (Key × V)} {vs : List (Key × Value)} {ns : List Int} (rel : KV kvs vs) (hns : kvs.map (·.2) = ns.map V.int) {i : Nat} {v : Value} (h : ∃ k, vs[i]? = some (k, v)) : ∃ t : Tok, v = Value.int (ns.getD i 0) t := by
  obtain ⟨k, hk⟩ := h
  have r := kv_snd rel
  have e2 : (vs.map (·.2))[i]? = some v := by rw [List.getElem?_map, hk]; rfl
  rw [hns] at r
  have hl : (ns.map V.int).length = (vs.map (·.2)).length := r.length
  have hi : i < ns.length := by
    have := (List.getElem?_eq_some_iff.mp e2).1
    rw [← hl, List.length_map] at this
    exact this
  have e1 : (ns.map V.int)[i]? = some (V.int ns[i]) := by rw [List.getElem?_map, List.getElem?_eq_getElem hi]; rfl
  obtain ⟨u, hu, ru⟩ := r.get e1
  rw [e2] at hu
  cases hu
  obtain ⟨t, et⟩ := ru
  refine ⟨t, ?_⟩
  rw [et, List.getD_eq_getElem?_getD, List.getElem?_eq_getElem hi]
  rfl
theorem len_at {kvs : List (Key × V)} {ns : List Int} (hns : kvs.map (·.2) = ns.map V.int) : kvs.length = ns.length := by
  have e := congrArg List.length hns
  rw [List.length_map, List.length_map] at e
  exact e
/-- sum(d.values()) -/
def rSumV : List V → Hp → VK → Prop := fun xs H Q => ∃ (p a : Addr) (kvs : List (Key × V)) (ns : List Int), xs = [.ref p] ∧ H p = some (viewV p a) ∧ H a = some (.dK kvs) ∧ kvs.map (·.2) = ns.map V.int ∧ Q (.int ns.sum) H
theorem cr_sumV (hc : X.calm = true) : CallR X (.builtin "sum") rSumV := by
  intro pins s σ H xs us Q I r h
  obtain ⟨p, a, kvs, ns, rfl, hp, ha, hns, q⟩ := h
  obtain rfl := Vals.ref1 r
  obtain ⟨vs, ep, rel, z, hl, src⟩ := src_of I hp ha
  have K := PySem.W.kdl_values (prog := X.prog) (w := X.w) (r := p) (d := a) (knd := mixKind X.prog X.w) (kvs := vs) (ep := ep)
  refine PySem.call_sum_walkAnyS ?_
  obtain ⟨oI, St, hit, W, st⟩ := K.iter X.A.in1 s (show X.A.in1.handled = none from I.ok.hd hc) src
  refine hit _ _ ⟨s.heap.objs.size, _, _, _, vs.length, _, _, fun i => ns.getD i 0, rfl, W.toS, st, fun b hb => ?_, fun i v hv => val_at rel hns hv, fun s' t' hm => ?_⟩
  · show b < (s.heap.push oI).objs.size
    rw [size_push']
    rcases List.mem_cons.mp hb with e | hb
    · rw [e]
      exact Nat.lt_succ_self _
    · rw [List.mem_singleton.mp hb]
      exact Nat.lt_succ_of_lt (K.there _ src).2
  · have hk : ∀ b o, s.heap.get? b = some o → s'.heap.get? b = some o := fun b o e =>
      hm.heap b o (fun hI => absurd (Heap.lt_size e) (by rw [List.mem_singleton.mp hI]; exact Nat.lt_irrefl _)) (Heap.get?_push_of_some _ e)
    rw [Moved.eq_with hm]
    have e : PySem.preSum (fun i => ns.getD i 0) vs.length = ns.sum := by
      rw [pre_sum, List.take_of_length_le (by rw [← hl, len_at hns]; exact Nat.le_refl _)]
    rw [e]
    exact ⟨.int ns.sum, H, I.kept hk, ⟨t', rfl⟩, q⟩
/-- min(d.values()) -/
def rMinV : List V → Hp → VK → Prop := fun xs H Q => ∃ (p a : Addr) (kvs : List (Key × V)) (ns : List Int), xs = [.ref p] ∧ H p = some (viewV p a) ∧ H a = some (.dK kvs) ∧ kvs.map (·.2) = ns.map V.int ∧ 0 < ns.length ∧ ∀ m, m ∈ ns → (∀ y, y ∈ ns → m ≤ y) → Q (.int m) H
theorem cr_minV (hc : X.calm = true) : CallR X (.builtin "min") rMinV := by
  intro pins s σ H xs us Q I r h
  obtain ⟨p, a, kvs, ns, rfl, hp, ha, hns, hne, q⟩ := h
  obtain rfl := Vals.ref1 r
  obtain ⟨vs, ep, rel, z, hl, src⟩ := src_of I hp ha
  have hln : vs.length = ns.length := by rw [← hl]; exact len_at hns
  have K := PySem.W.kdl_values (prog := X.prog) (w := X.w) (r := p) (d := a) (knd := mixKind X.prog X.w) (kvs := vs) (ep := ep)
  refine PySem.call_min_walk ?_
  obtain ⟨oI, St, hit, W, st⟩ := K.iter X.A.in1 s (show X.A.in1.handled = none from I.ok.hd hc) src
  refine hit _ _ ⟨s.heap.objs.size, _, _, vs.length, _, _, fun i j => decide (ns.getD i 0 < ns.getD j 0), rfl, W, st, fun b hb => ?_, by omega, CmpOf.ints_lt (fun i => ns.getD i 0) (fun i v hv => val_at rel hns hv), fun v h' tk hv' hk => ?_⟩
  · show b < (s.heap.push oI).objs.size
    rw [size_push']
    rcases List.mem_cons.mp hb with e | hb
    · rw [e]
      exact Nat.lt_succ_self _
    · rw [List.mem_singleton.mp hb]
      exact Nat.lt_succ_of_lt (K.there _ src).2
  · have hk2 : ∀ b o, s.heap.get? b = some o → h'.get? b = some o := fun b o e =>
      hk b o (fun hI => absurd (Heap.lt_size e) (by rw [List.mem_singleton.mp hI]; exact Nat.lt_irrefl _)) (Heap.get?_push_of_some _ e)
    obtain ⟨t, et⟩ := val_at rel hns hv'
    obtain ⟨m1, m2⟩ := PySem.argBest_lt (fun i => ns.getD i 0) (vs.length - 1)
    have hi : argBest (fun i j => decide (ns.getD i 0 < ns.getD j 0)) (vs.length - 1) < ns.length := by
      have m1' : argBest (fun i j => decide (ns.getD i 0 < ns.getD j 0)) (vs.length - 1) ≤ vs.length - 1 := m1
      omega
    generalize argBest (fun i j => decide (ns.getD i 0 < ns.getD j 0)) (vs.length - 1) = b at et m2 hi
    rw [et]
    refine ⟨.int (ns.getD b 0), H, I.kept hk2, ⟨t, rfl⟩, q _ ?_ fun y hy => ?_⟩
    · rw [List.getD_eq_getElem?_getD, List.getElem?_eq_getElem hi]
      exact List.getElem_mem hi
    · obtain ⟨j, hj⟩ := List.mem_iff_getElem?.mp hy
      have hjl : j < ns.length := (List.getElem?_eq_some_iff.mp hj).1
      have e := m2 j (by omega)
      have e2 : ns.getD j 0 = y := by rw [List.getD_eq_getElem?_getD, hj]; rfl
      rw [← e2]
      exact e
/-- what a source gives is collected; the collector's own list stands at the heap's end -/
theorem collect_src {prog : Program} {w : World} {A : Around} {E : Value → Shared → Prop} {s : Shared} {T : String} {r d : Addr} {n : Nat} {P : Nat → Value → Prop} {OK : Heap → Prop} {R : List Value → Shared → Prop}
    (K : PySem.W.KdlSrc prog w T r d n P OK) (hh : A.handled = none) (hok : OK s.heap) (hn : n ≤ sizeLine)
    (h : ∀ (h' : Heap) (tk : Nat) (acc : Array Value), (∀ b o, s.heap.get? b = some o → h'.get? b = some o) → s.heap.objs.size < h'.objs.size → ItemsOf P acc n → R acc.toList { s with heap := h', toks := tk }) :
    wpAny (model prog w) A (collect (.ref r)) R E s := by
  have lt := K.there _ hok
  unfold collect
  refine wpAny_bind (wpAny_runValue (codeAny_builtin entry_proto_collect' ?_))
  rw [Around.under_plainId PySem.F.plain_proto_collect _]
  show wpAny _ A.in1 (newList [] >>= fun l => again (.builtin "list.__iadd__" ⟨[l, .ref r], []⟩)) _ _ s
  refine wpAny_bind (wpAny_newObj_type ?_)
  refine wpAny_pure ⟨plainId_quiet PySem.F.plain_list_iadd _, codeAny_builtin entry_list_iadd' ?_⟩
  rw [Around.under_plainId PySem.F.plain_list_iadd _]
  have s1 : (s.heap.push { cls := .type "list", data := .seq ([] : List Value).toArray }).get? s.heap.objs.size = some { cls := .type "list", data := .seq #[] } := Heap.get?_push_size _ rfl
  show wpAny _ A.in1 (Builtin.List.listExtendWith (.ref s.heap.objs.size) (.ref r) (.ref s.heap.objs.size)) _ _ _
  have ext := PySem.W.kdl_extend (A := A) (s := { s with heap := s.heap.push { cls := .type "list", data := .seq ([] : List Value).toArray } })
    (R := fun (q : Result) (s' : Shared) => ∃ (h' : Heap) (tk : Nat) (acc' : Array Value) (c' : Nat), q = .ok (.ret (.ref s.heap.objs.size)) ∧ s' = { s with heap := h', toks := tk } ∧
      (∀ b o, s.heap.get? b = some o → h'.get? b = some o) ∧ h'.get? s.heap.objs.size = some { cls := .type "list", dict := none, data := .seq acc' c', slots := #[] } ∧ ItemsOf P acc' n)
    K hh (K.keep _ _ hok fun b _ o e => Heap.get?_push_of_some _ e) s.heap.objs.size (Nat.ne_of_gt lt.1) (Nat.ne_of_gt lt.2) (.ref s.heap.objs.size) 0 s1
    (fun h' tk acc' c' hk hS' hacc => ⟨h', tk, acc', c', rfl, rfl, fun b o e => hk b o (Nat.ne_of_lt (Heap.lt_size e)) (Heap.get?_push_of_some _ e), hS', hacc⟩) hn
  refine wpAny_mono ext (fun fin s' x => ?_) fun e s' x => ?_
  · cases fin with
    | done f =>
      obtain ⟨h', tk, acc', c', e, rfl, hk, hS', hacc⟩ := x
      cases e
      show wpAny _ A (load s.heap.objs.size >>= _) _ _ _
      exact wpAny_bind (wpAny_load hS' (wpAny_pure (h h' tk acc' hk (Heap.lt_size hS') hacc)))
    | again c1 =>
      refine ⟨x.1, codeAny_mono x.2 fun q s2 y => ?_⟩
      obtain ⟨h', tk, acc', c', rfl, rfl, hk, hS', hacc⟩ := y
      show wpAny _ A (load s.heap.objs.size >>= _) _ _ _
      exact wpAny_bind (wpAny_load hS' (wpAny_pure (h h' tk acc' hk (Heap.lt_size hS') hacc)))
  · obtain ⟨_, _, _, _, e', _⟩ := x
    cases e'
/-- sorted(d.values()), sorted(d.values(), reverse=b) -/
theorem sorted_view {b : Bool} {kw : List (Str × Value)} {p a : Addr} {kvs : List (Key × V)} {ns : List Int} {Q : VK} (hc : X.calm = true) (I : Inv X pins σ H s) (hp : H p = some (viewV p a)) (ha : H a = some (.dK kvs)) (hns : kvs.map (·.2) = ns.map V.int)
    (hk : ∀ a, Builtin.«list.sort» ⟨[.ref a], kw⟩ = Builtin.«list.sort» ⟨[.ref a], [(Str.ofString "reverse", .bool b)]⟩) (ha1 : argsOk "sorted" ⟨[.ref p], kw⟩) (ha2 : ∀ a, argsOk "list.sort" ⟨[a], kw⟩)
    (q : ∀ (ns' : List Int) (l : Addr), ns'.Perm ns → OrdB b ns' → H l = none → Q (.ref l) (upd H l (.lst (ns'.map V.int)))) : wpAny (model X.prog X.w) X.A (call (.builtin "sorted") [.ref p] kw) (EP X pins σ Q) X.xe s := by
  obtain ⟨vs, ep, rel, z, hl, src⟩ := src_of I hp ha
  have hln : vs.length = ns.length := by rw [← hl]; exact len_at hns
  refine call_function_entry_kw kind_sorted plain_sorted entry_sorted ha1 ?_
  unfold Builtin.«sorted»
  refine wpAny_bind (m := checkCount "sorted" 1 1 _) (wpAny_pure ?_)
  refine wpAny_bind (collect_src (A := X.A.in1) (PySem.W.kdl_values (knd := mixKind X.prog X.w) (kvs := vs) (ep := ep)) (show X.A.in1.handled = none from I.ok.hd hc) src (by rw [← hl]; exact z) fun h' tk acc hkp hlt hacc => ?_)
  have ea : acc.toList = vs.map (·.2) := items_vals rel (by rw [Array.length_toList]; exact hacc.1) fun j v e => hacc.2 j v (by rw [← Array.getElem?_toList]; exact e)
  have rv : Vals (ns.map V.int) acc.toList := by rw [ea, ← hns]; exact kv_snd rel
  have hi := rv.ints
  have hz : acc.toList.length ≤ sizeLine := by rw [ea, List.length_map, ← hl]; exact z
  refine wpAny_bind (wpAny_newList ?_ hz)
  have hoL : (h'.push { cls := .type "list", data := .seq acc.toList.toArray }).get? h'.objs.size = some (seqObj "list" acc.toList.toArray 0) := Heap.get?_push_size _ rfl
  refine wpAny_bind (wpAny_holding (wpAny_call_entry_kw slot_list_sort ⟨_, hoL, rfl⟩ entry_list_sort ?_ (ha2 _)))
  rw [hk]
  refine SrtR.list_sort_ordR SrtO.swo_int hoL hz (fun h2 => SrtO.ints_sortable hi h2) fun out h1 h2 => ⟨_, rfl, ?_⟩
  obtain ⟨ns', k1, k2, k3⟩ := SrtR.ints_outR hi h1 h2
  obtain ⟨eF, heF⟩ := PyProof.Rows.sortedHeap_at (vs := acc.toList) (out := if b = true then out.toArray.reverse else out.toArray) hoL
  have kF : ∀ (c : Addr) o, s.heap.get? c = some o → (sortedHeap (h'.push { cls := .type "list", data := .seq acc.toList.toArray }) h'.objs.size acc.toList (if b = true then out.toArray.reverse else out.toArray)).get? c = some o := fun c o e => by
    have lb : c < h'.objs.size := Heap.lt_size (hkp c o e)
    exact (PyProof.Rows.sortedHeap_old (Nat.ne_of_lt lb) (by rw [size_push']; exact Nat.lt_succ_of_lt lb)).trans (Heap.get?_push_of_some _ (hkp c o e))
  have hn0 : H h'.objs.size = none := I.hok.fresh (Nat.le_of_lt hlt)
  have hlen : (ns'.map V.int).length ≤ sizeLine := by
    rw [List.length_map, k2.length_eq, ← len_at hns]
    exact z
  have e0 : ((if b = true then out.toArray.reverse else out.toArray).toList).toArray = (if b = true then out.toArray.reverse else out.toArray) := by rw [Array.toArray_toList]
  refine wpAny_pure ⟨_, rfl, .ref h'.objs.size, upd H h'.objs.size (.lst (ns'.map V.int)), I.laid (t' := tk) kF (Nat.le_of_lt hlt) ⟨hlen, _, eF, vals_of_ints k1, by rw [e0]; exact heF⟩, rfl, q _ _ k2 k3 hn0⟩
/-- sorted(d.values()) -/
def rSortedV : List V → Hp → VK → Prop := fun xs H Q => ∃ (p a : Addr) (kvs : List (Key × V)) (ns : List Int), xs = [.ref p] ∧ H p = some (viewV p a) ∧ H a = some (.dK kvs) ∧ kvs.map (·.2) = ns.map V.int ∧
  ∀ (ns' : List Int) (l : Addr), ns'.Perm ns → ns'.Pairwise (· ≥ ·) → H l = none → Q (.ref l) (upd H l (.lst (ns'.map V.int)))
/-- sorted(d.values(), reverse=True) -/
def rSortedVR : List V → List V → Hp → VK → Prop := fun xs zs H Q => zs = [.bl true] ∧ rSortedV xs H Q
theorem cr_sortedVR (hc : X.calm = true) : CallRK X (.builtin "sorted") [Str.ofString "reverse"] rSortedVR := by
  intro pins s σ H xs zs us ws Q I r rz h
  obtain ⟨rfl, p, a, kvs, ns, rfl, hp, ha, hns, q⟩ := h
  obtain rfl := Vals.ref1 r
  obtain ⟨w1, rfl, e1⟩ := vals1 rz
  obtain rfl : w1 = Value.bool true := e1
  exact sorted_view (b := true) hc I hp ha hns (fun _ => rfl) (PyProof.Rows.args_sorted_rev _ _) (fun _ => PyProof.Rows.args_list_sort_rev _ _) q
def rSortedVU : List V → Hp → VK → Prop := fun xs H Q => ∃ (p a : Addr) (kvs : List (Key × V)) (ns : List Int), xs = [.ref p] ∧ H p = some (viewV p a) ∧ H a = some (.dK kvs) ∧ kvs.map (·.2) = ns.map V.int ∧
  ∀ (ns' : List Int) (l : Addr), ns'.Perm ns → ns'.Pairwise (· ≤ ·) → H l = none → Q (.ref l) (upd H l (.lst (ns'.map V.int)))
theorem cr_sortedV (hc : X.calm = true) : CallR X (.builtin "sorted") rSortedVU := by
  intro pins s σ H xs us Q I r h
  obtain ⟨p, a, kvs, ns, rfl, hp, ha, hns, q⟩ := h
  obtain rfl := Vals.ref1 r
  exact sorted_view (b := false) (kw := []) hc I hp ha hns (fun _ => rfl) (args_sorted1 _) (fun _ => PyProof.Rows.args_list_sort _) q
end
end DK

set_option Elab.async false
set_option linter.all false
set_option maxRecDepth 100000
set_option maxHeartbeats 4000000
namespace DK
open PySem PySem.Spec PyProof.Rows L2 PySem.W
/-! sorted(d.items()), the keys texts, the values whole numbers -/
abbrev CM := List (Str × Int)
def kvc (c : CM) : List (Key × V) := c.map fun e => (Sum.inr e.1, V.int e.2)
/-- x stands before y -/
def slt (x y : Str) : Bool := decide (x.cps.toList < y.cps.toList)
theorem slt_irr (x : Str) : slt x x = false := decide_eq_false (List.lt_irrefl _)
theorem slt_asym (x y : Str) (h : slt x y = true) : slt y x = false := by
  refine decide_eq_false fun h2 => ?_
  exact List.lt_irrefl _ (List.lt_trans (of_decide_eq_true h) h2)
theorem cps_inj {x y : Str} (h : x.cps.toList = y.cps.toList) : x = y := by
  cases x with
  | mk a =>
    cases y with
    | mk b =>
      congr 1
      exact Array.toList_inj.mp h
theorem slt_tot (x y : Str) (h1 : slt x y = false) (h2 : slt y x = false) : x = y := by
  have a := of_decide_eq_false h1
  have b := of_decide_eq_false h2
  exact cps_inj (List.le_antisymm (List.not_lt.mp b) (List.not_lt.mp a))
theorem slt_tr (x y z : Str) (h1 : slt y x = false) (h2 : slt z y = false) : slt z x = false := by
  have a := List.not_lt.mp (of_decide_eq_false h1)
  have b := List.not_lt.mp (of_decide_eq_false h2)
  exact decide_eq_false (List.not_lt.mpr (List.le_trans a b))
/-- the pair that is read off the heap -/
def rdP (h : Heap) (v : Value) : Str × Int := match v with
  | .ref b => (match h.get? b with
    | some o => (match o.data with
      | .seq xs _ => (match xs.toList with
        | [.str x _, .int n _] => (x, n)
        | _ => (Str.empty, 0))
      | _ => (Str.empty, 0))
    | none => (Str.empty, 0))
  | _ => (Str.empty, 0)
/-- at b stands the tuple of that text and that number -/
def PrAt (h : Heap) (b : Addr) (e : Str × Int) : Prop := ∃ t u, h.get? b = some { cls := .type "tuple", data := .seq #[.str e.1 t, .int e.2 u] }
theorem PrAt.rd {h : Heap} {b : Addr} {e : Str × Int} (x : PrAt h b e) : rdP h (.ref b) = e := by
  obtain ⟨t, u, g⟩ := x
  simp only [rdP, g]
section
variable {prog : Program} {w : World} {A : Around} {s : Shared}
theorem firsts_pr {h : Heap} : ∀ vs : List Value, (∀ v ∈ vs, ∃ b e, v = .ref b ∧ PrAt h b e) → ∃ fs : List Value, KatTups h vs fs ∧ fs.length = vs.length ∧ ∀ f ∈ fs, ∃ x t, f = Value.str x t
  | [], _ => ⟨[], KatTups.nil, rfl, fun f hf => by simp at hf⟩
  | v :: vs, x => by
    obtain ⟨fs, k, hl, hi⟩ := firsts_pr vs fun u hu => x u (List.mem_cons_of_mem _ hu)
    obtain ⟨b, e, rfl, t, u, g⟩ := x v (List.mem_cons_self ..)
    refine ⟨.str e.1 t :: fs, KatTups.cons g rfl rfl rfl k, by rw [List.length_cons, List.length_cons, hl], fun f hf => ?_⟩
    rcases List.mem_cons.mp hf with rfl | hf
    · exact ⟨e.1, t, rfl⟩
    · exact hi f hf
/-- such pairs, equal keys having equal values, may be sorted by their keys -/
theorem pr_sortable {a : Addr} {vs : List Value} {k : Value → Str × Int} (h2 : 2 ≤ vs.length) (hv : ∀ v ∈ vs, ∃ b, v = .ref b ∧ b ≠ a ∧ PrAt s.heap b (k v)) (hu : ∀ v ∈ vs, ∀ u ∈ vs, (k v).1 = (k u).1 → (k v).2 = (k u).2) :
    SrtO.SortableO prog w A s a vs fun v u => slt (k v).1 (k u).1 := by
  intro h' keep
  have hv' : ∀ v ∈ vs, ∃ b, v = .ref b ∧ PrAt h' b (k v) := fun v hm => by
    obtain ⟨b, e, ne, t, u, g⟩ := hv v hm
    exact ⟨b, e, t, u, keep b _ ne g⟩
  obtain ⟨fs, kt, hl, hi⟩ := firsts_pr vs fun v hm => by
    obtain ⟨b, e, p⟩ := hv' v hm
    exact ⟨b, k v, e, p⟩
  refine ⟨tuples' (Value.type "str" != Value.type "tuple"), fun Q E hq => ?_, ?_⟩
  · refine kat_kind (s := { s with heap := h' }) (T := Value.type "str") kt (by omega) (fun f hf => ?_) (by rfl) hq
    obtain ⟨x, t, rfl⟩ := hi f hf
    exact PySem.W.Looks.of_pure rfl
  · have hb : (Value.type "str" != Value.type "tuple") = true := by decide
    rw [hb]
    intro p q hp hq
    obtain ⟨b1, e1, t1, u1, g1⟩ := hv' _ hp
    obtain ⟨b2, e2, t2, u2, g2⟩ := hv' _ hq
    have hu' := hu _ hp _ hq
    show wpAny _ _ (keyLt' (tuples' true) p.1 q.1) (fun r s' => s' = { s with heap := h' } ∧ r = slt (k p.1).1 (k q.1).1) _ _
    revert g1 g2 hu'
    generalize k p.1 = z1
    generalize k q.1 = z2
    intro g1 g2 hu'
    rw [e1, e2]
    refine kat_lt (s := { s with heap := h' }) g1 rfl g2 rfl ?_
    show KatLex prog w A true false _ [(Value.str z1.1 t1, Value.str z2.1 t2), (Value.int z1.2 u1, Value.int z2.2 u2)] 0 _
    refine kat_cons (wpAny_eqBool_str ?_)
    refine kat_go (fun e0 => ?_) (fun e0 => ?_)
    · have ez : z1.1 = z2.1 := of_decide_eq_true e0
      refine kat_yes (kat_cons (wpAny_eqBool_int ?_))
      have en : (z1.2 == z2.2) = true := by rw [hu' ez]; simp
      rw [en]
      refine kat_yes (kat_nil ⟨rfl, ?_⟩)
      rw [ez, slt_irr]
    · exact kat_no (oneLt_str ⟨rfl, rfl⟩)
end
end DK

set_option Elab.async false
set_option linter.all false
set_option maxRecDepth 100000
set_option maxHeartbeats 4000000
namespace DK
open PySem PySem.Spec PyProof.Rows L2 PySem.W
/-- from an old heap to a new one all that was tracked stands -/
abbrev Ex (H H' : Hp) : Prop := Evl.Ex H H'
def PrsAt (H : Hp) (ts : List Addr) (c : CM) : Prop := Paired (fun (t : Addr) (e : Str × Int) => H t = some (.tup [.str e.1, .int e.2])) ts c
/-- sorted by their texts -/
def Asc (c : CM) : Prop := c.Pairwise fun e f => slt f.1 e.1 = false
theorem keys_kvc (c : CM) : (kvc c).map (·.1) = c.map fun e => Sum.inr e.1 := by
  unfold kvc
  rw [List.map_map]
  rfl
def rSortedI : List V → Hp → VK → Prop := fun xs H Q => ∃ (p a : Addr) (c : CM), xs = [.ref p] ∧ H p = some (viewI p a) ∧ H a = some (.dK (kvc c)) ∧ (c.map (·.1)).Nodup ∧
  ∀ (H' : Hp) (l : Addr) (ts : List Addr) (c' : CM), Ex H H' → H l = none → (∀ t ∈ ts, H t = none) → c'.Perm c → Asc c' → H' l = some (.lst (ts.map V.ref)) → PrsAt H' ts c' → Q (.ref l) H'
theorem pairs_ix {P : Program} {w : World} {c : CM} {vs : List (Key × Value)} (r : KV (kvc c) vs) {es : List DictEntry} (p : Pairs (mixKind P w) es vs) {j : Nat} {e : DictEntry} (he : es[j]? = some e) :
    ∃ z t u, c[j]? = some z ∧ e.key = .str z.1 t ∧ e.val = .int z.2 u := by
  have hl : (kvc c).length = vs.length := Paired.length r
  have hl2 : es.length = vs.length := p.length
  have hj : j < es.length := (List.getElem?_eq_some_iff.mp he).1
  unfold kvc at hl
  rw [List.length_map] at hl
  have hjc : j < c.length := by omega
  have e1 : (kvc c)[j]? = some (Sum.inr c[j].1, V.int c[j].2) := by
    unfold kvc
    rw [List.getElem?_map, List.getElem?_eq_getElem hjc]
    rfl
  obtain ⟨q, hq, e2, ru⟩ := LiI.paired_get r e1
  obtain ⟨h1, h2⟩ := p.get? he (k := q.1) (v := q.2) hq
  obtain ⟨u, eu⟩ := ru
  have h1' : keyIs q.1 e.key = true := h1
  have e2' : q.1 = (Sum.inr c[j].1 : Key) := e2.symm
  rw [e2'] at h1'
  obtain ⟨t, et⟩ := Value.isStrOf_shape (x := c[j].1) (v := e.key) h1'
  exact ⟨c[j], t, u, List.getElem?_eq_getElem hjc, et, by rw [h2, eu]⟩
theorem nodup_val {c : CM} (hn : (c.map (·.1)).Nodup) : ∀ z ∈ c, ∀ y ∈ c, z.1 = y.1 → z.2 = y.2 := by
  intro z hz y hy e
  obtain ⟨i, hi⟩ := List.mem_iff_getElem?.mp hz
  obtain ⟨j, hj⟩ := List.mem_iff_getElem?.mp hy
  have h1 : (c.map (·.1))[i]? = some z.1 := by rw [List.getElem?_map, hi]; rfl
  have h2 : (c.map (·.1))[j]? = some z.1 := by rw [List.getElem?_map, hj, e]; rfl
  have : i = j := nd_ix hn h1 h2
  subst this
  rw [hi] at hj
  cases hj
  rfl
section
variable {X : Cx}
theorem cr_sortedI (hc : X.calm = true) : CallR X (.builtin "sorted") rSortedI := by
  intro pins s σ H xs us Q I r h
  obtain ⟨p, a, c, rfl, hp, ha, hn, q⟩ := h
  obtain rfl := Vals.ref1 r
  have view : s.heap.IsItemsView p a := (show ObjOk X.prog X.w H s.heap p (viewI p a) from I.hok p _ hp).1
  obtain ⟨z, lo, vs, rel, o, es, ep, ho, hx, hdat, _, prs, _⟩ := dk_of I.hok ha
  have hes : es.size = c.length := by
    have h1 := prs.length
    have h2 : (kvc c).length = vs.length := Paired.length rel
    unfold kvc at h2
    rw [List.length_map] at h2
    rw [Array.length_toList] at h1
    omega
  have zc : c.length ≤ sizeLine := by
    unfold kvc at z
    rw [List.length_map] at z
    exact z
  refine DT.sortedI (es := es) (ep := ep) (I.ok.hd hc) view ⟨o, ho, hx, hdat⟩ (by rw [hes]; exact zc) fun h' tk as hk hlt hl hG => ?_
  have lac : as.length = c.length := by omega
  have ndA : as.Nodup := List.Pairwise.imp (fun h => Nat.ne_of_lt h) hG.rise
  -- what each new tuple holds
  have pr : ∀ (j : Nat) (b : Addr), as[j]? = some b → ∃ e, c[j]? = some e ∧ PrAt h' b e := by
    intro j b hj
    obtain ⟨en, he, hg⟩ := hG.pairs j b hj
    obtain ⟨e, t, u, hcj, k1, k2⟩ := pairs_ix rel prs (by rw [Array.getElem?_toList]; exact he)
    exact ⟨e, hcj, t, u, by rw [hg, k1, k2]⟩
  have hob : (h'.push { cls := .type "list", data := .seq (as.map Value.ref).toArray }).get? h'.objs.size = some (seqObj "list" (as.map Value.ref).toArray 0) := Heap.get?_push_size _ rfl
  have ne0 : ∀ b o, h'.get? b = some o → b ≠ h'.objs.size := fun b o e => Nat.ne_of_lt (Heap.lt_size e)
  have ka : ∀ b o, h'.get? b = some o → (h'.push { cls := .type "list", data := .seq (as.map Value.ref).toArray }).get? b = some o := fun b o e => Heap.get?_push_of_some _ e
  generalize h'.push { cls := .type "list", data := .seq (as.map Value.ref).toArray } = h2 at hob ka ⊢
  have prv : ∀ v ∈ as.map Value.ref, ∃ b, v = .ref b ∧ b ≠ h'.objs.size ∧ PrAt h2 b (rdP h2 v) ∧ rdP h2 v ∈ c := by
    intro v hv
    obtain ⟨b, hb, rfl⟩ := List.mem_map.mp hv
    obtain ⟨j, hj⟩ := List.mem_iff_getElem?.mp hb
    obtain ⟨e, he, t, u, g⟩ := pr j b hj
    have p2 : PrAt h2 b e := ⟨t, u, ka _ _ g⟩
    refine ⟨b, rfl, ne0 _ _ g, ?_, ?_⟩
    · rw [p2.rd]
      exact p2
    · rw [p2.rd]
      exact List.mem_of_getElem? he
  have rdj : ∀ (j : Nat) (b : Addr), as[j]? = some b → c[j]? = some (rdP h2 (.ref b)) := by
    intro j b hj
    obtain ⟨e, he, t, u, g⟩ := pr j b hj
    have p2 : PrAt h2 b e := ⟨t, u, ka _ _ g⟩
    rw [p2.rd]
    exact he
  have ecA : c = as.map fun b => rdP h2 (.ref b) := by
    refine List.ext_getElem? fun j => ?_
    rw [List.getElem?_map]
    cases e : as[j]? with
    | none =>
      rw [List.getElem?_eq_none_iff.mpr (by rw [← lac]; exact List.getElem?_eq_none_iff.mp e)]
      rfl
    | some b =>
      rw [rdj j b e]
      rfl
  refine wpAny_call_entry PyProof.Rows.slot_list_sort ⟨_, hob, rfl⟩ PyProof.Rows.entry_list_sort ?_ (PyProof.Rows.args_list_sort _)
  refine SrtO.list_sort_ord (s := { s with heap := h2, toks := tk }) (ltv := fun v u => slt (rdP h2 v).1 (rdP h2 u).1) ⟨fun x y => slt_asym _ _, fun x y z => slt_tr _ _ _⟩ hob (by rw [List.length_map, lac]; exact zc) (fun hh2 => ?_) fun out o1 o2 => ⟨.none, rfl, ?_⟩
  · refine pr_sortable (s := { s with heap := h2, toks := tk }) (k := rdP h2) hh2 (fun v hv => ?_) fun v hv u hu e => ?_
    · obtain ⟨b, e1, e2, e3, _⟩ := prv v hv
      exact ⟨b, e1, e2, e3⟩
    · obtain ⟨_, _, _, _, m1⟩ := prv v hv
      obtain ⟨_, _, _, _, m2⟩ := prv u hu
      exact nodup_val hn _ m1 _ m2 e
  · show EP X pins σ Q (.ref h'.objs.size) { s with heap := sortedHeap h2 h'.objs.size (as.map Value.ref) out.toArray, toks := tk }
    have pm : out.Perm (as.map Value.ref) := o2.perm
    obtain ⟨ts, pts, ets⟩ := perm_lift Value.ref pm as rfl
    have hts : ∀ t ∈ ts, t ∈ as := fun t ht => pts.mem_iff.mp ht
    have kF : ∀ (b : Addr) o, b ≠ h'.objs.size → h2.get? b = some o → (sortedHeap h2 h'.objs.size (as.map Value.ref) out.toArray).get? b = some o := fun b o hb e => (PyProof.Rows.sortedHeap_old hb (Heap.lt_size e)).trans e
    have kS : ∀ (b : Addr) o, s.heap.get? b = some o → (sortedHeap h2 h'.objs.size (as.map Value.ref) out.toArray).get? b = some o := fun b o e => kF b o (ne0 _ _ (hk b o e)) (ka _ _ (hk b o e))
    obtain ⟨eF, heF⟩ := PyProof.Rows.sortedHeap_at (vs := as.map Value.ref) (out := out.toArray) hob
    have I1 : Inv X pins σ H { s with heap := sortedHeap h2 h'.objs.size (as.map Value.ref) out.toArray, toks := tk } := I.kept (t' := tk) kS
    have hn0 : H h'.objs.size = none := I.hok.fresh (Nat.le_of_lt hlt)
    have hlen : (ts.map V.ref).length ≤ sizeLine := by rw [List.length_map, pts.length_eq, lac]; exact zc
    have rv : Vals (ts.map V.ref) out := by rw [← ets]; exact LiI.vals_refs ts
    have I2 : Inv X pins σ (upd H h'.objs.size (.lst (ts.map V.ref))) { s with heap := sortedHeap h2 h'.objs.size (as.map Value.ref) out.toArray, toks := tk } :=
      I1.take (h' := sortedHeap h2 h'.objs.size (as.map Value.ref) out.toArray) (t' := tk) (fun b ob _ e => e) (I.fpOk (Nat.le_of_lt hlt) hn0) ⟨hlen, out, eF, rv, heF⟩
    have fr : ∀ t ∈ ts, H t = none := fun t ht => I.hok.fresh (Nat.le_of_lt (hG.above t (hts t ht)))
    obtain ⟨H2, I3, g, qt⟩ := DX.takeT (P := fun b vs => vs = [.str (rdP h2 (.ref b)).1, .int (rdP h2 (.ref b)).2]) I ts _ I2 (pts.nodup_iff.mpr ndA) fun b hb => by
      obtain ⟨b', eb, ne, ⟨t, u, g⟩, _⟩ := prv (.ref b) (List.mem_map.mpr ⟨b, hts b hb, rfl⟩)
      cases eb
      refine ⟨Nat.le_of_lt (hG.above b (hts b hb)), by rw [upd_ne ne]; exact fr b hb, _, rfl, fun H3 => ⟨(by rw [sizeLine_eq]; show 2 ≤ 16777216; omega), [_, _], .cons ⟨t, rfl⟩ (.cons ⟨u, rfl⟩ .nil), ⟨_, kF _ _ ne g, rfl, 0, rfl⟩⟩⟩
    have gr : Ex H H2 := fun b o e => g b o (by rw [upd_ne (ne_of_none e hn0)]; exact e)
    refine ⟨.ref h'.objs.size, H2, I3, rfl, q H2 h'.objs.size ts (ts.map fun b => rdP h2 (.ref b)) gr hn0 fr ?_ ?_ (g _ _ upd_same) ?_⟩
    · rw [ecA]
      exact pts.map _
    · have e2 : SrtO.Srtd (fun v u => slt (rdP h2 v).1 (rdP h2 u).1) (ts.map Value.ref) := by rw [ets]; exact o1
      exact List.pairwise_map.mpr (List.pairwise_map.mp e2)
    · have all : ∀ l : List Addr, (∀ t ∈ l, t ∈ ts) → PrsAt H2 l (l.map fun b => rdP h2 (.ref b)) := by
        intro l
        induction l with
        | nil => intro _; exact .nil
        | cons b l ih =>
          intro hm
          obtain ⟨vs', ev, hH⟩ := qt b (hm b (List.mem_cons_self ..))
          exact .cons (by rw [hH, ev]) (ih fun t ht => hm t (List.mem_cons_of_mem _ ht))
      exact all ts fun t ht => ht
end
end DK

set_option Elab.async false
set_option linter.all false
set_option maxRecDepth 100000
set_option maxHeartbeats 4000000
/-! Names, weights, tables of counts: plain functions; what stands in the heap. -/
namespace DK
open PySem PySem.Spec PyProof.Rows L2
/-! ### names and weights -/
abbrev letters : Str := "abcdefghijklmnopqrstuvwxyz"
def lowC (c : Nat) : Bool := decide (97 ≤ c ∧ c ≤ 122)
def isName (z : Str) : Bool := decide (1 ≤ z.length ∧ z.length ≤ 8) && z.cps.toList.all lowC
def great : Int := 1000000000000000000000000000000000000000000000000000000000000
def isNameV : V → Bool
  | .str z => isName z
  | _ => false
def isWt (i : Int) : Bool := decide (1 ≤ i ∧ i ≤ great)
def isWtV : V → Bool
  | .int i => isWt i
  | _ => false
def isWholeV : V → Bool
  | .int _ => true
  | _ => false
def isRoomV : V → Bool
  | .int i => decide (1 ≤ i ∧ i ≤ 50)
  | _ => false
theorem letters_contains (c : Nat) : letters.cps.contains c = lowC c := by
  have e : letters.cps = #[97, 98, 99, 100, 101, 102, 103, 104, 105, 106, 107, 108, 109, 110, 111, 112, 113, 114, 115, 116, 117, 118, 119, 120, 121, 122] := by decide +kernel
  rw [e]
  unfold lowC
  rcases Nat.lt_or_ge c 128 with h | h
  · revert c
    decide +kernel
  · have h1 : ¬ (97 ≤ c ∧ c ≤ 122) := by omega
    rw [decide_eq_false h1]
    refine Bool.eq_false_iff.mpr fun hm => ?_
    rw [Array.contains_iff] at hm
    simp only [List.mem_toArray, List.mem_cons, List.not_mem_nil, or_false] at hm
    omega
theorem takeWhile_len {goes : Nat → Bool} : ∀ l : List Nat, (l.takeWhile goes).length = l.length ↔ l.all goes = true
  | [] => by simp
  | a :: l => by
    rw [List.takeWhile_cons, List.all_cons]
    cases e : goes a with
    | true =>
      simp only [if_true, List.length_cons, Nat.add_right_cancel_iff, Bool.true_and]
      exact takeWhile_len l
    | false => simp
theorem takeWhile_le {goes : Nat → Bool} (l : List Nat) : (l.takeWhile goes).length ≤ l.length := (List.takeWhile_prefix goes).length_le
theorem strip_empty_iff (goes : Nat → Bool) (x : Str) : (PySem.Txt.stripBy goes true true x = Str.empty) ↔ x.cps.toList.all goes = true := by
  rw [stripBy_eq]
  unfold PySem.stripLo PySem.stripHi Builtin.Str.strSub
  simp only [if_true]
  have hx : x.length = x.cps.toList.length := by simp [Str.length]
  rw [hx]
  generalize x.cps = a
  have e1 : a.size = a.toList.length := by simp
  constructor
  · intro h
    have h2 := congrArg (fun z : Str => z.cps.size) h
    simp only [Array.size_extract] at h2
    have h3 : (Str.empty).cps.size = 0 := rfl
    rw [h3, e1] at h2
    have l1 := takeWhile_le (goes := goes) a.toList
    have l2 := takeWhile_le (goes := goes) (a.toList.drop (a.toList.takeWhile goes).length).reverse
    rw [List.length_reverse, List.length_drop] at l2
    refine (takeWhile_len a.toList).mp ?_
    rcases Nat.lt_or_ge (a.toList.takeWhile goes).length a.toList.length with c | c
    · exfalso
      have l3 : ((a.toList.drop (a.toList.takeWhile goes).length).reverse.takeWhile goes).length = (a.toList.drop (a.toList.takeWhile goes).length).reverse.length := by
        rw [List.length_reverse, List.length_drop]
        omega
      have l4 := (takeWhile_len _).mp l3
      rw [List.all_reverse] at l4
      have hd : ∃ y r, a.toList.drop (a.toList.takeWhile goes).length = y :: r := by
        cases e : a.toList.drop (a.toList.takeWhile goes).length with
        | nil =>
          have := congrArg List.length e
          rw [List.length_drop] at this
          simp at this
          simp at c
          omega
        | cons y r => exact ⟨y, r, rfl⟩
      obtain ⟨y, r, ed⟩ := hd
      rw [ed, List.all_cons, Bool.and_eq_true] at l4
      have st := takeWhile_stop goes 0 a.toList
      rcases st with st | st
      · omega
      · have : a.toList.getD (a.toList.takeWhile goes).length 0 = y := by
          rw [List.getD_eq_getElem?_getD]
          have := congrArg (fun l : List Nat => l[0]?) ed
          simp only [List.getElem?_drop, Nat.add_zero, List.getElem?_cons_zero] at this
          rw [this]
          rfl
        rw [this, l4.1] at st
        cases st
    · omega
  · intro h
    have l1 := (takeWhile_len a.toList).mpr h
    rw [l1]
    have e2 : a.toList.drop a.toList.length = [] := List.drop_length
    rw [e2]
    show Str.mk (a.extract a.toList.length (a.toList.length - 0)) = Str.empty
    rw [Nat.sub_zero]
    have : a.extract a.toList.length a.toList.length = #[] := by simp
    rw [this]
    rfl
theorem strip_letters (x : Str) : decide (V.str (PySem.Txt.stripChars x letters) = V.str "") = x.cps.toList.all lowC := by
  have e0 : ("" : Str) = Str.empty := by decide +kernel
  have e1 : (fun c => letters.cps.contains c) = lowC := funext letters_contains
  have h := strip_empty_iff lowC x
  unfold PySem.Txt.stripChars
  rw [show letters.cps.contains = lowC from e1, e0]
  cases ha : x.cps.toList.all lowC with
  | true =>
    rw [h.mpr ha]
    simp
  | false =>
    refine decide_eq_false fun e => ?_
    have := h.mp (V.str.inj e)
    rw [ha] at this
    cases this
/-! ### tables of counts -/
def hasC (c : CM) (n : Str) : Bool := c.any fun e => decide (e.1 = n)
def getC (c : CM) (n : Str) : Option Int := (c.find? fun e => decide (e.1 = n)).map (·.2)
def getD0 (c : CM) (n : Str) : Int := (getC c n).getD 0
def putC (c : CM) (n : Str) (v : Int) : CM := if hasC c n = true then c.map (fun e => if e.1 = n then (e.1, v) else e) else c ++ [(n, v)]
/-- so much less, without those that would have nothing -/
def lowered (c : CM) (m : Int) : CM := (c.filter fun e => decide (m < e.2)).map fun e => (e.1, e.2 - m)
def minL (w : Int) (l : List Int) : Int := l.foldl min w
def keysC (c : CM) : List Str := c.map (·.1)
def valsC (c : CM) : List Int := c.map (·.2)
/-- a coming: the table, what is lost by it -/
def come (room : Int) (c : CM) (n : Str) (w : Int) : CM × Int :=
  if hasC c n = false ∧ (c.length : Int) = room then
    let m := minL w (valsC c)
    let c' := lowered c m
    (if 0 < w - m then putC c' n (getD0 c' n + (w - m)) else c', m)
  else (putC c n (getD0 c n + w), 0)
theorem valV_kvc (n : Str) : ∀ c : CM, valV (kvc c) (Sum.inr n : Key) = (getC c n).map V.int
  | [] => rfl
  | e :: c => by
    by_cases h : e.1 = n
    · have h1 : valV (kvc (e :: c)) (Sum.inr n : Key) = some (V.int e.2) := valV_pos (p := ((Sum.inr e.1 : Key), V.int e.2)) (by rw [h])
      rw [h1]
      simp [getC, h]
    · have h1 : valV (kvc (e :: c)) (Sum.inr n : Key) = valV (kvc c) (Sum.inr n : Key) := valV_neg (p := ((Sum.inr e.1 : Key), V.int e.2)) (fun q => h (Sum.inr.inj q))
      rw [h1, valV_kvc n c]
      simp [getC, h]
theorem has_get (n : Str) : ∀ c : CM, hasC c n = (getC c n).isSome
  | [] => rfl
  | e :: c => by
    have ih := has_get n c
    unfold hasC getC at ih ⊢
    by_cases h : e.1 = n
    · simp [h]
    · rw [List.any_cons, List.find?_cons, decide_eq_false h, Bool.false_or]
      exact ih
theorem put_kvc (c : CM) (n : Str) (v : Int) : putK (kvc c) (Sum.inr n : Key) (V.int v) = kvc (putC c n v) := by
  have ea : ((kvc c).any fun kv => decide (kv.1 = (Sum.inr n : Key))) = hasC c n := by
    unfold kvc hasC
    rw [List.any_map]
    congr 1
    funext e
    simp only [Function.comp]
    rw [Bool.eq_iff_iff]
    simp
  unfold putK putC
  rw [ea]
  by_cases h : hasC c n = true
  · rw [if_pos h, if_pos h]
    unfold kvc
    rw [List.map_map, List.map_map]
    refine List.map_congr_left fun e _ => ?_
    simp only [Function.comp]
    by_cases h2 : e.1 = n
    · rw [if_pos (by rw [h2]), if_pos h2]
    · rw [if_neg (fun q => h2 (Sum.inr.inj q)), if_neg h2]
  · rw [if_neg h, if_neg h]
    unfold kvc
    rw [List.map_append]
    rfl
theorem len_kvc (c : CM) : (kvc c).length = c.length := by
  unfold kvc
  rw [List.length_map]
theorem snd_kvc (c : CM) : (kvc c).map (·.2) = (valsC c).map V.int := by
  unfold kvc valsC
  rw [List.map_map, List.map_map]
  rfl
/-! ### what stands in the heap -/
/-- all but these stands as it stood -/
def Off (l : List Addr) (H H' : Hp) : Prop := ∀ b o, b ∉ l → H b = some o → H' b = some o
theorem Off.refl (l : List Addr) (H : Hp) : Off l H H := fun _ _ _ e => e
theorem Off.of_ex {l : List Addr} {H H' : Hp} (e : Ex H H') : Off l H H' := fun b o _ h => e b o h
theorem Off.trans {l : List Addr} {H H1 H2 : Hp} (a : Off l H H1) (b : Off l H1 H2) : Off l H H2 := fun c o n e => b c o n (a c o n e)
theorem Off.mono {l m : List Addr} {H H1 : Hp} (a : Off l H H1) (h : ∀ b ∈ l, b ∈ m) : Off m H H1 := fun c o n e => a c o (fun z => n (h c z)) e
theorem Off.upd {l : List Addr} {H : Hp} {p : Addr} {o : HO} (h : p ∈ l) : Off l H (upd H p o) := fun b u n e => by
  rw [upd_ne (fun z => n (by rw [z]; exact h))]
  exact e
theorem Off.new {l : List Addr} {H : Hp} {p : Addr} {o : HO} (h : H p = none) : Off l H (L2.upd H p o) := fun b u n e => by
  rw [upd_ne (ne_of_none e h)]
  exact e
theorem Off.nil {H H' : Hp} (h : Off [] H H') : Ex H H' := fun b o e => h b o (fun z => nomatch z) e
/-- the attributes of a Desk, in the order in which they are stored -/
def dfl (room : Int) (d : Addr) (gone total : Int) : List (Str × V) := [(("room" : Str), .int room), (("counts" : Str), .ref d), (("gone" : Str), .int gone), (("total" : Str), .int total)]
section
variable (room : Int) (d : Addr) (gone total : Int)
theorem k_cr : ((("counts" : Str) == "room") = false) ∧ ((("gone" : Str) == "room") = false) ∧ ((("gone" : Str) == "counts") = false) ∧ ((("total" : Str) == "room") = false) ∧ ((("total" : Str) == "counts") = false) ∧ ((("total" : Str) == "gone") = false) := by decide +kernel
theorem k_rr : ((("room" : Str) == "room") = true) ∧ ((("counts" : Str) == "counts") = true) ∧ ((("gone" : Str) == "gone") = true) ∧ ((("total" : Str) == "total") = true) := by decide +kernel
theorem k_ne : ¬ ("room" : Str) = "counts" ∧ ¬ ("room" : Str) = "gone" ∧ ¬ ("room" : Str) = "total" ∧ ¬ ("counts" : Str) = "gone" ∧ ¬ ("counts" : Str) = "total" ∧ ¬ ("gone" : Str) = "total" := by decide +kernel
theorem dfl_room : (dfl room d gone total).lookup ("room" : Str) = some (.int room) := by
  simp only [dfl, List.lookup, k_rr.1]
theorem dfl_counts : (dfl room d gone total).lookup ("counts" : Str) = some (.ref d) := by
  simp only [dfl, List.lookup, k_cr.1, k_rr.2.1]
theorem dfl_gone : (dfl room d gone total).lookup ("gone" : Str) = some (.int gone) := by
  simp only [dfl, List.lookup, k_cr.2.1, k_cr.2.2.1, k_rr.2.2.1]
theorem dfl_total : (dfl room d gone total).lookup ("total" : Str) = some (.int total) := by
  simp only [dfl, List.lookup, k_cr.2.2.2.1, k_cr.2.2.2.2.1, k_cr.2.2.2.2.2, k_rr.2.2.2]
theorem dfl_no {m : Str} (h : (m == "room") = false ∧ (m == "counts") = false ∧ (m == "gone") = false ∧ (m == "total") = false) : (dfl room d gone total).lookup m = none := by
  simp only [dfl, List.lookup, h.1, h.2.1, h.2.2.1, h.2.2.2]
theorem dfl_put_counts (d' : Addr) : putF "counts" (.ref d') (dfl room d gone total) = dfl room d' gone total := by
  simp only [dfl, putF, if_neg k_ne.1, if_true]
theorem dfl_put_gone (z : Int) : putF "gone" (.int z) (dfl room d gone total) = dfl room d z total := by
  simp only [dfl, putF, if_neg k_ne.2.1, if_neg k_ne.2.2.2.1, if_true]
theorem dfl_put_total (z : Int) : putF "total" (.int z) (dfl room d gone total) = dfl room d gone z := by
  simp only [dfl, putF, if_neg k_ne.2.2.1, if_neg k_ne.2.2.2.2.1, if_neg k_ne.2.2.2.2.2, if_true]
theorem dfl_make : putF "total" (.int total) (putF "gone" (.int gone) (putF "counts" (.ref d) (putF "room" (.int room) []))) = dfl room d gone total := by
  simp only [dfl, putF, if_neg k_ne.1, if_neg k_ne.2.1, if_neg k_ne.2.2.1, if_neg k_ne.2.2.2.1, if_neg k_ne.2.2.2.2.1, if_neg k_ne.2.2.2.2.2]
end
/-- a Desk at p, its table at d -/
structure DeskAt (C : Addr) (H : Hp) (p d : Addr) (room : Int) (c : CM) (gone total : Int) : Prop where
  ob : ∃ dx, H p = some (.ins C dx (dfl room d gone total))
  dc : H d = some (.dK (kvc c))
  nd : (keysC c).Nodup
  ln : (c.length : Int) ≤ room
  r1 : 1 ≤ room
  r2 : room ≤ 50
theorem DeskAt.ne {C : Addr} {H : Hp} {p d : Addr} {room : Int} {c : CM} {gone total : Int} (D : DeskAt C H p d room c gone total) : p ≠ d := by
  obtain ⟨dx, h⟩ := D.ob
  exact ne_of h D.dc (fun z => nomatch z)
theorem DeskAt.off {C : Addr} {H H' : Hp} {p d : Addr} {room : Int} {c : CM} {gone total : Int} {l : List Addr} (D : DeskAt C H p d room c gone total) (h : Off l H H') (hp : p ∉ l) (hd : d ∉ l) : DeskAt C H' p d room c gone total :=
  ⟨let ⟨dx, e⟩ := D.ob; ⟨dx, h p _ hp e⟩, h d _ hd D.dc, D.nd, D.ln, D.r1, D.r2⟩
theorem DeskAt.ex {C : Addr} {H H' : Hp} {p d : Addr} {room : Int} {c : CM} {gone total : Int} (D : DeskAt C H p d room c gone total) (h : Ex H H') : DeskAt C H' p d room c gone total :=
  D.off (l := []) (Off.of_ex h) (fun z => nomatch z) (fun z => nomatch z)
theorem DeskAt.len {C : Addr} {H : Hp} {p d : Addr} {room : Int} {c : CM} {gone total : Int} (D : DeskAt C H p d room c gone total) : c.length ≤ 50 := by
  have := D.ln
  have := D.r2
  omega
/-- a thing whose kind isinstance can tell -/
structure Thing (K : PySem.W.Frag) (H : Hp) (x : V) : Prop where
  ex : ∃ t, TyX K H x t ∧ PySem.W.kitOne K t (.type "str") = some (match x with | .str _ => true | _ => false) ∧ PySem.W.kitOne K t (.type "int") = some (match x with | .int _ => true | .bl _ => true | _ => false) ∧ PySem.W.kitOne K t (.type "bool") = some (match x with | .bl _ => true | _ => false)
section
variable {K : PySem.W.Frag} {H : Hp}
theorem thing_str (z : Str) : Thing K H (.str z) := ⟨.type "str", .base (.str z), kit_ty (show kitB "str" "str" = some true by decide +kernel), kit_ty (show kitB "str" "int" = some false by decide +kernel), kit_ty (show kitB "str" "bool" = some false by decide +kernel)⟩
theorem thing_int (i : Int) : Thing K H (.int i) := ⟨.type "int", .base (.int i), kit_ty (show kitB "int" "str" = some false by decide +kernel), kit_ty (show kitB "int" "int" = some true by decide +kernel), kit_ty (show kitB "int" "bool" = some false by decide +kernel)⟩
theorem thing_bl (b : Bool) : Thing K H (.bl b) := ⟨.type "bool", .base (.bl b), kit_ty (show kitB "bool" "str" = some false by decide +kernel), kit_ty (show kitB "bool" "int" = some true by decide +kernel), kit_ty (show kitB "bool" "bool" = some true by decide +kernel)⟩
theorem thing_non : Thing K H .non := ⟨.type "NoneType", .base .non, kit_ty (show kitB "NoneType" "str" = some false by decide +kernel), kit_ty (show kitB "NoneType" "int" = some false by decide +kernel), kit_ty (show kitB "NoneType" "bool" = some false by decide +kernel)⟩
theorem thing_lst {a : Addr} {xs : List V} (h : H a = some (.lst xs)) : Thing K H (.ref a) := ⟨.type "list", .base (.lst h), kit_ty (show kitB "list" "str" = some false by decide +kernel), kit_ty (show kitB "list" "int" = some false by decide +kernel), kit_ty (show kitB "list" "bool" = some false by decide +kernel)⟩
theorem thing_dK {a : Addr} {kvs : List (Key × V)} (h : H a = some (.dK kvs)) : Thing K H (.ref a) := ⟨.type "dict", .base (.dK h), kit_ty (show kitB "dict" "str" = some false by decide +kernel), kit_ty (show kitB "dict" "int" = some false by decide +kernel), kit_ty (show kitB "dict" "bool" = some false by decide +kernel)⟩
end
/-! ### a def that may be called: where it stands and what it promises -/
structure Gf (P : Program) (w : World) (K : PySem.W.Frag) (mg : Str → Option Value) (base : Heap) (CX : CXT) (k : Nat) (x : Str) (ps : List Str) (sp : Sp) : Prop where
  ex : ∃ f fd, FnOk P w K mg base CX k f fd ps sp ∧ Binds K fd ps [] ∧ mg x = some (.ref f) ∧ PySem.W.keepIn K (.ref f) = true
/-- a method of the class at C -/
structure Gm (P : Program) (w : World) (K : PySem.W.Frag) (mg : Str → Option Value) (base : Heap) (CX : CXT) (C : Addr) (k : Nat) (x : Str) (ps : List Str) (sp : Sp) : Prop where
  ex : ∃ f fd, FnOk P w K mg base CX k f fd ps sp ∧ Binds K fd ps [] ∧ Meth K C x f
/-- an own exception class without __init__ of its own -/
structure ExT (K : PySem.W.Frag) (mg : Str → Option Value) (x : Str) (C : Addr) : Prop where
  g : mg x = some (.ref C)
  x : PySem.W.excIn K C [.type "ValueError", .type "Exception", .type "BaseException", .type "object"] "ValueError.__new__" = true
  k : PySem.W.keepIn K (.ref C) = true
  b : PySem.W.subIn K (.ref C) (.type "BaseException") = some true
  t : PySem.W.typeIn K (.ref C) = some (.type "type")
section
variable {X : Cx}
theorem pe_gint {x : Str} {i : Int} {t : Tok} {pos : Pos} (hm : X.mg x = some (.int i t)) (hg : Gl X x) (hd : (x == ("__debug__" : Str)) = false := by decide) : PE X (.Name x pos) (tC (.int i)) := pe_glob hg hm ⟨t, rfl⟩ hd
theorem pe_gstr {x : Str} {z : Str} {t : Tok} {pos : Pos} (hm : X.mg x = some (.str z t)) (hg : Gl X x) (hd : (x == ("__debug__" : Str)) = false := by decide) : PE X (.Name x pos) (tC (.str z)) := pe_glob hg hm ⟨t, rfl⟩ hd
theorem pe_bty {x : Str} {n : String} {pos : Pos} (hm : X.mg x = none) (hv : bootBuiltins x = some (.type n)) (hg : Gl X x) (hn : x ≠ "__name__" := by decide) (hd : (x == ("__debug__" : Str)) = false := by decide) : PE X (.Name x pos) (tC (.ty n)) := pe_bltn hg hm hv rfl hn hd
end
/-! ### loops and comprehensions over whatever is walked, n turns -/
theorem for_it {J : It} {n : Nat} {g : TG} {tb : TS} {D : Ends} {σ : L2.St} {H : Hp} (Pv : Nat → L2.St → Hp → Prop) (h0 : Pv 0 σ H) (hgo : ∀ i σ H, i < n → Pv i σ H → J.go i H) (hst : ∀ σ H, Pv n σ H → J.stop n H)
    (hs : ∀ i σ H, i < n → Pv i σ H → ∀ x H', J.yld i H x H' → g x σ H' fun σ2 H2 => tb { D with nx := Pv (i + 1), ct := Pv (i + 1), bk := D.nx } σ2 H2) (hd : ∀ σ H, Pv n σ H → D.nx σ H) :
    ∃ W : Nat → Nat → L2.St → Hp → Prop, (∃ m, W 0 m σ H) ∧ ∀ i m σ H, W i m σ H →
      (J.stop i H ∧ D.nx σ H) ∨ (J.go i H ∧ ∃ N : L2.St → Hp → Prop, (∀ σ' H', N σ' H' → ∃ m', m' < m ∧ W (i + 1) m' σ' H') ∧ ∀ x H', J.yld i H x H' → g x σ H' fun σ2 H2 => tb { D with nx := N, ct := N, bk := D.nx } σ2 H2) := by
  refine ⟨fun i m σ H => m = n - i ∧ i ≤ n ∧ Pv i σ H, ⟨n, (Nat.sub_zero n).symm, Nat.zero_le _, h0⟩, ?_⟩
  rintro i m σ H ⟨rfl, hi, p⟩
  rcases Nat.lt_or_ge i n with c | c
  · exact .inr ⟨hgo i σ H c p, Pv (i + 1), fun σ' H' p' => ⟨n - (i + 1), by omega, rfl, c, p'⟩, hs i σ H c p⟩
  · obtain rfl : i = n := by omega
    exact .inl ⟨hst σ H p, hd σ H p⟩
theorem lc_it {J : It} {n : Nat} {g : TG} {tt : TT} {te : TE} {vs : List Nat} {σ : L2.St} {H1 : Hp} {D : Addr} {Qd : Hp → Prop} (Pv : Nat → Hp → Prop) (h0 : Pv 0 (upd H1 D (.lst []))) (hgo : ∀ i H, i < n → Pv i H → J.go i H) (hst : ∀ H, Pv n H → J.stop n H)
    (hs : ∀ i H, i < n → Pv i H → ∀ x H', J.yld i H x H' → g x (wipe σ vs) H' fun σ2 H2 => wipe σ2 vs = wipe σ vs ∧ tt σ2 H2 fun b H3 =>
      if b = true then te σ2 H3 fun y H4 => ∃ acc, H4 D = some (.lst acc) ∧ acc.length < sizeLine ∧ Pv (i + 1) (upd H4 D (.lst (acc ++ [y]))) else Pv (i + 1) H3) (hd : ∀ H, Pv n H → Qd H) :
    ∃ W : Nat → Nat → Hp → Prop, (∃ m, W 0 m (upd H1 D (.lst []))) ∧ ∀ i m H, W i m H →
      (J.stop i H ∧ Qd H) ∨ (J.go i H ∧ ∃ Nx : Hp → Prop, (∀ H', Nx H' → ∃ m', m' < m ∧ W (i + 1) m' H') ∧ ∀ x H', J.yld i H x H' → g x (wipe σ vs) H' fun σ2 H2 => wipe σ2 vs = wipe σ vs ∧ tt σ2 H2 fun b H3 =>
        if b = true then te σ2 H3 fun y H4 => ∃ acc, H4 D = some (.lst acc) ∧ acc.length < sizeLine ∧ Nx (upd H4 D (.lst (acc ++ [y]))) else Nx H3) := by
  refine ⟨fun i m H => m = n - i ∧ i ≤ n ∧ Pv i H, ⟨n, (Nat.sub_zero n).symm, Nat.zero_le _, h0⟩, ?_⟩
  rintro i m H ⟨rfl, hi, p⟩
  rcases Nat.lt_or_ge i n with c | c
  · exact .inr ⟨hgo i H c p, Pv (i + 1), fun H' p' => ⟨n - (i + 1), by omega, rfl, c, p'⟩, hs i H c p⟩
  · obtain rfl : i = n := by omega
    exact .inl ⟨hst H p, hd H p⟩
/-- a Desk that is read (its table may be locked) -/
structure DeskR (C : Addr) (H : Hp) (p d : Addr) (room : Int) (c : CM) (gone total : Int) : Prop where
  ob : ∃ dx, H p = some (.ins C dx (dfl room d gone total))
  dc : Rd H d (.dK (kvc c))
theorem DeskAt.rd {C : Addr} {H : Hp} {p d : Addr} {room : Int} {c : CM} {gone total : Int} (D : DeskAt C H p d room c gone total) : DeskR C H p d room c gone total := ⟨D.ob, .inl D.dc⟩
theorem DGet.of {H : Hp} {d : Addr} {c : CM} (h : Rd H d (.dK (kvc c))) (n : Str) : DGet H d (.str n) ((getC c n).map V.int) := .inl ⟨kvc c, Sum.inr n, h, rfl, (valV_kvc n c).symm⟩
theorem IsD.of {H : Hp} {d : Addr} {c : CM} (h : Rd H d (.dK (kvc c))) : IsD H d := .inl ⟨_, h⟩
theorem getD_map (o : Option Int) (z : Int) : (o.map V.int).getD (.int z) = .int (o.getD z) := by
  cases o <;> rfl
theorem DPut.of {H : Hp} {d : Addr} {c : CM} (h : H d = some (.dK (kvc c))) (n : Str) (v : Int) (hl : c.length < sizeLine) : DPut H d (.str n) (.int v) (upd H d (.dK (kvc (putC c n v)))) :=
  .inl ⟨kvc c, Sum.inr n, h, rfl, by rw [len_kvc]; exact hl, by rw [put_kvc]⟩
theorem small {n : Nat} (h : n ≤ 100000) : n < sizeLine := by rw [sizeLine_eq]; omega
/-! ### what a coming keeps -/
theorem minL_le : ∀ (l : List Int) (w : Int), minL w l ≤ w ∧ ∀ y ∈ l, minL w l ≤ y
  | [], w => ⟨Int.le_refl _, fun _ h => nomatch h⟩
  | a :: l, w => by
    obtain ⟨h1, h2⟩ := minL_le l (min w a)
    have e : minL w (a :: l) = minL (min w a) l := rfl
    rw [e]
    refine ⟨by omega, fun y hy => ?_⟩
    rcases List.mem_cons.mp hy with rfl | hy
    · omega
    · exact h2 y hy
theorem minL_mem : ∀ (l : List Int) (w : Int), minL w l = w ∨ minL w l ∈ l
  | [], w => .inl rfl
  | a :: l, w => by
    have e : minL w (a :: l) = minL (min w a) l := rfl
    rw [e]
    rcases minL_mem l (min w a) with h | h
    · rcases Int.le_total w a with c | c
      · left
        rw [h]
        omega
      · right
        rw [h, Int.min_eq_right c]
        exact List.mem_cons_self ..
    · exact .inr (List.mem_cons_of_mem _ h)
theorem minL_uniq {l : List Int} {w m : Int} (h1 : m = w ∨ m ∈ l) (h2 : m ≤ w) (h3 : ∀ y ∈ l, m ≤ y) : m = minL w l := by
  obtain ⟨a1, a2⟩ := minL_le l w
  rcases minL_mem l w with b | b
  · rcases h1 with c | c
    · rw [c, b]
    · have := a2 m c
      omega
  · have := h3 _ b
    rcases h1 with c | c
    · omega
    · have := a2 m c
      omega
theorem keys_put (c : CM) (n : Str) (v : Int) : keysC (putC c n v) = if hasC c n = true then keysC c else keysC c ++ [n] := by
  unfold putC
  by_cases h : hasC c n = true
  · rw [if_pos h, if_pos h]
    unfold keysC
    rw [List.map_map]
    refine List.map_congr_left fun e _ => ?_
    simp only [Function.comp]
    split <;> rfl
  · rw [if_neg h, if_neg h]
    unfold keysC
    rw [List.map_append]
    rfl
theorem has_iff (c : CM) (n : Str) : hasC c n = true ↔ n ∈ keysC c := by
  unfold hasC keysC
  rw [List.any_eq_true, List.mem_map]
  constructor
  · rintro ⟨e, he, h⟩
    exact ⟨e, he, of_decide_eq_true h⟩
  · rintro ⟨e, he, h⟩
    exact ⟨e, he, decide_eq_true h⟩
theorem put_nodup {c : CM} {n : Str} {v : Int} (h : (keysC c).Nodup) : (keysC (putC c n v)).Nodup := by
  rw [keys_put]
  split
  · exact h
  · rename_i hn
    exact nd_snoc h fun hm => hn ((has_iff c n).mpr hm)
theorem put_len (c : CM) (n : Str) (v : Int) : (putC c n v).length = if hasC c n = true then c.length else c.length + 1 := by
  have e := congrArg List.length (keys_put c n v)
  unfold keysC at e
  rw [List.length_map] at e
  rw [e]
  split <;> simp
theorem lowered_keys (c : CM) (m : Int) : (keysC (lowered c m)).Sublist (keysC c) := by
  unfold lowered keysC
  rw [List.map_map]
  exact (List.filter_sublist).map _
theorem lowered_nodup {c : CM} {m : Int} (h : (keysC c).Nodup) : (keysC (lowered c m)).Nodup := (lowered_keys c m).nodup h
theorem lowered_len (c : CM) (m : Int) : (lowered c m).length ≤ c.length := by
  unfold lowered
  rw [List.length_map]
  exact List.length_filter_le _ _
theorem lowered_lt {c : CM} {m : Int} (h : ∃ e ∈ c, e.2 ≤ m) : (lowered c m).length < c.length := by
  obtain ⟨e, he, hm⟩ := h
  unfold lowered
  rw [List.length_map]
  exact List.length_filter_lt_length_iff_exists.mpr ⟨e, he, by simp; omega⟩
theorem come_nodup {room w : Int} {c : CM} {n : Str} (h : (keysC c).Nodup) : (keysC (come room c n w).1).Nodup := by
  unfold come
  split
  · dsimp only
    split
    · exact put_nodup (lowered_nodup h)
    · exact lowered_nodup h
  · exact put_nodup h
theorem come_len {room w : Int} {c : CM} {n : Str} (h : (c.length : Int) ≤ room) : ((come room c n w).1.length : Int) ≤ room := by
  unfold come
  split
  · dsimp only
    split
    · rename_i hw
      have hl : (lowered c (minL w (valsC c))).length < c.length := by
        rcases minL_mem (valsC c) w with e | e
        · rw [e] at hw
          omega
        · unfold valsC at e
          obtain ⟨z, hz, ez⟩ := List.mem_map.mp e
          exact lowered_lt ⟨z, hz, by show z.2 ≤ minL w (valsC c); unfold valsC; omega⟩
      rw [put_len]
      split <;> omega
    · have := lowered_len c (minL w (valsC c))
      omega
  · rename_i hn
    rw [put_len]
    split
    · exact h
    · rename_i h2
      have h3 : hasC c n = false := Bool.eq_false_iff.mpr h2
      have h4 : ¬ (c.length : Int) = room := fun z => hn ⟨h3, z⟩
      omega
end DK

set_option Elab.async false
set_option linter.all false
set_option maxRecDepth 100000
set_option maxHeartbeats 4000000
namespace DK
open PySem PySem.Spec PyProof.Rows L2
/-! ### the sorted ones -/
def sle (x y : Str) : Bool := !slt y x
theorem sle_tr (a b c : Str) (h1 : sle a b = true) (h2 : sle b c = true) : sle a c = true := by
  unfold sle at *
  rw [Bool.not_eq_true'] at *
  exact slt_tr a b c h1 h2
theorem sle_tot (a b : Str) : (sle a b || sle b a) = true := by
  unfold sle
  cases h1 : slt b a with
  | false => rfl
  | true =>
    rw [slt_asym _ _ h1]
    rfl
theorem sle_anti {a b : Str} (h1 : sle a b = true) (h2 : sle b a = true) : a = b := by
  unfold sle at *
  rw [Bool.not_eq_true'] at *
  exact slt_tot a b h2 h1
def sortS (l : List Str) : List Str := l.mergeSort sle
def sortC (c : CM) : CM := c.mergeSort fun e f => sle e.1 f.1
theorem sortS_perm (l : List Str) : (sortS l).Perm l := List.mergeSort_perm _ _
theorem sortC_perm (c : CM) : (sortC c).Perm c := List.mergeSort_perm _ _
theorem sortS_asc (l : List Str) : (sortS l).Pairwise fun x y => sle x y = true := List.pairwise_mergeSort sle_tr sle_tot l
theorem sortC_asc (c : CM) : (sortC c).Pairwise fun e f => sle e.1 f.1 = true := List.pairwise_mergeSort (fun a b c => sle_tr a.1 b.1 c.1) (fun a b => sle_tot a.1 b.1) c
theorem rising_pw : ∀ (r : List Str) (p : Str), risingS p r = true → (p :: r).Pairwise fun x y => sle x y = true
  | [], p, _ => List.pairwise_singleton _ _
  | x :: r, p, h => by
    unfold risingS at h
    rw [Bool.and_eq_true] at h
    have ih := rising_pw r x h.2
    have hpx : sle p x = true := by
      have h1 := h.1
      rw [Bool.not_eq_true'] at h1
      unfold sle slt
      rw [← ltCps_eq, h1]
      rfl
    rw [List.pairwise_cons]
    refine ⟨fun y hy => ?_, ih⟩
    rcases List.mem_cons.mp hy with rfl | hy
    · exact hpx
    · exact sle_tr _ _ _ hpx ((List.pairwise_cons.mp ih).1 y hy)
theorem sortedS_pw {l : List Str} (h : sortedS l = true) : l.Pairwise fun x y => sle x y = true := by
  cases l with
  | nil => exact List.Pairwise.nil
  | cons x r => exact rising_pw r x h
theorem sortS_eq {ys xs : List Str} (p : ys.Perm xs) (h : ys.Pairwise fun x y => sle x y = true) : ys = sortS xs :=
  List.Perm.eq_of_pairwise (fun a b _ _ h1 h2 => sle_anti h1 h2) h (sortS_asc xs) (p.trans (sortS_perm xs).symm)
theorem mem_eq {c : CM} (nd : (keysC c).Nodup) {e f : Str × Int} (he : e ∈ c) (hf : f ∈ c) (h : e.1 = f.1) : e = f := by
  have := nodup_val nd e he f hf h
  exact Prod.ext h this
theorem sortC_eq {c' c : CM} (nd : (keysC c).Nodup) (p : c'.Perm c) (h : c'.Pairwise fun e f => sle e.1 f.1 = true) : c' = sortC c :=
  List.Perm.eq_of_pairwise (fun a b ha hb h1 h2 => mem_eq nd (p.mem_iff.mp ha) ((sortC_perm c).mem_iff.mp hb) (sle_anti h1 h2)) h (sortC_asc c) (p.trans (sortC_perm c).symm)
theorem sortC_asc' {c' : CM} (h : Asc c') : c'.Pairwise fun e f => sle e.1 f.1 = true :=
  h.imp fun {e f} h => by
    unfold sle
    rw [h]
    rfl
theorem perm_keys {c' c : CM} (p : c'.Perm c) : (keysC c').Perm (keysC c) := by
  unfold keysC
  exact p.map _
theorem sortC_nodup {c : CM} (nd : (keysC c).Nodup) : (keysC (sortC c)).Nodup := (perm_keys (sortC_perm c)).nodup_iff.mpr nd
theorem sortC_len (c : CM) : (sortC c).length = c.length := (sortC_perm c).length_eq
theorem merge_new : ∀ (c a : CM), (keysC (a ++ c)).Nodup → mergeK (kvc a) (kvc c) = kvc (a ++ c)
  | [], a, _ => by
    rw [List.append_nil]
    rfl
  | e :: c, a, h => by
    have e1 : mergeK (kvc a) (kvc (e :: c)) = mergeK (putK (kvc a) (Sum.inr e.1) (V.int e.2)) (kvc c) := rfl
    have hn : hasC a e.1 = false := by
      refine Bool.eq_false_iff.mpr fun hh => ?_
      have hm := (has_iff a e.1).mp hh
      unfold keysC at h hm
      rw [List.map_append, List.nodup_append] at h
      exact h.2.2 _ hm _ (by simp) rfl
    rw [e1, put_kvc]
    have e2 : putC a e.1 e.2 = a ++ [e] := by
      unfold putC
      rw [if_neg (by rw [hn]; exact Bool.false_ne_true)]
    rw [e2, merge_new c (a ++ [e]) (by rw [List.append_assoc]; exact h), List.append_assoc]
    rfl
theorem merge_kvc {c : CM} (h : (keysC c).Nodup) : mergeK [] (kvc c) = kvc c := merge_new c [] h
theorem prs_paired {K : PySem.W.Frag} {H : Hp} {ts : List Addr} {c : CM} (h : PrsAt H ts c) : Paired (fun p (kv : Key × V) => SqT K H p [kV kv.1, kv.2]) ts (kvc c) := by
  unfold PrsAt at h
  induction h with
  | nil => exact .nil
  | cons r t ih => exact .cons (SqT.of r) ih
/-- the tables that are one up to their order -/
theorem getC_mem {c : CM} (nd : (keysC c).Nodup) {n : Str} {v : Int} : getC c n = some v ↔ (n, v) ∈ c := by
  unfold getC
  constructor
  · intro h
    cases e : c.find? (fun e => decide (e.1 = n)) with
    | none => rw [e] at h; cases h
    | some z =>
      rw [e] at h
      have h1 := List.mem_of_find?_eq_some e
      have h2 := List.find?_some (p := fun e : Str × Int => decide (e.1 = n)) e
      have h3 : z.1 = n := of_decide_eq_true h2
      have h4 : z.2 = v := Option.some.inj h
      rw [← h3, ← h4]
      exact h1
  · intro h
    cases e : c.find? (fun e => decide (e.1 = n)) with
    | none =>
      have := List.find?_eq_none.mp e _ h
      simp at this
    | some z =>
      have h1 := List.mem_of_find?_eq_some e
      have h2 : z.1 = n := of_decide_eq_true (List.find?_some (p := fun e : Str × Int => decide (e.1 = n)) e)
      have : z = (n, v) := mem_eq nd h1 h h2
      rw [this]
      rfl
theorem getC_perm {c c' : CM} (nd : (keysC c).Nodup) (p : c'.Perm c) (n : Str) : getC c' n = getC c n := by
  have nd' : (keysC c').Nodup := (perm_keys p).nodup_iff.mpr nd
  cases e : getC c n with
  | some v => exact (getC_mem nd').mpr (p.mem_iff.mpr ((getC_mem nd).mp e))
  | none =>
    cases e' : getC c' n with
    | none => rfl
    | some v =>
      have := (getC_mem nd).mpr (p.mem_iff.mp ((getC_mem nd').mp e'))
      rw [e] at this
      cases this
end DK

set_option Elab.async false
set_option linter.all false
set_option maxRecDepth 100000
set_option maxHeartbeats 4000000
namespace DK
open PySem PySem.Spec PyProof.Rows L2
/-! ### texts by their codes -/
abbrev cs (z : Str) : List Nat := z.cps.toList
theorem cs_len (z : Str) : z.length = (cs z).length := by simp [Str.length, cs]
theorem cs_app (x y : Str) : cs (x ++ y) = cs x ++ cs y := by
  show (x.cps ++ y.cps).toList = _
  simp [cs]
theorem cs_mk (l : List Nat) : cs ⟨l.toArray⟩ = l := by simp [cs]
theorem cs_inj {x y : Str} (h : cs x = cs y) : x = y := cps_inj h
theorem cut_to (z : Str) (k : Nat) : cs (cutS z none (some (k : Int))) = (cs z).take k := by
  unfold cutS
  rw [cs_mk, HT.sIx_none, HT.sIx_nat, List.drop_zero, Nat.sub_zero, cs_len]
  rcases Nat.le_total k (cs z).length with h | h
  · rw [Nat.min_eq_left h]
  · rw [Nat.min_eq_right h, List.take_of_length_le (Nat.le_refl _), List.take_of_length_le h]
theorem cut_from (z : Str) (k : Nat) : cs (cutS z (some (k : Int)) none) = (cs z).drop k := by
  unfold cutS
  rw [cs_mk, HT.sIx_none, HT.sIx_nat, cs_len]
  rw [List.take_of_length_le (by rw [List.length_drop]; exact Nat.le_refl _)]
  rcases Nat.le_total k (cs z).length with h | h
  · rw [Nat.min_eq_left h]
  · rw [Nat.min_eq_right h, List.drop_of_length_le (Nat.le_refl _), List.drop_of_length_le h]
theorem letters_at (i : Int) (h0 : 0 ≤ i) (h1 : i < 26) : atI (cs letters) i = some (97 + i.toNat) := by
  have e : cs letters = [97, 98, 99, 100, 101, 102, 103, 104, 105, 106, 107, 108, 109, 110, 111, 112, 113, 114, 115, 116, 117, 118, 119, 120, 121, 122] := by decide +kernel
  obtain ⟨k, rfl⟩ : ∃ k : Nat, i = (k : Int) := ⟨i.toNat, by omega⟩
  refine atI_nat ?_
  rw [e]
  have hk : k < 26 := by omega
  have all : ∀ j : Nat, j < 26 → ([97, 98, 99, 100, 101, 102, 103, 104, 105, 106, 107, 108, 109, 110, 111, 112, 113, 114, 115, 116, 117, 118, 119, 120, 121, 122] : List Nat)[j]? = some (97 + j) := by decide +kernel
  exact all k hk
theorem isName_iff (z : Str) : isName z = true ↔ 1 ≤ (cs z).length ∧ (cs z).length ≤ 8 ∧ ∀ c ∈ cs z, 97 ≤ c ∧ c ≤ 122 := by
  unfold isName
  rw [Bool.and_eq_true, List.all_eq_true, cs_len]
  constructor
  · rintro ⟨h1, h2⟩
    have := of_decide_eq_true h1
    exact ⟨this.1, this.2, fun c hc => of_decide_eq_true (h2 c hc)⟩
  · rintro ⟨h1, h2, h3⟩
    exact ⟨decide_eq_true ⟨h1, h2⟩, fun c hc => decide_eq_true (h3 c hc)⟩
/-- text times number: the codes -/
theorem mulS_ok {z : Str} {n : Int} (hz : z.length = 1) (h1 : 1 ≤ n) (h8 : n ≤ 8) : MulOk z n := by
  refine ⟨?_, fun _ _ => ?_, fun _ _ => ?_⟩
  · rw [Bool.or_eq_false_iff]
    exact ⟨decide_eq_false (by omega), decide_eq_false (by omega)⟩
  · rw [hz]
    have : (1 : Int) ≤ (2 ^ 63 - 1) / n := by
      rw [Int.le_ediv_iff_mul_le (by omega)]
      omega
    show ¬ ((1 : Nat) : Int) > _
    omega
  · rw [hz]
    unfold Builtin.Str.tooLong
    have h2 : 1 * n.toNat ≤ 8 := by omega
    refine decide_eq_false ?_
    generalize 1 * n.toNat = k at h2
    have : sizeLine = 16777216 := sizeLine_eq
    omega
theorem mulS_cs (c : Nat) : ∀ n : Nat, 1 ≤ n → n ≤ 8 → cs (PySem.Txt.mul ⟨#[c]⟩ (n : Int)) = List.replicate n c := by
  intro n h1 h8
  have h : n = 1 ∨ n = 2 ∨ n = 3 ∨ n = 4 ∨ n = 5 ∨ n = 6 ∨ n = 7 ∨ n = 8 := by omega
  rcases h with rfl | rfl | rfl | rfl | rfl | rfl | rfl | rfl <;> rfl
/-! ### the names that a law makes -/
/-- words of 1 to 8 letters, each with its own letter at one place -/
structure NamesOk (nm : List Str) : Prop where
  ok : ∀ n ∈ nm, isName n = true
  nd : nm.Nodup
/-- the k-th word by the letter at the place a -/
structure WordAt (q : Int) (a : Nat) (k : Nat) (z : Str) : Prop where
  nm : isName z = true
  at_ : (cs z)[a]? = some (97 + ((q + 5 * (k : Int)) % 26).toNat)
theorem words_ok {q : Int} {a : Nat} {nm : List Str} (hl : nm.length ≤ 14) (h : ∀ (k : Nat) (z : Str), nm[k]? = some z → WordAt q a k z) : NamesOk nm := by
  refine ⟨fun n hn => ?_, ?_⟩
  · obtain ⟨k, hk⟩ := List.mem_iff_getElem?.mp hn
    exact (h k n hk).nm
  · refine List.pairwise_iff_getElem.mpr fun i j hi hj hij e => ?_
    have ei : nm[i]? = some nm[i] := List.getElem?_eq_getElem hi
    have ej : nm[j]? = some nm[i] := by rw [e]; exact List.getElem?_eq_getElem hj
    have a1 := (h i _ ei).at_
    have a2 := (h j _ ej).at_
    rw [a1] at a2
    have := Option.some.inj a2
    omega
end DK

set_option Elab.async false
set_option linter.all false
set_option maxRecDepth 100000
set_option maxHeartbeats 4000000
namespace DK
open PySem PySem.Spec PyProof.Rows L2
/-! ### a number in a view of values: asked by walking -/
theorem no_contains : typeLookup (.type "dict_values") "__contains__" = pure none := by rw [typeLookup_type, builtinLookup_eq_fast]; kernel_rfl
theorem plain_in_loop : plainId "proto.contains_iter" = true := by decide +kernel
theorem entry_in_loop : entryFor table "proto.contains_iter" = some Builtin.«proto.contains_iter» := entryFor_of_tree (by kernel_rfl)
theorem code_in_loop {prog : Program} {w : World} {A : Around} {R : Result → Shared → Prop} {I : Addr} {fp wr : List Addr} {n : Nat} {P : Nat → Value → Prop} {St : Nat → Heap → Prop}
    (W : Walks prog w A.in1 I fp wr n P St) (val : Nat → Int) (hval : ∀ i v, P i v → ∃ t, v = .int (val i) t) (x : Int) (tx : Tok) :
    ∀ (k i : Nat) (s : Shared), n - i = k → i ≤ n → St i s.heap →
    (∀ (r : Bool) (h' : Heap) (tk : Nat), (r = true ↔ ∃ j, i ≤ j ∧ j < n ∧ val j = x) → (∀ b o, b ∉ wr → s.heap.get? b = some o → h'.get? b = some o) → R (.ok (.ret (.bool r))) { s with heap := h', toks := tk }) →
    codeAny (model prog w) A (.builtin "proto.contains_iter" ⟨[.ref I, .int x tx], []⟩) R s := by
  intro k
  induction k with
  | zero =>
    intro i s hk hi hst hR
    have hin : i = n := by omega
    subst hin
    refine codeAny_builtin entry_in_loop ?_
    rw [Around.under_plainId plain_in_loop _]
    show wpAny _ A.in1 (pyNext (.ref I) >>= _) _ _ s
    refine wpAny_bind (W.done s _ _ hst fun h' tk hk' => ?_)
    refine wpAny_bind (wpAny_rule ?_)
    exact wpAny_pure (hR false h' tk ⟨fun h => (nomatch h), fun ⟨j, h1, h2, _⟩ => absurd h2 (by omega)⟩ hk')
  | succ k ih =>
    intro i s hk hi hst hR
    have hlt : i < n := by omega
    refine codeAny_builtin entry_in_loop ?_
    rw [Around.under_plainId plain_in_loop _]
    show wpAny _ A.in1 (pyNext (.ref I) >>= _) _ _ s
    refine wpAny_bind (W.item i s _ _ hlt hst fun v h' tk hP hst' hk' => ?_)
    obtain ⟨t, rfl⟩ := hval i v hP
    refine wpAny_bind (wpAny_eqBool_int ?_)
    by_cases c : val i = x
    · have e : (val i == x) = true := by rw [c]; exact beq_self_eq_true x
      rw [e]
      refine wpAny_bind (wpAny_rule ?_)
      exact wpAny_pure (hR true h' tk ⟨fun _ => ⟨i, Nat.le_refl _, hlt, c⟩, fun _ => rfl⟩ hk')
    · have e : (val i == x) = false := by rw [beq_eq_false_iff_ne]; exact c
      rw [e]
      refine wpAny_pure ⟨plainId_quiet plain_in_loop _, ih (i + 1) _ (by omega) hlt hst' fun r h2 tk2 hr hk2 => hR r h2 tk2 (hr.trans ⟨fun ⟨j, h1, h2, h3⟩ => ⟨j, by omega, h2, h3⟩, fun ⟨j, h1, h2, h3⟩ => ?_⟩) fun b o hb e => hk2 b o hb (hk' b o hb e)⟩
      rcases Nat.eq_or_lt_of_le h1 with z | z
      · exact absurd (z ▸ h3) c
      · exact ⟨j, z, h2, h3⟩
section
variable {X : Cx} {pins : List (Addr × Obj)} {σ : L2.St} {H : Hp} {s : Shared}
def rInV : R2 := fun x y H Q => ∃ (i : Int) (p a : Addr) (kvs : List (Key × V)) (ns : List Int), x = .int i ∧ y = .ref p ∧ H p = some (viewV p a) ∧ H a = some (.dK kvs) ∧ kvs.map (·.2) = ns.map V.int ∧ ∀ b : Bool, (b = true ↔ i ∈ ns) → Q (.bl b) H
theorem op_inV (hc : X.calm = true) : OpR X (compareOp .In) rInV := by
  intro pins s σ H x y v u Q I rx ry h
  obtain ⟨i, p, a, kvs, ns, rfl, rfl, hp, ha, hns, q⟩ := h
  obtain ⟨tx, rfl⟩ : ∃ t, v = Value.int i t := rx
  obtain rfl : u = Value.ref p := ry
  obtain ⟨vs, ep, rel, z, hl, src⟩ := src_of I hp ha
  have hln : vs.length = ns.length := by rw [← hl]; exact len_at hns
  have K := PySem.W.kdl_values (prog := X.prog) (w := X.w) (r := p) (d := a) (knd := mixKind X.prog X.w) (kvs := vs) (ep := ep)
  have hT := K.type s src
  show wpAny _ _ (contains (.ref p) (.int i tx) >>= _) _ _ s
  refine wpAny_bind ?_
  unfold contains
  refine wpAny_holding ?_
  rw [stdlibNamesSay?_of_typeIs hT]
  refine wpAny_bind (wpAny_specialOf hT no_contains ?_)
  show wpAny _ _ (if ((none : Option Value) == some Value.none) = true then _ else _) _ _ s
  rw [if_neg (by decide)]
  refine wpAny_bind (wpAny_callSpecialUnlessNone?_none hT no_contains ?_)
  refine wpAny_bind (wpAny_rule ?_)
  obtain ⟨oI, St, hit, W, st⟩ := K.iter X.A.in1 s (show X.A.in1.handled = none from I.ok.hd hc) src
  refine wpAny_bind (wpAny_tryCatch (wpAny_of_in1 (hit _ _ ?_)))
  refine wpAny_bind (wpAny_runValue ?_)
  refine code_in_loop W (fun i => ns.getD i 0) (fun i v hv => val_at rel hns hv) i tx _ 0 _ rfl (Nat.zero_le _) st fun r h' tk hr hk => ?_
  have hk2 : ∀ b o, s.heap.get? b = some o → h'.get? b = some o := fun b o e =>
    hk b o (fun hI => absurd (Heap.lt_size e) (by rw [List.mem_singleton.mp hI]; exact Nat.lt_irrefl _)) (Heap.get?_push_of_some _ e)
  refine wpAny_pure (wpAny_pure ?_)
  refine ⟨.bl r, H, I.kept hk2, rfl, q r (hr.trans ⟨fun ⟨j, _, h2, h3⟩ => ?_, fun hm => ?_⟩)⟩
  · rw [hln] at h2
    rw [List.getD_eq_getElem?_getD, List.getElem?_eq_getElem h2] at h3
    exact h3 ▸ List.getElem_mem h2
  · obtain ⟨j, h2, h3⟩ := List.getElem_of_mem hm
    exact ⟨j, Nat.zero_le _, by rw [hln]; exact h2, by rw [List.getD_eq_getElem?_getD, List.getElem?_eq_getElem h2]; exact h3⟩
end
end DK

set_option Elab.async false
set_option linter.all false
set_option maxRecDepth 100000
set_option maxHeartbeats 4000000
namespace DK
open PySem PySem.Spec PyProof.Rows L2
/-! ### a table, name by name -/
theorem getC_put (c : CM) (n : Str) (v : Int) (m : Str) : getC (putC c n v) m = if m = n then some v else getC c m := by
  unfold putC
  by_cases h : hasC c n = true
  · rw [if_pos h]
    induction c with
    | nil => cases h
    | cons e c ih =>
      rw [List.map_cons]
      by_cases he : e.1 = n
      · rw [if_pos he]
        by_cases hm : m = n
        · rw [if_pos hm]
          simp [getC, he, hm]
        · rw [if_neg hm]
          have h1 : ¬ e.1 = m := fun z => hm (z.symm.trans he)
          by_cases h2 : hasC c n = true
          · have := ih h2
            rw [if_neg hm] at this
            unfold getC at this ⊢
            rw [List.find?_cons, List.find?_cons, decide_eq_false h1]
            exact this
          · have e1 : c.map (fun e => if e.1 = n then (e.1, v) else e) = c := by
              refine (List.map_congr_left fun x hx => ?_).trans (List.map_id _)
              rw [if_neg fun z => h2 (List.any_eq_true.mpr ⟨x, hx, decide_eq_true z⟩)]
              rfl
            rw [e1]
            unfold getC
            rw [List.find?_cons, List.find?_cons, decide_eq_false h1]
      · rw [if_neg he]
        have h2 : hasC c n = true := by
          unfold hasC at h ⊢
          rw [List.any_cons, decide_eq_false he, Bool.false_or] at h
          exact h
        have := ih h2
        unfold getC at this ⊢
        rw [List.find?_cons, List.find?_cons]
        by_cases h3 : e.1 = m
        · rw [decide_eq_true h3]
          rw [if_neg fun z => he (h3.trans z)]
        · rw [decide_eq_false h3]
          exact this
  · rw [if_neg h]
    have hn : getC c n = none := by
      have := has_get n c
      rw [Bool.eq_false_iff.mpr h] at this
      cases e : getC c n with
      | none => rfl
      | some y => rw [e] at this; cases this
    unfold getC at hn ⊢
    rw [List.find?_append]
    by_cases hm : m = n
    · rw [if_pos hm, hm]
      have : (c.find? fun e => decide (e.1 = n)) = none := Option.map_eq_none_iff.mp hn
      rw [this]
      simp
    · rw [if_neg hm]
      cases e : c.find? fun e => decide (e.1 = m) with
      | some y => rfl
      | none =>
        rw [Option.none_or, List.find?_cons, decide_eq_false (fun z : n = m => hm z.symm)]
        rfl
theorem getD0_put (c : CM) (n : Str) (v : Int) (m : Str) : getD0 (putC c n v) m = if m = n then v else getD0 c m := by
  unfold getD0
  rw [getC_put]
  split <;> rfl
def sumC (c : CM) : Int := (valsC c).sum
theorem sumC_cons (e : Str × Int) (c : CM) : sumC (e :: c) = e.2 + sumC c := by
  unfold sumC valsC
  rw [List.map_cons, List.sum_cons]
theorem getC_cons_ne {e : Str × Int} {c : CM} {m : Str} (h : ¬ e.1 = m) : getC (e :: c) m = getC c m := by
  unfold getC
  rw [List.find?_cons, decide_eq_false h]
theorem getC_cons_eq {e : Str × Int} {c : CM} {m : Str} (h : e.1 = m) : getC (e :: c) m = some e.2 := by
  unfold getC
  rw [List.find?_cons, decide_eq_true h]
  rfl
theorem map_same {c : CM} {n : Str} {v : Int} (h : n ∉ keysC c) : c.map (fun e => if e.1 = n then (e.1, v) else e) = c := by
  refine (List.map_congr_left fun x hx => ?_).trans (List.map_id _)
  rw [if_neg fun z => h (List.mem_map.mpr ⟨x, hx, z⟩)]
  rfl
theorem no_key {c : CM} {n : Str} (h : hasC c n = false) : n ∉ keysC c := fun z => by
  rw [(has_iff c n).mpr z] at h
  cases h
theorem get_none {c : CM} {n : Str} (h : n ∉ keysC c) : getC c n = none := by
  have := has_get n c
  cases e : getC c n with
  | none => rfl
  | some y =>
    rw [e] at this
    exact absurd ((has_iff c n).mp this) h
theorem sum_put {c : CM} (nd : (keysC c).Nodup) (n : Str) (v : Int) : sumC (putC c n v) = sumC c - getD0 c n + v := by
  unfold putC
  by_cases h : hasC c n = true
  · rw [if_pos h]
    induction c with
    | nil => cases h
    | cons e c ih =>
      obtain ⟨n1, n2⟩ := List.nodup_cons.mp (show (e.1 :: keysC c).Nodup from nd)
      rw [List.map_cons, sumC_cons, sumC_cons]
      by_cases he : e.1 = n
      · rw [if_pos he, map_same (by rw [← he]; exact n1)]
        unfold getD0
        rw [getC_cons_eq he]
        show v + sumC c = e.2 + sumC c - e.2 + v
        omega
      · rw [if_neg he]
        have h2 : hasC c n = true := by
          unfold hasC at h ⊢
          rw [List.any_cons, decide_eq_false he, Bool.false_or] at h
          exact h
        have := ih n2 h2
        unfold getD0 at this ⊢
        rw [getC_cons_ne he]
        omega
  · rw [if_neg h]
    have e0 : getD0 c n = 0 := by
      unfold getD0
      rw [get_none (no_key (Bool.eq_false_iff.mpr h))]
      rfl
    rw [e0]
    unfold sumC valsC
    rw [List.map_append, List.sum_append]
    simp
def posC (c : CM) : Prop := ∀ e ∈ c, 0 < e.2
theorem pos_put {c : CM} {n : Str} {v : Int} (h : posC c) (hv : 0 < v) : posC (putC c n v) := by
  intro e he
  unfold putC at he
  split at he
  · obtain ⟨x, hx, rfl⟩ := List.mem_map.mp he
    split
    · exact hv
    · exact h x hx
  · rcases List.mem_append.mp he with he | he
    · exact h e he
    · rw [List.mem_singleton.mp he]
      exact hv
theorem pos_get {c : CM} (h : posC c) (n : Str) : 0 ≤ getD0 c n := by
  unfold getD0 getC
  cases e : c.find? fun e => decide (e.1 = n) with
  | none => exact Int.le_refl _
  | some x =>
    have := h x (List.mem_of_find?_eq_some e)
    show 0 ≤ x.2
    omega
theorem pos_has {c : CM} {n : Str} (h : 0 < getD0 c n) : n ∈ keysC c := by
  refine Classical.byContradiction fun z => ?_
  unfold getD0 at h
  rw [get_none z] at h
  cases h
theorem has_pos {c : CM} {n : Str} (hp : posC c) (h : n ∈ keysC c) : ∃ v, getC c n = some v ∧ 0 < v := by
  have := has_get n c
  rw [(has_iff c n).mpr h] at this
  cases e : getC c n with
  | none => rw [e] at this; cases this
  | some v =>
    refine ⟨v, rfl, ?_⟩
    unfold getC at e
    obtain ⟨x, hx, rfl⟩ := Option.map_eq_some_iff.mp e
    exact hp x (List.mem_of_find?_eq_some hx)
theorem pos_lowered {c : CM} {m : Int} : posC (lowered c m) := by
  intro e he
  unfold lowered at he
  obtain ⟨x, hx, rfl⟩ := List.mem_map.mp he
  have := of_decide_eq_true (List.mem_filter.mp hx).2
  show 0 < x.2 - m
  omega
theorem lowered_cons (e : Str × Int) (c : CM) (m : Int) : lowered (e :: c) m = if m < e.2 then (e.1, e.2 - m) :: lowered c m else lowered c m := by
  unfold lowered
  by_cases h : m < e.2
  · rw [if_pos h, List.filter_cons_of_pos (by exact decide_eq_true h), List.map_cons]
  · rw [if_neg h, List.filter_cons_of_neg (by rw [decide_eq_true_eq]; exact h)]
theorem sum_lowered {m : Int} : ∀ c : CM, (∀ e ∈ c, m ≤ e.2) → sumC (lowered c m) = sumC c - c.length * m
  | [], _ => by simp [lowered, sumC, valsC]
  | e :: c, h => by
    have ih := sum_lowered c fun x hx => h x (List.mem_cons_of_mem _ hx)
    have he := h e (List.mem_cons_self ..)
    rw [lowered_cons, sumC_cons, List.length_cons]
    have hm : ((c.length + 1 : Nat) : Int) * m = (c.length : Int) * m + m := by
      rw [Int.natCast_add, Int.add_mul]
      omega
    rw [hm]
    split
    · rw [sumC_cons, ih]
      show e.2 - m + _ = _
      omega
    · rw [ih]
      omega
/-- what a name has after the lowering -/
theorem get_lowered {c : CM} (nd : (keysC c).Nodup) (hp : posC c) {m : Int} (hm : 0 ≤ m) (n : Str) : getD0 (lowered c m) n = if m < getD0 c n then getD0 c n - m else 0 := by
  induction c with
  | nil =>
    show (0 : Int) = if m < 0 then 0 - m else 0
    rw [if_neg (by omega)]
  | cons e c ih =>
    obtain ⟨n1, n2⟩ := List.nodup_cons.mp (show (e.1 :: keysC c).Nodup from nd)
    have hp2 : posC c := fun x hx => hp x (List.mem_cons_of_mem _ hx)
    have ih := ih n2 hp2
    rw [lowered_cons]
    by_cases he : e.1 = n
    · have e1 : getD0 (e :: c) n = e.2 := by unfold getD0; rw [getC_cons_eq he]; rfl
      rw [e1]
      by_cases h : m < e.2
      · rw [if_pos h, if_pos h]
        unfold getD0
        rw [getC_cons_eq (e := (e.1, e.2 - m)) he]
        rfl
      · rw [if_neg h, if_neg h]
        have : n ∉ keysC (lowered c m) := fun z => n1 (by rw [he]; exact (lowered_keys c m).subset z)
        unfold getD0
        rw [get_none this]
        rfl
    · have e1 : getD0 (e :: c) n = getD0 c n := by unfold getD0; rw [getC_cons_ne he]
      rw [e1, ← ih]
      split
      · unfold getD0
        rw [getC_cons_ne (e := (e.1, e.2 - m)) he]
      · rfl
/-! ### the bounds, and that a coming keeps them -/
structure Bnd (room : Int) (c : CM) (gone total : Int) (t : CM) : Prop where
  nd : (keysC c).Nodup
  ln : (c.length : Int) ≤ room
  ndt : (keysC t).Nodup
  pos : posC c
  post : posC t
  g0 : 0 ≤ gone
  tot : sumC t = total
  sm : sumC c + (room + 1) * gone = total
  lo : ∀ n, getD0 c n ≤ getD0 t n
  hi : ∀ n, getD0 t n ≤ getD0 c n + gone
  few : (t.length : Int) ≤ room → gone = 0 ∧ ∀ n, getC c n = getC t n
theorem bnd_start (room : Int) (h : 1 ≤ room) : Bnd room [] 0 0 [] := ⟨List.nodup_nil, by show ((0 : Nat) : Int) ≤ room; omega, List.nodup_nil, (fun _ h => nomatch h), (fun _ h => nomatch h), Int.le_refl _, rfl, by show (0 : Int) + (room + 1) * 0 = 0; omega, fun _ => Int.le_refl _, fun _ => Int.le_refl _, fun _ => ⟨rfl, fun _ => rfl⟩⟩
theorem same_len {c t : CM} (nc : (keysC c).Nodup) (nt : (keysC t).Nodup) (h : ∀ n, getC c n = getC t n) : c.length = t.length := by
  have p : (keysC c).Perm (keysC t) := (List.perm_ext_iff_of_nodup nc nt).mpr fun n => by
    rw [← has_iff, ← has_iff, has_get, has_get, h]
  have := p.length_eq
  unfold keysC at this
  rw [List.length_map, List.length_map] at this
  exact this
theorem bnd_come {room gone total w : Int} {c t : CM} {n : Str} (B : Bnd room c gone total t) (hw : 1 ≤ w) : Bnd room (come room c n w).1 (gone + (come room c n w).2) (total + w) (putC t n (getD0 t n + w)) := by
  have t0 := pos_get B.post n
  have c0 := pos_get B.pos n
  have st : sumC (putC t n (getD0 t n + w)) = total + w := by
    rw [sum_put B.ndt, B.tot]
    omega
  have few_put : ∀ c' : CM, c' = putC c n (getD0 c n + w) → gone = 0 → (∀ m, getC c m = getC t m) → ∀ m, getC c' m = getC (putC t n (getD0 t n + w)) m := by
    rintro c' rfl g e m
    rw [getC_put, getC_put, e m]
    have : getD0 c n = getD0 t n := by unfold getD0; rw [e n]
    rw [this]
  have tl : (t.length : Int) ≤ ((putC t n (getD0 t n + w)).length : Int) := by
    rw [put_len]
    split <;> omega
  refine ⟨come_nodup B.nd, come_len B.ln, put_nodup B.ndt, ?_, pos_put B.post (by omega), ?_, st, ?_, ?_, ?_, ?_⟩
  · unfold come
    split
    · dsimp only
      split
      · refine pos_put pos_lowered ?_
        have := pos_get (pos_lowered (c := c) (m := minL w (valsC c))) n
        omega
      · exact pos_lowered
    · exact pos_put B.pos (by omega)
  all_goals unfold come
  all_goals split
  all_goals try dsimp only
  -- what is lost
  · rename_i h
    have := B.g0
    rcases minL_mem (valsC c) w with e | e
    · omega
    · unfold valsC at e
      obtain ⟨z, hz, ez⟩ := List.mem_map.mp e
      have := B.pos z hz
      unfold valsC
      omega
  · have := B.g0
    omega
  -- the sum
  · rename_i h
    obtain ⟨l1, l2⟩ := minL_le (valsC c) w
    generalize hmm : minL w (valsC c) = mm at l1 l2 ⊢
    have hk := no_key h.1
    have s1 := sum_lowered (m := mm) c fun e he => l2 e.2 (List.mem_map_of_mem he)
    rw [h.2] at s1
    have e0 : getD0 (lowered c mm) n = 0 := by
      unfold getD0
      rw [get_none fun z => hk ((lowered_keys c mm).subset z)]
      rfl
    have e1 : (room + 1) * (gone + mm) = (room + 1) * gone + room * mm + mm := by
      rw [Int.mul_add, Int.add_mul room 1 mm]
      omega
    have sm := B.sm
    rw [e1]
    split
    · rw [sum_put (lowered_nodup B.nd), s1, e0]
      omega
    · rw [s1]
      omega
  · rw [sum_put B.nd]
    have := B.sm
    rw [show gone + 0 = gone by omega]
    omega
  -- from below
  · rename_i h
    intro m
    obtain ⟨l1, l2⟩ := minL_le (valsC c) w
    have m0 : 0 ≤ minL w (valsC c) := by
      rcases minL_mem (valsC c) w with e | e
      · omega
      · unfold valsC at e
        obtain ⟨z, hz, ez⟩ := List.mem_map.mp e
        have := B.pos z hz
        unfold valsC
        omega
    generalize minL w (valsC c) = mm at l1 l2 m0 ⊢
    have hk := no_key h.1
    have e0 : getD0 (lowered c mm) n = 0 := by
      unfold getD0
      rw [get_none fun z => hk ((lowered_keys c mm).subset z)]
      rfl
    have gl := get_lowered B.nd B.pos m0 m
    have lo := B.lo m
    have pm := pos_get B.pos m
    by_cases hmn : m = n
    · subst hmn
      split
      · rw [getD0_put, getD0_put, e0, if_pos rfl, if_pos rfl]
        omega
      · rw [getD0_put, e0, if_pos rfl]
        omega
    · split
      · rw [getD0_put, getD0_put, if_neg hmn, if_neg hmn, gl]
        split <;> omega
      · rw [getD0_put, if_neg hmn, gl]
        split <;> omega
  · intro m
    rw [getD0_put, getD0_put]
    have := B.lo m
    have := B.lo n
    split <;> omega
  -- from above
  · rename_i h
    intro m
    obtain ⟨l1, l2⟩ := minL_le (valsC c) w
    have m0 : 0 ≤ minL w (valsC c) := by
      rcases minL_mem (valsC c) w with e | e
      · omega
      · unfold valsC at e
        obtain ⟨z, hz, ez⟩ := List.mem_map.mp e
        have := B.pos z hz
        unfold valsC
        omega
    generalize minL w (valsC c) = mm at l1 l2 m0 ⊢
    have hk := no_key h.1
    have e0 : getD0 (lowered c mm) n = 0 := by
      unfold getD0
      rw [get_none fun z => hk ((lowered_keys c mm).subset z)]
      rfl
    have ec : getD0 c n = 0 := by
      unfold getD0
      rw [get_none hk]
      rfl
    have gl := get_lowered B.nd B.pos m0 m
    have hi := B.hi m
    have hin := B.hi n
    have pm := pos_get B.pos m
    by_cases hmn : m = n
    · subst hmn
      split
      · rw [getD0_put, getD0_put, e0, if_pos rfl, if_pos rfl]
        omega
      · rw [getD0_put, e0, if_pos rfl]
        omega
    · split
      · rw [getD0_put, getD0_put, if_neg hmn, if_neg hmn, gl]
        split <;> omega
      · rw [getD0_put, if_neg hmn, gl]
        split <;> omega
  · intro m
    rw [getD0_put, getD0_put]
    have := B.hi m
    have := B.hi n
    split <;> omega
  -- few names
  · rename_i h
    intro hf
    obtain ⟨g, e⟩ := B.few (by omega)
    have sl := same_len B.nd B.ndt e
    have hnt : hasC t n = false := by
      rw [has_get, ← e n, ← has_get]
      exact h.1
    rw [put_len, hnt, if_neg (by decide)] at hf
    have := h.2
    omega
  · intro hf
    obtain ⟨g, e⟩ := B.few (by omega)
    exact ⟨by omega, few_put _ rfl g e⟩
/-! ### what a law asks of the bounds -/
theorem heavy_in {room gone total : Int} {c t : CM} (B : Bnd room c gone total t) {n : Str} (hr : 1 ≤ room) (h : total < getD0 t n * (room + 1)) : n ∈ keysC c ∧ total < (getD0 c n + gone) * (room + 1) := by
  have hi := B.hi n
  have p0 : ∀ e ∈ c, 0 < e.2 := B.pos
  have s0 : 0 ≤ sumC c := by
    have : ∀ c : CM, posC c → 0 ≤ sumC c := by
      intro c
      induction c with
      | nil => intro _; exact Int.le_refl _
      | cons e c ih =>
        intro hp
        rw [sumC_cons]
        have := ih fun x hx => hp x (List.mem_cons_of_mem _ hx)
        have := hp e (List.mem_cons_self ..)
        omega
    exact this c B.pos
  have h2 : getD0 t n * (room + 1) ≤ (getD0 c n + gone) * (room + 1) := Int.mul_le_mul_of_nonneg_right hi (by omega)
  refine ⟨Classical.byContradiction fun z => ?_, by omega⟩
  have e0 : getD0 c n = 0 := by
    unfold getD0
    rw [get_none z]
    rfl
  rw [e0, Int.zero_add, Int.mul_comm gone] at h2
  have := B.sm
  omega
theorem sure_in {room gone total : Int} {c t : CM} (B : Bnd room c gone total t) {n : Str} (hr : 1 ≤ room) (hk : n ∈ keysC c) (h : total < (getD0 c n + 0) * (room + 1)) : n ∈ keysC t ∧ total < getD0 t n * (room + 1) := by
  have lo := B.lo n
  rw [Int.add_zero] at h
  have h2 : getD0 c n * (room + 1) ≤ getD0 t n * (room + 1) := Int.mul_le_mul_of_nonneg_right lo (by omega)
  obtain ⟨v, hv, hv0⟩ := has_pos B.pos hk
  have e : getD0 c n = v := by unfold getD0; rw [hv]; rfl
  exact ⟨pos_has (by omega), by omega⟩
theorem inV_str (n : Str) (l : List Str) : inV (.str n) (l.map V.str) = true ↔ n ∈ l := by
  unfold inV
  rw [List.any_map, List.any_eq_true]
  constructor
  · rintro ⟨x, hx, h⟩
    have : (x == n) = true := h
    rw [← eq_of_beq this]
    exact hx
  · intro h
    exact ⟨n, h, beq_self_eq_true n⟩
theorem flat_strs (l : List Str) : (l.map V.str).all flatV = true := by
  rw [List.all_map, List.all_eq_true]
  intro x _
  rfl
end DK

set_option Elab.async false
set_option linter.all false
set_option maxRecDepth 100000
set_option maxHeartbeats 4000000
namespace DK
open PySem PySem.Spec PyProof.Rows L2
/-! ### a caught exception that is held on by a name -/
/-- an exception of the class cls stands at a, nobody throws it any more -/
def Held (cls : Value) (d : Option Addr) (a : Addr) : HO := .ext fun h => ∃ (oe : Obj) (vs : Array Value), h.get? a = some oe ∧ Zc cls d oe ∧ oe.data = .fields vs
theorem held_ok {P : Program} {w : World} {H : Hp} {h : Heap} {a : Addr} {cls : Value} {d : Option Addr} {oe : Obj} {vs : Array Value} (e : h.get? a = some oe) (z : Zc cls d oe) (hd : oe.data = .fields vs) : ObjOk P w H h a (Held cls d a) :=
  ⟨⟨oe, vs, e, z, hd⟩, ⟨oe, e⟩, fun _ _ ⟨o, v, q, r⟩ k => ⟨o, v, k o q, r⟩⟩
section
variable {X : Cx} {pins : List (Addr × Obj)} {σ : L2.St} {H : Hp} {s : Shared}
/-- what the heap holds beside, new since the entry, may be tracked from here on -/
theorem beside {a : Addr} {cls : Value} {d : Option Addr} {oe : Obj} {vs : Array Value} (I : Inv X pins σ H s) (there : s.heap.get? a = some oe) (z : Zc cls d oe) (flds : oe.data = .fields vs) (na : H a = none)
    (fresh : X.s_0.heap.get? a = none) (apart : ∀ p ∈ X.pn ++ pins, p.1 ≠ a) (nL : X.env.locals ≠ a) (nC : ∀ x c, X.env.cells.lookup x = some c → c ≠ a) : Inv X pins σ (upd H a (Held cls d a)) s := by
  have old : ∀ (b : Addr) (o : Obj), X.s_0.heap.get? b = some o → b ≠ a := by
    intro b o e same
    rw [same, fresh] at e
    exact nomatch e
  have other : ∀ {b : Addr} {o : HO}, H b = some o → b ≠ a := by
    intro b o e same
    rw [same, na] at e
    exact nomatch e
  refine { ok := I.ok, os := I.os, bare := I.bare, base := ?base, loc := I.loc, cell := I.cell, free := ?free, freeC := ?freeC, pin := ?pin, hok := ?hok, len := I.len }
  case base =>
    refine { keep := I.base.keep, slot := I.base.slot, free := ?_, there := I.base.there, tups := ?_, frzs := ?_, tbls := ?_ }
    · intro b o e n hx
      rw [upd_ne (old b o e)]
      exact I.base.free b o e n hx
    · intro b xs e
      have now := I.base.tups b xs e
      rw [upd_ne (other now)]
      exact now
    · intro b o u e
      have now := I.base.frzs b o u e
      rw [upd_ne (other now)]
      exact now
    · intro b ps e
      obtain ⟨more, now⟩ := I.base.tbls b ps e
      refine ⟨more, ?_⟩
      rw [upd_ne (other now)]
      exact now
  case free =>
    rw [upd_ne nL]
    exact I.free
  case freeC =>
    intro x c e
    rw [upd_ne (nC x c e)]
    exact I.freeC x c e
  case pin =>
    intro p hp
    obtain ⟨h1, h2, h3⟩ := I.pin p hp
    refine ⟨h1, ?_, h3⟩
    rw [upd_ne (apart p hp)]
    exact h2
  case hok =>
    intro b o e
    by_cases same : b = a
    · subst same
      rw [upd_same] at e
      obtain rfl := Option.some.inj e
      exact held_ok there z flds
    · rw [upd_ne same] at e
      refine (I.hok b o e).stay (fun _ _ _ q => q) (fun c q => ?_) (fun c xs q => ?_)
      · rw [upd_ne (other q)]
        exact q
      · rw [upd_ne (other q)]
        exact q
end
/-- what 'except x as n: y = n' wishes: slot i is n's, slot j is y's -/
def wHold (K : PySem.W.Frag) (len : Nat) (c : Value) (i j : Nat) (Wout : WX) (D : Ends) : WX := fun cls d σ H =>
  ∃ b, PySem.W.exmOne K cls c = some b ∧ (b = true → ∀ a, H a = none → σ.length = len → D.nx (((σ.set i (some (.ref a))).set j (some (.ref a))).set i none) (upd H a (Held cls d a))) ∧ (b = false → Wout cls d σ H)
section
variable {X : Cx} {x n y : Str} {c : Value} {i j : Nat} {body : List Stmt} {np pos pos' : Pos} {tb : WX → TS} {Wout : WX} {st : Stmt}
theorem ps_try_hold (hstack : X.stack = X.env :: X.outer) (hframe : X.env.frame = some X.env.locals) (hex : X.ex = []) (hN : X.N.Nodup) (hi : X.N[i]? = some n) (hlocal : X.env.kindOf n = some .local) (hname : Names X x c) (tk : Takes X Wout)
    (hbody : ∀ (W : WX) (pn : List (Addr × Obj)) (xe : Value → Shared → Prop), Takes (X.tr pn xe) W → PassesOwn (model X.prog X.w) X.A X.env xe → PSs (X.tr pn xe) body (tb W))
    (hsuite : ∀ (a : Addr) (pn : List (Addr × Obj)), PSs (X.suite a pn) [st] (tAsg (tVar i) (gName j))) :
    PS X (.Try body [.ExceptHandler (some (.Name x np)) (some n) [st] pos'] [] [] pos) (fun D σ H => tb (wHold X.K X.N.length c i j Wout D) D σ H) := by
  refine ⟨fun pins s σ H D I h => ?_⟩
  have ok := I.ok
  have frames : X.A.frames = some (X.env :: X.outer) := by rw [ok.frames, hstack]
  let caught : Value → Shared → Prop := fun e s₁ => wpAny (model X.prog X.w) X.A (noteFrame e X.env) (fun _ s₂ => wpAny (model X.prog X.w) X.A (setFlight e none)
    (fun _ s₃ => wpAny (model X.prog X.w) X.A (handleBy e X.env [.ExceptHandler (some (.Name x np)) (some n) [st] pos']) (SP X pins D) X.xe s₃) X.xe s₂) X.xe s₁
  refine wpAny_Try_except (wpAny_mono ((hbody (wHold X.K X.N.length c i j Wout D) (X.pn ++ pins) caught ?takes PassesOwn.looking).run [] s σ H D (I.toTry _) h) ?flows fun _ _ z => z)
  case flows =>
    intro f s1 ended
    cases f with
    | next =>
      obtain ⟨σ', H', J, q⟩ := ended
      exact wpAny_execs_nil ⟨σ', H', J.ofTry ok, q⟩
    | brk =>
      obtain ⟨σ', H', J, q⟩ := ended
      exact ⟨σ', H', J.ofTry ok, q⟩
    | cont =>
      obtain ⟨σ', H', J, q⟩ := ended
      exact ⟨σ', H', J.ofTry ok, q⟩
    | ret u =>
      obtain ⟨v, σ', H', J, r, q⟩ := ended
      exact ⟨v, σ', H', J.ofTry ok, r, q⟩
  case takes =>
    rintro u s' ⟨a, B, sI, pinsI, σ', H', cls, d, rfl, J, ground, upto, sky, na, os, bare, b, hasked, hyes, hno⟩
    have J : Inv X pins σ' H' sI := J.ofTry ok
    have sky : Sky B (X.env :: X.outer) a (Zc cls d) X.env.locals s'.heap := by
      rw [← hstack]
      exact sky
    show wpAny (model X.prog X.w) X.A (noteFrame (.ref a) X.env) _ _ _
    refine Sky.land Zc.steady frames hframe sky fun h3 fly3 up3 => ?_
    have all3 := upto.trans up3
    have J3 : Inv X pins σ' H' { s' with heap := h3 } := J.landed ground fly3.1 all3 os bare
    obtain ⟨oe3, vs3, he3, hz3, hd3⟩ := fly3.there
    have notFrame : a ∉ frs (X.env :: X.outer) := by
      intro hm
      obtain ⟨_, o2, e2, no⟩ := fly3.2.2.1.mem hm
      rw [he3] at e2
      obtain rfl := Option.some.inj e2
      exact no _ hd3
    have unborn : sI.heap.get? a = none := by
      cases e : sI.heap.get? a with
      | none => rfl
      | some o =>
        have inB := ground a o e (by rw [hstack]; exact notFrame)
        rw [fly3.2.1] at inB
        exact nomatch inB
    have fresh : X.s_0.heap.get? a = none := by
      cases e : X.s_0.heap.get? a with
      | none => rfl
      | some o =>
        obtain ⟨o2, e2⟩ := J.base.there a o e (by rw [hex]; exact fun z => nomatch z)
        rw [unborn] at e2
        exact nomatch e2
    have apart : ∀ p ∈ X.pn ++ pins, p.1 ≠ a := by
      intro p hp same
      have born := (J.pin p hp).1
      rw [same, unborn] at born
      exact nomatch born
    have nL : X.env.locals ≠ a := by
      intro same
      refine notFrame (List.mem_filterMap.mpr ⟨X.env, List.mem_cons_self, ?_⟩)
      rw [hframe, same]
    have nF : a ∉ X.fs := by
      intro hm
      obtain ⟨e, he, q⟩ := List.mem_filterMap.mp hm
      exact notFrame (List.mem_filterMap.mpr ⟨e, List.mem_cons_of_mem _ he, q⟩)
    have nC : ∀ x c, X.env.cells.lookup x = some c → c ≠ a := by
      intro x c e same
      obtain ⟨v, o, ho, _⟩ := J.cell x c e
      rw [same, unborn] at ho
      exact nomatch ho
    have in3 := J3.suite he3 hd3 na (Ne.symm nL) nF
    refine wpAny_handleBy_cons (codeAny_handlers_test ?_) (by intro q; cases q)
    have kind : PySem.W.Looks (model X.prog X.w) h3 (typeOf (.ref a)) cls := by
      intro A Q E s keeps q
      refine wpAny_typeOf_ref (keeps _ _ he3) ?_
      rw [hz3.1]
      exact q
    have answer := PySem.W.exm_one (M := model X.prog X.w) J3.kIn kind hasked
    have named : ∀ {Q : Value → Shared → Prop} {E : Value → Shared → Prop}, Q c { s' with heap := h3 } →
        wpAny (model X.prog X.w) (X.A.mark (some (.ref a))) (eval (.Name x np) X.env) Q E { s' with heap := h3 } := by
      intro Q E q
      obtain ⟨hg, hdbg, found | ⟨unfound, built, notName⟩⟩ := hname
      · exact ld_glob (X := X.suite a ((a, oe3) :: (X.pn ++ pins))) in3 hg found q hdbg
      · exact ld_blt (X := X.suite a ((a, oe3) :: (X.pn ++ pins))) in3 hg unfound built q notName hdbg
    refine named (answer.here ?_)
    cases b with
    | true =>
      refine codeAny_handlers_suite_as (HandSPX.lands_againZ fly3 fun h4 fly4 up4 => ?_)
      have J4 : Inv X pins σ' H' { s' with heap := h4 } := J.landed ground fly4.1 (all3.trans up4) os bare
      obtain ⟨oe4, vs4, he4, hz4, hd4⟩ := fly4.there
      have in4 := J4.suite he4 hd4 na (Ne.symm nL) nF
      refine store_ok (X := X.suite a ((a, oe4) :: (X.pn ++ pins))) (v := .ref a) in4 hN hi (.inl hlocal) rfl (fun s5 in5 => ?_) (.inr hlocal)
      have inside : i < σ'.length := by
        rw [J4.len]
        exact (List.getElem?_eq_some_iff.mp hi).1
      have start : tAsg (tVar i) (gName j) { nx := fun σ6 H6 => σ6 = (σ'.set i (some (.ref a))).set j (some (.ref a)) ∧ H6 = H', rt := fun _ _ => False } (σ'.set i (some (.ref a))) H' :=
        ⟨.ref a, List.getElem?_set_self inside, rfl, rfl⟩
      refine wpAny_mono ((hsuite a ((a, oe4) :: (X.pn ++ pins))).run [] s5 _ H' _ in5 start) (fun f s6 ended => ?_) (fun _ _ z => False.elim z)
      cases f with
      | next =>
        obtain ⟨σ6, H6, in6, rfl, rfl⟩ := ended
        have pinned := in6.pin (a, oe4) (List.mem_append_left _ (List.mem_cons_self ..))
        have J6 := beside (in6.unsuite ok) pinned.1 hz4 hd4 pinned.2.1 fresh apart nL nC
        exact gone_ok J6 hN hi hlocal fun s7 J7 => ⟨_, _, J7, hyes rfl a na J4.len⟩
      | brk =>
        obtain ⟨_, _, _, z⟩ := ended
        exact z.elim
      | cont =>
        obtain ⟨_, _, _, z⟩ := ended
        exact z.elim
      | ret u =>
        obtain ⟨_, _, _, _, _, z⟩ := ended
        exact z.elim
    | false =>
      show wpAny _ X.A (handleBy (.ref a) X.env []) _ _ _
      refine wpAny_handleBy_nil ?_
      obtain ⟨_, _, _, oe, vs, T, oT, ts, he, hz, hd, h1, hr⟩ := id fly3
      have on : wpAny (model X.prog X.w) X.A (setFlight (.ref a) X.env.frame) (fun _ s4 => wpAny (model X.prog X.w) X.A (throw (.ref a) : Sem Flow) (SP X pins D) X.xe s4) X.xe { s' with heap := h3 } := by
        rw [hframe]
        refine HandSPX.setFlight_upZ fly3 fun h4 held4 up4 => wpAny_throw (tk _ _ ⟨a, B, sI, pins, σ', H', cls, d, rfl, J, ground, all3.trans up4, ?_, na, os, bare, hno rfl⟩)
        rw [hstack]
        exact .inr (.inr held4)
      unfold PySem.passOn
      refine wpAny_bind (wpAny_field he hd h1 ?_)
      have some' : ¬ ((Value.ref T == Value.none) = true) := by simp
      rw [if_neg some']
      first
        | exact wpAny_bind (wpAny_pure (wpAny_bind on))
        | exact wpAny_bind on
end
/-! ### isinstance of such an exception -/
/-- isinstance(e, c) -/
def rIsX (K : PySem.W.Frag) : List V → Hp → VK → Prop := fun xs H Q => ∃ (a D : Addr) (c : V) (cv : Value) (b : Bool), xs = [.ref a, c] ∧ H a = some (Held (.ref D) none a) ∧ ExcC K D ∧ ClsV c cv ∧ PySem.W.kitOne K (.ref D) cv = some b ∧ Q (.bl b) H
/-- isinstance(e, (c1, c2, ..)) -/
def rIsXT (K : PySem.W.Frag) : List V → Hp → VK → Prop := fun xs H Q => ∃ (a D tp : Addr) (cs : List V) (us : List Value) (b : Bool), xs = [.ref a, .ref tp] ∧ H a = some (Held (.ref D) none a) ∧ H tp = some (.tup cs) ∧ ExcC K D ∧ Paired ClsV cs us ∧ PySem.W.kitAny K (.ref D) us = some b ∧ Q (.bl b) H
section
variable {X : Cx} {pins : List (Addr × Obj)} {σ : L2.St} {H : Hp} {s : Shared}
theorem held_at {a D : Addr} (I : Inv X pins σ H s) (h : H a = some (Held (.ref D) none a)) : ∃ oe, PySem.W.InstAt s.heap a oe D none := by
  obtain ⟨⟨oc, od, dat, sl⟩, vs, e, ⟨z1, z2⟩, hd⟩ := (show ObjOk X.prog X.w H s.heap a (Held (.ref D) none a) from I.hok a _ h).1
  dsimp only at z1 z2 hd
  subst z1 z2 hd
  exact ⟨_, e, rfl, rfl, trivial⟩
theorem call_isX : CallR X (.builtin "isinstance") (rIsX X.K) := by
  intro pins s σ H xs us Q I r h
  obtain ⟨a, D, c, cv, b, rfl, ha, C, k, e, q⟩ := h
  obtain ⟨u1, u2, rfl, r1, r2⟩ := vals2 r
  obtain rfl : u1 = Value.ref a := r1
  obtain rfl := k.eq r2
  obtain ⟨oe, J⟩ := held_at I ha
  exact PySem.W.kia_one (PySem.W.handS_kitx_exc C.hg C.hk C.hs C.hd C.ha C.hn C.ht C.hm) I.kIn J e (fun z => nomatch z) fun tk => ⟨.bl b, H, I.tok tk, rfl, q⟩
theorem call_isXT : CallR X (.builtin "isinstance") (rIsXT X.K) := by
  intro pins s σ H xs us Q I r h
  obtain ⟨a, D, tp, cs, ws, b, rfl, ha, hT, C, k, e, q⟩ := h
  obtain ⟨u1, u2, rfl, r1, r2⟩ := vals2 r
  obtain rfl : u1 = Value.ref a := r1
  obtain rfl : u2 = Value.ref tp := r2
  obtain ⟨oe, J⟩ := held_at I ha
  obtain ⟨_, its, rv, ⟨oc, od, dt, sl⟩, h1, h2, n, h3⟩ := (show ObjOk X.prog X.w H s.heap tp (.tup cs) from I.hok tp _ hT)
  obtain rfl := ClsV.all k rv
  dsimp only at h2 h3
  subst h2 h3
  exact PySem.W.kia_tup (PySem.W.handS_kitx_exc C.hg C.hk C.hs C.hd C.ha C.hn C.ht C.hm) I.kIn J h1 e (fun z => nomatch z) fun tk => ⟨.bl b, H, I.tok tk, rfl, q⟩
end
end DK

set_option Elab.async false
set_option linter.all false
set_option maxRecDepth 100000
set_option maxHeartbeats 4000000
namespace DK
open PySem PySem.Spec PyProof.Rows L2
/-! ### what is taken from every count, where more names stand than drawers -/
def ige (x y : Int) : Bool := decide (y ≤ x)
/-- falling -/
def falls (l : List Int) : List Int := l.mergeSort ige
theorem falls_perm (l : List Int) : (falls l).Perm l := List.mergeSort_perm _ _
theorem ige_tr (a b c : Int) (h1 : ige a b = true) (h2 : ige b c = true) : ige a c = true := decide_eq_true (Int.le_trans (of_decide_eq_true h2) (of_decide_eq_true h1))
theorem ige_tot (a b : Int) : (ige a b || ige b a) = true := by
  rw [Bool.or_eq_true]
  rcases Int.le_total a b with h | h
  · exact .inr (decide_eq_true h)
  · exact .inl (decide_eq_true h)
theorem falls_pw (l : List Int) : (falls l).Pairwise fun x y => ige x y = true := List.pairwise_mergeSort ige_tr ige_tot l
theorem falls_eq {ys l : List Int} (p : ys.Perm l) (h : ys.Pairwise (· ≥ ·)) : ys = falls l :=
  (p.trans (falls_perm l).symm).eq_of_pairwise (le := fun x y => x ≥ y) (fun a b _ _ h1 h2 => Int.le_antisymm h2 h1) h ((falls_pw l).imp fun h => of_decide_eq_true h)
def cutAt (room : Int) (c : CM) : Int := if room < (c.length : Int) then (falls (valsC c)).getD room.toNat 0 else 0
theorem vals_len (c : CM) : (valsC c).length = c.length := by unfold valsC; rw [List.length_map]
theorem falls_len (c : CM) : (falls (valsC c)).length = c.length := by rw [(falls_perm _).length_eq, vals_len]
theorem cut_at {room : Int} {c : CM} (h0 : 0 ≤ room) (h : room < (c.length : Int)) : (falls (valsC c))[room.toNat]? = some (cutAt room c) := by
  unfold cutAt
  rw [if_pos h, List.getD_eq_getElem?_getD]
  have hl : room.toNat < (falls (valsC c)).length := by rw [falls_len]; omega
  rw [List.getElem?_eq_getElem hl]
  rfl
theorem cut_pos {room : Int} {c : CM} (h0 : 0 ≤ room) (hp : posC c) : 0 ≤ cutAt room c := by
  by_cases h : room < (c.length : Int)
  · have hm := List.mem_of_getElem? (cut_at h0 h)
    obtain ⟨e, he, h1⟩ := List.mem_map.mp ((falls_perm _).mem_iff.mp hm)
    have := hp e he
    omega
  · unfold cutAt
    rw [if_neg h]
    exact Int.le_refl _
/-- no more stand behind than there are drawers -/
theorem cut_len {room : Int} {c : CM} (h0 : 0 ≤ room) : ((lowered c (cutAt room c)).length : Int) ≤ room := by
  by_cases h : room < (c.length : Int)
  · have hm := cut_at h0 h
    generalize cutAt room c = m at hm
    have e1 : (lowered c m).length = ((valsC c).filter fun x => decide (m < x)).length := by
      unfold lowered valsC
      rw [List.length_map, List.filter_map, List.length_map]
      rfl
    have e2 := ((falls_perm (valsC c)).filter fun x => decide (m < x)).length_eq
    have split : falls (valsC c) = (falls (valsC c)).take room.toNat ++ (falls (valsC c)).drop room.toNat := (List.take_append_drop _ _).symm
    have dropNil : ((falls (valsC c)).drop room.toNat).filter (fun x => decide (m < x)) = [] := by
      rw [List.filter_eq_nil_iff]
      intro x hx hlt
      have hlt := of_decide_eq_true hlt
      obtain ⟨k, hk⟩ := List.mem_iff_getElem?.mp hx
      rw [List.getElem?_drop] at hk
      obtain ⟨hr, er⟩ := List.getElem?_eq_some_iff.mp hm
      obtain ⟨hj, ej⟩ := List.getElem?_eq_some_iff.mp hk
      by_cases hk0 : k = 0
      · subst hk0
        simp only [Nat.add_zero] at ej
        rw [er] at ej
        omega
      · have := of_decide_eq_true (List.pairwise_iff_getElem.mp (falls_pw (valsC c)) room.toNat (room.toNat + k) hr hj (by omega))
        rw [er, ej] at this
        omega
    rw [split, List.filter_append, dropNil, List.append_nil] at e2
    have l1 := List.length_filter_le (fun x => decide (m < x)) ((falls (valsC c)).take room.toNat)
    rw [List.length_take] at l1
    omega
  · have := lowered_len c (cutAt room c)
    omega
theorem lowered_zero {c : CM} (hp : posC c) : lowered c 0 = c := by
  induction c with
  | nil => rfl
  | cons e c ih =>
    rw [lowered_cons, if_pos (hp e (List.mem_cons_self ..)), ih fun x hx => hp x (List.mem_cons_of_mem _ hx)]
    rw [Int.sub_zero]
theorem cut_few {room : Int} {c : CM} (h : ¬ room < (c.length : Int)) : cutAt room c = 0 := by
  unfold cutAt
  rw [if_neg h]
/-! ### the order of a table does not matter -/
theorem perm_of_get {a b : CM} (na : (keysC a).Nodup) (nb : (keysC b).Nodup) (h : ∀ n, getC a n = getC b n) : a.Perm b := by
  have of : ∀ l : CM, (keysC l).Nodup → l.Nodup := fun l h => List.Pairwise.imp (fun h e => h (by rw [e])) (List.pairwise_map.mp h)
  have da := of a na
  have db := of b nb
  refine (List.perm_ext_iff_of_nodup da db).mpr fun e => ?_
  obtain ⟨n, v⟩ := e
  rw [← getC_mem na, ← getC_mem nb, h]
theorem vals_perm {a b : CM} (p : a.Perm b) : (valsC a).Perm (valsC b) := p.map _
theorem cut_perm {room : Int} {a b : CM} (p : a.Perm b) : cutAt room a = cutAt room b := by
  have e : falls (valsC a) = falls (valsC b) := falls_eq ((falls_perm _).trans (vals_perm p)) ((falls_pw _).imp fun h => of_decide_eq_true h)
  unfold cutAt
  rw [p.length_eq, e]
theorem lowered_perm {a b : CM} (p : a.Perm b) (m : Int) : (lowered a m).Perm (lowered b m) := (p.filter _).map _
theorem pos_perm {a b : CM} (p : a.Perm b) (h : posC b) : posC a := fun e he => h e (p.mem_iff.mp he)
theorem nodup_perm {a b : CM} (p : a.Perm b) (h : (keysC b).Nodup) : (keysC a).Nodup := (perm_keys p).nodup_iff.mpr h
theorem put_perm {a b : CM} (nb : (keysC b).Nodup) (p : a.Perm b) (n : Str) (v : Int) : (putC a n v).Perm (putC b n v) :=
  perm_of_get (put_nodup (nodup_perm p nb)) (put_nodup nb) fun m => by rw [getC_put, getC_put, getC_perm nb p]
theorem minL_perm {a b : List Int} (p : a.Perm b) (w : Int) : minL w a = minL w b := by
  obtain ⟨h1, h2⟩ := minL_le a w
  refine minL_uniq ?_ h1 fun y hy => h2 y (p.mem_iff.mpr hy)
  rcases minL_mem a w with h | h
  · exact .inl h
  · exact .inr (p.mem_iff.mp h)
theorem has_perm {a b : CM} (p : a.Perm b) (n : Str) : hasC a n = hasC b n := by
  rw [Bool.eq_iff_iff, has_iff, has_iff]
  exact (perm_keys p).mem_iff
theorem getD0_perm {a b : CM} (nb : (keysC b).Nodup) (p : a.Perm b) (n : Str) : getD0 a n = getD0 b n := by
  unfold getD0
  rw [getC_perm nb p]
theorem come_perm {a b : CM} (nb : (keysC b).Nodup) (p : a.Perm b) (room : Int) (n : Str) (w : Int) : (come room a n w).1.Perm (come room b n w).1 ∧ (come room a n w).2 = (come room b n w).2 := by
  have e1 := has_perm p n
  have e2 := p.length_eq
  have e3 := minL_perm (vals_perm p) w
  unfold come
  rw [e1, e2, e3]
  split
  · dsimp only
    refine ⟨?_, rfl⟩
    have pl := lowered_perm p (minL w (valsC b))
    rw [getD0_perm (lowered_nodup nb) pl]
    split
    · exact put_perm (lowered_nodup nb) pl n _
    · exact pl
  · rw [getD0_perm nb p]
    exact ⟨put_perm nb p n _, rfl⟩
theorem pos_come {room w : Int} {c : CM} {n : Str} (hp : posC c) (hw : 0 < w) : posC (come room c n w).1 := by
  unfold come
  split
  · dsimp only
    split
    · refine pos_put pos_lowered ?_
      have := pos_get (pos_lowered (c := c) (m := minL w (valsC c))) n
      omega
    · exact pos_lowered
  · refine pos_put hp ?_
    have := pos_get hp n
    omega
/-! ### one table poured into another -/
def addC (a b : CM) : CM := b.foldl (fun acc e => putC acc e.1 (getD0 acc e.1 + e.2)) a
theorem add_nodup : ∀ (b : CM) {a : CM}, (keysC a).Nodup → (keysC (addC a b)).Nodup
  | [], _, h => h
  | e :: b, a, h => add_nodup b (a := putC a e.1 (getD0 a e.1 + e.2)) (put_nodup h)
theorem add_get : ∀ (b : CM) (a : CM) (n : Str), (keysC b).Nodup → getC (addC a b) n = match getC b n with | some v => some (getD0 a n + v) | none => getC a n
  | [], a, n, _ => rfl
  | e :: b, a, n, nd => by
    obtain ⟨n1, n2⟩ := List.nodup_cons.mp (show (e.1 :: keysC b).Nodup from nd)
    have ih := add_get b (putC a e.1 (getD0 a e.1 + e.2)) n n2
    show getC (addC (putC a e.1 (getD0 a e.1 + e.2)) b) n = _
    rw [ih, getC_put, getD0_put]
    by_cases h : e.1 = n
    · subst h
      rw [get_none n1, getC_cons_eq rfl]
      dsimp only
      rw [if_pos rfl]
    · rw [getC_cons_ne h, if_neg (fun z => h z.symm), if_neg (fun z => h z.symm)]
theorem add_perm {a b a' b' : CM} (na : (keysC a').Nodup) (nb : (keysC b').Nodup) (pa : a.Perm a') (pb : b.Perm b') : (addC a b).Perm (addC a' b') :=
  perm_of_get (add_nodup b (nodup_perm pa na)) (add_nodup b' na) fun n => by
    rw [add_get b a n (nodup_perm pb nb), add_get b' a' n nb, getC_perm nb pb, getC_perm na pa, getD0_perm na pa]
theorem add_pos : ∀ (b : CM) {a : CM}, posC a → posC b → posC (addC a b)
  | [], _, h, _ => h
  | e :: b, a, h, h2 => add_pos b (a := putC a e.1 (getD0 a e.1 + e.2)) (pos_put h (by have := pos_get h e.1; have := h2 e (List.mem_cons_self ..); omega)) fun x hx => h2 x (List.mem_cons_of_mem _ hx)
theorem add_len : ∀ (b a : CM), (addC a b).length ≤ a.length + b.length
  | [], a => Nat.le_refl _
  | e :: b, a => by
    have h := add_len b (putC a e.1 (getD0 a e.1 + e.2))
    have h2 := put_len a e.1 (getD0 a e.1 + e.2)
    show (addC (putC a e.1 (getD0 a e.1 + e.2)) b).length ≤ _
    rw [List.length_cons]
    split at h2 <;> omega
theorem add_keys : ∀ (b a : CM) (n : Str), n ∈ keysC (addC a b) → n ∈ keysC a ∨ n ∈ keysC b
  | [], _, _, h => .inl h
  | e :: b, a, n, h => by
    rcases add_keys b (putC a e.1 (getD0 a e.1 + e.2)) n h with h | h
    · rw [keys_put] at h
      split at h
      · exact .inl h
      · rcases List.mem_append.mp h with h | h
        · exact .inl h
        · rw [List.mem_singleton.mp h]
          exact .inr (List.mem_cons_self ..)
    · exact .inr (List.mem_cons_of_mem _ h)
/-! ### a dict that an expression has just made, walked while it is not written -/
def tFrz (te : TE) : TE := fun σ H Q => te σ H fun x H1 => ∃ (d : Addr) (u : HO), x = .ref d ∧ H1 d = some u ∧ Mut (some u) ∧ ∀ od, Q x (upd H1 d (.frz od u))
theorem pe_frz {X : Cx} {e : Expr} {te : TE} (h : PE X e te) : PE X e (tFrz te) := by
  refine ⟨fun pins s σ H Q I hw => ?_⟩
  refine thn (h.run pins s σ H _ I hw) fun v s1 ⟨x, H1, I1, r, d, u, ex, hd, mu, q⟩ => ?_
  obtain ⟨od, I2⟩ := I1.lock hd mu
  exact ⟨x, _, I2, r, q od⟩
end DK

set_option Elab.async false
set_option linter.all false
set_option maxRecDepth 100000
set_option maxHeartbeats 4000000
namespace DK
open PySem PySem.Spec PyProof.Rows L2
/-! ### bounds that a coming, a pouring and a cut keep -/
structure Bn (room : Int) (c : CM) (gone total : Int) (t : CM) : Prop where
  nd : (keysC c).Nodup
  ndt : (keysC t).Nodup
  pos : posC c
  post : posC t
  g0 : 0 ≤ gone
  tot : sumC t = total
  sm : sumC c + (room + 1) * gone ≤ total
  lo : ∀ n, getD0 c n ≤ getD0 t n
  hi : ∀ n, getD0 t n ≤ getD0 c n + gone
theorem bn_start (room : Int) : Bn room [] 0 0 [] := ⟨List.nodup_nil, List.nodup_nil, (fun _ h => nomatch h), (fun _ h => nomatch h), Int.le_refl _, rfl, by show (0 : Int) + (room + 1) * 0 ≤ 0; omega, fun _ => Int.le_refl _, fun _ => Int.le_refl _⟩
theorem sum_add : ∀ (b : CM) {a : CM}, (keysC a).Nodup → sumC (addC a b) = sumC a + sumC b
  | [], a, _ => by
    show sumC a = sumC a + sumC []
    show sumC a = sumC a + 0
    omega
  | e :: b, a, h => by
    have ih := sum_add b (a := putC a e.1 (getD0 a e.1 + e.2)) (put_nodup h)
    show sumC (addC (putC a e.1 (getD0 a e.1 + e.2)) b) = _
    rw [ih, sum_put h, sumC_cons]
    omega
theorem get_add {a b : CM} (nb : (keysC b).Nodup) (n : Str) : getD0 (addC a b) n = getD0 a n + getD0 b n := by
  have h := add_get b a n nb
  show (getC (addC a b) n).getD 0 = _
  rw [h]
  have e : getD0 b n = (getC b n).getD 0 := rfl
  rw [e]
  cases getC b n with
  | none =>
    show getD0 a n = getD0 a n + 0
    omega
  | some v => rfl
/-- two together, not yet cut -/
theorem bn_add {room g1 T1 g2 T2 : Int} {c1 t1 c2 t2 : CM} (A : Bn room c1 g1 T1 t1) (B : Bn room c2 g2 T2 t2) : Bn room (addC c1 c2) (g1 + g2) (T1 + T2) (addC t1 t2) := by
  refine ⟨add_nodup _ A.nd, add_nodup _ A.ndt, add_pos _ A.pos B.pos, add_pos _ A.post B.post, by have := A.g0; have := B.g0; omega, ?_, ?_, fun n => ?_, fun n => ?_⟩
  · rw [sum_add _ A.ndt, A.tot, B.tot]
  · rw [sum_add _ A.nd, Int.mul_add]
    have := A.sm
    have := B.sm
    omega
  · rw [get_add B.nd, get_add B.ndt]
    have := A.lo n
    have := B.lo n
    omega
  · rw [get_add B.nd, get_add B.ndt]
    have := A.hi n
    have := B.hi n
    omega
theorem bn_perm {room g T : Int} {c c' t : CM} (p : c'.Perm c) (B : Bn room c g T t) : Bn room c' g T t :=
  ⟨nodup_perm p B.nd, B.ndt, pos_perm p B.pos, B.post, B.g0, B.tot, by rw [sum_perm' p]; exact B.sm, fun n => by rw [getD0_perm B.nd p]; exact B.lo n, fun n => by rw [getD0_perm B.nd p]; exact B.hi n⟩
where
  sum_perm' {c c' : CM} (p : c'.Perm c) : sumC c' = sumC c := by
    have : ∀ {l m : List Int}, l.Perm m → l.sum = m.sum := by
      intro l m q
      induction q with
      | nil => rfl
      | cons x _ ih => rw [List.sum_cons, List.sum_cons, ih]
      | swap x y l =>
        simp only [List.sum_cons]
        omega
      | trans _ _ h1 h2 => exact h1.trans h2
    exact this (p.map _)
def minS (m : Int) (l : List Int) : Int := (l.map fun x => min x m).sum
theorem minS_cons (m x : Int) (l : List Int) : minS m (x :: l) = min x m + minS m l := by
  unfold minS
  rw [List.map_cons, List.sum_cons]
theorem minS_pos {m : Int} (hm : 0 ≤ m) : ∀ l : List Int, (∀ x ∈ l, 0 ≤ x) → 0 ≤ minS m l
  | [], _ => Int.le_refl _
  | x :: l, h => by
    rw [minS_cons]
    have := minS_pos hm l fun y hy => h y (List.mem_cons_of_mem _ hy)
    have := h x (List.mem_cons_self ..)
    omega
theorem minS_ge {m : Int} (hm : 0 ≤ m) : ∀ (l : List Int) (k : Nat), k ≤ l.length → (∀ i x, i < k → l[i]? = some x → m ≤ x) → (∀ x ∈ l, 0 ≤ x) → (k : Int) * m ≤ minS m l
  | l, 0, _, _, h => by
    have := minS_pos hm l h
    simp only [Int.natCast_zero, Int.zero_mul]
    exact this
  | [], k + 1, hk, _, _ => by simp at hk
  | x :: l, k + 1, hk, h1, h => by
    rw [minS_cons]
    have ih := minS_ge hm l k (by simp at hk; omega) (fun i y hi hy => h1 (i + 1) y (by omega) (by rw [List.getElem?_cons_succ]; exact hy)) fun y hy => h y (List.mem_cons_of_mem _ hy)
    have hx := h1 0 x (by omega) rfl
    have e : ((k + 1 : Nat) : Int) * m = (k : Int) * m + m := by
      rw [Int.natCast_add, Int.add_mul]
      omega
    rw [e]
    omega
theorem minS_perm {m : Int} {a b : List Int} (p : a.Perm b) : minS m a = minS m b := by
  unfold minS
  have q := p.map fun x => min x m
  generalize a.map (fun x => min x m) = l at q
  generalize b.map (fun x => min x m) = l' at q
  induction q with
  | nil => rfl
  | cons x _ ih => rw [List.sum_cons, List.sum_cons, ih]
  | swap x y l =>
    simp only [List.sum_cons]
    omega
  | trans _ _ h1 h2 => exact h1.trans h2
theorem lowered_minS (m : Int) : ∀ c : CM, sumC (lowered c m) + minS m (valsC c) = sumC c
  | [] => rfl
  | e :: c => by
    have ih := lowered_minS m c
    show sumC (lowered (e :: c) m) + minS m (e.2 :: valsC c) = _
    rw [minS_cons, lowered_cons, sumC_cons]
    split
    · rw [sumC_cons]
      show e.2 - m + _ + _ = _
      omega
    · omega
/-- each of one more than the drawers loses the cut -/
theorem cut_sum {room : Int} {c : CM} (h0 : 0 ≤ room) (hp : posC c) : sumC (lowered c (cutAt room c)) + (room + 1) * cutAt room c ≤ sumC c := by
  have m0 := cut_pos h0 hp
  have e := lowered_minS (cutAt room c) c
  by_cases h : room < (c.length : Int)
  · have hm := cut_at h0 h
    generalize cutAt room c = m at hm m0 e ⊢
    have hlen := falls_len c
    obtain ⟨hr, er⟩ := List.getElem?_eq_some_iff.mp hm
    have k := minS_ge m0 (falls (valsC c)) (room.toNat + 1) (by omega) (fun i x hi hx => by
      obtain ⟨hj, ej⟩ := List.getElem?_eq_some_iff.mp hx
      by_cases hir : i = room.toNat
      · subst hir
        rw [er] at ej
        omega
      · have := of_decide_eq_true (List.pairwise_iff_getElem.mp (falls_pw (valsC c)) i room.toNat hj hr (by omega))
        rw [er, ej] at this
        exact this) (fun x hx => by
      obtain ⟨y, hy, rfl⟩ := List.mem_map.mp ((falls_perm _).mem_iff.mp hx)
      have := hp y hy
      omega)
    rw [minS_perm (falls_perm (valsC c))] at k
    have er2 : ((room.toNat + 1 : Nat) : Int) = room + 1 := by omega
    rw [er2] at k
    omega
  · rw [cut_few h, lowered_zero hp]
    omega
theorem bn_cut {room g T : Int} {c t : CM} (h0 : 0 ≤ room) (B : Bn room c g T t) : Bn room (lowered c (cutAt room c)) (g + cutAt room c) T t := by
  have m0 := cut_pos h0 B.pos
  have cs := cut_sum h0 B.pos
  refine ⟨lowered_nodup B.nd, B.ndt, pos_lowered, B.post, by have := B.g0; omega, B.tot, ?_, fun n => ?_, fun n => ?_⟩
  · have := B.sm
    rw [Int.mul_add]
    omega
  · rw [get_lowered B.nd B.pos m0]
    have := B.lo n
    have := pos_get B.post n
    split <;> omega
  · rw [get_lowered B.nd B.pos m0]
    have := B.hi n
    split <;> omega
theorem bn_less {room room' g T : Int} {c t : CM} (h : room' ≤ room) (B : Bn room c g T t) : Bn room' c g T t := by
  refine ⟨B.nd, B.ndt, B.pos, B.post, B.g0, B.tot, ?_, B.lo, B.hi⟩
  have h1 : (room' + 1) * g ≤ (room + 1) * g := Int.mul_le_mul_of_nonneg_right (by omega) B.g0
  have := B.sm
  omega
theorem bn_come {room gone total w : Int} {c t : CM} {n : Str} (B : Bn room c gone total t) (hl : (c.length : Int) ≤ room) (hw : 1 ≤ w) : Bn room (come room c n w).1 (gone + (come room c n w).2) (total + w) (putC t n (getD0 t n + w)) := by
  have t0 := pos_get B.post n
  have c0 := pos_get B.pos n
  have st : sumC (putC t n (getD0 t n + w)) = total + w := by
    rw [sum_put B.ndt, B.tot]
    omega
  have sm := B.sm
  have g0 := B.g0
  have pc := pos_come (room := room) (n := n) B.pos (show 0 < w by omega)
  by_cases h : hasC c n = false ∧ (c.length : Int) = room
  · obtain ⟨l1, l2⟩ := minL_le (valsC c) w
    have m0 : 0 ≤ minL w (valsC c) := by
      rcases minL_mem (valsC c) w with e | e
      · omega
      · obtain ⟨z, hz, ez⟩ := List.mem_map.mp e
        have := B.pos z hz
        omega
    have ec : come room c n w = (if 0 < w - minL w (valsC c) then putC (lowered c (minL w (valsC c))) n (getD0 (lowered c (minL w (valsC c))) n + (w - minL w (valsC c))) else lowered c (minL w (valsC c)), minL w (valsC c)) := by
      unfold come
      rw [if_pos h]
    rw [ec] at pc ⊢
    dsimp only at pc ⊢
    have hk := no_key h.1
    have s1 := sum_lowered (m := minL w (valsC c)) c fun e he => l2 e.2 (List.mem_map_of_mem he)
    rw [h.2] at s1
    generalize minL w (valsC c) = mm at l1 l2 m0 s1 pc ⊢
    have e0 : getD0 (lowered c mm) n = 0 := by
      unfold getD0
      rw [get_none fun z => hk ((lowered_keys c mm).subset z)]
      rfl
    have ecn : getD0 c n = 0 := by
      unfold getD0
      rw [get_none hk]
      rfl
    have e1 : (room + 1) * (gone + mm) = (room + 1) * gone + room * mm + mm := by
      rw [Int.mul_add, Int.add_mul room 1 mm]
      omega
    have hin := B.hi n
    refine ⟨?_, put_nodup B.ndt, pc, pos_put B.post (by omega), by omega, st, ?_, fun m => ?_, fun m => ?_⟩
    · split
      · exact put_nodup (lowered_nodup B.nd)
      · exact lowered_nodup B.nd
    · rw [e1]
      split
      · rw [sum_put (lowered_nodup B.nd), s1, e0]
        omega
      · rw [s1]
        omega
    · have gl := get_lowered B.nd B.pos m0 m
      have lo := B.lo m
      have pm := pos_get B.pos m
      by_cases hmn : m = n
      · subst hmn
        split
        · rw [getD0_put, getD0_put, e0, if_pos rfl, if_pos rfl]
          omega
        · rw [getD0_put, e0, if_pos rfl]
          omega
      · split
        · rw [getD0_put, getD0_put, if_neg hmn, if_neg hmn, gl]
          split <;> omega
        · rw [getD0_put, if_neg hmn, gl]
          split <;> omega
    · have gl := get_lowered B.nd B.pos m0 m
      have hi := B.hi m
      have pm := pos_get B.pos m
      by_cases hmn : m = n
      · subst hmn
        split
        · rw [getD0_put, getD0_put, e0, if_pos rfl, if_pos rfl]
          omega
        · rw [getD0_put, e0, if_pos rfl]
          omega
      · split
        · rw [getD0_put, getD0_put, if_neg hmn, if_neg hmn, gl]
          split <;> omega
        · rw [getD0_put, if_neg hmn, gl]
          split <;> omega
  · have ec : come room c n w = (putC c n (getD0 c n + w), 0) := by
      unfold come
      rw [if_neg h]
    rw [ec] at pc ⊢
    dsimp only at pc ⊢
    refine ⟨put_nodup B.nd, put_nodup B.ndt, pc, pos_put B.post (by omega), by omega, st, ?_, fun m => ?_, fun m => ?_⟩
    · rw [sum_put B.nd, show gone + 0 = gone by omega]
      omega
    · rw [getD0_put, getD0_put]
      have := B.lo m
      have := B.lo n
      split <;> omega
    · rw [getD0_put, getD0_put]
      have := B.hi m
      have := B.hi n
      split <;> omega
theorem bn_sum_pos {c : CM} (h : posC c) : 0 ≤ sumC c := by
  induction c with
  | nil => exact Int.le_refl _
  | cons e c ih =>
    rw [sumC_cons]
    have := ih fun x hx => h x (List.mem_cons_of_mem _ hx)
    have := h e (List.mem_cons_self ..)
    omega
/-- a heavy name may be shown -/
theorem bn_heavy {room gone total : Int} {c t : CM} (B : Bn room c gone total t) {n : Str} (hr : 1 ≤ room) (h : total < getD0 t n * (room + 1)) : n ∈ keysC c ∧ total < (getD0 c n + gone) * (room + 1) := by
  have h2 : getD0 t n * (room + 1) ≤ (getD0 c n + gone) * (room + 1) := Int.mul_le_mul_of_nonneg_right (B.hi n) (by omega)
  refine ⟨Classical.byContradiction fun z => ?_, by omega⟩
  have e0 : getD0 c n = 0 := by
    unfold getD0
    rw [get_none z]
    rfl
  rw [e0, Int.zero_add, Int.mul_comm gone] at h2
  have := B.sm
  have := bn_sum_pos B.pos
  omega
end DK

set_option Elab.async false
set_option linter.all false
set_option maxRecDepth 100000
set_option maxHeartbeats 4000000
namespace DK
open PySem PySem.Spec PyProof.Rows L2
/-! ### the weights of names in a list of comings -/
def wsum (pl : CM) (n : Str) : Int := ((pl.filter fun e => decide (e.1 = n)).map (·.2)).sum
def tally (ks : List Str) (pl : CM) : CM := ks.map fun n => (n, wsum pl n)
theorem wsum_nil (n : Str) : wsum [] n = 0 := rfl
theorem wsum_app (a b : CM) (n : Str) : wsum (a ++ b) n = wsum a n + wsum b n := by
  unfold wsum
  rw [List.filter_append, List.map_append, List.sum_append]
theorem wsum_one (e : Str × Int) (n : Str) : wsum [e] n = if e.1 = n then e.2 else 0 := by
  unfold wsum
  by_cases h : e.1 = n
  · simp [h]
  · simp [h]
theorem wsum_snoc (pl : CM) (e : Str × Int) (n : Str) : wsum (pl ++ [e]) n = if e.1 = n then wsum pl n + e.2 else wsum pl n := by
  rw [wsum_app, wsum_one]
  split <;> omega
theorem tally_keys (ks : List Str) (pl : CM) : keysC (tally ks pl) = ks := by
  unfold keysC tally
  rw [List.map_map]
  exact List.map_id' ks
theorem tally_len (ks : List Str) (pl : CM) : (tally ks pl).length = ks.length := by
  unfold tally
  rw [List.length_map]
theorem tally_has (ks : List Str) (pl : CM) (n : Str) : hasC (tally ks pl) n = true ↔ n ∈ ks := by
  rw [has_iff, tally_keys]
theorem tally_get {ks : List Str} {pl : CM} {n : Str} (h : n ∈ ks) : getC (tally ks pl) n = some (wsum pl n) := by
  induction ks with
  | nil => cases h
  | cons k ks ih =>
    unfold tally
    rw [List.map_cons]
    by_cases e : k = n
    · rw [← e]
      exact getC_cons_eq rfl
    · rw [getC_cons_ne e]
      rcases List.mem_cons.mp h with h | h
      · exact absurd h.symm e
      · exact ih h
theorem tally_put {ks : List Str} {pl : CM} {e : Str × Int} (h : e.1 ∈ ks) : putC (tally ks pl) e.1 (wsum pl e.1 + e.2) = tally ks (pl ++ [e]) := by
  unfold putC
  rw [if_pos ((tally_has _ _ _).mpr h)]
  unfold tally
  rw [List.map_map]
  refine List.map_congr_left fun n _ => ?_
  simp only [Function.comp]
  rw [wsum_snoc]
  by_cases z : n = e.1
  · rw [if_pos z, if_pos z.symm, z]
  · rw [if_neg z, if_neg fun y => z y.symm]
theorem tally_out {ks : List Str} {pl : CM} {e : Str × Int} (h : e.1 ∉ ks) : tally ks (pl ++ [e]) = tally ks pl := by
  unfold tally
  refine List.map_congr_left fun n hn => ?_
  rw [wsum_snoc, if_neg fun y => h (by rw [y]; exact hn)]
theorem tally_new {ks : List Str} {n : Str} (h : n ∉ ks) : putC (tally ks []) n 0 = tally (ks ++ [n]) [] := by
  unfold putC
  rw [if_neg fun z => h ((tally_has _ _ _).mp z)]
  unfold tally
  rw [List.map_append]
  rfl
theorem keys_sort (c : CM) : keysC (sortC c) = sortS (keysC c) := by
  refine sortS_eq (perm_keys (sortC_perm c)) ?_
  unfold keysC
  exact List.pairwise_map.mpr (sortC_asc c)
/-! ### pairs that stand in the heap as tuples -/
def VsAt (H : Hp) (ts : List Addr) (xs : List (V × V)) : Prop := Paired (fun (t : Addr) (e : V × V) => H t = some (.tup [e.1, e.2])) ts xs
def vpr (c : CM) : List (V × V) := c.map fun e => (.str e.1, .int e.2)
theorem vs_prs {H : Hp} {ts : List Addr} {c : CM} (h : PrsAt H ts c) : VsAt H ts (vpr c) := by
  unfold PrsAt at h
  unfold VsAt vpr
  induction h with
  | nil => exact .nil
  | cons r _ ih => exact .cons r ih
theorem vs_ex {H H' : Hp} {ts : List Addr} {xs : List (V × V)} (h : VsAt H ts xs) (e : Ex H H') : VsAt H' ts xs := by
  unfold VsAt at h ⊢
  induction h with
  | nil => exact .nil
  | cons r _ ih => exact .cons (e _ _ r) ih
theorem vs_app {H : Hp} {ts us : List Addr} {xs ys : List (V × V)} (h : VsAt H ts xs) (h2 : VsAt H us ys) : VsAt H (ts ++ us) (xs ++ ys) := by
  unfold VsAt at h h2 ⊢
  induction h with
  | nil => exact h2
  | cons r _ ih => exact .cons r ih
theorem prs_snoc {H : Hp} {ts : List Addr} {c : CM} {t : Addr} {e : Str × Int} (h : PrsAt H ts c) (h2 : H t = some (.tup [.str e.1, .int e.2])) : PrsAt H (ts ++ [t]) (c ++ [e]) := by
  unfold PrsAt at h ⊢
  induction h with
  | nil => exact .cons h2 .nil
  | cons r _ ih => exact .cons r ih
theorem prs_drop {H : Hp} {ts : List Addr} {c : CM} (h : PrsAt H ts c) : ∀ k : Nat, PrsAt H (ts.drop k) (c.drop k) := by
  unfold PrsAt at h ⊢
  induction h with
  | nil =>
    intro k
    rw [List.drop_nil, List.drop_nil]
    exact .nil
  | cons r t ih =>
    intro k
    cases k with
    | zero => exact .cons r t
    | succ k => exact ih k
theorem prs_len {H : Hp} {ts : List Addr} {c : CM} (h : PrsAt H ts c) : ts.length = c.length := by
  unfold PrsAt at h
  exact h.length
/-- what is written is none of the pairs -/
theorem prs_off {H H' : Hp} {ts : List Addr} {c : CM} {l : List Addr} (h : PrsAt H ts c) (o : Off l H H') (hl : ∀ b ∈ l, ∀ xs, H b ≠ some (.tup xs)) : PrsAt H' ts c := by
  unfold PrsAt at h ⊢
  induction h with
  | nil => exact .nil
  | cons r _ ih => exact .cons (o _ _ (fun z => hl _ z _ r) r) ih
theorem cut_fromV (xs : List V) (k : Nat) (h : k ≤ xs.length) : cutV xs (some (k : Int)) none = xs.drop k := by
  unfold cutV
  rw [HT.sIx_none, HT.sIx_nat, Nat.min_eq_left h, List.take_of_length_le]
  rw [List.length_drop]
  exact Nat.le_refl _
end DK

set_option Elab.async false
set_option linter.all false
set_option maxRecDepth 100000
set_option maxHeartbeats 4000000
namespace DK
open PySem PySem.Spec PyProof.Rows L2
/-! ### names of more than their share -/
def trueT (pl : CM) : CM := pl.foldl (fun t e => putC t e.1 (getD0 t e.1 + e.2)) []
def runC (r : Int) (pl : CM) : CM × Int × Int := pl.foldl (fun s e => ((come r s.1 e.1 e.2).1, s.2.1 + (come r s.1 e.1 e.2).2, s.2.2 + e.2)) ([], 0, 0)
theorem true_snoc (pl : CM) (e : Str × Int) : trueT (pl ++ [e]) = putC (trueT pl) e.1 (getD0 (trueT pl) e.1 + e.2) := by
  unfold trueT
  rw [List.foldl_append]
  rfl
theorem run_snoc (r : Int) (pl : CM) (e : Str × Int) : runC r (pl ++ [e]) = ((come r (runC r pl).1 e.1 e.2).1, (runC r pl).2.1 + (come r (runC r pl).1 e.1 e.2).2, (runC r pl).2.2 + e.2) := by
  unfold runC
  rw [List.foldl_append]
  rfl
theorem run_from {r : Int} : ∀ (pl : CM) (s : CM × Int × Int) (t : CM), Bnd r s.1 s.2.1 s.2.2 t → (∀ e ∈ pl, isWt e.2 = true) →
    Bnd r (pl.foldl (fun s e => ((come r s.1 e.1 e.2).1, s.2.1 + (come r s.1 e.1 e.2).2, s.2.2 + e.2)) s).1 (pl.foldl (fun s e => ((come r s.1 e.1 e.2).1, s.2.1 + (come r s.1 e.1 e.2).2, s.2.2 + e.2)) s).2.1
      (pl.foldl (fun s e => ((come r s.1 e.1 e.2).1, s.2.1 + (come r s.1 e.1 e.2).2, s.2.2 + e.2)) s).2.2 (pl.foldl (fun t e => putC t e.1 (getD0 t e.1 + e.2)) t)
  | [], _, _, B, _ => B
  | e :: pl, s, t, B, h => run_from pl _ _ (bnd_come (n := e.1) B (of_decide_eq_true (h e (List.mem_cons_self ..))).1) fun x hx => h x (List.mem_cons_of_mem _ hx)
theorem run_bnd {r : Int} (h1 : 1 ≤ r) {pl : CM} (h : ∀ e ∈ pl, isWt e.2 = true) : Bnd r (runC r pl).1 (runC r pl).2.1 (runC r pl).2.2 (trueT pl) := run_from pl ([], 0, 0) [] (bnd_start r h1) h
theorem wsum_cons (e : Str × Int) (pl : CM) (n : Str) : wsum (e :: pl) n = (if e.1 = n then e.2 else 0) + wsum pl n := by
  have h := wsum_app [e] pl n
  rw [wsum_one] at h
  exact h
theorem true_from (n : Str) : ∀ (pl t : CM), getD0 (pl.foldl (fun t e => putC t e.1 (getD0 t e.1 + e.2)) t) n = getD0 t n + wsum pl n
  | [], t => by rw [wsum_nil, Int.add_zero]; rfl
  | e :: pl, t => by
    rw [List.foldl_cons, true_from n pl, getD0_put, wsum_cons]
    by_cases h : e.1 = n
    · rw [if_pos h.symm, if_pos h, h]
      omega
    · rw [if_neg fun z => h z.symm, if_neg h]
      omega
theorem true_get (pl : CM) (n : Str) : getD0 (trueT pl) n = wsum pl n := by
  unfold trueT
  rw [true_from]
  exact Int.zero_add _
theorem run_tot_from (r : Int) : ∀ (pl : CM) (s : CM × Int × Int), (pl.foldl (fun s e => ((come r s.1 e.1 e.2).1, s.2.1 + (come r s.1 e.1 e.2).2, s.2.2 + e.2)) s).2.2 = s.2.2 + sumC pl
  | [], s => (Int.add_zero _).symm
  | e :: pl, s => by
    rw [List.foldl_cons, run_tot_from r pl, sumC_cons]
    dsimp only
    omega
theorem run_tot (r : Int) (pl : CM) : (runC r pl).2.2 = sumC pl := by
  unfold runC
  rw [run_tot_from]
  exact Int.zero_add _
theorem sum_nonneg {c : CM} (h : posC c) : 0 ≤ sumC c := by
  induction c with
  | nil => exact Int.le_refl _
  | cons e c ih =>
    rw [sumC_cons]
    have := h e (List.mem_cons_self ..)
    have := ih fun x hx => h x (List.mem_cons_of_mem _ hx)
    omega
structure Heavy (r : Int) (pl : CM) (L : List Str) : Prop where
  srt : L.Pairwise fun x y => sle x y = true
  nd : L.Nodup
  mem : ∀ n, n ∈ L ↔ sumC pl < wsum pl n * (r + 1)
theorem heavy_uniq {r : Int} {pl : CM} {L L' : List Str} (h : Heavy r pl L) (h' : Heavy r pl L') : L = L' :=
  List.Perm.eq_of_pairwise (fun a b _ _ h1 h2 => sle_anti h1 h2) h.srt h'.srt ((List.perm_ext_iff_of_nodup h.nd h'.nd).mpr fun n => by rw [h.mem, h'.mem])
theorem heavy_none {r : Int} {pl : CM} {L : List Str} (h : Heavy r pl L) (hn : ∀ n, ¬ sumC pl < wsum pl n * (r + 1)) : L = [] := by
  cases L with
  | nil => rfl
  | cons n L => exact absurd ((h.mem n).mp (List.mem_cons_self ..)) (hn n)
theorem heavy_one {r : Int} {pl : CM} {L : List Str} {x : Str} (h : Heavy r pl L) (hn : ∀ n, sumC pl < wsum pl n * (r + 1) ↔ n = x) : L = [x] :=
  heavy_uniq h ⟨List.pairwise_singleton _ _, List.pairwise_singleton _ _, fun n => by rw [List.mem_singleton, hn]⟩
theorem heavy_desk {r : Int} (h1 : 1 ≤ r) {pl : CM} (h : ∀ e ∈ pl, isWt e.2 = true) : Heavy r pl ((keysC (sortC (runC r pl).1)).filter fun n => decide ((runC r pl).2.2 < wsum pl n * (r + 1))) := by
  have B := run_bnd h1 h
  refine ⟨?_, (sortC_nodup B.nd).filter _, fun n => ?_⟩
  · rw [keys_sort]
    exact (sortS_asc _).filter _
  · rw [List.mem_filter, run_tot]
    refine ⟨fun h => of_decide_eq_true h.2, fun z => ⟨?_, decide_eq_true z⟩⟩
    have := heavy_in B (n := n) h1 (by rw [run_tot, true_get]; exact z)
    exact (perm_keys (sortC_perm _)).mem_iff.mpr this.1
theorem heavy_true {r : Int} (h1 : 1 ≤ r) {pl : CM} (h : ∀ e ∈ pl, isWt e.2 = true) : Heavy r pl ((sortS (keysC (trueT pl))).filter fun n => decide (sumC (trueT pl) < getD0 (trueT pl) n * (r + 1))) := by
  have B := run_bnd h1 h
  have e : sumC (trueT pl) = sumC pl := B.tot.trans (run_tot r pl)
  refine ⟨(sortS_asc _).filter _, ((sortS_perm _).nodup_iff.mpr B.ndt).filter _, fun n => ?_⟩
  rw [List.mem_filter, e, true_get]
  refine ⟨fun h => of_decide_eq_true h.2, fun z => ⟨?_, decide_eq_true z⟩⟩
  refine (sortS_perm _).mem_iff.mpr (pos_has ?_)
  rw [true_get]
  have h0 := sum_nonneg B.post
  rw [e] at h0
  refine Classical.byContradiction fun hh => ?_
  have h2 : wsum pl n ≤ 0 := by omega
  have := Int.mul_nonpos_of_nonpos_of_nonneg h2 (show (0 : Int) ≤ r + 1 by omega)
  omega
/-- names of one weight each -/
theorem wsum_even (W : Int) (n : Str) : ∀ ns : List Str, ns.Nodup → wsum (ns.map fun x => (x, W)) n = if n ∈ ns then W else 0
  | [], _ => rfl
  | x :: ns, nd => by
    obtain ⟨n1, n2⟩ := List.nodup_cons.mp nd
    rw [List.map_cons, wsum_cons, wsum_even W n ns n2]
    by_cases h : x = n
    · subst h
      rw [if_pos rfl, if_neg n1, if_pos (List.mem_cons_self ..)]
      omega
    · rw [if_neg h, Int.zero_add]
      by_cases h2 : n ∈ ns
      · rw [if_pos h2, if_pos (List.mem_cons_of_mem _ h2)]
      · rw [if_neg h2, if_neg fun z => ?_]
        rcases List.mem_cons.mp z with z | z
        · exact h z.symm
        · exact h2 z
theorem sum_even (W : Int) : ∀ ns : List Str, sumC (ns.map fun x => (x, W)) = ns.length * W
  | [] => by rw [List.length_nil]; show (0 : Int) = _; rw [show ((0 : Nat) : Int) = 0 from rfl, Int.zero_mul]
  | x :: ns => by
    rw [List.map_cons, sumC_cons, sum_even W ns, List.length_cons, Int.natCast_succ, Int.add_mul, Int.one_mul, Int.add_comm]
theorem sum_app (a b : CM) : sumC (a ++ b) = sumC a + sumC b := by
  unfold sumC valsC
  rw [List.map_append, List.sum_append]
end DK

set_option Elab.async false
set_option linter.all false
set_option maxRecDepth 100000
set_option maxHeartbeats 4000000
namespace DK
open PySem PySem.Spec PyProof.Rows L2
theorem true_len_from : ∀ (pl t : CM), (pl.foldl (fun t e => putC t e.1 (getD0 t e.1 + e.2)) t).length ≤ t.length + pl.length
  | [], t => Nat.le_refl _
  | e :: pl, t => by
    have h := true_len_from pl (putC t e.1 (getD0 t e.1 + e.2))
    have h2 := put_len t e.1 (getD0 t e.1 + e.2)
    rw [List.foldl_cons, List.length_cons]
    split at h2 <;> omega
theorem true_len (pl : CM) : (trueT pl).length ≤ pl.length := by
  have h := true_len_from pl []
  rw [List.length_nil, Nat.zero_add] at h
  exact h
theorem true_keys_from {n : Str} : ∀ (pl t : CM), n ∈ keysC (pl.foldl (fun t e => putC t e.1 (getD0 t e.1 + e.2)) t) → n ∈ keysC t ∨ ∃ e ∈ pl, e.1 = n
  | [], t, h => .inl h
  | e :: pl, t, h => by
    rw [List.foldl_cons] at h
    rcases true_keys_from pl _ h with h | ⟨x, hx, h⟩
    · rw [keys_put] at h
      split at h
      · exact .inl h
      · rcases List.mem_append.mp h with h | h
        · exact .inl h
        · exact .inr ⟨e, List.mem_cons_self .., (List.mem_singleton.mp h).symm⟩
    · exact .inr ⟨x, List.mem_cons_of_mem _ hx, h⟩
theorem true_keys {pl : CM} {n : Str} (h : n ∈ keysC (trueT pl)) : ∃ e ∈ pl, e.1 = n := by
  rcases true_keys_from pl [] h with h | h
  · cases h
  · exact h
theorem cut_toV (xs : List V) (k : Nat) (h : k ≤ xs.length) : cutV xs none (some (k : Int)) = xs.take k := by
  unfold cutV
  rw [HT.sIx_none, HT.sIx_nat, Nat.min_eq_left h]
  rfl
theorem even_none {W r : Int} {ns : List Str} {L : List Str} (nd : ns.Nodup) (hW : 0 ≤ W) (hr : r + 1 = ns.length) (h : Heavy r (ns.map fun x => (x, W)) L) : L = [] := by
  refine heavy_none h fun n => ?_
  rw [sum_even, wsum_even W n ns nd, hr]
  have h0 : (0 : Int) ≤ ns.length * W := Int.mul_nonneg (by omega) hW
  split
  · rw [Int.mul_comm]
    omega
  · rw [Int.zero_mul]
    omega
theorem even_one {W r : Int} {ns : List Str} {L : List Str} {x : Str} (nd : ns.Nodup) (hx : x ∈ ns) (hW : 0 ≤ W) (hr : r + 1 = ns.length) (h1 : 1 ≤ r) (h : Heavy r ((ns.map fun x => (x, W)) ++ [(x, 1)]) L) : L = [x] := by
  refine heavy_one h fun n => ?_
  rw [sum_app, sum_even, wsum_app, wsum_even W n ns nd, wsum_one, ← hr]
  have h0 : (0 : Int) ≤ (r + 1) * W := Int.mul_nonneg (by omega) hW
  have e1 : sumC [((x, 1) : Str × Int)] = 1 := rfl
  rw [e1]
  by_cases e : x = n
  · subst e
    rw [if_pos hx, if_pos rfl]
    have e : (W + 1) * (r + 1) = (r + 1) * W + (r + 1) := by rw [Int.add_mul, Int.one_mul, Int.mul_comm W]
    refine ⟨fun _ => rfl, fun _ => ?_⟩
    dsimp only
    rw [e]
    omega
  · rw [if_neg (c := (x, (1 : Int)).1 = n) e, Int.add_zero]
    refine ⟨fun h => ?_, fun h => absurd h.symm e⟩
    split at h
    · rw [Int.mul_comm W] at h
      omega
    · rw [Int.zero_mul] at h
      omega
theorem just_wsum (a b : Str) (x y : Int) (n : Str) : wsum [(a, x), (b, y)] n = (if a = n then x else 0) + (if b = n then y else 0) := by
  rw [wsum_cons, wsum_one]
theorem just_sum (a b : Str) (x y : Int) : sumC [(a, x), (b, y)] = x + y := by
  rw [sumC_cons]
  show x + (y + 0) = x + y
  omega
theorem just_heavy {u r : Int} {a b : Str} {L : List Str} (hab : a ≠ b) (hu : 1 ≤ u) (h1 : 1 ≤ r) (h : Heavy r [(a, u), (b, u * r)] L) : L = if r = 1 then [] else [b] := by
  have e : u * (r + 1) = u * r + u := by rw [Int.mul_add, Int.mul_one]
  have e2 : u * r * (r + 1) = u * r * r + u * r := by rw [Int.mul_add, Int.mul_one]
  by_cases hr : r = 1
  · rw [if_pos hr]
    subst hr
    refine heavy_none h fun n => ?_
    rw [just_sum, just_wsum]
    by_cases z1 : a = n
    · rw [if_pos z1, if_neg (fun z => hab (z1.trans z.symm))]
      omega
    · rw [if_neg z1]
      by_cases z2 : b = n
      · rw [if_pos z2]
        omega
      · rw [if_neg z2]
        omega
  · rw [if_neg hr]
    have hur : u ≤ u * r := by
      have := Int.mul_le_mul_of_nonneg_left h1 (show 0 ≤ u by omega)
      rw [Int.mul_one] at this
      exact this
    have hur2 : u * r * 2 ≤ u * r * r := Int.mul_le_mul_of_nonneg_left (show 2 ≤ r by omega) (show 0 ≤ u * r by omega)
    refine heavy_one h fun n => ?_
    rw [just_sum, just_wsum]
    by_cases z1 : a = n
    · rw [if_pos z1, if_neg (fun z => hab (z1.trans z.symm)), Int.add_zero, e]
      refine ⟨fun h => by omega, fun h => absurd (z1.trans h) hab⟩
    · rw [if_neg z1, Int.zero_add]
      by_cases z2 : b = n
      · rw [if_pos z2, e2]
        refine ⟨fun _ => z2.symm, fun _ => by omega⟩
      · rw [if_neg z2, Int.zero_mul]
        refine ⟨fun h => by omega, fun h => absurd h.symm z2⟩
end DK

set_option Elab.async false
set_option linter.all false
set_option maxRecDepth 100000
set_option maxHeartbeats 4000000
namespace DK
open PySem PySem.Spec PyProof.Rows L2
/-! ### what came lately: pieces of comings -/
abbrev S3 := CM × Int × Int
def pourD (r : Int) (s u : S3) : S3 := (lowered (addC (sortC s.1) (sortC u.1)) (cutAt r (addC (sortC s.1) (sortC u.1))), s.2.1 + u.2.1 + cutAt r (addC (sortC s.1) (sortC u.1)), s.2.2 + u.2.2)
def pourL (r : Int) (s u : S3) : S3 := (lowered (addC s.1 u.1) (cutAt r (addC s.1 u.1)), s.2.1 + u.2.1 + cutAt r (addC s.1 u.1), s.2.2 + u.2.2)
def tellD (r : Int) (xs : List CM) : S3 := xs.foldl (fun s x => pourD r s (runC r x)) ([], 0, 0)
def tellL (r : Int) (xs : List CM) : S3 := xs.foldl (fun s x => pourL r s (runC r x)) ([], 0, 0)
theorem tellD_snoc (r : Int) (xs : List CM) (x : CM) : tellD r (xs ++ [x]) = pourD r (tellD r xs) (runC r x) := by
  unfold tellD
  rw [List.foldl_append]
  rfl
theorem tellL_snoc (r : Int) (xs : List CM) (x : CM) : tellL r (xs ++ [x]) = pourL r (tellL r xs) (runC r x) := by
  unfold tellL
  rw [List.foldl_append]
  rfl
/-- what a told state keeps -/
structure Wel (r : Int) (s : S3) : Prop where
  nd : (keysC s.1).Nodup
  pc : posC s.1
  ln : (s.1.length : Int) ≤ r
def okX (nm : List Str) (x : CM) : Prop := ∀ e ∈ x, e.1 ∈ nm ∧ isWt e.2 = true
theorem run_wel {r : Int} (h1 : 1 ≤ r) {pl : CM} (h : ∀ e ∈ pl, isWt e.2 = true) : Wel r (runC r pl) := ⟨(run_bnd h1 h).nd, (run_bnd h1 h).pos, (run_bnd h1 h).ln⟩
theorem run_keys_from {r : Int} {n : Str} : ∀ (pl : CM) (s : S3), n ∈ keysC (pl.foldl (fun s e => ((come r s.1 e.1 e.2).1, s.2.1 + (come r s.1 e.1 e.2).2, s.2.2 + e.2)) s).1 → n ∈ keysC s.1 ∨ ∃ e ∈ pl, e.1 = n
  | [], s, h => .inl h
  | e :: pl, s, h => by
    rw [List.foldl_cons] at h
    rcases run_keys_from pl _ h with h | ⟨x, hx, h⟩
    · have put : ∀ (c' : CM) (v : Int), n ∈ keysC (putC c' e.1 v) → n ∈ keysC c' ∨ n = e.1 := by
        intro c' v h
        rw [keys_put] at h
        split at h
        · exact .inl h
        · rcases List.mem_append.mp h with h | h
          · exact .inl h
          · exact .inr (List.mem_singleton.mp h)
      have h2 : n ∈ keysC s.1 ∨ n = e.1 := by
        dsimp only at h
        unfold come at h
        split at h
        · dsimp only at h
          split at h
          · rcases put _ _ h with h | h
            · exact .inl ((lowered_keys _ _).subset h)
            · exact .inr h
          · exact .inl ((lowered_keys _ _).subset h)
        · exact put _ _ h
      rcases h2 with h2 | h2
      · exact .inl h2
      · exact .inr ⟨e, List.mem_cons_self .., h2.symm⟩
    · exact .inr ⟨x, List.mem_cons_of_mem _ hx, h⟩
theorem run_keys {r : Int} {pl : CM} {n : Str} (h : n ∈ keysC (runC r pl).1) : ∃ e ∈ pl, e.1 = n := by
  rcases run_keys_from pl _ h with h | h
  · cases h
  · exact h
theorem pourL_wel {r : Int} (h1 : 1 ≤ r) {s u : S3} (A : Wel r s) (B : Wel r u) : Wel r (pourL r s u) := ⟨lowered_nodup (add_nodup _ A.nd), pos_lowered, cut_len (by omega)⟩
theorem tellL_wel {r : Int} (h1 : 1 ≤ r) {xs : List CM} (h : ∀ x ∈ xs, ∀ e ∈ x, isWt e.2 = true) : Wel r (tellL r xs) := by
  have go : ∀ (xs : List CM) (s : S3), Wel r s → (∀ x ∈ xs, ∀ e ∈ x, isWt e.2 = true) → Wel r (xs.foldl (fun s x => pourL r s (runC r x)) s) := by
    intro xs
    induction xs with
    | nil => exact fun s A _ => A
    | cons x xs ih => exact fun s A h => ih _ (pourL_wel h1 A (run_wel h1 (h x (List.mem_cons_self ..)))) fun y hy => h y (List.mem_cons_of_mem _ hy)
  exact go xs _ ⟨List.nodup_nil, (fun _ h => nomatch h), by show ((0 : Nat) : Int) ≤ r; omega⟩ h
theorem tellL_keys {r : Int} {xs : List CM} {n : Str} (h : n ∈ keysC (tellL r xs).1) : ∃ x ∈ xs, ∃ e ∈ x, e.1 = n := by
  have go : ∀ (xs : List CM) (s : S3), n ∈ keysC (xs.foldl (fun s x => pourL r s (runC r x)) s).1 → n ∈ keysC s.1 ∨ ∃ x ∈ xs, ∃ e ∈ x, e.1 = n := by
    intro xs
    induction xs with
    | nil => exact fun s h => .inl h
    | cons x xs ih =>
      intro s h
      rcases ih _ h with h | ⟨y, hy, h⟩
      · have h := (lowered_keys _ _).subset h
        rcases add_keys _ _ _ h with h | h
        · exact .inl h
        · exact .inr ⟨x, List.mem_cons_self .., run_keys h⟩
      · exact .inr ⟨y, List.mem_cons_of_mem _ hy, h⟩
  rcases go xs _ h with h | h
  · cases h
  · exact h
theorem tell_sim {r : Int} (h1 : 1 ≤ r) {xs : List CM} (h : ∀ x ∈ xs, ∀ e ∈ x, isWt e.2 = true) : (tellD r xs).1.Perm (tellL r xs).1 ∧ (tellD r xs).2 = (tellL r xs).2 := by
  have go : ∀ (xs : List CM) (s u : S3), s.1.Perm u.1 → s.2 = u.2 → Wel r u → (∀ x ∈ xs, ∀ e ∈ x, isWt e.2 = true) →
      (xs.foldl (fun s x => pourD r s (runC r x)) s).1.Perm (xs.foldl (fun s x => pourL r s (runC r x)) u).1 ∧ (xs.foldl (fun s x => pourD r s (runC r x)) s).2 = (xs.foldl (fun s x => pourL r s (runC r x)) u).2 := by
    intro xs
    induction xs with
    | nil => exact fun s u p e _ _ => ⟨p, e⟩
    | cons x xs ih =>
      intro s u p e A h
      have B := run_wel h1 (h x (List.mem_cons_self ..))
      have pa := add_perm A.nd B.nd ((sortC_perm s.1).trans p) (sortC_perm (runC r x).1)
      have ec := cut_perm (room := r) pa
      refine ih _ _ ?_ ?_ (pourL_wel h1 A B) fun y hy => h y (List.mem_cons_of_mem _ hy)
      · show (lowered _ _).Perm (lowered _ _)
        rw [ec]
        exact lowered_perm pa _
      · show (s.2.1 + _ + cutAt _ _, s.2.2 + _) = (u.2.1 + _ + cutAt _ _, u.2.2 + _)
        rw [ec, e]
  exact go xs _ _ (List.Perm.refl _) rfl ⟨List.nodup_nil, (fun _ h => nomatch h), by show ((0 : Nat) : Int) ≤ r; omega⟩ h
/-- the last of a list -/
def lastn {α : Type} (k : Nat) (xs : List α) : List α := xs.drop (xs.length - k)
theorem lastn_len {α : Type} (k : Nat) (xs : List α) : (lastn k xs).length ≤ k := by
  unfold lastn
  rw [List.length_drop]
  omega
theorem lastn_mem {α : Type} {k : Nat} {xs : List α} {x : α} (h : x ∈ lastn k xs) : x ∈ xs := List.mem_of_mem_drop h
theorem lastn_map {α β : Type} (f : α → β) (k : Nat) (xs : List α) : lastn k (xs.map f) = (lastn k xs).map f := by
  unfold lastn
  rw [List.length_map, List.map_drop]
theorem cut_last (xs : List V) (k : Nat) (h : 1 ≤ k) : cutV xs (some (-(k : Int))) none = lastn k xs := by
  unfold cutV lastn
  have e : HT.sIx xs.length 0 (some (-(k : Int))) = xs.length - k := by
    have h2 := HT.clip_eq (-(k : Int)) xs.length 0
    rw [if_pos (by omega)] at h2
    omega
  rw [HT.sIx_none, e, List.take_of_length_le]
  rw [List.length_drop]
  omega
/-- one coming more -/
def stepP (pc pn : Nat) (s : List CM × CM) (e : Str × Int) : List CM × CM := if s.2.length + 1 = pc then (lastn pn (s.1 ++ [s.2 ++ [e]]), []) else (s.1, s.2 ++ [e])
/-! ### footprints -/
def Disj (F G : List Addr) : Prop := ∀ a ∈ F, a ∉ G
theorem Disj.symm {F G : List Addr} (h : Disj F G) : Disj G F := fun a ha hb => h a hb ha
theorem disj_new {H : Hp} {F F' G : List Addr} (h : Disj F G) (hf : ∀ a ∈ F', a ∈ F ∨ H a = none) (hg : ∀ b ∈ G, H b ≠ none) : Disj F' G := fun a ha hb => by
  rcases hf a ha with z | z
  · exact h a z hb
  · exact hg a hb z
theorem disj_fresh {H : Hp} {F G : List Addr} (hf : ∀ a ∈ F, H a = none) (hg : ∀ b ∈ G, H b ≠ none) : Disj F G := fun a ha hb => hg a hb (hf a ha)
/-! ### the fields of a row of desks -/
def lfl (room piece pieces : Int) (fl lp : Addr) (came : Int) : List (Str × V) := [(("room" : Str), .int room), (("piece" : Str), .int piece), (("pieces" : Str), .int pieces), (("full" : Str), .ref fl), (("latest" : Str), .ref lp), (("came" : Str), .int came)]
section
variable {room piece pieces came : Int} {fl lp : Addr}
theorem lk : ((("piece" : Str) == "room") = false) ∧ ((("pieces" : Str) == "room") = false) ∧ ((("full" : Str) == "room") = false) ∧ ((("latest" : Str) == "room") = false) ∧ ((("came" : Str) == "room") = false) ∧
    ((("pieces" : Str) == "piece") = false) ∧ ((("full" : Str) == "piece") = false) ∧ ((("latest" : Str) == "piece") = false) ∧ ((("came" : Str) == "piece") = false) ∧
    ((("full" : Str) == "pieces") = false) ∧ ((("latest" : Str) == "pieces") = false) ∧ ((("came" : Str) == "pieces") = false) ∧ ((("latest" : Str) == "full") = false) ∧ ((("came" : Str) == "full") = false) ∧ ((("came" : Str) == "latest") = false) := by decide +kernel
theorem ls6 : ((("room" : Str) == "room") = true) ∧ ((("piece" : Str) == "piece") = true) ∧ ((("pieces" : Str) == "pieces") = true) ∧ ((("full" : Str) == "full") = true) ∧ ((("latest" : Str) == "latest") = true) ∧ ((("came" : Str) == "came") = true) := by decide +kernel
theorem lfl_room : (lfl room piece pieces fl lp came).lookup ("room" : Str) = some (.int room) := by
  simp only [lfl, List.lookup, ls6.1]
theorem lfl_piece : (lfl room piece pieces fl lp came).lookup ("piece" : Str) = some (.int piece) := by
  simp only [lfl, List.lookup, lk.1, ls6.2.1]
theorem lfl_pieces : (lfl room piece pieces fl lp came).lookup ("pieces" : Str) = some (.int pieces) := by
  simp only [lfl, List.lookup, lk.2.1, lk.2.2.2.2.2.1, ls6.2.2.1]
theorem lfl_full : (lfl room piece pieces fl lp came).lookup ("full" : Str) = some (.ref fl) := by
  simp only [lfl, List.lookup, lk.2.2.1, lk.2.2.2.2.2.2.1, lk.2.2.2.2.2.2.2.2.2.1, ls6.2.2.2.1]
theorem lfl_latest : (lfl room piece pieces fl lp came).lookup ("latest" : Str) = some (.ref lp) := by
  simp only [lfl, List.lookup, lk.2.2.2.1, lk.2.2.2.2.2.2.2.1, lk.2.2.2.2.2.2.2.2.2.2.1, lk.2.2.2.2.2.2.2.2.2.2.2.2.1, ls6.2.2.2.2.1]
theorem lfl_came : (lfl room piece pieces fl lp came).lookup ("came" : Str) = some (.int came) := by
  simp only [lfl, List.lookup, lk.2.2.2.2.1, lk.2.2.2.2.2.2.2.2.1, lk.2.2.2.2.2.2.2.2.2.2.2.1, lk.2.2.2.2.2.2.2.2.2.2.2.2.2.1, lk.2.2.2.2.2.2.2.2.2.2.2.2.2.2, ls6.2.2.2.2.2]
theorem lfl_no {m : Str} (h : (m == "room") = false ∧ (m == "piece") = false ∧ (m == "pieces") = false ∧ (m == "full") = false ∧ (m == "latest") = false ∧ (m == "came") = false) : (lfl room piece pieces fl lp came).lookup m = none := by
  simp only [lfl, List.lookup, h.1, h.2.1, h.2.2.1, h.2.2.2.1, h.2.2.2.2.1, h.2.2.2.2.2]
theorem lne : ¬ ("room" : Str) = "piece" ∧ ¬ ("room" : Str) = "pieces" ∧ ¬ ("room" : Str) = "full" ∧ ¬ ("room" : Str) = "latest" ∧ ¬ ("room" : Str) = "came" ∧ ¬ ("piece" : Str) = "pieces" ∧ ¬ ("piece" : Str) = "full" ∧ ¬ ("piece" : Str) = "latest" ∧ ¬ ("piece" : Str) = "came" ∧
    ¬ ("pieces" : Str) = "full" ∧ ¬ ("pieces" : Str) = "latest" ∧ ¬ ("pieces" : Str) = "came" ∧ ¬ ("full" : Str) = "latest" ∧ ¬ ("full" : Str) = "came" ∧ ¬ ("latest" : Str) = "came" := by decide +kernel
theorem lfl_make : putF "came" (.int came) (putF "latest" (.ref lp) (putF "full" (.ref fl) (putF "pieces" (.int pieces) (putF "piece" (.int piece) (putF "room" (.int room) []))))) = lfl room piece pieces fl lp came := by
  simp only [putF, lfl, if_neg lne.1, if_neg lne.2.1, if_neg lne.2.2.1, if_neg lne.2.2.2.1, if_neg lne.2.2.2.2.1, if_neg lne.2.2.2.2.2.1, if_neg lne.2.2.2.2.2.2.1, if_neg lne.2.2.2.2.2.2.2.1, if_neg lne.2.2.2.2.2.2.2.2.1, if_neg lne.2.2.2.2.2.2.2.2.2.1, if_neg lne.2.2.2.2.2.2.2.2.2.2.1, if_neg lne.2.2.2.2.2.2.2.2.2.2.2.1, if_neg lne.2.2.2.2.2.2.2.2.2.2.2.2.1, if_neg lne.2.2.2.2.2.2.2.2.2.2.2.2.2.1, if_neg lne.2.2.2.2.2.2.2.2.2.2.2.2.2.2]
theorem lfl_put_came (z : Int) : putF "came" (.int z) (lfl room piece pieces fl lp came) = lfl room piece pieces fl lp z := by
  simp only [putF, lfl, if_neg lne.2.2.2.2.1, if_neg lne.2.2.2.2.2.2.2.2.1, if_neg lne.2.2.2.2.2.2.2.2.2.2.2.1, if_neg lne.2.2.2.2.2.2.2.2.2.2.2.2.2.1, if_neg lne.2.2.2.2.2.2.2.2.2.2.2.2.2.2, if_true]
theorem lfl_put_latest (z : Addr) : putF "latest" (.ref z) (lfl room piece pieces fl lp came) = lfl room piece pieces fl z came := by
  simp only [putF, lfl, if_neg lne.2.2.2.1, if_neg lne.2.2.2.2.2.2.2.1, if_neg lne.2.2.2.2.2.2.2.2.2.2.1, if_neg lne.2.2.2.2.2.2.2.2.2.2.2.2.1, if_true]
theorem lfl_put_full (z : Addr) : putF "full" (.ref z) (lfl room piece pieces fl lp came) = lfl room piece pieces z lp came := by
  simp only [putF, lfl, if_neg lne.2.2.1, if_neg lne.2.2.2.2.2.2.1, if_neg lne.2.2.2.2.2.2.2.2.2.1, if_true]
theorem put_len_le (f : Str) (v : V) : ∀ fs : List (Str × V), (putF f v fs).length ≤ fs.length + 1
  | [] => Nat.le_refl _
  | e :: fs => by
    unfold putF
    split
    · exact Nat.le_succ _
    · rw [List.length_cons, List.length_cons]
      have := put_len_le f v fs
      omega
end
end DK

set_option Elab.async false
set_option linter.all false
set_option maxRecDepth 100000
set_option maxHeartbeats 4000000
namespace DK
open PySem PySem.Spec PyProof.Rows L2
/-! ### what is told of pieces keeps within its bounds -/
def tblP (xs : List CM) : CM := xs.foldl (fun t x => addC t (trueT x)) []
theorem bn_run {r : Int} (h1 : 1 ≤ r) {pl : CM} (h : ∀ e ∈ pl, isWt e.2 = true) : Bn r (runC r pl).1 (runC r pl).2.1 (runC r pl).2.2 (trueT pl) :=
  let B := run_bnd h1 h
  ⟨B.nd, B.ndt, B.pos, B.post, B.g0, B.tot, by have := B.sm; omega, B.lo, B.hi⟩
theorem bn_tell {r : Int} (h1 : 1 ≤ r) {xs : List CM} (h : ∀ x ∈ xs, ∀ e ∈ x, isWt e.2 = true) : Bn r (tellD r xs).1 (tellD r xs).2.1 (tellD r xs).2.2 (tblP xs) := by
  have go : ∀ (xs : List CM) (s : S3) (t : CM), Bn r s.1 s.2.1 s.2.2 t → (∀ x ∈ xs, ∀ e ∈ x, isWt e.2 = true) →
      Bn r (xs.foldl (fun s x => pourD r s (runC r x)) s).1 (xs.foldl (fun s x => pourD r s (runC r x)) s).2.1 (xs.foldl (fun s x => pourD r s (runC r x)) s).2.2 (xs.foldl (fun t x => addC t (trueT x)) t) := by
    intro xs
    induction xs with
    | nil => exact fun s t B _ => B
    | cons x xs ih =>
      intro s t B h
      have B2 := bn_run h1 (h x (List.mem_cons_self ..))
      exact ih _ _ (bn_cut (by omega) (bn_add (bn_perm (sortC_perm _) B) (bn_perm (sortC_perm _) B2))) fun y hy => h y (List.mem_cons_of_mem _ hy)
  exact go xs _ _ (bn_start r) h
theorem wsum_flat (n : Str) : ∀ xs : List CM, wsum xs.flatten n = (xs.map fun x => wsum x n).sum
  | [] => rfl
  | x :: xs => by rw [List.flatten_cons, wsum_app, wsum_flat n xs, List.map_cons, List.sum_cons]
theorem tbl_get {r : Int} (h1 : 1 ≤ r) {xs : List CM} (h : ∀ x ∈ xs, ∀ e ∈ x, isWt e.2 = true) (n : Str) : getD0 (tblP xs) n = wsum xs.flatten n := by
  have go : ∀ (xs : List CM) (t : CM), (∀ x ∈ xs, ∀ e ∈ x, isWt e.2 = true) → getD0 (xs.foldl (fun t x => addC t (trueT x)) t) n = getD0 t n + (xs.map fun x => wsum x n).sum := by
    intro xs
    induction xs with
    | nil => exact fun t _ => (Int.add_zero _).symm
    | cons x xs ih =>
      intro t h
      have B2 := run_bnd h1 (h x (List.mem_cons_self ..))
      rw [List.foldl_cons, ih _ fun y hy => h y (List.mem_cons_of_mem _ hy), get_add B2.ndt, true_get, List.map_cons, List.sum_cons]
      omega
  rw [wsum_flat]
  unfold tblP
  rw [go xs [] h]
  exact Int.zero_add _
theorem sum_flat : ∀ xs : List CM, sumC xs.flatten = (xs.map sumC).sum
  | [] => rfl
  | x :: xs => by rw [List.flatten_cons, sum_app, sum_flat xs, List.map_cons, List.sum_cons]
theorem tell_tot (r : Int) (xs : List CM) : (tellD r xs).2.2 = sumC xs.flatten := by
  have go : ∀ (xs : List CM) (s : S3), (xs.foldl (fun s x => pourD r s (runC r x)) s).2.2 = s.2.2 + (xs.map sumC).sum := by
    intro xs
    induction xs with
    | nil => exact fun s => (Int.add_zero _).symm
    | cons x xs ih =>
      intro s
      rw [List.foldl_cons, ih]
      show s.2.2 + (runC r x).2.2 + _ = _
      rw [run_tot, List.map_cons, List.sum_cons]
      omega
  rw [sum_flat]
  unfold tellD
  rw [go]
  exact Int.zero_add _
/-- which of the comings are covered -/
def Cov (pn : Nat) (pl : CM) (fs : List CM) (la : CM) : Prop := ∃ pre : CM, pl = pre ++ (fs ++ [la]).flatten ∧ (pre ≠ [] → fs.length = pn)
theorem cov_step {pc pn : Nat} {pl : CM} {fs : List CM} {la : CM} {e : Str × Int} (hc : fs.length ≤ pn) (h : Cov pn pl fs la) : Cov pn (pl ++ [e]) (stepP pc pn (fs, la) e).1 (stepP pc pn (fs, la) e).2 := by
  obtain ⟨pre, rfl, hp⟩ := h
  have base : pre ++ (fs ++ [la]).flatten ++ [e] = pre ++ (fs ++ [la ++ [e]]).flatten := by
    rw [List.flatten_append, List.flatten_append]
    simp
  unfold stepP
  split
  · by_cases hf : fs.length + 1 ≤ pn
    · refine ⟨pre, ?_, fun hne => ?_⟩
      · rw [base]
        have e1 : lastn pn (fs ++ [la ++ [e]]) = fs ++ [la ++ [e]] := by
          unfold lastn
          rw [List.length_append, show fs.length + [la ++ [e]].length - pn = 0 by show fs.length + 1 - pn = 0; omega, List.drop_zero]
        rw [e1]
        simp
      · have := hp hne
        omega
    · have hl : fs.length = pn := by omega
      have e1 : lastn pn (fs ++ [la ++ [e]]) = (fs ++ [la ++ [e]]).drop 1 := by
        unfold lastn
        rw [List.length_append, show fs.length + [la ++ [e]].length - pn = 1 by show fs.length + 1 - pn = 1; omega]
      refine ⟨pre ++ ((fs ++ [la ++ [e]]).take 1).flatten, ?_, fun _ => ?_⟩
      · have e2 : (fs ++ [la ++ [e]]).flatten = ((fs ++ [la ++ [e]]).take 1).flatten ++ ((fs ++ [la ++ [e]]).drop 1).flatten := by rw [← List.flatten_append, List.take_append_drop]
        have e3 : ((fs ++ [la ++ [e]]).drop 1 ++ [([] : CM)]).flatten = ((fs ++ [la ++ [e]]).drop 1).flatten := by
          rw [List.flatten_append]
          exact List.append_nil _
        dsimp only
        rw [base, e1, e3, List.append_assoc, ← e2]
      · rw [e1, List.length_drop, List.length_append]
        show fs.length + 1 - 1 = pn
        omega
  · exact ⟨pre, base, hp⟩
theorem flat_len {pc : Nat} : ∀ {fs : List CM}, (∀ x ∈ fs, x.length = pc) → fs.flatten.length = fs.length * pc
  | [], _ => by rw [List.length_nil, Nat.zero_mul]; rfl
  | x :: fs, h => by
    rw [List.flatten_cons, List.length_append, h x (List.mem_cons_self ..), flat_len fun y hy => h y (List.mem_cons_of_mem _ hy), List.length_cons, Nat.succ_mul]
    omega
end DK

set_option maxHeartbeats 8000000
namespace DK
open PySem PySem.Spec PyProof.Rows L2
def top (i : Nat) : Stmt := PySem.Challenge.pw_drawerdesk_k11_whole_lately_bounds.main.body.getD i (.Pass ⟨0, 0, 0, 0⟩)
abbrev sNoTextInit : Stmt := inClass (top 8) 0
abbrev pNoTextInit : List Str := ["self", "row"]
abbrev nNoTextInit : List Str := ["self", "row"]
theorem cNoTextInit : FnScope nNoTextInit pNoTextInit (defScope sNoTextInit) := ⟨rfl, rfl, rfl, by decide +kernel, rfl, by decide +kernel, by decide +kernel⟩
abbrev sIsWhole : Stmt := top 14
abbrev pIsWhole : List Str := ["thing"]
abbrev nIsWhole : List Str := ["thing"]
theorem cIsWhole : FnScope nIsWhole pIsWhole (defScope sIsWhole) := ⟨rfl, rfl, rfl, by decide +kernel, rfl, by decide +kernel, by decide +kernel⟩
abbrev sIsName : Stmt := top 15
abbrev pIsName : List Str := ["thing"]
abbrev nIsName : List Str := ["thing"]
theorem cIsName : FnScope nIsName pIsName (defScope sIsName) := ⟨rfl, rfl, rfl, by decide +kernel, rfl, by decide +kernel, by decide +kernel⟩
abbrev sNeedComing : Stmt := top 16
abbrev pNeedComing : List Str := ["name", "weight"]
abbrev nNeedComing : List Str := ["name", "weight"]
theorem cNeedComing : FnScope nNeedComing pNeedComing (defScope sNeedComing) := ⟨rfl, rfl, rfl, by decide +kernel, rfl, by decide +kernel, by decide +kernel⟩
abbrev sNeedDrawers : Stmt := top 17
abbrev pNeedDrawers : List Str := ["drawers"]
abbrev nNeedDrawers : List Str := ["drawers"]
theorem cNeedDrawers : FnScope nNeedDrawers pNeedDrawers (defScope sNeedDrawers) := ⟨rfl, rfl, rfl, by decide +kernel, rfl, by decide +kernel, by decide +kernel⟩
abbrev sLowered : Stmt := top 18
abbrev pLowered : List Str := ["counts", "less"]
abbrev nLowered : List Str := ["counts", "less", "found", "name", "count"]
theorem cLowered : FnScope nLowered pLowered (defScope sLowered) := ⟨rfl, rfl, rfl, by decide +kernel, rfl, by decide +kernel, by decide +kernel⟩
abbrev sDInit : Stmt := inClass (top 19) 0
abbrev pDInit : List Str := ["self", "drawers"]
abbrev nDInit : List Str := ["self", "drawers"]
theorem cDInit : FnScope nDInit pDInit (defScope sDInit) := ⟨rfl, rfl, rfl, by decide +kernel, rfl, by decide +kernel, by decide +kernel⟩
abbrev sDCome : Stmt := inClass (top 19) 1
abbrev pDCome : List Str := ["self", "name", "weight"]
abbrev nDCome : List Str := ["self", "name", "weight", "less"]
theorem cDCome : FnScope nDCome pDCome (defScope sDCome) := ⟨rfl, rfl, rfl, by decide +kernel, rfl, by decide +kernel, by decide +kernel⟩
abbrev sDShown : Stmt := inClass (top 19) 2
abbrev pDShown : List Str := ["self"]
abbrev nDShown : List Str := ["self"]
theorem cDShown : FnScope nDShown pDShown (defScope sDShown) := ⟨rfl, rfl, rfl, by decide +kernel, rfl, by decide +kernel, by decide +kernel⟩
abbrev sDLost : Stmt := inClass (top 19) 3
abbrev pDLost : List Str := ["self"]
abbrev nDLost : List Str := ["self"]
theorem cDLost : FnScope nDLost pDLost (defScope sDLost) := ⟨rfl, rfl, rfl, by decide +kernel, rfl, by decide +kernel, by decide +kernel⟩
abbrev sDWeight : Stmt := inClass (top 19) 4
abbrev pDWeight : List Str := ["self"]
abbrev nDWeight : List Str := ["self"]
theorem cDWeight : FnScope nDWeight pDWeight (defScope sDWeight) := ⟨rfl, rfl, rfl, by decide +kernel, rfl, by decide +kernel, by decide +kernel⟩
abbrev sDDrawers : Stmt := inClass (top 19) 5
abbrev pDDrawers : List Str := ["self"]
abbrev nDDrawers : List Str := ["self"]
theorem cDDrawers : FnScope nDDrawers pDDrawers (defScope sDDrawers) := ⟨rfl, rfl, rfl, by decide +kernel, rfl, by decide +kernel, by decide +kernel⟩
abbrev sDLeast : Stmt := inClass (top 19) 6
abbrev pDLeast : List Str := ["self", "name"]
abbrev nDLeast : List Str := ["self", "name"]
theorem cDLeast : FnScope nDLeast pDLeast (defScope sDLeast) := ⟨rfl, rfl, rfl, by decide +kernel, rfl, by decide +kernel, by decide +kernel⟩
abbrev sDMost : Stmt := inClass (top 19) 7
abbrev pDMost : List Str := ["self", "name"]
abbrev nDMost : List Str := ["self", "name"]
theorem cDMost : FnScope nDMost pDMost (defScope sDMost) := ⟨rfl, rfl, rfl, by decide +kernel, rfl, by decide +kernel, by decide +kernel⟩
abbrev sDeskOf : Stmt := top 20
abbrev pDeskOf : List Str := ["drawers", "counts", "gone", "total"]
abbrev nDeskOf : List Str := ["drawers", "counts", "gone", "total", "found", "falling", "less"]
theorem cDeskOf : FnScope nDeskOf pDeskOf (defScope sDeskOf) := ⟨rfl, rfl, rfl, by decide +kernel, rfl, by decide +kernel, by decide +kernel⟩
abbrev sPoured : Stmt := top 22
abbrev pPoured : List Str := ["one", "other"]
abbrev nPoured : List Str := ["one", "other", "counts", "name", "count"]
theorem cPoured : FnScope nPoured pPoured (defScope sPoured) := ⟨rfl, rfl, rfl, by decide +kernel, rfl, by decide +kernel, by decide +kernel⟩
abbrev sLatelyInit : Stmt := inClass (top 26) 0
abbrev pLatelyInit : List Str := ["self", "drawers", "piece", "pieces"]
abbrev nLatelyInit : List Str := ["self", "drawers", "piece", "pieces", "number", "most"]
theorem cLatelyInit : FnScope nLatelyInit pLatelyInit (defScope sLatelyInit) := ⟨rfl, rfl, rfl, by decide +kernel, rfl, by decide +kernel, by decide +kernel⟩
abbrev sLatelyCome : Stmt := inClass (top 26) 1
abbrev pLatelyCome : List Str := ["self", "name", "weight"]
abbrev nLatelyCome : List Str := ["self", "name", "weight"]
theorem cLatelyCome : FnScope nLatelyCome pLatelyCome (defScope sLatelyCome) := ⟨rfl, rfl, rfl, by decide +kernel, rfl, by decide +kernel, by decide +kernel⟩
abbrev sLatelyTold : Stmt := inClass (top 26) 2
abbrev pLatelyTold : List Str := ["self"]
abbrev nLatelyTold : List Str := ["self", "found", "desk"]
theorem cLatelyTold : FnScope nLatelyTold pLatelyTold (defScope sLatelyTold) := ⟨rfl, rfl, rfl, by decide +kernel, rfl, by decide +kernel, by decide +kernel⟩
abbrev sLatelyReach : Stmt := inClass (top 26) 3
abbrev pLatelyReach : List Str := ["self"]
abbrev nLatelyReach : List Str := ["self"]
theorem cLatelyReach : FnScope nLatelyReach pLatelyReach (defScope sLatelyReach) := ⟨rfl, rfl, rfl, by decide +kernel, rfl, by decide +kernel, by decide +kernel⟩
abbrev sLMixed : Stmt := top 28
abbrev pLMixed : List Str := ["_law_cell", "_law_k"]
abbrev nLMixed : List Str := ["_law_cell", "_law_k", "_law_mark"]
theorem cLMixed : FnScope nLMixed pLMixed (defScope sLMixed) := ⟨rfl, rfl, rfl, by decide +kernel, rfl, by decide +kernel, by decide +kernel⟩
abbrev sLNames : Stmt := top 29
abbrev pLNames : List Str := ["_law_script"]
abbrev nLNames : List Str := ["_law_script", "_law_letters", "_law_cell", "_law_base", "_law_at", "_law_names_here", "_law_k", "_law_letter", "_law_word_here"]
theorem cLNames : FnScope nLNames pLNames (defScope sLNames) := ⟨rfl, rfl, rfl, by decide +kernel, rfl, by decide +kernel, by decide +kernel⟩
abbrev sLComing : Stmt := top 30
abbrev pLComing : List Str := ["_law_names_here", "_law_cell", "_law_k"]
abbrev nLComing : List Str := ["_law_names_here", "_law_cell", "_law_k", "_law_mark", "_law_name", "_law_sort", "_law_weight"]
theorem cLComing : FnScope nLComing pLComing (defScope sLComing) := ⟨rfl, rfl, rfl, by decide +kernel, rfl, by decide +kernel, by decide +kernel⟩
abbrev sLDrawers : Stmt := top 31
abbrev pLDrawers : List Str := ["_law_script"]
abbrev nLDrawers : List Str := ["_law_script", "_law_mark"]
theorem cLDrawers : FnScope nLDrawers pLDrawers (defScope sLDrawers) := ⟨rfl, rfl, rfl, by decide +kernel, rfl, by decide +kernel, by decide +kernel⟩
abbrev sLWord : Stmt := top 32
abbrev pLWord : List Str := ["_law_error"]
abbrev nLWord : List Str := ["_law_error", "_law_words", "_law_one", "_law_other", "_law_word_here", "_law_flag"]
theorem cLWord : FnScope nLWord pLWord (defScope sLWord) := ⟨rfl, rfl, rfl, by decide +kernel, rfl, by decide +kernel, by decide +kernel⟩
abbrev sLMade : Stmt := top 33
abbrev pLMade : List Str := ["_law_drawers_here", "_law_piece", "_law_pieces"]
abbrev nLMade : List Str := ["_law_drawers_here", "_law_piece", "_law_pieces", "_law_found", "_law_error"]
theorem cLMade : FnScope nLMade pLMade (defScope sLMade) := ⟨rfl, rfl, rfl, by decide +kernel, rfl, by decide +kernel, by decide +kernel⟩
abbrev sLComeRefused : Stmt := top 34
abbrev pLComeRefused : List Str := ["_law_lately", "_law_name", "_law_weight"]
abbrev nLComeRefused : List Str := ["_law_lately", "_law_name", "_law_weight", "_law_found", "_law_error"]
theorem cLComeRefused : FnScope nLComeRefused pLComeRefused (defScope sLComeRefused) := ⟨rfl, rfl, rfl, by decide +kernel, rfl, by decide +kernel, by decide +kernel⟩
abbrev sLHolds : Stmt := top 35
abbrev pLHolds : List Str := ["_law_lately", "_law_comings", "_law_names_here", "_law_piece", "_law_most"]
abbrev nLHolds : List Str := ["_law_lately", "_law_comings", "_law_names_here", "_law_piece", "_law_most", "_law_reach", "_law_last", "_law_told", "_law_pair", "_law_name", "_law_true"]
theorem cLHolds : FnScope nLHolds pLHolds (defScope sLHolds) := ⟨rfl, rfl, rfl, by decide +kernel, rfl, by decide +kernel, by decide +kernel⟩
abbrev sLaw : Stmt := top 36
abbrev pLaw : List Str := ["_law_script"]
abbrev nLaw : List Str := ["_law_script", "_law_names_here", "_law_drawers_here", "_law_mark", "_law_piece", "_law_most", "_law_lately", "_law_comings", "_law_k", "_law_cell", "_law_name", "_law_weight", "_law_wrong", "_law_due", "_law_bad"]
theorem cLaw : FnScope nLaw pLaw (defScope sLaw) := ⟨rfl, rfl, rfl, by decide +kernel, rfl, by decide +kernel, by decide +kernel⟩
/-! ### the checks -/
section
variable {P : Program} {w : World} {K : PySem.W.Frag} {mg : Str → Option Value} {base : Heap}
def spWhole (K : PySem.W.Frag) : Sp := fun vs H Q _ => ∃ x, vs = [x] ∧ Thing K H x ∧ Q (.bl (isWholeV x)) H
theorem ok_whole {f : Addr} {fd : FuncData} (F : Fun K "is_whole" "is_whole" sIsWhole f fd) (mI : mg "isinstance" = none) (mi : mg "int" = none) (mb : mg "bool" = none) : FnOk P w K mg base CX0 1 f fd pIsWhole (spWhole K) := by
  refine F.ok cIsWhole (fun vs H Q E h => ?_) (fun cdv A outer s H vs Q E hr h => ?_)
  · obtain ⟨x, rfl, _⟩ := h
    rfl
  · obtain ⟨x, rfl, ⟨t, ty, k1, k2, k3⟩, q⟩ := h
    refine ⟨_, pss_one (ps_ret (pe_and (pe_callB call_isi (by rfl) mI (by decide +kernel) (pa_cons (pv 0) (pa_cons (pe_bty (n := "int") mi (by decide +kernel) (by rfl)) pa_nil)))
      (pe_one (pe_not (pe_callB call_isi (by rfl) mI (by decide +kernel) (pa_cons (pv 0) (pa_cons (pe_bty (n := "bool") mb (by decide +kernel) (by rfl)) pa_nil))))))), ?_⟩
    refine ⟨_, rfl, x, .ty "int", t, .type "int", _, rfl, .ty "int", ty, k2, _, rfl, ?_⟩
    cases x <;> first | exact q | (refine iteT ⟨_, rfl, _, .ty "bool", t, .type "bool", _, rfl, .ty "bool", ty, k3, _, rfl, q⟩)
def spName (K : PySem.W.Frag) : Sp := fun vs H Q _ => ∃ x, vs = [x] ∧ Thing K H x ∧ (∀ z, x = .str z → z.length ≤ sizeLine) ∧ Q (.bl (isNameV x)) H
theorem ok_name {f : Addr} {fd : FuncData} (F : Fun K "is_name" "is_name" sIsName f fd) (mI : mg "isinstance" = none) (ms : mg "str" = none) (ml : mg "len" = none) {t8 tL : Tok} (m8 : mg "LONGEST" = some (.int 8 t8)) (mL : mg "LETTERS" = some (.str letters tL)) : FnOk P w K mg base CX0 1 f fd pIsName (spName K) := by
  refine F.ok cIsName (fun vs H Q E h => ?_) (fun cdv A outer s H vs Q E hr h => ?_)
  · obtain ⟨x, rfl, _⟩ := h
    rfl
  · obtain ⟨x, rfl, ⟨t, ty, k1, k2, k3⟩, hz, q⟩ := h
    refine ⟨_, pss_one (ps_ret (pe_and (pe_callB call_isi (by rfl) mI (by decide +kernel) (pa_cons (pv 0) (pa_cons (pe_bty (n := "str") ms (by decide +kernel) (by rfl)) pa_nil)))
      (pe_and (pe_chain op_le op_le pe_int (pe_callB call_len_str (by rfl) ml PySem.boot_len (pa_cons (pv 0) pa_nil)) (pe_gint m8 (by rfl)))
      (pe_one (pe_cmpR op_eq (pe_bm PySem.F.plainAttrs_str PySem.F.slot_str_strip PySem.F.type_str_strip mt_stripChars (pv 0) (pa_cons (pe_gstr mL (by rfl)) pa_nil)) pe_str (nomark _)))))), ?_⟩
    refine ⟨_, rfl, x, .ty "str", t, .type "str", _, rfl, .ty "str", ty, k1, _, rfl, ?_⟩
    cases x <;> first | exact q | skip
    rename_i z
    have hz := hz z rfl
    refine iteT ?_
    refine ⟨_, rfl, z, rfl, hz, _, _, rfl, rfl, _, rfl, ?_⟩
    refine ite2 (fun h1 => ?_) (fun h1 => ?_)
    · refine ⟨_, _, rfl, rfl, _, rfl, ?_⟩
      refine ite2 (fun h2 => ?_) (fun h2 => ?_)
      · refine ⟨_, rfl, rfl, _, _, rfl, rfl, hz, rfl, ?_⟩
        have e1 := of_decide_eq_true h1
        have e2 := of_decide_eq_true h2
        have e3 : isNameV (.str z) = decide (V.str (PySem.Txt.stripChars z letters) = V.str "") := by
          rw [strip_letters]
          show (decide (1 ≤ z.length ∧ z.length ≤ 8) && _) = _
          rw [decide_eq_true (show 1 ≤ z.length ∧ z.length ≤ 8 by omega), Bool.true_and]
        rw [← e3]
        exact q
      · have e2 := of_decide_eq_false (Bool.eq_false_iff.mpr h2)
        have e3 : isNameV (.str z) = false := by
          show (decide (1 ≤ z.length ∧ z.length ≤ 8) && _) = _
          rw [decide_eq_false (show ¬ (1 ≤ z.length ∧ z.length ≤ 8) by omega), Bool.false_and]
        rw [e3] at q
        exact q
    · have e1 := of_decide_eq_false (Bool.eq_false_iff.mpr h1)
      refine ⟨_, rfl, iteF ?_⟩
      have e3 : isNameV (.str z) = false := by
        show (decide (1 ≤ z.length ∧ z.length ≤ 8) && _) = _
        rw [decide_eq_false (show ¬ (1 ≤ z.length ∧ z.length ≤ 8) by omega), Bool.false_and]
      rw [e3] at q
      exact q
/-- a coming's name and weight -/
def spNeedComing (K : PySem.W.Frag) (CN CW : Addr) : Sp := fun vs H Q E => ∃ x y, vs = [x, y] ∧ Thing K H x ∧ Thing K H y ∧ (∀ z, x = .str z → z.length ≤ sizeLine) ∧
  (isNameV x = true → isWtV y = true → Q .non H) ∧ (isNameV x = false → E (.ref CN) none H) ∧ (isNameV x = true → isWtV y = false → E (.ref CW) none H)
theorem ok_needComing {CN CW f : Addr} {fd : FuncData} (F : Fun K "need_coming" "need_coming" sNeedComing f fd) (GN : Gf P w K mg base CX0 1 "is_name" pIsName (spName K)) (GW : Gf P w K mg base CX0 1 "is_whole" pIsWhole (spWhole K))
    {tG : Tok} (mG : mg "GREATEST" = some (.int great tG)) (eN : ExT K mg "NoName" CN) (eW : ExT K mg "NoWeight" CW) : FnOk P w K mg base (L2.CX P w) 2 f fd pNeedComing (spNeedComing K CN CW) := by
  obtain ⟨fN, fdN, gN, bN, mN, kN⟩ := GN.ex
  obtain ⟨fW, fdW, gW, bW, mW, kW⟩ := GW.ex
  refine F.okX cNeedComing (fun vs H Q E h => ?_) (fun cdv A outer s H vs Q E hr h => ?_)
  · obtain ⟨x, y, rfl, _⟩ := h
    rfl
  · obtain ⟨x, y, rfl, tx, ty, hz, q1, q2, q3⟩ := h
    refine ⟨_, pss_cons (ps_if (pt_not (pt_val (pe_call gN hr rfl mN kN bN .nil pass0 (pa_cons (pv 0) pa_nil)))) (pss_one (ps_raise rfl (takes_of rfl rfl rfl rfl) (pmk_own PySem.F.excBase_ValueError eN.x eN.g eN.k (raises_own eN.b eN.t) (by rfl)))) pss_nil)
      (pss_one (ps_if (PW.pt (pw_or (pt_not (pt_val (pe_call gW hr rfl mW kW bW .nil pass0 (pa_cons (pv 1) pa_nil))))
        (pw_or1 (pt_not (pt_chain op_le op_le pe_int (pv 1) (pe_gint mG (by rfl)))))))
        (pss_one (ps_raise rfl (takes_of rfl rfl rfl rfl) (pmk_own PySem.F.excBase_ValueError eW.x eW.g eW.k (raises_own eW.b eW.t) (by rfl)))) pss_nil)), ?_⟩
    refine ⟨_, rfl, x, rfl, tx, hz, _, rfl, ?_⟩
    cases hx : isNameV x with
    | false => exact iteT (q2 hx)
    | true =>
      refine iteF ?_
      refine ⟨_, rfl, y, rfl, ty, _, rfl, ?_⟩
      cases y <;> first | exact q3 hx rfl | skip
      rename_i i
      refine iteF ?_
      refine ⟨_, rfl, _, _, rfl, rfl, _, rfl, ?_⟩
      refine ite2 (fun h1 => ?_) (fun h1 => ?_)
      · refine ⟨_, _, rfl, rfl, _, rfl, ?_⟩
        have e1 := of_decide_eq_true h1
        cases h2 : decide (i ≤ great) with
        | true => exact iteF (q1 hx (decide_eq_true ⟨e1, of_decide_eq_true h2⟩))
        | false => exact iteT (q3 hx (decide_eq_false fun z => of_decide_eq_false h2 z.2))
      · have e1 := of_decide_eq_false (Bool.eq_false_iff.mpr h1)
        exact ⟨_, rfl, iteT (q3 hx (decide_eq_false fun z => e1 z.1))⟩
def spNeedDrawers (K : PySem.W.Frag) (CD : Addr) : Sp := fun vs H Q E => ∃ x, vs = [x] ∧ Thing K H x ∧ (isRoomV x = true → Q .non H) ∧ (isRoomV x = false → E (.ref CD) none H)
theorem ok_needDrawers {CD f : Addr} {fd : FuncData} (F : Fun K "need_drawers" "need_drawers" sNeedDrawers f fd) (GW : Gf P w K mg base CX0 1 "is_whole" pIsWhole (spWhole K))
    {tM : Tok} (mM : mg "MOST_DRAWERS" = some (.int 50 tM)) (eD : ExT K mg "NoDesk" CD) : FnOk P w K mg base (L2.CX P w) 2 f fd pNeedDrawers (spNeedDrawers K CD) := by
  obtain ⟨fW, fdW, gW, bW, mW, kW⟩ := GW.ex
  refine F.okX cNeedDrawers (fun vs H Q E h => ?_) (fun cdv A outer s H vs Q E hr h => ?_)
  · obtain ⟨x, rfl, _⟩ := h
    rfl
  · obtain ⟨x, rfl, tx, q1, q2⟩ := h
    refine ⟨_, pss_one (ps_if (PW.pt (pw_or (pt_not (pt_val (pe_call gW hr rfl mW kW bW .nil pass0 (pa_cons (pv 0) pa_nil))))
        (pw_or1 (pt_not (pt_chain op_le op_le pe_int (pv 0) (pe_gint mM (by rfl)))))))
        (pss_one (ps_raise rfl (takes_of rfl rfl rfl rfl) (pmk_own PySem.F.excBase_ValueError eD.x eD.g eD.k (raises_own eD.b eD.t) (by rfl)))) pss_nil), ?_⟩
    refine ⟨_, rfl, x, rfl, tx, _, rfl, ?_⟩
    cases x <;> first | exact q2 rfl | skip
    rename_i i
    refine iteF ?_
    refine ⟨_, rfl, _, _, rfl, rfl, _, rfl, ?_⟩
    refine ite2 (fun h1 => ?_) (fun h1 => ?_)
    · refine ⟨_, _, rfl, rfl, _, rfl, ?_⟩
      have e1 := of_decide_eq_true h1
      cases h2 : decide (i ≤ 50) with
      | true => exact iteF (q1 (decide_eq_true ⟨e1, of_decide_eq_true h2⟩))
      | false => exact iteT (q2 (decide_eq_false fun z => of_decide_eq_false h2 z.2))
    · have e1 := of_decide_eq_false (Bool.eq_false_iff.mpr h1)
      exact ⟨_, rfl, iteT (q2 (decide_eq_false fun z => e1 z.1))⟩
end
/-! ### lowered, the Desk -/
section
variable {P : Program} {w : World} {K : PySem.W.Frag} {mg : Str → Option Value} {base : Heap}
/-- a new table: those of the old one that have more, so much less -/
def spLowered : Sp := fun vs H Q _ => ∃ (d : Addr) (c : CM) (m : Int), vs = [.ref d, .int m] ∧ H d = some (.dK (kvc c)) ∧ (keysC c).Nodup ∧ c.length ≤ 1000 ∧
  ∀ (H' : Hp) (d' : Addr), H d' = none → Ex H H' → H' d' = some (.dK (kvc (lowered c m))) → Q (.ref d') H'
theorem ok_lowered {f : Addr} {fd : FuncData} (F : Fun K "lowered" "lowered" sLowered f fd) : FnOk P w K mg base CX0 1 f fd pLowered spLowered := by
  refine F.ok cLowered (fun vs H Q E h => ?_) (fun cdv A outer s H vs Q E hr h => ?_)
  · obtain ⟨d, c, m, rfl, _⟩ := h
    rfl
  · obtain ⟨d, c, m, rfl, hd, nd, hl, q⟩ := h
    have hu := hu_of hr
    refine ⟨_, pss_cons (ps_set (i := 2) cLowered.nd rfl (Or.inl rfl) pe_dnewK)
      (pss_cons (ps_lock (ps_for PassesOwn.never rfl (pi_items (pv 0)) (pg_tup rfl (pgs_cons (pg_name (i := 3) cLowered.nd rfl (Or.inl rfl)) (pgs_cons (pg_name (i := 4) cLowered.nd rfl (Or.inl rfl)) pgs_nil)))
        (pss_one (ps_if (pt_cmpR op_gt (pv 4) (pv 1) (nomark _)) (pss_one (ps_dput hu (pv 2) (pv 3) (pe_op op_sub (pv 4) (pv 1)) rfl)) pss_nil))))
      (pss_one (ps_ret (pv 2)))), ?_⟩
    intro f hf
    have ndf : d ≠ f := ne_of_none hd hf
    refine ⟨d, .dK (kvc c), by rw [upd_ne ndf]; exact hd, trivial, fun od => ⟨_, rfl, d, od, kvc c, rfl, upd_same, ?_⟩⟩
    refine for_it (n := c.length) (fun i σ H2 => ∃ v3 v4, σ = [some (.ref d), some (.int m), some (.ref f), v3, v4] ∧ H2 d = some (.frz od (.dK (kvc c))) ∧ H2 f = some (.dK (kvc (lowered (c.take i) m))) ∧ ∀ b o, b ≠ d → H b = some o → H2 b = some o)
      ⟨none, none, rfl, upd_same, by rw [upd_ne ndf.symm, upd_same]; rfl, fun b o hb e => by rw [upd_ne hb, upd_ne (ne_of_none e hf)]; exact e⟩ ?_ ?_ ?_ ?_
    · rintro i σ H2 hi ⟨v3, v4, rfl, h1, h2, h3⟩
      exact ⟨h1, by rw [len_kvc]; exact hi⟩
    · rintro σ H2 ⟨v3, v4, rfl, h1, h2, h3⟩
      exact ⟨h1, by rw [len_kvc]; exact Nat.le_refl _⟩
    · rintro i σ H2 hi ⟨v3, v4, rfl, h1, h2, h3⟩ x H3 ⟨T, k, v, hk, rfl, hT, rfl⟩
      have ei : c[i]? = some c[i] := List.getElem?_eq_getElem hi
      have e0 : (kvc c)[i]? = some (Sum.inr c[i].1, V.int c[i].2) := by
        unfold kvc
        rw [List.getElem?_map, ei]
        rfl
      rw [e0] at hk
      cases hk
      have nT : T ≠ f := fun z => by rw [z, h2] at hT; cases hT
      have dT : d ≠ T := fun z => by rw [← z, h1] at hT; cases hT
      refine ⟨T, _, rfl, SqT.of upd_same, rfl, _, _, rfl, _, _, rfl, rfl, ?_⟩
      refine ⟨_, rfl, _, rfl, _, _, rfl, rfl, _, rfl, ?_⟩
      have tk : c.take (i + 1) = c.take i ++ [c[i]] := List.take_succ_eq_append_getElem hi
      refine ite2 (fun h => ?_) (fun h => ?_)
      · have hlt : m < c[i].2 := of_decide_eq_true h
        refine ⟨_, rfl, _, rfl, _, _, rfl, rfl, _, rfl, _, rfl, f, _, rfl, DPut.of (by rw [upd_ne nT.symm]; exact h2) _ _ (small ?_), ?_⟩
        · have : (lowered (c.take i) m).length ≤ (c.take i).length := by unfold lowered; rw [List.length_map]; exact List.length_filter_le _ _
          have : (c.take i).length ≤ c.length := by rw [List.length_take]; omega
          omega
        · refine ⟨_, _, rfl, by rw [upd_ne ndf, upd_ne dT]; exact h1, ?_, fun b o hb e => ?_⟩
          · rw [upd_same, tk]
            have nk : hasC (lowered (c.take i) m) c[i].1 = false := by
              refine Bool.eq_false_iff.mpr fun hh => ?_
              unfold hasC at hh
              rw [List.any_eq_true] at hh
              obtain ⟨z, hz, ez⟩ := hh
              unfold lowered at hz
              obtain ⟨y, hy, rfl⟩ := List.mem_map.mp hz
              have hy2 := (List.mem_filter.mp hy).1
              obtain ⟨j, hj⟩ := List.mem_iff_getElem?.mp hy2
              have hji : j < i := by
                have := (List.getElem?_eq_some_iff.mp hj).1
                rw [List.length_take] at this
                omega
              rw [List.getElem?_take, if_pos hji] at hj
              have a1 : (keysC c)[j]? = some c[i].1 := by
                unfold keysC
                rw [List.getElem?_map, hj]
                exact congrArg some (of_decide_eq_true ez)
              have a2 : (keysC c)[i]? = some c[i].1 := by
                unfold keysC
                rw [List.getElem?_map, ei]
                rfl
              have := nd_ix nd a1 a2
              omega
            have e2 : putC (lowered (c.take i) m) c[i].1 (c[i].2 - m) = lowered (c.take i ++ [c[i]]) m := by
              unfold putC
              rw [if_neg (by rw [nk]; exact Bool.false_ne_true)]
              unfold lowered
              rw [List.filter_append, List.map_append]
              simp [hlt]
            rw [e2]
          · have hbT : H2 b = some o := h3 b o hb e
            rw [upd_ne (fun z => by rw [z] at e; rw [e] at hf; cases hf), upd_ne (fun z => by rw [z, hT] at hbT; cases hbT)]
            exact hbT
      · have hlt : ¬ m < c[i].2 := fun z => h (decide_eq_true z)
        refine ⟨_, _, rfl, by rw [upd_ne dT]; exact h1, ?_, fun b o hb e => ?_⟩
        · rw [upd_ne nT.symm, h2, tk]
          have e2 : lowered (c.take i ++ [c[i]]) m = lowered (c.take i) m := by
            unfold lowered
            rw [List.filter_append, List.map_append]
            simp [hlt]
          rw [e2]
        · have hbT : H2 b = some o := h3 b o hb e
          rw [upd_ne (fun z => by rw [z, hT] at hbT; cases hbT)]
          exact hbT
    · rintro σ H2 ⟨v3, v4, rfl, h1, h2, h3⟩
      refine ⟨h1, _, rfl, q _ f hf (fun b o e => ?_) ?_⟩
      · by_cases hb : b = d
        · rw [hb, upd_same]
          rw [hb, hd] at e
          exact e
        · rw [upd_ne hb]
          exact h3 b o hb e
      · rw [upd_ne ndf.symm, h2, List.take_of_length_le (Nat.le_refl _)]
end
/-- what is asked of the class Desk and of the names that its methods use -/
structure DkT (K : PySem.W.Frag) (mg : Str → Option Value) (C CN CW CD : Addr) : Prop where
  cl : Cls K C
  nR : NoAttr K C "room"
  nC : NoAttr K C "counts"
  nG : NoAttr K C "gone"
  nT : NoAttr K C "total"
  mgC : mg "Desk" = some (.ref C)
  len : mg "len" = none
  mn : mg "min" = none
  lst : mg "list" = none
  dct : mg "dict" = none
  srt : mg "sorted" = none
  eN : ExT K mg "NoName" CN
  eW : ExT K mg "NoWeight" CW
  eD : ExT K mg "NoDesk" CD
section
variable {P : Program} {w : World} {K : PySem.W.Frag} {mg : Str → Option Value} {base : Heap} {C CN CW CD : Addr}
/-- a fresh Desk -/
def spInit (K : PySem.W.Frag) (C CD : Addr) : Sp := fun vs H Q E => ∃ p x dx, vs = [.ref p, x] ∧ H p = some (.ins C dx []) ∧ Thing K H x ∧
  (∀ r, x = .int r → isRoomV x = true → ∀ (d : Addr) (H' : Hp), H d = none → Off [p] H H' → DeskAt C H' p d r [] 0 0 → Q .non H') ∧ (isRoomV x = false → E (.ref CD) none H)
theorem ok_init {f : Addr} {fd : FuncData} (F : Fun K "__init__" "Desk.__init__" sDInit f fd) (T : DkT K mg C CN CW CD) (GD : Gf P w K mg base (L2.CX P w) 2 "need_drawers" pNeedDrawers (spNeedDrawers K CD)) :
    FnOk P w K mg base (L2.CX P w) 3 f fd pDInit (spInit K C CD) := by
  obtain ⟨fD, fdD, gD, bD, mD, kD⟩ := GD.ex
  refine F.okX cDInit (fun vs H Q E h => ?_) (fun cdv A outer s H vs Q E hr h => ?_)
  · obtain ⟨p, x, dx, rfl, _⟩ := h
    rfl
  · obtain ⟨p, x, dx, rfl, hp, tx, q1, q2⟩ := h
    refine ⟨_, pss_cons (ps_expr (pe_call gD hr rfl mD kD bD .nil (passes_call (takes_of rfl rfl rfl rfl) (fun _ _ _ _ z => z)) (pa_cons (pv 1) pa_nil)))
      (pss_cons (ps_fld (pv 0) (pv 1) rfl) (pss_cons (ps_fld (pv 0) pe_dnewK rfl) (pss_cons (ps_fld (pv 0) pe_int rfl) (pss_one (ps_fld (pv 0) pe_int rfl))))), ?_⟩
    refine ⟨_, rfl, x, rfl, tx, fun hx => ?_, q2⟩
    cases x <;> first | (exact absurd hx Bool.false_ne_true) | skip
    rename_i r
    have hx' := of_decide_eq_true hx
    refine ⟨_, rfl, _, rfl, p, C, dx, _, rfl, hp, T.cl, T.nR, (by show 0 < 1000; decide), ?_⟩
    intro d hd
    have npd : p ≠ d := fun z => by rw [← z, upd_same] at hd; cases hd
    refine ⟨_, rfl, p, C, dx, _, rfl, (by rw [upd_ne npd]; exact upd_same), T.cl, T.nC, (by show 1 < 1000; decide), ?_⟩
    refine ⟨_, rfl, p, C, dx, _, rfl, upd_same, T.cl, T.nG, (by show (putF "counts" (V.ref d) [(("room" : Str), V.int r)]).length < 1000; simp only [putF, if_neg k_ne.1]; show 2 < 1000; decide), ?_⟩
    refine ⟨_, rfl, p, C, dx, _, rfl, upd_same, T.cl, T.nT, (by show (putF "gone" (V.int 0) (putF "counts" (V.ref d) [(("room" : Str), V.int r)])).length < 1000; simp only [putF, if_neg k_ne.1, if_neg k_ne.2.1, if_neg k_ne.2.2.2.1]; show 3 < 1000; decide), ?_⟩
    have hd0 : H d = none := by
      rw [upd_ne npd.symm] at hd
      exact hd
    refine q1 r rfl hx d _ hd0 (fun b o hb e => ?_) ⟨⟨dx, ?_⟩, ?_, List.nodup_nil, (by show ((0 : Nat) : Int) ≤ r; omega), hx'.1, hx'.2⟩
    · have nb : b ≠ p := fun z => hb (by rw [z]; exact List.mem_cons_self ..)
      rw [upd_ne nb, upd_ne nb, upd_ne nb, upd_ne (ne_of_none e hd0), upd_ne nb]
      exact e
    · rw [upd_same, ← dfl_make]
    · rw [upd_ne npd.symm, upd_ne npd.symm, upd_ne npd.symm, upd_same]
      rfl
/-- a coming -/
def spCome (K : PySem.W.Frag) (C CN CW : Addr) : Sp := fun vs H Q E => ∃ p d room c gone total x y, vs = [.ref p, x, y] ∧ DeskAt C H p d room c gone total ∧ Thing K H x ∧ Thing K H y ∧ (∀ z, x = .str z → z.length ≤ sizeLine) ∧
  (∀ n wt, x = .str n → y = .int wt → isName n = true → isWt wt = true → ∀ (H' : Hp) (d' : Addr), (d' = d ∨ H d' = none) → Off [p, d] H H' → DeskAt C H' p d' room (come room c n wt).1 (gone + (come room c n wt).2) (total + wt) → Q .non H') ∧
  (isNameV x = false → E (.ref CN) none H) ∧ (isNameV x = true → isWtV y = false → E (.ref CW) none H)
theorem ok_come {f : Addr} {fd : FuncData} {dvs : List V} (F : FunD K "come" "Desk.come" (defArgs sDCome) (defBody sDCome) (defScope sDCome) dvs [] f fd) (T : DkT K mg C CN CW CD)
    (GN : Gf P w K mg base (L2.CX P w) 2 "need_coming" pNeedComing (spNeedComing K CN CW)) (GL : Gf P w K mg base CX0 1 "lowered" pLowered spLowered) :
    FnOk P w K mg base (L2.CX P w) 3 f fd pDCome (spCome K C CN CW) := by
  obtain ⟨fN, fdN, gN, bN, mN, kN⟩ := GN.ex
  obtain ⟨fL, fdL, gL, bL, mL, kL⟩ := GL.ex
  refine F.ok cDCome (fun vs H Q E h => ?_) (fun cdv A outer s H vs Q E hr h => ?_)
  · obtain ⟨p, d, room, c, gone, total, x, y, rfl, _⟩ := h
    rfl
  · obtain ⟨p, d, room, c, gone, total, x, y, rfl, D, tx, ty, hz, q1, q2, q3⟩ := h
    have hu := hu_of hr
    refine ⟨_, pss_cons (ps_expr (pe_call gN hr rfl mN kN bN .nil (passes_call (takes_of rfl rfl rfl rfl) (fun _ _ _ _ z => z)) (pa_cons (pv 1) (pa_cons (pv 2) pa_nil))))
      (pss_cons (ps_fldaug (pv 0) (pv 2) in_add)
      (pss_cons (ps_if (PW.pt (pw_and (pt_cmp (pc_dnotin hu (pv 1) (pe_fld (pv 0) rfl))) (pw_and1 (pt_cmpR op_eq (pe_callB call_lenD (by rfl) T.len PySem.boot_len (pa_cons (pe_fld (pv 0) rfl) pa_nil)) (pe_fld (pv 0) rfl) (nomark _)))))
        (pss_cons (ps_set (i := 3) cDCome.nd rfl (Or.inl rfl) (pe_callB (cr_min rfl) (by rfl) T.mn (by decide +kernel) (pa_cons (pe_op op_cat (pe_lst (pa_cons (pv 2) pa_nil))
            (pe_callTy (call_listV rfl) (by rfl) T.lst (by decide +kernel) (pa_cons (pe_bm0 PySem.F.plainAttrs_dict PySem.F.slot_dict_values PySem.F.type_dict_values mt_vals (pe_fld (pv 0) rfl)) pa_nil))) pa_nil)))
          (pss_cons (ps_fld (pv 0) (pe_call gL (hr.mono (by decide)) rfl mL kL bL .nil pass0 (pa_cons (pe_fld (pv 0) rfl) (pa_cons (pv 3) pa_nil))) rfl)
          (pss_cons (ps_fldaug (pv 0) (pv 3) in_add)
          (pss_one (ps_aug (i := 2) cDCome.nd rfl (Or.inl rfl) (pv 3) ip_sub)))))
        pss_nil)
      (pss_one (ps_if (pt_cmpR op_gt (pv 2) pe_int (nomark _)) (pss_one (ps_dput hu (pe_fld (pv 0) rfl) (pv 1) (pe_op op_add (pe_dget2 hu (pe_fld (pv 0) rfl) (pv 1) pe_int ⟨rfl, rfl, rfl, rfl⟩) (pv 2)) rfl)) pss_nil)))), ?_⟩
    refine ⟨_, rfl, _, rfl, x, y, rfl, tx, ty, hz, fun hx hy => ?_, q2, q3⟩
    cases x <;> first | (exact absurd hx Bool.false_ne_true) | skip
    cases y <;> first | (exact absurd hy Bool.false_ne_true) | skip
    rename_i n wt
    have hk := q1 n wt rfl rfl hx hy
    have hw := of_decide_eq_true hy
    obtain ⟨⟨dx, hp⟩, hd, nd, hl, r1, r2⟩ := id D
    have npd := D.ne
    -- self.total += weight
    refine ⟨_, rfl, p, C, dx, _, _, rfl, hp, T.cl, T.nT, dfl_total _ _ _ _, _, rfl, _, _, rfl, rfl, dx, _, hp, (by show 4 < 1000; decide), ?_⟩
    rw [dfl_put_total]
    have hd1 : ∀ o, (upd H p o) d = some (.dK (kvc c)) := fun o => by rw [upd_ne npd.symm]; exact hd
    -- name not in self.counts and len(self.counts) == self.room
    refine ⟨_, rfl, _, rfl, p, C, dx, _, _, rfl, upd_same, T.cl, T.nC, dfl_counts _ _ _ _, d, _, rfl, DGet.of (.inl (hd1 _)) n, _, rfl, ?_⟩
    have eh : (!((getC c n).map V.int).isSome) = !hasC c n := by rw [has_get, Option.isSome_map]
    rw [eh]
    -- what the last two rows do, from a table c1 at d1 and a weight w1 that is left
    have last : ∀ (H2 : Hp) (d1 : Addr) (c1 : CM) (g1 w1 : Int) (v3 : Option V), 0 ≤ w1 → (d1 = d ∨ H d1 = none) → Off [p, d] H H2 → H2 p = some (.ins C dx (dfl room d1 g1 (total + wt))) → H2 d1 = some (.dK (kvc c1)) → c1.length ≤ 50 →
        (come room c n wt).1 = (if 0 < w1 then putC c1 n (getD0 c1 n + w1) else c1) → gone + (come room c n wt).2 = g1 →
        (tIfS (tTest (tOp (rI0 fun i j => .bl (decide (j < i))) (tVar 2) (tC (.int 0)))) (sDPut (tFld K (tVar 0) "counts") (tVar 1) (tOp (rI0 fun i j => .int (i + j)) (tDGet2 (tFld K (tVar 0) "counts") (tVar 1) (tC (.int 0))) (tVar 2))) tNext)
          { nx := fun _ H' => Q .non H', rt := Q } [some (.ref p), some (.str n), some (.int w1), v3] H2 := by
      intro H2 d1 c1 g1 w1 v3 h0 hd' off ho hc hlen e1 e2
      have npd1 : p ≠ d1 := ne_of ho hc (fun z => nomatch z)
      refine ⟨_, rfl, _, _, rfl, rfl, _, rfl, ?_⟩
      refine ite2 (fun h => ?_) (fun h => ?_)
      · have hlt : 0 < w1 := of_decide_eq_true h
        rw [if_pos hlt] at e1
        refine ⟨_, rfl, p, C, dx, _, _, rfl, ho, T.cl, T.nC, dfl_counts _ _ _ _, d1, rfl, IsD.of (.inl hc), _, rfl, _, DGet.of (.inl hc) n, ?_⟩
        rw [getD_map]
        refine ⟨_, rfl, _, _, rfl, rfl, _, rfl, p, C, dx, _, _, rfl, ho, T.cl, T.nC, dfl_counts _ _ _ _, _, rfl, d1, _, rfl, DPut.of hc n _ (small (by omega)), ?_⟩
        refine hk _ d1 hd' (fun b o hb e => ?_) ⟨⟨dx, ?_⟩, ?_, come_nodup nd, come_len hl, r1, r2⟩
        · have nb : b ≠ d1 := by
            rcases hd' with z | z
            · rw [z]
              exact fun y => hb (by rw [y]; exact List.mem_cons_of_mem _ (List.mem_cons_self ..))
            · exact ne_of_none e z
          rw [upd_ne nb]
          exact off b o hb e
        · rw [upd_ne npd1, ho, e2]
        · rw [upd_same, e1]
          rfl
      · have hlt : ¬ 0 < w1 := fun z => h (decide_eq_true z)
        rw [if_neg hlt] at e1
        exact hk _ d1 hd' off ⟨⟨dx, by rw [ho, e2]⟩, by rw [hc, e1], come_nodup nd, come_len hl, r1, r2⟩
    have offp : ∀ o, Off [p, d] H (upd H p o) := fun o => Off.upd (List.mem_cons_self ..)
    have plain : ¬ (hasC c n = false ∧ (c.length : Int) = room) → ∀ v3, (tIfS (tTest (tOp (rI0 fun i j => .bl (decide (j < i))) (tVar 2) (tC (.int 0)))) (sDPut (tFld K (tVar 0) "counts") (tVar 1) (tOp (rI0 fun i j => .int (i + j)) (tDGet2 (tFld K (tVar 0) "counts") (tVar 1) (tC (.int 0))) (tVar 2))) tNext)
          { nx := fun _ H' => Q .non H', rt := Q } [some (.ref p), some (.str n), some (.int wt), v3] (upd H p (.ins C dx (dfl room d gone (total + wt)))) := fun hn v3 => by
      refine last _ d c gone wt v3 (by omega) (.inl rfl) (offp _) upd_same (hd1 _) D.len ?_ ?_
      · unfold come
        rw [if_neg hn, if_pos (by omega)]
      · unfold come
        rw [if_neg hn]
        exact Int.add_zero _
    cases hh : hasC c n with
    | true => exact iteF (iteF (plain (fun z => by rw [hh] at z; cases z.1) _))
    | false =>
      refine iteT ?_
      refine ⟨_, rfl, p, C, dx, _, _, rfl, upd_same, T.cl, T.nC, dfl_counts _ _ _ _, d, _, rfl, hd1 _, _, rfl, p, C, dx, _, _, rfl, upd_same, T.cl, T.nR, dfl_room _ _ _ _, rfl, _, rfl, ?_⟩
      rw [len_kvc]
      refine ite2 (fun h => ?_) (fun h => ?_)
      · have hfull : (c.length : Int) = room := V.int.inj (of_decide_eq_true h)
        -- less = min([weight] + list(self.counts.values()))
        refine ⟨_, rfl, (by rw [sizeLine_eq]; show 1 ≤ 16777216; decide), fun l hl1 => ?_⟩
        have dl : d ≠ l := fun z => by rw [← z, hd1] at hl1; cases hl1
        have pl : p ≠ l := fun z => by rw [← z, upd_same] at hl1; cases hl1
        refine ⟨_, rfl, p, C, dx, _, _, rfl, (by rw [upd_ne pl]; exact upd_same), T.cl, T.nC, dfl_counts _ _ _ _, (.inr (.inr (.inl ⟨rfl, .inl ⟨_, by rw [upd_ne dl]; exact hd1 _⟩⟩))), d, kvc c, rfl, rfl, (by rw [upd_ne dl]; exact hd1 _), fun v hv => ?_⟩
        have dv : d ≠ v := fun z => by rw [← z, upd_ne dl, hd1] at hv; cases hv
        have pv' : p ≠ v := fun z => by rw [← z, upd_ne pl, upd_same] at hv; cases hv
        have lv : l ≠ v := fun z => by rw [← z, upd_same] at hv; cases hv
        refine ⟨v, d, kvc c, rfl, upd_same, (by rw [upd_ne dv, upd_ne dl]; exact hd1 _), fun l2 hl2 => ?_⟩
        have dl2 : d ≠ l2 := fun z => by rw [← z, upd_ne dv, upd_ne dl, hd1] at hl2; cases hl2
        have pl2 : p ≠ l2 := fun z => by rw [← z, upd_ne pv', upd_ne pl, upd_same] at hl2; cases hl2
        have ll2 : l ≠ l2 := fun z => by rw [← z, upd_ne lv, upd_same] at hl2; cases hl2
        refine ⟨l, l2, [.int wt], (kvc c).map (·.2), rfl, rfl, (by rw [upd_ne ll2, upd_ne lv]; exact upd_same), upd_same, ?_, fun l3 hl3 => ?_⟩
        · rw [List.length_map, len_kvc, sizeLine_eq]
          have := D.len
          simp only [List.length_cons, List.length_nil]
          omega
        have nl3 : ∀ b o, upd H p (.ins C dx (dfl room d gone (total + wt))) b = some o → (upd (upd (upd (upd (upd H p (.ins C dx (dfl room d gone (total + wt)))) l (.lst [.int wt])) v (viewV v d)) l2 (.lst ((kvc c).map (·.2)))) l3 (.lst ([.int wt] ++ (kvc c).map (·.2)))) b = some o := fun b o e => by
          have b1 : b ≠ l := ne_of_none e hl1
          have b2 : b ≠ v := fun z => by rw [← z, upd_ne b1, e] at hv; cases hv
          have b3 : b ≠ l2 := fun z => by rw [← z, upd_ne b2, upd_ne b1, e] at hl2; cases hl2
          have b4 : b ≠ l3 := fun z => by rw [← z, upd_ne b3, upd_ne b2, upd_ne b1, e] at hl3; cases hl3
          rw [upd_ne b4, upd_ne b3, upd_ne b2, upd_ne b1]
          exact e
        have hL3 : (upd (upd (upd (upd (upd H p (.ins C dx (dfl room d gone (total + wt)))) l (.lst [.int wt])) v (viewV v d)) l2 (.lst ((kvc c).map (·.2)))) l3 (.lst ([.int wt] ++ (kvc c).map (·.2)))) l3 = some (.lst ((wt :: valsC c).map V.int)) := by
          rw [upd_same, snd_kvc]
          rfl
        revert nl3 hL3
        generalize upd (upd (upd (upd (upd H p (.ins C dx (dfl room d gone (total + wt)))) l (.lst [.int wt])) v (viewV v d)) l2 (.lst ((kvc c).map (·.2)))) l3 (.lst ([.int wt] ++ (kvc c).map (·.2))) = H5
        intro nl3 hL3
        have hp5 := nl3 p _ upd_same
        have hd5 := nl3 d _ (hd1 _)
        refine ⟨l3, wt :: valsC c, rfl, SqL.of hL3, (by rw [List.length_cons]; omega), fun m hm hle => ?_⟩
        have em : m = minL wt (valsC c) := minL_uniq (by
          rcases List.mem_cons.mp hm with z | z
          · exact .inl z
          · exact .inr z) (hle _ (List.mem_cons_self ..)) (fun y hy => hle y (List.mem_cons_of_mem _ hy))
        have mle : m ≤ wt := hle _ (List.mem_cons_self ..)
        -- self.counts = lowered(self.counts, less)
        refine ⟨_, rfl, p, C, dx, _, _, rfl, hp5, T.cl, T.nC, dfl_counts _ _ _ _, _, rfl, d, c, m, rfl, hd5, nd, (by have := D.len; omega), fun H6 d' hd' ex6 hd6 => ?_⟩
        have hp6 := ex6 p _ hp5
        have npd' : p ≠ d' := ne_of hp6 hd6 (fun z => nomatch z)
        refine ⟨_, rfl, p, C, dx, _, rfl, hp6, T.cl, T.nC, (by show 4 < 1000; decide), ?_⟩
        rw [dfl_put_counts]
        -- self.gone += less; weight -= less
        refine ⟨_, rfl, p, C, dx, _, _, rfl, upd_same, T.cl, T.nG, dfl_gone _ _ _ _, _, rfl, _, _, rfl, rfl, dx, _, upd_same, (by show 4 < 1000; decide), ?_⟩
        rw [dfl_put_gone]
        refine ⟨_, rfl, _, rfl, _, _, rfl, rfl, ?_⟩
        have hd0 : H d' = none := by
          cases e : H d' with
          | none => rfl
          | some o =>
            have b1 : d' ≠ p := npd'.symm
            have := nl3 d' o (by rw [upd_ne b1]; exact e)
            rw [this] at hd'
            cases hd'
        refine last _ d' (lowered c m) (gone + m) (wt - m) _ (by omega) (.inr hd0) (fun b o hb e => ?_) upd_same (by rw [upd_ne npd'.symm, upd_ne npd'.symm]; exact hd6) (by have := lowered_len c m; have := D.len; omega) ?_ ?_
        · have nb : b ≠ p := fun z => hb (by rw [z]; exact List.mem_cons_self ..)
          rw [upd_ne nb, upd_ne nb]
          exact ex6 b o (nl3 b o (by rw [upd_ne nb]; exact e))
        · unfold come
          rw [if_pos ⟨hh, hfull⟩, ← em]
        · unfold come
          rw [if_pos ⟨hh, hfull⟩, ← em]
      · have hfull : ¬ (c.length : Int) = room := fun z => h (decide_eq_true (congrArg V.int z))
        exact plain (fun z => hfull z.2) _
end
section
variable {P : Program} {w : World} {K : PySem.W.Frag} {mg : Str → Option Value} {base : Heap} {C CN CW CD : Addr}
/-- shown(): a new dict, in the order of the names -/
def spShown (C : Addr) : Sp := fun vs H Q _ => ∃ p d room c gone total, vs = [.ref p] ∧ DeskAt C H p d room c gone total ∧ ∀ (H' : Hp) (q : Addr), H q = none → Ex H H' → H' q = some (.dK (kvc (sortC c))) → Q (.ref q) H'
theorem ok_shown {f : Addr} {fd : FuncData} (F : Fun K "shown" "Desk.shown" sDShown f fd) (T : DkT K mg C CN CW CD) : FnOk P w K mg base CX0 1 f fd pDShown (spShown C) := by
  refine F.ok cDShown (fun vs H Q E h => ?_) (fun cdv A outer s H vs Q E hr h => ?_)
  · obtain ⟨p, d, room, c, gone, total, rfl, _⟩ := h
    rfl
  · obtain ⟨p, d, room, c, gone, total, rfl, D, q⟩ := h
    refine ⟨_, pss_one (ps_ret (pe_callTy (call_dictP rfl) (by rfl) T.dct (by decide +kernel) (pa_cons (pe_callB (cr_sortedI rfl) (by rfl) T.srt (by decide +kernel)
      (pa_cons (pe_bm0 PySem.F.plainAttrs_dict PySem.F.slot_dict_items PySem.F.type_dict_items mt_items (pe_fld (pv 0) rfl)) pa_nil)) pa_nil))), ?_⟩
    obtain ⟨dx, hp⟩ := D.ob
    refine ⟨_, rfl, p, C, dx, _, _, rfl, hp, T.cl, T.nC, dfl_counts _ _ _ _, (.inr (.inr (.inl ⟨rfl, .inl ⟨_, D.dc⟩⟩))), d, kvc c, rfl, rfl, D.dc, fun v hv => ?_⟩
    have dv : d ≠ v := ne_of_none D.dc hv
    refine ⟨v, d, c, rfl, upd_same, (by rw [upd_ne dv]; exact D.dc), D.nd, fun H2 l ts c' ex hl hts pm as hL hP => ?_⟩
    have e : c' = sortC c := sortC_eq D.nd pm (sortC_asc' as)
    subst e
    refine ⟨l, ts, _, rfl, SqL.of hL, prs_paired hP, fun q' hq' => ?_⟩
    rw [merge_kvc (sortC_nodup D.nd)]
    have ex2 : Ex H H2 := fun b o eb => ex b o (by rw [upd_ne (ne_of_none eb hv)]; exact eb)
    refine q _ q' ?_ (fun b o eb => ?_) upd_same
    · cases e : H q' with
      | none => rfl
      | some o =>
        rw [ex2 _ _ e] at hq'
        cases hq'
    · rw [upd_ne (ne_of_none (ex2 b o eb) hq')]
      exact ex2 b o eb
/-- a number that a Desk holds -/
def spNum (C : Addr) (g : Int → Int → Int → Int) : Sp := fun vs H Q _ => ∃ p d room c gone total, vs = [.ref p] ∧ DeskR C H p d room c gone total ∧ Q (.int (g room gone total)) H
theorem ok_lost {f : Addr} {fd : FuncData} (F : Fun K "lost" "Desk.lost" sDLost f fd) (T : DkT K mg C CN CW CD) : FnOk P w K mg base CX0 1 f fd pDLost (spNum C fun _ g _ => g) := by
  refine F.ok cDLost (fun vs H Q E h => ?_) (fun cdv A outer s H vs Q E hr h => ?_)
  · obtain ⟨p, d, room, c, gone, total, rfl, _⟩ := h
    rfl
  · obtain ⟨p, d, room, c, gone, total, rfl, ⟨⟨dx, hp⟩, _⟩, q⟩ := h
    refine ⟨_, pss_one (ps_ret (pe_fld (pv 0) rfl)), ?_⟩
    exact ⟨_, rfl, p, C, dx, _, _, rfl, hp, T.cl, T.nG, dfl_gone _ _ _ _, q⟩
theorem ok_weight {f : Addr} {fd : FuncData} (F : Fun K "weight" "Desk.weight" sDWeight f fd) (T : DkT K mg C CN CW CD) : FnOk P w K mg base CX0 1 f fd pDWeight (spNum C fun _ _ t => t) := by
  refine F.ok cDWeight (fun vs H Q E h => ?_) (fun cdv A outer s H vs Q E hr h => ?_)
  · obtain ⟨p, d, room, c, gone, total, rfl, _⟩ := h
    rfl
  · obtain ⟨p, d, room, c, gone, total, rfl, ⟨⟨dx, hp⟩, _⟩, q⟩ := h
    refine ⟨_, pss_one (ps_ret (pe_fld (pv 0) rfl)), ?_⟩
    exact ⟨_, rfl, p, C, dx, _, _, rfl, hp, T.cl, T.nT, dfl_total _ _ _ _, q⟩
theorem ok_drawers {f : Addr} {fd : FuncData} (F : Fun K "drawers" "Desk.drawers" sDDrawers f fd) (T : DkT K mg C CN CW CD) : FnOk P w K mg base CX0 1 f fd pDDrawers (spNum C fun r _ _ => r) := by
  refine F.ok cDDrawers (fun vs H Q E h => ?_) (fun cdv A outer s H vs Q E hr h => ?_)
  · obtain ⟨p, d, room, c, gone, total, rfl, _⟩ := h
    rfl
  · obtain ⟨p, d, room, c, gone, total, rfl, ⟨⟨dx, hp⟩, _⟩, q⟩ := h
    refine ⟨_, pss_one (ps_ret (pe_fld (pv 0) rfl)), ?_⟩
    exact ⟨_, rfl, p, C, dx, _, _, rfl, hp, T.cl, T.nR, dfl_room _ _ _ _, q⟩
end
section
variable {P : Program} {w : World} {K : PySem.W.Frag} {mg : Str → Option Value} {base : Heap} {C CN CW CD : Addr}
/-- least(name), most(name): u is what is added -/
def spLeast (K : PySem.W.Frag) (C CN : Addr) (u : Int → Int) : Sp := fun vs H Q E => ∃ p d room c gone total x, vs = [.ref p, x] ∧ DeskR C H p d room c gone total ∧ Thing K H x ∧ (∀ z, x = .str z → z.length ≤ sizeLine) ∧
  (∀ n, x = .str n → isName n = true → Q (.int (getD0 c n + u gone)) H) ∧ (isNameV x = false → E (.ref CN) none H)
theorem name_size {n : Str} (h : isName n = true) : n.length ≤ sizeLine := by
  unfold isName at h
  rw [Bool.and_eq_true] at h
  have := of_decide_eq_true h.1
  rw [sizeLine_eq]
  omega
/-- the names shown whose share is more, rising -/
def overS (room : Int) (c : CM) (u total : Int) : List Str := sortS ((keysC c).filter fun n => decide (total < (getD0 c n + u) * (room + 1)))
def spOver (C : Addr) (u : Int → Int) : Sp := fun vs H Q _ => ∃ p d room c gone total, vs = [.ref p] ∧ DeskAt C H p d room c gone total ∧ (∀ n ∈ keysC c, isName n = true) ∧
  ∀ (H' : Hp) (q : Addr), H q = none → Ex H H' → H' q = some (.lst ((overS room c (u gone) total).map V.str)) → Q (.ref q) H'
abbrev tOver (K : PySem.W.Frag) (C CN : Addr) (m : Str) (u : Int → Int) : TT := tTest (tOp (rI0 fun i j => .bl (decide (j < i))) (tOp (rI CMul fun i j => .int (i * j)) (tMeth C m (spLeast K C CN u) [] E0 (tVar 0) (tCons (tVar 1) tNil)) (tOp (rI0 fun i j => .int (i + j)) (tFld K (tVar 0) "room") (tC (.int 1)))) (tFld K (tVar 0) "total"))
/-- the reading of sorted([name for name in self.counts if self.F(name) * (self.room + 1) > self.total]) -/
theorem over_reads {u : Int → Int} {Q : VK} {H : Hp} {p d : Addr} {room : Int} {c : CM} {gone total : Int} {m : Str} (T : DkT K mg C CN CW CD) (D : DeskAt C H p d room c gone total) (hn : ∀ n ∈ keysC c, isName n = true)
    (hm : (m == "room") = false ∧ (m == "counts") = false ∧ (m == "gone") = false ∧ (m == "total") = false)
    (q : ∀ (H' : Hp) (q : Addr), H q = none → Ex H H' → H' q = some (.lst ((overS room c (u gone) total).map V.str)) → Q (.ref q) H') :
    tCB (rSortedS K) (tCons (tLockE (tLc (iKeys (tFld K (tVar 0) "counts")) (gName 1) (tOver K C CN m u) (tVar 1) [1])) tNil)
      [some (.ref p), none] H Q := by
  obtain ⟨⟨dx, hp⟩, hd, nd, hl, r1, r2⟩ := id D
  have npd := D.ne
  refine ⟨d, .dK (kvc c), hd, trivial, fun od => ?_⟩
  refine ⟨_, rfl, p, C, dx, _, _, rfl, (by rw [upd_ne npd]; exact hp), T.cl, T.nC, dfl_counts _ _ _ _, d, od, rfl, .inl ⟨kvc c, upd_same, fun L hL => ?_⟩⟩
  have dL : d ≠ L := fun z => by rw [← z, upd_same] at hL; cases hL
  have pL : p ≠ L := fun z => by rw [← z, upd_ne npd, hp] at hL; cases hL
  have hL0 : H L = none := by
    rw [upd_ne dL.symm] at hL
    exact hL
  refine lc_it (n := c.length) (fun i H2 => H2 d = some (.frz od (.dK (kvc c))) ∧ (∀ b o, b ≠ d → H b = some o → H2 b = some o) ∧ H2 L = some (.lst ((((keysC c).take i).filter fun n => decide (total < (getD0 c n + u gone) * (room + 1))).map V.str)))
    ⟨by rw [upd_ne dL]; exact upd_same, fun b o hb e => by rw [upd_ne (ne_of_none e hL0), upd_ne hb]; exact e, upd_same⟩ ?_ ?_ ?_ ?_
  · rintro i H2 hi ⟨h1, h2, h3⟩
    exact ⟨h1, by rw [len_kvc]; exact hi⟩
  · rintro H2 ⟨h1, h2, h3⟩
    exact ⟨h1, by rw [len_kvc]; exact Nat.le_refl _⟩
  · rintro i H2 hi ⟨h1, h2, h3⟩ x H3 ⟨rfl, k, v, hk, rfl⟩
    have ei : c[i]? = some c[i] := List.getElem?_eq_getElem hi
    have e0 : (kvc c)[i]? = some (Sum.inr c[i].1, V.int c[i].2) := by
      unfold kvc
      rw [List.getElem?_map, ei]
      rfl
    rw [e0] at hk
    cases hk
    have ek : (keysC c)[i]? = some c[i].1 := by
      unfold keysC
      rw [List.getElem?_map, ei]
      rfl
    have hn1 := hn _ (List.mem_of_getElem? ek)
    have hp2 := h2 p _ npd hp
    have hil : i < (keysC c).length := (List.getElem?_eq_some_iff.mp ek).1
    have tk : (keysC c).take (i + 1) = (keysC c).take i ++ [c[i].1] := by
      rw [List.take_succ_eq_append_getElem hil]
      rw [(List.getElem?_eq_some_iff.mp ek).2]
    refine ⟨rfl, _, rfl, p, dx, _, rfl, hp2, dfl_no _ _ _ _ hm, _, rfl, p, d, room, c, gone, total, .str c[i].1, rfl, ⟨⟨dx, hp2⟩, .inr ⟨od, h1⟩⟩, thing_str _, fun z e => ?_, fun n en _ => ?_, fun hx => ?_⟩
    · cases e
      exact name_size hn1
    · cases en
      refine ⟨_, rfl, p, C, dx, _, _, rfl, hp2, T.cl, T.nR, dfl_room _ _ _ _, _, _, rfl, rfl, _, _, rfl, rfl, .inr ⟨by omega, by omega⟩, _, rfl, p, C, dx, _, _, rfl, hp2, T.cl, T.nT, dfl_total _ _ _ _, _, _, rfl, rfl, _, rfl, ?_⟩
      refine ite2 (fun h => ?_) (fun h => ?_)
      · refine ⟨_, rfl, _, h3, small ?_, by rw [upd_ne dL]; exact h1, fun b o hb e => by rw [upd_ne (ne_of_none e hL0)]; exact h2 b o hb e, ?_⟩
        · rw [List.length_map]
          have a1 := List.length_filter_le (fun n => decide (total < (getD0 c n + u gone) * (room + 1))) ((keysC c).take i)
          have a2 : ((keysC c).take i).length ≤ i := by rw [List.length_take]; omega
          have := D.len
          omega
        · rw [upd_same, tk, List.filter_append, List.map_append]
          have : [c[i].1].filter (fun n => decide (total < (getD0 c n + u gone) * (room + 1))) = [c[i].1] := by
            exact List.filter_cons_of_pos (p := fun n => decide (total < (getD0 c n + u gone) * (room + 1))) h
          rw [this]
          rfl
      · refine ⟨h1, h2, ?_⟩
        rw [h3, tk, List.filter_append, List.map_append]
        have : [c[i].1].filter (fun n => decide (total < (getD0 c n + u gone) * (room + 1))) = [] := by
          exact List.filter_cons_of_neg (p := fun n => decide (total < (getD0 c n + u gone) * (room + 1))) h
        rw [this]
        simp
    · rw [show isNameV (.str c[i].1) = true from hn1] at hx
      cases hx
  · rintro H2 ⟨h1, h2, h3⟩
    refine ⟨h1, L, (keysC c).filter fun n => decide (total < (getD0 c n + u gone) * (room + 1)), rfl, SqL.of ?_, ?_, fun ys l pm so hl' => ?_⟩
    · rw [upd_ne dL.symm, h3, List.take_of_length_le (by unfold keysC; rw [List.length_map]; exact Nat.le_refl _)]
    · have a1 := List.length_filter_le (fun n => decide (total < (getD0 c n + u gone) * (room + 1))) (keysC c)
      have a2 : (keysC c).length = c.length := by unfold keysC; rw [List.length_map]
      have := D.len
      omega
    · have ex1 : Ex H (upd H2 d (.dK (kvc c))) := fun b o e => by
        by_cases hb : b = d
        · rw [hb, upd_same]
          rw [hb, hd] at e
          exact e
        · rw [upd_ne hb]
          exact h2 b o hb e
      have hl0 : H l = none := by
        cases e : H l with
        | none => rfl
        | some o =>
          rw [ex1 _ _ e] at hl'
          cases hl'
      refine q _ l hl0 (fun b o e => by rw [upd_ne (ne_of_none (ex1 b o e) hl')]; exact ex1 b o e) ?_
      rw [upd_same, sortS_eq pm (sortedS_pw so)]
      rfl
end
section
variable {P : Program} {w : World} {K : PySem.W.Frag} {mg : Str → Option Value} {base : Heap} {C CN CW CD : Addr}
theorem ok_least {f : Addr} {fd : FuncData} (F : Fun K "least" "Desk.least" sDLeast f fd) (T : DkT K mg C CN CW CD) (GN : Gf P w K mg base CX0 1 "is_name" pIsName (spName K)) :
    FnOk P w K mg base (L2.CX P w) 2 f fd pDLeast (spLeast K C CN fun _ => 0) := by
  obtain ⟨fN, fdN, gN, bN, mN, kN⟩ := GN.ex
  refine F.okX cDLeast (fun vs H Q E h => ?_) (fun cdv A outer s H vs Q E hr h => ?_)
  · obtain ⟨p, d, room, c, gone, total, x, rfl, _⟩ := h
    rfl
  · obtain ⟨p, d, room, c, gone, total, x, rfl, ⟨⟨dx, hp⟩, hd⟩, tx, hz, q1, q2⟩ := h
    have hu := hu_of hr
    refine ⟨_, pss_cons (ps_if (pt_not (pt_val (pe_call gN hr rfl mN kN bN .nil pass0 (pa_cons (pv 1) pa_nil)))) (pss_one (ps_raise rfl (takes_of rfl rfl rfl rfl) (pmk_own PySem.F.excBase_ValueError T.eN.x T.eN.g T.eN.k (raises_own T.eN.b T.eN.t) (by rfl)))) pss_nil)
      (pss_one (ps_ret (pe_dget2 hu (pe_fld (pv 0) rfl) (pv 1) pe_int ⟨rfl, rfl, rfl, rfl⟩))), ?_⟩
    refine ⟨_, rfl, x, rfl, tx, hz, _, rfl, ?_⟩
    cases hx : isNameV x with
    | false => exact iteT (q2 hx)
    | true =>
      refine iteF ?_
      cases x <;> first | (exact absurd hx Bool.false_ne_true) | skip
      rename_i n
      refine ⟨_, rfl, p, C, dx, _, _, rfl, hp, T.cl, T.nC, dfl_counts _ _ _ _, d, rfl, IsD.of hd, _, rfl, _, DGet.of hd n, ?_⟩
      rw [getD_map]
      have := q1 n rfl hx
      rw [Int.add_zero] at this
      exact this
end
section
variable {P : Program} {w : World} {K : PySem.W.Frag} {mg : Str → Option Value} {base : Heap} {C CN CW CD : Addr}
theorem ok_most {f : Addr} {fd : FuncData} (F : Fun K "most" "Desk.most" sDMost f fd) (T : DkT K mg C CN CW CD) (GL : Gm P w K mg base (L2.CX P w) C 2 "least" pDLeast (spLeast K C CN fun _ => 0)) :
    FnOk P w K mg base (L2.CX P w) 3 f fd pDMost (spLeast K C CN fun g => g) := by
  obtain ⟨fL, fdL, gL, bL, mL⟩ := GL.ex
  refine F.okX cDMost (fun vs H Q E h => ?_) (fun cdv A outer s H vs Q E hr h => ?_)
  · obtain ⟨p, d, room, c, gone, total, x, rfl, _⟩ := h
    rfl
  · obtain ⟨p, d, room, c, gone, total, x, rfl, D, tx, hz, q1, q2⟩ := h
    refine ⟨_, pss_one (ps_ret (pe_op op_add (pe_meth (pv 0) T.cl mL gL hr bL .nil (passes_call (takes_of rfl rfl rfl rfl) (fun _ _ _ _ z => z)) (pa_cons (pv 1) pa_nil)) (pe_fld (pv 0) rfl))), ?_⟩
    obtain ⟨dx, hp⟩ := D.ob
    refine ⟨_, rfl, p, dx, _, rfl, hp, dfl_no _ _ _ _ (by decide +kernel), _, rfl, p, d, room, c, gone, total, x, rfl, D, tx, hz, fun n en hn => ?_, q2⟩
    refine ⟨_, rfl, p, C, dx, _, _, rfl, hp, T.cl, T.nG, dfl_gone _ _ _ _, _, _, rfl, rfl, ?_⟩
    rw [Int.add_zero]
    exact q1 n en hn
end
/-! ### what a law draws -/
section
variable {P : Program} {w : World} {K : PySem.W.Frag} {mg : Str → Option Value} {base : Heap}
def spMixed : Sp := fun vs H Q _ => ∃ (c k : Int), vs = [.int c, .int k] ∧ ∀ m : Int, 0 ≤ m → m < 2147483647 → Q (.int m) H
theorem ok_mixed {f : Addr} {fd : FuncData} (F : Fun K "_law_mixed" "_law_mixed" sLMixed f fd) : FnOk P w K mg base CX0 1 f fd pLMixed spMixed := by
  refine F.ok cLMixed (fun vs H Q E h => ?_) (fun cdv A outer s H vs Q E hr h => ?_)
  · obtain ⟨c, k, rfl, _⟩ := h
    rfl
  · obtain ⟨c, k, rfl, q⟩ := h
    refine ⟨_, pss_cons (ps_set (i := 2) cLMixed.nd rfl (Or.inl rfl) (pe_op op_mod (pe_op op_mul (pe_op op_add (pe_op op_mod (pv 0) pe_int) (pe_op op_mul pe_int (pe_op op_add (pv 1) pe_int))) pe_int) pe_int))
      (pss_one (ps_ret (pe_op op_mod (pe_op op_mul (pe_op op_mod (pe_op op_mul (pv 2) (pv 2)) pe_int) pe_int) pe_int))), ?_⟩
    refine ⟨_, rfl, _, _, rfl, rfl, (by show (0 : Int) < _; decide), _, rfl, _, _, rfl, rfl, _, _, rfl, rfl, .inl (by decide), _, _, rfl, rfl, _, _, rfl, rfl, .inr (by decide), _, _, rfl, rfl, (by show (0 : Int) < _; decide), ?_⟩
    have h0 := Int.emod_nonneg ((c % 2147483629 + 104729 * (k + 1)) * 16807) (show (2147483647 : Int) ≠ 0 by decide)
    have h1 := Int.emod_lt_of_pos ((c % 2147483629 + 104729 * (k + 1)) * 16807) (show (0 : Int) < 2147483647 by decide)
    generalize (c % 2147483629 + 104729 * (k + 1)) * 16807 % 2147483647 = z at h0 h1 ⊢
    refine ⟨_, rfl, _, rfl, _, _, rfl, rfl, .inl ⟨by omega, by omega⟩, _, _, rfl, rfl, (by show (0 : Int) < _; decide), _, _, rfl, rfl, .inr (by decide), _, _, rfl, rfl, (by show (0 : Int) < _; decide), ?_⟩
    exact q _ (Int.emod_nonneg _ (by decide)) (Int.emod_lt_of_pos _ (by decide))
def spDrawers (K : PySem.W.Frag) : Sp := fun vs H Q _ => ∃ (a : Addr) (ns : List Int), vs = [.ref a] ∧ SqL K H a (ns.map V.int) ∧ ∀ (r : Int) (H' : Hp), 1 ≤ r → r ≤ 50 → Ex H H' → Q (.int r) H'
/-- script[i] if script else 0: some whole number -/
theorem cell_reads {Q : VK} {H : Hp} {a : Addr} {ns : List Int} {i : Int} {ti : TE} {σ : L2.St} (hσ : σ[0]? = some (some (.ref a))) (ht : ∀ Q : VK, Q (.int i) H → ti σ H Q) (h : SqL K H a (ns.map V.int)) (hi : i = 0 ∨ i = -1) (q : ∀ z : Int, Q (.int z) H) :
    tIf (fun σ H Q => tVar 0 σ H fun x H' => ∃ k, TruV K x H' k ∧ Q k H') (tOp (rIxL K) (tVar 0) ti) (tC (.int 0)) σ H Q := by
  refine ⟨_, hσ, _, .inl ⟨_, h, rfl⟩, ?_⟩
  cases ns with
  | nil => exact q 0
  | cons z ns =>
    refine ite2 (fun _ => ?_) (fun hh => absurd rfl hh)
    rcases hi with rfl | rfl
    · exact ⟨_, hσ, ht _ ⟨a, _, _, _, rfl, rfl, h, atI_nat (j := 0) rfl, q z⟩⟩
    · obtain ⟨l, y, e⟩ : ∃ l y, z :: ns = l ++ [y] := ⟨(z :: ns).dropLast, (z :: ns).getLast (by simp), (List.dropLast_concat_getLast _).symm⟩
      refine ⟨_, hσ, ht _ ⟨a, _, _, V.int y, rfl, rfl, h, ?_, q y⟩⟩
      rw [e, List.map_append]
      exact atI_last _ _
theorem ok_drawersL {f : Addr} {fd : FuncData} (F : Fun K "_law_drawers" "_law_drawers" sLDrawers f fd) (GM : Gf P w K mg base CX0 1 "_law_mixed" pLMixed spMixed) : FnOk P w K mg base CX0 2 f fd pLDrawers (spDrawers K) := by
  obtain ⟨fM, fdM, gM, bM, mM, kM⟩ := GM.ex
  refine F.ok cLDrawers (fun vs H Q E h => ?_) (fun cdv A outer s H vs Q E hr h => ?_)
  · obtain ⟨a, ns, rfl, _⟩ := h
    rfl
  · obtain ⟨a, ns, rfl, hS, q⟩ := h
    refine ⟨_, pss_cons (ps_set (i := 1) cLDrawers.nd rfl (Or.inl rfl) (pe_call gM hr rfl mM kM bM .nil pass0 (pa_cons (pe_ifExp (pt_truth (pv 0) (by intro _; rfl)) (pe_ix ix_list (pv 0) (pe_un un_neg pe_int) (fun _ _ => rfl)) pe_int) (pa_cons pe_int pa_nil))))
      (pss_one (ps_ret (pe_ix ix_list (pe_lst (pa_cons (pe_op op_add pe_int (pe_op op_mod (pe_op op_fdiv (pv 1) pe_int) pe_int)) (pa_cons (pe_op op_add pe_int (pe_op op_mod (pe_op op_fdiv (pv 1) pe_int) pe_int)) (pa_cons pe_int (pa_cons pe_int pa_nil)))))
        (pe_op op_fdiv (pe_op op_mod (pv 1) pe_int) pe_int) (fun _ _ => rfl)))), ?_⟩
    refine cell_reads (K := K) (a := a) (ns := ns) (i := -1) (ti := tUn (rU fun i => .int (-i)) (tC (.int 1))) (σ := [some (.ref a), none]) (by rfl) (fun Q' h' => ⟨1, rfl, h'⟩) hS (.inr rfl) fun z => ?_
    refine ⟨z, 901, rfl, fun m m0 m1 => ?_⟩
    refine ⟨_, rfl, _, _, rfl, rfl, ⟨by decide, by decide⟩, _, _, rfl, rfl, (by show (0 : Int) < _; decide), _, _, rfl, rfl, _, rfl, _, _, rfl, rfl, ⟨by decide, by decide⟩, _, _, rfl, rfl, (by show (0 : Int) < _; decide), _, _, rfl, rfl, (by rw [sizeLine_eq]; show 4 ≤ 16777216; decide), fun l hl => ?_⟩
    refine ⟨_, rfl, _, _, rfl, rfl, (by show (0 : Int) < _; decide), _, _, rfl, rfl, ⟨by decide, by decide⟩, l, [.int (1 + m / 8 % 4), .int (1 + m / 8 % 9), .int 3, .int 50], m % 8 / 2, ?_⟩
    have h := (show m % 8 / 2 = 0 ∨ m % 8 / 2 = 1 ∨ m % 8 / 2 = 2 ∨ m % 8 / 2 = 3 by omega)
    rcases h with e | e | e | e
    · exact ⟨_, rfl, rfl, SqL.of upd_same, by rw [e]; exact atI_nat (j := 0) rfl, q _ _ (by omega) (by omega) (Evl.Ex.new hl)⟩
    · exact ⟨_, rfl, rfl, SqL.of upd_same, by rw [e]; exact atI_nat (j := 1) rfl, q _ _ (by omega) (by omega) (Evl.Ex.new hl)⟩
    · exact ⟨_, rfl, rfl, SqL.of upd_same, by rw [e]; exact atI_nat (j := 2) rfl, q _ _ (by omega) (by omega) (Evl.Ex.new hl)⟩
    · exact ⟨_, rfl, rfl, SqL.of upd_same, by rw [e]; exact atI_nat (j := 3) rfl, q _ _ (by omega) (by omega) (Evl.Ex.new hl)⟩
end
section
variable {P : Program} {w : World} {K : PySem.W.Frag} {mg : Str → Option Value} {base : Heap}
def spNames (K : PySem.W.Frag) : Sp := fun vs H Q _ => ∃ (a : Addr) (ns : List Int), vs = [.ref a] ∧ SqL K H a (ns.map V.int) ∧ ∀ (nm : List Str) (p : Addr) (H' : Hp), nm.length = 14 → NamesOk nm → H p = none → Ex H H' → H' p = some (.lst (nm.map V.str)) → Q (.ref p) H'
theorem ok_names {f : Addr} {fd : FuncData} (F : Fun K "_law_names" "_law_names" sLNames f fd) (GM : Gf P w K mg base CX0 1 "_law_mixed" pLMixed spMixed) (ml : mg "len" = none) (mn : mg "min" = none) (mr : mg "range" = none) : FnOk P w K mg base CX0 2 f fd pLNames (spNames K) := by
  obtain ⟨fM, fdM, gM, bM, mM, kM⟩ := GM.ex
  refine F.ok cLNames (fun vs H Q E h => ?_) (fun cdv A outer s H vs Q E hr h => ?_)
  · obtain ⟨a, ns, rfl, _⟩ := h
    rfl
  · obtain ⟨a, ns, rfl, hS, q⟩ := h
    refine ⟨_, pss_cons (ps_set (i := 1) cLNames.nd rfl (Or.inl rfl) pe_str)
      (pss_cons (ps_set (i := 2) cLNames.nd rfl (Or.inl rfl) (pe_call gM hr rfl mM kM bM .nil pass0 (pa_cons (pe_ifExp (pt_truth (pv 0) (by intro _; rfl)) (pe_ix ix_list (pv 0) pe_int (fun _ _ => rfl)) pe_int) (pa_cons pe_int pa_nil))))
      (pss_cons (ps_set (i := 3) cLNames.nd rfl (Or.inl rfl) (pe_op op_mulS (pe_ix ix_str (pv 1) (pe_op op_mod (pv 2) pe_int) (fun _ _ => rfl)) (pe_op op_add pe_int (pe_op op_mod (pe_op op_fdiv (pv 2) pe_int) pe_int))))
      (pss_cons (ps_set (i := 4) cLNames.nd rfl (Or.inl rfl) (pe_op op_mod (pe_op op_fdiv (pv 2) pe_int) (pe_callB call_len_str (by rfl) ml PySem.boot_len (pa_cons (pv 3) pa_nil))))
      (pss_cons (ps_set (i := 5) cLNames.nd rfl (Or.inl rfl) (pe_lst pa_nil))
      (pss_cons (ps_for PassesOwn.never rfl (pi_range1 rfl mr (pa_cons pe_int pa_nil)) (pg_name (i := 6) cLNames.nd rfl (Or.inl rfl))
        (pss_cons (ps_set (i := 7) cLNames.nd rfl (Or.inl rfl) (pe_ix ix_str (pv 1) (pe_op op_mod (pe_op op_add (pe_op op_fdiv (pv 2) pe_int) (pe_op op_mul pe_int (pv 6))) pe_int) (fun _ _ => rfl)))
        (pss_cons (ps_set (i := 8) cLNames.nd rfl (Or.inl rfl) (pe_op op_add_str (pe_op op_add_str (pe_slice sl_str (pv 3) po_none (po_some (pv 4))) (pv 7)) (pe_slice sl_str (pv 3) (po_some (pe_op op_add (pv 4) pe_int)) po_none)))
        (pss_cons (ps_if (pt_cmpR op_eq (pe_op op_mod (pv 6) pe_int) pe_int (nomark _))
          (pss_one (ps_set (i := 8) cLNames.nd rfl (Or.inl rfl) (pe_slice sl_str (pe_op op_add_str (pv 8) (pv 8)) po_none (po_some (pe_callB (call_min2 rfl) (by rfl) mn (by decide +kernel) (pa_cons pe_int (pa_cons (pe_op op_add (pe_op op_add (pe_callB call_len_str (by rfl) ml PySem.boot_len (pa_cons (pv 8) pa_nil)) pe_int) (pe_op op_mod (pv 6) pe_int)) pa_nil)))))))
          pss_nil)
        (pss_cons (ps_if (pt_cmpR op_eq (pe_op op_mod (pv 6) pe_int) pe_int (nomark _))
          (pss_one (ps_set (i := 8) cLNames.nd rfl (Or.inl rfl) (pe_slice sl_str (pv 8) po_none (po_some (pe_op op_add (pv 4) pe_int)))))
          pss_nil)
        (pss_one (ps_expr (pe_bm PySem.F.plainAttrs_list PySem.F.slot_list_append PySem.F.type_list_append mt_append (pv 5) (pa_cons (pv 8) pa_nil)))))))))
      (pss_one (ps_ret (pv 5)))))))), ?_⟩
    refine cell_reads (K := K) (a := a) (ns := ns) (i := 0) (ti := tC (.int 0)) (σ := [some (.ref a), some (.str letters), none, none, none, none, none, none, none]) (by rfl) (fun Q' h' => h') hS (.inl rfl) fun z => ?_
    refine ⟨z, 900, rfl, fun m m0 m1 => ?_⟩
    have b26 := Int.emod_nonneg m (show (26 : Int) ≠ 0 by decide)
    have b26' := Int.emod_lt_of_pos m (show (0 : Int) < 26 by decide)
    -- the base: one letter, 1 to 8 times
    refine ⟨_, rfl, _, rfl, _, _, rfl, rfl, (by show (0 : Int) < _; decide), letters, m % 26, _, rfl, rfl, (by rw [sizeLine_eq]; decide +kernel), letters_at _ b26 b26', ?_⟩
    refine ⟨_, rfl, _, _, rfl, rfl, ⟨by decide, by decide⟩, _, _, rfl, rfl, (by show (0 : Int) < _; decide), _, _, rfl, rfl, ?_⟩
    obtain ⟨L, hL, hL1, hL8⟩ : ∃ L : Nat, 1 + m / 26 % 8 = (L : Int) ∧ 1 ≤ L ∧ L ≤ 8 := ⟨(1 + m / 26 % 8).toNat, by omega, by omega, by omega⟩
    dsimp only
    rw [hL]
    refine ⟨_, _, rfl, rfl, mulS_ok rfl (by omega) (by omega), ?_⟩
    have hbase := mulS_cs (97 + (m % 26).toNat) L hL1 hL8
    generalize PySem.Txt.mul ⟨#[97 + (m % 26).toNat]⟩ (L : Int) = bs at hbase ⊢
    have hbl : bs.length = L := by rw [cs_len, hbase, List.length_replicate]
    -- the place
    refine ⟨_, rfl, _, _, rfl, rfl, ⟨by decide, by decide⟩, _, rfl, bs, rfl, (by rw [hbl, sizeLine_eq]; omega), _, _, rfl, rfl, (by show (0 : Int) < (bs.length : Int); rw [hbl]; omega), ?_⟩
    dsimp only
    rw [hbl]
    have hp0 := Int.emod_nonneg (m / 208) (show ((L : Nat) : Int) ≠ 0 by omega)
    have hp1 := Int.emod_lt_of_pos (m / 208) (show (0 : Int) < ((L : Nat) : Int) by omega)
    obtain ⟨at_, hat⟩ : ∃ k : Nat, m / 208 % (L : Int) = (k : Int) := ⟨(m / 208 % (L : Int)).toNat, by omega⟩
    rw [hat] at hp1 ⊢
    have hatL : at_ < L := by omega
    refine ⟨Nat.zero_le _, fun p hp => ?_⟩
    refine ⟨14, rfl, by decide, by decide, for_range (lo := 0) (n := 14) (fun i σ H2 => ∃ (nm : List Str) (v6 v7 v8 : Option V), σ = [some (.ref a), some (.str letters), some (.int m), some (.str bs), some (.int (at_ : Int)), some (.ref p), v6, v7, v8] ∧ Ex H H2 ∧ nm.length = i ∧ i ≤ 14 ∧
        (∀ (k : Nat) (z : Str), nm[k]? = some z → WordAt (m / 1664) at_ k z) ∧ H2 p = some (.lst (nm.map V.str)))
      ⟨[], none, none, none, rfl, Evl.Ex.new hp, rfl, by decide, fun k z e => by simp at e, upd_same⟩ ?_ ?_⟩
    · rintro i σ H2 hi ⟨nm, v6, v7, v8, rfl, ex, hl, hi', hw, h2⟩
      have hk : (0 : Int) + (i : Int) = (i : Int) := Int.zero_add _
      show tSeq _ _ _ _ _
      have c0 := Int.emod_nonneg (m / 1664 + 5 * (i : Int)) (show (26 : Int) ≠ 0 by decide)
      have c1 := Int.emod_lt_of_pos (m / 1664 + 5 * (i : Int)) (show (0 : Int) < 26 by decide)
      dsimp only
      rw [hk]
      refine ⟨_, rfl, _, rfl, _, _, rfl, rfl, ⟨by decide, by decide⟩, _, rfl, _, _, rfl, rfl, .inl (by decide), _, _, rfl, rfl, _, _, rfl, rfl, (by show (0 : Int) < _; decide), letters, _, _, rfl, rfl, (by rw [sizeLine_eq]; decide +kernel), letters_at _ c0 c1, ?_⟩
      obtain ⟨lc, hlc⟩ : ∃ lc : Nat, lc = 97 + ((m / 1664 + 5 * (i : Int)) % 26).toNat := ⟨_, rfl⟩
      dsimp only
      rw [← hlc]
      -- the word
      have szb : bs.length ≤ sizeLine := by rw [hbl, sizeLine_eq]; omega
      refine ⟨_, rfl, _, rfl, _, rfl, bs, rfl, szb, _, rfl, _, _, rfl, rfl, ?_, ?_⟩
      · have := cutS_length bs none (some (at_ : Int))
        show _ + 1 ≤ _
        rw [sizeLine_eq]
        omega
      have e1 : (at_ : Int) + 1 = ((at_ + 1 : Nat) : Int) := by omega
      refine ⟨_, rfl, _, rfl, _, _, rfl, rfl, _, rfl, ?_⟩
      dsimp only
      rw [e1]
      refine ⟨bs, rfl, szb, ?_⟩
      have w0 : cs (cutS bs none (some (at_ : Int)) ++ ⟨#[lc]⟩ ++ cutS bs (some ((at_ + 1 : Nat) : Int)) none) = (cs bs).take at_ ++ [lc] ++ (cs bs).drop (at_ + 1) := by
        rw [cs_app, cs_app, cut_to, cut_from]
      have hwl : ((cs bs).take at_ ++ [lc] ++ (cs bs).drop (at_ + 1)).length = L := by
        rw [List.length_append, List.length_append, List.length_take, List.length_drop, hbase, List.length_replicate]
        simp only [List.length_cons, List.length_nil]
        omega
      refine ⟨_, _, rfl, rfl, ?_, ?_⟩
      · have l1 : (cutS bs none (some (at_ : Int)) ++ ⟨#[lc]⟩).length ≤ 9 := by
          rw [cs_len, cs_app, cut_to, List.length_append, List.length_take, hbase, List.length_replicate]
          show _ + 1 ≤ 9
          omega
        have l2 := cutS_length bs (some ((at_ + 1 : Nat) : Int)) none
        rw [sizeLine_eq]
        omega
      generalize cutS bs none (some (at_ : Int)) ++ ⟨#[lc]⟩ ++ cutS bs (some ((at_ + 1 : Nat) : Int)) none = wd at w0 ⊢
      have low : ∀ c ∈ cs wd, 97 ≤ c ∧ c ≤ 122 := by
        intro c hc
        rw [w0, List.mem_append, List.mem_append] at hc
        have rep : c ∈ cs bs → 97 ≤ c ∧ c ≤ 122 := fun h => by
          rw [hbase, List.mem_replicate] at h
          omega
        rcases hc with (hc | hc) | hc
        · exact rep (List.mem_of_mem_take hc)
        · rw [List.mem_singleton] at hc
          omega
        · exact rep (List.mem_of_mem_drop hc)
      have hwdl : (cs wd).length = L := by rw [w0]; exact hwl
      have atw : (cs wd)[at_]? = some lc := by
        rw [w0, List.append_assoc, List.getElem?_append_right (by rw [List.length_take]; omega)]
        have : at_ - ((cs bs).take at_).length = 0 := by rw [List.length_take, hbase, List.length_replicate]; omega
        rw [this]
        rfl
      -- what the rest makes of a word that has its letter
      have fin : ∀ (z : Str) (v7' : Option V), (∀ c ∈ cs z, 97 ≤ c ∧ c ≤ 122) → 1 ≤ (cs z).length → (cs z).length ≤ 8 → (cs z)[at_]? = some lc → ∀ H3, Ex H H3 → H3 p = some (.lst (nm.map V.str)) →
          tDrop (tBM K "list" rAppend (tVar 5) (tCons (tVar 8) tNil)) { nx := fun σ' H' => ∃ (nm : List Str) (v6 v7 v8 : Option V), σ' = [some (.ref a), some (.str letters), some (.int m), some (.str bs), some (.int (at_ : Int)), some (.ref p), v6, v7, v8] ∧ Ex H H' ∧ nm.length = i + 1 ∧ i + 1 ≤ 14 ∧
              (∀ (k : Nat) (z : Str), nm[k]? = some z → WordAt (m / 1664) at_ k z) ∧ H' p = some (.lst (nm.map V.str)), rt := Q } [some (.ref a), some (.str letters), some (.int m), some (.str bs), some (.int (at_ : Int)), some (.ref p), some (.int (i : Int)), v7', some (.str z)] H3 := by
        intro z v7' h1 h2' h3 h4 H3 ex3 hp3
        refine ⟨_, rfl, .inl ⟨rfl, _, SqL.of hp3⟩, _, rfl, p, _, _, rfl, rfl, hp3, small (by rw [List.length_map]; omega), nm ++ [z], _, _, _, rfl, fun b o e => ?_, by rw [List.length_append, hl]; rfl, by omega, fun k y hk' => ?_, ?_⟩
        · rw [upd_ne (ne_of_none e hp)]
          exact ex3 b o e
        · rcases Nat.lt_or_ge k nm.length with c | c
          · rw [List.getElem?_append_left c] at hk'
            exact hw k y hk'
          · rw [List.getElem?_append_right c] at hk'
            have ek : k = nm.length := by
              have := (List.getElem?_eq_some_iff.mp hk').1
              simp only [List.length_cons, List.length_nil] at this
              omega
            rw [ek, Nat.sub_self] at hk'
            have ey : z = y := Option.some.inj hk'
            rw [← ey, ek, hl]
            exact ⟨(isName_iff z).mpr ⟨h2', h3, h1⟩, by rw [h4, hlc]⟩
        · rw [upd_same, List.map_append]
          rfl
      have cutLast : ∀ (z : Str) (v7' : Option V), (∀ c ∈ cs z, 97 ≤ c ∧ c ≤ 122) → 1 ≤ (cs z).length → (cs z).length ≤ 8 → (cs z)[at_]? = some lc → ∀ H3, Ex H H3 → H3 p = some (.lst (nm.map V.str)) →
          tSeq (tIfS (tTest (tOp rEq (tOp (rI (fun _ j => 0 < j) fun i j => .int (i % j)) (tVar 6) (tC (.int 5))) (tC (.int 4)))) (tAsg (tSl rSlS (tVar 8) tNoPart (tPart (tOp (rI0 fun i j => .int (i + j)) (tVar 4) (tC (.int 1))))) (gName 8)) tNext) (tDrop (tBM K "list" rAppend (tVar 5) (tCons (tVar 8) tNil)))
            { nx := fun σ' H' => ∃ (nm : List Str) (v6 v7 v8 : Option V), σ' = [some (.ref a), some (.str letters), some (.int m), some (.str bs), some (.int (at_ : Int)), some (.ref p), v6, v7, v8] ∧ Ex H H' ∧ nm.length = i + 1 ∧ i + 1 ≤ 14 ∧
              (∀ (k : Nat) (z : Str), nm[k]? = some z → WordAt (m / 1664) at_ k z) ∧ H' p = some (.lst (nm.map V.str)), rt := Q } [some (.ref a), some (.str letters), some (.int m), some (.str bs), some (.int (at_ : Int)), some (.ref p), some (.int (i : Int)), v7', some (.str z)] H3 := by
        intro z v7' h1 h2' h3 h4 H3 ex3 hp3
        refine ⟨_, rfl, _, _, rfl, rfl, (by show (0 : Int) < _; decide), rfl, _, rfl, ?_⟩
        refine ite2 (fun _ => ?_) (fun _ => fin z v7' h1 h2' h3 h4 H3 ex3 hp3)
        refine ⟨_, rfl, _, rfl, _, _, rfl, rfl, _, rfl, ?_⟩
        dsimp only
        rw [e1]
        refine ⟨z, rfl, by rw [cs_len, sizeLine_eq]; omega, ?_⟩
        have e3 := cut_to z (at_ + 1)
        have hlt : at_ < (cs z).length := (List.getElem?_eq_some_iff.mp h4).1
        refine fin _ v7' (fun c hc => ?_) ?_ ?_ ?_ H3 ex3 hp3
        · rw [e3] at hc
          exact h1 c (List.mem_of_mem_take hc)
        · rw [e3, List.length_take]
          omega
        · rw [e3, List.length_take]
          omega
        · rw [e3, List.getElem?_take, if_pos (Nat.lt_succ_self _)]
          exact h4
      refine ⟨_, rfl, _, _, rfl, rfl, (by show (0 : Int) < _; decide), rfl, _, rfl, ?_⟩
      refine ite2 (fun _ => ?_) (fun _ => cutLast wd _ low (by omega) (by omega) atw H2 ex h2)
      have hww : wd.length = L := by rw [cs_len]; exact hwdl
      refine ⟨_, rfl, _, rfl, _, _, rfl, rfl, (by rw [hww, sizeLine_eq]; omega), _, rfl, wd, rfl, (by rw [hww, sizeLine_eq]; omega), _, _, rfl, rfl, _, rfl, _, _, rfl, rfl, (by show (0 : Int) < _; decide), _, _, rfl, rfl, _, _, rfl, _, rfl, ?_⟩
      dsimp only
      rw [hww]
      obtain ⟨N, hN, hN1, hN2⟩ : ∃ N : Nat, (if (L : Int) + 1 + (i : Int) % 2 < 8 then (L : Int) + 1 + (i : Int) % 2 else 8) = (N : Int) ∧ L ≤ N ∧ N ≤ 8 := by
        have := Int.emod_nonneg (i : Int) (show (2 : Int) ≠ 0 by decide)
        split
        · exact ⟨((L : Int) + 1 + (i : Int) % 2).toNat, by omega, by omega, by omega⟩
        · exact ⟨8, rfl, hL8, Nat.le_refl _⟩
      rw [hN]
      refine ⟨_, rfl, by rw [cs_len, cs_app, List.length_append, hwdl, sizeLine_eq]; omega, ?_⟩
      have e4 := cut_to (wd ++ wd) N
      rw [cs_app] at e4
      refine cutLast _ _ (fun c hc => ?_) ?_ ?_ ?_ H2 ex h2
      · rw [e4] at hc
        have := List.mem_of_mem_take hc
        rw [List.mem_append] at this
        exact this.elim (low c) (low c)
      · rw [e4, List.length_take, List.length_append]
        omega
      · rw [e4, List.length_take]
        omega
      · rw [e4, List.getElem?_take, if_pos (by omega), List.getElem?_append_left (by omega)]
        exact atw
    · rintro σ H2 ⟨nm, v6, v7, v8, rfl, ex, hl, hi', hw, h2⟩
      exact ⟨_, rfl, q nm p H2 hl (words_ok (by omega) hw) hp ex h2⟩
end
/-! ### one coming -/
section
variable {P : Program} {w : World} {K : PySem.W.Frag} {mg : Str → Option Value} {base : Heap}
theorem none_ex {H H' : Hp} {p : Addr} (e : Ex H H') (h : H' p = none) : H p = none := by
  cases c : H p with
  | none => rfl
  | some o => rw [e p o c] at h; cases h
theorem sql_ex {H H' : Hp} {a : Addr} {xs : List V} (h : SqL K H a xs) (e : Ex H H') : SqL K H' a xs := by
  rcases h with (h | h) | h
  · exact .inl (.inl (e _ _ h))
  · obtain ⟨o, h⟩ := h
    exact .inl (.inr ⟨o, e _ _ h⟩)
  · exact .inr h
def spComing (K : PySem.W.Frag) : Sp := fun vs H Q _ => ∃ (a : Addr) (nm : List Str) (c k : Int), vs = [.ref a, .int c, .int k] ∧ SqL K H a (nm.map V.str) ∧ nm.length = 14 ∧
  ∀ (n : Str) (x : Int) (p : Addr) (H' : Hp), n ∈ nm → isWt x = true → Ex H H' → H p = none → H' p = some (.tup [.str n, .int x]) → Q (.ref p) H'
theorem ok_coming {f : Addr} {fd : FuncData} (F : Fun K "_law_coming" "_law_coming" sLComing f fd) (GM : Gf P w K mg base CX0 1 "_law_mixed" pLMixed spMixed) : FnOk P w K mg base CX0 2 f fd pLComing (spComing K) := by
  obtain ⟨fM, fdM, gM, bM, mM, kM⟩ := GM.ex
  refine F.ok cLComing (fun vs H Q E h => ?_) (fun cdv A outer s H vs Q E hr h => ?_)
  · obtain ⟨a, nm, c, k, rfl, _⟩ := h
    rfl
  · obtain ⟨a, nm, c, k, rfl, hS, hl, q⟩ := h
    refine ⟨_, pss_cons (ps_set (i := 3) cLComing.nd rfl (Or.inl rfl) (pe_call gM hr rfl mM kM bM .nil pass0 (pa_cons (pv 1) (pa_cons (pv 2) pa_nil))))
      (pss_cons (ps_set (i := 4) cLComing.nd rfl (Or.inl rfl) (pe_ix ix_list (pv 0) (pe_op op_mod (pe_op op_mod (pv 3) (pe_ix ix_list (pe_lst (pa_cons pe_int (pa_cons pe_int (pa_cons pe_int pa_nil)))) (pe_op op_mod (pe_op op_fdiv (pv 3) pe_int) pe_int) (fun _ _ => rfl))) pe_int) (fun _ _ => rfl)))
      (pss_cons (ps_set (i := 5) cLComing.nd rfl (Or.inl rfl) (pe_op op_mod (pe_op op_fdiv (pv 3) pe_int) pe_int))
      (pss_cons (ps_set (i := 6) cLComing.nd rfl (Or.inl rfl) (pe_op op_add pe_int (pe_op op_mod (pe_op op_fdiv (pv 3) pe_int) (pe_ix ix_list (pe_lst (pa_cons pe_int (pa_cons pe_int (pa_cons pe_int pa_nil)))) (pe_op op_mod (pv 5) pe_int) (fun _ _ => rfl)))))
      (pss_cons (ps_if (pt_cmpR op_gt (pv 5) pe_int (nomark _))
        (pss_one (ps_set (i := 6) cLComing.nd rfl (Or.inl rfl) (pe_op op_add pe_int (pe_op op_mod (pe_op op_add (pe_op op_pow (pv 3) pe_int) (pe_op op_mod (pv 1) (pe_op op_pow pe_int pe_int))) (pe_op op_pow pe_int pe_int)))))
        pss_nil)
      (pss_one (ps_ret (pe_tup (pa_cons (pv 4) (pa_cons (pv 6) pa_nil))))))))), ?_⟩
    have sz3 : 3 ≤ sizeLine := by rw [sizeLine_eq]; decide
    -- one of three whole numbers
    have three : ∀ (x y z j : Int) (Q : VK) (H2 : Hp) (l : Addr), 0 ≤ j → j < 3 → (Q (.int x) (upd H2 l (.lst [.int x, .int y, .int z])) ∧ Q (.int y) (upd H2 l (.lst [.int x, .int y, .int z])) ∧ Q (.int z) (upd H2 l (.lst [.int x, .int y, .int z]))) →
        rIxL K (V.ref l) (V.int j) (upd H2 l (.lst [.int x, .int y, .int z])) Q := by
      intro x y z j Q H2 l j0 j3 ⟨q0, q1, q2⟩
      have h := (show j = 0 ∨ j = 1 ∨ j = 2 by omega)
      rcases h with e | e | e
      · exact ⟨l, _, j, _, rfl, rfl, SqL.of upd_same, by rw [e]; exact atI_nat (j := 0) rfl, q0⟩
      · exact ⟨l, _, j, _, rfl, rfl, SqL.of upd_same, by rw [e]; exact atI_nat (j := 1) rfl, q1⟩
      · exact ⟨l, _, j, _, rfl, rfl, SqL.of upd_same, by rw [e]; exact atI_nat (j := 2) rfl, q2⟩
    refine ⟨_, rfl, _, rfl, c, k, rfl, fun m m0 m1 => ?_⟩
    have tail : ∀ (b : Int) (nx : Str) (σ5 : Int) (H2 : Hp), nx ∈ nm → Ex H H2 → 0 < b → b ≤ 60 → ∀ mm : Int, 0 ≤ mm → mm < b → 
        tSeq (tIfS (tTest (tOp (rI0 fun i j => .bl (decide (j < i))) (tVar 5) (tC (.int 9)))) (tAsg (tOp (rI0 fun i j => .int (i + j)) (tC (.int 1)) (tOp (rI (fun _ j => 0 < j) fun i j => .int (i % j)) (tOp (rI0 fun i j => .int (i + j)) (tOp (rI CPow fun i j => .int (i ^ j.toNat)) (tVar 3) (tC (.int 7))) (tOp (rI (fun _ j => 0 < j) fun i j => .int (i % j)) (tVar 1) (tOp (rI CPow fun i j => .int (i ^ j.toNat)) (tC (.int 10)) (tC (.int 59))))) (tOp (rI CPow fun i j => .int (i ^ j.toNat)) (tC (.int 10)) (tC (.int 60))))) (gName 6)) tNext)
          (tRet (tTup (tCons (tVar 4) (tCons (tVar 6) tNil)))) { nx := fun x H' => Q V.non H', rt := Q } [some (.ref a), some (.int c), some (.int k), some (.int m), some (.str nx), some (.int σ5), some (.int (1 + mm))] H2 := by
      intro b nx s5 H2 hn ex b0 b60 mm mm0 mm1
      have wt1 : isWt (1 + mm) = true := decide_eq_true (by unfold great; omega)
      have last : ∀ y : Int, isWt y = true → tRet (tTup (tCons (tVar 4) (tCons (tVar 6) tNil))) { nx := fun x H' => Q V.non H', rt := Q } [some (.ref a), some (.int c), some (.int k), some (.int m), some (.str nx), some (.int s5), some (.int y)] H2 := by
        intro y hy
        exact ⟨_, rfl, _, rfl, by rw [sizeLine_eq]; show 2 ≤ 16777216; decide, fun p hp => q nx y p _ hn hy (ex.trans (Evl.Ex.new hp)) (none_ex ex hp) upd_same⟩
      refine ⟨_, rfl, _, _, rfl, rfl, _, rfl, ?_⟩
      refine ite2 (fun _ => ?_) (fun _ => last _ wt1)
      have p59 : (0 : Int) < (10 : Int) ^ (59 : Int).toNat := by decide +kernel
      have p60 : (10 : Int) ^ (60 : Int).toNat = great := by decide +kernel
      refine ⟨_, rfl, _, _, rfl, rfl, ⟨by decide, by decide, ?_⟩, _, rfl, _, _, rfl, rfl, ⟨by decide, by decide, by decide⟩, _, _, rfl, rfl, p59, _, _, rfl, rfl, _, _, rfl, rfl, ⟨by decide, by decide, by decide⟩, _, _, rfl, rfl, (by dsimp only; rw [p60]; decide), _, _, rfl, rfl, ?_⟩
      · show m.natAbs < 2 ^ 64
        omega
      · dsimp only
        rw [p60]
        refine last _ (decide_eq_true ?_)
        have h1 := Int.emod_nonneg (m ^ (7 : Int).toNat + c % (10 : Int) ^ (59 : Int).toNat) (show great ≠ 0 by decide)
        have h2 := Int.emod_lt_of_pos (m ^ (7 : Int).toNat + c % (10 : Int) ^ (59 : Int).toNat) (show 0 < great by decide)
        omega
    -- the weight
    have mid : ∀ (j : Int) (H2 : Hp), 0 ≤ j → j < 14 → Ex H H2 → ∃ (a' : Addr) (xs : List V) (i : Int) (v : V), (V.ref a = .ref a') ∧ (V.int j = .int i) ∧ SqL K H2 a' xs ∧ atI xs i = some v ∧
        tSeq (tAsg (tOp (rI (fun _ j => 0 < j) fun i j => .int (i % j)) (tOp (rI CDiv fun i j => .int (i / j)) (tVar 3) (tC (.int 42))) (tC (.int 12))) (gName 5)) (tSeq (tAsg (tOp (rI0 fun i j => .int (i + j)) (tC (.int 1)) (tOp (rI (fun _ j => 0 < j) fun i j => .int (i % j)) (tOp (rI CDiv fun i j => .int (i / j)) (tVar 3) (tC (.int 600))) (tOp (rIxL K) (tLst (tCons (tC (.int 1)) (tCons (tC (.int 9)) (tCons (tC (.int 60)) tNil)))) (tOp (rI (fun _ j => 0 < j) fun i j => .int (i % j)) (tVar 5) (tC (.int 3)))))) (gName 6))
         (tSeq (tIfS (tTest (tOp (rI0 fun i j => .bl (decide (j < i))) (tVar 5) (tC (.int 9)))) (tAsg (tOp (rI0 fun i j => .int (i + j)) (tC (.int 1)) (tOp (rI (fun _ j => 0 < j) fun i j => .int (i % j)) (tOp (rI0 fun i j => .int (i + j)) (tOp (rI CPow fun i j => .int (i ^ j.toNat)) (tVar 3) (tC (.int 7))) (tOp (rI (fun _ j => 0 < j) fun i j => .int (i % j)) (tVar 1) (tOp (rI CPow fun i j => .int (i ^ j.toNat)) (tC (.int 10)) (tC (.int 59))))) (tOp (rI CPow fun i j => .int (i ^ j.toNat)) (tC (.int 10)) (tC (.int 60))))) (gName 6)) tNext)
          (tRet (tTup (tCons (tVar 4) (tCons (tVar 6) tNil)))))) { nx := fun x H' => Q V.non H', rt := Q } [some (.ref a), some (.int c), some (.int k), some (.int m), some v, none, none] H2 := by
      intro j H2 j0 j1 ex
      obtain ⟨jn, rfl⟩ : ∃ n : Nat, j = (n : Int) := ⟨j.toNat, by omega⟩
      have hjn : jn < nm.length := by omega
      refine ⟨a, _, _, .str nm[jn], rfl, rfl, sql_ex hS ex, atI_nat (by rw [List.getElem?_map, List.getElem?_eq_getElem hjn]; rfl), ?_⟩
      have hin : nm[jn] ∈ nm := List.getElem_mem hjn
      generalize nm[jn] = nx at hin ⊢
      refine ⟨_, rfl, _, _, rfl, rfl, ⟨by decide, by decide⟩, _, _, rfl, rfl, (by show (0 : Int) < _; decide), _, rfl, ?_⟩
      dsimp only
      have s0 := Int.emod_nonneg (m / 42) (show (12 : Int) ≠ 0 by decide)
      refine ⟨_, _, rfl, rfl, ⟨by decide, by decide⟩, sz3, ?_⟩
      intro l hl
      refine ⟨_, rfl, _, _, rfl, rfl, (by show (0 : Int) < _; decide), ?_⟩
      refine three _ _ _ _ _ _ l (Int.emod_nonneg _ (by decide)) (Int.emod_lt_of_pos _ (by decide)) ?_
      have ex2 := ex.trans (Evl.Ex.new (o := .lst [.int 1, .int 9, .int 60]) hl)
      have part : ∀ b : Int, 0 < b → b ≤ 60 → 0 ≤ m / 600 % b ∧ m / 600 % b < b := fun b b0 _ => ⟨Int.emod_nonneg _ (by omega), Int.emod_lt_of_pos _ b0⟩
      refine ⟨?_, ?_, ?_⟩
      · exact ⟨_, _, rfl, rfl, (by show (0 : Int) < _; decide), _, _, rfl, rfl, tail 1 nx _ _ hin ex2 (by decide) (by decide) _ (part 1 (by decide) (by decide)).1 (part 1 (by decide) (by decide)).2⟩
      · exact ⟨_, _, rfl, rfl, (by show (0 : Int) < _; decide), _, _, rfl, rfl, tail 9 nx _ _ hin ex2 (by decide) (by decide) _ (part 9 (by decide) (by decide)).1 (part 9 (by decide) (by decide)).2⟩
      · exact ⟨_, _, rfl, rfl, (by show (0 : Int) < _; decide), _, _, rfl, rfl, tail 60 nx _ _ hin ex2 (by decide) (by decide) _ (part 60 (by decide) (by decide)).1 (part 60 (by decide) (by decide)).2⟩
    refine ⟨_, rfl, _, rfl, sz3, ?_⟩
    intro l hl
    refine ⟨_, rfl, _, _, rfl, rfl, ⟨by decide, by decide⟩, _, _, rfl, rfl, (by show (0 : Int) < _; decide), ?_⟩
    refine three _ _ _ _ _ _ l (Int.emod_nonneg _ (by decide)) (Int.emod_lt_of_pos _ (by decide)) ?_
    have ex1 : Ex H (upd H l (.lst [.int 4, .int 14, .int 9])) := Evl.Ex.new hl
    refine ⟨?_, ?_, ?_⟩
    · exact ⟨_, _, rfl, rfl, (by show (0 : Int) < _; decide), _, _, rfl, rfl, (by show (0 : Int) < _; decide), mid _ _ (Int.emod_nonneg _ (by decide)) (Int.emod_lt_of_pos _ (by decide)) ex1⟩
    · exact ⟨_, _, rfl, rfl, (by show (0 : Int) < _; decide), _, _, rfl, rfl, (by show (0 : Int) < _; decide), mid _ _ (Int.emod_nonneg _ (by decide)) (Int.emod_lt_of_pos _ (by decide)) ex1⟩
    · exact ⟨_, _, rfl, rfl, (by show (0 : Int) < _; decide), _, _, rfl, rfl, (by show (0 : Int) < _; decide), mid _ _ (Int.emod_nonneg _ (by decide)) (Int.emod_lt_of_pos _ (by decide)) ex1⟩
end
/-! ### all that a law calls -/
structure LawG (P : Program) (w : World) (K : PySem.W.Frag) (mg : Str → Option Value) (base : Heap) (C CN CW CD : Addr) : Prop where
  T : DkT K mg C CN CW CD
  made : ∃ fI fdI, Mk K C fI ∧ FnOk P w K mg base (L2.CX P w) 3 fI fdI pDInit (spInit K C CD) ∧ Binds K fdI pDInit []
  come : Gm P w K mg base (L2.CX P w) C 3 "come" pDCome (spCome K C CN CW)
  shown : Gm P w K mg base CX0 C 1 "shown" pDShown (spShown C)
  lost : Gm P w K mg base CX0 C 1 "lost" pDLost (spNum C fun _ g _ => g)
  weight : Gm P w K mg base CX0 C 1 "weight" pDWeight (spNum C fun _ _ t => t)
  drawers : Gm P w K mg base CX0 C 1 "drawers" pDDrawers (spNum C fun r _ _ => r)
  least : Gm P w K mg base (L2.CX P w) C 2 "least" pDLeast (spLeast K C CN fun _ => 0)
  most : Gm P w K mg base (L2.CX P w) C 3 "most" pDMost (spLeast K C CN fun g => g)
  mixed : Gf P w K mg base CX0 1 "_law_mixed" pLMixed spMixed
  names : Gf P w K mg base CX0 2 "_law_names" pLNames (spNames K)
  drawn : Gf P w K mg base CX0 2 "_law_drawers" pLDrawers (spDrawers K)
  coming : Gf P w K mg base CX0 2 "_law_coming" pLComing (spComing K)
/-- law's: a list of at most 63 ints is handed in, True comes out -/
def spLaw (K : PySem.W.Frag) : Sp := fun vs H Q _ => ∃ (a : Addr) (ns : List Int), vs = [.ref a] ∧ SqL K H a (ns.map V.int) ∧ ns.length ≤ 63 ∧ ∀ H', Q (.bl true) H'
/-! the same three readings under names that nothing looks into -/
@[irreducible] def wMeth := @L2.tMeth
@[irreducible] def wMake := @L2.tMake
@[irreducible] def wLc := @L2.tLc
theorem wMeth_eq : @wMeth = @L2.tMeth := by unfold wMeth; rfl
theorem wMake_eq : @wMake = @L2.tMake := by unfold wMake; rfl
theorem wLc_eq : @wLc = @L2.tLc := by unfold wLc; rfl
theorem ex_off {Hb H H' : Hp} {l : List Addr} (e : Ex Hb H) (o : Off l H H') (hl : ∀ b ∈ l, Hb b = none) : Ex Hb H' := fun b u hb => o b u (fun z => by rw [hl b z] at hb; cases hb) (e b u hb)
section
variable {K : PySem.W.Frag} {C CN CW CD : Addr} {σ : L2.St} {H : Hp} {Q : VK} {i j : Nat} {p d : Addr} {room gone total : Int} {c : CM}
/-! reading a method's call on a Desk that stands in a slot -/
theorem rd_shown (hσ : σ[i]? = some (some (.ref p))) (D : DeskAt C H p d room c gone total) (q : ∀ (H' : Hp) (r : Addr), H r = none → Ex H H' → H' r = some (.dK (kvc (sortC c))) → Q (.ref r) H') : wMeth C "shown" (spShown C) [] E0 (tVar i) tNil σ H Q := by
  rw [wMeth_eq]
  obtain ⟨dx, hp⟩ := D.ob
  exact ⟨_, hσ, p, dx, _, rfl, hp, dfl_no _ _ _ _ (by decide +kernel), p, d, room, c, gone, total, rfl, D, q⟩
theorem rd_num {m : Str} {g : Int → Int → Int → Int} (hm : (m == "room") = false ∧ (m == "counts") = false ∧ (m == "gone") = false ∧ (m == "total") = false) (hσ : σ[i]? = some (some (.ref p))) (D : DeskAt C H p d room c gone total) (q : Q (.int (g room gone total)) H) : wMeth C m (spNum C g) [] E0 (tVar i) tNil σ H Q := by
  rw [wMeth_eq]
  obtain ⟨dx, hp⟩ := D.ob
  exact ⟨_, hσ, p, dx, _, rfl, hp, dfl_no _ _ _ _ hm, p, d, room, c, gone, total, rfl, D.rd, q⟩
theorem rd_over {m : Str} {u : Int → Int} (hm : (m == "room") = false ∧ (m == "counts") = false ∧ (m == "gone") = false ∧ (m == "total") = false) (hσ : σ[i]? = some (some (.ref p))) (D : DeskAt C H p d room c gone total) (hn : ∀ n ∈ keysC c, isName n = true)
    (q : ∀ (H' : Hp) (r : Addr), H r = none → Ex H H' → H' r = some (.lst ((overS room c (u gone) total).map V.str)) → Q (.ref r) H') : wMeth C m (spOver C u) [] E0 (tVar i) tNil σ H Q := by
  rw [wMeth_eq]
  obtain ⟨dx, hp⟩ := D.ob
  exact ⟨_, hσ, p, dx, _, rfl, hp, dfl_no _ _ _ _ hm, p, d, room, c, gone, total, rfl, D, hn, q⟩
theorem rd_least {m : Str} {u : Int → Int} {n : Str} (hm : (m == "room") = false ∧ (m == "counts") = false ∧ (m == "gone") = false ∧ (m == "total") = false) (hσ : σ[i]? = some (some (.ref p))) (hj : σ[j]? = some (some (.str n))) (D : DeskAt C H p d room c gone total) (hn : isName n = true)
    (q : Q (.int (getD0 c n + u gone)) H) : wMeth C m (spLeast K C CN u) [] E0 (tVar i) (tCons (tVar j) tNil) σ H Q := by
  rw [wMeth_eq]
  obtain ⟨dx, hp⟩ := D.ob
  refine ⟨_, hσ, p, dx, _, rfl, hp, dfl_no _ _ _ _ hm, _, hj, p, d, room, c, gone, total, .str n, rfl, D.rd, thing_str n, fun z e => ?_, fun n' e _ => ?_, fun e => ?_⟩
  · cases e
    exact name_size hn
  · cases e
    exact q
  · rw [show isNameV (.str n) = true from hn] at e
    cases e
/-- a coming of a drawn name with a drawn weight -/
theorem rd_come {k : Nat} {n : Str} {wt : Int} (hσ : σ[i]? = some (some (.ref p))) (hj : σ[j]? = some (some (.str n))) (hk : σ[k]? = some (some (.int wt))) (D : DeskAt C H p d room c gone total) (hn : isName n = true) (hw : isWt wt = true)
    (q : ∀ (H' : Hp) (d' : Addr), (d' = d ∨ H d' = none) → Off [p, d] H H' → DeskAt C H' p d' room (come room c n wt).1 (gone + (come room c n wt).2) (total + wt) → Q .non H') : wMeth C "come" (spCome K C CN CW) [] E0 (tVar i) (tCons (tVar j) (tCons (tVar k) tNil)) σ H Q := by
  rw [wMeth_eq]
  obtain ⟨dx, hp⟩ := D.ob
  refine ⟨_, hσ, p, dx, _, rfl, hp, dfl_no _ _ _ _ (by decide +kernel), _, hj, _, hk, p, d, room, c, gone, total, .str n, .int wt, rfl, D, thing_str n, thing_int wt, fun z e => ?_, fun n' w' e1 e2 _ _ H' d' h1 h2 h3 => ?_, fun e => ?_, fun _ e => ?_⟩
  · cases e
    exact name_size hn
  · cases e1
    cases e2
    exact q H' d' h1 h2 h3
  · rw [show isNameV (.str n) = true from hn] at e
    cases e
  · rw [show isWtV (.int wt) = true from hw] at e
    cases e
/-- a new Desk -/
theorem rd_new {t : TA} {r : Int} (ht : ∀ Q : List V → Hp → Prop, Q [.int r] H → t σ H Q) (h1 : 1 ≤ r) (h2 : r ≤ 50)
    (q : ∀ (p d : Addr) (H' : Hp), H p = none → H d = none → p ≠ d → Ex H H' → DeskAt C H' p d r [] 0 0 → Q (.ref p) H') : wMake C (spInit K C CD) [] E0 t σ H Q := by
  rw [wMake_eq]
  refine ht _ fun p dx hp hdx hne => ⟨p, .int r, dx, rfl, upd_same, thing_int r, fun r' e hr d H' hd off D => ?_, fun e => ?_⟩
  · cases e
    have nd : d ≠ p := fun z => by rw [z, upd_same] at hd; cases hd
    have nx : d ≠ dx := fun z => by rw [z, upd_ne hne, upd_same] at hd; cases hd
    refine ⟨rfl, q p d H' hp ?_ nd.symm (fun b o e => off b o (fun z => ?_) ?_) D⟩
    · rw [upd_ne nd, upd_ne nx] at hd
      exact hd
    · rw [List.mem_singleton.mp z, hp] at e
      cases e
    · rw [upd_ne (ne_of_none e hp), upd_ne (ne_of_none e hdx)]
      exact e
  · rw [show isRoomV (.int r) = true from decide_eq_true ⟨h1, h2⟩] at e
    cases e
end
theorem come_keys {room w : Int} {c : CM} {n m : Str} (h : m ∈ keysC (come room c n w).1) : m ∈ keysC c ∨ m = n := by
  have put : ∀ (c' : CM) (v : Int), m ∈ keysC (putC c' n v) → m ∈ keysC c' ∨ m = n := by
    intro c' v h
    rw [keys_put] at h
    split at h
    · exact .inl h
    · rcases List.mem_append.mp h with h | h
      · exact .inl h
      · exact .inr (List.mem_singleton.mp h)
  unfold come at h
  split at h
  · dsimp only at h
    split at h
    · rcases put _ _ h with h | h
      · exact .inl ((lowered_keys c _).subset h)
      · exact .inr h
    · exact .inl ((lowered_keys c _).subset h)
  · exact put _ _ h
theorem nodup_sub : ∀ {l m : List Str}, l.Nodup → (∀ x ∈ l, x ∈ m) → l.length ≤ m.length
  | [], _, _, _ => Nat.zero_le _
  | a :: l, m, nd, h => by
    obtain ⟨n1, n2⟩ := List.nodup_cons.mp nd
    have ha := h a (List.mem_cons_self ..)
    have := nodup_sub (m := m.erase a) n2 fun x hx => (List.mem_erase_of_ne (fun z : x = a => n1 (z ▸ hx))).mpr (h x (List.mem_cons_of_mem _ hx))
    rw [List.length_erase_of_mem ha] at this
    have hm : 0 < m.length := List.length_pos_of_mem ha
    rw [List.length_cons]
    omega
/-! ### reading statement by statement: what a test or a value comes to, for whatever is wanted behind -/
theorem sq_if {c : TT} {t rest : TS} {D : Ends} {σ : L2.St} {H : Hp} (P : Hp → Prop) (h : ∀ Q : Bool → Hp → Prop, (∀ H', P H' → Q false H') → c σ H Q) (k : ∀ H', P H' → rest D σ H') : tSeq (tIfS c t tNext) rest D σ H := h _ fun H' p => iteF (k H' p)
theorem sq_ifT {c : TT} {t rest : TS} {D : Ends} {σ : L2.St} {H : Hp} (P : Hp → Prop) (h : ∀ Q : Bool → Hp → Prop, (∀ H', P H' → Q true H') → c σ H Q) (k : ∀ H', P H' → t { D with nx := rest D } σ H') : tSeq (tIfS c t tNext) rest D σ H := h _ fun H' p => iteT (k H' p)
theorem sq_set {te : TE} {i : Nat} {rest : TS} {D : Ends} {σ : L2.St} {H : Hp} (P : V → Hp → Prop) (h : ∀ Q : VK, (∀ v H', P v H' → Q v H') → te σ H Q) (k : ∀ v H', P v H' → rest D (σ.set i (some v)) H') : tSeq (tAsg te (gName i)) rest D σ H := h _ fun v H' p => k v H' p
theorem sq_any {st rest : TS} {D : Ends} {σ : L2.St} {H : Hp} (P : L2.St → Hp → Prop) (h : ∀ D' : Ends, (∀ σ' H', P σ' H' → D'.nx σ' H') → st D' σ H) (k : ∀ σ' H', P σ' H' → rest D σ' H') : tSeq st rest D σ H := h { D with nx := rest D } k
section
variable {K : PySem.W.Frag} {σ : L2.St} {H : Hp} {Q : VK}
/-- sorted([k for k in d if ..]): the names of a table, those that pass -/
theorem keys_reads {tt : TT} {d : Addr} {c : CM} {i v : Nat} (f : Str → Bool) (hi : ∀ σ' : L2.St, σ' = σ → σ'[i]? = some (some (.ref d))) (hd : H d = some (.dK (kvc c))) (hl : c.length ≤ 63) (hw : ∀ n : Str, wipe ((wipe σ [v]).set v (some (.str n))) [v] = wipe σ [v]) (hv : ∀ n : Str, ((wipe σ [v]).set v (some (.str n)))[v]? = some (some (.str n)))
    (hc : ∀ (n : Str) (o : Obj) (H' : Hp) (Qb : Bool → Hp → Prop), n ∈ keysC c → H' d = some (.frz o (.dK (kvc c))) → Qb (f n) H' → tt ((wipe σ [v]).set v (some (.str n))) H' Qb)
    (q : ∀ (H' : Hp) (r : Addr), H r = none → Ex H H' → H' r = some (.lst ((sortS ((keysC c).filter f)).map V.str)) → Q (.ref r) H') :
    tCB (rSortedS K) (tCons (tLockE (wLc (iKeys (tVar i)) (gName v) tt (tVar v) [v])) tNil) σ H Q := by
  rw [wLc_eq]
  refine ⟨d, .dK (kvc c), hd, trivial, fun od => ?_⟩
  refine ⟨_, hi _ rfl, d, od, rfl, .inl ⟨kvc c, upd_same, fun L hL => ?_⟩⟩
  have dL : d ≠ L := fun z => by rw [← z, upd_same] at hL; cases hL
  have hL0 : H L = none := by
    rw [upd_ne dL.symm] at hL
    exact hL
  refine DK.lc_it (n := c.length) (fun i H2 => H2 d = some (.frz od (.dK (kvc c))) ∧ (∀ b o, b ≠ d → H b = some o → H2 b = some o) ∧ H2 L = some (.lst ((((keysC c).take i).filter f).map V.str)))
    ⟨by rw [upd_ne dL]; exact upd_same, fun b o hb e => by rw [upd_ne (ne_of_none e hL0), upd_ne hb]; exact e, upd_same⟩ ?_ ?_ ?_ ?_
  · rintro i H2 hi ⟨h1, h2, h3⟩
    exact ⟨h1, by rw [len_kvc]; exact hi⟩
  · rintro H2 ⟨h1, h2, h3⟩
    exact ⟨h1, by rw [len_kvc]; exact Nat.le_refl _⟩
  · rintro i H2 hi ⟨h1, h2, h3⟩ x H3 ⟨rfl, k, y, hk, rfl⟩
    have ei : c[i]? = some c[i] := List.getElem?_eq_getElem hi
    have e0 : (kvc c)[i]? = some (Sum.inr c[i].1, V.int c[i].2) := by
      unfold kvc
      rw [List.getElem?_map, ei]
      rfl
    rw [e0] at hk
    cases hk
    have ek : (keysC c)[i]? = some c[i].1 := by
      unfold keysC
      rw [List.getElem?_map, ei]
      rfl
    have hil : i < (keysC c).length := (List.getElem?_eq_some_iff.mp ek).1
    have tk : (keysC c).take (i + 1) = (keysC c).take i ++ [c[i].1] := by
      rw [List.take_succ_eq_append_getElem hil]
      rw [(List.getElem?_eq_some_iff.mp ek).2]
    refine ⟨hw _, hc _ od H3 _ (List.mem_of_getElem? ek) h1 ?_⟩
    refine ite2 (fun h => ?_) (fun h => ?_)
    · refine ⟨_, hv _, _, h3, small ?_, by rw [upd_ne dL]; exact h1, fun b o hb e => by rw [upd_ne (ne_of_none e hL0)]; exact h2 b o hb e, ?_⟩
      · rw [List.length_map]
        have a1 := List.length_filter_le f ((keysC c).take i)
        have a2 : ((keysC c).take i).length ≤ i := by rw [List.length_take]; omega
        omega
      · rw [upd_same, tk, List.filter_append, List.map_append, List.filter_cons_of_pos h]
        rfl
    · refine ⟨h1, h2, ?_⟩
      rw [h3, tk, List.filter_append, List.map_append, List.filter_cons_of_neg h]
      simp
  · rintro H2 ⟨h1, h2, h3⟩
    refine ⟨h1, L, (keysC c).filter f, rfl, SqL.of ?_, ?_, fun ys l pm so hl' => ?_⟩
    · rw [upd_ne dL.symm, h3, List.take_of_length_le (by unfold keysC; rw [List.length_map]; exact Nat.le_refl _)]
    · have a1 := List.length_filter_le f (keysC c)
      have a2 : (keysC c).length = c.length := by unfold keysC; rw [List.length_map]
      omega
    · have ex1 : Ex H (upd H2 d (.dK (kvc c))) := fun b o e => by
        by_cases hb : b = d
        · rw [hb, upd_same]
          rw [hb, hd] at e
          exact e
        · rw [upd_ne hb]
          exact h2 b o hb e
      refine q _ l (none_ex ex1 hl') (fun b o e => by rw [upd_ne (ne_of_none (ex1 b o e) hl')]; exact ex1 b o e) ?_
      rw [upd_same, sortS_eq pm (sortedS_pw so)]
/-- [x for x in l if ..] of texts of which none passes -/
theorem none_reads {te : TE} {tt : TT} {v : Nat} {xs : List Str} (hte : ∀ R : VK, (∀ (a : Addr) (H1 : Hp), Ex H H1 → H1 a = some (.lst (xs.map V.str)) → R (.ref a) H1) → te σ H R) (hw : ∀ n : Str, wipe ((wipe σ [v]).set v (some (.str n))) [v] = wipe σ [v])
    (hc : ∀ (n : Str) (H' : Hp) (Qb : Bool → Hp → Prop), n ∈ xs → Ex H H' → (∀ H'' : Hp, Ex H' H'' → Qb false H'') → tt ((wipe σ [v]).set v (some (.str n))) H' Qb)
    (q : ∀ (H' : Hp) (r : Addr), Ex H H' → H' r = some (.lst []) → Q (.ref r) H') :
    wLc (iList K te) (gName v) tt (tVar v) [v] σ H Q := by
  rw [wLc_eq]
  refine hte _ fun a H1 ex1 e1 => ?_
  refine ⟨a, rfl, ⟨_, SqL.of e1⟩, fun L hL => ?_⟩
  have aL := ne_of_none e1 hL
  refine lc_list (K := K) (a := a) (xs := xs.map V.str) (fun _ H2 => Ex H1 H2 ∧ H2 L = some (.lst [])) ⟨Evl.Ex.new hL, upd_same⟩ (fun i H2 _ h => SqL.of (h.1 _ _ e1)) ?_ ?_
  · rintro i x H2 hi ⟨h1, h2⟩
    obtain ⟨n, hn, rfl⟩ := List.mem_map.mp (List.mem_of_getElem? hi)
    exact ⟨hw n, hc n H2 _ hn (ex1.trans h1) fun H3 h3 => iteF ⟨h1.trans h3, h3 _ _ h2⟩⟩
  · rintro H2 ⟨h1, h2⟩
    exact q H2 L (ex1.trans h1) h2
end
theorem sum_permI {l m : List Int} (p : l.Perm m) : l.sum = m.sum := by
  induction p with
  | nil => rfl
  | cons x _ ih => rw [List.sum_cons, List.sum_cons, ih]
  | swap x y l =>
    simp only [List.sum_cons]
    omega
  | trans _ _ h1 h2 => exact h1.trans h2
theorem sum_perm {c c' : CM} (p : c'.Perm c) : sumC c' = sumC c := sum_permI (p.map _)
theorem iteD {c A B : Prop} [Decidable c] (hc : c) (h : A) : if decide c = true then A else B := by
  rw [if_pos (decide_eq_true hc)]
  exact h
section
variable {K : PySem.W.Frag} {C CN CW CD : Addr} {σ : L2.St} {H : Hp} {Q : VK}
/-- a number of a Desk that an expression gives -/
theorem rd_numA {ta : TE} {m : Str} {g : Int → Int → Int → Int} {room gone total : Int} {c : CM} (hm : (m == "room") = false ∧ (m == "counts") = false ∧ (m == "gone") = false ∧ (m == "total") = false)
    (ht : ∀ R : VK, (∀ (p d : Addr) (H' : Hp), Ex H H' → DeskAt C H' p d room c gone total → R (.ref p) H') → ta σ H R) (q : ∀ H' : Hp, Ex H H' → Q (.int (g room gone total)) H') : wMeth C m (spNum C g) [] E0 ta tNil σ H Q := by
  rw [wMeth_eq]
  refine ht _ fun p d H' e D => ?_
  obtain ⟨dx, hp⟩ := D.ob
  exact ⟨p, dx, _, rfl, hp, dfl_no _ _ _ _ hm, p, d, room, c, gone, total, rfl, D.rd, q H' e⟩
/-- a coming, the arguments as they are written -/
theorem rd_comeA {i : Nat} {p d : Addr} {room gone total : Int} {c : CM} {ta : TA} {n : Str} {wt : Int} (hσ : σ[i]? = some (some (.ref p))) (ht : ∀ R : List V → Hp → Prop, R [.str n, .int wt] H → ta σ H R) (D : DeskAt C H p d room c gone total) (hn : isName n = true) (hw : isWt wt = true)
    (q : ∀ (H' : Hp) (d' : Addr), (d' = d ∨ H d' = none) → Off [p, d] H H' → DeskAt C H' p d' room (come room c n wt).1 (gone + (come room c n wt).2) (total + wt) → Q .non H') : wMeth C "come" (spCome K C CN CW) [] E0 (tVar i) ta σ H Q := by
  rw [wMeth_eq]
  obtain ⟨dx, hp⟩ := D.ob
  refine ⟨_, hσ, p, dx, _, rfl, hp, dfl_no _ _ _ _ (by decide +kernel), ht _ ⟨p, d, room, c, gone, total, .str n, .int wt, rfl, D, thing_str n, thing_int wt, fun z e => ?_, fun n' w' e1 e2 _ _ H' d' h1 h2 h3 => ?_, fun e => ?_, fun _ e => ?_⟩⟩
  · cases e
    exact name_size hn
  · cases e1
    cases e2
    exact q H' d' h1 h2 h3
  · rw [show isNameV (.str n) = true from hn] at e
    cases e
  · rw [show isWtV (.int wt) = true from hw] at e
    cases e
end
section
variable {K : PySem.W.Frag} {C CN CW CD : Addr} {σ : L2.St} {H : Hp} {Q : VK}
/-- a coming to a Desk that an expression gives -/
theorem rd_comeI {p d : Addr} {room gone total : Int} {c : CM} {to : TE} {ta : TA} {n : Str} {wt : Int} (ho : ∀ R : VK, R (.ref p) H → to σ H R) (ht : ∀ R : List V → Hp → Prop, R [.str n, .int wt] H → ta σ H R) (D : DeskAt C H p d room c gone total) (hn : isName n = true) (hw : isWt wt = true)
    (q : ∀ (H' : Hp) (d' : Addr), (d' = d ∨ H d' = none) → Off [p, d] H H' → DeskAt C H' p d' room (come room c n wt).1 (gone + (come room c n wt).2) (total + wt) → Q .non H') : wMeth C "come" (spCome K C CN CW) [] E0 to ta σ H Q := by
  have h := rd_comeA (K := K) (CN := CN) (CW := CW) (σ := [some (.ref p)]) (i := 0) (ta := fun _ H' R => H' = H ∧ R [.str n, .int wt] H') rfl (fun R hR => ⟨rfl, hR⟩) D hn hw q
  rw [wMeth_eq] at h ⊢
  obtain ⟨v, hv, a, dx, fs, e1, e2, e3, _, h2⟩ := h
  cases hv
  cases e1
  exact ho _ ⟨p, dx, fs, rfl, e2, e3, ht _ h2⟩
end
/-! ### lists of texts and of pairs, compared -/
theorem strOk_name {n : Str} (h : isName n = true) : PyData.canLay0 (.str n) = true := by
  have h2 := ((isName_iff n).mp h).2.2
  simp only [PyData.canLay0, PyData.strOk]
  rw [Array.all_eq_true']
  intro x hx
  have := h2 x (Array.mem_def.mp hx)
  exact decide_eq_true (by omega)
def strsD (l : List Str) : PyData := .list (l.map .str)
def prD2 (e : Str × Int) : PyData := .tuple [.str e.1, .int e.2]
def prsD (c : CM) : PyData := .list (c.map prD2)
section
variable {K : PySem.W.Frag} {H : Hp}
theorem dpAll_strs (l : List Str) : DpAll K H (l.map V.str) (l.map .str) := by
  induction l with
  | nil => exact .nil
  | cons n l ih => exact .cons (.str n) ih
theorem dp_strs {a : Addr} {l : List Str} (h : H a = some (.lst (l.map V.str))) : Dp K H (.ref a) (strsD l) := .lst (SqL.of h) (dpAll_strs l)
theorem shaped_strs {l : List Str} (h : ∀ n ∈ l, isName n = true) : SeqAt.shaped (strsD l) = true := by
  have h1 : PyData.canLayAll0 (l.map .str) = true := by
    induction l with
    | nil => simp [PyData.canLayAll0]
    | cons n l ih =>
      simp only [List.map_cons, PyData.canLayAll0, strOk_name (h n (List.mem_cons_self ..)), ih fun x hx => h x (List.mem_cons_of_mem _ hx), Bool.and_self]
  have h2 : PyData.depthAll (l.map .str) ≤ 0 := by
    clear h h1
    induction l with
    | nil => simp [PyData.depthAll]
    | cons n l ih =>
      simp only [List.map_cons, PyData.depthAll, PyData.depth]
      omega
  have h3 : PyData.depth (strsD l) ≤ 64 := by
    unfold strsD
    simp only [PyData.depth]
    omega
  show (PyData.canLay0 (strsD l) && decide (PyData.depth (strsD l) ≤ 64)) = true
  rw [Bool.and_eq_true]
  exact ⟨by unfold strsD; simp only [PyData.canLay0]; exact h1, decide_eq_true h3⟩
theorem dpAll_prs {ts : List Addr} {c : CM} (h : PrsAt H ts c) : DpAll K H (ts.map V.ref) (c.map prD2) := by
  unfold PrsAt at h
  induction h with
  | nil => exact .nil
  | cons r _ ih => exact .cons (.tup (SqT.of r) (.cons (.str _) (.cons (.int _) .nil))) ih
theorem dp_prs {a : Addr} {ts : List Addr} {c : CM} (h : H a = some (.lst (ts.map V.ref))) (hp : PrsAt H ts c) : Dp K H (.ref a) (prsD c) := .lst (SqL.of h) (dpAll_prs hp)
theorem shaped_prs {c : CM} (h : ∀ n ∈ keysC c, isName n = true) : SeqAt.shaped (prsD c) = true := by
  have h1 : PyData.canLayAll0 (c.map prD2) = true := by
    induction c with
    | nil => simp [PyData.canLayAll0]
    | cons e c ih =>
      have he := strOk_name (h e.1 (List.mem_cons_self ..))
      have ih := ih fun x hx => h x (List.mem_cons_of_mem _ hx)
      simp only [List.map_cons, PyData.canLayAll0, prD2, PyData.canLay0, ih] at he ⊢
      simp [he]
  have h2 : PyData.depthAll (c.map prD2) ≤ 1 := by
    clear h h1
    induction c with
    | nil => simp [PyData.depthAll]
    | cons e c ih =>
      simp only [List.map_cons, PyData.depthAll, PyData.depth, prD2]
      omega
  have h3 : PyData.depth (prsD c) ≤ 64 := by
    unfold prsD
    simp only [PyData.depth]
    omega
  show (PyData.canLay0 (prsD c) && decide (PyData.depth (prsD c) ≤ 64)) = true
  rw [Bool.and_eq_true]
  exact ⟨by unfold prsD; simp only [PyData.canLay0]; exact h1, decide_eq_true h3⟩
theorem eqv_shaped {d : PyData} (h : SeqAt.shaped d = true) : PyData.eqv d d = true := SeqAt.eqv_refl d (Bool.and_eq_true_iff.mp h).1
end
theorem prs_of {H : Hp} {ts : List Addr} {c : CM} (h : Paired (fun (t : Addr) (q : Key × V) => H t = some (.tup [kV q.1, q.2])) ts (kvc c)) : PrsAt H ts c := by
  unfold kvc at h
  unfold PrsAt
  induction c generalizing ts with
  | nil => cases h; exact .nil
  | cons e c ih =>
    cases h with
    | cons r t => exact .cons r (ih t)
theorem prs_ex {H H' : Hp} {ts : List Addr} {c : CM} (h : PrsAt H ts c) (e : Ex H H') : PrsAt H' ts c := by
  unfold PrsAt at h ⊢
  induction h with
  | nil => exact .nil
  | cons r _ ih => exact .cons (e _ _ r) ih
/-! ### a Desk of given counts -/
section
variable {P : Program} {w : World} {K : PySem.W.Frag} {mg : Str → Option Value} {base : Heap} {C CN CW CD CQ : Addr}
def spDeskOf (C : Addr) : Sp := fun vs H Q _ => ∃ (r : Int) (d : Addr) (c : CM) (g t : Int), vs = [.int r, .ref d, .int g, .int t] ∧ 1 ≤ r ∧ r ≤ 50 ∧ H d = some (.dK (kvc c)) ∧ (keysC c).Nodup ∧ c.length ≤ 1000 ∧
  ∀ (H' : Hp) (p d' : Addr), Ex H H' → H p = none → H d' = none → DeskAt C H' p d' r (lowered c (cutAt r c)) (g + cutAt r c) t → Q (.ref p) H'
theorem ok_deskOf {f fI : Addr} {fd fdI : FuncData} (F : Fun K "desk_of" "desk_of" sDeskOf f fd) (T : DkT K mg C CN CW CD) (MI : Mk K C fI) (GI : FnOk P w K mg base (L2.CX P w) 3 fI fdI pDInit (spInit K C CD)) (bI : Binds K fdI pDInit [])
    (GL : Gf P w K mg base CX0 1 "lowered" pLowered spLowered) : FnOk P w K mg base CX0 5 f fd pDeskOf (spDeskOf C) := by
  obtain ⟨fL, fdL, gL, bL, mL, kL⟩ := GL.ex
  refine F.ok cDeskOf (fun vs H Q E h => ?_) (fun cdv A outer s H vs Q E hr h => ?_)
  · obtain ⟨r, d, c, g, t, rfl, _⟩ := h
    rfl
  · obtain ⟨r, d, c, g, t, rfl, r1, r2, hd, nd, hl, q⟩ := h
    refine ⟨_, pss_cons (ps_set (i := 4) cDeskOf.nd rfl (Or.inl rfl) (pe_make MI GI hr rfl T.mgC bI .nil passL (pa_cons (pv 0) pa_nil)))
      (pss_cons (ps_set (i := 5) cDeskOf.nd rfl (Or.inl rfl) (pe_callBK (cr_sortedVR rfl) (by rfl) T.srt (by decide +kernel) (pa_cons (pe_bm0 PySem.F.plainAttrs_dict PySem.F.slot_dict_values PySem.F.type_dict_values mt_vals (pv 1)) pa_nil) (pk_cons pe_bl pk_nil)))
      (pss_cons (ps_set (i := 6) cDeskOf.nd rfl (Or.inl rfl) pe_int)
      (pss_cons (ps_if (pt_cmpR op_gt (pe_callB call_len_seq (by rfl) T.len PySem.boot_len (pa_cons (pv 5) pa_nil)) (pv 0) (nomark _)) (pss_one (ps_set (i := 6) cDeskOf.nd rfl (Or.inl rfl) (pe_ix ix_list (pv 5) (pv 0) (fun _ _ => rfl)))) pss_nil)
      (pss_cons (ps_fld (pv 4) (pe_call gL (hr.mono (by decide)) rfl mL kL bL .nil pass0 (pa_cons (pv 1) (pa_cons (pv 6) pa_nil))) rfl)
      (pss_cons (ps_fld (pv 4) (pe_op op_add (pv 2) (pv 6)) rfl)
      (pss_cons (ps_fld (pv 4) (pv 3) rfl)
      (pss_one (ps_ret (pv 4))))))))), ?_⟩
    rw [← wMake_eq]
    refine sq_any (fun σ' H' => ∃ (p d0 : Addr), σ' = [some (.int r), some (.ref d), some (.int g), some (.int t), some (.ref p), none, none] ∧ H p = none ∧ Ex H H' ∧ DeskAt C H' p d0 r [] 0 0)
      (fun D' hD => rd_new (fun Q' h' => ⟨_, rfl, h'⟩) r1 r2 fun p d0 H1 np nd0 _ ex1 D0 => hD _ _ ⟨p, d0, rfl, np, ex1, D0⟩) ?_
    rintro σ' H1 ⟨p, d0, rfl, np, ex1, D0⟩
    refine sq_any (fun σ' H' => ∃ l : Addr, σ' = [some (.int r), some (.ref d), some (.int g), some (.int t), some (.ref p), some (.ref l), none] ∧ Ex H1 H' ∧ H' l = some (.lst ((falls (valsC c)).map V.int))) (fun D' hD => ?_) ?_
    · have hd1 := ex1 _ _ hd
      refine ⟨_, rfl, (.inr (.inr (.inl ⟨rfl, .inl ⟨_, hd1⟩⟩))), d, kvc c, rfl, rfl, hd1, fun v hv => ⟨rfl, v, d, kvc c, valsC c, rfl, upd_same, by rw [upd_ne (ne_of_none hd1 hv)]; exact hd1, snd_kvc c, fun ns' l pm so hl' => ?_⟩⟩
      rw [falls_eq pm so]
      exact hD _ _ ⟨l, rfl, (Evl.Ex.new hv).trans (Evl.Ex.new hl'), upd_same⟩
    rintro σ' H2 ⟨l, rfl, ex2, el⟩
    refine sq_any (fun σ' H' => σ' = [some (.int r), some (.ref d), some (.int g), some (.int t), some (.ref p), some (.ref l), some (.int 0)] ∧ H2 = H') (fun D' hD => hD _ _ ⟨rfl, rfl⟩) ?_
    rintro σ' _ ⟨rfl, rfl⟩
    refine sq_any (fun σ' H' => σ' = [some (.int r), some (.ref d), some (.int g), some (.int t), some (.ref p), some (.ref l), some (.int (cutAt r c))] ∧ H2 = H') (fun D' hD => ?_) ?_
    · refine ⟨_, rfl, l, _, rfl, .inl (SqL.of el), _, rfl, _, _, rfl, rfl, _, rfl, ?_⟩
      rw [List.length_map, falls_len]
      refine ite2 (fun h => ?_) (fun h => ?_)
      · have h := of_decide_eq_true h
        obtain ⟨k, hk⟩ : ∃ k : Nat, r = (k : Int) := ⟨r.toNat, by omega⟩
        have hc := cut_at (by omega) h
        refine ⟨_, rfl, _, rfl, l, _, r, .int (cutAt r c), rfl, rfl, SqL.of el, ?_, hD _ _ ⟨rfl, rfl⟩⟩
        rw [hk] at hc ⊢
        refine atI_nat ?_
        rw [List.getElem?_map]
        simp only [Int.toNat_natCast] at hc
        rw [hc]
        rfl
      · have h : ¬ r < (c.length : Int) := fun z => h (decide_eq_true z)
        rw [cut_few h] at hD
        exact hD _ _ ⟨rfl, rfl⟩
    rintro σ' _ ⟨rfl, rfl⟩
    obtain ⟨dx, hp⟩ := (D0.ex ex2).ob
    have exH2 : Ex H H2 := ex1.trans ex2
    refine sq_any (fun σ' H' => ∃ d' : Addr, σ' = [some (.int r), some (.ref d), some (.int g), some (.int t), some (.ref p), some (.ref l), some (.int (cutAt r c))] ∧ H d' = none ∧ Ex H H' ∧ H' p = some (.ins C dx (dfl r d' 0 0)) ∧ H' d' = some (.dK (kvc (lowered c (cutAt r c))))) (fun D' hD => ?_) ?_
    · refine ⟨_, rfl, _, rfl, d, c, _, rfl, exH2 _ _ hd, nd, hl, fun H3 d' hd' ex3 ed' => ?_⟩
      have hp3 := ex3 _ _ hp
      have npd : p ≠ d' := ne_of hp3 ed' (fun z => nomatch z)
      refine ⟨_, rfl, p, C, dx, _, rfl, hp3, T.cl, T.nC, (by show 4 < 1000; decide), ?_⟩
      rw [dfl_put_counts]
      refine hD _ _ ⟨d', rfl, none_ex exH2 hd', fun b o e => ?_, upd_same, by rw [upd_ne npd.symm]; exact ed'⟩
      rw [upd_ne (ne_of_none e np)]
      exact ex3 _ _ (exH2 _ _ e)
    rintro σ' H3 ⟨d', rfl, nd', ex3, hp3, hd3⟩
    have npd : p ≠ d' := ne_of hp3 hd3 (fun z => nomatch z)
    refine sq_any (fun σ' H' => σ' = [some (.int r), some (.ref d), some (.int g), some (.int t), some (.ref p), some (.ref l), some (.int (cutAt r c))] ∧ Ex H H' ∧ H' p = some (.ins C dx (dfl r d' (g + cutAt r c) 0)) ∧ H' d' = some (.dK (kvc (lowered c (cutAt r c))))) (fun D' hD => ?_) ?_
    · refine ⟨_, rfl, _, rfl, _, _, rfl, rfl, _, rfl, p, C, dx, _, rfl, hp3, T.cl, T.nG, (by show 4 < 1000; decide), ?_⟩
      rw [dfl_put_gone]
      refine hD _ _ ⟨rfl, fun b o e => ?_, upd_same, by rw [upd_ne npd.symm]; exact hd3⟩
      rw [upd_ne (ne_of_none e np)]
      exact ex3 _ _ e
    rintro σ' H4 ⟨rfl, ex4, hp4, hd4⟩
    refine sq_any (fun σ' H' => σ' = [some (.int r), some (.ref d), some (.int g), some (.int t), some (.ref p), some (.ref l), some (.int (cutAt r c))] ∧ Ex H H' ∧ H' p = some (.ins C dx (dfl r d' (g + cutAt r c) t)) ∧ H' d' = some (.dK (kvc (lowered c (cutAt r c))))) (fun D' hD => ?_) ?_
    · refine ⟨_, rfl, _, rfl, p, C, dx, _, rfl, hp4, T.cl, T.nT, (by show 4 < 1000; decide), ?_⟩
      rw [dfl_put_total]
      refine hD _ _ ⟨rfl, fun b o e => ?_, upd_same, by rw [upd_ne npd.symm]; exact hd4⟩
      rw [upd_ne (ne_of_none e np)]
      exact ex4 _ _ e
    rintro σ' H5 ⟨rfl, ex5, hp5, hd5⟩
    exact ⟨_, rfl, q H5 p d' ex5 np nd' ⟨⟨dx, hp5⟩, hd5, lowered_nodup nd, cut_len (by omega), r1, r2⟩⟩
end
/-! ### two Desks poured -/
section
variable {P : Program} {w : World} {K : PySem.W.Frag} {mg : Str → Option Value} {base : Heap} {C CN CW CD CQ : Addr}
def spPoured (C CQ : Addr) : Sp := fun vs H Q E => ∃ (p d : Addr) (r : Int) (c : CM) (g t : Int) (p2 d2 : Addr) (r2 : Int) (c2 : CM) (g2 t2 : Int), vs = [.ref p, .ref p2] ∧ DeskAt C H p d r c g t ∧ DeskAt C H p2 d2 r2 c2 g2 t2 ∧
  (r = r2 → ∀ (H' : Hp) (p' d' : Addr), Ex H H' → H p' = none → H d' = none → DeskAt C H' p' d' r (lowered (addC (sortC c) (sortC c2)) (cutAt r (addC (sortC c) (sortC c2)))) (g + g2 + cutAt r (addC (sortC c) (sortC c2))) (t + t2) → Q (.ref p') H') ∧
  (r ≠ r2 → E (.ref CQ) none H)
theorem add_snoc (a b : CM) (e : Str × Int) : addC a (b ++ [e]) = putC (addC a b) e.1 (getD0 (addC a b) e.1 + e.2) := by
  unfold addC
  rw [List.foldl_append]
  rfl
theorem ok_poured {f : Addr} {fd : FuncData} (F : Fun K "poured" "poured" sPoured f fd) (T : DkT K mg C CN CW CD) (eQ : ExT K mg "NoMatch" CQ)
    (GO : Gf P w K mg base CX0 5 "desk_of" pDeskOf (spDeskOf C)) (GS : Gm P w K mg base CX0 C 1 "shown" pDShown (spShown C)) (GL : Gm P w K mg base CX0 C 1 "lost" pDLost (spNum C fun _ g _ => g))
    (GW : Gm P w K mg base CX0 C 1 "weight" pDWeight (spNum C fun _ _ t => t)) (GR : Gm P w K mg base CX0 C 1 "drawers" pDDrawers (spNum C fun r _ _ => r)) : FnOk P w K mg base (L2.CX P w) 6 f fd pPoured (spPoured C CQ) := by
  obtain ⟨fO, fdO, gO, bO, mO, kO⟩ := GO.ex
  obtain ⟨f2, fd2, gSh, bSh, mSh⟩ := GS.ex
  obtain ⟨f3, fd3, gLo, bLo, mLo⟩ := GL.ex
  obtain ⟨f4, fd4, gWe, bWe, mWe⟩ := GW.ex
  obtain ⟨f5, fd5, gDr, bDr, mDr⟩ := GR.ex
  refine F.okX cPoured (fun vs H Q E h => ?_) (fun cdv A outer s H vs Q E hr h => ?_)
  · obtain ⟨p, d, r, c, g, t, p2, d2, r2, c2, g2, t2, rfl, _⟩ := h
    rfl
  · obtain ⟨p, d, r, c, g, t, p2, d2, r2, c2, g2, t2, rfl, D, D2, q1, q2⟩ := h
    have hu := hu_of hr
    refine ⟨_, pss_cons (ps_if (pt_cmpR op_ne (pe_meth0 (pv 0) T.cl mDr gDr (hr.mono (by decide)) bDr .nil pass0) (pe_meth0 (pv 1) T.cl mDr gDr (hr.mono (by decide)) bDr .nil pass0) (nomark _)) (pss_one (ps_raise rfl (takes_of rfl rfl rfl rfl) (pmk_own PySem.F.excBase_ValueError eQ.x eQ.g eQ.k (raises_own eQ.b eQ.t) (by rfl)))) pss_nil)
      (pss_cons (ps_set (i := 2) cPoured.nd rfl (Or.inl rfl) (pe_meth0 (pv 0) T.cl mSh gSh (hr.mono (by decide)) bSh .nil pass0))
      (pss_cons (ps_for (passes_of rfl) rfl (pi_items (pe_frz (pe_meth0 (pv 1) T.cl mSh gSh (hr.mono (by decide)) bSh .nil pass0))) (pg_tup rfl (pgs_cons (pg_name (i := 3) cPoured.nd rfl (Or.inl rfl)) (pgs_cons (pg_name (i := 4) cPoured.nd rfl (Or.inl rfl)) pgs_nil)))
        (pss_one (ps_dput hu (pv 2) (pv 3) (pe_op op_add (pe_dget2 hu (pv 2) (pv 3) pe_int ⟨rfl, rfl, rfl, rfl⟩) (pv 4)) rfl)))
      (pss_one (ps_ret (pe_call gO (hr.mono (by decide)) rfl mO kO bO .nil pass0 (pa_cons (pe_meth0 (pv 0) T.cl mDr gDr (hr.mono (by decide)) bDr .nil pass0) (pa_cons (pv 2) (pa_cons (pe_op op_add (pe_meth0 (pv 0) T.cl mLo gLo (hr.mono (by decide)) bLo .nil pass0) (pe_meth0 (pv 1) T.cl mLo gLo (hr.mono (by decide)) bLo .nil pass0))
        (pa_cons (pe_op op_add (pe_meth0 (pv 0) T.cl mWe gWe (hr.mono (by decide)) bWe .nil pass0) (pe_meth0 (pv 1) T.cl mWe gWe (hr.mono (by decide)) bWe .nil pass0)) pa_nil))))))))), ?_⟩
    rw [← wMeth_eq]
    by_cases hrr : r = r2
    · refine sq_if (fun H' => H = H') (fun Q' hQ => ?_) ?_
      · refine rd_num (by decide +kernel) rfl D ?_
        refine rd_num (by decide +kernel) rfl D2 ?_
        refine ⟨rfl, _, rfl, ?_⟩
        have e : decide (V.int r = V.int r2) = true := decide_eq_true (congrArg V.int hrr)
        rw [e]
        exact hQ _ rfl
      rintro _ rfl
      refine sq_any (fun σ' H' => ∃ y : Addr, σ' = [some (.ref p), some (.ref p2), some (.ref y), none, none] ∧ H y = none ∧ Ex H H' ∧ H' y = some (.dK (kvc (sortC c)))) (fun D' hD => rd_shown rfl D fun H1 y hy ex ey => hD _ _ ⟨y, rfl, hy, ex, ey⟩) ?_
      rintro σ' H1 ⟨y, rfl, ny, ex1, ey⟩
      have l1 : (sortC c).length ≤ 50 := by
        rw [sortC_len]
        exact D.len
      have l2 : (sortC c2).length ≤ 50 := by
        rw [sortC_len]
        exact D2.len
      refine sq_any (fun σ' H' => ∃ v3 v4 : Option V, σ' = [some (.ref p), some (.ref p2), some (.ref y), v3, v4] ∧ Ex H H' ∧ H' y = some (.dK (kvc (addC (sortC c) (sortC c2))))) (fun D' hD => ?_) ?_
      · refine rd_shown rfl (D2.ex ex1) fun H2 x hx ex2 ex' => ?_
        have yx : y ≠ x := ne_of_none ey hx
        have ey2 := ex2 _ _ ey
        have x0 : H x = none := none_ex ex1 hx
        refine ⟨x, _, rfl, ex', trivial, fun od => ⟨x, od, kvc (sortC c2), rfl, upd_same, ?_⟩⟩
        refine for_it (n := (sortC c2).length) (fun i σ H3 => ∃ v3 v4 : Option V, σ = [some (.ref p), some (.ref p2), some (.ref y), v3, v4] ∧ Ex H H3 ∧ H3 x = some (.frz od (.dK (kvc (sortC c2)))) ∧ H3 y = some (.dK (kvc (addC (sortC c) ((sortC c2).take i)))))
          ⟨none, none, rfl, fun b o e => by rw [upd_ne (ne_of_none e x0)]; exact ex2 _ _ (ex1 _ _ e), upd_same, by rw [upd_ne yx]; exact ey2⟩ ?_ ?_ ?_ ?_
        · rintro i σ H3 hi ⟨v3, v4, rfl, h1, h2, h3⟩
          exact ⟨h2, by rw [len_kvc]; exact hi⟩
        · rintro σ H3 ⟨v3, v4, rfl, h1, h2, h3⟩
          exact ⟨h2, by rw [len_kvc]; exact Nat.le_refl _⟩
        · rintro i σ H3 hi ⟨v3, v4, rfl, h1, h2, h3⟩ z H4 ⟨T1, k, v, hk, rfl, hT, rfl⟩
          have e0 : (kvc (sortC c2))[i]? = some (Sum.inr (sortC c2)[i].1, V.int (sortC c2)[i].2) := by
            unfold kvc
            rw [List.getElem?_map, List.getElem?_eq_getElem hi]
            rfl
          rw [e0] at hk
          cases hk
          have yT : y ≠ T1 := ne_of_none h3 hT
          have xT : x ≠ T1 := ne_of_none h2 hT
          have ey4 : (upd H3 T1 (.tup [.str (sortC c2)[i].1, .int (sortC c2)[i].2])) y = some (.dK (kvc (addC (sortC c) ((sortC c2).take i)))) := by rw [upd_ne yT]; exact h3
          refine ⟨T1, _, rfl, SqT.of upd_same, rfl, _, _, rfl, _, _, rfl, rfl, ?_⟩
          refine ⟨_, rfl, y, rfl, IsD.of (.inl ey4), _, rfl, _, DGet.of (.inl ey4) _, ?_⟩
          rw [getD_map]
          have la := add_len ((sortC c2).take i) (sortC c)
          rw [List.length_take] at la
          refine ⟨_, rfl, _, _, rfl, rfl, _, rfl, _, rfl, y, _, rfl, DPut.of ey4 _ _ (small (by omega)), _, _, rfl, fun b o e => ?_, ?_, ?_⟩
          · rw [upd_ne (ne_of_none e ny), upd_ne (ne_of_none (h1 _ _ e) hT)]
            exact h1 _ _ e
          · rw [upd_ne yx.symm, upd_ne xT]
            exact h2
          · rw [upd_same, List.take_succ_eq_append_getElem hi, add_snoc]
            rfl
        · rintro σ H3 ⟨v3, v4, rfl, h1, h2, h3⟩
          rw [List.take_of_length_le (Nat.le_refl _)] at h3
          exact hD _ _ ⟨v3, v4, rfl, h1, h3⟩
      rintro σ' H3 ⟨v3, v4, rfl, ex3, ey3⟩
      have D3 := D.ex ex3
      have D23 := D2.ex ex3
      refine rd_num (by decide +kernel) rfl D3 ?_
      refine ⟨_, rfl, ?_⟩
      refine rd_num (by decide +kernel) rfl D3 ?_
      refine rd_num (by decide +kernel) rfl D23 ?_
      refine ⟨_, _, rfl, rfl, ?_⟩
      refine rd_num (by decide +kernel) rfl D3 ?_
      refine rd_num (by decide +kernel) rfl D23 ?_
      have la := add_len (sortC c2) (sortC c)
      exact ⟨_, _, rfl, rfl, r, y, addC (sortC c) (sortC c2), g + g2, t + t2, rfl, D.r1, D.r2, ey3, add_nodup _ (sortC_nodup D.nd), by omega, fun H4 p' d' ex4 hp' hd' D4 => q1 hrr H4 p' d' (ex3.trans ex4) (none_ex ex3 hp') (none_ex ex3 hd') D4⟩
    · refine rd_num (by decide +kernel) rfl D ?_
      refine rd_num (by decide +kernel) rfl D2 ?_
      refine ⟨rfl, _, rfl, ?_⟩
      have e : decide (V.int r = V.int r2) = false := decide_eq_false fun z => hrr (V.int.inj z)
      rw [e]
      exact iteT (q2 hrr)
end
theorem pe_gref {X : Cx} {x : Str} {D : Addr} {pos : Pos} (hm : X.mg x = some (.ref D)) (hg : Gl X x) (hd : (x == ("__debug__" : Str)) = false := by decide) : PE X (.Name x pos) (tC (.ref D)) := pe_glob (v := .ref D) hg hm rfl hd
/-! ### which of the six errors it is, in words -/
def rIsU (K : PySem.W.Frag) : List V → Hp → VK → Prop := fun xs H Q => rIsi K xs H Q ∨ rIsX K xs H Q
theorem call_isU {X : Cx} : CallR X (.builtin "isinstance") (rIsU X.K) := by
  intro pins s σ H xs us Q I r h
  rcases h with h | h
  · exact call_isi pins s σ H xs us Q I r h
  · exact call_isX pins s σ H xs us Q I r h
/-- what isinstance says of x and a class, here and later -/
def Says (K : PySem.W.Frag) (H : Hp) (x : V) (D : Addr) (b : Bool) : Prop := ∀ (H' : Hp) (Q : VK), Ex H H' → Q (.bl b) H' → rIsU K [x, .ref D] H' Q
theorem says_none {K : PySem.W.Frag} {H : Hp} {D : Addr} (h : PySem.W.kitOne K (.type "NoneType") (.ref D) = some false) : Says K H .non D false := fun H' Q _ q => .inl ⟨.non, .ref D, .type "NoneType", .ref D, false, rfl, .own D, .base .non, h, q⟩
theorem says_held {K : PySem.W.Frag} {H : Hp} {a C D : Addr} {b : Bool} (h : H a = some (Held (.ref C) none a)) (E : ExcC K C) (k : PySem.W.kitOne K (.ref C) (.ref D) = some b) : Says K H (.ref a) D b := fun H' Q e q => .inr ⟨a, C, .ref D, .ref D, b, rfl, e _ _ h, E, .own D, k, q⟩
theorem kit_self {K : PySem.W.Frag} {D : Addr} : PySem.W.kitOne K (.ref D) (.ref D) = some true := by
  unfold PySem.W.kitOne
  rw [if_pos (beq_self_eq_true _)]
theorem kit_no {K : PySem.W.Frag} {t : Value} {C : Addr} (hne : (t == Value.ref C) = false) (hd : PySem.W.hasDictIn K C = true) (ht : PySem.W.typeIn K (.ref C) = some (.type "type")) (hs : PySem.W.subIn K t (.ref C) = some false) : PySem.W.kitOne K t (.ref C) = some false := by
  obtain ⟨cd, hc, _⟩ := PySem.W.any_some hd
  unfold PySem.W.kitOne PySem.W.kitCls
  rw [hne, if_neg Bool.false_ne_true]
  dsimp only
  rw [hc, ht, hs]
  rfl
abbrev words6 : List Str := ["name", "weight", "desk", "match", "piece", "text"]
def picked (ws : List Str) (bs : List Bool) : List Str := ((ws.zip bs).filter fun e => e.2).map (·.1)
section
variable {P : Program} {w : World} {K : PySem.W.Frag} {mg : Str → Option Value} {base : Heap}
def spWord (K : PySem.W.Frag) (CN CW CD CQ CP CT : Addr) : Sp := fun vs H Q _ => ∃ (x : V) (b1 b2 b3 b4 b5 b6 : Bool), vs = [x] ∧ Says K H x CN b1 ∧ Says K H x CW b2 ∧ Says K H x CD b3 ∧ Says K H x CQ b4 ∧ Says K H x CP b5 ∧ Says K H x CT b6 ∧
  ∀ H' : Hp, Ex H H' → Q (.str (PySem.Txt.join " " (picked words6 [b1, b2, b3, b4, b5, b6]))) H'
theorem picked_size (b1 b2 b3 b4 b5 b6 : Bool) : ((picked words6 [b1, b2, b3, b4, b5, b6]).map (·.length)).sum + (picked words6 [b1, b2, b3, b4, b5, b6]).length * (" " : Str).length ≤ 16777216 := by
  revert b1 b2 b3 b4 b5 b6
  decide +kernel
theorem ok_word {CN CW CD CQ CP CT : Addr} {f : Addr} {fd : FuncData} (F : Fun K "_law_word" "_law_word" sLWord f fd) (zI : mg "isinstance" = none) (zZ : mg "zip" = none)
    (gN : mg "NoName" = some (.ref CN)) (gW : mg "NoWeight" = some (.ref CW)) (gD : mg "NoDesk" = some (.ref CD)) (gM : mg "NoMatch" = some (.ref CQ)) (gP : mg "NoPiece" = some (.ref CP)) (gT : mg "NoText" = some (.ref CT)) : FnOk P w K mg base CX0 1 f fd pLWord (spWord K CN CW CD CQ CP CT) := by
  refine F.ok cLWord (fun vs H Q E h => ?_) (fun cdv A outer s H vs Q E hr h => ?_)
  · obtain ⟨x, b1, b2, b3, b4, b5, b6, rfl, _⟩ := h
    rfl
  · obtain ⟨x, b1, b2, b3, b4, b5, b6, rfl, s1, s2, s3, s4, s5, s6, q⟩ := h
    refine ⟨_, pss_cons (ps_set (i := 1) cLWord.nd rfl (Or.inl rfl) (pe_lst (pa_cons pe_str (pa_cons pe_str (pa_cons pe_str (pa_cons pe_str (pa_cons pe_str (pa_cons pe_str pa_nil))))))))
      (pss_cons (ps_set (i := 2) cLWord.nd rfl (Or.inl rfl) (pe_lst (pa_cons (pe_callB call_isU (by rfl) zI (by decide +kernel) (pa_cons (pv 0) (pa_cons (pe_gref gN rfl) pa_nil))) (pa_cons (pe_callB call_isU (by rfl) zI (by decide +kernel) (pa_cons (pv 0) (pa_cons (pe_gref gW rfl) pa_nil))) (pa_cons (pe_callB call_isU (by rfl) zI (by decide +kernel) (pa_cons (pv 0) (pa_cons (pe_gref gD rfl) pa_nil))) pa_nil)))))
      (pss_cons (ps_set (i := 3) cLWord.nd rfl (Or.inl rfl) (pe_lst (pa_cons (pe_callB call_isU (by rfl) zI (by decide +kernel) (pa_cons (pv 0) (pa_cons (pe_gref gM rfl) pa_nil))) (pa_cons (pe_callB call_isU (by rfl) zI (by decide +kernel) (pa_cons (pv 0) (pa_cons (pe_gref gP rfl) pa_nil))) (pa_cons (pe_callB call_isU (by rfl) zI (by decide +kernel) (pa_cons (pv 0) (pa_cons (pe_gref gT rfl) pa_nil))) pa_nil)))))
      (pss_one (ps_ret (pe_bm PySem.F.plainAttrs_str PySem.F.slot_str_join PySem.F.type_str_join mt_join pe_str (pa_cons (pe_lc (own := [("_law_word_here", 4), ("_law_flag", 5)]) (g := gTup K 2 (gCons (gName 4) (gCons (gName 5) gNil))) (tt := tB (tVar 5)) rfl cLWord.nd
        (pi_zip rfl zZ (pa_cons (pv 1) (pa_cons (pe_op op_cat (pv 2) (pv 3)) pa_nil))) (blkOk_by (own := [("_law_word_here", 4), ("_law_flag", 5)]) (N := nLWord) (sc := defScope sLWord) (by decide +kernel))
        (fun _ _ _ _ _ => pg_tup rfl (pgs_cons (pg_name (i := 4) cLWord.nd rfl (Or.inl rfl)) (pgs_cons (pg_name (i := 5) cLWord.nd rfl (Or.inl rfl)) pgs_nil))) (fun _ _ _ _ _ => pts_one (pt_val (pv 5))) (fun _ _ _ _ _ => pv 4)) pa_nil)))))), ?_⟩
    have six : 6 ≤ sizeLine := by rw [sizeLine_eq]; decide
    have three : 3 ≤ sizeLine := by rw [sizeLine_eq]; decide
    refine sq_any (fun σ' H' => ∃ l1 : Addr, σ' = [some x, some (.ref l1), none, none, none, none] ∧ Ex H H' ∧ H' l1 = some (.lst (words6.map V.str))) (fun D' hD => ⟨six, fun l hl => hD _ _ ⟨l, rfl, Evl.Ex.new hl, upd_same⟩⟩) ?_
    rintro σ' H1 ⟨l1, rfl, ex1, e1⟩
    refine sq_any (fun σ' H' => ∃ l2 : Addr, σ' = [some x, some (.ref l1), some (.ref l2), none, none, none] ∧ Ex H1 H' ∧ H' l2 = some (.lst ([b1, b2, b3].map V.bl)))
      (fun D' hD => ⟨_, rfl, s1 _ _ ex1 ⟨_, rfl, s2 _ _ ex1 ⟨_, rfl, s3 _ _ ex1 ⟨three, fun l hl => hD _ _ ⟨l, rfl, Evl.Ex.new hl, upd_same⟩⟩⟩⟩⟩) ?_
    rintro σ' H2 ⟨l2, rfl, ex2, e2⟩
    have ex12 := ex1.trans ex2
    refine sq_any (fun σ' H' => ∃ l3 : Addr, σ' = [some x, some (.ref l1), some (.ref l2), some (.ref l3), none, none] ∧ Ex H2 H' ∧ H' l3 = some (.lst ([b4, b5, b6].map V.bl)))
      (fun D' hD => ⟨_, rfl, s4 _ _ ex12 ⟨_, rfl, s5 _ _ ex12 ⟨_, rfl, s6 _ _ ex12 ⟨three, fun l hl => hD _ _ ⟨l, rfl, Evl.Ex.new hl, upd_same⟩⟩⟩⟩⟩) ?_
    rintro σ' H3 ⟨l3, rfl, ex3, e3⟩
    have e2' := ex3 _ _ e2
    have e1' := ex3 _ _ (ex2 _ _ e1)
    refine ⟨rfl, ?_⟩
    refine ⟨_, rfl, _, rfl, _, rfl, l2, l3, [b1, b2, b3].map V.bl, [b4, b5, b6].map V.bl, rfl, rfl, e2', e3, six, fun l4 hl4 => ?_⟩
    have ex4 : Ex H3 (upd H3 l4 (.lst ([b1, b2, b3].map V.bl ++ [b4, b5, b6].map V.bl))) := Evl.Ex.new hl4
    have e4 : (upd H3 l4 (.lst ([b1, b2, b3].map V.bl ++ [b4, b5, b6].map V.bl))) l4 = some (.lst ([b1, b2, b3, b4, b5, b6].map V.bl)) := upd_same
    generalize upd H3 l4 (.lst ([b1, b2, b3].map V.bl ++ [b4, b5, b6].map V.bl)) = H4 at ex4 e4 ⊢
    have e1'' := ex4 _ _ e1'
    refine ⟨l1, l4, words6.map V.str, [b1, b2, b3, b4, b5, b6].map V.bl, rfl, SqL.of e1'', SqL.of e4, fun L hL => ?_⟩
    refine DK.lc_it (n := 6) (fun i H' => Ex H4 H' ∧ H' L = some (.lst ((picked (words6.take i) ([b1, b2, b3, b4, b5, b6].take i)).map V.str))) ⟨Evl.Ex.new hL, upd_same⟩ ?_ ?_ ?_ ?_
    · rintro i H' hi ⟨h1, h2⟩
      have hw : i < words6.length := hi
      have hb : i < [b1, b2, b3, b4, b5, b6].length := hi
      exact ⟨_, _, .str words6[i], .bl [b1, b2, b3, b4, b5, b6][i], SqL.of (h1 _ _ e1''), SqL.of (h1 _ _ e4), by rw [List.getElem?_map, List.getElem?_eq_getElem hw]; rfl, by rw [List.getElem?_map, List.getElem?_eq_getElem hb]; rfl⟩
    · rintro H' ⟨h1, h2⟩
      exact ⟨_, _, SqL.of (h1 _ _ e1''), SqL.of (h1 _ _ e4), .inl (Nat.le_refl _)⟩
    · rintro i H' hi ⟨h1, h2⟩ y H5 ⟨T, u, v, rfl, nT, rfl, hu, hv⟩
      have hw : i < words6.length := hi
      have hb : i < [b1, b2, b3, b4, b5, b6].length := hi
      have hu := hu _ (SqL.of (h1 _ _ e1''))
      have hv := hv _ (SqL.of (h1 _ _ e4))
      rw [List.getElem?_map, List.getElem?_eq_getElem hw] at hu
      rw [List.getElem?_map, List.getElem?_eq_getElem hb] at hv
      obtain rfl := Option.some.inj hu
      obtain rfl := Option.some.inj hv
      have step : picked (words6.take (i + 1)) ([b1, b2, b3, b4, b5, b6].take (i + 1)) = picked (words6.take i) ([b1, b2, b3, b4, b5, b6].take i) ++ (if [b1, b2, b3, b4, b5, b6][i] = true then [words6[i]] else []) := by
        rw [List.take_succ_eq_append_getElem hw, List.take_succ_eq_append_getElem hb]
        unfold picked
        rw [List.zip_append (by rw [List.length_take, List.length_take]; omega), List.filter_append, List.map_append]
        congr 1
        cases [b1, b2, b3, b4, b5, b6][i] <;> rfl
      have nTL : L ≠ T := ne_of_none h2 nT
      refine ⟨T, _, rfl, SqT.of upd_same, rfl, _, _, rfl, _, _, rfl, rfl, rfl, _, rfl, _, rfl, ?_⟩
      refine ite2 (fun hh => ?_) (fun hh => ?_)
      · refine ⟨_, rfl, _, by rw [upd_ne nTL]; exact h2, small ?_, fun b o e => ?_, ?_⟩
        · rw [List.length_map]
          unfold picked
          rw [List.length_map]
          have h9 := List.length_filter_le (fun e : Str × Bool => e.2) ((words6.take i).zip ([b1, b2, b3, b4, b5, b6].take i))
          rw [List.length_zip, List.length_take] at h9
          omega
        · rw [upd_ne (ne_of_none e hL), upd_ne (ne_of_none (h1 _ _ e) nT)]
          exact h1 _ _ e
        · rw [upd_same, step, if_pos hh, List.map_append]
          rfl
      · refine ⟨fun b o e => by rw [upd_ne (ne_of_none (h1 _ _ e) nT)]; exact h1 _ _ e, ?_⟩
        rw [upd_ne nTL, h2, step, if_neg hh, List.append_nil]
    · rintro H' ⟨h1, h2⟩
      exact ⟨" ", L, picked words6 [b1, b2, b3, b4, b5, b6], rfl, rfl, .inl (SqL.of h2), picked_size b1 b2 b3 b4 b5 b6, q _ (((ex12.trans ex3).trans ex4).trans h1)⟩
end
/-! ### the kinds of error, as isinstance tells them -/
structure Kind (K : PySem.W.Frag) (CN CW CD CQ CP CT D : Addr) (b1 b2 b3 b4 b5 b6 : Bool) : Prop where
  e : ExcC K D
  k1 : PySem.W.kitOne K (.ref D) (.ref CN) = some b1
  k2 : PySem.W.kitOne K (.ref D) (.ref CW) = some b2
  k3 : PySem.W.kitOne K (.ref D) (.ref CD) = some b3
  k4 : PySem.W.kitOne K (.ref D) (.ref CQ) = some b4
  k5 : PySem.W.kitOne K (.ref D) (.ref CP) = some b5
  k6 : PySem.W.kitOne K (.ref D) (.ref CT) = some b6
/-- one of a list just laid -/
theorem pick_reads {K : PySem.W.Frag} {l : Addr} {xs : List V} {j : Int} {H : Hp} {Q : VK} (hl : H l = some (.lst xs)) (h0 : 0 ≤ j) (h1 : j < xs.length) (q : ∀ v ∈ xs, Q v H) : rIxL K (.ref l) (.int j) H Q := by
  obtain ⟨k, rfl⟩ : ∃ k : Nat, j = (k : Int) := ⟨j.toNat, by omega⟩
  have hk : k < xs.length := by omega
  exact ⟨l, xs, k, xs[k], rfl, rfl, SqL.of hl, atI_nat (List.getElem?_eq_getElem hk), q _ (List.getElem_mem hk)⟩
/-! ### what is refused, held on -/
theorem hold_slot {σ : L2.St} {i j n : Nat} {x y z : Option V} (hl : σ.length = n) (hj : j < n) (hij : i ≠ j) : (((σ.set i x).set j y).set i z)[j]? = some y := by
  rw [List.getElem?_set_ne hij, List.getElem?_set_self (by rw [List.length_set, hl]; exact hj)]
/-- an exception that the clause names -/
theorem hold_reads {K : PySem.W.Frag} {n i j : Nat} {CE D : Addr} {σ : L2.St} {H : Hp} {D' : Ends} (hm : PySem.W.exmOne K (.ref D) (.ref CE) = some true) (hj : j < n) (hij : i ≠ j) (q : ∀ (σ' : L2.St) (a : Addr), σ'[j]? = some (some (.ref a)) → H a = none → D'.nx σ' (upd H a (Held (.ref D) none a))) :
    wHold K n (.ref CE) i j (fun _ _ _ _ => False) D' (.ref D) none σ H := ⟨true, hm, fun _ a na hl => q _ a (hold_slot hl hj hij) na, fun z => nomatch z⟩
/-! ### what came lately: the object -/
structure LtT (K : PySem.W.Frag) (mg : Str → Option Value) (CL : Addr) : Prop where
  cl : Cls K CL
  nR : NoAttr K CL "room"
  nP : NoAttr K CL "piece"
  nS : NoAttr K CL "pieces"
  nF : NoAttr K CL "full"
  nL : NoAttr K CL "latest"
  nC : NoAttr K CL "came"
def runAt (C : Addr) (H : Hp) (r : Int) (z : Addr × Addr) (x : CM) : Prop := DeskAt C H z.1 z.2 r (runC r x).1 (runC r x).2.1 (runC r x).2.2
structure LatAt (C CL : Addr) (H : Hp) (q fl : Addr) (ps : List (Addr × Addr)) (lt : Addr × Addr) (r : Int) (pc pn : Nat) (fs : List CM) (la : CM) : Prop where
  ob : ∃ dx, H q = some (.ins CL dx (lfl r pc pn fl lt.1 la.length))
  ls : H fl = some (.lst (ps.map fun z => V.ref z.1))
  dk : Paired (runAt C H r) ps fs
  dl : runAt C H r lt la
  ne : ∀ z ∈ ps, z.1 ≠ lt.1 ∧ z.2 ≠ lt.2
  len : la.length < pc
  cnt : fs.length ≤ pn
  p2 : pc ≤ 1000
  n1 : 1 ≤ pn
  n2 : pn ≤ 50
  eq : ∀ x ∈ fs, x.length = pc
def latF (q fl : Addr) (ps : List (Addr × Addr)) (lt : Addr × Addr) : List Addr := q :: fl :: lt.1 :: lt.2 :: ps.flatMap fun z => [z.1, z.2]
theorem mem_latF {a q fl : Addr} {ps : List (Addr × Addr)} {lt : Addr × Addr} : a ∈ latF q fl ps lt ↔ a = q ∨ a = fl ∨ a = lt.1 ∨ a = lt.2 ∨ ∃ z ∈ ps, a = z.1 ∨ a = z.2 := by
  unfold latF
  simp only [List.mem_cons, List.mem_flatMap, List.not_mem_nil, or_false]
theorem paired_mono {α β : Type} {f g : α → β → Prop} (h : ∀ a b, f a b → g a b) : ∀ {xs : List α} {ys : List β}, Paired f xs ys → Paired g xs ys
  | _, _, .nil => .nil
  | _, _, .cons r t => .cons (h _ _ r) (paired_mono h t)
theorem paired_monoM {α β : Type} {f g : α → β → Prop} : ∀ {xs : List α} {ys : List β}, (∀ a ∈ xs, ∀ b, f a b → g a b) → Paired f xs ys → Paired g xs ys
  | _, _, _, .nil => .nil
  | _, _, h, .cons r t => .cons (h _ (List.mem_cons_self ..) _ r) (paired_monoM (fun a ha => h a (List.mem_cons_of_mem _ ha)) t)
theorem paired_drop {α β : Type} {f : α → β → Prop} : ∀ (k : Nat) {xs : List α} {ys : List β}, Paired f xs ys → Paired f (xs.drop k) (ys.drop k)
  | 0, _, _, h => h
  | _ + 1, _, _, .nil => by rw [List.drop_nil, List.drop_nil]; exact .nil
  | k + 1, _, _, .cons _ t => paired_drop k t
theorem paired_last {α β : Type} {f : α → β → Prop} {k : Nat} {xs : List α} {ys : List β} (h : Paired f xs ys) : Paired f (lastn k xs) (lastn k ys) := by
  unfold lastn
  rw [h.length]
  exact paired_drop _ h
theorem paired_snoc {α β : Type} {f : α → β → Prop} {a : α} {b : β} : ∀ {xs : List α} {ys : List β}, Paired f xs ys → f a b → Paired f (xs ++ [a]) (ys ++ [b])
  | _, _, .nil, h => .cons h .nil
  | _, _, .cons r t, h => .cons r (paired_snoc t h)
theorem paired_mem {α β : Type} {f : α → β → Prop} {a : α} : ∀ {xs : List α} {ys : List β}, Paired f xs ys → a ∈ xs → ∃ b, f a b
  | _, _, .cons r t, h => by
    rcases List.mem_cons.mp h with rfl | h
    · exact ⟨_, r⟩
    · exact paired_mem t h
theorem off_fresh {F : List Addr} {H H' : Hp} {a : Addr} (o : Off F H H') (h : H' a = none) : a ∈ F ∨ H a = none := by
  by_cases hm : a ∈ F
  · exact .inl hm
  · refine .inr ?_
    cases e : H a with
    | none => rfl
    | some u =>
      rw [o a u hm e] at h
      cases h
section
variable {C CL : Addr} {H H' : Hp} {q fl : Addr} {ps : List (Addr × Addr)} {lt : Addr × Addr} {r : Int} {pc pn : Nat} {fs : List CM} {la : CM}
theorem LatAt.off {F : List Addr} (A : LatAt C CL H q fl ps lt r pc pn fs la) (o : Off F H H') (d : Disj (latF q fl ps lt) F) : LatAt C CL H' q fl ps lt r pc pn fs la := by
  have m := fun a h => d a (mem_latF.mpr h)
  obtain ⟨dx, ho⟩ := A.ob
  exact ⟨⟨dx, o _ _ (m _ (.inl rfl)) ho⟩, o _ _ (m _ (.inr (.inl rfl))) A.ls, paired_monoM (fun z hz x D => DeskAt.off D o (m _ (.inr (.inr (.inr (.inr ⟨z, hz, .inl rfl⟩))))) (m _ (.inr (.inr (.inr (.inr ⟨z, hz, .inr rfl⟩)))))) A.dk,
    DeskAt.off A.dl o (m _ (.inr (.inr (.inl rfl)))) (m _ (.inr (.inr (.inr (.inl rfl))))), A.ne, A.len, A.cnt, A.p2, A.n1, A.n2, A.eq⟩
theorem LatAt.ex (A : LatAt C CL H q fl ps lt r pc pn fs la) (e : Ex H H') : LatAt C CL H' q fl ps lt r pc pn fs la := A.off (F := []) (Off.of_ex e) fun _ _ h => nomatch h
/-- what stands at its places -/
theorem LatAt.at_ (A : LatAt C CL H q fl ps lt r pc pn fs la) {a : Addr} (h : a ∈ latF q fl ps lt) : H a ≠ none ∧ (∀ xs, H a ≠ some (.tup xs)) := by
  have desk : ∀ {z : Addr × Addr} {x : CM}, runAt C H r z x → (H z.1 ≠ none ∧ ∀ xs, H z.1 ≠ some (.tup xs)) ∧ (H z.2 ≠ none ∧ ∀ xs, H z.2 ≠ some (.tup xs)) := by
    intro z x D
    obtain ⟨dx, hp⟩ := DeskAt.ob D
    have hd := DeskAt.dc D
    refine ⟨⟨fun e => ?_, fun xs e => ?_⟩, fun e => ?_, fun xs e => ?_⟩
    · rw [hp] at e; cases e
    · rw [hp] at e; cases e
    · rw [hd] at e; cases e
    · rw [hd] at e; cases e
  rcases mem_latF.mp h with rfl | rfl | rfl | rfl | ⟨z, hz, e⟩
  · obtain ⟨dx, ho⟩ := A.ob
    rw [ho]
    exact ⟨(fun e => nomatch e), (fun _ e => nomatch e)⟩
  · rw [A.ls]
    exact ⟨(fun e => nomatch e), (fun _ e => nomatch e)⟩
  · exact (desk A.dl).1
  · exact (desk A.dl).2
  · obtain ⟨x, D⟩ := paired_mem A.dk hz
    rcases e with rfl | rfl
    · exact (desk D).1
    · exact (desk D).2
theorem LatAt.alloc (A : LatAt C CL H q fl ps lt r pc pn fs la) : ∀ a ∈ latF q fl ps lt, H a ≠ none := fun a h => (A.at_ h).1
theorem LatAt.notup (A : LatAt C CL H q fl ps lt r pc pn fs la) : ∀ a ∈ latF q fl ps lt, ∀ xs, H a ≠ some (.tup xs) := fun a h => (A.at_ h).2
end
theorem lfl_dfl {room piece pieces came r2 g t : Int} {fl lp d : Addr} : lfl room piece pieces fl lp came ≠ dfl r2 d g t := fun h => by
  have := congrArg List.length h
  cases this
def isPc (m : Int) : V → Bool
  | .int i => decide (1 ≤ i ∧ i ≤ m)
  | _ => false
section
variable {P : Program} {w : World} {K : PySem.W.Frag} {mg : Str → Option Value} {base : Heap} {C CL CN CW CD CP CQ : Addr}
def spLatInit (K : PySem.W.Frag) (C CL CD CP : Addr) : Sp := fun vs H Q E => ∃ (q : Addr) (x y z : V) (dx : Addr), vs = [.ref q, x, y, z] ∧ H q = some (.ins CL dx []) ∧ (∀ H' : Hp, Thing K H' x) ∧ (∀ H' : Hp, Thing K H' y) ∧ (∀ H' : Hp, Thing K H' z) ∧
  (∀ (r : Int) (pc pn : Nat), x = .int r → y = .int pc → z = .int pn → 1 ≤ r → r ≤ 50 → 1 ≤ pc → pc ≤ 1000 → 1 ≤ pn → pn ≤ 50 → ∀ (H' : Hp) (fl : Addr) (lt : Addr × Addr), (∀ a ∈ latF q fl [] lt, a = q ∨ H a = none) → Off [q] H H' → LatAt C CL H' q fl [] lt r pc pn [] [] → Q .non H') ∧
  (isRoomV x = false → E (.ref CD) none H) ∧ (isRoomV x = true → (isPc 1000 y && isPc 50 z) = false → ∀ H' : Hp, Ex H H' → E (.ref CP) none H')
theorem putF_len {f : Str} {v : V} {fs : List (Str × V)} {n : Nat} (h : fs.length ≤ n) : (putF f v fs).length ≤ n + 1 := Nat.le_trans (put_len_le f v fs) (Nat.succ_le_succ h)
theorem ok_latInit {f fI : Addr} {fd fdI : FuncData} (F : Fun K "__init__" "Lately.__init__" sLatelyInit f fd) (T : DkT K mg C CN CW CD) (L : LtT K mg CL) (MI : Mk K C fI) (GI : FnOk P w K mg base (L2.CX P w) 3 fI fdI pDInit (spInit K C CD)) (bI : Binds K fdI pDInit [])
    (GD : Gf P w K mg base (L2.CX P w) 2 "need_drawers" pNeedDrawers (spNeedDrawers K CD)) (GW : Gf P w K mg base CX0 1 "is_whole" pIsWhole (spWhole K)) {tL tM : Tok} (mL : mg "LONGEST_PIECE" = some (.int 1000 tL)) (mM : mg "MOST_PIECES" = some (.int 50 tM)) (eP : ExT K mg "NoPiece" CP) :
    FnOk P w K mg base (L2.CX P w) 5 f fd pLatelyInit (spLatInit K C CL CD CP) := by
  obtain ⟨fD, fdD, gD, bD, mD, kD⟩ := GD.ex
  obtain ⟨fW, fdW, gW, bW, mW, kW⟩ := GW.ex
  refine F.okX cLatelyInit (fun vs H Q E h => ?_) (fun cdv A outer s H vs Q E hr h => ?_)
  · obtain ⟨q, x, y, z, dx, rfl, _⟩ := h
    rfl
  · obtain ⟨q, x, y, z, dx, rfl, hq, tx, ty, tz, q1, q2, q3⟩ := h
    refine ⟨_, pss_cons (ps_expr (pe_call gD (hr.mono (by decide)) rfl mD kD bD .nil (passes_call (takes_of rfl rfl rfl rfl) (fun _ _ _ _ z => z)) (pa_cons (pv 1) pa_nil)))
      (pss_cons (ps_for (passes_of rfl) rfl (pi_tup (pe_tup (pa_cons (pe_tup (pa_cons (pv 2) (pa_cons (pe_gint mL (by rfl)) pa_nil))) (pa_cons (pe_tup (pa_cons (pv 3) (pa_cons (pe_gint mM (by rfl)) pa_nil))) pa_nil)))) (pg_tup rfl (pgs_cons (pg_name (i := 4) cLatelyInit.nd rfl (Or.inl rfl)) (pgs_cons (pg_name (i := 5) cLatelyInit.nd rfl (Or.inl rfl)) pgs_nil)))
        (pss_one (ps_if (PW.pt (pw_or (pt_not (pt_val (pe_call gW (hr.mono (by decide)) rfl mW kW bW .nil pass0 (pa_cons (pv 4) pa_nil)))) (pw_or1 (pt_not (pt_chain op_le op_le pe_int (pv 4) (pv 5))))))
          (pss_one (ps_raise rfl (takes_of rfl rfl rfl rfl) (pmk_own PySem.F.excBase_ValueError eP.x eP.g eP.k (raises_own eP.b eP.t) (by rfl)))) pss_nil)))
      (pss_cons (ps_fld (pv 0) (pv 1) rfl)
      (pss_cons (ps_fld (pv 0) (pv 2) rfl)
      (pss_cons (ps_fld (pv 0) (pv 3) rfl)
      (pss_cons (ps_fld (pv 0) (pe_lst pa_nil) rfl)
      (pss_cons (ps_fld (pv 0) (pe_make MI GI hr rfl T.mgC bI .nil passL (pa_cons (pv 1) pa_nil)) rfl)
      (pss_one (ps_fld (pv 0) pe_int rfl)))))))), ?_⟩
    rw [← wMake_eq]
    have two : 2 ≤ sizeLine := by rw [sizeLine_eq]; decide
    refine sq_any (fun σ' H' => σ' = [some (.ref q), some x, some y, some z, none, none] ∧ H = H' ∧ isRoomV x = true) (fun D' hD => ⟨_, rfl, x, rfl, tx H, fun hx => hD _ _ ⟨rfl, rfl, hx⟩, q2⟩) ?_
    rintro σ' _ ⟨rfl, rfl, hx⟩
    have bad : ∀ {v : V} {m : Int}, isPc m v = false → (v = y ∧ m = 1000) ∨ (v = z ∧ m = 50) → ∀ H' : Hp, Ex H H' → E (.ref CP) none H' := by
      intro v m hv hw
      refine q3 hx ?_
      rcases hw with ⟨rfl, rfl⟩ | ⟨rfl, rfl⟩
      · rw [hv]; rfl
      · rw [hv, Bool.and_false]
    refine sq_any (fun σ' H' => ∃ v4 v5 : Option V, σ' = [some (.ref q), some x, some y, some z, v4, v5] ∧ Ex H H' ∧ isPc 1000 y = true ∧ isPc 50 z = true) (fun D' hD => ?_) ?_
    · refine ⟨_, rfl, two, fun T1 h1 => ⟨_, rfl, two, fun T2 h2 => ⟨two, fun TT hT => ?_⟩⟩⟩
      have x1 := Evl.Ex.new (o := .tup [y, .int 1000]) h1
      have x2 := Evl.Ex.new (o := .tup [z, .int 50]) h2
      have x3 := Evl.Ex.new (o := .tup [.ref T1, .ref T2]) hT
      have e1 := x3 _ _ (x2 _ _ upd_same)
      have e2 := x3 _ _ (upd_same (H := upd H T1 (.tup [y, .int 1000])) (a := T2) (o := .tup [z, .int 50]))
      have e3 := upd_same (H := upd (upd H T1 (.tup [y, .int 1000])) T2 (.tup [z, .int 50])) (a := TT) (o := .tup [.ref T1, .ref T2])
      have ex3 := (x1.trans x2).trans x3
      generalize upd (upd (upd H T1 (.tup [y, .int 1000])) T2 (.tup [z, .int 50])) TT (.tup [.ref T1, .ref T2]) = H3 at e1 e2 e3 ex3 ⊢
      refine ⟨TT, rfl, ⟨_, SqT.of e3⟩, for_tup (K := K) (a := TT) (xs := [.ref T1, .ref T2]) (fun i σ H' => ∃ v4 v5 : Option V, σ = [some (.ref q), some x, some y, some z, v4, v5] ∧ Ex H3 H' ∧ (1 ≤ i → isPc 1000 y = true) ∧ (2 ≤ i → isPc 50 z = true))
        ⟨_, _, rfl, Evl.Ex.refl _, (fun h => absurd h (by decide)), fun h => absurd h (by decide)⟩ (fun _ _ _ _ ⟨_, _, _, h, _⟩ => SqT.of (h _ _ e3)) ?_ ?_⟩
      · rintro i x' σ H4 hi ⟨v4, v5, rfl, h1, h2, h3⟩
        obtain ⟨T', v, m, rfl, eT, tv, hv, fin⟩ : ∃ (T' : Addr) (v : V) (m : Int), x' = .ref T' ∧ H4 T' = some (.tup [v, .int m]) ∧ (∀ H' : Hp, Thing K H' v) ∧ ((v = y ∧ m = 1000) ∨ (v = z ∧ m = 50)) ∧ (isPc m v = true → (1 ≤ i + 1 → isPc 1000 y = true) ∧ (2 ≤ i + 1 → isPc 50 z = true)) := by
          match i, hi with
          | 0, hi =>
            cases hi
            exact ⟨T1, y, 1000, rfl, h1 _ _ e1, ty, .inl ⟨rfl, rfl⟩, fun h => ⟨fun _ => h, fun h => absurd h (by decide)⟩⟩
          | 1, hi =>
            cases hi
            exact ⟨T2, z, 50, rfl, h1 _ _ e2, tz, .inr ⟨rfl, rfl⟩, fun h => ⟨fun _ => h2 (by decide), fun _ => h⟩⟩
        have bd := fun h => bad (v := v) (m := m) h hv H4 (ex3.trans h1)
        refine ⟨T', _, rfl, SqT.of eT, rfl, _, _, rfl, _, _, rfl, rfl, ?_⟩
        refine ⟨_, rfl, v, rfl, tv H4, _, rfl, ?_⟩
        cases v <;> first | exact bd rfl | skip
        rename_i n
        refine iteF ?_
        refine ⟨_, rfl, _, _, rfl, rfl, _, rfl, ?_⟩
        refine ite2 (fun g1 => ?_) (fun g1 => ?_)
        · refine ⟨_, rfl, _, _, rfl, rfl, _, rfl, ?_⟩
          have f1 := of_decide_eq_true g1
          cases g2 : decide (n ≤ m) with
          | true =>
            have hg : isPc m (.int n) = true := decide_eq_true ⟨f1, of_decide_eq_true g2⟩
            exact iteF ⟨_, _, rfl, h1, (fin hg).1, (fin hg).2⟩
          | false => exact iteT (bd (decide_eq_false fun z => of_decide_eq_false g2 z.2))
        · have f1 := of_decide_eq_false (Bool.eq_false_iff.mpr g1)
          exact ⟨_, rfl, iteT (bd (decide_eq_false fun z => f1 z.1))⟩
      · rintro σ H4 ⟨v4, v5, rfl, h1, h2, h3⟩
        exact hD _ _ ⟨v4, v5, rfl, ex3.trans h1, h2 (Nat.le_succ _), h3 (Nat.le_refl _)⟩
    rintro σ' H1 ⟨v4, v5, rfl, ex1, hy, hz⟩
    cases x <;> first | (exact absurd hx Bool.false_ne_true) | skip
    cases y <;> first | (exact absurd hy Bool.false_ne_true) | skip
    cases z <;> first | (exact absurd hz Bool.false_ne_true) | skip
    rename_i r ipc ipn
    obtain ⟨r1, r2⟩ := of_decide_eq_true hx
    obtain ⟨y1, y2⟩ := of_decide_eq_true hy
    obtain ⟨z1, z2⟩ := of_decide_eq_true hz
    obtain ⟨pc, rfl⟩ : ∃ n : Nat, ipc = (n : Int) := ⟨ipc.toNat, by omega⟩
    obtain ⟨pn, rfl⟩ : ∃ n : Nat, ipn = (n : Int) := ⟨ipn.toNat, by omega⟩
    have hq1 := ex1 _ _ hq
    refine ⟨_, rfl, _, rfl, q, CL, dx, _, rfl, hq1, L.cl, L.nR, (by show 0 < 1000; decide), ?_⟩
    refine ⟨_, rfl, _, rfl, q, CL, dx, _, rfl, upd_same, L.cl, L.nP, Nat.lt_of_le_of_lt (putF_len (n := 0) (Nat.le_refl _)) (by decide), ?_⟩
    refine ⟨_, rfl, _, rfl, q, CL, dx, _, rfl, upd_same, L.cl, L.nS, Nat.lt_of_le_of_lt (putF_len (putF_len (n := 0) (Nat.le_refl _))) (by decide), ?_⟩
    have hq3 : (upd (upd (upd H1 q (.ins CL dx (putF "room" (.int r) []))) q (.ins CL dx (putF "piece" (.int pc) (putF "room" (.int r) [])))) q (.ins CL dx (putF "pieces" (.int pn) (putF "piece" (.int pc) (putF "room" (.int r) []))))) q = some (.ins CL dx (putF "pieces" (.int pn) (putF "piece" (.int pc) (putF "room" (.int r) [])))) := upd_same
    have of3 : Off [q] H (upd (upd (upd H1 q (.ins CL dx (putF "room" (.int r) []))) q (.ins CL dx (putF "piece" (.int pc) (putF "room" (.int r) [])))) q (.ins CL dx (putF "pieces" (.int pn) (putF "piece" (.int pc) (putF "room" (.int r) []))))) := fun b o hb e => by
      have nb : b ≠ q := fun z => hb (by rw [z]; exact List.mem_cons_self ..)
      rw [upd_ne nb, upd_ne nb, upd_ne nb]
      exact ex1 _ _ e
    generalize upd (upd (upd H1 q (.ins CL dx (putF "room" (.int r) []))) q (.ins CL dx (putF "piece" (.int pc) (putF "room" (.int r) [])))) q (.ins CL dx (putF "pieces" (.int pn) (putF "piece" (.int pc) (putF "room" (.int r) [])))) = H3 at hq3 of3 ⊢
    refine ⟨Nat.zero_le _, fun fl hfl => ⟨_, rfl, q, CL, dx, _, rfl, Evl.Ex.new hfl _ _ hq3, L.cl, L.nF, Nat.lt_of_le_of_lt (putF_len (putF_len (putF_len (n := 0) (Nat.le_refl _)))) (by decide), ?_⟩⟩
    have qfl : q ≠ fl := ne_of_none hq3 hfl
    have of4 : Off [q] H (upd (upd H3 fl (.lst [])) q (.ins CL dx (putF "full" (.ref fl) (putF "pieces" (.int pn) (putF "piece" (.int pc) (putF "room" (.int r) [])))))) := fun b o hb e => by
      have nb : b ≠ q := fun z => hb (by rw [z]; exact List.mem_cons_self ..)
      rw [upd_ne nb]
      exact Evl.Ex.new hfl _ _ (of3 _ _ hb e)
    have fl4 : (upd (upd H3 fl (.lst [])) q (.ins CL dx (putF "full" (.ref fl) (putF "pieces" (.int pn) (putF "piece" (.int pc) (putF "room" (.int r) [])))))) fl = some (.lst []) := by rw [upd_ne qfl.symm]; exact upd_same
    have hq4 : (upd (upd H3 fl (.lst [])) q (.ins CL dx (putF "full" (.ref fl) (putF "pieces" (.int pn) (putF "piece" (.int pc) (putF "room" (.int r) [])))))) q = some (.ins CL dx (putF "full" (.ref fl) (putF "pieces" (.int pn) (putF "piece" (.int pc) (putF "room" (.int r) []))))) := upd_same
    generalize upd (upd H3 fl (.lst [])) q (.ins CL dx (putF "full" (.ref fl) (putF "pieces" (.int pn) (putF "piece" (.int pc) (putF "room" (.int r) []))))) = H4 at of4 fl4 hq4 ⊢
    refine rd_new (fun Q' h' => ⟨_, rfl, h'⟩) r1 r2 fun lp ld H5 np nd0 npd ex5 D5 => ?_
    have hq5 := ex5 _ _ hq4
    have fl5 := ex5 _ _ fl4
    refine ⟨_, rfl, q, CL, dx, _, rfl, hq5, L.cl, L.nL, Nat.lt_of_le_of_lt (putF_len (putF_len (putF_len (putF_len (n := 0) (Nat.le_refl _))))) (by decide), ?_⟩
    refine ⟨_, rfl, q, CL, dx, _, rfl, upd_same, L.cl, L.nC, Nat.lt_of_le_of_lt (putF_len (putF_len (putF_len (putF_len (putF_len (n := 0) (Nat.le_refl _)))))) (by decide), ?_⟩
    rw [lfl_make]
    have qlp : q ≠ lp := fun z => by rw [← z, hq4] at np; cases np
    have qld : q ≠ ld := fun z => by rw [← z, hq4] at nd0; cases nd0
    have ofE : Off [q] H (upd (upd H5 q (.ins CL dx (putF "latest" (.ref lp) (putF "full" (.ref fl) (putF "pieces" (.int pn) (putF "piece" (.int pc) (putF "room" (.int r) []))))))) q (.ins CL dx (lfl r pc pn fl lp 0))) := fun b o hb e => by
      have nb : b ≠ q := fun z => hb (by rw [z]; exact List.mem_cons_self ..)
      rw [upd_ne nb, upd_ne nb]
      exact ex5 _ _ (of4 _ _ hb e)
    refine q1 r pc pn rfl rfl rfl r1 r2 (by omega) (by omega) (by omega) (by omega) _ fl (lp, ld) (fun a ha => ?_) ofE ?_
    · have fr : ∀ {a : Addr}, H4 a = none → a = q ∨ H a = none := fun h => by
        rcases off_fresh of4 h with z | z
        · exact .inl (List.mem_singleton.mp z)
        · exact .inr z
      rcases mem_latF.mp ha with rfl | rfl | rfl | rfl | ⟨z, hz, _⟩
      · exact .inl rfl
      · rcases off_fresh of3 hfl with z | z
        · exact .inl (List.mem_singleton.mp z)
        · exact .inr z
      · exact fr np
      · exact fr nd0
      · cases hz
    · refine ⟨⟨dx, upd_same⟩, by rw [upd_ne qfl.symm, upd_ne qfl.symm]; exact fl5, .nil, ?_, (fun _ h => nomatch h), by show 0 < pc; omega, Nat.zero_le _, by omega, by omega, by omega, (fun _ h => nomatch h)⟩
      have D6 : DeskAt C _ lp ld r [] 0 0 := D5
      obtain ⟨dy, hp⟩ := D6.ob
      exact ⟨⟨dy, by rw [upd_ne qlp.symm, upd_ne qlp.symm]; exact hp⟩, by rw [upd_ne qld.symm, upd_ne qld.symm]; exact D6.dc, D6.nd, D6.ln, D6.r1, D6.r2⟩
end
/-! ### what came lately: one more, all told, how far -/
section
variable {P : Program} {w : World} {K : PySem.W.Frag} {mg : Str → Option Value} {base : Heap} {C CL CN CW CD CP CQ : Addr}
def spLatCome (K : PySem.W.Frag) (C CL CN CW : Addr) : Sp := fun vs H Q E => ∃ (q fl : Addr) (ps : List (Addr × Addr)) (lt : Addr × Addr) (r : Int) (pc pn : Nat) (fs : List CM) (la : CM) (x y : V), vs = [.ref q, x, y] ∧ LatAt C CL H q fl ps lt r pc pn fs la ∧ (∀ H' : Hp, Thing K H' x) ∧ (∀ H' : Hp, Thing K H' y) ∧ (∀ z, x = .str z → z.length ≤ sizeLine) ∧
  (∀ n wt, x = .str n → y = .int wt → isName n = true → isWt wt = true → ∀ (H' : Hp) (fl' : Addr) (ps' : List (Addr × Addr)) (lt' : Addr × Addr), (∀ a ∈ latF q fl' ps' lt', a ∈ latF q fl ps lt ∨ H a = none) → Off (latF q fl ps lt) H H' →
    LatAt C CL H' q fl' ps' lt' r pc pn (stepP pc pn (fs, la) (n, wt)).1 (stepP pc pn (fs, la) (n, wt)).2 → Q .non H') ∧
  (isNameV x = false → E (.ref CN) none H) ∧ (isNameV x = true → isWtV y = false → E (.ref CW) none H)
theorem ok_latCome {f fI : Addr} {fd fdI : FuncData} {dvs : List V} (F : FunD K "come" "Lately.come" (defArgs sLatelyCome) (defBody sLatelyCome) (defScope sLatelyCome) dvs [] f fd) (T : DkT K mg C CN CW CD) (L : LtT K mg CL) (MI : Mk K C fI) (GI : FnOk P w K mg base (L2.CX P w) 3 fI fdI pDInit (spInit K C CD)) (bI : Binds K fdI pDInit [])
    (GN : Gf P w K mg base (L2.CX P w) 2 "need_coming" pNeedComing (spNeedComing K CN CW)) (GC : Gm P w K mg base (L2.CX P w) C 3 "come" pDCome (spCome K C CN CW)) :
    FnOk P w K mg base (L2.CX P w) 5 f fd pLatelyCome (spLatCome K C CL CN CW) := by
  obtain ⟨fN, fdN, gN, bN, mN, kN⟩ := GN.ex
  obtain ⟨f1, fd1, gCm, bCm, mCm⟩ := GC.ex
  refine F.ok cLatelyCome (fun vs H Q E h => ?_) (fun cdv A outer s H vs Q E hr h => ?_)
  · obtain ⟨q, fl, ps, lt, r, pc, pn, fs, la, x, y, rfl, _⟩ := h
    rfl
  · obtain ⟨q, fl, ps, lt, r, pc, pn, fs, la, x, y, rfl, A0, tx, ty, sz, q1, q2, q3⟩ := h
    refine ⟨_, pss_cons (ps_expr (pe_call gN (hr.mono (by decide)) rfl mN kN bN .nil (passes_call (takes_of rfl rfl rfl rfl) (fun _ _ _ _ z => z)) (pa_cons (pv 1) (pa_cons (pv 2) pa_nil))))
      (pss_cons (ps_expr (pe_meth (pe_fld (pv 0) rfl) T.cl mCm gCm (hr.mono (by decide)) bCm .nil passL (pa_cons (pv 1) (pa_cons (pv 2) pa_nil))))
      (pss_cons (ps_fldaug (pv 0) pe_int in_add)
      (pss_one (ps_if (pt_cmpR op_eq (pe_fld (pv 0) rfl) (pe_fld (pv 0) rfl) (nomark _))
        (pss_cons (ps_expr (pe_bm PySem.F.plainAttrs_list PySem.F.slot_list_append PySem.F.type_list_append mt_append (pe_fld (pv 0) rfl) (pa_cons (pe_fld (pv 0) rfl) pa_nil)))
        (pss_cons (ps_fld (pv 0) (pe_slice sl_list (pe_fld (pv 0) rfl) (po_some (pe_un un_neg (pe_fld (pv 0) rfl))) po_none) rfl)
        (pss_cons (ps_fld (pv 0) (pe_make MI GI hr rfl T.mgC bI .nil passL (pa_cons (pe_fld (pv 0) rfl) pa_nil)) rfl)
        (pss_one (ps_fld (pv 0) pe_int rfl)))))
        pss_nil)))), ?_⟩
    rw [← wMeth_eq, ← wMake_eq]
    refine sq_any (fun σ' H' => σ' = [some (.ref q), some x, some y] ∧ H = H' ∧ isNameV x = true ∧ isWtV y = true) (fun D' hD => ⟨_, rfl, _, rfl, x, y, rfl, tx H, ty H, sz, fun hx hy => hD _ _ ⟨rfl, rfl, hx, hy⟩, q2, q3⟩) ?_
    rintro σ' _ ⟨rfl, rfl, hx, hy⟩
    cases x <;> first | (exact absurd hx Bool.false_ne_true) | skip
    cases y <;> first | (exact absurd hy Bool.false_ne_true) | skip
    rename_i n wt
    have hn : isName n = true := hx
    have hw : isWt wt = true := hy
    have q1' := q1 n wt rfl rfl hn hw
    clear q1 q2 q3
    obtain ⟨dx, hq⟩ := A0.ob
    have D0 : DeskAt C H lt.1 lt.2 r (runC r la).1 (runC r la).2.1 (runC r la).2.2 := A0.dl
    obtain ⟨dy, hlp⟩ := D0.ob
    have hld := D0.dc
    have hfl := A0.ls
    have qlp : q ≠ lt.1 := fun z => by
      rw [z, hlp] at hq
      have := HO.ins.inj (Option.some.inj hq)
      exact lfl_dfl this.2.2.symm
    have qld : q ≠ lt.2 := fun z => by rw [z, hld] at hq; cases hq
    have qfl : q ≠ fl := fun z => by rw [z, hfl] at hq; cases hq
    have flp : fl ≠ lt.1 := fun z => by rw [z, hlp] at hfl; cases hfl
    have fld : fl ≠ lt.2 := fun z => by rw [z, hld] at hfl; cases hfl
    have F0 : ∀ b, b ∉ latF q fl ps lt → b ≠ q ∧ b ≠ fl ∧ b ≠ lt.1 ∧ b ≠ lt.2 := fun b hb => ⟨fun z => hb (mem_latF.mpr (.inl z)), fun z => hb (mem_latF.mpr (.inr (.inl z))), fun z => hb (mem_latF.mpr (.inr (.inr (.inl z)))), fun z => hb (mem_latF.mpr (.inr (.inr (.inr (.inl z)))))⟩
    -- the latest desk takes it
    refine sq_any (fun σ' H' => ∃ ld : Addr, σ' = [some (.ref q), some (.str n), some (.int wt)] ∧ (ld = lt.2 ∨ H ld = none) ∧ Off [lt.1, lt.2] H H' ∧ runAt C H' r (lt.1, ld) (la ++ [(n, wt)])) (fun D' hD => ?_) ?_
    · refine rd_comeI (n := n) (wt := wt) (p := lt.1) (d := lt.2) (fun R hR => ⟨_, rfl, q, CL, dx, _, _, rfl, hq, L.cl, L.nL, lfl_latest, hR⟩) (fun R hR => ⟨_, rfl, _, rfl, hR⟩) D0 hn hw fun H7 d' hd' off D7 => hD _ _ ⟨d', rfl, hd', off, ?_⟩
      unfold runAt
      rw [run_snoc]
      exact D7
    rintro σ' H1 ⟨ld, rfl, hld', off1, D1⟩
    have keep1 : ∀ {b : Addr} {o : HO}, b ≠ lt.1 → b ≠ lt.2 → H b = some o → H1 b = some o := fun h1 h2 e => off1 _ _ (fun hm => by
      rcases List.mem_cons.mp hm with z | z
      · exact h1 z
      · exact h2 (List.mem_singleton.mp z)) e
    have hq1 := keep1 qlp qld hq
    have hfl1 := keep1 flp fld hfl
    have dk1 : Paired (runAt C H1 r) ps fs := paired_monoM (fun z hz x D => DeskAt.off D off1 (fun hm => by
      rcases List.mem_cons.mp hm with e | e
      · exact (A0.ne z hz).1 e
      · have e := List.mem_singleton.mp e
        obtain ⟨dz, h⟩ := DeskAt.ob D
        rw [e, hld] at h
        cases h) (fun hm => by
      rcases List.mem_cons.mp hm with e | e
      · have h := DeskAt.dc D
        rw [e, hlp] at h
        cases h
      · exact (A0.ne z hz).2 (List.mem_singleton.mp e))) A0.dk
    have ne1 : ∀ z ∈ ps, z.1 ≠ lt.1 ∧ z.2 ≠ ld := fun z hz => ⟨(A0.ne z hz).1, by
      rcases hld' with rfl | h
      · exact (A0.ne z hz).2
      · obtain ⟨x, D⟩ := paired_mem A0.dk hz
        exact ne_of_none (DeskAt.dc D) h⟩
    -- came += 1
    refine sq_any (fun σ' H' => σ' = [some (.ref q), some (.str n), some (.int wt)] ∧ H' = upd H1 q (.ins CL dx (lfl r pc pn fl lt.1 (la.length + 1)))) (fun D' hD => ?_) ?_
    · refine ⟨_, rfl, q, CL, dx, _, _, rfl, hq1, L.cl, L.nC, lfl_came, _, _, rfl, rfl, dx, _, hq1, (by show 6 < 1000; decide), hD _ _ ⟨rfl, ?_⟩⟩
      rw [lfl_put_came]
    rintro σ' H2 ⟨rfl, rfl⟩
    have up : ∀ {b : Addr} {o : HO}, b ≠ q → H1 b = some o → upd H1 q (.ins CL dx (lfl r pc pn fl lt.1 (la.length + 1))) b = some o := fun h e => by rw [upd_ne h]; exact e
    have hq2 : upd H1 q (.ins CL dx (lfl r pc pn fl lt.1 (la.length + 1))) q = some (.ins CL dx (lfl r pc pn fl lt.1 (la.length + 1))) := upd_same
    have hfl2 := up qfl.symm hfl1
    have dskq : ∀ {z : Addr × Addr} {x : CM}, runAt C H1 r z x → runAt C (upd H1 q (.ins CL dx (lfl r pc pn fl lt.1 (la.length + 1)))) r z x := by
      intro z x D
      obtain ⟨dz, h⟩ := DeskAt.ob D
      refine DeskAt.off D (l := [q]) (Off.upd (List.mem_cons_self ..)) (fun hm => ?_) (fun hm => ?_)
      · rw [List.mem_singleton.mp hm, hq1] at h
        have := HO.ins.inj (Option.some.inj h)
        exact lfl_dfl this.2.2
      · have h := DeskAt.dc D
        rw [List.mem_singleton.mp hm, hq1] at h
        cases h
    have dk2 := paired_mono (fun _ _ => dskq) dk1
    have D2 := dskq D1
    have off2 : Off (latF q fl ps lt) H (upd H1 q (.ins CL dx (lfl r pc pn fl lt.1 (la.length + 1)))) := fun b o hb e => by
      have hb' := F0 b hb
      rw [upd_ne hb'.1]
      exact keep1 hb'.2.2.1 hb'.2.2.2 e
    clear D1 dk1 dskq up hfl1
    generalize upd H1 q (.ins CL dx (lfl r pc pn fl lt.1 (la.length + 1))) = H2 at hq2 hfl2 dk2 D2 off2 ⊢
    clear hq1 keep1 off1
    -- is the piece full
    refine ⟨_, rfl, q, CL, dx, _, _, rfl, hq2, L.cl, L.nC, lfl_came, _, rfl, q, CL, dx, _, _, rfl, hq2, L.cl, L.nP, lfl_piece, rfl, _, rfl, ?_⟩
    have lnat : (((la.length : Nat) : Int) + 1) = ((la.length + 1 : Nat) : Int) := rfl
    refine ite2 (fun h => ?_) (fun h => ?_)
    · have hfull : la.length + 1 = pc := by
        have := V.int.inj (of_decide_eq_true h)
        omega
      have lastps : (ps.map fun z => V.ref z.1) ++ [V.ref lt.1] = (ps ++ [(lt.1, ld)]).map fun z => V.ref z.1 := by rw [List.map_append]; rfl
      have fl50 : fs.length ≤ 50 := Nat.le_trans A0.cnt A0.n2
      have psl := A0.dk.length
      refine ⟨_, rfl, q, CL, dx, _, _, rfl, hq2, L.cl, L.nF, lfl_full, .inl ⟨rfl, _, SqL.of hfl2⟩, _, rfl, q, CL, dx, _, _, rfl, hq2, L.cl, L.nL, lfl_latest, fl, _, _, rfl, rfl, hfl2, small (by rw [List.length_map]; omega), ?_⟩
      rw [lastps]
      have hq3 : upd H2 fl (.lst ((ps ++ [(lt.1, ld)]).map fun z => V.ref z.1)) q = some (.ins CL dx (lfl r pc pn fl lt.1 (la.length + 1))) := by rw [upd_ne qfl]; exact hq2
      have hfl3 : upd H2 fl (.lst ((ps ++ [(lt.1, ld)]).map fun z => V.ref z.1)) fl = some (.lst ((ps ++ [(lt.1, ld)]).map fun z => V.ref z.1)) := upd_same
      have dskf : ∀ {z : Addr × Addr} {x : CM}, runAt C H2 r z x → runAt C (upd H2 fl (.lst ((ps ++ [(lt.1, ld)]).map fun z => V.ref z.1))) r z x := by
        intro z x D
        obtain ⟨dz, h⟩ := DeskAt.ob D
        refine DeskAt.off D (l := [fl]) (Off.upd (List.mem_cons_self ..)) (fun hm => ?_) (fun hm => ?_)
        · rw [List.mem_singleton.mp hm, hfl2] at h
          cases h
        · have h := DeskAt.dc D
          rw [List.mem_singleton.mp hm, hfl2] at h
          cases h
      have dk3 : Paired (runAt C (upd H2 fl (.lst ((ps ++ [(lt.1, ld)]).map fun z => V.ref z.1))) r) (ps ++ [(lt.1, ld)]) (fs ++ [la ++ [(n, wt)]]) := paired_snoc (paired_mono (fun _ _ => dskf) dk2) (dskf D2)
      have off3 : Off (latF q fl ps lt) H (upd H2 fl (.lst ((ps ++ [(lt.1, ld)]).map fun z => V.ref z.1))) := fun b o hb e => by
        rw [upd_ne (F0 b hb).2.1]
        exact off2 b o hb e
      have sm : ∀ z ∈ ps ++ [(lt.1, ld)], (z.1 ∈ latF q fl ps lt) ∧ (z.2 ∈ latF q fl ps lt ∨ H z.2 = none) := fun z hz => by
        rcases List.mem_append.mp hz with h | h
        · exact ⟨mem_latF.mpr (.inr (.inr (.inr (.inr ⟨z, h, .inl rfl⟩)))), .inl (mem_latF.mpr (.inr (.inr (.inr (.inr ⟨z, h, .inr rfl⟩)))))⟩
        · rw [List.mem_singleton.mp h]
          refine ⟨mem_latF.mpr (.inr (.inr (.inl rfl))), ?_⟩
          rcases hld' with e | e
          · exact .inl (mem_latF.mpr (.inr (.inr (.inr (.inl e)))))
          · exact .inr e
      clear dskf hfl2 hq2 dk2 D2 off2
      generalize upd H2 fl (.lst ((ps ++ [(lt.1, ld)]).map fun z => V.ref z.1)) = H3 at hq3 hfl3 dk3 off3 ⊢
      generalize hps : ps ++ [(lt.1, ld)] = ps3 at hfl3 dk3 sm ⊢
      -- the last of them
      refine ⟨_, rfl, q, CL, dx, _, _, rfl, hq3, L.cl, L.nF, lfl_full, _, rfl, q, CL, dx, _, _, rfl, hq3, L.cl, L.nS, lfl_pieces, _, rfl, _, rfl, fl, _, rfl, SqL.of hfl3, fun nf hnf => ?_⟩
      rw [cut_last _ pn A0.n1, lastn_map]
      have xf := Evl.Ex.new (o := .lst ((lastn pn ps3).map fun z => V.ref z.1)) hnf
      have qnf : q ≠ nf := ne_of_none hq3 hnf
      refine ⟨_, rfl, q, CL, dx, _, rfl, xf _ _ hq3, L.cl, L.nF, (by show 6 < 1000; decide), ?_⟩
      rw [lfl_put_full]
      have dk5 : Paired (runAt C (upd (upd H3 nf (.lst ((lastn pn ps3).map fun z => V.ref z.1))) q (.ins CL dx (lfl r pc pn nf lt.1 (la.length + 1)))) r) (lastn pn ps3) (lastn pn (fs ++ [la ++ [(n, wt)]])) := by
        refine paired_mono (fun z x D => ?_) (paired_last dk3)
        have D' := DeskAt.ex D xf
        obtain ⟨dz, h⟩ := DeskAt.ob D'
        refine DeskAt.off D' (l := [q]) (Off.upd (List.mem_cons_self ..)) (fun hm => ?_) (fun hm => ?_)
        · rw [List.mem_singleton.mp hm, xf _ _ hq3] at h
          have := HO.ins.inj (Option.some.inj h)
          exact lfl_dfl this.2.2
        · have h := DeskAt.dc D'
          rw [List.mem_singleton.mp hm, xf _ _ hq3] at h
          cases h
      have hq5 : upd (upd H3 nf (.lst ((lastn pn ps3).map fun z => V.ref z.1))) q (.ins CL dx (lfl r pc pn nf lt.1 (la.length + 1))) q = some (.ins CL dx (lfl r pc pn nf lt.1 (la.length + 1))) := upd_same
      have hnf5 : upd (upd H3 nf (.lst ((lastn pn ps3).map fun z => V.ref z.1))) q (.ins CL dx (lfl r pc pn nf lt.1 (la.length + 1))) nf = some (.lst ((lastn pn ps3).map fun z => V.ref z.1)) := by rw [upd_ne qnf.symm]; exact upd_same
      have off5 : Off (latF q fl ps lt) H (upd (upd H3 nf (.lst ((lastn pn ps3).map fun z => V.ref z.1))) q (.ins CL dx (lfl r pc pn nf lt.1 (la.length + 1)))) := fun b o hb e => by
        rw [upd_ne (F0 b hb).1]
        exact xf _ _ (off3 b o hb e)
      have fnf := off_fresh off3 hnf
      generalize upd (upd H3 nf (.lst ((lastn pn ps3).map fun z => V.ref z.1))) q (.ins CL dx (lfl r pc pn nf lt.1 (la.length + 1))) = H5 at dk5 hq5 hnf5 off5 ⊢
      -- a new desk
      refine rd_new (fun Q' h' => ⟨_, rfl, q, CL, dx, _, _, rfl, hq5, L.cl, L.nR, lfl_room, h'⟩) D0.r1 D0.r2 fun lp' ld2 H6 np nd0 npd ex6 D6 => ?_
      have hq6 := ex6 _ _ hq5
      refine ⟨_, rfl, q, CL, dx, _, rfl, hq6, L.cl, L.nL, (by show 6 < 1000; decide), ?_⟩
      rw [lfl_put_latest]
      refine ⟨_, rfl, q, CL, dx, _, rfl, upd_same, L.cl, L.nC, (by show 6 < 1000; decide), ?_⟩
      rw [lfl_put_came]
      have qlp' : q ≠ lp' := ne_of_none hq5 np
      have qld' : q ≠ ld2 := ne_of_none hq5 nd0
      have off8 : Off (latF q fl ps lt) H (upd (upd H6 q (.ins CL dx (lfl r pc pn nf lp' (la.length + 1)))) q (.ins CL dx (lfl r pc pn nf lp' 0))) := fun b o hb e => by
        rw [upd_ne (F0 b hb).1, upd_ne (F0 b hb).1]
        exact ex6 _ _ (off5 b o hb e)
      have dq : ∀ {z : Addr × Addr} {x : CM}, runAt C H6 r z x → runAt C (upd (upd H6 q (.ins CL dx (lfl r pc pn nf lp' (la.length + 1)))) q (.ins CL dx (lfl r pc pn nf lp' 0))) r z x := by
        intro z x D
        obtain ⟨dz, h⟩ := DeskAt.ob D
        refine DeskAt.off D (l := [q]) (fun b o hb e => ?_) (fun hm => ?_) (fun hm => ?_)
        · have nb : b ≠ q := fun z => hb (by rw [z]; exact List.mem_cons_self ..)
          rw [upd_ne nb, upd_ne nb]
          exact e
        · rw [List.mem_singleton.mp hm, hq6] at h
          have := HO.ins.inj (Option.some.inj h)
          exact lfl_dfl this.2.2
        · have h := DeskAt.dc D
          rw [List.mem_singleton.mp hm, hq6] at h
          cases h
      have est : stepP pc pn (fs, la) (n, wt) = (lastn pn (fs ++ [la ++ [(n, wt)]]), []) := if_pos hfull
      rw [est] at q1'
      refine q1' _ nf (lastn pn ps3) (lp', ld2) (fun a ha => ?_) off8 ⟨⟨dx, upd_same⟩, by rw [upd_ne qnf.symm, upd_ne qnf.symm]; exact ex6 _ _ hnf5, paired_mono (fun _ _ D => dq (DeskAt.ex D ex6)) dk5, dq (show runAt C H6 r (lp', ld2) [] from D6), fun z hz => ?_, by have := A0.len; show 0 < pc; omega, lastn_len _ _, A0.p2, A0.n1, A0.n2, fun x hx => ?_⟩
      · rcases mem_latF.mp ha with rfl | rfl | rfl | rfl | ⟨z, hz, e⟩
        · exact .inl (mem_latF.mpr (.inl rfl))
        · exact fnf
        · exact off_fresh off5 np
        · exact off_fresh off5 nd0
        · have h := sm z (lastn_mem hz)
          rcases e with rfl | rfl
          · exact .inl h.1
          · exact h.2
      · obtain ⟨x, D⟩ := paired_mem dk5 hz
        obtain ⟨dz, h⟩ := DeskAt.ob D
        exact ⟨ne_of_none h np, ne_of_none (DeskAt.dc D) nd0⟩
      · rcases List.mem_append.mp (lastn_mem hx) with h | h
        · exact A0.eq x h
        · rw [List.mem_singleton.mp h, List.length_append]
          exact hfull
    · have hfull : ¬ la.length + 1 = pc := fun z => h (decide_eq_true (congrArg V.int (by rw [lnat, z])))
      have est : stepP pc pn (fs, la) (n, wt) = (fs, la ++ [(n, wt)]) := if_neg hfull
      rw [est] at q1'
      refine q1' H2 fl ps (lt.1, ld) (fun a ha => ?_) off2 ⟨⟨dx, by rw [hq2, List.length_append]; rfl⟩, hfl2, dk2, D2, ne1, by have := A0.len; rw [List.length_append]; show la.length + 1 < pc; omega, A0.cnt, A0.p2, A0.n1, A0.n2, A0.eq⟩
      rcases mem_latF.mp ha with z | z | z | z | z
      · exact .inl (mem_latF.mpr (.inl z))
      · exact .inl (mem_latF.mpr (.inr (.inl z)))
      · exact .inl (mem_latF.mpr (.inr (.inr (.inl z))))
      · rcases hld' with e | e
        · exact .inl (mem_latF.mpr (.inr (.inr (.inr (.inl (z.trans e))))))
        · rw [show a = ld from z]
          exact .inr e
      · exact .inl (mem_latF.mpr (.inr (.inr (.inr (.inr z)))))
/-- all that is kept, in one desk -/
def spLatTold (C CL : Addr) : Sp := fun vs H Q _ => ∃ (q fl : Addr) (ps : List (Addr × Addr)) (lt : Addr × Addr) (r : Int) (pc pn : Nat) (fs : List CM) (la : CM), vs = [.ref q] ∧ LatAt C CL H q fl ps lt r pc pn fs la ∧
  ∀ (H' : Hp) (p d : Addr), Ex H H' → H p = none → H d = none → DeskAt C H' p d r (tellD r (fs ++ [la])).1 (tellD r (fs ++ [la])).2.1 (tellD r (fs ++ [la])).2.2 → Q (.ref p) H'
theorem ok_latTold {f fI : Addr} {fd fdI : FuncData} (F : Fun K "told" "Lately.told" sLatelyTold f fd) (T : DkT K mg C CN CW CD) (L : LtT K mg CL) (MI : Mk K C fI) (GI : FnOk P w K mg base (L2.CX P w) 3 fI fdI pDInit (spInit K C CD)) (bI : Binds K fdI pDInit [])
    (GO : Gf P w K mg base (L2.CX P w) 6 "poured" pPoured (spPoured C CQ)) : FnOk P w K mg base CX0 7 f fd pLatelyTold (spLatTold C CL) := by
  obtain ⟨fO, fdO, gO, bO, mO, kpO⟩ := GO.ex
  refine F.ok cLatelyTold (fun vs H Q E h => ?_) (fun cdv A outer s H vs Q E hr h => ?_)
  · obtain ⟨q, fl, ps, lt, r, pc, pn, fs, la, rfl, _⟩ := h
    rfl
  · obtain ⟨q, fl, ps, lt, r, pc, pn, fs, la, rfl, A0, qq⟩ := h
    refine ⟨_, pss_cons (ps_set (i := 1) cLatelyTold.nd rfl (Or.inl rfl) (pe_make MI GI (hr.mono (by decide)) rfl T.mgC bI .nil passL (pa_cons (pe_fld (pv 0) rfl) pa_nil)))
      (pss_cons (ps_for PassesOwn.never rfl (pi_list (pe_op op_cat (pe_fld (pv 0) rfl) (pe_lst (pa_cons (pe_fld (pv 0) rfl) pa_nil)))) (pg_name (i := 2) cLatelyTold.nd rfl (Or.inl rfl))
        (pss_one (ps_set (i := 1) cLatelyTold.nd rfl (Or.inl rfl) (pe_call gO hr rfl mO kpO bO .nil passL (pa_cons (pv 1) (pa_cons (pv 2) pa_nil))))))
      (pss_one (ps_ret (pv 1)))), ?_⟩
    rw [← wMake_eq]
    obtain ⟨dx, hq⟩ := A0.ob
    have one : 1 ≤ sizeLine := by rw [sizeLine_eq]; decide
    have fl50 : fs.length ≤ 50 := Nat.le_trans A0.cnt A0.n2
    have psl := A0.dk.length
    refine sq_any (fun σ' H' => ∃ p d : Addr, σ' = [some (.ref q), some (.ref p), none] ∧ H p = none ∧ H d = none ∧ Ex H H' ∧ DeskAt C H' p d r [] 0 0)
      (fun D' hD => rd_new (fun Q' h' => ⟨_, rfl, q, CL, dx, _, _, rfl, hq, L.cl, L.nR, lfl_room, h'⟩) (DeskAt.r1 A0.dl) (DeskAt.r2 A0.dl) fun p d0 H1 np nd0 _ ex1 D0 => hD _ _ ⟨p, d0, rfl, np, nd0, ex1, D0⟩) ?_
    rintro σ' H1 ⟨p, d0, rfl, np, nd0, ex1, D0⟩
    have hq1 := ex1 _ _ hq
    refine ⟨_, rfl, q, CL, dx, _, _, rfl, hq1, L.cl, L.nF, lfl_full, _, rfl, q, CL, dx, _, _, rfl, hq1, L.cl, L.nL, lfl_latest, one, fun l1 hl1 => ?_⟩
    have x1 := Evl.Ex.new (o := .lst [.ref lt.1]) hl1
    refine ⟨fl, l1, _, _, rfl, rfl, x1 _ _ (ex1 _ _ A0.ls), upd_same, ?_, fun l2 hl2 => ?_⟩
    · rw [List.length_map]
      show ps.length + 1 ≤ sizeLine
      rw [sizeLine_eq]
      omega
    have lastps : (ps.map fun z => V.ref z.1) ++ [V.ref lt.1] = (ps ++ [lt]).map fun z => V.ref z.1 := by rw [List.map_append]; rfl
    rw [lastps]
    have x2 := x1.trans (Evl.Ex.new (o := .lst ((ps ++ [lt]).map fun z => V.ref z.1)) hl2)
    have e2 := upd_same (H := upd H1 l1 (.lst [.ref lt.1])) (a := l2) (o := .lst ((ps ++ [lt]).map fun z => V.ref z.1))
    have all : Paired (runAt C H r) (ps ++ [lt]) (fs ++ [la]) := paired_snoc A0.dk A0.dl
    have alen : (ps ++ [lt]).length = (fs ++ [la]).length := all.length
    generalize upd (upd H1 l1 (.lst [.ref lt.1])) l2 (.lst ((ps ++ [lt]).map fun z => V.ref z.1)) = H2 at x2 e2 ⊢
    refine ⟨l2, rfl, ⟨_, SqL.of e2⟩, for_list (K := K) (a := l2) (xs := (ps ++ [lt]).map fun z => V.ref z.1) (fun i σ H' => ∃ (p d : Addr) (v2 : Option V), σ = [some (.ref q), some (.ref p), v2] ∧ Ex H H' ∧ Ex H2 H' ∧ H p = none ∧ H d = none ∧ DeskAt C H' p d r (tellD r ((fs ++ [la]).take i)).1 (tellD r ((fs ++ [la]).take i)).2.1 (tellD r ((fs ++ [la]).take i)).2.2)
      ⟨p, d0, _, rfl, ex1.trans x2, Evl.Ex.refl _, np, nd0, D0.ex x2⟩ (fun _ _ _ _ ⟨_, _, _, _, _, h, _⟩ => SqL.of (h _ _ e2)) ?_ ?_⟩
    · rintro i x σ H3 hi ⟨p, d, v2, rfl, h1, h2, np, nd, D⟩
      rw [List.getElem?_map] at hi
      obtain ⟨z, hz, rfl⟩ : ∃ z, (ps ++ [lt])[i]? = some z ∧ V.ref z.1 = x := by
        cases e : (ps ++ [lt])[i]? with
        | none => rw [e] at hi; cases hi
        | some z => rw [e] at hi; exact ⟨z, rfl, Option.some.inj hi⟩
      obtain ⟨y, hy, Dz⟩ := LiI.paired_get all hz
      have Dz3 : DeskAt C H3 z.1 z.2 r _ _ _ := DeskAt.ex Dz h1
      have tk : (fs ++ [la]).take (i + 1) = (fs ++ [la]).take i ++ [y] := by
        obtain ⟨hl, rfl⟩ := List.getElem?_eq_some_iff.mp hy
        exact List.take_succ_eq_append_getElem hl
      refine ⟨_, rfl, _, rfl, p, d, r, _, _, _, z.1, z.2, r, _, _, _, rfl, D, Dz3, fun _ H' p' d' ex hp hd DD => ⟨p', d', _, rfl, h1.trans ex, h2.trans ex, none_ex h1 hp, none_ex h1 hd, ?_⟩, fun h => absurd rfl h⟩
      rw [tk, tellD_snoc]
      exact DD
    · rintro σ H3 ⟨p, d, v2, rfl, h1, h2, np, nd, D⟩
      rw [List.length_map, alen, List.take_of_length_le (Nat.le_refl _)] at D
      exact ⟨_, rfl, qq H3 p d h1 np nd D⟩
/-- how many of the last -/
def spLatReach (C CL : Addr) : Sp := fun vs H Q _ => ∃ (q fl : Addr) (ps : List (Addr × Addr)) (lt : Addr × Addr) (r : Int) (pc pn : Nat) (fs : List CM) (la : CM), vs = [.ref q] ∧ LatAt C CL H q fl ps lt r pc pn fs la ∧ Q (.int ((fs.length * pc + la.length : Nat) : Int)) H
theorem ok_latReach {f : Addr} {fd : FuncData} (F : Fun K "reach" "Lately.reach" sLatelyReach f fd) (T : DkT K mg C CN CW CD) (L : LtT K mg CL) : FnOk P w K mg base CX0 1 f fd pLatelyReach (spLatReach C CL) := by
  refine F.ok cLatelyReach (fun vs H Q E h => ?_) (fun cdv A outer s H vs Q E hr h => ?_)
  · obtain ⟨q, fl, ps, lt, r, pc, pn, fs, la, rfl, _⟩ := h
    rfl
  · obtain ⟨q, fl, ps, lt, r, pc, pn, fs, la, rfl, A0, qq⟩ := h
    refine ⟨_, pss_one (ps_ret (pe_op op_add (pe_op op_mul (pe_callB call_len_seq (by rfl) T.len PySem.boot_len (pa_cons (pe_fld (pv 0) rfl) pa_nil)) (pe_fld (pv 0) rfl)) (pe_fld (pv 0) rfl))), ?_⟩
    obtain ⟨dx, hq⟩ := A0.ob
    have fl50 : fs.length ≤ 50 := Nat.le_trans A0.cnt A0.n2
    have psl := A0.dk.length
    refine ⟨_, rfl, q, CL, dx, _, _, rfl, hq, L.cl, L.nF, lfl_full, fl, _, rfl, .inl (SqL.of A0.ls), _, rfl, q, CL, dx, _, _, rfl, hq, L.cl, L.nP, lfl_piece, _, _, rfl, rfl, .inl ⟨by rw [List.length_map]; omega, by rw [List.length_map]; omega⟩, _, rfl, q, CL, dx, _, _, rfl, hq, L.cl, L.nC, lfl_came, _, _, rfl, rfl, ?_⟩
    rw [List.length_map, psl]
    exact qq
end
section
variable {K : PySem.W.Frag} {σ : L2.St} {H : Hp} {Q : VK}
/-- [e[1] for e in l if e[0] == n] of pairs: the weights of a name -/
theorem wsum_reads {i j v : Nat} {a : Addr} {ts : List Addr} {pl : CM} {n : Str} (hi : σ[i]? = some (some (.ref a))) (hw : ∀ t : Addr, wipe ((wipe σ [v]).set v (some (.ref t))) [v] = wipe σ [v]) (hv : ∀ t : Addr, ((wipe σ [v]).set v (some (.ref t)))[v]? = some (some (.ref t)))
    (hj : ∀ t : Addr, ((wipe σ [v]).set v (some (.ref t)))[j]? = some (some (.str n))) (hS : SqL K H a (ts.map V.ref)) (hP : PrsAt H ts pl) (hl : pl.length ≤ 1000)
    (q : ∀ (H' : Hp) (r : Addr), H r = none → Ex H H' → H' r = some (.lst (((pl.filter fun e => decide (e.1 = n)).map (·.2)).map V.int)) → Q (.ref r) H') :
    wLc (iList K (tVar i)) (gName v) (tTest (tOp rEq (tOp (rIxT K) (tVar v) (tC (.int 0))) (tVar j))) (tOp (rIxT K) (tVar v) (tC (.int 1))) [v] σ H Q := by
  rw [wLc_eq]
  refine ⟨_, hi, a, rfl, ⟨_, hS⟩, fun L hL => ?_⟩
  refine lc_list (K := K) (a := a) (xs := ts.map V.ref) (fun k H2 => Ex H H2 ∧ H2 L = some (.lst ((((pl.take k).filter fun e => decide (e.1 = n)).map (·.2)).map V.int))) ⟨Evl.Ex.new hL, upd_same⟩ (fun k H2 _ h => sql_ex hS h.1) ?_ ?_
  · rintro k x H2 hk ⟨h1, h2⟩
    rw [List.getElem?_map] at hk
    obtain ⟨T1, hT, rfl⟩ : ∃ T1, ts[k]? = some T1 ∧ V.ref T1 = x := by
      cases e : ts[k]? with
      | none => rw [e] at hk; cases hk
      | some T1 => rw [e] at hk; exact ⟨T1, rfl, Option.some.inj hk⟩
    obtain ⟨e, he, hTe⟩ := LiI.paired_get hP hT
    have hTe2 := h1 _ _ hTe
    have tk : pl.take (k + 1) = pl.take k ++ [e] := by
      obtain ⟨hl, rfl⟩ := List.getElem?_eq_some_iff.mp he
      exact List.take_succ_eq_append_getElem hl
    refine ⟨hw T1, _, hv T1, T1, _, 0, .str e.1, rfl, rfl, SqT.of hTe2, atI_nat (j := 0) rfl, _, hj T1, rfl, _, rfl, ?_⟩
    refine ite2 (fun h => ?_) (fun h => ?_)
    · have hn : e.1 = n := V.str.inj (of_decide_eq_true h)
      refine ⟨_, hv T1, T1, _, 1, .int e.2, rfl, rfl, SqT.of hTe2, atI_nat (j := 1) rfl, _, h2, small ?_, fun b o eb => ?_, ?_⟩
      · rw [List.length_map, List.length_map]
        have a1 := List.length_filter_le (fun e : Str × Int => decide (e.1 = n)) (pl.take k)
        have a2 : (pl.take k).length ≤ pl.length := by rw [List.length_take]; omega
        omega
      · rw [upd_ne (ne_of_none eb hL)]
        exact h1 _ _ eb
      · rw [upd_same, tk]
        simp [List.filter_append, hn]
    · have hn : ¬ e.1 = n := fun z => h (decide_eq_true (congrArg V.str z))
      refine ⟨h1, ?_⟩
      rw [h2, tk]
      simp [List.filter_append, hn]
  · rintro H2 ⟨h1, h2⟩
    rw [List.length_map, prs_len hP, List.take_of_length_le (Nat.le_refl _)] at h2
    exact q H2 L hL h1 h2
/-- [e[1] for e in l] of pairs -/
theorem wall_reads {i v : Nat} {a : Addr} {ts : List Addr} {pl : CM} (hi : σ[i]? = some (some (.ref a))) (hw : ∀ t : Addr, wipe ((wipe σ [v]).set v (some (.ref t))) [v] = wipe σ [v]) (hv : ∀ t : Addr, ((wipe σ [v]).set v (some (.ref t)))[v]? = some (some (.ref t)))
    (hS : SqL K H a (ts.map V.ref)) (hP : PrsAt H ts pl) (hl : pl.length ≤ 1000)
    (q : ∀ (H' : Hp) (r : Addr), H r = none → Ex H H' → H' r = some (.lst ((pl.map (·.2)).map V.int)) → Q (.ref r) H') :
    wLc (iList K (tVar i)) (gName v) tYes (tOp (rIxT K) (tVar v) (tC (.int 1))) [v] σ H Q := by
  rw [wLc_eq]
  refine ⟨_, hi, a, rfl, ⟨_, hS⟩, fun L hL => ?_⟩
  refine lc_list (K := K) (a := a) (xs := ts.map V.ref) (fun k H2 => Ex H H2 ∧ H2 L = some (.lst (((pl.take k).map (·.2)).map V.int))) ⟨Evl.Ex.new hL, upd_same⟩ (fun k H2 _ h => sql_ex hS h.1) ?_ ?_
  · rintro k x H2 hk ⟨h1, h2⟩
    rw [List.getElem?_map] at hk
    obtain ⟨T1, hT, rfl⟩ : ∃ T1, ts[k]? = some T1 ∧ V.ref T1 = x := by
      cases e : ts[k]? with
      | none => rw [e] at hk; cases hk
      | some T1 => rw [e] at hk; exact ⟨T1, rfl, Option.some.inj hk⟩
    obtain ⟨e, he, hTe⟩ := LiI.paired_get hP hT
    have hTe2 := h1 _ _ hTe
    have tk : pl.take (k + 1) = pl.take k ++ [e] := by
      obtain ⟨hl, rfl⟩ := List.getElem?_eq_some_iff.mp he
      exact List.take_succ_eq_append_getElem hl
    refine ⟨hw T1, L2.iteT (B := Ex H H2 ∧ H2 L = some (.lst (((pl.take (k + 1)).map (·.2)).map V.int))) ?_⟩
    refine ⟨_, hv T1, T1, _, 1, .int e.2, rfl, rfl, SqT.of hTe2, atI_nat (j := 1) rfl, _, h2, small ?_, fun b o eb => ?_, ?_⟩
    · rw [List.length_map, List.length_map, List.length_take]
      omega
    · rw [upd_ne (ne_of_none eb hL)]
      exact h1 _ _ eb
    · rw [upd_same, tk]
      simp
  · rintro H2 ⟨h1, h2⟩
    rw [List.length_map, prs_len hP, List.take_of_length_le (Nat.le_refl _)] at h2
    exact q H2 L hL h1 h2
end
/-! ### reading what a law asks of a row of desks -/
section
variable {K : PySem.W.Frag} {C CL CN CW CD CP : Addr} {σ : L2.St} {H : Hp} {Q : VK}
theorem rd_lmake {t : TA} {r : Int} {pc pn : Nat} (ht : ∀ R : List V → Hp → Prop, R [.int r, .int pc, .int pn] H → t σ H R) (h1 : 1 ≤ r) (h2 : r ≤ 50) (p1 : 1 ≤ pc) (p2 : pc ≤ 1000) (n1 : 1 ≤ pn) (n2 : pn ≤ 50)
    (q : ∀ (H' : Hp) (q fl : Addr) (lt : Addr × Addr), (∀ a ∈ latF q fl [] lt, H a = none) → Ex H H' → LatAt C CL H' q fl [] lt r pc pn [] [] → Q (.ref q) H') : wMake CL (spLatInit K C CL CD CP) [] E0 t σ H Q := by
  rw [wMake_eq]
  refine ht _ fun p dx hp hdx hne => ⟨p, .int r, .int pc, .int pn, dx, rfl, upd_same, fun _ => thing_int _, fun _ => thing_int _, fun _ => thing_int _, fun r' pc' pn' e1 e2 e3 _ _ _ _ _ _ H' fl lt fr off A => ?_, fun e => ?_, fun _ e => ?_⟩
  · cases e1
    have e2 := V.int.inj e2
    have e3 := V.int.inj e3
    obtain rfl : pc' = pc := by omega
    obtain rfl : pn' = pn := by omega
    refine ⟨rfl, q H' p fl lt (fun a ha => ?_) (fun b o e => off b o (fun z => ?_) ?_) A⟩
    · rcases fr a ha with rfl | h
      · exact hp
      · by_cases e1 : a = p
        · rw [e1]; exact hp
        · rw [upd_ne e1] at h
          by_cases e2 : a = dx
          · rw [e2, upd_same] at h; cases h
          · rw [upd_ne e2] at h; exact h
    · rw [List.mem_singleton.mp z, hp] at e
      cases e
    · rw [upd_ne (ne_of_none e hp), upd_ne (ne_of_none e hdx)]
      exact e
  · rw [show isRoomV (.int r) = true from decide_eq_true ⟨h1, h2⟩] at e
    cases e
  · rw [show isPc 1000 (.int pc) = true from decide_eq_true ⟨by omega, by omega⟩, show isPc 50 (.int pn) = true from decide_eq_true ⟨by omega, by omega⟩] at e
    cases e
variable {q fl : Addr} {ps : List (Addr × Addr)} {lt : Addr × Addr} {r : Int} {pc pn : Nat} {fs : List CM} {la : CM}
theorem rd_lcome {i : Nat} {ta : TA} {dvs ws : List V} {n : Str} {wt : Int} (hσ : σ[i]? = some (some (.ref q))) (ht : ∀ R : List V → Hp → Prop, R ws H → ta σ H R) (hws : ws ++ dvs = [.str n, .int wt]) (A : LatAt C CL H q fl ps lt r pc pn fs la) (hn : isName n = true) (hw : isWt wt = true)
    (k : ∀ (H' : Hp) (fl' : Addr) (ps' : List (Addr × Addr)) (lt' : Addr × Addr), (∀ a ∈ latF q fl' ps' lt', a ∈ latF q fl ps lt ∨ H a = none) → Off (latF q fl ps lt) H H' → LatAt C CL H' q fl' ps' lt' r pc pn (stepP pc pn (fs, la) (n, wt)).1 (stepP pc pn (fs, la) (n, wt)).2 → Q .non H') :
    wMeth CL "come" (spLatCome K C CL CN CW) dvs E0 (tVar i) ta σ H Q := by
  rw [wMeth_eq]
  obtain ⟨dx, hq⟩ := A.ob
  refine ⟨_, hσ, q, dx, _, rfl, hq, lfl_no (by decide +kernel), ht _ ?_⟩
  refine ⟨q, fl, ps, lt, r, pc, pn, fs, la, .str n, .int wt, ?_, A, fun _ => thing_str n, fun _ => thing_int wt, fun z e => ?_, fun n' w' e1 e2 _ _ H' fl' ps' lt' h1 h2 h3 => ?_, fun e => ?_, fun _ e => ?_⟩
  · rw [← hws]
  · cases e
    exact name_size hn
  · cases e1
    cases e2
    exact k H' fl' ps' lt' h1 h2 h3
  · rw [show isNameV (.str n) = true from hn] at e
    cases e
  · rw [show isWtV (.int wt) = true from hw] at e
    cases e
theorem rd_ltold {i : Nat} (hσ : σ[i]? = some (some (.ref q))) (A : LatAt C CL H q fl ps lt r pc pn fs la)
    (k : ∀ (H' : Hp) (p d : Addr), Ex H H' → H p = none → H d = none → DeskAt C H' p d r (tellD r (fs ++ [la])).1 (tellD r (fs ++ [la])).2.1 (tellD r (fs ++ [la])).2.2 → Q (.ref p) H') : wMeth CL "told" (spLatTold C CL) [] E0 (tVar i) tNil σ H Q := by
  rw [wMeth_eq]
  obtain ⟨dx, hq⟩ := A.ob
  exact ⟨_, hσ, q, dx, _, rfl, hq, lfl_no (by decide +kernel), q, fl, ps, lt, r, pc, pn, fs, la, rfl, A, k⟩
theorem rd_lreach {i : Nat} (hσ : σ[i]? = some (some (.ref q))) (A : LatAt C CL H q fl ps lt r pc pn fs la) (k : Q (.int ((fs.length * pc + la.length : Nat) : Int)) H) : wMeth CL "reach" (spLatReach C CL) [] E0 (tVar i) tNil σ H Q := by
  rw [wMeth_eq]
  obtain ⟨dx, hq⟩ := A.ob
  exact ⟨_, hσ, q, dx, _, rfl, hq, lfl_no (by decide +kernel), q, fl, ps, lt, r, pc, pn, fs, la, rfl, A, k⟩
end
/-! ### a row of desks made wrong, a coming to it refused -/
section
variable {P : Program} {w : World} {K : PySem.W.Frag} {mg : Str → Option Value} {base : Heap} {C CL CN CW CD CQ CP CT CE : Addr}
def spLMade (K : PySem.W.Frag) : Sp := fun vs H Q _ => ∃ (x y z : V), vs = [x, y, z] ∧ (∀ H' : Hp, Thing K H' x) ∧ (∀ H' : Hp, Thing K H' y) ∧ (∀ H' : Hp, Thing K H' z) ∧ (isRoomV x = false → ∀ H' : Hp, Ex H H' → Q (.str "desk") H') ∧
  (isRoomV x = true → (isPc 1000 y && isPc 50 z) = false → ∀ H' : Hp, Ex H H' → Q (.str "piece") H') ∧ (isRoomV x = true → (isPc 1000 y && isPc 50 z) = true → ∀ H' : Hp, Ex H H' → Q (.str "") H')
theorem ok_lmade {f fLI : Addr} {fd fdLI : FuncData} (F : Fun K "_law_made" "_law_made" sLMade f fd) (ML : Mk K CL fLI) (GI : FnOk P w K mg base (L2.CX P w) 5 fLI fdLI pLatelyInit (spLatInit K C CL CD CP)) (bI : Binds K fdLI pLatelyInit []) (mgL : mg "Lately" = some (.ref CL))
    (GW : Gf P w K mg base CX0 1 "_law_word" pLWord (spWord K CN CW CD CQ CP CT)) (gE : mg "DrawerError" = some (.ref CE)) (hD' : PySem.W.exmOne K (.ref CD) (.ref CE) = some true) (hP : PySem.W.exmOne K (.ref CP) (.ref CE) = some true)
    (kD : Kind K CN CW CD CQ CP CT CD false false true false false false) (kP : Kind K CN CW CD CQ CP CT CP false false false false true false)
    (zN : PySem.W.kitOne K (.type "NoneType") (.ref CN) = some false) (zW : PySem.W.kitOne K (.type "NoneType") (.ref CW) = some false) (zD : PySem.W.kitOne K (.type "NoneType") (.ref CD) = some false) (zM : PySem.W.kitOne K (.type "NoneType") (.ref CQ) = some false) (zP : PySem.W.kitOne K (.type "NoneType") (.ref CP) = some false) (zT : PySem.W.kitOne K (.type "NoneType") (.ref CT) = some false) :
    FnOk P w K mg base CX0 7 f fd pLMade (spLMade K) := by
  obtain ⟨f2, fd2, gW, bW, mW, kpW⟩ := GW.ex
  refine F.ok cLMade (fun vs H Q E h => ?_) (fun cdv A outer s H vs Q E hr h => ?_)
  · obtain ⟨x, y, z, rfl, _⟩ := h
    rfl
  · obtain ⟨x, y, z, rfl, tx, ty, tz, qD, qP, qG⟩ := h
    refine ⟨_, pss_cons (ps_set (i := 3) cLMade.nd rfl (Or.inl rfl) pe_non)
      (pss_cons (ps_try_hold (i := 4) (j := 3) (tb := fun W => tDrop (tMake CL (spLatInit K C CL CD CP) [] (fun cls d H => ∀ σ, W cls d σ H) (tCons (tVar 0) (tCons (tVar 1) (tCons (tVar 2) tNil)))))
        (Wout := fun _ _ _ _ => False) rfl rfl rfl cLMade.nd rfl rfl ⟨rfl, by decide, Or.inl gE⟩ takes0
        (fun W pn xe tk _ => pss_one (ps_expr (pe_make ML GI (hr.mono (by decide)) rfl mgL bI .nil (passes_call tk (fun cls d σ H h => h σ)) (pa_cons (pv 0) (pa_cons (pv 1) (pa_cons (pv 2) pa_nil))))))
        (fun a pn => pss_one (ps_set (i := 3) cLMade.nd rfl (Or.inl rfl) (pv 4))))
      (pss_one (ps_ret (pe_call gW (hr.mono (by decide)) rfl mW kpW bW .nil pass0 (pa_cons (pv 3) pa_nil))))), ?_⟩
    refine sq_any (fun σ' H' => σ' = [some x, some y, some z, some .non, none] ∧ H = H') (fun D' hD => hD _ _ ⟨rfl, rfl⟩) ?_
    rintro σ' _ ⟨rfl, rfl⟩
    refine sq_any (fun σ' H' => (σ' = [some x, some y, some z, some .non, none] ∧ Ex H H' ∧ isRoomV x = true ∧ (isPc 1000 y && isPc 50 z) = true) ∨ ∃ (a D : Addr) (b3 b5 : Bool), σ'[3]? = some (some (.ref a)) ∧ Ex H H' ∧ H' a = some (Held (.ref D) none a) ∧ Kind K CN CW CD CQ CP CT D false false b3 false b5 false ∧
        ∀ H' : Hp, Ex H H' → Q (.str (PySem.Txt.join " " (picked words6 [false, false, b3, false, b5, false]))) H') (fun D' hQ => ?_) ?_
    · refine ⟨_, rfl, _, rfl, _, rfl, fun o dx ho hdx hne => ?_⟩
      have ex1 : Ex H (upd (upd H dx (.own o)) o (.ins CL dx [])) := fun b u e => by
        rw [upd_ne (ne_of_none e ho), upd_ne (ne_of_none e hdx)]
        exact e
      refine ⟨o, x, y, z, dx, rfl, upd_same, tx, ty, tz, fun r pc pn e1 e2 e3 r1 r2 p1 p2 n1 n2 H' fl lt fr off A => ⟨rfl, hQ _ _ (.inl ⟨rfl, fun b u e => off b u (fun z => ?_) (ex1 _ _ e), ?_, ?_⟩)⟩, fun h1 σ2 => ?_, fun h1 h2 H' ex' σ2 => ?_⟩
      · rw [List.mem_singleton.mp z, ho] at e
        cases e
      · rw [e1]
        exact decide_eq_true ⟨r1, r2⟩
      · rw [e2, e3, Bool.and_eq_true]
        exact ⟨decide_eq_true ⟨by omega, by omega⟩, decide_eq_true ⟨by omega, by omega⟩⟩
      · exact hold_reads (n := 5) hD' (by decide) (by decide) fun σ' a h na => hQ _ _ (.inr ⟨a, CD, true, false, h, ex1.trans (Evl.Ex.new na), upd_same, kD, qD h1⟩)
      · exact hold_reads (n := 5) hP (by decide) (by decide) fun σ' a h na => hQ _ _ (.inr ⟨a, CP, false, true, h, (ex1.trans ex').trans (Evl.Ex.new na), upd_same, kP, qP h1 h2⟩)
    rintro σ' H2 (⟨rfl, ex2, g1, g2⟩ | ⟨a, D2, b3, b5, hs, ex2, ea, kk, fin⟩)
    · exact ⟨_, rfl, .non, _, _, _, _, _, _, rfl, says_none zN, says_none zW, says_none zD, says_none zM, says_none zP, says_none zT, fun H3 e3 => qG g1 g2 H3 (ex2.trans e3)⟩
    · exact ⟨_, hs, .ref a, _, _, _, _, _, _, rfl, says_held ea kk.e kk.k1, says_held ea kk.e kk.k2, says_held ea kk.e kk.k3, says_held ea kk.e kk.k4, says_held ea kk.e kk.k5, says_held ea kk.e kk.k6, fun H3 e3 => fin H3 (ex2.trans e3)⟩
def spLatR (K : PySem.W.Frag) (C CL CN CW : Addr) : Sp := fun vs H Q _ => ∃ (q fl : Addr) (ps : List (Addr × Addr)) (lt : Addr × Addr) (r : Int) (pc pn : Nat) (fs : List CM) (la : CM) (x y : V) (D : Addr), vs = [.ref q, x, y] ∧ LatAt C CL H q fl ps lt r pc pn fs la ∧ (∀ H' : Hp, Thing K H' x) ∧ (∀ H' : Hp, Thing K H' y) ∧ (∀ z, x = .str z → z.length ≤ sizeLine) ∧
  ((isNameV x = false ∧ D = CN) ∨ (isNameV x = true ∧ isWtV y = false ∧ D = CW)) ∧ ∀ (H' : Hp) (a : Addr), Ex H H' → H' a = some (Held (.ref D) none a) → Q (.ref a) H'
theorem ok_latR {f : Addr} {fd : FuncData} (F : Fun K "_law_come_refused" "_law_come_refused" sLComeRefused f fd) (L : LtT K mg CL) (GC : Gm P w K mg base (L2.CX P w) CL 5 "come" pLatelyCome (spLatCome K C CL CN CW)) (gE : mg "DrawerError" = some (.ref CE))
    (hN : PySem.W.exmOne K (.ref CN) (.ref CE) = some true) (hW : PySem.W.exmOne K (.ref CW) (.ref CE) = some true) : FnOk P w K mg base CX0 6 f fd pLComeRefused (spLatR K C CL CN CW) := by
  obtain ⟨f1, fd1, gCm, bCm, mCm⟩ := GC.ex
  refine F.ok cLComeRefused (fun vs H Q E h => ?_) (fun cdv A outer s H vs Q E hr h => ?_)
  · obtain ⟨q, fl, ps, lt, r, pc, pn, fs, la, x, y, D, rfl, _⟩ := h
    rfl
  · obtain ⟨q, fl, ps, lt, r, pc, pn, fs, la, x, y, D, rfl, A0, tx, ty, hz, why, qq⟩ := h
    refine ⟨_, pss_cons (ps_set (i := 3) cLComeRefused.nd rfl (Or.inl rfl) pe_non)
      (pss_cons (ps_try_hold (i := 4) (j := 3) (tb := fun W => tDrop (tMeth CL "come" (spLatCome K C CL CN CW) [] (fun cls d H => ∀ σ, W cls d σ H) (tVar 0) (tCons (tVar 1) (tCons (tVar 2) tNil)))) (Wout := fun _ _ _ _ => False) rfl rfl rfl cLComeRefused.nd rfl rfl ⟨rfl, by decide, Or.inl gE⟩ takes0
        (fun W pn xe tk _ => pss_one (ps_expr (pe_meth (pv 0) L.cl mCm gCm (hr.mono (by decide)) bCm .nil (passes_call tk (fun cls d σ H h => h σ)) (pa_cons (pv 1) (pa_cons (pv 2) pa_nil)))))
        (fun a pn => pss_one (ps_set (i := 3) cLComeRefused.nd rfl (Or.inl rfl) (pv 4))))
      (pss_one (ps_ret (pv 3)))), ?_⟩
    refine sq_any (fun σ' H' => σ' = [some (.ref q), some x, some y, some .non, none] ∧ H = H') (fun D' hD => hD _ _ ⟨rfl, rfl⟩) ?_
    rintro σ' _ ⟨rfl, rfl⟩
    refine sq_any (fun σ' H' => ∃ a : Addr, σ'[3]? = some (some (.ref a)) ∧ Ex H H' ∧ H' a = some (Held (.ref D) none a)) (fun D' hD => ?_) ?_
    · obtain ⟨dx, hp⟩ := A0.ob
      refine ⟨_, rfl, q, dx, _, rfl, hp, lfl_no (by decide +kernel), _, rfl, _, rfl, q, fl, ps, lt, r, pc, pn, fs, la, x, y, rfl, A0, tx, ty, hz, fun n wt e1 e2 h1 h2 => ?_, fun h1 => ?_, fun h1 h2 => ?_⟩
      · rcases why with ⟨z, _⟩ | ⟨_, z, _⟩
        · rw [e1, show isNameV (.str n) = true from h1] at z
          cases z
        · rw [e2, show isWtV (.int wt) = true from h2] at z
          cases z
      · have e : D = CN := by
          rcases why with ⟨_, z⟩ | ⟨z, _⟩
          · exact z
          · rw [h1] at z
            cases z
        rw [e] at hD
        intro σ2
        exact hold_reads (n := 5) hN (by decide) (by decide) fun σ' a h na => hD _ _ ⟨a, h, Evl.Ex.new na, upd_same⟩
      · have e : D = CW := by
          rcases why with ⟨z, _⟩ | ⟨_, _, z⟩
          · rw [h1] at z
            cases z
          · exact z
        rw [e] at hD
        intro σ2
        exact hold_reads (n := 5) hW (by decide) (by decide) fun σ' a h na => hD _ _ ⟨a, h, Evl.Ex.new na, upd_same⟩
    rintro σ' H2 ⟨a, hs, ex2, ea⟩
    exact ⟨_, hs, qq H2 a ex2 ea⟩
end
/-! ### the bounds of what is told, as the law asks -/
section
variable {P : Program} {w : World} {K : PySem.W.Frag} {mg : Str → Option Value} {base : Heap} {C CL CN CW CD : Addr}
def spLatHolds (K : PySem.W.Frag) (C CL : Addr) : Sp := fun vs H Q _ => ∃ (q fl : Addr) (ps : List (Addr × Addr)) (lt : Addr × Addr) (r : Int) (pc pn : Nat) (fs : List CM) (la : CM) (lc : Addr) (ts : List Addr) (pl : CM) (l : Addr) (nm : List Str),
  vs = [.ref q, .ref lc, .ref l, .int pc, .int pn] ∧ LatAt C CL H q fl ps lt r pc pn fs la ∧ H lc = some (.lst (ts.map V.ref)) ∧ PrsAt H ts pl ∧ pl.length ≤ 63 ∧ Cov pn pl fs la ∧ (∀ e ∈ pl, isName e.1 = true ∧ isWt e.2 = true) ∧ H l = some (.lst (nm.map V.str)) ∧ (∀ n ∈ nm, isName n = true) ∧ ∀ H' : Hp, Ex H H' → Q (.bl true) H'
theorem ok_latHolds {f : Addr} {fd : FuncData} (F : Fun K "_law_holds" "_law_holds" sLHolds f fd) (T : DkT K mg C CN CW CD) (L : LtT K mg CL) (GT : Gm P w K mg base CX0 CL 7 "told" pLatelyTold (spLatTold C CL)) (GR' : Gm P w K mg base CX0 CL 1 "reach" pLatelyReach (spLatReach C CL))
    (GS : Gm P w K mg base CX0 C 1 "shown" pDShown (spShown C)) (GL : Gm P w K mg base CX0 C 1 "lost" pDLost (spNum C fun _ g _ => g))
    (GW : Gm P w K mg base CX0 C 1 "weight" pDWeight (spNum C fun _ _ t => t)) (GR : Gm P w K mg base CX0 C 1 "drawers" pDDrawers (spNum C fun r _ _ => r)) (GE : Gm P w K mg base (L2.CX P w) C 2 "least" pDLeast (spLeast K C CN fun _ => 0))
    (GM : Gm P w K mg base (L2.CX P w) C 3 "most" pDMost (spLeast K C CN fun g => g)) (mS : mg "sum" = none) : FnOk P w K mg base CX0 8 f fd pLHolds (spLatHolds K C CL) := by
  obtain ⟨ft, fdt, gLt, bLt, mLt⟩ := GT.ex
  obtain ⟨fr, fdr, gLr, bLr, mLr⟩ := GR'.ex
  obtain ⟨f2, fd2, gSh, bSh, mSh⟩ := GS.ex
  obtain ⟨f3, fd3, gLo, bLo, mLo⟩ := GL.ex
  obtain ⟨f4, fd4, gWe, bWe, mWe⟩ := GW.ex
  obtain ⟨f5, fd5, gDr, bDr, mDr⟩ := GR.ex
  obtain ⟨f6, fd6, gLe, bLe, mLe⟩ := GE.ex
  obtain ⟨f7, fd7, gMo, bMo, mMo⟩ := GM.ex
  refine F.ok cLHolds (fun vs H Q E h => ?_) (fun cdv A outer s H vs Q E hr h => ?_)
  · obtain ⟨q, fl, ps, lt, r, pc, pn, fs, la, lc, ts, pl, l, nm, rfl, _⟩ := h
    rfl
  · obtain ⟨q, fl, ps, lt, r, pc, pn, fs, la, lc, ts, pl, l, nm, rfl, A0, hlc, hp, pl63, cov, okp, hl, nok, qq⟩ := h
    refine ⟨_, pss_cons (ps_set (i := 5) cLHolds.nd rfl (Or.inl rfl) (pe_meth0 (pv 0) L.cl mLr gLr (hr.mono (by decide)) bLr .nil pass0))
      (pss_cons (ps_if (PW.pt (pw_or (pt_cmpR op_gt (pv 5) (pe_callB call_len_seq (by rfl) T.len PySem.boot_len (pa_cons (pv 1) pa_nil)) (nomark _)) (pw_or1 (pt_cmpR op_ge (pv 5) (pe_op op_mul (pv 3) (pe_op op_add (pv 4) pe_int)) (nomark _))))) (pss_one (ps_ret pe_bl)) pss_nil)
      (pss_cons (ps_if (PW.pt (pw_and (pt_cmpR op_ne (pv 5) (pe_callB call_len_seq (by rfl) T.len PySem.boot_len (pa_cons (pv 1) pa_nil)) (nomark _)) (pw_and1 (pt_cmpR op_lt (pv 5) (pe_op op_mul (pv 3) (pv 4)) (nomark _))))) (pss_one (ps_ret pe_bl)) pss_nil)
      (pss_cons (ps_set (i := 6) cLHolds.nd rfl (Or.inl rfl) (pe_slice sl_list (pv 1) (po_some (pe_op op_sub (pe_callB call_len_seq (by rfl) T.len PySem.boot_len (pa_cons (pv 1) pa_nil)) (pv 5))) po_none))
      (pss_cons (ps_set (i := 7) cLHolds.nd rfl (Or.inl rfl) (pe_meth0 (pv 0) L.cl mLt gLt hr bLt .nil pass0))
      (pss_cons (ps_if (pt_cmpR op_ne (pe_meth0 (pv 7) T.cl mWe gWe (hr.mono (by decide)) bWe .nil pass0) (pe_callB (cr_sum rfl) (by rfl) mS boot_sum (pa_cons
          (pe_lc (own := [("_law_pair", 8)]) (g := gName 8) (tt := tYes) (te := tOp (rIxT K) (tVar 8) (tC (.int 1))) rfl cLHolds.nd (pi_list (pv 6)) (blkOk_by (own := [("_law_pair", 8)]) (N := nLHolds) (sc := defScope sLHolds) (by decide +kernel))
            (fun _ _ _ _ _ => pg_name (i := 8) cLHolds.nd rfl (Or.inl rfl)) (fun _ _ _ _ _ => pts_nil) (fun _ _ _ _ _ => pe_ix ix_tup (pv 8) pe_int (fun _ _ => rfl))) pa_nil)) (nomark _)) (pss_one (ps_ret pe_bl)) pss_nil)
      (pss_cons (ps_for PassesOwn.never rfl (pi_list (pv 2)) (pg_name (i := 9) cLHolds.nd rfl (Or.inr rfl))
        (pss_cons (ps_set (i := 10) cLHolds.nd rfl (Or.inl rfl) (pe_callB (cr_sum rfl) (by rfl) mS boot_sum (pa_cons
          (pe_lc (own := [("_law_pair", 8)]) (g := gName 8) (tt := tTest (tOp rEq (tOp (rIxT K) (tVar 8) (tC (.int 0))) (tVar 9))) (te := tOp (rIxT K) (tVar 8) (tC (.int 1))) rfl cLHolds.nd (pi_list (pv 6)) (blkOk_by (own := [("_law_pair", 8)]) (N := nLHolds) (sc := defScope sLHolds) (by decide +kernel))
            (fun _ _ _ _ _ => pg_name (i := 8) cLHolds.nd rfl (Or.inl rfl)) (fun _ _ _ _ _ => pts_one (pt_cmpR op_eq (pe_ix ix_tup (pv 8) pe_int (fun _ _ => rfl)) (pv 9) (nomark _))) (fun _ _ _ _ _ => pe_ix ix_tup (pv 8) pe_int (fun _ _ => rfl))) pa_nil)))
        (pss_one (ps_if (pt_not (pt_chain op_le op_le (pe_meth (pv 7) T.cl mLe gLe (hr.mono (by decide)) bLe .nil passL (pa_cons (pv 9) pa_nil)) (pv 10) (pe_meth (pv 7) T.cl mMo gMo (hr.mono (by decide)) bMo .nil passL (pa_cons (pv 9) pa_nil))))
          (pss_one (ps_ret pe_bl)) pss_nil))))
      (pss_one (ps_ret (pe_cmpR op_le (pe_op op_add (pe_callB (cr_sumV rfl) (by rfl) mS boot_sum (pa_cons (pe_bm0 PySem.F.plainAttrs_dict PySem.F.slot_dict_values PySem.F.type_dict_values mt_vals (pe_meth0 (pv 7) T.cl mSh gSh (hr.mono (by decide)) bSh .nil pass0)) pa_nil))
          (pe_op op_mul (pe_op op_add (pe_meth0 (pv 7) T.cl mDr gDr (hr.mono (by decide)) bDr .nil pass0) pe_int) (pe_meth0 (pv 7) T.cl mLo gLo (hr.mono (by decide)) bLo .nil pass0)))
        (pe_meth0 (pv 7) T.cl mWe gWe (hr.mono (by decide)) bWe .nil pass0) (nomark _)))))))))), ?_⟩
    rw [← wMeth_eq, ← wLc_eq]
    obtain ⟨pre, hpl, hpre⟩ := cov
    have c50 := A0.cnt
    have n50 := A0.n2
    have lal := A0.len
    have p1000 := A0.p2
    have rel : (fs ++ [la]).flatten.length = fs.length * pc + la.length := by
      rw [List.flatten_append, List.length_append, flat_len A0.eq]
      simp
    have pll : pl.length = pre.length + (fs.length * pc + la.length) := by rw [hpl, List.length_append, rel]
    have tl := prs_len hp
    have r1 := DeskAt.r1 A0.dl
    have r2 := DeskAt.r2 A0.dl
    have okw : ∀ x ∈ fs ++ [la], ∀ e ∈ x, isWt e.2 = true := fun x hx e he => (okp e (by rw [hpl]; exact List.mem_append_right _ (List.mem_flatten.mpr ⟨x, hx, he⟩))).2
    have okn : ∀ x ∈ fs ++ [la], ∀ e ∈ x, isName e.1 = true := fun x hx e he => (okp e (by rw [hpl]; exact List.mem_append_right _ (List.mem_flatten.mpr ⟨x, hx, he⟩))).1
    generalize hR : fs.length * pc + la.length = R at rel pll
    refine sq_any (fun σ' H' => σ' = [some (.ref q), some (.ref lc), some (.ref l), some (.int pc), some (.int pn), some (.int R), none, none, none, none, none] ∧ H = H') (fun D' hD => rd_lreach rfl A0 (hD _ _ ⟨by rw [hR]; rfl, rfl⟩)) ?_
    rintro σ' _ ⟨rfl, rfl⟩
    have cmul : ∀ j : Int, CMul (pc : Int) j := fun j => .inl ⟨by omega, by omega⟩
    have lt1 : (R : Int) < (pc : Int) * ((pn : Int) + 1) := by
      have h1 : fs.length * pc ≤ pn * pc := Nat.mul_le_mul_right _ c50
      have h2 : (pc : Int) * ((pn : Int) + 1) = ((pn * pc : Nat) : Int) + pc := by rw [Int.mul_add, Int.mul_one, Int.natCast_mul, Int.mul_comm]
      rw [h2]
      omega
    -- not too far
    refine sq_if (fun H' => H = H') (fun Q' hQ => ?_) ?_
    · refine ⟨_, rfl, _, rfl, lc, _, rfl, .inl (SqL.of hlc), _, _, rfl, rfl, _, rfl, ?_⟩
      rw [List.length_map]
      refine ite2 (fun h => ?_) (fun _ => ?_)
      · have h1 := of_decide_eq_true h
        omega
      · refine ⟨_, rfl, _, rfl, _, rfl, _, _, rfl, rfl, _, _, rfl, rfl, cmul _, _, _, rfl, rfl, _, rfl, ?_⟩
        rw [decide_eq_false (show ¬ (pc : Int) * ((pn : Int) + 1) ≤ (R : Int) by omega)]
        exact hQ _ rfl
    rintro _ rfl
    refine sq_if (fun H' => H = H') (fun Q' hQ => ?_) ?_
    · refine ⟨_, rfl, _, rfl, lc, _, rfl, .inl (SqL.of hlc), rfl, _, rfl, ?_⟩
      rw [List.length_map]
      refine ite2 (fun h => ?_) (fun _ => hQ _ rfl)
      have hne : pre ≠ [] := fun z => by
        rw [z, List.length_nil] at pll
        have : (V.int (R : Int) = V.int (ts.length : Int)) := congrArg V.int (by omega)
        rw [decide_eq_true this] at h
        cases h
      have hfl := hpre hne
      refine ⟨_, rfl, _, rfl, _, rfl, _, _, rfl, rfl, cmul _, _, _, rfl, rfl, _, rfl, ?_⟩
      have ge : (pc : Int) * (pn : Int) ≤ (R : Int) := by
        rw [← hfl, ← Int.natCast_mul, Nat.mul_comm]
        omega
      rw [decide_eq_false (show ¬ (R : Int) < (pc : Int) * (pn : Int) by omega)]
      exact hQ _ rfl
    rintro _ rfl
    -- the last of them
    obtain ⟨k, hk, hk2⟩ : ∃ k : Nat, ((ts.map V.ref).length : Int) - (R : Int) = (k : Int) ∧ k = pre.length := ⟨pre.length, by rw [List.length_map]; omega, rfl⟩
    have hdr : pl.drop k = (fs ++ [la]).flatten := by
      rw [hpl, hk2]
      exact List.drop_left
    refine sq_any (fun σ' H' => ∃ so : Addr, σ' = [some (.ref q), some (.ref lc), some (.ref l), some (.int pc), some (.int pn), some (.int R), some (.ref so), none, none, none, none] ∧ Ex H H' ∧ H' so = some (.lst ((ts.drop k).map V.ref)))
      (fun D' hD => ⟨_, rfl, _, rfl, lc, _, rfl, .inl (SqL.of hlc), _, rfl, _, _, rfl, rfl, _, rfl, lc, _, rfl, SqL.of hlc, fun so hso => hD _ _ ⟨so, rfl, Evl.Ex.new hso, by rw [upd_same, hk, cut_fromV _ _ (by rw [List.length_map]; omega), ← List.map_drop]⟩⟩) ?_
    rintro σ' H1 ⟨so, rfl, ex1, eso⟩
    have hp1 : PrsAt H1 (ts.drop k) (fs ++ [la]).flatten := by
      rw [← hdr]
      exact prs_drop (prs_ex hp ex1) k
    have lfl63 : (fs ++ [la]).flatten.length ≤ 63 := by rw [rel]; omega
    -- told
    refine sq_any (fun σ' H' => ∃ (p d : Addr), σ' = [some (.ref q), some (.ref lc), some (.ref l), some (.int pc), some (.int pn), some (.int R), some (.ref so), some (.ref p), none, none, none] ∧ Ex H1 H' ∧ DeskAt C H' p d r (tellD r (fs ++ [la])).1 (tellD r (fs ++ [la])).2.1 (tellD r (fs ++ [la])).2.2)
      (fun D' hD => rd_ltold rfl (A0.ex ex1) fun H' p d ex _ _ D => hD _ _ ⟨p, d, rfl, ex, D⟩) ?_
    rintro σ' H2 ⟨p, d, rfl, ex2, D2⟩
    have B := bn_tell r1 okw
    have tot := tell_tot r (fs ++ [la])
    have tg := tbl_get r1 okw
    generalize (tellD r (fs ++ [la])).1 = c at D2 B
    generalize (tellD r (fs ++ [la])).2.1 = g at D2 B
    generalize (tellD r (fs ++ [la])).2.2 = tt at D2 B tot
    generalize tblP (fs ++ [la]) = tb at B tg
    generalize (fs ++ [la]).flatten = cv at hp1 lfl63 tot tg
    -- its weight
    refine sq_if (fun H' => Ex H2 H') (fun Q' hQ => ?_) ?_
    · refine rd_num (by decide +kernel) rfl D2 ?_
      refine wall_reads (K := K) rfl (fun _ => rfl) (fun _ => rfl) (SqL.of (ex2 _ _ eso)) (prs_ex hp1 ex2) (by omega) fun H' a na ex ea => ?_
      refine ⟨a, _, rfl, SqL.of ea, rfl, _, rfl, ?_⟩
      have e : (cv.map (·.2)).sum = tt := tot.symm
      rw [e, decide_eq_true rfl]
      exact hQ _ ex
    intro H3 ex3
    -- each name
    refine sq_any (fun σ' H' => ∃ v9 v10 : Option V, σ' = [some (.ref q), some (.ref lc), some (.ref l), some (.int pc), some (.int pn), some (.int R), some (.ref so), some (.ref p), none, v9, v10] ∧ Ex H2 H') (fun D' hD => ?_) ?_
    · refine ⟨_, rfl, l, rfl, ⟨_, SqL.of (((ex1.trans ex2).trans ex3) _ _ hl)⟩, for_list (K := K) (a := l) (xs := nm.map V.str) (fun i σ H' => ∃ v9 v10 : Option V, σ = [some (.ref q), some (.ref lc), some (.ref l), some (.int pc), some (.int pn), some (.int R), some (.ref so), some (.ref p), none, v9, v10] ∧ Ex H2 H')
        ⟨_, _, rfl, ex3⟩ (fun _ _ _ _ ⟨_, _, _, h⟩ => SqL.of (((ex1.trans ex2).trans h) _ _ hl)) ?_ (fun σ H' ⟨_, _, h1, h⟩ => hD _ _ ⟨_, _, h1, h⟩)⟩
      rintro i x σ H4 hx ⟨v9, v10, rfl, ex4⟩
      obtain ⟨m, hm, rfl⟩ := List.mem_map.mp (List.mem_of_getElem? hx)
      have hmn := nok m hm
      refine sq_any (fun σ' H' => σ' = [some (.ref q), some (.ref lc), some (.ref l), some (.int pc), some (.int pn), some (.int R), some (.ref so), some (.ref p), none, some (.str m), some (.int (wsum cv m))] ∧ Ex H4 H') (fun D' hD => ?_) ?_
      · refine wsum_reads (K := K) (n := m) rfl (fun _ => rfl) (fun _ => rfl) (fun _ => rfl) (SqL.of ((ex2.trans ex4) _ _ eso)) (prs_ex hp1 (ex2.trans ex4)) (by omega) fun H' a na ex ea => ?_
        exact ⟨a, _, rfl, SqL.of ea, hD _ _ ⟨rfl, ex⟩⟩
      rintro σ' H5 ⟨rfl, ex5⟩
      have D5 := D2.ex (ex4.trans ex5)
      have lo := B.lo m
      have hi := B.hi m
      rw [tg m] at lo hi
      refine rd_least (by decide +kernel) rfl rfl D5 hmn ?_
      refine ⟨_, rfl, _, _, rfl, rfl, _, rfl, ?_⟩
      refine ite2 (fun _ => ?_) (fun h => absurd (decide_eq_true (show getD0 c m + 0 ≤ wsum cv m by omega)) h)
      refine rd_least (by decide +kernel) rfl rfl D5 hmn ?_
      refine ⟨_, _, rfl, rfl, ?_⟩
      exact ⟨_, rfl, iteNS hi ⟨_, _, rfl, ex4.trans ex5⟩⟩
    rintro σ' H4 ⟨v9, v10, rfl, ex4⟩
    have D4 := D2.ex ex4
    refine rd_shown rfl D4 fun H5 y hy ex5 ey => ?_
    refine ⟨(.inr (.inr (.inl ⟨rfl, .inl ⟨_, ey⟩⟩))), y, kvc (sortC c), rfl, rfl, ey, fun v hv => ⟨v, y, kvc (sortC c), valsC (sortC c), rfl, upd_same, (by rw [upd_ne (ne_of_none ey hv)]; exact ey), snd_kvc _, ?_⟩⟩
    have exv := Evl.Ex.new (o := viewV v y) hv
    have D6 := (D4.ex ex5).ex exv
    refine rd_num (by decide +kernel) rfl D6 ?_
    refine ⟨_, _, rfl, rfl, ?_⟩
    refine rd_num (by decide +kernel) rfl D6 ?_
    refine ⟨_, _, rfl, rfl, .inl ⟨by omega, by omega⟩, _, _, rfl, rfl, ?_⟩
    refine rd_num (by decide +kernel) rfl D6 ?_
    refine ⟨_, _, rfl, rfl, ?_⟩
    have hs : sumC (sortC c) = sumC c := sum_perm (sortC_perm c)
    have sm := B.sm
    rw [← hs] at sm
    have e : decide ((valsC (sortC c)).sum + (r + 1) * g ≤ tt) = true := decide_eq_true sm
    show Q (.bl (decide ((valsC (sortC c)).sum + (r + 1) * g ≤ tt))) _
    rw [e]
    exact qq _ ((((ex1.trans ex2).trans ex4).trans ex5).trans exv)
end
abbrev st11 (a pn : Addr) (r m : Int) (pc pm : Nat) (q lc : Addr) (v8 v9 v10 v11 v12 v13 v14 : Option V) : L2.St :=
  [some (.ref a), some (.ref pn), some (.int r), some (.int m), some (.int pc), some (.int pm), some (.ref q), some (.ref lc), v8, v9, v10, v11, v12, v13, v14]
section
variable {P : Program} {w : World} {K : PySem.W.Frag} {mg : Str → Option Value} {base : Heap} {C CL CN CW CD CQ CP CT : Addr}
theorem ok_law {f fLI : Addr} {fd fdLI : FuncData} (F : Fun K "law" "law" sLaw f fd) (G : LawG P w K mg base C CN CW CD) (L : LtT K mg CL)
    (ML : Mk K CL fLI) (GI : FnOk P w K mg base (L2.CX P w) 5 fLI fdLI pLatelyInit (spLatInit K C CL CD CP)) (bI : Binds K fdLI pLatelyInit []) (mgL : mg "Lately" = some (.ref CL))
    (GC : Gm P w K mg base (L2.CX P w) CL 5 "come" pLatelyCome (spLatCome K C CL CN CW)) (GW : Gf P w K mg base CX0 1 "_law_word" pLWord (spWord K CN CW CD CQ CP CT)) (GM : Gf P w K mg base CX0 7 "_law_made" pLMade (spLMade K))
    (GR : Gf P w K mg base CX0 6 "_law_come_refused" pLComeRefused (spLatR K C CL CN CW)) (GH : Gf P w K mg base CX0 8 "_law_holds" pLHolds (spLatHolds K C CL))
    (kN : Kind K CN CW CD CQ CP CT CN true false false false false false) (kW : Kind K CN CW CD CQ CP CT CW false true false false false false)
    (mE : mg "enumerate" = none) (zs : mg "sum" = none) : FnOk P w K mg base CX0 9 f fd pLaw (spLaw K) := by
  have T := G.T
  obtain ⟨fN, fdN, gN, bN, mN, kpN⟩ := G.names.ex
  obtain ⟨fR, fdR, gR, bR, mR, kpR⟩ := G.drawn.ex
  obtain ⟨fC, fdC, gC, bC, mC, kpC⟩ := G.coming.ex
  obtain ⟨fX, fdX, gX, bX, mX, kpX⟩ := G.mixed.ex
  obtain ⟨fc, fdc, gLc, bLc, mLc⟩ := GC.ex
  obtain ⟨fW, fdW, gW, bW, mW, kpW⟩ := GW.ex
  obtain ⟨fM, fdM, gM, bM, mM, kpM⟩ := GM.ex
  obtain ⟨fA, fdA, gA, bA, mA, kpA⟩ := GR.ex
  obtain ⟨fH, fdH, gH, bH, mH, kpH⟩ := GH.ex
  refine F.ok cLaw (fun vs H Q E h => ?_) (fun cdv A outer s H vs Q E hr h => ?_)
  · obtain ⟨a, ns, rfl, _⟩ := h
    rfl
  · obtain ⟨a, ns, rfl, hS, hlen, q⟩ := h
    refine ⟨_, pss_cons (ps_set (i := 1) cLaw.nd rfl (Or.inl rfl) (pe_call gN (hr.mono (by decide)) rfl mN kpN bN .nil pass0 (pa_cons (pv 0) pa_nil)))
      (pss_cons (ps_set (i := 2) cLaw.nd rfl (Or.inl rfl) (pe_call gR (hr.mono (by decide)) rfl mR kpR bR .nil pass0 (pa_cons (pv 0) pa_nil)))
      (pss_cons (ps_set (i := 3) cLaw.nd rfl (Or.inl rfl) (pe_call gX (hr.mono (by decide)) rfl mX kpX bX .nil pass0 (pa_cons (pe_op op_add (pe_callB call_len_seq (by rfl) T.len PySem.boot_len (pa_cons (pv 0) pa_nil)) (pe_callB (cr_sum rfl) (by rfl) zs boot_sum (pa_cons (pe_slice sl_list (pv 0) po_none (po_some pe_int)) pa_nil))) (pa_cons pe_int pa_nil))))
      (pss_cons (ps_set (i := 4) cLaw.nd rfl (Or.inl rfl) (pe_op op_add pe_int (pe_op op_mod (pv 3) pe_int)))
      (pss_cons (ps_set (i := 5) cLaw.nd rfl (Or.inl rfl) (pe_op op_add pe_int (pe_op op_mod (pe_op op_fdiv (pv 3) pe_int) pe_int)))
      (pss_cons (ps_set (i := 6) cLaw.nd rfl (Or.inl rfl) (pe_make ML GI (hr.mono (by decide)) rfl mgL bI .nil passL (pa_cons (pv 2) (pa_cons (pv 4) (pa_cons (pv 5) pa_nil)))))
      (pss_cons (ps_set (i := 7) cLaw.nd rfl (Or.inl rfl) (pe_lst pa_nil))
      (pss_cons (ps_for PassesOwn.never rfl (pi_enum rfl mE (pa_cons (pv 0) pa_nil)) (pg_tup rfl (pgs_cons (pg_name (i := 8) cLaw.nd rfl (Or.inl rfl)) (pgs_cons (pg_name (i := 9) cLaw.nd rfl (Or.inl rfl)) pgs_nil)))
        (pss_cons (ps_asg (pe_call gC (hr.mono (by decide)) rfl mC kpC bC .nil pass0 (pa_cons (pv 1) (pa_cons (pv 9) (pa_cons (pv 8) pa_nil)))) (pg_tup rfl (pgs_cons (pg_name (i := 10) cLaw.nd rfl (Or.inl rfl)) (pgs_cons (pg_name (i := 11) cLaw.nd rfl (Or.inl rfl)) pgs_nil))))
        (pss_cons (ps_expr (pe_meth (pv 6) L.cl mLc gLc (hr.mono (by decide)) bLc .nil passL (pa_cons (pv 10) (pa_cons (pv 11) pa_nil))))
        (pss_cons (ps_expr (pe_bm PySem.F.plainAttrs_list PySem.F.slot_list_append PySem.F.type_list_append mt_append (pv 7) (pa_cons (pe_tup (pa_cons (pv 10) (pa_cons (pv 11) pa_nil))) pa_nil)))
        (pss_cons (ps_set (i := 12) cLaw.nd rfl (Or.inl rfl) (pe_ix ix_list (pe_lst (pa_cons (pe_tup (pa_cons pe_str (pa_cons pe_int pa_nil))) (pa_cons (pe_tup (pa_cons (pv 10) (pa_cons pe_int pa_nil))) (pa_cons (pe_tup (pa_cons pe_non (pa_cons pe_int pa_nil))) (pa_cons (pe_tup (pa_cons (pv 10) (pa_cons pe_bl pa_nil))) pa_nil))))) (pe_op op_mod (pv 8) pe_int) (fun _ _ => rfl)))
        (pss_cons (ps_if (pt_cmpR op_eq (pe_op op_mod (pv 8) pe_int) pe_int (nomark _))
          (pss_cons (ps_set (i := 13) cLaw.nd rfl (Or.inl rfl) (pe_ix ix_list (pe_lst (pa_cons pe_str (pa_cons pe_str (pa_cons pe_str (pa_cons pe_str pa_nil))))) (pe_op op_mod (pv 8) pe_int) (fun _ _ => rfl)))
          (pss_one (ps_if (pt_cmpR op_ne (pe_call gW (hr.mono (by decide)) rfl mW kpW bW .nil pass0 (pa_cons (pe_call gA (hr.mono (by decide)) rfl mA kpA bA .nil pass0 (pa_cons (pv 6) (pa_cons (pe_ix ix_tup (pv 12) pe_int (fun _ _ => rfl)) (pa_cons (pe_ix ix_tup (pv 12) pe_int (fun _ _ => rfl)) pa_nil)))) pa_nil)) (pv 13) (nomark _)) (pss_one (ps_ret pe_bl)) pss_nil)))
          pss_nil)
        (pss_one (ps_if (pt_not (pt_val (pe_call gH hr rfl mH kpH bH .nil pass0 (pa_cons (pv 6) (pa_cons (pv 7) (pa_cons (pv 1) (pa_cons (pv 4) (pa_cons (pv 5) pa_nil)))))))) (pss_one (ps_ret pe_bl)) pss_nil))))))))
      (pss_cons (ps_set (i := 14) cLaw.nd rfl (Or.inl rfl) (pe_ix ix_list (pe_lst (pa_cons pe_int (pa_cons pe_int (pa_cons pe_bl (pa_cons pe_non (pa_cons (pe_un un_neg pe_int) pa_nil)))))) (pe_op op_mod (pe_op op_fdiv (pv 3) pe_int) pe_int) (fun _ _ => rfl)))
      (pss_cons (ps_if (PW.pt (pw_or (pt_cmpR op_ne (pe_call gM (hr.mono (by decide)) rfl mM kpM bM .nil pass0 (pa_cons pe_int (pa_cons (pv 14) (pa_cons pe_int pa_nil)))) pe_str (nomark _))
          (pw_or1 (pt_cmpR op_ne (pe_call gM (hr.mono (by decide)) rfl mM kpM bM .nil pass0 (pa_cons (pv 2) (pa_cons (pv 14) (pa_cons (pv 5) pa_nil)))) pe_str (nomark _))))) (pss_one (ps_ret pe_bl)) pss_nil)
      (pss_one (ps_ret (pe_and (pe_cmpR op_eq (pe_call gM (hr.mono (by decide)) rfl mM kpM bM .nil pass0 (pa_cons (pv 2) (pa_cons (pv 4) (pa_cons (pe_ix ix_list (pe_lst (pa_cons pe_int (pa_cons pe_int (pa_cons pe_bl pa_nil)))) (pe_op op_mod (pe_op op_fdiv (pv 3) pe_int) pe_int) (fun _ _ => rfl)) pa_nil)))) pe_str (nomark _))
        (pe_one (pe_cmpR op_eq (pe_call gM (hr.mono (by decide)) rfl mM kpM bM .nil pass0 (pa_cons pe_int (pa_cons pe_int (pa_cons pe_int pa_nil)))) pe_str (nomark _))))))))))))))), ?_⟩
    rw [← wMeth_eq, ← wMake_eq]
    have big : ∀ n : Nat, n ≤ 1000 → n ≤ sizeLine := fun n h => by rw [sizeLine_eq]; omega
    have mod0 : ∀ (x b : Int), 0 < b → 0 ≤ x % b ∧ x % b < b := fun x b h => ⟨Int.emod_nonneg x (by omega), Int.emod_lt_of_pos x h⟩
    refine sq_any (fun σ' H' => ∃ (nm : List Str) (pn : Addr), σ' = [some (.ref a), some (.ref pn), none, none, none, none, none, none, none, none, none, none, none, none, none] ∧ nm.length = 14 ∧ NamesOk nm ∧ Ex H H' ∧ H' pn = some (.lst (nm.map V.str)))
      (fun D' hD => ⟨_, rfl, a, ns, rfl, hS, fun nm pn H1 hnl hnm hpn ex1 e1 => hD _ _ ⟨nm, pn, rfl, hnl, hnm, ex1, e1⟩⟩) ?_
    rintro σ' H1 ⟨nm, pn, rfl, hnl, hnm, ex1, e1⟩
    refine sq_any (fun σ' H' => ∃ r : Int, σ' = [some (.ref a), some (.ref pn), some (.int r), none, none, none, none, none, none, none, none, none, none, none, none] ∧ 1 ≤ r ∧ r ≤ 50 ∧ Ex H1 H')
      (fun D' hD => ⟨_, rfl, a, ns, rfl, sql_ex hS ex1, fun r H2 r1 r2 ex2 => hD _ _ ⟨r, rfl, r1, r2, ex2⟩⟩) ?_
    rintro σ' Ha ⟨r, rfl, r1, r2, exa⟩
    have hSa : SqL K Ha a (ns.map V.int) := sql_ex hS (ex1.trans exa)
    -- the mark
    refine sq_any (fun σ' H' => ∃ m : Int, σ' = [some (.ref a), some (.ref pn), some (.int r), some (.int m), none, none, none, none, none, none, none, none, none, none, none] ∧ 0 ≤ m ∧ m < 2147483647 ∧ Ex Ha H') (fun D' hD => ?_) ?_
    · refine ⟨_, rfl, a, _, rfl, .inl hSa, _, rfl, _, rfl, a, _, rfl, hSa, fun l hl => ⟨l, ns.take 3, rfl, SqL.of ?_, _, _, rfl, rfl, _, 56, rfl, fun m m0 m1 => hD _ _ ⟨m, rfl, m0, m1, Evl.Ex.new hl⟩⟩⟩
      rw [upd_same]
      unfold cutV
      rw [HT.sIx_none, show (some (3 : Int)) = some ((3 : Nat) : Int) from rfl, HT.sIx_nat, List.map_take, List.drop_zero, Nat.sub_zero]
      by_cases h : 3 ≤ (ns.map V.int).length
      · rw [Nat.min_eq_left h]
      · rw [Nat.min_eq_right (by omega), List.take_of_length_le (Nat.le_refl _), List.take_of_length_le (by omega)]
    rintro σ' Hb ⟨m, rfl, m0, m1, exb⟩
    obtain ⟨pc, hpc, p1, p2⟩ : ∃ pc : Nat, 1 + m % 9 = (pc : Int) ∧ 1 ≤ pc ∧ pc ≤ 9 := by
      have h := mod0 m 9 (by decide)
      exact ⟨(1 + m % 9).toNat, by omega, by omega, by omega⟩
    obtain ⟨pm, hpm, n1, n2⟩ : ∃ pm : Nat, 1 + m / 9 % 5 = (pm : Int) ∧ 1 ≤ pm ∧ pm ≤ 5 := by
      have h := mod0 (m / 9) 5 (by decide)
      exact ⟨(1 + m / 9 % 5).toNat, by omega, by omega, by omega⟩
    refine sq_any (fun σ' H' => σ' = [some (.ref a), some (.ref pn), some (.int r), some (.int m), some (.int pc), none, none, none, none, none, none, none, none, none, none] ∧ Hb = H')
      (fun D' hD => ⟨_, rfl, _, _, rfl, rfl, (by show (0 : Int) < _; decide), _, _, rfl, rfl, hD _ _ ⟨by rw [← hpc]; rfl, rfl⟩⟩) ?_
    rintro σ' _ ⟨rfl, rfl⟩
    refine sq_any (fun σ' H' => σ' = [some (.ref a), some (.ref pn), some (.int r), some (.int m), some (.int pc), some (.int pm), none, none, none, none, none, none, none, none, none] ∧ Hb = H')
      (fun D' hD => ⟨_, rfl, _, _, rfl, rfl, ⟨by decide, by decide⟩, _, _, rfl, rfl, (by show (0 : Int) < _; decide), _, _, rfl, rfl, hD _ _ ⟨by rw [← hpm]; rfl, rfl⟩⟩) ?_
    rintro σ' _ ⟨rfl, rfl⟩
    have eb : Hb pn = some (.lst (nm.map V.str)) := (exa.trans exb) _ _ e1
    have hSb : SqL K Hb a (ns.map V.int) := sql_ex hSa exb
    refine sq_any (fun σ' H' => ∃ (q fl : Addr) (lt : Addr × Addr), σ' = [some (.ref a), some (.ref pn), some (.int r), some (.int m), some (.int pc), some (.int pm), some (.ref q), none, none, none, none, none, none, none, none] ∧ (∀ b ∈ latF q fl [] lt, Hb b = none) ∧ Ex Hb H' ∧ LatAt C CL H' q fl [] lt r pc pm [] [])
      (fun D' hD => rd_lmake (fun R hR => ⟨_, rfl, _, rfl, _, rfl, hR⟩) r1 r2 p1 (by omega) n1 (by omega) fun H' q fl lt fr ex A => hD _ _ ⟨q, fl, lt, rfl, fr, ex, A⟩) ?_
    rintro σ' Hd ⟨q1, fl1, lt1, rfl, fr1, exd, A1⟩
    refine sq_any (fun σ' H' => ∃ lc : Addr, σ' = st11 a pn r m pc pm q1 lc none none none none none none none ∧ Hd lc = none ∧ Ex Hd H' ∧ H' lc = some (.lst []))
      (fun D' hD => ⟨Nat.zero_le _, fun lc hlc => hD _ _ ⟨lc, rfl, hlc, Evl.Ex.new hlc, upd_same⟩⟩) ?_
    rintro σ' He ⟨lc, rfl, hlc, exe, elc⟩
    have lcb : Hb lc = none := none_ex exd hlc
    have exbe := exd.trans exe
    have hnok : ∀ n ∈ nm, isName n = true := fun n hn => hnm.ok n hn
    have four : 4 ≤ sizeLine := big 4 (by decide)
    have two : 2 ≤ sizeLine := big 2 (by decide)
    refine sq_any (fun σ H' => ∃ v8 v9 v10 v11 v12 v13 : Option V, σ = st11 a pn r m pc pm q1 lc v8 v9 v10 v11 v12 v13 none ∧ Ex Hb H') (fun D' hD => ?_) ?_
    · refine ⟨_, rfl, a, ns.map V.int, rfl, sql_ex hSb exbe, for_it (n := ns.length) (fun i σ H' => ∃ (fl : Addr) (ps : List (Addr × Addr)) (lt : Addr × Addr) (fs : List CM) (la : CM) (ts : List Addr) (pl : CM) (v8 v9 v10 v11 v12 v13 : Option V),
          σ = st11 a pn r m pc pm q1 lc v8 v9 v10 v11 v12 v13 none ∧ Ex Hb H' ∧ LatAt C CL H' q1 fl ps lt r pc pm fs la ∧ (∀ b ∈ latF q1 fl ps lt, Hb b = none) ∧ lc ∉ latF q1 fl ps lt ∧ H' lc = some (.lst (ts.map V.ref)) ∧ PrsAt H' ts pl ∧ (∀ e ∈ pl, e.1 ∈ nm ∧ isWt e.2 = true) ∧ pl.length = i ∧ Cov pm pl fs la)
        ⟨fl1, [], lt1, [], [], [], [], _, _, _, _, _, _, rfl, exbe, A1.ex exe, fr1, fun h => A1.alloc _ h hlc, elc, .nil, (fun _ h => nomatch h), rfl, [], rfl, fun h => absurd rfl h⟩ ?_ ?_ ?_ ?_⟩
      · rintro i σ H' hi ⟨fl, ps, lt, fs, la, ts, pl, v8, v9, v10, v11, v12, v13, rfl, ex, _⟩
        exact ⟨ns.map V.int, .int ns[i], sql_ex hSb ex, by rw [List.getElem?_map, List.getElem?_eq_getElem hi]; rfl⟩
      · rintro σ H' ⟨fl, ps, lt, fs, la, ts, pl, v8, v9, v10, v11, v12, v13, rfl, ex, _⟩
        exact ⟨ns.map V.int, sql_ex hSb ex, by rw [List.length_map]; exact Nat.le_refl _⟩
      · rintro i σ H3 hi ⟨fl, ps, lt, fs, la, ts, pl, v8, v9, v10, v11, v12, v13, rfl, ex3, A3, fr3, lcn, el3, hp3, po, pn', cov⟩ x H4 ⟨T1, y, rfl, nT1, rfl, hy⟩
        have ey := hy _ (sql_ex hSb ex3)
        rw [List.getElem?_map, List.getElem?_eq_getElem hi] at ey
        cases ey
        generalize ns[i] = z
        have exA := Evl.Ex.new (o := .tup [.int ((i : Nat) : Int), .int z]) nT1
        refine ⟨T1, _, rfl, SqT.of upd_same, rfl, _, _, rfl, _, _, rfl, rfl, ?_⟩
        refine sq_any (fun σ' H' => ∃ (n : Str) (wt : Int), σ' = st11 a pn r m pc pm q1 lc (some (.int ((i : Nat) : Int))) (some (.int z)) (some (.str n)) (some (.int wt)) v12 v13 none ∧ n ∈ nm ∧ isWt wt = true ∧ Ex (upd H3 T1 (.tup [.int ((i : Nat) : Int), .int z])) H')
          (fun D' hD => ⟨_, rfl, _, rfl, _, rfl, pn, nm, z, _, rfl, SqL.of ((ex3.trans exA) _ _ eb), hnl, fun n wt T2 H6 hn hwt exB nT2 eT2 => ⟨T2, _, rfl, SqT.of eT2, rfl, _, _, rfl, _, _, rfl, rfl, hD _ _ ⟨n, wt, rfl, hn, hwt, exB⟩⟩⟩) ?_
        rintro σ' H5 ⟨n, wt, rfl, hn, hwt, exB⟩
        have okn := hnm.ok n hn
        have exC := exA.trans exB
        have A5 := A3.ex exC
        have ex5 := ex3.trans exC
        have el5 := exC _ _ el3
        have hp5 := prs_ex hp3 exC
        -- a coming
        refine sq_any (fun σ' H' => ∃ (fl' : Addr) (ps' : List (Addr × Addr)) (lt' : Addr × Addr), σ' = st11 a pn r m pc pm q1 lc (some (.int ((i : Nat) : Int))) (some (.int z)) (some (.str n)) (some (.int wt)) v12 v13 none ∧ (∀ b ∈ latF q1 fl' ps' lt', b ∈ latF q1 fl ps lt ∨ H5 b = none) ∧ Off (latF q1 fl ps lt) H5 H' ∧
            LatAt C CL H' q1 fl' ps' lt' r pc pm (stepP pc pm (fs, la) (n, wt)).1 (stepP pc pm (fs, la) (n, wt)).2)
          (fun D' hD => rd_lcome (n := n) (wt := wt) (ws := [.str n, .int wt]) rfl (fun R hR => ⟨_, rfl, _, rfl, hR⟩) rfl A5 okn hwt fun H' fl' ps' lt' fr off A => hD _ _ ⟨fl', ps', lt', rfl, fr, off, A⟩) ?_
        rintro σ' H6 ⟨fl', ps', lt', rfl, fr6, off, A6⟩
        have ex6 := ex_off ex5 off fr3
        have frn : ∀ b ∈ latF q1 fl' ps' lt', Hb b = none := fun b hb => (fr6 b hb).elim (fr3 b) (none_ex ex5)
        have lcn6 : lc ∉ latF q1 fl' ps' lt' := fun h => by
          rcases fr6 _ h with z | z
          · exact lcn z
          · rw [el5] at z; cases z
        have el6 := off _ _ lcn el5
        have hp6 := prs_off hp5 off A5.notup
        have cov6 := cov_step (pc := pc) (e := (n, wt)) A5.cnt cov
        have cnt6 := A6.cnt
        clear A5 A3 off exC exB exA fr6 fr3 ex5 el5 hp5 el3 hp3 lcn cov
        generalize (stepP pc pm (fs, la) (n, wt)).1 = gs at A6 cov6
        generalize (stepP pc pm (fs, la) (n, wt)).2 = ga at A6 cov6
        have tl := prs_len hp6
        -- noted
        refine sq_any (fun σ' H' => ∃ ts' : List Addr, σ' = st11 a pn r m pc pm q1 lc (some (.int ((i : Nat) : Int))) (some (.int z)) (some (.str n)) (some (.int wt)) v12 v13 none ∧ Ex Hb H' ∧ LatAt C CL H' q1 fl' ps' lt' r pc pm gs ga ∧ H' lc = some (.lst (ts'.map V.ref)) ∧ PrsAt H' ts' (pl ++ [(n, wt)])) (fun D' hD => ?_) ?_
        · refine ⟨_, rfl, .inl ⟨rfl, _, SqL.of el6⟩, _, rfl, _, rfl, two, fun T2 hT2 => ?_⟩
          have xT := Evl.Ex.new (o := .tup [.str n, .int wt]) hT2
          have el7 := xT _ _ el6
          have T2lc : T2 ≠ lc := fun h => by rw [h, el6] at hT2; cases hT2
          have offd : Off [lc] (upd H6 T2 (.tup [.str n, .int wt])) (upd (upd H6 T2 (.tup [.str n, .int wt])) lc (.lst (ts.map V.ref ++ [V.ref T2]))) := Off.upd (List.mem_cons_self ..)
          refine ⟨lc, _, _, rfl, rfl, el7, small (by rw [List.length_map]; omega), hD _ _ ⟨ts ++ [T2], rfl, ex_off (ex6.trans xT) offd (fun b hb => by rw [List.mem_singleton.mp hb]; exact lcb), (A6.ex xT).off offd (fun b hb hb2 => lcn6 (by rw [← List.mem_singleton.mp hb2]; exact hb)), ?_, ?_⟩⟩
          · rw [upd_same, List.map_append]
            rfl
          · refine prs_snoc (prs_off (prs_ex hp6 xT) offd fun b hb xs hx => ?_) ?_
            · rw [List.mem_singleton.mp hb, el7] at hx
              cases hx
            · rw [upd_ne T2lc]
              exact upd_same
        rintro σ' H7 ⟨ts', rfl, ex7, A7, el7, hp7⟩
        clear A6 ex6 el6 hp6 tl
        have po7 : ∀ e ∈ pl ++ [(n, wt)], e.1 ∈ nm ∧ isWt e.2 = true := fun e he => by
          rcases List.mem_append.mp he with h | h
          · exact po e h
          · rw [List.mem_singleton.mp h]
            exact ⟨hn, hwt⟩
        have pl7 : (pl ++ [(n, wt)]).length = i + 1 := by rw [List.length_append, pn']; rfl
        obtain ⟨j, hj, hj4⟩ : ∃ j : Nat, ((i : Nat) : Int) % 4 = (j : Int) ∧ j < 4 := by
          have h := mod0 (i : Int) 4 (by decide)
          exact ⟨(((i : Nat) : Int) % 4).toNat, by omega, by omega⟩
        -- one that is none
        refine sq_any (fun σ' H' => ∃ (wr : Addr) (x : V × V) (b : Bool), σ' = st11 a pn r m pc pm q1 lc (some (.int ((i : Nat) : Int))) (some (.int z)) (some (.str n)) (some (.int wt)) (some (.ref wr)) v13 none ∧ Ex H7 H' ∧ H' wr = some (.tup [x.1, x.2]) ∧
            ((b = true ∧ isNameV x.1 = false) ∨ (b = false ∧ isNameV x.1 = true ∧ isWtV x.2 = false)) ∧ (∀ H'' : Hp, Thing K H'' x.1 ∧ Thing K H'' x.2) ∧ (∀ z, x.1 = V.str z → z.length ≤ sizeLine) ∧
            ([.str "name", .str "weight", .str "name", .str "weight"] : List V)[j]? = some (.str (if b then "name" else "weight"))) (fun D' hD => ?_) ?_
        · refine ⟨two, fun t1 h1 => ?_⟩
          have x1 := Evl.Ex.new (o := .tup [.str "a1", .int 0]) h1
          refine ⟨_, rfl, two, fun t2 h2 => ?_⟩
          have x2 := Evl.Ex.new (o := .tup [.str n, .int 0]) h2
          refine ⟨two, fun t3 h3 => ?_⟩
          have x3 := Evl.Ex.new (o := .tup [.non, .int 1]) h3
          refine ⟨_, rfl, two, fun t4 h4 => ?_⟩
          have x4 := Evl.Ex.new (o := .tup [.str n, .bl true]) h4
          refine ⟨four, fun l hl => ?_⟩
          have x6 := Evl.Ex.new (o := .lst [.ref t1, .ref t2, .ref t3, .ref t4]) hl
          refine ⟨_, rfl, _, _, rfl, rfl, (by show (0 : Int) < _; decide), ?_⟩
          have exA := (((x1.trans x2).trans x3).trans x4).trans x6
          have no1 : isNameV (.str "a1") = false := by decide +kernel
          have sz1 : ("a1" : Str).length ≤ sizeLine := big _ (by decide +kernel)
          have hjs : j = 0 ∨ j = 1 ∨ j = 2 ∨ j = 3 := by omega
          rcases hjs with rfl | rfl | rfl | rfl
          · exact ⟨l, _, _, .ref t1, rfl, congrArg V.int hj, SqL.of upd_same, atI_nat (j := 0) rfl, hD _ _ ⟨t1, (.str "a1", .int 0), true, rfl, exA, (((x2.trans x3).trans x4).trans x6) _ _ upd_same, .inl ⟨rfl, no1⟩, fun _ => ⟨thing_str _, thing_int _⟩, fun z e => by cases e; exact sz1, rfl⟩⟩
          · exact ⟨l, _, _, .ref t2, rfl, congrArg V.int hj, SqL.of upd_same, atI_nat (j := 1) rfl, hD _ _ ⟨t2, (.str n, .int 0), false, rfl, exA, ((x3.trans x4).trans x6) _ _ upd_same, .inr ⟨rfl, okn, (show isWt 0 = false by decide +kernel)⟩, fun _ => ⟨thing_str _, thing_int _⟩, fun z e => by cases e; exact name_size okn, rfl⟩⟩
          · exact ⟨l, _, _, .ref t3, rfl, congrArg V.int hj, SqL.of upd_same, atI_nat (j := 2) rfl, hD _ _ ⟨t3, (.non, .int 1), true, rfl, exA, (x4.trans x6) _ _ upd_same, .inl ⟨rfl, rfl⟩, fun _ => ⟨thing_non, thing_int _⟩, (fun z e => nomatch e), rfl⟩⟩
          · exact ⟨l, _, _, .ref t4, rfl, congrArg V.int hj, SqL.of upd_same, atI_nat (j := 3) rfl, hD _ _ ⟨t4, (.str n, .bl true), false, rfl, exA, x6 _ _ upd_same, .inr ⟨rfl, okn, rfl⟩, fun _ => ⟨thing_str _, thing_bl _⟩, fun z e => by cases e; exact name_size okn, rfl⟩⟩
        rintro σ' H8 ⟨wr, x, b, rfl, ex78, ewr, bad, th, sz, wd⟩
        have A8 := A7.ex ex78
        -- it is refused
        refine sq_any (fun σ' H' => ∃ w13 : Option V, σ' = st11 a pn r m pc pm q1 lc (some (.int ((i : Nat) : Int))) (some (.int z)) (some (.str n)) (some (.int wt)) (some (.ref wr)) w13 none ∧ Ex H8 H') (fun D' hD => ?_) ?_
        · refine ⟨_, rfl, _, _, rfl, rfl, (by show (0 : Int) < _; decide), rfl, _, rfl, ?_⟩
          refine ite2 (fun _ => ?_) (fun _ => hD _ _ ⟨_, rfl, Evl.Ex.refl _⟩)
          refine sq_any (fun σ' H' => σ' = st11 a pn r m pc pm q1 lc (some (.int ((i : Nat) : Int))) (some (.int z)) (some (.str n)) (some (.int wt)) (some (.ref wr)) (some (.str (if b then "name" else "weight"))) none ∧ Ex H8 H')
            (fun D2 hD2 => ⟨four, fun l hl => ⟨_, rfl, _, _, rfl, rfl, (by show (0 : Int) < _; decide), l, _, _, _, rfl, congrArg V.int hj, SqL.of upd_same, atI_nat wd, hD2 _ _ ⟨rfl, Evl.Ex.new hl⟩⟩⟩) ?_
          rintro σ' H9 ⟨rfl, ex89⟩
          have ewr9 := ex89 _ _ ewr
          refine ⟨_, rfl, _, rfl, wr, _, 0, _, rfl, rfl, SqT.of ewr9, atI_nat (j := 0) rfl, _, rfl, wr, _, 1, _, rfl, rfl, SqT.of ewr9, atI_nat (j := 1) rfl, q1, fl', ps', lt', r, pc, pm, gs, ga, x.1, x.2, if b then CN else CW, rfl, A8.ex ex89, fun H' => (th H').1, fun H' => (th H').2, sz, ?_, fun H' c exb eb => ?_⟩
          · rcases bad with ⟨rfl, h⟩ | ⟨rfl, h1, h2⟩
            · exact .inl ⟨h, rfl⟩
            · exact .inr ⟨h1, h2, rfl⟩
          · rcases bad with ⟨rfl, h⟩ | ⟨rfl, h1, h2⟩
            · exact ⟨.ref c, _, _, _, _, _, _, rfl, says_held eb kN.e kN.k1, says_held eb kN.e kN.k2, says_held eb kN.e kN.k3, says_held eb kN.e kN.k4, says_held eb kN.e kN.k5, says_held eb kN.e kN.k6, fun H2 e2 => ⟨_, rfl, rfl, _, rfl, hD _ _ ⟨_, rfl, (ex89.trans exb).trans e2⟩⟩⟩
            · exact ⟨.ref c, _, _, _, _, _, _, rfl, says_held eb kW.e kW.k1, says_held eb kW.e kW.k2, says_held eb kW.e kW.k3, says_held eb kW.e kW.k4, says_held eb kW.e kW.k5, says_held eb kW.e kW.k6, fun H2 e2 => ⟨_, rfl, rfl, _, rfl, hD _ _ ⟨_, rfl, (ex89.trans exb).trans e2⟩⟩⟩
        rintro σ' H9 ⟨w13, rfl, ex89⟩
        have ex79 := ex78.trans ex89
        refine ⟨_, rfl, _, rfl, _, rfl, _, rfl, _, rfl, q1, fl', ps', lt', r, pc, pm, gs, ga, lc, ts', pl ++ [(n, wt)], pn, nm, rfl, A7.ex ex79, ex79 _ _ el7, prs_ex hp7 ex79, by omega, cov6, fun e he => ⟨hnok _ (po7 e he).1, (po7 e he).2⟩, (ex7.trans ex79) _ _ eb, hnok, fun H' ex' => ⟨_, rfl, iteF ?_⟩⟩
        exact ⟨fl', ps', lt', gs, ga, ts', pl ++ [(n, wt)], _, _, _, _, _, _, rfl, (ex7.trans ex79).trans ex', A7.ex (ex79.trans ex'), frn, lcn6, (ex79.trans ex') _ _ el7, prs_ex hp7 (ex79.trans ex'), po7, pl7, cov6⟩
      · rintro σ H' ⟨fl, ps, lt, fs, la, ts, pl, v8, v9, v10, v11, v12, v13, rfl, ex, _⟩
        exact hD _ _ ⟨_, _, _, _, _, _, rfl, ex⟩
    rintro σ' Hf ⟨v8, v9, v10, v11, v12, v13, rfl, exf⟩
    -- rows that are none
    refine sq_any (fun σ' H' => ∃ y : V, σ' = st11 a pn r m pc pm q1 lc v8 v9 v10 v11 v12 v13 (some y) ∧ (∀ H'' : Hp, Thing K H'' y) ∧ isPc 1000 y = false) (fun D' hD => ?_) ?_
    · refine ⟨_, rfl, big 5 (by decide), fun l hl => ?_⟩
      refine ⟨_, rfl, _, _, rfl, rfl, ⟨by decide, by decide⟩, _, _, rfl, rfl, (by show (0 : Int) < _; decide), pick_reads upd_same (mod0 _ 5 (by decide)).1 (mod0 _ 5 (by decide)).2 fun v hv => hD _ _ ⟨v, rfl, ?_⟩⟩
      simp only [List.mem_cons, List.not_mem_nil, or_false] at hv
      rcases hv with rfl | rfl | rfl | rfl | rfl
      · exact ⟨fun _ => thing_int _, rfl⟩
      · exact ⟨fun _ => thing_int _, rfl⟩
      · exact ⟨fun _ => thing_bl _, rfl⟩
      · exact ⟨fun _ => thing_non, rfl⟩
      · exact ⟨fun _ => thing_int _, rfl⟩
    rintro σ' Hg ⟨y, rfl, ty, by_⟩
    have room : isRoomV (.int r) = true := decide_eq_true ⟨r1, r2⟩
    refine sq_if (fun H' => True) (fun Q' hQ => ?_) ?_
    · refine ⟨_, rfl, .int 0, y, .int 1, rfl, fun _ => thing_int _, ty, fun _ => thing_int _, fun _ H' ex => ⟨rfl, _, rfl, iteF ?_⟩, (fun h => absurd h (by decide)), fun h => absurd h (by decide)⟩
      refine ⟨_, rfl, _, rfl, _, rfl, .int r, y, .int pm, rfl, fun _ => thing_int _, ty, fun _ => thing_int _, fun h => absurd (h.symm.trans room) (by decide), fun _ _ H2 ex2 => ⟨rfl, _, rfl, hQ _ trivial⟩, fun _ h => ?_⟩
      rw [by_, Bool.false_and] at h
      cases h
    intro Hh _
    refine ⟨_, rfl, _, rfl, big 3 (by decide), fun l hl => ?_⟩
    refine ⟨_, rfl, _, _, rfl, rfl, ⟨by decide, by decide⟩, _, _, rfl, rfl, (by show (0 : Int) < _; decide), pick_reads upd_same (mod0 _ 3 (by decide)).1 (mod0 _ 3 (by decide)).2 fun v hv => ?_⟩
    have bad : (∀ H' : Hp, Thing K H' v) ∧ isPc 50 v = false := by
      simp only [List.mem_cons, List.not_mem_nil, or_false] at hv
      rcases hv with rfl | rfl | rfl
      · exact ⟨fun _ => thing_int _, rfl⟩
      · exact ⟨fun _ => thing_int _, rfl⟩
      · exact ⟨fun _ => thing_bl _, rfl⟩
    refine ⟨.int r, .int pc, v, rfl, fun _ => thing_int _, fun _ => thing_int _, bad.1, fun h => absurd (h.symm.trans room) (by decide), fun _ _ H' _ => ?_, fun _ h => ?_⟩
    · refine ⟨rfl, ?_⟩
      rw [decide_eq_true (rfl : V.str (Str.ofString "piece") = V.str (Str.ofString "piece"))]
      refine ⟨_, rfl, iteT ?_⟩
      refine ⟨.int 50, .int 1000, .int 50, rfl, fun _ => thing_int _, fun _ => thing_int _, fun _ => thing_int _, (fun h => absurd h (by decide)), (fun _ h => absurd h (by decide)), fun _ _ H2 _ => ⟨rfl, ?_⟩⟩
      rw [decide_eq_true (rfl : V.str (Str.ofString "") = V.str (Str.ofString ""))]
      exact q H2
    · rw [bad.2, Bool.and_false] at h
      cases h
end
/-! ### what the top has written, each a fact that k_is finds, and the law over it -/
theorem all_mk {l : PySem.W.OpenLaw} {w : World} {K : PySem.W.Frag} {h : Heap} {mg : Str → Option Value} {fa C fIsWhole fIsName fNeedComing fNeedDrawers fLowered fDCome fDShown fDLost fDWeight fDDrawers fDLeast fDMost fDeskOf fPoured fLatelyInit fLatelyCome fLatelyTold fLatelyReach fLMixed fLNames fLDrawers fLComing fLHolds fLWord fLMade fLComeRefused fDInit fLaw CL CN CW CD CQ CP CT CE tD tE : Addr} (X : K.In h) (G : h.Ns mainGlobals mg) (hfa : mg "law" = some (.ref fa))
    {odIsWhole anIsWhole odIsName anIsName odNeedComing anNeedComing odNeedDrawers anNeedDrawers odLowered anLowered odDCome anDCome odDShown anDShown odDLost anDLost odDWeight anDWeight odDDrawers anDDrawers odDLeast anDLeast odDMost anDMost odDeskOf anDeskOf odPoured anPoured odLatelyInit anLatelyInit odLatelyCome anLatelyCome odLatelyTold anLatelyTold odLatelyReach anLatelyReach odLMixed anLMixed odLNames anLNames odLDrawers anLDrawers odLComing anLComing odLHolds anLHolds odLWord anLWord odLMade anLMade odLComeRefused anLComeRefused odDInit anDInit odLaw anLaw odT : Option Addr} {slIsWhole slIsName slNeedComing slNeedDrawers slLowered slDCome slDShown slDLost slDWeight slDDrawers slDLeast slDMost slDeskOf slPoured slLatelyInit slLatelyCome slLatelyTold slLatelyReach slLMixed slLNames slLDrawers slLComing slLHolds slLWord slLMade slLComeRefused slDInit slLaw slT : Array (Option Value)} {ocIsWhole kVIsWhole dcIsWhole pmIsWhole cdIsWhole ctIsWhole ocIsName kVIsName dcIsName pmIsName cdIsName ctIsName ocNeedComing kVNeedComing dcNeedComing pmNeedComing cdNeedComing ctNeedComing ocNeedDrawers kVNeedDrawers dcNeedDrawers pmNeedDrawers cdNeedDrawers ctNeedDrawers ocLowered kVLowered dcLowered pmLowered cdLowered ctLowered ocDCome kVDCome dcDCome pmDCome cdDCome ctDCome ocDShown kVDShown dcDShown pmDShown cdDShown ctDShown ocDLost kVDLost dcDLost pmDLost cdDLost ctDLost ocDWeight kVDWeight dcDWeight pmDWeight cdDWeight ctDWeight ocDDrawers kVDDrawers dcDDrawers pmDDrawers cdDDrawers ctDDrawers ocDLeast kVDLeast dcDLeast pmDLeast cdDLeast ctDLeast ocDMost kVDMost dcDMost pmDMost cdDMost ctDMost ocDeskOf kVDeskOf dcDeskOf pmDeskOf cdDeskOf ctDeskOf ocPoured kVPoured dcPoured pmPoured cdPoured ctPoured ocLatelyInit kVLatelyInit dcLatelyInit pmLatelyInit cdLatelyInit ctLatelyInit ocLatelyCome kVLatelyCome dcLatelyCome pmLatelyCome cdLatelyCome ctLatelyCome ocLatelyTold kVLatelyTold dcLatelyTold pmLatelyTold cdLatelyTold ctLatelyTold ocLatelyReach kVLatelyReach dcLatelyReach pmLatelyReach cdLatelyReach ctLatelyReach ocLMixed kVLMixed dcLMixed pmLMixed cdLMixed ctLMixed ocLNames kVLNames dcLNames pmLNames cdLNames ctLNames ocLDrawers kVLDrawers dcLDrawers pmLDrawers cdLDrawers ctLDrawers ocLComing kVLComing dcLComing pmLComing cdLComing ctLComing ocLHolds kVLHolds dcLHolds pmLHolds cdLHolds ctLHolds ocLWord kVLWord dcLWord pmLWord cdLWord ctLWord ocLMade kVLMade dcLMade pmLMade cdLMade ctLMade ocLComeRefused kVLComeRefused dcLComeRefused pmLComeRefused cdLComeRefused ctLComeRefused ocDInit kVDInit dcDInit pmDInit cdDInit ctDInit ocLaw kVLaw dcLaw pmLaw cdLaw ctLaw ocT : Value} {t8 tL tG tM tT : Tok} {nT : Nat} {odE : Option Addr} {slE : Array (Option Value)} {ocE : Value} {tET tLP tMP : Tok} {nE : Nat}
    (aC : PySem.W.nsIn K mainGlobals "Desk" = some (some (.ref C)))
    (aCL : PySem.W.nsIn K mainGlobals "Lately" = some (some (.ref CL)))
    (aIsWhole : PySem.W.nsIn K mainGlobals "is_whole" = some (some (.ref fIsWhole)))
    (lIsWhole : K.lookup fIsWhole = some ⟨ocIsWhole, odIsWhole, .func (PySem.W.fnOf "is_whole" "is_whole" (defArgs sIsWhole) (defBody sIsWhole) (defScope sIsWhole) .none kVIsWhole dcIsWhole pmIsWhole anIsWhole cdIsWhole ctIsWhole), slIsWhole⟩)
    (cIsWhole : PySem.W.codeIn K cdIsWhole "is_whole" = true)
    (kIsWhole : PySem.W.keepIn K (.ref fIsWhole) = true)
    (aIsName : PySem.W.nsIn K mainGlobals "is_name" = some (some (.ref fIsName)))
    (lIsName : K.lookup fIsName = some ⟨ocIsName, odIsName, .func (PySem.W.fnOf "is_name" "is_name" (defArgs sIsName) (defBody sIsName) (defScope sIsName) .none kVIsName dcIsName pmIsName anIsName cdIsName ctIsName), slIsName⟩)
    (cIsName : PySem.W.codeIn K cdIsName "is_name" = true)
    (kIsName : PySem.W.keepIn K (.ref fIsName) = true)
    (aNeedComing : PySem.W.nsIn K mainGlobals "need_coming" = some (some (.ref fNeedComing)))
    (lNeedComing : K.lookup fNeedComing = some ⟨ocNeedComing, odNeedComing, .func (PySem.W.fnOf "need_coming" "need_coming" (defArgs sNeedComing) (defBody sNeedComing) (defScope sNeedComing) .none kVNeedComing dcNeedComing pmNeedComing anNeedComing cdNeedComing ctNeedComing), slNeedComing⟩)
    (cNeedComing : PySem.W.codeIn K cdNeedComing "need_coming" = true)
    (kNeedComing : PySem.W.keepIn K (.ref fNeedComing) = true)
    (aNeedDrawers : PySem.W.nsIn K mainGlobals "need_drawers" = some (some (.ref fNeedDrawers)))
    (lNeedDrawers : K.lookup fNeedDrawers = some ⟨ocNeedDrawers, odNeedDrawers, .func (PySem.W.fnOf "need_drawers" "need_drawers" (defArgs sNeedDrawers) (defBody sNeedDrawers) (defScope sNeedDrawers) .none kVNeedDrawers dcNeedDrawers pmNeedDrawers anNeedDrawers cdNeedDrawers ctNeedDrawers), slNeedDrawers⟩)
    (cNeedDrawers : PySem.W.codeIn K cdNeedDrawers "need_drawers" = true)
    (kNeedDrawers : PySem.W.keepIn K (.ref fNeedDrawers) = true)
    (aLowered : PySem.W.nsIn K mainGlobals "lowered" = some (some (.ref fLowered)))
    (lLowered : K.lookup fLowered = some ⟨ocLowered, odLowered, .func (PySem.W.fnOf "lowered" "lowered" (defArgs sLowered) (defBody sLowered) (defScope sLowered) .none kVLowered dcLowered pmLowered anLowered cdLowered ctLowered), slLowered⟩)
    (cLowered : PySem.W.codeIn K cdLowered "lowered" = true)
    (kLowered : PySem.W.keepIn K (.ref fLowered) = true)
    (aDCome : PySem.W.findIn K (.ref C) "come" = some (some (.ref fDCome)))
    (iDCome : PySem.W.isFn K (.ref fDCome) = true)
    (lDCome : K.lookup fDCome = some ⟨ocDCome, odDCome, .func (PySem.W.fnOf "come" "Desk.come" (defArgs sDCome) (defBody sDCome) (defScope sDCome) (.ref tD) kVDCome dcDCome pmDCome anDCome cdDCome ctDCome), slDCome⟩)
    (cDCome : PySem.W.codeIn K cdDCome "Desk.come" = true)
    (kDCome : PySem.W.keepIn K (.ref fDCome) = true)
    (aDShown : PySem.W.findIn K (.ref C) "shown" = some (some (.ref fDShown)))
    (iDShown : PySem.W.isFn K (.ref fDShown) = true)
    (lDShown : K.lookup fDShown = some ⟨ocDShown, odDShown, .func (PySem.W.fnOf "shown" "Desk.shown" (defArgs sDShown) (defBody sDShown) (defScope sDShown) .none kVDShown dcDShown pmDShown anDShown cdDShown ctDShown), slDShown⟩)
    (cDShown : PySem.W.codeIn K cdDShown "Desk.shown" = true)
    (kDShown : PySem.W.keepIn K (.ref fDShown) = true)
    (aDLost : PySem.W.findIn K (.ref C) "lost" = some (some (.ref fDLost)))
    (iDLost : PySem.W.isFn K (.ref fDLost) = true)
    (lDLost : K.lookup fDLost = some ⟨ocDLost, odDLost, .func (PySem.W.fnOf "lost" "Desk.lost" (defArgs sDLost) (defBody sDLost) (defScope sDLost) .none kVDLost dcDLost pmDLost anDLost cdDLost ctDLost), slDLost⟩)
    (cDLost : PySem.W.codeIn K cdDLost "Desk.lost" = true)
    (kDLost : PySem.W.keepIn K (.ref fDLost) = true)
    (aDWeight : PySem.W.findIn K (.ref C) "weight" = some (some (.ref fDWeight)))
    (iDWeight : PySem.W.isFn K (.ref fDWeight) = true)
    (lDWeight : K.lookup fDWeight = some ⟨ocDWeight, odDWeight, .func (PySem.W.fnOf "weight" "Desk.weight" (defArgs sDWeight) (defBody sDWeight) (defScope sDWeight) .none kVDWeight dcDWeight pmDWeight anDWeight cdDWeight ctDWeight), slDWeight⟩)
    (cDWeight : PySem.W.codeIn K cdDWeight "Desk.weight" = true)
    (kDWeight : PySem.W.keepIn K (.ref fDWeight) = true)
    (aDDrawers : PySem.W.findIn K (.ref C) "drawers" = some (some (.ref fDDrawers)))
    (iDDrawers : PySem.W.isFn K (.ref fDDrawers) = true)
    (lDDrawers : K.lookup fDDrawers = some ⟨ocDDrawers, odDDrawers, .func (PySem.W.fnOf "drawers" "Desk.drawers" (defArgs sDDrawers) (defBody sDDrawers) (defScope sDDrawers) .none kVDDrawers dcDDrawers pmDDrawers anDDrawers cdDDrawers ctDDrawers), slDDrawers⟩)
    (cDDrawers : PySem.W.codeIn K cdDDrawers "Desk.drawers" = true)
    (kDDrawers : PySem.W.keepIn K (.ref fDDrawers) = true)
    (aDLeast : PySem.W.findIn K (.ref C) "least" = some (some (.ref fDLeast)))
    (iDLeast : PySem.W.isFn K (.ref fDLeast) = true)
    (lDLeast : K.lookup fDLeast = some ⟨ocDLeast, odDLeast, .func (PySem.W.fnOf "least" "Desk.least" (defArgs sDLeast) (defBody sDLeast) (defScope sDLeast) .none kVDLeast dcDLeast pmDLeast anDLeast cdDLeast ctDLeast), slDLeast⟩)
    (cDLeast : PySem.W.codeIn K cdDLeast "Desk.least" = true)
    (kDLeast : PySem.W.keepIn K (.ref fDLeast) = true)
    (aDMost : PySem.W.findIn K (.ref C) "most" = some (some (.ref fDMost)))
    (iDMost : PySem.W.isFn K (.ref fDMost) = true)
    (lDMost : K.lookup fDMost = some ⟨ocDMost, odDMost, .func (PySem.W.fnOf "most" "Desk.most" (defArgs sDMost) (defBody sDMost) (defScope sDMost) .none kVDMost dcDMost pmDMost anDMost cdDMost ctDMost), slDMost⟩)
    (cDMost : PySem.W.codeIn K cdDMost "Desk.most" = true)
    (kDMost : PySem.W.keepIn K (.ref fDMost) = true)
    (aDeskOf : PySem.W.nsIn K mainGlobals "desk_of" = some (some (.ref fDeskOf)))
    (lDeskOf : K.lookup fDeskOf = some ⟨ocDeskOf, odDeskOf, .func (PySem.W.fnOf "desk_of" "desk_of" (defArgs sDeskOf) (defBody sDeskOf) (defScope sDeskOf) .none kVDeskOf dcDeskOf pmDeskOf anDeskOf cdDeskOf ctDeskOf), slDeskOf⟩)
    (cDeskOf : PySem.W.codeIn K cdDeskOf "desk_of" = true)
    (kDeskOf : PySem.W.keepIn K (.ref fDeskOf) = true)
    (aPoured : PySem.W.nsIn K mainGlobals "poured" = some (some (.ref fPoured)))
    (lPoured : K.lookup fPoured = some ⟨ocPoured, odPoured, .func (PySem.W.fnOf "poured" "poured" (defArgs sPoured) (defBody sPoured) (defScope sPoured) .none kVPoured dcPoured pmPoured anPoured cdPoured ctPoured), slPoured⟩)
    (cPoured : PySem.W.codeIn K cdPoured "poured" = true)
    (kPoured : PySem.W.keepIn K (.ref fPoured) = true)
    (aLatelyInit : PySem.W.findIn K (.ref CL) "__init__" = some (some (.ref fLatelyInit)))
    (iLatelyInit : PySem.W.isFn K (.ref fLatelyInit) = true)
    (lLatelyInit : K.lookup fLatelyInit = some ⟨ocLatelyInit, odLatelyInit, .func (PySem.W.fnOf "__init__" "Lately.__init__" (defArgs sLatelyInit) (defBody sLatelyInit) (defScope sLatelyInit) .none kVLatelyInit dcLatelyInit pmLatelyInit anLatelyInit cdLatelyInit ctLatelyInit), slLatelyInit⟩)
    (cLatelyInit : PySem.W.codeIn K cdLatelyInit "Lately.__init__" = true)
    (kLatelyInit : PySem.W.keepIn K (.ref fLatelyInit) = true)
    (aLatelyCome : PySem.W.findIn K (.ref CL) "come" = some (some (.ref fLatelyCome)))
    (iLatelyCome : PySem.W.isFn K (.ref fLatelyCome) = true)
    (lLatelyCome : K.lookup fLatelyCome = some ⟨ocLatelyCome, odLatelyCome, .func (PySem.W.fnOf "come" "Lately.come" (defArgs sLatelyCome) (defBody sLatelyCome) (defScope sLatelyCome) (.ref tE) kVLatelyCome dcLatelyCome pmLatelyCome anLatelyCome cdLatelyCome ctLatelyCome), slLatelyCome⟩)
    (cLatelyCome : PySem.W.codeIn K cdLatelyCome "Lately.come" = true)
    (kLatelyCome : PySem.W.keepIn K (.ref fLatelyCome) = true)
    (aLatelyTold : PySem.W.findIn K (.ref CL) "told" = some (some (.ref fLatelyTold)))
    (iLatelyTold : PySem.W.isFn K (.ref fLatelyTold) = true)
    (lLatelyTold : K.lookup fLatelyTold = some ⟨ocLatelyTold, odLatelyTold, .func (PySem.W.fnOf "told" "Lately.told" (defArgs sLatelyTold) (defBody sLatelyTold) (defScope sLatelyTold) .none kVLatelyTold dcLatelyTold pmLatelyTold anLatelyTold cdLatelyTold ctLatelyTold), slLatelyTold⟩)
    (cLatelyTold : PySem.W.codeIn K cdLatelyTold "Lately.told" = true)
    (kLatelyTold : PySem.W.keepIn K (.ref fLatelyTold) = true)
    (aLatelyReach : PySem.W.findIn K (.ref CL) "reach" = some (some (.ref fLatelyReach)))
    (iLatelyReach : PySem.W.isFn K (.ref fLatelyReach) = true)
    (lLatelyReach : K.lookup fLatelyReach = some ⟨ocLatelyReach, odLatelyReach, .func (PySem.W.fnOf "reach" "Lately.reach" (defArgs sLatelyReach) (defBody sLatelyReach) (defScope sLatelyReach) .none kVLatelyReach dcLatelyReach pmLatelyReach anLatelyReach cdLatelyReach ctLatelyReach), slLatelyReach⟩)
    (cLatelyReach : PySem.W.codeIn K cdLatelyReach "Lately.reach" = true)
    (kLatelyReach : PySem.W.keepIn K (.ref fLatelyReach) = true)
    (aLMixed : PySem.W.nsIn K mainGlobals "_law_mixed" = some (some (.ref fLMixed)))
    (lLMixed : K.lookup fLMixed = some ⟨ocLMixed, odLMixed, .func (PySem.W.fnOf "_law_mixed" "_law_mixed" (defArgs sLMixed) (defBody sLMixed) (defScope sLMixed) .none kVLMixed dcLMixed pmLMixed anLMixed cdLMixed ctLMixed), slLMixed⟩)
    (cLMixed : PySem.W.codeIn K cdLMixed "_law_mixed" = true)
    (kLMixed : PySem.W.keepIn K (.ref fLMixed) = true)
    (aLNames : PySem.W.nsIn K mainGlobals "_law_names" = some (some (.ref fLNames)))
    (lLNames : K.lookup fLNames = some ⟨ocLNames, odLNames, .func (PySem.W.fnOf "_law_names" "_law_names" (defArgs sLNames) (defBody sLNames) (defScope sLNames) .none kVLNames dcLNames pmLNames anLNames cdLNames ctLNames), slLNames⟩)
    (cLNames : PySem.W.codeIn K cdLNames "_law_names" = true)
    (kLNames : PySem.W.keepIn K (.ref fLNames) = true)
    (aLDrawers : PySem.W.nsIn K mainGlobals "_law_drawers" = some (some (.ref fLDrawers)))
    (lLDrawers : K.lookup fLDrawers = some ⟨ocLDrawers, odLDrawers, .func (PySem.W.fnOf "_law_drawers" "_law_drawers" (defArgs sLDrawers) (defBody sLDrawers) (defScope sLDrawers) .none kVLDrawers dcLDrawers pmLDrawers anLDrawers cdLDrawers ctLDrawers), slLDrawers⟩)
    (cLDrawers : PySem.W.codeIn K cdLDrawers "_law_drawers" = true)
    (kLDrawers : PySem.W.keepIn K (.ref fLDrawers) = true)
    (aLComing : PySem.W.nsIn K mainGlobals "_law_coming" = some (some (.ref fLComing)))
    (lLComing : K.lookup fLComing = some ⟨ocLComing, odLComing, .func (PySem.W.fnOf "_law_coming" "_law_coming" (defArgs sLComing) (defBody sLComing) (defScope sLComing) .none kVLComing dcLComing pmLComing anLComing cdLComing ctLComing), slLComing⟩)
    (cLComing : PySem.W.codeIn K cdLComing "_law_coming" = true)
    (kLComing : PySem.W.keepIn K (.ref fLComing) = true)
    (aLHolds : PySem.W.nsIn K mainGlobals "_law_holds" = some (some (.ref fLHolds)))
    (lLHolds : K.lookup fLHolds = some ⟨ocLHolds, odLHolds, .func (PySem.W.fnOf "_law_holds" "_law_holds" (defArgs sLHolds) (defBody sLHolds) (defScope sLHolds) .none kVLHolds dcLHolds pmLHolds anLHolds cdLHolds ctLHolds), slLHolds⟩)
    (cLHolds : PySem.W.codeIn K cdLHolds "_law_holds" = true)
    (kLHolds : PySem.W.keepIn K (.ref fLHolds) = true)
    (aLWord : PySem.W.nsIn K mainGlobals "_law_word" = some (some (.ref fLWord)))
    (lLWord : K.lookup fLWord = some ⟨ocLWord, odLWord, .func (PySem.W.fnOf "_law_word" "_law_word" (defArgs sLWord) (defBody sLWord) (defScope sLWord) .none kVLWord dcLWord pmLWord anLWord cdLWord ctLWord), slLWord⟩)
    (cLWord : PySem.W.codeIn K cdLWord "_law_word" = true)
    (kLWord : PySem.W.keepIn K (.ref fLWord) = true)
    (aLMade : PySem.W.nsIn K mainGlobals "_law_made" = some (some (.ref fLMade)))
    (lLMade : K.lookup fLMade = some ⟨ocLMade, odLMade, .func (PySem.W.fnOf "_law_made" "_law_made" (defArgs sLMade) (defBody sLMade) (defScope sLMade) .none kVLMade dcLMade pmLMade anLMade cdLMade ctLMade), slLMade⟩)
    (cLMade : PySem.W.codeIn K cdLMade "_law_made" = true)
    (kLMade : PySem.W.keepIn K (.ref fLMade) = true)
    (aLComeRefused : PySem.W.nsIn K mainGlobals "_law_come_refused" = some (some (.ref fLComeRefused)))
    (lLComeRefused : K.lookup fLComeRefused = some ⟨ocLComeRefused, odLComeRefused, .func (PySem.W.fnOf "_law_come_refused" "_law_come_refused" (defArgs sLComeRefused) (defBody sLComeRefused) (defScope sLComeRefused) .none kVLComeRefused dcLComeRefused pmLComeRefused anLComeRefused cdLComeRefused ctLComeRefused), slLComeRefused⟩)
    (cLComeRefused : PySem.W.codeIn K cdLComeRefused "_law_come_refused" = true)
    (kLComeRefused : PySem.W.keepIn K (.ref fLComeRefused) = true)
    (aDInit : PySem.W.findIn K (.ref C) "__init__" = some (some (.ref fDInit)))
    (iDInit : PySem.W.isFn K (.ref fDInit) = true)
    (lDInit : K.lookup fDInit = some ⟨ocDInit, odDInit, .func (PySem.W.fnOf "__init__" "Desk.__init__" (defArgs sDInit) (defBody sDInit) (defScope sDInit) .none kVDInit dcDInit pmDInit anDInit cdDInit ctDInit), slDInit⟩)
    (cDInit : PySem.W.codeIn K cdDInit "Desk.__init__" = true)
    (kDInit : PySem.W.keepIn K (.ref fDInit) = true)
    (aLaw : PySem.W.nsIn K mainGlobals "law" = some (some (.ref fLaw)))
    (lLaw : K.lookup fLaw = some ⟨ocLaw, odLaw, .func (PySem.W.fnOf "law" "law" (defArgs sLaw) (defBody sLaw) (defScope sLaw) .none kVLaw dcLaw pmLaw anLaw cdLaw ctLaw), slLaw⟩)
    (cLaw : PySem.W.codeIn K cdLaw "law" = true)
    (kLaw : PySem.W.keepIn K (.ref fLaw) = true)
    (lE : K.lookup tE = some ⟨ocE, odE, .seq #[.int 1 tET] nE, slE⟩)
    (pgL : PySem.W.plainGet K CL Str.empty = true)
    (hdL : PySem.W.hasDictIn K CL = true)
    (poL : PySem.W.plainOver K CL = true)
    (saL : PySem.W.findIn K (.ref CL) "__setattr__" = some (some (.builtin "object.__setattr__")))
    (mkL : PySem.W.makesIn K CL = true)
    (kcL : PySem.W.keepIn K (.ref CL) = true)
    (nL_room : PySem.W.findIn K (.ref CL) "room" = some none)
    (nL_piece : PySem.W.findIn K (.ref CL) "piece" = some none)
    (nL_pieces : PySem.W.findIn K (.ref CL) "pieces" = some none)
    (nL_full : PySem.W.findIn K (.ref CL) "full" = some none)
    (nL_latest : PySem.W.findIn K (.ref CL) "latest" = some none)
    (nL_came : PySem.W.findIn K (.ref CL) "came" = some none)
    (v_LONGEST_PIECE : PySem.W.nsIn K mainGlobals "LONGEST_PIECE" = some (some (.int 1000 tLP)))
    (v_MOST_PIECES : PySem.W.nsIn K mainGlobals "MOST_PIECES" = some (some (.int 50 tMP)))
    (lT : K.lookup tD = some ⟨ocT, odT, .seq #[.int 1 tT] nT, slT⟩)
    (pg : PySem.W.plainGet K C Str.empty = true)
    (hd : PySem.W.hasDictIn K C = true)
    (po : PySem.W.plainOver K C = true)
    (sa : PySem.W.findIn K (.ref C) "__setattr__" = some (some (.builtin "object.__setattr__")))
    (mk : PySem.W.makesIn K C = true)
    (kc : PySem.W.keepIn K (.ref C) = true)
    (n_room : PySem.W.findIn K (.ref C) "room" = some none)
    (n_counts : PySem.W.findIn K (.ref C) "counts" = some none)
    (n_gone : PySem.W.findIn K (.ref C) "gone" = some none)
    (n_total : PySem.W.findIn K (.ref C) "total" = some none)
    (o_len : PySem.W.nsIn K mainGlobals "len" = some none)
    (o_min : PySem.W.nsIn K mainGlobals "min" = some none)
    (o_list : PySem.W.nsIn K mainGlobals "list" = some none)
    (o_dict : PySem.W.nsIn K mainGlobals "dict" = some none)
    (o_sorted : PySem.W.nsIn K mainGlobals "sorted" = some none)
    (o_isinstance : PySem.W.nsIn K mainGlobals "isinstance" = some none)
    (o_int : PySem.W.nsIn K mainGlobals "int" = some none)
    (o_bool : PySem.W.nsIn K mainGlobals "bool" = some none)
    (o_str : PySem.W.nsIn K mainGlobals "str" = some none)
    (o_range : PySem.W.nsIn K mainGlobals "range" = some none)
    (o_enumerate : PySem.W.nsIn K mainGlobals "enumerate" = some none)
    (o_sum : PySem.W.nsIn K mainGlobals "sum" = some none)
    (o_zip : PySem.W.nsIn K mainGlobals "zip" = some none)
    (v_LONGEST : PySem.W.nsIn K mainGlobals "LONGEST" = some (some (.int 8 t8)))
    (v_LETTERS : PySem.W.nsIn K mainGlobals "LETTERS" = some (some (.str "abcdefghijklmnopqrstuvwxyz" tL)))
    (v_GREATEST : PySem.W.nsIn K mainGlobals "GREATEST" = some (some (.int 1000000000000000000000000000000000000000000000000000000000000 tG)))
    (v_MOST_DRAWERS : PySem.W.nsIn K mainGlobals "MOST_DRAWERS" = some (some (.int 50 tM)))
    (ea_NoName : PySem.W.nsIn K mainGlobals "NoName" = some (some (.ref CN)))
    (ex_NoName : PySem.W.excIn K CN [.type "ValueError", .type "Exception", .type "BaseException", .type "object"] "ValueError.__new__" = true)
    (ek_NoName : PySem.W.keepIn K (.ref CN) = true)
    (eb_NoName : PySem.W.subIn K (.ref CN) (.type "BaseException") = some true)
    (et_NoName : PySem.W.typeIn K (.ref CN) = some (.type "type"))
    (ea_NoWeight : PySem.W.nsIn K mainGlobals "NoWeight" = some (some (.ref CW)))
    (ex_NoWeight : PySem.W.excIn K CW [.type "ValueError", .type "Exception", .type "BaseException", .type "object"] "ValueError.__new__" = true)
    (ek_NoWeight : PySem.W.keepIn K (.ref CW) = true)
    (eb_NoWeight : PySem.W.subIn K (.ref CW) (.type "BaseException") = some true)
    (et_NoWeight : PySem.W.typeIn K (.ref CW) = some (.type "type"))
    (ea_NoDesk : PySem.W.nsIn K mainGlobals "NoDesk" = some (some (.ref CD)))
    (ex_NoDesk : PySem.W.excIn K CD [.type "ValueError", .type "Exception", .type "BaseException", .type "object"] "ValueError.__new__" = true)
    (ek_NoDesk : PySem.W.keepIn K (.ref CD) = true)
    (eb_NoDesk : PySem.W.subIn K (.ref CD) (.type "BaseException") = some true)
    (et_NoDesk : PySem.W.typeIn K (.ref CD) = some (.type "type"))
    (ea_NoMatch : PySem.W.nsIn K mainGlobals "NoMatch" = some (some (.ref CQ)))
    (ex_NoMatch : PySem.W.excIn K CQ [.type "ValueError", .type "Exception", .type "BaseException", .type "object"] "ValueError.__new__" = true)
    (ek_NoMatch : PySem.W.keepIn K (.ref CQ) = true)
    (eb_NoMatch : PySem.W.subIn K (.ref CQ) (.type "BaseException") = some true)
    (et_NoMatch : PySem.W.typeIn K (.ref CQ) = some (.type "type"))
    (ea_NoPiece : PySem.W.nsIn K mainGlobals "NoPiece" = some (some (.ref CP)))
    (ex_NoPiece : PySem.W.excIn K CP [.type "ValueError", .type "Exception", .type "BaseException", .type "object"] "ValueError.__new__" = true)
    (ek_NoPiece : PySem.W.keepIn K (.ref CP) = true)
    (eb_NoPiece : PySem.W.subIn K (.ref CP) (.type "BaseException") = some true)
    (et_NoPiece : PySem.W.typeIn K (.ref CP) = some (.type "type"))
    (ea_NoText : PySem.W.nsIn K mainGlobals "NoText" = some (some (.ref CT)))
    (ea_DrawerError : PySem.W.nsIn K mainGlobals "DrawerError" = some (some (.ref CE)))
    (ce_b : PySem.W.subIn K (.ref CE) (.type "BaseException") = some true)
    (ce_d : PySem.W.hasDictIn K CE = true)
    (ce_t : PySem.W.typeIn K (.ref CE) = some (.type "type"))
    (ce_NoName : PySem.W.subIn K (.ref CN) (.ref CE) = some true)
    (ce_NoWeight : PySem.W.subIn K (.ref CW) (.ref CE) = some true)
    (ce_NoDesk : PySem.W.subIn K (.ref CD) (.ref CE) = some true)
    (ce_NoPiece : PySem.W.subIn K (.ref CP) (.ref CE) = some true)
    (kg_NoName : PySem.W.findIn K (.ref CN) "__getattribute__" = some (some (.builtin "BaseException.__getattribute__")))
    (kk_NoName : PySem.W.findIn K (.ref CN) "__getattr__" = some none)
    (kd_NoName : PySem.W.hasDictIn K CN = true)
    (ka_NoName : PySem.W.findIn K (.ref CN) "__class__" = some (some (.builtin "object.__class__")))
    (km_NoName : PySem.W.mroIn K CN (.type "object") = some true)
    (ks_NoName_NoWeight : PySem.W.subIn K (.ref CN) (.ref CW) = some false)
    (kn_NoName_NoWeight : (Value.ref CN == Value.ref CW) = false)
    (ks_NoName_NoDesk : PySem.W.subIn K (.ref CN) (.ref CD) = some false)
    (kn_NoName_NoDesk : (Value.ref CN == Value.ref CD) = false)
    (ks_NoName_NoMatch : PySem.W.subIn K (.ref CN) (.ref CQ) = some false)
    (kn_NoName_NoMatch : (Value.ref CN == Value.ref CQ) = false)
    (ks_NoName_NoPiece : PySem.W.subIn K (.ref CN) (.ref CP) = some false)
    (kn_NoName_NoPiece : (Value.ref CN == Value.ref CP) = false)
    (ks_NoName_NoText : PySem.W.subIn K (.ref CN) (.ref CT) = some false)
    (kn_NoName_NoText : (Value.ref CN == Value.ref CT) = false)
    (kg_NoWeight : PySem.W.findIn K (.ref CW) "__getattribute__" = some (some (.builtin "BaseException.__getattribute__")))
    (kk_NoWeight : PySem.W.findIn K (.ref CW) "__getattr__" = some none)
    (kd_NoWeight : PySem.W.hasDictIn K CW = true)
    (ka_NoWeight : PySem.W.findIn K (.ref CW) "__class__" = some (some (.builtin "object.__class__")))
    (km_NoWeight : PySem.W.mroIn K CW (.type "object") = some true)
    (ks_NoWeight_NoName : PySem.W.subIn K (.ref CW) (.ref CN) = some false)
    (kn_NoWeight_NoName : (Value.ref CW == Value.ref CN) = false)
    (ks_NoWeight_NoDesk : PySem.W.subIn K (.ref CW) (.ref CD) = some false)
    (kn_NoWeight_NoDesk : (Value.ref CW == Value.ref CD) = false)
    (ks_NoWeight_NoMatch : PySem.W.subIn K (.ref CW) (.ref CQ) = some false)
    (kn_NoWeight_NoMatch : (Value.ref CW == Value.ref CQ) = false)
    (ks_NoWeight_NoPiece : PySem.W.subIn K (.ref CW) (.ref CP) = some false)
    (kn_NoWeight_NoPiece : (Value.ref CW == Value.ref CP) = false)
    (ks_NoWeight_NoText : PySem.W.subIn K (.ref CW) (.ref CT) = some false)
    (kn_NoWeight_NoText : (Value.ref CW == Value.ref CT) = false)
    (kg_NoDesk : PySem.W.findIn K (.ref CD) "__getattribute__" = some (some (.builtin "BaseException.__getattribute__")))
    (kk_NoDesk : PySem.W.findIn K (.ref CD) "__getattr__" = some none)
    (kd_NoDesk : PySem.W.hasDictIn K CD = true)
    (ka_NoDesk : PySem.W.findIn K (.ref CD) "__class__" = some (some (.builtin "object.__class__")))
    (km_NoDesk : PySem.W.mroIn K CD (.type "object") = some true)
    (ks_NoDesk_NoName : PySem.W.subIn K (.ref CD) (.ref CN) = some false)
    (kn_NoDesk_NoName : (Value.ref CD == Value.ref CN) = false)
    (ks_NoDesk_NoWeight : PySem.W.subIn K (.ref CD) (.ref CW) = some false)
    (kn_NoDesk_NoWeight : (Value.ref CD == Value.ref CW) = false)
    (ks_NoDesk_NoMatch : PySem.W.subIn K (.ref CD) (.ref CQ) = some false)
    (kn_NoDesk_NoMatch : (Value.ref CD == Value.ref CQ) = false)
    (ks_NoDesk_NoPiece : PySem.W.subIn K (.ref CD) (.ref CP) = some false)
    (kn_NoDesk_NoPiece : (Value.ref CD == Value.ref CP) = false)
    (ks_NoDesk_NoText : PySem.W.subIn K (.ref CD) (.ref CT) = some false)
    (kn_NoDesk_NoText : (Value.ref CD == Value.ref CT) = false)
    (kg_NoPiece : PySem.W.findIn K (.ref CP) "__getattribute__" = some (some (.builtin "BaseException.__getattribute__")))
    (kk_NoPiece : PySem.W.findIn K (.ref CP) "__getattr__" = some none)
    (kd_NoPiece : PySem.W.hasDictIn K CP = true)
    (ka_NoPiece : PySem.W.findIn K (.ref CP) "__class__" = some (some (.builtin "object.__class__")))
    (km_NoPiece : PySem.W.mroIn K CP (.type "object") = some true)
    (ks_NoPiece_NoName : PySem.W.subIn K (.ref CP) (.ref CN) = some false)
    (kn_NoPiece_NoName : (Value.ref CP == Value.ref CN) = false)
    (ks_NoPiece_NoWeight : PySem.W.subIn K (.ref CP) (.ref CW) = some false)
    (kn_NoPiece_NoWeight : (Value.ref CP == Value.ref CW) = false)
    (ks_NoPiece_NoDesk : PySem.W.subIn K (.ref CP) (.ref CD) = some false)
    (kn_NoPiece_NoDesk : (Value.ref CP == Value.ref CD) = false)
    (ks_NoPiece_NoMatch : PySem.W.subIn K (.ref CP) (.ref CQ) = some false)
    (kn_NoPiece_NoMatch : (Value.ref CP == Value.ref CQ) = false)
    (ks_NoPiece_NoText : PySem.W.subIn K (.ref CP) (.ref CT) = some false)
    (kn_NoPiece_NoText : (Value.ref CP == Value.ref CT) = false)
    (kz_NoName : PySem.W.subIn K (.type "NoneType") (.ref CN) = some false)
    (kz_NoWeight : PySem.W.subIn K (.type "NoneType") (.ref CW) = some false)
    (kz_NoDesk : PySem.W.subIn K (.type "NoneType") (.ref CD) = some false)
    (kd_NoMatch : PySem.W.hasDictIn K CQ = true)
    (kz_NoMatch : PySem.W.subIn K (.type "NoneType") (.ref CQ) = some false)
    (kz_NoPiece : PySem.W.subIn K (.type "NoneType") (.ref CP) = some false)
    (kd_NoText : PySem.W.hasDictIn K CT = true)
    (et_NoText : PySem.W.typeIn K (.ref CT) = some (.type "type"))
    (kz_NoText : PySem.W.subIn K (.type "NoneType") (.ref CT) = some false)
    (kx_n : PySem.W.specialIn K (.builtin "object.__class__") "__get__" = some (some (.builtin "getset_descriptor.__get__")))
    (kx_t : PySem.W.takesIn K (.builtin "object.__class__") = some true)
    : ∃ fd : FuncData, (∀ (s : Shared) (v : Value), BindsTo s fd ⟨[v], []⟩ [("_law_script", v)]) ∧ ∀ base : Heap, K.In base → base.Ns mainGlobals mg → FnOk l.prog w K mg base CX0 9 fa fd pLaw (spLaw K) := by
  have e := hfa.symm.trans (PySem.W.mg_of X G aLaw)
  cases e
  have z_len := PySem.W.mg_none_of X G o_len
  have z_min := PySem.W.mg_none_of X G o_min
  have z_list := PySem.W.mg_none_of X G o_list
  have z_dict := PySem.W.mg_none_of X G o_dict
  have z_sorted := PySem.W.mg_none_of X G o_sorted
  have z_isinstance := PySem.W.mg_none_of X G o_isinstance
  have z_int := PySem.W.mg_none_of X G o_int
  have z_bool := PySem.W.mg_none_of X G o_bool
  have z_str := PySem.W.mg_none_of X G o_str
  have z_range := PySem.W.mg_none_of X G o_range
  have z_enumerate := PySem.W.mg_none_of X G o_enumerate
  have z_sum := PySem.W.mg_none_of X G o_sum
  have z_zip := PySem.W.mg_none_of X G o_zip
  have g_LONGEST := PySem.W.mg_of X G v_LONGEST
  have g_LETTERS := PySem.W.mg_of X G v_LETTERS
  have g_GREATEST := PySem.W.mg_of X G v_GREATEST
  have g_MOST_DRAWERS := PySem.W.mg_of X G v_MOST_DRAWERS
  have g_LONGEST_PIECE := PySem.W.mg_of X G v_LONGEST_PIECE
  have g_MOST_PIECES := PySem.W.mg_of X G v_MOST_PIECES
  have eN : ExT K mg "NoName" CN := ⟨PySem.W.mg_of X G ea_NoName, ex_NoName, ek_NoName, eb_NoName, et_NoName⟩
  have eW : ExT K mg "NoWeight" CW := ⟨PySem.W.mg_of X G ea_NoWeight, ex_NoWeight, ek_NoWeight, eb_NoWeight, et_NoWeight⟩
  have eD : ExT K mg "NoDesk" CD := ⟨PySem.W.mg_of X G ea_NoDesk, ex_NoDesk, ek_NoDesk, eb_NoDesk, et_NoDesk⟩
  have eM : ExT K mg "NoMatch" CQ := ⟨PySem.W.mg_of X G ea_NoMatch, ex_NoMatch, ek_NoMatch, eb_NoMatch, et_NoMatch⟩
  have eP : ExT K mg "NoPiece" CP := ⟨PySem.W.mg_of X G ea_NoPiece, ex_NoPiece, ek_NoPiece, eb_NoPiece, et_NoPiece⟩
  have g_NoName := PySem.W.mg_of X G ea_NoName
  have g_NoWeight := PySem.W.mg_of X G ea_NoWeight
  have g_NoDesk := PySem.W.mg_of X G ea_NoDesk
  have g_NoMatch := PySem.W.mg_of X G ea_NoMatch
  have g_NoPiece := PySem.W.mg_of X G ea_NoPiece
  have g_NoText := PySem.W.mg_of X G ea_NoText
  have g_DrawerError := PySem.W.mg_of X G ea_DrawerError
  have h_NoName := PySem.W.exm_ref ce_b ce_d ce_t ce_NoName
  have h_NoWeight := PySem.W.exm_ref ce_b ce_d ce_t ce_NoWeight
  have h_NoDesk := PySem.W.exm_ref ce_b ce_d ce_t ce_NoDesk
  have h_NoPiece := PySem.W.exm_ref ce_b ce_d ce_t ce_NoPiece
  have x_NoName : ExcC K CN := ⟨kg_NoName, kk_NoName, eb_NoName, kd_NoName, ka_NoName, kx_n, kx_t, km_NoName⟩
  have kq_NoName_NoName := kit_self (K := K) (D := CN)
  have kq_NoName_NoWeight := kit_no kn_NoName_NoWeight kd_NoWeight et_NoWeight ks_NoName_NoWeight
  have kq_NoName_NoDesk := kit_no kn_NoName_NoDesk kd_NoDesk et_NoDesk ks_NoName_NoDesk
  have kq_NoName_NoMatch := kit_no kn_NoName_NoMatch kd_NoMatch et_NoMatch ks_NoName_NoMatch
  have kq_NoName_NoPiece := kit_no kn_NoName_NoPiece kd_NoPiece et_NoPiece ks_NoName_NoPiece
  have kq_NoName_NoText := kit_no kn_NoName_NoText kd_NoText et_NoText ks_NoName_NoText
  have k_NoName : Kind K CN CW CD CQ CP CT CN true false false false false false := ⟨x_NoName, kq_NoName_NoName, kq_NoName_NoWeight, kq_NoName_NoDesk, kq_NoName_NoMatch, kq_NoName_NoPiece, kq_NoName_NoText⟩
  have x_NoWeight : ExcC K CW := ⟨kg_NoWeight, kk_NoWeight, eb_NoWeight, kd_NoWeight, ka_NoWeight, kx_n, kx_t, km_NoWeight⟩
  have kq_NoWeight_NoName := kit_no kn_NoWeight_NoName kd_NoName et_NoName ks_NoWeight_NoName
  have kq_NoWeight_NoWeight := kit_self (K := K) (D := CW)
  have kq_NoWeight_NoDesk := kit_no kn_NoWeight_NoDesk kd_NoDesk et_NoDesk ks_NoWeight_NoDesk
  have kq_NoWeight_NoMatch := kit_no kn_NoWeight_NoMatch kd_NoMatch et_NoMatch ks_NoWeight_NoMatch
  have kq_NoWeight_NoPiece := kit_no kn_NoWeight_NoPiece kd_NoPiece et_NoPiece ks_NoWeight_NoPiece
  have kq_NoWeight_NoText := kit_no kn_NoWeight_NoText kd_NoText et_NoText ks_NoWeight_NoText
  have k_NoWeight : Kind K CN CW CD CQ CP CT CW false true false false false false := ⟨x_NoWeight, kq_NoWeight_NoName, kq_NoWeight_NoWeight, kq_NoWeight_NoDesk, kq_NoWeight_NoMatch, kq_NoWeight_NoPiece, kq_NoWeight_NoText⟩
  have x_NoDesk : ExcC K CD := ⟨kg_NoDesk, kk_NoDesk, eb_NoDesk, kd_NoDesk, ka_NoDesk, kx_n, kx_t, km_NoDesk⟩
  have kq_NoDesk_NoName := kit_no kn_NoDesk_NoName kd_NoName et_NoName ks_NoDesk_NoName
  have kq_NoDesk_NoWeight := kit_no kn_NoDesk_NoWeight kd_NoWeight et_NoWeight ks_NoDesk_NoWeight
  have kq_NoDesk_NoDesk := kit_self (K := K) (D := CD)
  have kq_NoDesk_NoMatch := kit_no kn_NoDesk_NoMatch kd_NoMatch et_NoMatch ks_NoDesk_NoMatch
  have kq_NoDesk_NoPiece := kit_no kn_NoDesk_NoPiece kd_NoPiece et_NoPiece ks_NoDesk_NoPiece
  have kq_NoDesk_NoText := kit_no kn_NoDesk_NoText kd_NoText et_NoText ks_NoDesk_NoText
  have k_NoDesk : Kind K CN CW CD CQ CP CT CD false false true false false false := ⟨x_NoDesk, kq_NoDesk_NoName, kq_NoDesk_NoWeight, kq_NoDesk_NoDesk, kq_NoDesk_NoMatch, kq_NoDesk_NoPiece, kq_NoDesk_NoText⟩
  have x_NoPiece : ExcC K CP := ⟨kg_NoPiece, kk_NoPiece, eb_NoPiece, kd_NoPiece, ka_NoPiece, kx_n, kx_t, km_NoPiece⟩
  have kq_NoPiece_NoName := kit_no kn_NoPiece_NoName kd_NoName et_NoName ks_NoPiece_NoName
  have kq_NoPiece_NoWeight := kit_no kn_NoPiece_NoWeight kd_NoWeight et_NoWeight ks_NoPiece_NoWeight
  have kq_NoPiece_NoDesk := kit_no kn_NoPiece_NoDesk kd_NoDesk et_NoDesk ks_NoPiece_NoDesk
  have kq_NoPiece_NoMatch := kit_no kn_NoPiece_NoMatch kd_NoMatch et_NoMatch ks_NoPiece_NoMatch
  have kq_NoPiece_NoPiece := kit_self (K := K) (D := CP)
  have kq_NoPiece_NoText := kit_no kn_NoPiece_NoText kd_NoText et_NoText ks_NoPiece_NoText
  have k_NoPiece : Kind K CN CW CD CQ CP CT CP false false false false true false := ⟨x_NoPiece, kq_NoPiece_NoName, kq_NoPiece_NoWeight, kq_NoPiece_NoDesk, kq_NoPiece_NoMatch, kq_NoPiece_NoPiece, kq_NoPiece_NoText⟩
  have kz0_NoName := kit_no (t := .type "NoneType") rfl kd_NoName et_NoName kz_NoName
  have kz0_NoWeight := kit_no (t := .type "NoneType") rfl kd_NoWeight et_NoWeight kz_NoWeight
  have kz0_NoDesk := kit_no (t := .type "NoneType") rfl kd_NoDesk et_NoDesk kz_NoDesk
  have kz0_NoMatch := kit_no (t := .type "NoneType") rfl kd_NoMatch et_NoMatch kz_NoMatch
  have kz0_NoPiece := kit_no (t := .type "NoneType") rfl kd_NoPiece et_NoPiece kz_NoPiece
  have kz0_NoText := kit_no (t := .type "NoneType") rfl kd_NoText et_NoText kz_NoText
  have T : DkT K mg C CN CW CD := ⟨⟨pg, hd, po, sa⟩, n_room, n_counts, n_gone, n_total, PySem.W.mg_of X G aC, z_len, z_min, z_list, z_dict, z_sorted, eN, eW, eD⟩
  have LT : LtT K mg CL := ⟨⟨pgL, hdL, poL, saL⟩, nL_room, nL_piece, nL_pieces, nL_full, nL_latest, nL_came⟩
  have g_Lately := PySem.W.mg_of X G aCL
  have F_IsWhole := fun_mk (st := sIsWhole) lIsWhole cIsWhole kIsWhole
  have b_IsWhole := F_IsWhole.binds (ps := pIsWhole) fun _ _ _ _ _ _ us hl => match us, hl with | [_], _ => rfl
  have F_IsName := fun_mk (st := sIsName) lIsName cIsName kIsName
  have b_IsName := F_IsName.binds (ps := pIsName) fun _ _ _ _ _ _ us hl => match us, hl with | [_], _ => rfl
  have F_NeedComing := fun_mk (st := sNeedComing) lNeedComing cNeedComing kNeedComing
  have b_NeedComing := F_NeedComing.binds (ps := pNeedComing) fun _ _ _ _ _ _ us hl => match us, hl with | [_, _], _ => rfl
  have F_NeedDrawers := fun_mk (st := sNeedDrawers) lNeedDrawers cNeedDrawers kNeedDrawers
  have b_NeedDrawers := F_NeedDrawers.binds (ps := pNeedDrawers) fun _ _ _ _ _ _ us hl => match us, hl with | [_], _ => rfl
  have F_Lowered := fun_mk (st := sLowered) lLowered cLowered kLowered
  have b_Lowered := F_Lowered.binds (ps := pLowered) fun _ _ _ _ _ _ us hl => match us, hl with | [_, _], _ => rfl
  have F_DCome : FunD K "come" "Desk.come" (defArgs sDCome) (defBody sDCome) (defScope sDCome) [.int 1] [] fDCome (PySem.W.fnOf "come" "Desk.come" (defArgs sDCome) (defBody sDCome) (defScope sDCome) (.ref tD) kVDCome dcDCome pmDCome anDCome cdDCome ctDCome) := ⟨⟨ocDCome, odDCome, .ref tD, kVDCome, dcDCome, pmDCome, anDCome, cdDCome, ctDCome, slDCome, rfl, lDCome, cDCome, .inr ⟨by simp, tD, _, [.int 1 tT], nT, rfl, lT, rfl, .cons ⟨tT, rfl⟩ .nil⟩, .inl rfl⟩, kDCome⟩
  have b_DCome : Binds K (PySem.W.fnOf "come" "Desk.come" (defArgs sDCome) (defBody sDCome) (defScope sDCome) (.ref tD) kVDCome dcDCome pmDCome anDCome cdDCome ctDCome) pDCome [] := by
    obtain ⟨ds, hv, hb⟩ := F_DCome.binds1 (ps := pDCome) 3 1 (by simp) rfl fun _ _ _ _ _ _ _ us its h1 h2 => match us, its, h1, h2 with | [_, _, _], [_], _, _ => ⟨_, rfl, rfl⟩
    cases hv
    exact hb
  have F_DShown := fun_mk (st := sDShown) lDShown cDShown kDShown
  have b_DShown := F_DShown.binds (ps := pDShown) fun _ _ _ _ _ _ us hl => match us, hl with | [_], _ => rfl
  have F_DLost := fun_mk (st := sDLost) lDLost cDLost kDLost
  have b_DLost := F_DLost.binds (ps := pDLost) fun _ _ _ _ _ _ us hl => match us, hl with | [_], _ => rfl
  have F_DWeight := fun_mk (st := sDWeight) lDWeight cDWeight kDWeight
  have b_DWeight := F_DWeight.binds (ps := pDWeight) fun _ _ _ _ _ _ us hl => match us, hl with | [_], _ => rfl
  have F_DDrawers := fun_mk (st := sDDrawers) lDDrawers cDDrawers kDDrawers
  have b_DDrawers := F_DDrawers.binds (ps := pDDrawers) fun _ _ _ _ _ _ us hl => match us, hl with | [_], _ => rfl
  have F_DLeast := fun_mk (st := sDLeast) lDLeast cDLeast kDLeast
  have b_DLeast := F_DLeast.binds (ps := pDLeast) fun _ _ _ _ _ _ us hl => match us, hl with | [_, _], _ => rfl
  have F_DMost := fun_mk (st := sDMost) lDMost cDMost kDMost
  have b_DMost := F_DMost.binds (ps := pDMost) fun _ _ _ _ _ _ us hl => match us, hl with | [_, _], _ => rfl
  have F_DeskOf := fun_mk (st := sDeskOf) lDeskOf cDeskOf kDeskOf
  have b_DeskOf := F_DeskOf.binds (ps := pDeskOf) fun _ _ _ _ _ _ us hl => match us, hl with | [_, _, _, _], _ => rfl
  have F_Poured := fun_mk (st := sPoured) lPoured cPoured kPoured
  have b_Poured := F_Poured.binds (ps := pPoured) fun _ _ _ _ _ _ us hl => match us, hl with | [_, _], _ => rfl
  have F_LatelyInit := fun_mk (st := sLatelyInit) lLatelyInit cLatelyInit kLatelyInit
  have b_LatelyInit := F_LatelyInit.binds (ps := pLatelyInit) fun _ _ _ _ _ _ us hl => match us, hl with | [_, _, _, _], _ => rfl
  have F_LatelyCome : FunD K "come" "Lately.come" (defArgs sLatelyCome) (defBody sLatelyCome) (defScope sLatelyCome) [.int 1] [] fLatelyCome (PySem.W.fnOf "come" "Lately.come" (defArgs sLatelyCome) (defBody sLatelyCome) (defScope sLatelyCome) (.ref tE) kVLatelyCome dcLatelyCome pmLatelyCome anLatelyCome cdLatelyCome ctLatelyCome) := ⟨⟨ocLatelyCome, odLatelyCome, .ref tE, kVLatelyCome, dcLatelyCome, pmLatelyCome, anLatelyCome, cdLatelyCome, ctLatelyCome, slLatelyCome, rfl, lLatelyCome, cLatelyCome, .inr ⟨by simp, tE, _, [.int 1 tET], nE, rfl, lE, rfl, .cons ⟨tET, rfl⟩ .nil⟩, .inl rfl⟩, kLatelyCome⟩
  have b_LatelyCome : Binds K (PySem.W.fnOf "come" "Lately.come" (defArgs sLatelyCome) (defBody sLatelyCome) (defScope sLatelyCome) (.ref tE) kVLatelyCome dcLatelyCome pmLatelyCome anLatelyCome cdLatelyCome ctLatelyCome) pLatelyCome [] := by
    obtain ⟨ds, hv, hb⟩ := F_LatelyCome.binds1 (ps := pLatelyCome) 3 1 (by simp) rfl fun _ _ _ _ _ _ _ us its h1 h2 => match us, its, h1, h2 with | [_, _, _], [_], _, _ => ⟨_, rfl, rfl⟩
    cases hv
    exact hb
  obtain ⟨ds_LatelyCome, v_LatelyCome, d_LatelyCome⟩ := F_LatelyCome.binds1 (ps := pLatelyCome) 2 0 (by simp) rfl fun _ _ _ _ _ _ _ us its h1 h2 => match us, its, h1, h2 with | [_, _], [_], _, _ => ⟨_, rfl, rfl⟩
  have F_LatelyTold := fun_mk (st := sLatelyTold) lLatelyTold cLatelyTold kLatelyTold
  have b_LatelyTold := F_LatelyTold.binds (ps := pLatelyTold) fun _ _ _ _ _ _ us hl => match us, hl with | [_], _ => rfl
  have F_LatelyReach := fun_mk (st := sLatelyReach) lLatelyReach cLatelyReach kLatelyReach
  have b_LatelyReach := F_LatelyReach.binds (ps := pLatelyReach) fun _ _ _ _ _ _ us hl => match us, hl with | [_], _ => rfl
  have F_LMixed := fun_mk (st := sLMixed) lLMixed cLMixed kLMixed
  have b_LMixed := F_LMixed.binds (ps := pLMixed) fun _ _ _ _ _ _ us hl => match us, hl with | [_, _], _ => rfl
  have F_LNames := fun_mk (st := sLNames) lLNames cLNames kLNames
  have b_LNames := F_LNames.binds (ps := pLNames) fun _ _ _ _ _ _ us hl => match us, hl with | [_], _ => rfl
  have F_LDrawers := fun_mk (st := sLDrawers) lLDrawers cLDrawers kLDrawers
  have b_LDrawers := F_LDrawers.binds (ps := pLDrawers) fun _ _ _ _ _ _ us hl => match us, hl with | [_], _ => rfl
  have F_LComing := fun_mk (st := sLComing) lLComing cLComing kLComing
  have b_LComing := F_LComing.binds (ps := pLComing) fun _ _ _ _ _ _ us hl => match us, hl with | [_, _, _], _ => rfl
  have F_LHolds := fun_mk (st := sLHolds) lLHolds cLHolds kLHolds
  have b_LHolds := F_LHolds.binds (ps := pLHolds) fun _ _ _ _ _ _ us hl => match us, hl with | [_, _, _, _, _], _ => rfl
  have F_LWord := fun_mk (st := sLWord) lLWord cLWord kLWord
  have b_LWord := F_LWord.binds (ps := pLWord) fun _ _ _ _ _ _ us hl => match us, hl with | [_], _ => rfl
  have F_LMade := fun_mk (st := sLMade) lLMade cLMade kLMade
  have b_LMade := F_LMade.binds (ps := pLMade) fun _ _ _ _ _ _ us hl => match us, hl with | [_, _, _], _ => rfl
  have F_LComeRefused := fun_mk (st := sLComeRefused) lLComeRefused cLComeRefused kLComeRefused
  have b_LComeRefused := F_LComeRefused.binds (ps := pLComeRefused) fun _ _ _ _ _ _ us hl => match us, hl with | [_, _, _], _ => rfl
  have F_DInit := fun_mk (st := sDInit) lDInit cDInit kDInit
  have b_DInit := F_DInit.binds (ps := pDInit) fun _ _ _ _ _ _ us hl => match us, hl with | [_, _], _ => rfl
  have F_Law := fun_mk (st := sLaw) lLaw cLaw kLaw
  refine ⟨PySem.W.fnOf "law" "law" (defArgs sLaw) (defBody sLaw) (defScope sLaw) .none kVLaw dcLaw pmLaw anLaw cdLaw ctLaw, fun s v => .of_eq rfl, fun base _ _ => ?_⟩
  have G_IsWhole : Gf l.prog w K mg base CX0 1 "is_whole" pIsWhole (spWhole K) := ⟨fIsWhole, _, ok_whole F_IsWhole z_isinstance z_int z_bool, b_IsWhole, PySem.W.mg_of X G aIsWhole, kIsWhole⟩
  have G_IsName : Gf l.prog w K mg base CX0 1 "is_name" pIsName (spName K) := ⟨fIsName, _, ok_name F_IsName z_isinstance z_str z_len g_LONGEST g_LETTERS, b_IsName, PySem.W.mg_of X G aIsName, kIsName⟩
  have G_NeedComing : Gf l.prog w K mg base (L2.CX l.prog w) 2 "need_coming" pNeedComing (spNeedComing K CN CW) := ⟨fNeedComing, _, ok_needComing F_NeedComing G_IsName G_IsWhole g_GREATEST eN eW, b_NeedComing, PySem.W.mg_of X G aNeedComing, kNeedComing⟩
  have G_NeedDrawers : Gf l.prog w K mg base (L2.CX l.prog w) 2 "need_drawers" pNeedDrawers (spNeedDrawers K CD) := ⟨fNeedDrawers, _, ok_needDrawers F_NeedDrawers G_IsWhole g_MOST_DRAWERS eD, b_NeedDrawers, PySem.W.mg_of X G aNeedDrawers, kNeedDrawers⟩
  have M_Desk : Mk K C fDInit := ⟨mk, aDInit, iDInit, kc⟩
  have OK_Init := ok_init (P := l.prog) (w := w) (base := base) F_DInit T G_NeedDrawers
  have G_Lowered : Gf l.prog w K mg base CX0 1 "lowered" pLowered spLowered := ⟨fLowered, _, ok_lowered F_Lowered, b_Lowered, PySem.W.mg_of X G aLowered, kLowered⟩
  have G_DCome : Gm l.prog w K mg base (L2.CX l.prog w) C 3 "come" pDCome (spCome K C CN CW) := ⟨fDCome, _, ok_come F_DCome T G_NeedComing G_Lowered, b_DCome, ⟨aDCome, iDCome, kDCome⟩⟩
  have G_DShown : Gm l.prog w K mg base CX0 C 1 "shown" pDShown (spShown C) := ⟨fDShown, _, ok_shown F_DShown T, b_DShown, ⟨aDShown, iDShown, kDShown⟩⟩
  have G_DLost : Gm l.prog w K mg base CX0 C 1 "lost" pDLost (spNum C fun _ g _ => g) := ⟨fDLost, _, ok_lost F_DLost T, b_DLost, ⟨aDLost, iDLost, kDLost⟩⟩
  have G_DWeight : Gm l.prog w K mg base CX0 C 1 "weight" pDWeight (spNum C fun _ _ t => t) := ⟨fDWeight, _, ok_weight F_DWeight T, b_DWeight, ⟨aDWeight, iDWeight, kDWeight⟩⟩
  have G_DDrawers : Gm l.prog w K mg base CX0 C 1 "drawers" pDDrawers (spNum C fun r _ _ => r) := ⟨fDDrawers, _, ok_drawers F_DDrawers T, b_DDrawers, ⟨aDDrawers, iDDrawers, kDDrawers⟩⟩
  have G_DLeast : Gm l.prog w K mg base (L2.CX l.prog w) C 2 "least" pDLeast (spLeast K C CN fun _ => 0) := ⟨fDLeast, _, ok_least F_DLeast T G_IsName, b_DLeast, ⟨aDLeast, iDLeast, kDLeast⟩⟩
  have G_DMost : Gm l.prog w K mg base (L2.CX l.prog w) C 3 "most" pDMost (spLeast K C CN fun g => g) := ⟨fDMost, _, ok_most F_DMost T G_DLeast, b_DMost, ⟨aDMost, iDMost, kDMost⟩⟩
  have G_DeskOf : Gf l.prog w K mg base CX0 5 "desk_of" pDeskOf (spDeskOf C) := ⟨fDeskOf, _, ok_deskOf F_DeskOf T M_Desk OK_Init b_DInit G_Lowered, b_DeskOf, PySem.W.mg_of X G aDeskOf, kDeskOf⟩
  have G_Poured : Gf l.prog w K mg base (L2.CX l.prog w) 6 "poured" pPoured (spPoured C CQ) := ⟨fPoured, _, ok_poured F_Poured T eM G_DeskOf G_DShown G_DLost G_DWeight G_DDrawers, b_Poured, PySem.W.mg_of X G aPoured, kPoured⟩
  have M_Lately : Mk K CL fLatelyInit := ⟨mkL, aLatelyInit, iLatelyInit, kcL⟩
  have OK_LatelyInit : FnOk l.prog w K mg base (L2.CX l.prog w) 5 fLatelyInit _ pLatelyInit (spLatInit K C CL CD CP) := ok_latInit F_LatelyInit T LT M_Desk OK_Init b_DInit G_NeedDrawers G_IsWhole g_LONGEST_PIECE g_MOST_PIECES eP
  have G_LatelyCome : Gm l.prog w K mg base (L2.CX l.prog w) CL 5 "come" pLatelyCome (spLatCome K C CL CN CW) := ⟨fLatelyCome, _, ok_latCome F_LatelyCome T LT M_Desk OK_Init b_DInit G_NeedComing G_DCome, b_LatelyCome, ⟨aLatelyCome, iLatelyCome, kLatelyCome⟩⟩
  have G_LatelyTold : Gm l.prog w K mg base CX0 CL 7 "told" pLatelyTold (spLatTold C CL) := ⟨fLatelyTold, _, ok_latTold F_LatelyTold T LT M_Desk OK_Init b_DInit G_Poured, b_LatelyTold, ⟨aLatelyTold, iLatelyTold, kLatelyTold⟩⟩
  have G_LatelyReach : Gm l.prog w K mg base CX0 CL 1 "reach" pLatelyReach (spLatReach C CL) := ⟨fLatelyReach, _, ok_latReach F_LatelyReach T LT, b_LatelyReach, ⟨aLatelyReach, iLatelyReach, kLatelyReach⟩⟩
  have G_LMixed : Gf l.prog w K mg base CX0 1 "_law_mixed" pLMixed spMixed := ⟨fLMixed, _, ok_mixed F_LMixed, b_LMixed, PySem.W.mg_of X G aLMixed, kLMixed⟩
  have G_LNames : Gf l.prog w K mg base CX0 2 "_law_names" pLNames (spNames K) := ⟨fLNames, _, ok_names F_LNames G_LMixed z_len z_min z_range, b_LNames, PySem.W.mg_of X G aLNames, kLNames⟩
  have G_LDrawers : Gf l.prog w K mg base CX0 2 "_law_drawers" pLDrawers (spDrawers K) := ⟨fLDrawers, _, ok_drawersL F_LDrawers G_LMixed, b_LDrawers, PySem.W.mg_of X G aLDrawers, kLDrawers⟩
  have G_LComing : Gf l.prog w K mg base CX0 2 "_law_coming" pLComing (spComing K) := ⟨fLComing, _, ok_coming F_LComing G_LMixed, b_LComing, PySem.W.mg_of X G aLComing, kLComing⟩
  have G_LHolds : Gf l.prog w K mg base CX0 8 "_law_holds" pLHolds (spLatHolds K C CL) := ⟨fLHolds, _, ok_latHolds F_LHolds T LT G_LatelyTold G_LatelyReach G_DShown G_DLost G_DWeight G_DDrawers G_DLeast G_DMost z_sum, b_LHolds, PySem.W.mg_of X G aLHolds, kLHolds⟩
  have G_LWord : Gf l.prog w K mg base CX0 1 "_law_word" pLWord (spWord K CN CW CD CQ CP CT) := ⟨fLWord, _, ok_word F_LWord z_isinstance z_zip g_NoName g_NoWeight g_NoDesk g_NoMatch g_NoPiece g_NoText, b_LWord, PySem.W.mg_of X G aLWord, kLWord⟩
  have G_LMade : Gf l.prog w K mg base CX0 7 "_law_made" pLMade (spLMade K) := ⟨fLMade, _, ok_lmade F_LMade M_Lately OK_LatelyInit b_LatelyInit g_Lately G_LWord g_DrawerError h_NoDesk h_NoPiece k_NoDesk k_NoPiece kz0_NoName kz0_NoWeight kz0_NoDesk kz0_NoMatch kz0_NoPiece kz0_NoText, b_LMade, PySem.W.mg_of X G aLMade, kLMade⟩
  have G_LComeRefused : Gf l.prog w K mg base CX0 6 "_law_come_refused" pLComeRefused (spLatR K C CL CN CW) := ⟨fLComeRefused, _, ok_latR F_LComeRefused LT G_LatelyCome g_DrawerError h_NoName h_NoWeight, b_LComeRefused, PySem.W.mg_of X G aLComeRefused, kLComeRefused⟩
  have LG : LawG l.prog w K mg base C CN CW CD := ⟨T, ⟨fDInit, _, ⟨mk, aDInit, iDInit, kc⟩, ok_init F_DInit T G_NeedDrawers, b_DInit⟩, G_DCome, G_DShown, G_DLost, G_DWeight, G_DDrawers, G_DLeast, G_DMost, G_LMixed, G_LNames, G_LDrawers, G_LComing⟩
  exact ok_law F_Law LG LT M_Lately OK_LatelyInit b_LatelyInit g_Lately G_LatelyCome G_LWord G_LMade G_LComeRefused G_LHolds k_NoName k_NoWeight z_enumerate z_sum
theorem walk {l : PySem.W.OpenLaw} {q : Program} {loose : List Str} {XP : (Str → Option Value) → Heap → Prop} {YP : World → Heap → Prop} {d : DefRec} {K : Params → PySem.W.Frag} (hn : l.most = some 63) (hdf : d.params.defaults = [])
    (hY : ∀ (w : World) (h : Heap), YP w h → (K w.params).In h)
    (F : ∀ (w : World) (mg : Str → Option Value) (fa : Addr) (h : Heap), (K w.params).In h → h.Ns mainGlobals mg → mg d.name = some (.ref fa) →
      ∃ fd : FuncData, (∀ (s : Shared) (u : Value), BindsTo s fd ⟨[u], []⟩ [("_law_script", u)]) ∧ ∀ base : Heap, (K w.params).In base → base.Ns mainGlobals mg → FnOk l.prog w (K w.params) mg base CX0 9 fa fd pLaw (spLaw (K w.params))) :
    PySem.W.WalkO q loose XP YP l.row.toRowW d [] (fun f vs => PySem.call f vs) :=
  L2.walk_of (n := 63) (k := 9) (x := "_law_script") (CX := fun _ => CX0) (sp := fun w => spLaw (K w.params)) hn (by decide) hdf ⟨rfl, by decide, by decide⟩ hY F (fun _ _ a ns hl _ hS => ⟨a, ns, rfl, hS, hl, fun _ => rfl⟩) fun _ _ _ _ _ z => z
end DK
open PySem PySem.W PyProof.Rows
set_option maxRecDepth 100000 in
set_option maxHeartbeats 0 in
theorem PySem.Challenge.cw_drawerdesk_k11_whole_lately_bounds_holds : PySem.Challenge.rw_drawerdesk_k11_whole_lately_bounds.Holds := by
  w_on; o_law; k_head; (case hw => w_witness2)
  k_fill
  refine DK.walk (l := PySem.Challenge.rw_drawerdesk_k11_whole_lately_bounds) rfl rfl (fun w h Y => PySem.W.kIn_of Y) ?F
  case F =>
    intro w mg fa h KX G hmg
    refine' DK.all_mk KX G hmg ?aC ?aCL ?aIsWhole ?lIsWhole ?cIsWhole ?kIsWhole ?aIsName ?lIsName ?cIsName ?kIsName ?aNeedComing ?lNeedComing ?cNeedComing ?kNeedComing ?aNeedDrawers ?lNeedDrawers ?cNeedDrawers ?kNeedDrawers ?aLowered ?lLowered ?cLowered ?kLowered ?aDCome ?iDCome ?lDCome ?cDCome ?kDCome ?aDShown ?iDShown ?lDShown ?cDShown ?kDShown ?aDLost ?iDLost ?lDLost ?cDLost ?kDLost ?aDWeight ?iDWeight ?lDWeight ?cDWeight ?kDWeight ?aDDrawers ?iDDrawers ?lDDrawers ?cDDrawers ?kDDrawers ?aDLeast ?iDLeast ?lDLeast ?cDLeast ?kDLeast ?aDMost ?iDMost ?lDMost ?cDMost ?kDMost ?aDeskOf ?lDeskOf ?cDeskOf ?kDeskOf ?aPoured ?lPoured ?cPoured ?kPoured ?aLatelyInit ?iLatelyInit ?lLatelyInit ?cLatelyInit ?kLatelyInit ?aLatelyCome ?iLatelyCome ?lLatelyCome ?cLatelyCome ?kLatelyCome ?aLatelyTold ?iLatelyTold ?lLatelyTold ?cLatelyTold ?kLatelyTold ?aLatelyReach ?iLatelyReach ?lLatelyReach ?cLatelyReach ?kLatelyReach ?aLMixed ?lLMixed ?cLMixed ?kLMixed ?aLNames ?lLNames ?cLNames ?kLNames ?aLDrawers ?lLDrawers ?cLDrawers ?kLDrawers ?aLComing ?lLComing ?cLComing ?kLComing ?aLHolds ?lLHolds ?cLHolds ?kLHolds ?aLWord ?lLWord ?cLWord ?kLWord ?aLMade ?lLMade ?cLMade ?kLMade ?aLComeRefused ?lLComeRefused ?cLComeRefused ?kLComeRefused ?aDInit ?iDInit ?lDInit ?cDInit ?kDInit ?aLaw ?lLaw ?cLaw ?kLaw ?lE ?pgL ?hdL ?poL ?saL ?mkL ?kcL ?nL_room ?nL_piece ?nL_pieces ?nL_full ?nL_latest ?nL_came ?v_LONGEST_PIECE ?v_MOST_PIECES ?lT ?pg ?hd ?po ?sa ?mk ?kc ?n_room ?n_counts ?n_gone ?n_total ?o_len ?o_min ?o_list ?o_dict ?o_sorted ?o_isinstance ?o_int ?o_bool ?o_str ?o_range ?o_enumerate ?o_sum ?o_zip ?v_LONGEST ?v_LETTERS ?v_GREATEST ?v_MOST_DRAWERS ?ea_NoName ?ex_NoName ?ek_NoName ?eb_NoName ?et_NoName ?ea_NoWeight ?ex_NoWeight ?ek_NoWeight ?eb_NoWeight ?et_NoWeight ?ea_NoDesk ?ex_NoDesk ?ek_NoDesk ?eb_NoDesk ?et_NoDesk ?ea_NoMatch ?ex_NoMatch ?ek_NoMatch ?eb_NoMatch ?et_NoMatch ?ea_NoPiece ?ex_NoPiece ?ek_NoPiece ?eb_NoPiece ?et_NoPiece ?ea_NoText ?ea_DrawerError ?ce_b ?ce_d ?ce_t ?ce_NoName ?ce_NoWeight ?ce_NoDesk ?ce_NoPiece ?kg_NoName ?kk_NoName ?kd_NoName ?ka_NoName ?km_NoName ?ks_NoName_NoWeight ?kn_NoName_NoWeight ?ks_NoName_NoDesk ?kn_NoName_NoDesk ?ks_NoName_NoMatch ?kn_NoName_NoMatch ?ks_NoName_NoPiece ?kn_NoName_NoPiece ?ks_NoName_NoText ?kn_NoName_NoText ?kg_NoWeight ?kk_NoWeight ?kd_NoWeight ?ka_NoWeight ?km_NoWeight ?ks_NoWeight_NoName ?kn_NoWeight_NoName ?ks_NoWeight_NoDesk ?kn_NoWeight_NoDesk ?ks_NoWeight_NoMatch ?kn_NoWeight_NoMatch ?ks_NoWeight_NoPiece ?kn_NoWeight_NoPiece ?ks_NoWeight_NoText ?kn_NoWeight_NoText ?kg_NoDesk ?kk_NoDesk ?kd_NoDesk ?ka_NoDesk ?km_NoDesk ?ks_NoDesk_NoName ?kn_NoDesk_NoName ?ks_NoDesk_NoWeight ?kn_NoDesk_NoWeight ?ks_NoDesk_NoMatch ?kn_NoDesk_NoMatch ?ks_NoDesk_NoPiece ?kn_NoDesk_NoPiece ?ks_NoDesk_NoText ?kn_NoDesk_NoText ?kg_NoPiece ?kk_NoPiece ?kd_NoPiece ?ka_NoPiece ?km_NoPiece ?ks_NoPiece_NoName ?kn_NoPiece_NoName ?ks_NoPiece_NoWeight ?kn_NoPiece_NoWeight ?ks_NoPiece_NoDesk ?kn_NoPiece_NoDesk ?ks_NoPiece_NoMatch ?kn_NoPiece_NoMatch ?ks_NoPiece_NoText ?kn_NoPiece_NoText ?kz_NoName ?kz_NoWeight ?kz_NoDesk ?kd_NoMatch ?kz_NoMatch ?kz_NoPiece ?kd_NoText ?et_NoText ?kz_NoText ?kx_n ?kx_t
    (case aC => k_is)
    (case aCL => k_is)
    (case aIsWhole => k_is)
    (case lIsWhole => k_is)
    (case cIsWhole => k_is)
    (case kIsWhole => k_is)
    (case aIsName => k_is)
    (case lIsName => k_is)
    (case cIsName => k_is)
    (case kIsName => k_is)
    (case aNeedComing => k_is)
    (case lNeedComing => k_is)
    (case cNeedComing => k_is)
    (case kNeedComing => k_is)
    (case aNeedDrawers => k_is)
    (case lNeedDrawers => k_is)
    (case cNeedDrawers => k_is)
    (case kNeedDrawers => k_is)
    (case aLowered => k_is)
    (case lLowered => k_is)
    (case cLowered => k_is)
    (case kLowered => k_is)
    (case aDCome => k_is)
    (case iDCome => k_is)
    (case lDCome => k_is)
    (case cDCome => k_is)
    (case kDCome => k_is)
    (case aDShown => k_is)
    (case iDShown => k_is)
    (case lDShown => k_is)
    (case cDShown => k_is)
    (case kDShown => k_is)
    (case aDLost => k_is)
    (case iDLost => k_is)
    (case lDLost => k_is)
    (case cDLost => k_is)
    (case kDLost => k_is)
    (case aDWeight => k_is)
    (case iDWeight => k_is)
    (case lDWeight => k_is)
    (case cDWeight => k_is)
    (case kDWeight => k_is)
    (case aDDrawers => k_is)
    (case iDDrawers => k_is)
    (case lDDrawers => k_is)
    (case cDDrawers => k_is)
    (case kDDrawers => k_is)
    (case aDLeast => k_is)
    (case iDLeast => k_is)
    (case lDLeast => k_is)
    (case cDLeast => k_is)
    (case kDLeast => k_is)
    (case aDMost => k_is)
    (case iDMost => k_is)
    (case lDMost => k_is)
    (case cDMost => k_is)
    (case kDMost => k_is)
    (case aDeskOf => k_is)
    (case lDeskOf => k_is)
    (case cDeskOf => k_is)
    (case kDeskOf => k_is)
    (case aPoured => k_is)
    (case lPoured => k_is)
    (case cPoured => k_is)
    (case kPoured => k_is)
    (case aLatelyInit => k_is)
    (case iLatelyInit => k_is)
    (case lLatelyInit => k_is)
    (case cLatelyInit => k_is)
    (case kLatelyInit => k_is)
    (case aLatelyCome => k_is)
    (case iLatelyCome => k_is)
    (case lLatelyCome => k_is)
    (case cLatelyCome => k_is)
    (case kLatelyCome => k_is)
    (case aLatelyTold => k_is)
    (case iLatelyTold => k_is)
    (case lLatelyTold => k_is)
    (case cLatelyTold => k_is)
    (case kLatelyTold => k_is)
    (case aLatelyReach => k_is)
    (case iLatelyReach => k_is)
    (case lLatelyReach => k_is)
    (case cLatelyReach => k_is)
    (case kLatelyReach => k_is)
    (case aLMixed => k_is)
    (case lLMixed => k_is)
    (case cLMixed => k_is)
    (case kLMixed => k_is)
    (case aLNames => k_is)
    (case lLNames => k_is)
    (case cLNames => k_is)
    (case kLNames => k_is)
    (case aLDrawers => k_is)
    (case lLDrawers => k_is)
    (case cLDrawers => k_is)
    (case kLDrawers => k_is)
    (case aLComing => k_is)
    (case lLComing => k_is)
    (case cLComing => k_is)
    (case kLComing => k_is)
    (case aLHolds => k_is)
    (case lLHolds => k_is)
    (case cLHolds => k_is)
    (case kLHolds => k_is)
    (case aLWord => k_is)
    (case lLWord => k_is)
    (case cLWord => k_is)
    (case kLWord => k_is)
    (case aLMade => k_is)
    (case lLMade => k_is)
    (case cLMade => k_is)
    (case kLMade => k_is)
    (case aLComeRefused => k_is)
    (case lLComeRefused => k_is)
    (case cLComeRefused => k_is)
    (case kLComeRefused => k_is)
    (case aDInit => k_is)
    (case iDInit => k_is)
    (case lDInit => k_is)
    (case cDInit => k_is)
    (case kDInit => k_is)
    (case aLaw => k_is)
    (case lLaw => k_is)
    (case cLaw => k_is)
    (case kLaw => k_is)
    (case lE => k_is)
    (case pgL => k_is)
    (case hdL => k_is)
    (case poL => k_is)
    (case saL => k_is)
    (case mkL => k_is)
    (case kcL => k_is)
    (case nL_room => k_is)
    (case nL_piece => k_is)
    (case nL_pieces => k_is)
    (case nL_full => k_is)
    (case nL_latest => k_is)
    (case nL_came => k_is)
    (case v_LONGEST_PIECE => k_is)
    (case v_MOST_PIECES => k_is)
    (case lT => k_is)
    (case pg => k_is)
    (case hd => k_is)
    (case po => k_is)
    (case sa => k_is)
    (case mk => k_is)
    (case kc => k_is)
    (case n_room => k_is)
    (case n_counts => k_is)
    (case n_gone => k_is)
    (case n_total => k_is)
    (case o_len => k_is)
    (case o_min => k_is)
    (case o_list => k_is)
    (case o_dict => k_is)
    (case o_sorted => k_is)
    (case o_isinstance => k_is)
    (case o_int => k_is)
    (case o_bool => k_is)
    (case o_str => k_is)
    (case o_range => k_is)
    (case o_enumerate => k_is)
    (case o_sum => k_is)
    (case o_zip => k_is)
    (case v_LONGEST => k_is)
    (case v_LETTERS => k_is)
    (case v_GREATEST => k_is)
    (case v_MOST_DRAWERS => k_is)
    (case ea_NoName => k_is)
    (case ex_NoName => k_exc)
    (case ek_NoName => k_is)
    (case eb_NoName => k_is)
    (case et_NoName => k_is)
    (case ea_NoWeight => k_is)
    (case ex_NoWeight => k_exc)
    (case ek_NoWeight => k_is)
    (case eb_NoWeight => k_is)
    (case et_NoWeight => k_is)
    (case ea_NoDesk => k_is)
    (case ex_NoDesk => k_exc)
    (case ek_NoDesk => k_is)
    (case eb_NoDesk => k_is)
    (case et_NoDesk => k_is)
    (case ea_NoMatch => k_is)
    (case ex_NoMatch => k_exc)
    (case ek_NoMatch => k_is)
    (case eb_NoMatch => k_is)
    (case et_NoMatch => k_is)
    (case ea_NoPiece => k_is)
    (case ex_NoPiece => k_exc)
    (case ek_NoPiece => k_is)
    (case eb_NoPiece => k_is)
    (case et_NoPiece => k_is)
    (case ea_NoText => k_is)
    (case ea_DrawerError => k_is)
    (case ce_b => k_is)
    (case ce_d => k_is)
    (case ce_t => k_is)
    (case ce_NoName => k_is)
    (case ce_NoWeight => k_is)
    (case ce_NoDesk => k_is)
    (case ce_NoPiece => k_is)
    (case kg_NoName => k_is)
    (case kk_NoName => k_is)
    (case kd_NoName => k_is)
    (case ka_NoName => k_is)
    (case km_NoName => k_is)
    (case ks_NoName_NoWeight => k_is)
    (case kn_NoName_NoWeight => rfl)
    (case ks_NoName_NoDesk => k_is)
    (case kn_NoName_NoDesk => rfl)
    (case ks_NoName_NoMatch => k_is)
    (case kn_NoName_NoMatch => rfl)
    (case ks_NoName_NoPiece => k_is)
    (case kn_NoName_NoPiece => rfl)
    (case ks_NoName_NoText => k_is)
    (case kn_NoName_NoText => rfl)
    (case kg_NoWeight => k_is)
    (case kk_NoWeight => k_is)
    (case kd_NoWeight => k_is)
    (case ka_NoWeight => k_is)
    (case km_NoWeight => k_is)
    (case ks_NoWeight_NoName => k_is)
    (case kn_NoWeight_NoName => rfl)
    (case ks_NoWeight_NoDesk => k_is)
    (case kn_NoWeight_NoDesk => rfl)
    (case ks_NoWeight_NoMatch => k_is)
    (case kn_NoWeight_NoMatch => rfl)
    (case ks_NoWeight_NoPiece => k_is)
    (case kn_NoWeight_NoPiece => rfl)
    (case ks_NoWeight_NoText => k_is)
    (case kn_NoWeight_NoText => rfl)
    (case kg_NoDesk => k_is)
    (case kk_NoDesk => k_is)
    (case kd_NoDesk => k_is)
    (case ka_NoDesk => k_is)
    (case km_NoDesk => k_is)
    (case ks_NoDesk_NoName => k_is)
    (case kn_NoDesk_NoName => rfl)
    (case ks_NoDesk_NoWeight => k_is)
    (case kn_NoDesk_NoWeight => rfl)
    (case ks_NoDesk_NoMatch => k_is)
    (case kn_NoDesk_NoMatch => rfl)
    (case ks_NoDesk_NoPiece => k_is)
    (case kn_NoDesk_NoPiece => rfl)
    (case ks_NoDesk_NoText => k_is)
    (case kn_NoDesk_NoText => rfl)
    (case kg_NoPiece => k_is)
    (case kk_NoPiece => k_is)
    (case kd_NoPiece => k_is)
    (case ka_NoPiece => k_is)
    (case km_NoPiece => k_is)
    (case ks_NoPiece_NoName => k_is)
    (case kn_NoPiece_NoName => rfl)
    (case ks_NoPiece_NoWeight => k_is)
    (case kn_NoPiece_NoWeight => rfl)
    (case ks_NoPiece_NoDesk => k_is)
    (case kn_NoPiece_NoDesk => rfl)
    (case ks_NoPiece_NoMatch => k_is)
    (case kn_NoPiece_NoMatch => rfl)
    (case ks_NoPiece_NoText => k_is)
    (case kn_NoPiece_NoText => rfl)
    (case kz_NoName => k_is)
    (case kz_NoWeight => k_is)
    (case kz_NoDesk => k_is)
    (case kd_NoMatch => k_is)
    (case kz_NoMatch => k_is)
    (case kz_NoPiece => k_is)
    (case kd_NoText => k_is)
    (case et_NoText => k_is)
    (case kz_NoText => k_is)
    (case kx_n => k_is)
    (case kx_t => k_is)
#print axioms PySem.Challenge.cw_drawerdesk_k11_whole_lately_bounds_holds
