import PyProof.Rows.All
import Wide.All
import OpenK.AllK
import Wide.FinOn
import HandS.ForMost
import HandS.WordsExc
import HandS.TryOnly
import HandS.ExcOwn
import HandS.IsInst
import HandS.StrMore
import HandS.SortKw
import HandS.SortInts
import HandS.ListItems
import HandS.DictComp
import HandS.Defaults
import HandS.DictTup
import HandS.DictSubView
import HandS.Style
import HandS.Evl
import HandS.SortRule
import HandS.ExcIs
import HandS.ExcValue
import PySem.Challenge.RW_drawerdesk_k14_whole_goes_on
set_option Elab.async false
set_option linter.all false
set_option maxRecDepth 100000
set_option maxHeartbeats 4000000
/-! Rules of my own over the hand layer: the views of a dict whose keys are texts, and text times number. -/
namespace DK
open PySem PySem.Spec PyProof.Rows L2
section
variable {X : Cx}
/-- text times number -/
def rMulS : R2 := fun x y H Q => ∃ (z : Str) (n : Int), x = .str z ∧ y = .int n ∧ MulOk z n ∧ Q (.str (Txt.mul z n)) H
theorem op_mulS : OpR X (binaryOp .Mult) rMulS := by
  intro pins s σ H x y v u Q I rx ry h
  obtain ⟨z, n, rfl, rfl, ok, q⟩ := h
  obtain ⟨t, rfl⟩ := rx
  obtain ⟨t', rfl⟩ := ry
  exact SB.mul ok fun t'' k => ⟨.str _, H, I.tok k, ⟨t'', rfl⟩, q⟩

/-- the view d.values(), d.items() of a dict at d -/
def viewV (p d : Addr) : HO := .ext fun h => h.IsValuesView p d
def viewI (p d : Addr) : HO := .ext fun h => h.IsItemsView p d
theorem viewV_ok {P : Program} {w : World} {H : Hp} {h : Heap} {p d : Addr} (e : h.get? p = some { cls := .type "dict_values", data := .fields #[.ref d] }) : ObjOk P w H h p (viewV p d) := by
  refine ⟨⟨_, e, rfl, rfl⟩, ⟨_, e⟩, ?_⟩
  intro h1 h2 x k
  obtain ⟨o, ho, r⟩ := x
  exact ⟨o, k o ho, r⟩
theorem viewI_ok {P : Program} {w : World} {H : Hp} {h : Heap} {p d : Addr} (e : h.get? p = some { cls := .type "dict_items", data := .fields #[.ref d] }) : ObjOk P w H h p (viewI p d) := by
  refine ⟨⟨_, e, rfl, rfl⟩, ⟨_, e⟩, ?_⟩
  intro h1 h2 x k
  obtain ⟨o, ho, r⟩ := x
  exact ⟨o, k o ho, r⟩
def rVals : V → List V → Hp → VK → Prop := fun x xs H Q => ∃ (a : Addr) (kvs : List (Key × V)), x = .ref a ∧ xs = [] ∧ H a = some (.dK kvs) ∧ ∀ p, H p = none → Q (.ref p) (upd H p (viewV p a))
theorem mt_vals : MtR X "dict.values" rVals := by
  intro pins s σ H x xs v us Q I rx rxs h
  obtain ⟨a, kvs, rfl, rfl, ha, q⟩ := h
  cases rx
  cases rxs
  obtain ⟨z, lo, vs, rel, dd⟩ := dk_of I.hok ha
  refine call_meetsIn PySem.F.slot_dict_values dd.typeIs PySem.F.entry_dict_values (PySem.F.args_dict_values_1 _) (meets_dict_values (mixKind X.prog X.w) a lo) ⟨⟨vs, dd⟩, ?_⟩
  have hf : H s.heap.objs.size = none := I.hok.fresh (Nat.le_refl _)
  exact ⟨.ref s.heap.objs.size, upd H s.heap.objs.size (viewV s.heap.objs.size a), I.laid (t' := s.toks) (fun b u e => Heap.get?_push_of_some _ e) (Nat.le_refl _) (viewV_ok (Heap.get?_push_size _ rfl)), rfl, q _ hf⟩
def rItems : V → List V → Hp → VK → Prop := fun x xs H Q => ∃ (a : Addr) (kvs : List (Key × V)), x = .ref a ∧ xs = [] ∧ H a = some (.dK kvs) ∧ ∀ p, H p = none → Q (.ref p) (upd H p (viewI p a))
theorem mt_items : MtR X "dict.items" rItems := by
  intro pins s σ H x xs v us Q I rx rxs h
  obtain ⟨a, kvs, rfl, rfl, ha, q⟩ := h
  cases rx
  cases rxs
  obtain ⟨z, lo, vs, rel, o, es, ep, ho, hx, hdat, _⟩ := dk_of I.hok ha
  refine DT.callItems (es := es) (ep := ep) lo ⟨o, ho, hx, hdat⟩ ?_
  have hf : H s.heap.objs.size = none := I.hok.fresh (Nat.le_refl _)
  exact ⟨.ref s.heap.objs.size, upd H s.heap.objs.size (viewI s.heap.objs.size a), I.laid (t' := s.toks) (fun b u e => Heap.get?_push_of_some _ e) (Nat.le_refl _) (viewI_ok (Heap.get?_push_size _ rfl)), rfl, q _ hf⟩
/-- a view of the values: the source that the library's functions walk -/
theorem src_of {pins : List (Addr × Obj)} {σ : L2.St} {H : Hp} {s : Shared} {p a : Addr} {kvs : List (Key × V)} (I : Inv X pins σ H s) (hp : H p = some (viewV p a)) (ha : H a = some (.dK kvs)) :
    ∃ (vs : List (Key × Value)) (ep : Nat), KV kvs vs ∧ kvs.length ≤ sizeLine ∧ kvs.length = vs.length ∧ (s.heap.IsValuesView p a ∧ s.heap.DictAt (mixKind X.prog X.w) a vs ep) := by
  have view : s.heap.IsValuesView p a := (show ObjOk X.prog X.w H s.heap p (viewV p a) from I.hok p _ hp).1
  obtain ⟨z, lo, vs, rel, dd⟩ := dk_of I.hok ha
  obtain ⟨ep, hat⟩ := dd.dictAt
  exact ⟨vs, ep, rel, z, Paired.length rel, view, hat⟩
theorem kv_snd : ∀ {kvs : List (Key × V)} {vs : List (Key × Value)}, KV kvs vs → Vals (kvs.map (·.2)) (vs.map (·.2))
  | _, _, .nil => .nil
  | _, _, .cons r t => .cons r.2 (kv_snd t)
theorem items_vals {kvs : List (Key × V)} {vs : List (Key × Value)} {acc : List Value} (r : KV kvs vs) (hl : acc.length = vs.length) (h : ∀ (j : Nat) (v : Value), acc[j]? = some v → ∃ k, vs[j]? = some (k, v)) : acc = vs.map (·.2) := by
  refine List.ext_getElem? fun j => ?_
  rw [List.getElem?_map]
  cases e : acc[j]? with
  | none =>
    have hj : vs.length ≤ j := by rw [← hl]; exact List.getElem?_eq_none_iff.mp e
    rw [List.getElem?_eq_none_iff.mpr hj]
    rfl
  | some v =>
    obtain ⟨k, hk⟩ := h j v e
    rw [hk]
    rfl
/-- list(d.values()) -/
def rListV : List V → Hp → VK → Prop := fun xs H Q => ∃ (p a : Addr) (kvs : List (Key × V)), xs = [.ref p] ∧ H p = some (viewV p a) ∧ H a = some (.dK kvs) ∧ ∀ q, H q = none → Q (.ref q) (upd H q (.lst (kvs.map (·.2))))
theorem call_listV (hc : X.calm = true) : CallR X (.type "list") rListV := by
  intro pins s σ H xs us Q I r h
  obtain ⟨p, a, kvs, rfl, hp, ha, q⟩ := h
  obtain rfl := Vals.ref1 r
  obtain ⟨vs, ep, rel, z, hl, src⟩ := src_of I hp ha
  refine PySem.W.kdl_call (PySem.W.kdl_values (knd := mixKind X.prog X.w) (kvs := vs) (ep := ep)) (I.ok.hd hc) src (by rw [← hl]; exact z) fun h' tk acc c hk hS hacc => ?_
  have ea : acc.toList = vs.map (·.2) := items_vals rel (by rw [Array.length_toList]; exact hacc.1) fun j v e => hacc.2 j v (by rw [← Array.getElem?_toList]; exact e)
  refine ⟨.ref s.heap.objs.size, upd H s.heap.objs.size (.lst (kvs.map (·.2))), I.laid hk (Nat.le_refl _) (show ObjOk X.prog X.w _ _ _ (.lst (kvs.map (·.2))) from ⟨by rw [List.length_map]; exact z, acc.toList, c, by rw [ea]; exact kv_snd rel, by rw [Array.toArray_toList]; exact hS⟩), rfl, q _ (I.hok.fresh (Nat.le_refl _))⟩
end
end DK

set_option Elab.async false
set_option linter.all false
set_option maxRecDepth 100000
set_option maxHeartbeats 4000000
namespace DK
open PySem PySem.Spec PyProof.Rows L2
theorem pre_sum (ns : List Int) : ∀ j : Nat, PySem.preSum (fun i => ns.getD i 0) j = (ns.take j).sum
  | 0 => by simp [PySem.preSum]
  | j + 1 => by
    rw [PySem.preSum, pre_sum ns j]
    cases e : ns[j]? with
    | none =>
      have hj : ns.length ≤ j := List.getElem?_eq_none_iff.mp e
      rw [List.take_of_length_le hj, List.take_of_length_le (Nat.le_succ_of_le hj), List.getD_eq_getElem?_getD, e]
      simp
    | some z =>
      obtain ⟨hj, ez⟩ := List.getElem?_eq_some_iff.mp e
      rw [List.take_succ_eq_append_getElem hj, List.sum_append, List.getD_eq_getElem?_getD, e, ez]
      simp
section
variable {X : Cx} {pins : List (Addr × Obj)} {σ : L2.St} {H : Hp} {s : Shared}
/-- the i-th value of a walked view, whole numbers -/
theorem val_at {kvs : List (Key × V)} {vs : List (Key × Value)} {ns : List Int} (rel : KV kvs vs) (hns : kvs.map (·.2) = ns.map V.int) {i : Nat} {v : Value} (h : ∃ k, vs[i]? = some (k, v)) : ∃ t : Tok, v = Value.int (ns.getD i 0) t := by
  obtain ⟨k, hk⟩ := h
  have r := kv_snd rel
  have e2 : (vs.map (·.2))[i]? = some v := by rw [List.getElem?_map, hk]; rfl
  rw [hns] at r
  have hl : (ns.map V.int).length = (vs.map (·.2)).length := r.length
  have hi : i < ns.length := by
    have := (List.getElem?_eq_some_iff.mp e2).1
    rw [← hl, List.length_map] at this
    exact this
  have e1 : (ns.map V.int)[i]? = some (V.int ns[i]) := by rw [List.getElem?_map, List.getElem?_eq_getElem hi]; rfl
  obtain ⟨u, hu, ru⟩ := r.get e1
  rw [e2] at hu
  cases hu
  obtain ⟨t, et⟩ := ru
  refine ⟨t, ?_⟩
  rw [et, List.getD_eq_getElem?_getD, List.getElem?_eq_getElem hi]
  rfl
theorem len_at {kvs : List (Key × V)} {ns : List Int} (hns : kvs.map (·.2) = ns.map V.int) : kvs.length = ns.length := by
  have e := congrArg List.length hns
  rw [List.length_map, List.length_map] at e
  exact e
/-- sum(d.values()) -/
def rSumV : List V → Hp → VK → Prop := fun xs H Q => ∃ (p a : Addr) (kvs : List (Key × V)) (ns : List Int), xs = [.ref p] ∧ H p = some (viewV p a) ∧ H a = some (.dK kvs) ∧ kvs.map (·.2) = ns.map V.int ∧ Q (.int ns.sum) H
theorem cr_sumV (hc : X.calm = true) : CallR X (.builtin "sum") rSumV := by
  intro pins s σ H xs us Q I r h
  obtain ⟨p, a, kvs, ns, rfl, hp, ha, hns, q⟩ := h
  obtain rfl := Vals.ref1 r
  obtain ⟨vs, ep, rel, z, hl, src⟩ := src_of I hp ha
  have K := PySem.W.kdl_values (prog := X.prog) (w := X.w) (r := p) (d := a) (knd := mixKind X.prog X.w) (kvs := vs) (ep := ep)
  refine PySem.call_sum_walkAnyS ?_
  obtain ⟨oI, St, hit, W, st⟩ := K.iter X.A.in1 s (show X.A.in1.handled = none from I.ok.hd hc) src
  refine hit _ _ ⟨s.heap.objs.size, _, _, _, vs.length, _, _, fun i => ns.getD i 0, rfl, W.toS, st, fun b hb => ?_, fun i v hv => val_at rel hns hv, fun s' t' hm => ?_⟩
  · show b < (s.heap.push oI).objs.size
    rw [size_push']
    rcases List.mem_cons.mp hb with e | hb
    · rw [e]
      exact Nat.lt_succ_self _
    · rw [List.mem_singleton.mp hb]
      exact Nat.lt_succ_of_lt (K.there _ src).2
  · have hk : ∀ b o, s.heap.get? b = some o → s'.heap.get? b = some o := fun b o e =>
      hm.heap b o (fun hI => absurd (Heap.lt_size e) (by rw [List.mem_singleton.mp hI]; exact Nat.lt_irrefl _)) (Heap.get?_push_of_some _ e)
    rw [Moved.eq_with hm]
    have e : PySem.preSum (fun i => ns.getD i 0) vs.length = ns.sum := by
      rw [pre_sum, List.take_of_length_le (by rw [← hl, len_at hns]; exact Nat.le_refl _)]
    rw [e]
    exact ⟨.int ns.sum, H, I.kept hk, ⟨t', rfl⟩, q⟩
/-- min(d.values()) -/
def rMinV : List V → Hp → VK → Prop := fun xs H Q => ∃ (p a : Addr) (kvs : List (Key × V)) (ns : List Int), xs = [.ref p] ∧ H p = some (viewV p a) ∧ H a = some (.dK kvs) ∧ kvs.map (·.2) = ns.map V.int ∧ 0 < ns.length ∧ ∀ m, m ∈ ns → (∀ y, y ∈ ns → m ≤ y) → Q (.int m) H
theorem cr_minV (hc : X.calm = true) : CallR X (.builtin "min") rMinV := by
  intro pins s σ H xs us Q I r h
  obtain ⟨p, a, kvs, ns, rfl, hp, ha, hns, hne, q⟩ := h
  obtain rfl := Vals.ref1 r
  obtain ⟨vs, ep, rel, z, hl, src⟩ := src_of I hp ha
  have hln : vs.length = ns.length := by rw [← hl]; exact len_at hns
  have K := PySem.W.kdl_values (prog := X.prog) (w := X.w) (r := p) (d := a) (knd := mixKind X.prog X.w) (kvs := vs) (ep := ep)
  refine PySem.call_min_walk ?_
  obtain ⟨oI, St, hit, W, st⟩ := K.iter X.A.in1 s (show X.A.in1.handled = none from I.ok.hd hc) src
  refine hit _ _ ⟨s.heap.objs.size, _, _, vs.length, _, _, fun i j => decide (ns.getD i 0 < ns.getD j 0), rfl, W, st, fun b hb => ?_, by omega, CmpOf.ints_lt (fun i => ns.getD i 0) (fun i v hv => val_at rel hns hv), fun v h' tk hv' hk => ?_⟩
  · show b < (s.heap.push oI).objs.size
    rw [size_push']
    rcases List.mem_cons.mp hb with e | hb
    · rw [e]
      exact Nat.lt_succ_self _
    · rw [List.mem_singleton.mp hb]
      exact Nat.lt_succ_of_lt (K.there _ src).2
  · have hk2 : ∀ b o, s.heap.get? b = some o → h'.get? b = some o := fun b o e =>
      hk b o (fun hI => absurd (Heap.lt_size e) (by rw [List.mem_singleton.mp hI]; exact Nat.lt_irrefl _)) (Heap.get?_push_of_some _ e)
    obtain ⟨t, et⟩ := val_at rel hns hv'
    obtain ⟨m1, m2⟩ := PySem.argBest_lt (fun i => ns.getD i 0) (vs.length - 1)
    have hi : argBest (fun i j => decide (ns.getD i 0 < ns.getD j 0)) (vs.length - 1) < ns.length := by
      have m1' : argBest (fun i j => decide (ns.getD i 0 < ns.getD j 0)) (vs.length - 1) ≤ vs.length - 1 := m1
      omega
    generalize argBest (fun i j => decide (ns.getD i 0 < ns.getD j 0)) (vs.length - 1) = b at et m2 hi
    rw [et]
    refine ⟨.int (ns.getD b 0), H, I.kept hk2, ⟨t, rfl⟩, q _ ?_ fun y hy => ?_⟩
    · rw [List.getD_eq_getElem?_getD, List.getElem?_eq_getElem hi]
      exact List.getElem_mem hi
    · obtain ⟨j, hj⟩ := List.mem_iff_getElem?.mp hy
      have hjl : j < ns.length := (List.getElem?_eq_some_iff.mp hj).1
      have e := m2 j (by omega)
      have e2 : ns.getD j 0 = y := by rw [List.getD_eq_getElem?_getD, hj]; rfl
      rw [← e2]
      exact e
/-- what a source gives is collected; the collector's own list stands at the heap's end -/
theorem collect_src {prog : Program} {w : World} {A : Around} {E : Value → Shared → Prop} {s : Shared} {T : String} {r d : Addr} {n : Nat} {P : Nat → Value → Prop} {OK : Heap → Prop} {R : List Value → Shared → Prop}
    (K : PySem.W.KdlSrc prog w T r d n P OK) (hh : A.handled = none) (hok : OK s.heap) (hn : n ≤ sizeLine)
    (h : ∀ (h' : Heap) (tk : Nat) (acc : Array Value), (∀ b o, s.heap.get? b = some o → h'.get? b = some o) → s.heap.objs.size < h'.objs.size → ItemsOf P acc n → R acc.toList { s with heap := h', toks := tk }) :
    wpAny (model prog w) A (collect (.ref r)) R E s := by
  have lt := K.there _ hok
  unfold collect
  refine wpAny_bind (wpAny_runValue (codeAny_builtin entry_proto_collect' ?_))
  rw [Around.under_plainId PySem.F.plain_proto_collect _]
  show wpAny _ A.in1 (newList [] >>= fun l => again (.builtin "list.__iadd__" ⟨[l, .ref r], []⟩)) _ _ s
  refine wpAny_bind (wpAny_newObj_type ?_)
  refine wpAny_pure ⟨plainId_quiet PySem.F.plain_list_iadd _, codeAny_builtin entry_list_iadd' ?_⟩
  rw [Around.under_plainId PySem.F.plain_list_iadd _]
  have s1 : (s.heap.push { cls := .type "list", data := .seq ([] : List Value).toArray }).get? s.heap.objs.size = some { cls := .type "list", data := .seq #[] } := Heap.get?_push_size _ rfl
  show wpAny _ A.in1 (Builtin.List.listExtendWith (.ref s.heap.objs.size) (.ref r) (.ref s.heap.objs.size)) _ _ _
  have ext := PySem.W.kdl_extend (A := A) (s := { s with heap := s.heap.push { cls := .type "list", data := .seq ([] : List Value).toArray } })
    (R := fun (q : Result) (s' : Shared) => ∃ (h' : Heap) (tk : Nat) (acc' : Array Value) (c' : Nat), q = .ok (.ret (.ref s.heap.objs.size)) ∧ s' = { s with heap := h', toks := tk } ∧
      (∀ b o, s.heap.get? b = some o → h'.get? b = some o) ∧ h'.get? s.heap.objs.size = some { cls := .type "list", dict := none, data := .seq acc' c', slots := #[] } ∧ ItemsOf P acc' n)
    K hh (K.keep _ _ hok fun b _ o e => Heap.get?_push_of_some _ e) s.heap.objs.size (Nat.ne_of_gt lt.1) (Nat.ne_of_gt lt.2) (.ref s.heap.objs.size) 0 s1
    (fun h' tk acc' c' hk hS' hacc => ⟨h', tk, acc', c', rfl, rfl, fun b o e => hk b o (Nat.ne_of_lt (Heap.lt_size e)) (Heap.get?_push_of_some _ e), hS', hacc⟩) hn
  refine wpAny_mono ext (fun fin s' x => ?_) fun e s' x => ?_
  · cases fin with
    | done f =>
      obtain ⟨h', tk, acc', c', e, rfl, hk, hS', hacc⟩ := x
      cases e
      show wpAny _ A (load s.heap.objs.size >>= _) _ _ _
      exact wpAny_bind (wpAny_load hS' (wpAny_pure (h h' tk acc' hk (Heap.lt_size hS') hacc)))
    | again c1 =>
      refine ⟨x.1, codeAny_mono x.2 fun q s2 y => ?_⟩
      obtain ⟨h', tk, acc', c', rfl, rfl, hk, hS', hacc⟩ := y
      show wpAny _ A (load s.heap.objs.size >>= _) _ _ _
      exact wpAny_bind (wpAny_load hS' (wpAny_pure (h h' tk acc' hk (Heap.lt_size hS') hacc)))
  · obtain ⟨_, _, _, _, e', _⟩ := x
    cases e'
/-- sorted(d.values()), sorted(d.values(), reverse=b) -/
theorem sorted_view {b : Bool} {kw : List (Str × Value)} {p a : Addr} {kvs : List (Key × V)} {ns : List Int} {Q : VK} (hc : X.calm = true) (I : Inv X pins σ H s) (hp : H p = some (viewV p a)) (ha : H a = some (.dK kvs)) (hns : kvs.map (·.2) = ns.map V.int)
    (hk : ∀ a, Builtin.«list.sort» ⟨[.ref a], kw⟩ = Builtin.«list.sort» ⟨[.ref a], [(Str.ofString "reverse", .bool b)]⟩) (ha1 : argsOk "sorted" ⟨[.ref p], kw⟩) (ha2 : ∀ a, argsOk "list.sort" ⟨[a], kw⟩)
    (q : ∀ (ns' : List Int) (l : Addr), ns'.Perm ns → OrdB b ns' → H l = none → Q (.ref l) (upd H l (.lst (ns'.map V.int)))) : wpAny (model X.prog X.w) X.A (call (.builtin "sorted") [.ref p] kw) (EP X pins σ Q) X.xe s := by
  obtain ⟨vs, ep, rel, z, hl, src⟩ := src_of I hp ha
  have hln : vs.length = ns.length := by rw [← hl]; exact len_at hns
  refine call_function_entry_kw kind_sorted plain_sorted entry_sorted ha1 ?_
  unfold Builtin.«sorted»
  refine wpAny_bind (m := checkCount "sorted" 1 1 _) (wpAny_pure ?_)
  refine wpAny_bind (collect_src (A := X.A.in1) (PySem.W.kdl_values (knd := mixKind X.prog X.w) (kvs := vs) (ep := ep)) (show X.A.in1.handled = none from I.ok.hd hc) src (by rw [← hl]; exact z) fun h' tk acc hkp hlt hacc => ?_)
  have ea : acc.toList = vs.map (·.2) := items_vals rel (by rw [Array.length_toList]; exact hacc.1) fun j v e => hacc.2 j v (by rw [← Array.getElem?_toList]; exact e)
  have rv : Vals (ns.map V.int) acc.toList := by rw [ea, ← hns]; exact kv_snd rel
  have hi := rv.ints
  have hz : acc.toList.length ≤ sizeLine := by rw [ea, List.length_map, ← hl]; exact z
  refine wpAny_bind (wpAny_newList ?_ hz)
  have hoL : (h'.push { cls := .type "list", data := .seq acc.toList.toArray }).get? h'.objs.size = some (seqObj "list" acc.toList.toArray 0) := Heap.get?_push_size _ rfl
  refine wpAny_bind (wpAny_holding (wpAny_call_entry_kw slot_list_sort ⟨_, hoL, rfl⟩ entry_list_sort ?_ (ha2 _)))
  rw [hk]
  refine SrtR.list_sort_ordR SrtO.swo_int hoL hz (fun h2 => SrtO.ints_sortable hi h2) fun out h1 h2 => ⟨_, rfl, ?_⟩
  obtain ⟨ns', k1, k2, k3⟩ := SrtR.ints_outR hi h1 h2
  obtain ⟨eF, heF⟩ := PyProof.Rows.sortedHeap_at (vs := acc.toList) (out := if b = true then out.toArray.reverse else out.toArray) hoL
  have kF : ∀ (c : Addr) o, s.heap.get? c = some o → (sortedHeap (h'.push { cls := .type "list", data := .seq acc.toList.toArray }) h'.objs.size acc.toList (if b = true then out.toArray.reverse else out.toArray)).get? c = some o := fun c o e => by
    have lb : c < h'.objs.size := Heap.lt_size (hkp c o e)
    exact (PyProof.Rows.sortedHeap_old (Nat.ne_of_lt lb) (by rw [size_push']; exact Nat.lt_succ_of_lt lb)).trans (Heap.get?_push_of_some _ (hkp c o e))
  have hn0 : H h'.objs.size = none := I.hok.fresh (Nat.le_of_lt hlt)
  have hlen : (ns'.map V.int).length ≤ sizeLine := by
    rw [List.length_map, k2.length_eq, ← len_at hns]
    exact z
  have e0 : ((if b = true then out.toArray.reverse else out.toArray).toList).toArray = (if b = true then out.toArray.reverse else out.toArray) := by rw [Array.toArray_toList]
  refine wpAny_pure ⟨_, rfl, .ref h'.objs.size, upd H h'.objs.size (.lst (ns'.map V.int)), I.laid (t' := tk) kF (Nat.le_of_lt hlt) ⟨hlen, _, eF, vals_of_ints k1, by rw [e0]; exact heF⟩, rfl, q _ _ k2 k3 hn0⟩
/-- sorted(d.values()) -/
def rSortedV : List V → Hp → VK → Prop := fun xs H Q => ∃ (p a : Addr) (kvs : List (Key × V)) (ns : List Int), xs = [.ref p] ∧ H p = some (viewV p a) ∧ H a = some (.dK kvs) ∧ kvs.map (·.2) = ns.map V.int ∧
  ∀ (ns' : List Int) (l : Addr), ns'.Perm ns → ns'.Pairwise (· ≥ ·) → H l = none → Q (.ref l) (upd H l (.lst (ns'.map V.int)))
/-- sorted(d.values(), reverse=True) -/
def rSortedVR : List V → List V → Hp → VK → Prop := fun xs zs H Q => zs = [.bl true] ∧ rSortedV xs H Q
theorem cr_sortedVR (hc : X.calm = true) : CallRK X (.builtin "sorted") [Str.ofString "reverse"] rSortedVR := by
  intro pins s σ H xs zs us ws Q I r rz h
  obtain ⟨rfl, p, a, kvs, ns, rfl, hp, ha, hns, q⟩ := h
  obtain rfl := Vals.ref1 r
  obtain ⟨w1, rfl, e1⟩ := vals1 rz
  obtain rfl : w1 = Value.bool true := e1
  exact sorted_view (b := true) hc I hp ha hns (fun _ => rfl) (PyProof.Rows.args_sorted_rev _ _) (fun _ => PyProof.Rows.args_list_sort_rev _ _) q
def rSortedVU : List V → Hp → VK → Prop := fun xs H Q => ∃ (p a : Addr) (kvs : List (Key × V)) (ns : List Int), xs = [.ref p] ∧ H p = some (viewV p a) ∧ H a = some (.dK kvs) ∧ kvs.map (·.2) = ns.map V.int ∧
  ∀ (ns' : List Int) (l : Addr), ns'.Perm ns → ns'.Pairwise (· ≤ ·) → H l = none → Q (.ref l) (upd H l (.lst (ns'.map V.int)))
theorem cr_sortedV (hc : X.calm = true) : CallR X (.builtin "sorted") rSortedVU := by
  intro pins s σ H xs us Q I r h
  obtain ⟨p, a, kvs, ns, rfl, hp, ha, hns, q⟩ := h
  obtain rfl := Vals.ref1 r
  exact sorted_view (b := false) (kw := []) hc I hp ha hns (fun _ => rfl) (args_sorted1 _) (fun _ => PyProof.Rows.args_list_sort _) q
end
end DK

set_option Elab.async false
set_option linter.all false
set_option maxRecDepth 100000
set_option maxHeartbeats 4000000
namespace DK
open PySem PySem.Spec PyProof.Rows L2 PySem.W
/-! sorted(d.items()), the keys texts, the values whole numbers -/
abbrev CM := List (Str × Int)
def kvc (c : CM) : List (Key × V) := c.map fun e => (Sum.inr e.1, V.int e.2)
/-- x stands before y -/
def slt (x y : Str) : Bool := decide (x.cps.toList < y.cps.toList)
theorem slt_irr (x : Str) : slt x x = false := decide_eq_false (List.lt_irrefl _)
theorem slt_asym (x y : Str) (h : slt x y = true) : slt y x = false := by
  refine decide_eq_false fun h2 => ?_
  exact List.lt_irrefl _ (List.lt_trans (of_decide_eq_true h) h2)
theorem cps_inj {x y : Str} (h : x.cps.toList = y.cps.toList) : x = y := by
  cases x with
  | mk a =>
    cases y with
    | mk b =>
      congr 1
      exact Array.toList_inj.mp h
theorem slt_tot (x y : Str) (h1 : slt x y = false) (h2 : slt y x = false) : x = y := by
  have a := of_decide_eq_false h1
  have b := of_decide_eq_false h2
  exact cps_inj (List.le_antisymm (List.not_lt.mp b) (List.not_lt.mp a))
theorem slt_tr (x y z : Str) (h1 : slt y x = false) (h2 : slt z y = false) : slt z x = false := by
  have a := List.not_lt.mp (of_decide_eq_false h1)
  have b := List.not_lt.mp (of_decide_eq_false h2)
  exact decide_eq_false (List.not_lt.mpr (List.le_trans a b))
/-- the pair that is read off the heap -/
def rdP (h : Heap) (v : Value) : Str × Int := match v with
  | .ref b => (match h.get? b with
    | some o => (match o.data with
      | .seq xs _ => (match xs.toList with
        | [.str x _, .int n _] => (x, n)
        | _ => (Str.empty, 0))
      | _ => (Str.empty, 0))
    | none => (Str.empty, 0))
  | _ => (Str.empty, 0)
/-- at b stands the tuple of that text and that number -/
def PrAt (h : Heap) (b : Addr) (e : Str × Int) : Prop := ∃ t u, h.get? b = some { cls := .type "tuple", data := .seq #[.str e.1 t, .int e.2 u] }
theorem PrAt.rd {h : Heap} {b : Addr} {e : Str × Int} (x : PrAt h b e) : rdP h (.ref b) = e := by
  obtain ⟨t, u, g⟩ := x
  simp only [rdP, g]
section
variable {prog : Program} {w : World} {A : Around} {s : Shared}
theorem firsts_pr {h : Heap} : ∀ vs : List Value, (∀ v ∈ vs, ∃ b e, v = .ref b ∧ PrAt h b e) → ∃ fs : List Value, KatTups h vs fs ∧ fs.length = vs.length ∧ ∀ f ∈ fs, ∃ x t, f = Value.str x t
  | [], _ => ⟨[], KatTups.nil, rfl, fun f hf => by simp at hf⟩
  | v :: vs, x => by
    obtain ⟨fs, k, hl, hi⟩ := firsts_pr vs fun u hu => x u (List.mem_cons_of_mem _ hu)
    obtain ⟨b, e, rfl, t, u, g⟩ := x v (List.mem_cons_self ..)
    refine ⟨.str e.1 t :: fs, KatTups.cons g rfl rfl rfl k, by rw [List.length_cons, List.length_cons, hl], fun f hf => ?_⟩
    rcases List.mem_cons.mp hf with rfl | hf
    · exact ⟨e.1, t, rfl⟩
    · exact hi f hf
/-- such pairs, equal keys having equal values, may be sorted by their keys -/
theorem pr_sortable {a : Addr} {vs : List Value} {k : Value → Str × Int} (h2 : 2 ≤ vs.length) (hv : ∀ v ∈ vs, ∃ b, v = .ref b ∧ b ≠ a ∧ PrAt s.heap b (k v)) (hu : ∀ v ∈ vs, ∀ u ∈ vs, (k v).1 = (k u).1 → (k v).2 = (k u).2) :
    SrtO.SortableO prog w A s a vs fun v u => slt (k v).1 (k u).1 := by
  intro h' keep
  have hv' : ∀ v ∈ vs, ∃ b, v = .ref b ∧ PrAt h' b (k v) := fun v hm => by
    obtain ⟨b, e, ne, t, u, g⟩ := hv v hm
    exact ⟨b, e, t, u, keep b _ ne g⟩
  obtain ⟨fs, kt, hl, hi⟩ := firsts_pr vs fun v hm => by
    obtain ⟨b, e, p⟩ := hv' v hm
    exact ⟨b, k v, e, p⟩
  refine ⟨tuples' (Value.type "str" != Value.type "tuple"), fun Q E hq => ?_, ?_⟩
  · refine kat_kind (s := { s with heap := h' }) (T := Value.type "str") kt (by omega) (fun f hf => ?_) (by rfl) hq
    obtain ⟨x, t, rfl⟩ := hi f hf
    exact PySem.W.Looks.of_pure rfl
  · have hb : (Value.type "str" != Value.type "tuple") = true := by decide
    rw [hb]
    intro p q hp hq
    obtain ⟨b1, e1, t1, u1, g1⟩ := hv' _ hp
    obtain ⟨b2, e2, t2, u2, g2⟩ := hv' _ hq
    have hu' := hu _ hp _ hq
    show wpAny _ _ (keyLt' (tuples' true) p.1 q.1) (fun r s' => s' = { s with heap := h' } ∧ r = slt (k p.1).1 (k q.1).1) _ _
    revert g1 g2 hu'
    generalize k p.1 = z1
    generalize k q.1 = z2
    intro g1 g2 hu'
    rw [e1, e2]
    refine kat_lt (s := { s with heap := h' }) g1 rfl g2 rfl ?_
    show KatLex prog w A true false _ [(Value.str z1.1 t1, Value.str z2.1 t2), (Value.int z1.2 u1, Value.int z2.2 u2)] 0 _
    refine kat_cons (wpAny_eqBool_str ?_)
    refine kat_go (fun e0 => ?_) (fun e0 => ?_)
    · have ez : z1.1 = z2.1 := of_decide_eq_true e0
      refine kat_yes (kat_cons (wpAny_eqBool_int ?_))
      have en : (z1.2 == z2.2) = true := by rw [hu' ez]; simp
      rw [en]
      refine kat_yes (kat_nil ⟨rfl, ?_⟩)
      rw [ez, slt_irr]
    · exact kat_no (oneLt_str ⟨rfl, rfl⟩)
end
end DK

set_option Elab.async false
set_option linter.all false
set_option maxRecDepth 100000
set_option maxHeartbeats 4000000
namespace DK
open PySem PySem.Spec PyProof.Rows L2 PySem.W
/-- from an old heap to a new one all that was tracked stands -/
abbrev Ex (H H' : Hp) : Prop := Evl.Ex H H'
def PrsAt (H : Hp) (ts : List Addr) (c : CM) : Prop := Paired (fun (t : Addr) (e : Str × Int) => H t = some (.tup [.str e.1, .int e.2])) ts c
/-- sorted by their texts -/
def Asc (c : CM) : Prop := c.Pairwise fun e f => slt f.1 e.1 = false
theorem keys_kvc (c : CM) : (kvc c).map (·.1) = c.map fun e => Sum.inr e.1 := by
  unfold kvc
  rw [List.map_map]
  rfl
def rSortedI : List V → Hp → VK → Prop := fun xs H Q => ∃ (p a : Addr) (c : CM), xs = [.ref p] ∧ H p = some (viewI p a) ∧ H a = some (.dK (kvc c)) ∧ (c.map (·.1)).Nodup ∧
  ∀ (H' : Hp) (l : Addr) (ts : List Addr) (c' : CM), Ex H H' → H l = none → (∀ t ∈ ts, H t = none) → c'.Perm c → Asc c' → H' l = some (.lst (ts.map V.ref)) → PrsAt H' ts c' → Q (.ref l) H'
theorem pairs_ix {P : Program} {w : World} {c : CM} {vs : List (Key × Value)} (r : KV (kvc c) vs) {es : List DictEntry} (p : Pairs (mixKind P w) es vs) {j : Nat} {e : DictEntry} (he : es[j]? = some e) :
    ∃ z t u, c[j]? = some z ∧ e.key = .str z.1 t ∧ e.val = .int z.2 u := by
  have hl : (kvc c).length = vs.length := Paired.length r
  have hl2 : es.length = vs.length := p.length
  have hj : j < es.length := (List.getElem?_eq_some_iff.mp he).1
  unfold kvc at hl
  rw [List.length_map] at hl
  have hjc : j < c.length := by omega
  have e1 : (kvc c)[j]? = some (Sum.inr c[j].1, V.int c[j].2) := by
    unfold kvc
    rw [List.getElem?_map, List.getElem?_eq_getElem hjc]
    rfl
  obtain ⟨q, hq, e2, ru⟩ := LiI.paired_get r e1
  obtain ⟨h1, h2⟩ := p.get? he (k := q.1) (v := q.2) hq
  obtain ⟨u, eu⟩ := ru
  have h1' : keyIs q.1 e.key = true := h1
  have e2' : q.1 = (Sum.inr c[j].1 : Key) := e2.symm
  rw [e2'] at h1'
  obtain ⟨t, et⟩ := Value.isStrOf_shape (x := c[j].1) (v := e.key) h1'
  exact ⟨c[j], t, u, List.getElem?_eq_getElem hjc, et, by rw [h2, eu]⟩
theorem nodup_val {c : CM} (hn : (c.map (·.1)).Nodup) : ∀ z ∈ c, ∀ y ∈ c, z.1 = y.1 → z.2 = y.2 := by
  intro z hz y hy e
  obtain ⟨i, hi⟩ := List.mem_iff_getElem?.mp hz
  obtain ⟨j, hj⟩ := List.mem_iff_getElem?.mp hy
  have h1 : (c.map (·.1))[i]? = some z.1 := by rw [List.getElem?_map, hi]; rfl
  have h2 : (c.map (·.1))[j]? = some z.1 := by rw [List.getElem?_map, hj, e]; rfl
  have : i = j := nd_ix hn h1 h2
  subst this
  rw [hi] at hj
  cases hj
  rfl
section
variable {X : Cx}
theorem cr_sortedI (hc : X.calm = true) : CallR X (.builtin "sorted") rSortedI := by
  intro pins s σ H xs us Q I r h
  obtain ⟨p, a, c, rfl, hp, ha, hn, q⟩ := h
  obtain rfl := Vals.ref1 r
  have view : s.heap.IsItemsView p a := (show ObjOk X.prog X.w H s.heap p (viewI p a) from I.hok p _ hp).1
  obtain ⟨z, lo, vs, rel, o, es, ep, ho, hx, hdat, _, prs, _⟩ := dk_of I.hok ha
  have hes : es.size = c.length := by
    have h1 := prs.length
    have h2 : (kvc c).length = vs.length := Paired.length rel
    unfold kvc at h2
    rw [List.length_map] at h2
    rw [Array.length_toList] at h1
    omega
  have zc : c.length ≤ sizeLine := by
    unfold kvc at z
    rw [List.length_map] at z
    exact z
  refine DT.sortedI (es := es) (ep := ep) (I.ok.hd hc) view ⟨o, ho, hx, hdat⟩ (by rw [hes]; exact zc) fun h' tk as hk hlt hl hG => ?_
  have lac : as.length = c.length := by omega
  have ndA : as.Nodup := List.Pairwise.imp (fun h => Nat.ne_of_lt h) hG.rise
  -- what each new tuple holds
  have pr : ∀ (j : Nat) (b : Addr), as[j]? = some b → ∃ e, c[j]? = some e ∧ PrAt h' b e := by
    intro j b hj
    obtain ⟨en, he, hg⟩ := hG.pairs j b hj
    obtain ⟨e, t, u, hcj, k1, k2⟩ := pairs_ix rel prs (by rw [Array.getElem?_toList]; exact he)
    exact ⟨e, hcj, t, u, by rw [hg, k1, k2]⟩
  have hob : (h'.push { cls := .type "list", data := .seq (as.map Value.ref).toArray }).get? h'.objs.size = some (seqObj "list" (as.map Value.ref).toArray 0) := Heap.get?_push_size _ rfl
  have ne0 : ∀ b o, h'.get? b = some o → b ≠ h'.objs.size := fun b o e => Nat.ne_of_lt (Heap.lt_size e)
  have ka : ∀ b o, h'.get? b = some o → (h'.push { cls := .type "list", data := .seq (as.map Value.ref).toArray }).get? b = some o := fun b o e => Heap.get?_push_of_some _ e
  generalize h'.push { cls := .type "list", data := .seq (as.map Value.ref).toArray } = h2 at hob ka ⊢
  have prv : ∀ v ∈ as.map Value.ref, ∃ b, v = .ref b ∧ b ≠ h'.objs.size ∧ PrAt h2 b (rdP h2 v) ∧ rdP h2 v ∈ c := by
    intro v hv
    obtain ⟨b, hb, rfl⟩ := List.mem_map.mp hv
    obtain ⟨j, hj⟩ := List.mem_iff_getElem?.mp hb
    obtain ⟨e, he, t, u, g⟩ := pr j b hj
    have p2 : PrAt h2 b e := ⟨t, u, ka _ _ g⟩
    refine ⟨b, rfl, ne0 _ _ g, ?_, ?_⟩
    · rw [p2.rd]
      exact p2
    · rw [p2.rd]
      exact List.mem_of_getElem? he
  have rdj : ∀ (j : Nat) (b : Addr), as[j]? = some b → c[j]? = some (rdP h2 (.ref b)) := by
    intro j b hj
    obtain ⟨e, he, t, u, g⟩ := pr j b hj
    have p2 : PrAt h2 b e := ⟨t, u, ka _ _ g⟩
    rw [p2.rd]
    exact he
  have ecA : c = as.map fun b => rdP h2 (.ref b) := by
    refine List.ext_getElem? fun j => ?_
    rw [List.getElem?_map]
    cases e : as[j]? with
    | none =>
      rw [List.getElem?_eq_none_iff.mpr (by rw [← lac]; exact List.getElem?_eq_none_iff.mp e)]
      rfl
    | some b =>
      rw [rdj j b e]
      rfl
  refine wpAny_call_entry PyProof.Rows.slot_list_sort ⟨_, hob, rfl⟩ PyProof.Rows.entry_list_sort ?_ (PyProof.Rows.args_list_sort _)
  refine SrtO.list_sort_ord (s := { s with heap := h2, toks := tk }) (ltv := fun v u => slt (rdP h2 v).1 (rdP h2 u).1) ⟨fun x y => slt_asym _ _, fun x y z => slt_tr _ _ _⟩ hob (by rw [List.length_map, lac]; exact zc) (fun hh2 => ?_) fun out o1 o2 => ⟨.none, rfl, ?_⟩
  · refine pr_sortable (s := { s with heap := h2, toks := tk }) (k := rdP h2) hh2 (fun v hv => ?_) fun v hv u hu e => ?_
    · obtain ⟨b, e1, e2, e3, _⟩ := prv v hv
      exact ⟨b, e1, e2, e3⟩
    · obtain ⟨_, _, _, _, m1⟩ := prv v hv
      obtain ⟨_, _, _, _, m2⟩ := prv u hu
      exact nodup_val hn _ m1 _ m2 e
  · show EP X pins σ Q (.ref h'.objs.size) { s with heap := sortedHeap h2 h'.objs.size (as.map Value.ref) out.toArray, toks := tk }
    have pm : out.Perm (as.map Value.ref) := o2.perm
    obtain ⟨ts, pts, ets⟩ := perm_lift Value.ref pm as rfl
    have hts : ∀ t ∈ ts, t ∈ as := fun t ht => pts.mem_iff.mp ht
    have kF : ∀ (b : Addr) o, b ≠ h'.objs.size → h2.get? b = some o → (sortedHeap h2 h'.objs.size (as.map Value.ref) out.toArray).get? b = some o := fun b o hb e => (PyProof.Rows.sortedHeap_old hb (Heap.lt_size e)).trans e
    have kS : ∀ (b : Addr) o, s.heap.get? b = some o → (sortedHeap h2 h'.objs.size (as.map Value.ref) out.toArray).get? b = some o := fun b o e => kF b o (ne0 _ _ (hk b o e)) (ka _ _ (hk b o e))
    obtain ⟨eF, heF⟩ := PyProof.Rows.sortedHeap_at (vs := as.map Value.ref) (out := out.toArray) hob
    have I1 : Inv X pins σ H { s with heap := sortedHeap h2 h'.objs.size (as.map Value.ref) out.toArray, toks := tk } := I.kept (t' := tk) kS
    have hn0 : H h'.objs.size = none := I.hok.fresh (Nat.le_of_lt hlt)
    have hlen : (ts.map V.ref).length ≤ sizeLine := by rw [List.length_map, pts.length_eq, lac]; exact zc
    have rv : Vals (ts.map V.ref) out := by rw [← ets]; exact LiI.vals_refs ts
    have I2 : Inv X pins σ (upd H h'.objs.size (.lst (ts.map V.ref))) { s with heap := sortedHeap h2 h'.objs.size (as.map Value.ref) out.toArray, toks := tk } :=
      I1.take (h' := sortedHeap h2 h'.objs.size (as.map Value.ref) out.toArray) (t' := tk) (fun b ob _ e => e) (I.fpOk (Nat.le_of_lt hlt) hn0) ⟨hlen, out, eF, rv, heF⟩
    have fr : ∀ t ∈ ts, H t = none := fun t ht => I.hok.fresh (Nat.le_of_lt (hG.above t (hts t ht)))
    obtain ⟨H2, I3, g, qt⟩ := DX.takeT (P := fun b vs => vs = [.str (rdP h2 (.ref b)).1, .int (rdP h2 (.ref b)).2]) I ts _ I2 (pts.nodup_iff.mpr ndA) fun b hb => by
      obtain ⟨b', eb, ne, ⟨t, u, g⟩, _⟩ := prv (.ref b) (List.mem_map.mpr ⟨b, hts b hb, rfl⟩)
      cases eb
      refine ⟨Nat.le_of_lt (hG.above b (hts b hb)), by rw [upd_ne ne]; exact fr b hb, _, rfl, fun H3 => ⟨(by rw [sizeLine_eq]; show 2 ≤ 16777216; omega), [_, _], .cons ⟨t, rfl⟩ (.cons ⟨u, rfl⟩ .nil), ⟨_, kF _ _ ne g, rfl, 0, rfl⟩⟩⟩
    have gr : Ex H H2 := fun b o e => g b o (by rw [upd_ne (ne_of_none e hn0)]; exact e)
    refine ⟨.ref h'.objs.size, H2, I3, rfl, q H2 h'.objs.size ts (ts.map fun b => rdP h2 (.ref b)) gr hn0 fr ?_ ?_ (g _ _ upd_same) ?_⟩
    · rw [ecA]
      exact pts.map _
    · have e2 : SrtO.Srtd (fun v u => slt (rdP h2 v).1 (rdP h2 u).1) (ts.map Value.ref) := by rw [ets]; exact o1
      exact List.pairwise_map.mpr (List.pairwise_map.mp e2)
    · have all : ∀ l : List Addr, (∀ t ∈ l, t ∈ ts) → PrsAt H2 l (l.map fun b => rdP h2 (.ref b)) := by
        intro l
        induction l with
        | nil => intro _; exact .nil
        | cons b l ih =>
          intro hm
          obtain ⟨vs', ev, hH⟩ := qt b (hm b (List.mem_cons_self ..))
          exact .cons (by rw [hH, ev]) (ih fun t ht => hm t (List.mem_cons_of_mem _ ht))
      exact all ts fun t ht => ht
end
end DK

set_option Elab.async false
set_option linter.all false
set_option maxRecDepth 100000
set_option maxHeartbeats 4000000
/-! Names, weights, tables of counts: plain functions; what stands in the heap. -/
namespace DK
open PySem PySem.Spec PyProof.Rows L2
/-! ### names and weights -/
abbrev letters : Str := "abcdefghijklmnopqrstuvwxyz"
def lowC (c : Nat) : Bool := decide (97 ≤ c ∧ c ≤ 122)
def isName (z : Str) : Bool := decide (1 ≤ z.length ∧ z.length ≤ 8) && z.cps.toList.all lowC
def great : Int := 1000000000000000000000000000000000000000000000000000000000000
def isNameV : V → Bool
  | .str z => isName z
  | _ => false
def isWt (i : Int) : Bool := decide (1 ≤ i ∧ i ≤ great)
def isWtV : V → Bool
  | .int i => isWt i
  | _ => false
def isWholeV : V → Bool
  | .int _ => true
  | _ => false
def isRoomV : V → Bool
  | .int i => decide (1 ≤ i ∧ i ≤ 50)
  | _ => false
theorem letters_contains (c : Nat) : letters.cps.contains c = lowC c := by
  have e : letters.cps = #[97, 98, 99, 100, 101, 102, 103, 104, 105, 106, 107, 108, 109, 110, 111, 112, 113, 114, 115, 116, 117, 118, 119, 120, 121, 122] := by decide +kernel
  rw [e]
  unfold lowC
  rcases Nat.lt_or_ge c 128 with h | h
  · revert c
    decide +kernel
  · have h1 : ¬ (97 ≤ c ∧ c ≤ 122) := by omega
    rw [decide_eq_false h1]
    refine Bool.eq_false_iff.mpr fun hm => ?_
    rw [Array.contains_iff] at hm
    simp only [List.mem_toArray, List.mem_cons, List.not_mem_nil, or_false] at hm
    omega
theorem takeWhile_len {goes : Nat → Bool} : ∀ l : List Nat, (l.takeWhile goes).length = l.length ↔ l.all goes = true
  | [] => by simp
  | a :: l => by
    rw [List.takeWhile_cons, List.all_cons]
    cases e : goes a with
    | true =>
      simp only [if_true, List.length_cons, Nat.add_right_cancel_iff, Bool.true_and]
      exact takeWhile_len l
    | false => simp
theorem takeWhile_le {goes : Nat → Bool} (l : List Nat) : (l.takeWhile goes).length ≤ l.length := (List.takeWhile_prefix goes).length_le
theorem strip_empty_iff (goes : Nat → Bool) (x : Str) : (PySem.Txt.stripBy goes true true x = Str.empty) ↔ x.cps.toList.all goes = true := by
  rw [stripBy_eq]
  unfold PySem.stripLo PySem.stripHi Builtin.Str.strSub
  simp only [if_true]
  have hx : x.length = x.cps.toList.length := by simp [Str.length]
  rw [hx]
  generalize x.cps = a
  have e1 : a.size = a.toList.length := by simp
  constructor
  · intro h
    have h2 := congrArg (fun z : Str => z.cps.size) h
    simp only [Array.size_extract] at h2
    have h3 : (Str.empty).cps.size = 0 := rfl
    rw [h3, e1] at h2
    have l1 := takeWhile_le (goes := goes) a.toList
    have l2 := takeWhile_le (goes := goes) (a.toList.drop (a.toList.takeWhile goes).length).reverse
    rw [List.length_reverse, List.length_drop] at l2
    refine (takeWhile_len a.toList).mp ?_
    rcases Nat.lt_or_ge (a.toList.takeWhile goes).length a.toList.length with c | c
    · exfalso
      have l3 : ((a.toList.drop (a.toList.takeWhile goes).length).reverse.takeWhile goes).length = (a.toList.drop (a.toList.takeWhile goes).length).reverse.length := by
        rw [List.length_reverse, List.length_drop]
        omega
      have l4 := (takeWhile_len _).mp l3
      rw [List.all_reverse] at l4
      have hd : ∃ y r, a.toList.drop (a.toList.takeWhile goes).length = y :: r := by
        cases e : a.toList.drop (a.toList.takeWhile goes).length with
        | nil =>
          have := congrArg List.length e
          rw [List.length_drop] at this
          simp at this
          simp at c
          omega
        | cons y r => exact ⟨y, r, rfl⟩
      obtain ⟨y, r, ed⟩ := hd
      rw [ed, List.all_cons, Bool.and_eq_true] at l4
      have st := takeWhile_stop goes 0 a.toList
      rcases st with st | st
      · omega
      · have : a.toList.getD (a.toList.takeWhile goes).length 0 = y := by
          rw [List.getD_eq_getElem?_getD]
          have := congrArg (fun l : List Nat => l[0]?) ed
          simp only [List.getElem?_drop, Nat.add_zero, List.getElem?_cons_zero] at this
          rw [this]
          rfl
        rw [this, l4.1] at st
        cases st
    · omega
  · intro h
    have l1 := (takeWhile_len a.toList).mpr h
    rw [l1]
    have e2 : a.toList.drop a.toList.length = [] := List.drop_length
    rw [e2]
    show Str.mk (a.extract a.toList.length (a.toList.length - 0)) = Str.empty
    rw [Nat.sub_zero]
    have : a.extract a.toList.length a.toList.length = #[] := by simp
    rw [this]
    rfl
theorem strip_letters (x : Str) : decide (V.str (PySem.Txt.stripChars x letters) = V.str "") = x.cps.toList.all lowC := by
  have e0 : ("" : Str) = Str.empty := by decide +kernel
  have e1 : (fun c => letters.cps.contains c) = lowC := funext letters_contains
  have h := strip_empty_iff lowC x
  unfold PySem.Txt.stripChars
  rw [show letters.cps.contains = lowC from e1, e0]
  cases ha : x.cps.toList.all lowC with
  | true =>
    rw [h.mpr ha]
    simp
  | false =>
    refine decide_eq_false fun e => ?_
    have := h.mp (V.str.inj e)
    rw [ha] at this
    cases this
/-! ### tables of counts -/
def hasC (c : CM) (n : Str) : Bool := c.any fun e => decide (e.1 = n)
def getC (c : CM) (n : Str) : Option Int := (c.find? fun e => decide (e.1 = n)).map (·.2)
def getD0 (c : CM) (n : Str) : Int := (getC c n).getD 0
def putC (c : CM) (n : Str) (v : Int) : CM := if hasC c n = true then c.map (fun e => if e.1 = n then (e.1, v) else e) else c ++ [(n, v)]
/-- so much less, without those that would have nothing -/
def lowered (c : CM) (m : Int) : CM := (c.filter fun e => decide (m < e.2)).map fun e => (e.1, e.2 - m)
def minL (w : Int) (l : List Int) : Int := l.foldl min w
def keysC (c : CM) : List Str := c.map (·.1)
def valsC (c : CM) : List Int := c.map (·.2)
/-- a coming: the table, what is lost by it -/
def come (room : Int) (c : CM) (n : Str) (w : Int) : CM × Int :=
  if hasC c n = false ∧ (c.length : Int) = room then
    let m := minL w (valsC c)
    let c' := lowered c m
    (if 0 < w - m then putC c' n (getD0 c' n + (w - m)) else c', m)
  else (putC c n (getD0 c n + w), 0)
theorem valV_kvc (n : Str) : ∀ c : CM, valV (kvc c) (Sum.inr n : Key) = (getC c n).map V.int
  | [] => rfl
  | e :: c => by
    by_cases h : e.1 = n
    · have h1 : valV (kvc (e :: c)) (Sum.inr n : Key) = some (V.int e.2) := valV_pos (p := ((Sum.inr e.1 : Key), V.int e.2)) (by rw [h])
      rw [h1]
      simp [getC, h]
    · have h1 : valV (kvc (e :: c)) (Sum.inr n : Key) = valV (kvc c) (Sum.inr n : Key) := valV_neg (p := ((Sum.inr e.1 : Key), V.int e.2)) (fun q => h (Sum.inr.inj q))
      rw [h1, valV_kvc n c]
      simp [getC, h]
theorem has_get (n : Str) : ∀ c : CM, hasC c n = (getC c n).isSome
  | [] => rfl
  | e :: c => by
    have ih := has_get n c
    unfold hasC getC at ih ⊢
    by_cases h : e.1 = n
    · simp [h]
    · rw [List.any_cons, List.find?_cons, decide_eq_false h, Bool.false_or]
      exact ih
theorem put_kvc (c : CM) (n : Str) (v : Int) : putK (kvc c) (Sum.inr n : Key) (V.int v) = kvc (putC c n v) := by
  have ea : ((kvc c).any fun kv => decide (kv.1 = (Sum.inr n : Key))) = hasC c n := by
    unfold kvc hasC
    rw [List.any_map]
    congr 1
    funext e
    simp only [Function.comp]
    rw [Bool.eq_iff_iff]
    simp
  unfold putK putC
  rw [ea]
  by_cases h : hasC c n = true
  · rw [if_pos h, if_pos h]
    unfold kvc
    rw [List.map_map, List.map_map]
    refine List.map_congr_left fun e _ => ?_
    simp only [Function.comp]
    by_cases h2 : e.1 = n
    · rw [if_pos (by rw [h2]), if_pos h2]
    · rw [if_neg (fun q => h2 (Sum.inr.inj q)), if_neg h2]
  · rw [if_neg h, if_neg h]
    unfold kvc
    rw [List.map_append]
    rfl
theorem len_kvc (c : CM) : (kvc c).length = c.length := by
  unfold kvc
  rw [List.length_map]
theorem snd_kvc (c : CM) : (kvc c).map (·.2) = (valsC c).map V.int := by
  unfold kvc valsC
  rw [List.map_map, List.map_map]
  rfl
/-! ### what stands in the heap -/
/-- all but these stands as it stood -/
def Off (l : List Addr) (H H' : Hp) : Prop := ∀ b o, b ∉ l → H b = some o → H' b = some o
theorem Off.refl (l : List Addr) (H : Hp) : Off l H H := fun _ _ _ e => e
theorem Off.of_ex {l : List Addr} {H H' : Hp} (e : Ex H H') : Off l H H' := fun b o _ h => e b o h
theorem Off.trans {l : List Addr} {H H1 H2 : Hp} (a : Off l H H1) (b : Off l H1 H2) : Off l H H2 := fun c o n e => b c o n (a c o n e)
theorem Off.mono {l m : List Addr} {H H1 : Hp} (a : Off l H H1) (h : ∀ b ∈ l, b ∈ m) : Off m H H1 := fun c o n e => a c o (fun z => n (h c z)) e
theorem Off.upd {l : List Addr} {H : Hp} {p : Addr} {o : HO} (h : p ∈ l) : Off l H (upd H p o) := fun b u n e => by
  rw [upd_ne (fun z => n (by rw [z]; exact h))]
  exact e
theorem Off.new {l : List Addr} {H : Hp} {p : Addr} {o : HO} (h : H p = none) : Off l H (L2.upd H p o) := fun b u n e => by
  rw [upd_ne (ne_of_none e h)]
  exact e
theorem Off.nil {H H' : Hp} (h : Off [] H H') : Ex H H' := fun b o e => h b o (fun z => nomatch z) e
/-- the attributes of a Desk, in the order in which they are stored -/
def dfl (room : Int) (d : Addr) (gone total : Int) : List (Str × V) := [(("room" : Str), .int room), (("counts" : Str), .ref d), (("gone" : Str), .int gone), (("total" : Str), .int total)]
section
variable (room : Int) (d : Addr) (gone total : Int)
theorem k_cr : ((("counts" : Str) == "room") = false) ∧ ((("gone" : Str) == "room") = false) ∧ ((("gone" : Str) == "counts") = false) ∧ ((("total" : Str) == "room") = false) ∧ ((("total" : Str) == "counts") = false) ∧ ((("total" : Str) == "gone") = false) := by decide +kernel
theorem k_rr : ((("room" : Str) == "room") = true) ∧ ((("counts" : Str) == "counts") = true) ∧ ((("gone" : Str) == "gone") = true) ∧ ((("total" : Str) == "total") = true) := by decide +kernel
theorem k_ne : ¬ ("room" : Str) = "counts" ∧ ¬ ("room" : Str) = "gone" ∧ ¬ ("room" : Str) = "total" ∧ ¬ ("counts" : Str) = "gone" ∧ ¬ ("counts" : Str) = "total" ∧ ¬ ("gone" : Str) = "total" := by decide +kernel
theorem dfl_room : (dfl room d gone total).lookup ("room" : Str) = some (.int room) := by
  simp only [dfl, List.lookup, k_rr.1]
theorem dfl_counts : (dfl room d gone total).lookup ("counts" : Str) = some (.ref d) := by
  simp only [dfl, List.lookup, k_cr.1, k_rr.2.1]
theorem dfl_gone : (dfl room d gone total).lookup ("gone" : Str) = some (.int gone) := by
  simp only [dfl, List.lookup, k_cr.2.1, k_cr.2.2.1, k_rr.2.2.1]
theorem dfl_total : (dfl room d gone total).lookup ("total" : Str) = some (.int total) := by
  simp only [dfl, List.lookup, k_cr.2.2.2.1, k_cr.2.2.2.2.1, k_cr.2.2.2.2.2, k_rr.2.2.2]
theorem dfl_no {m : Str} (h : (m == "room") = false ∧ (m == "counts") = false ∧ (m == "gone") = false ∧ (m == "total") = false) : (dfl room d gone total).lookup m = none := by
  simp only [dfl, List.lookup, h.1, h.2.1, h.2.2.1, h.2.2.2]
theorem dfl_put_counts (d' : Addr) : putF "counts" (.ref d') (dfl room d gone total) = dfl room d' gone total := by
  simp only [dfl, putF, if_neg k_ne.1, if_true]
theorem dfl_put_gone (z : Int) : putF "gone" (.int z) (dfl room d gone total) = dfl room d z total := by
  simp only [dfl, putF, if_neg k_ne.2.1, if_neg k_ne.2.2.2.1, if_true]
theorem dfl_put_total (z : Int) : putF "total" (.int z) (dfl room d gone total) = dfl room d gone z := by
  simp only [dfl, putF, if_neg k_ne.2.2.1, if_neg k_ne.2.2.2.2.1, if_neg k_ne.2.2.2.2.2, if_true]
theorem dfl_make : putF "total" (.int total) (putF "gone" (.int gone) (putF "counts" (.ref d) (putF "room" (.int room) []))) = dfl room d gone total := by
  simp only [dfl, putF, if_neg k_ne.1, if_neg k_ne.2.1, if_neg k_ne.2.2.1, if_neg k_ne.2.2.2.1, if_neg k_ne.2.2.2.2.1, if_neg k_ne.2.2.2.2.2]
end
/-- a Desk at p, its table at d -/
structure DeskAt (C : Addr) (H : Hp) (p d : Addr) (room : Int) (c : CM) (gone total : Int) : Prop where
  ob : ∃ dx, H p = some (.ins C dx (dfl room d gone total))
  dc : H d = some (.dK (kvc c))
  nd : (keysC c).Nodup
  ln : (c.length : Int) ≤ room
  r1 : 1 ≤ room
  r2 : room ≤ 50
theorem DeskAt.ne {C : Addr} {H : Hp} {p d : Addr} {room : Int} {c : CM} {gone total : Int} (D : DeskAt C H p d room c gone total) : p ≠ d := by
  obtain ⟨dx, h⟩ := D.ob
  exact ne_of h D.dc (fun z => nomatch z)
theorem DeskAt.off {C : Addr} {H H' : Hp} {p d : Addr} {room : Int} {c : CM} {gone total : Int} {l : List Addr} (D : DeskAt C H p d room c gone total) (h : Off l H H') (hp : p ∉ l) (hd : d ∉ l) : DeskAt C H' p d room c gone total :=
  ⟨let ⟨dx, e⟩ := D.ob; ⟨dx, h p _ hp e⟩, h d _ hd D.dc, D.nd, D.ln, D.r1, D.r2⟩
theorem DeskAt.ex {C : Addr} {H H' : Hp} {p d : Addr} {room : Int} {c : CM} {gone total : Int} (D : DeskAt C H p d room c gone total) (h : Ex H H') : DeskAt C H' p d room c gone total :=
  D.off (l := []) (Off.of_ex h) (fun z => nomatch z) (fun z => nomatch z)
theorem DeskAt.len {C : Addr} {H : Hp} {p d : Addr} {room : Int} {c : CM} {gone total : Int} (D : DeskAt C H p d room c gone total) : c.length ≤ 50 := by
  have := D.ln
  have := D.r2
  omega
/-- a thing whose kind isinstance can tell -/
structure Thing (K : PySem.W.Frag) (H : Hp) (x : V) : Prop where
  ex : ∃ t, TyX K H x t ∧ PySem.W.kitOne K t (.type "str") = some (match x with | .str _ => true | _ => false) ∧ PySem.W.kitOne K t (.type "int") = some (match x with | .int _ => true | .bl _ => true | _ => false) ∧ PySem.W.kitOne K t (.type "bool") = some (match x with | .bl _ => true | _ => false)
section
variable {K : PySem.W.Frag} {H : Hp}
theorem thing_str (z : Str) : Thing K H (.str z) := ⟨.type "str", .base (.str z), kit_ty (show kitB "str" "str" = some true by decide +kernel), kit_ty (show kitB "str" "int" = some false by decide +kernel), kit_ty (show kitB "str" "bool" = some false by decide +kernel)⟩
theorem thing_int (i : Int) : Thing K H (.int i) := ⟨.type "int", .base (.int i), kit_ty (show kitB "int" "str" = some false by decide +kernel), kit_ty (show kitB "int" "int" = some true by decide +kernel), kit_ty (show kitB "int" "bool" = some false by decide +kernel)⟩
theorem thing_bl (b : Bool) : Thing K H (.bl b) := ⟨.type "bool", .base (.bl b), kit_ty (show kitB "bool" "str" = some false by decide +kernel), kit_ty (show kitB "bool" "int" = some true by decide +kernel), kit_ty (show kitB "bool" "bool" = some true by decide +kernel)⟩
theorem thing_non : Thing K H .non := ⟨.type "NoneType", .base .non, kit_ty (show kitB "NoneType" "str" = some false by decide +kernel), kit_ty (show kitB "NoneType" "int" = some false by decide +kernel), kit_ty (show kitB "NoneType" "bool" = some false by decide +kernel)⟩
theorem thing_lst {a : Addr} {xs : List V} (h : H a = some (.lst xs)) : Thing K H (.ref a) := ⟨.type "list", .base (.lst h), kit_ty (show kitB "list" "str" = some false by decide +kernel), kit_ty (show kitB "list" "int" = some false by decide +kernel), kit_ty (show kitB "list" "bool" = some false by decide +kernel)⟩
theorem thing_dK {a : Addr} {kvs : List (Key × V)} (h : H a = some (.dK kvs)) : Thing K H (.ref a) := ⟨.type "dict", .base (.dK h), kit_ty (show kitB "dict" "str" = some false by decide +kernel), kit_ty (show kitB "dict" "int" = some false by decide +kernel), kit_ty (show kitB "dict" "bool" = some false by decide +kernel)⟩
end
/-! ### a def that may be called: where it stands and what it promises -/
structure Gf (P : Program) (w : World) (K : PySem.W.Frag) (mg : Str → Option Value) (base : Heap) (CX : CXT) (k : Nat) (x : Str) (ps : List Str) (sp : Sp) : Prop where
  ex : ∃ f fd, FnOk P w K mg base CX k f fd ps sp ∧ Binds K fd ps [] ∧ mg x = some (.ref f) ∧ PySem.W.keepIn K (.ref f) = true
/-- a method of the class at C -/
structure Gm (P : Program) (w : World) (K : PySem.W.Frag) (mg : Str → Option Value) (base : Heap) (CX : CXT) (C : Addr) (k : Nat) (x : Str) (ps : List Str) (sp : Sp) : Prop where
  ex : ∃ f fd, FnOk P w K mg base CX k f fd ps sp ∧ Binds K fd ps [] ∧ Meth K C x f
/-- an own exception class without __init__ of its own -/
structure ExT (K : PySem.W.Frag) (mg : Str → Option Value) (x : Str) (C : Addr) : Prop where
  g : mg x = some (.ref C)
  x : PySem.W.excIn K C [.type "ValueError", .type "Exception", .type "BaseException", .type "object"] "ValueError.__new__" = true
  k : PySem.W.keepIn K (.ref C) = true
  b : PySem.W.subIn K (.ref C) (.type "BaseException") = some true
  t : PySem.W.typeIn K (.ref C) = some (.type "type")
section
variable {X : Cx}
theorem pe_gint {x : Str} {i : Int} {t : Tok} {pos : Pos} (hm : X.mg x = some (.int i t)) (hg : Gl X x) (hd : (x == ("__debug__" : Str)) = false := by decide) : PE X (.Name x pos) (tC (.int i)) := pe_glob hg hm ⟨t, rfl⟩ hd
theorem pe_gstr {x : Str} {z : Str} {t : Tok} {pos : Pos} (hm : X.mg x = some (.str z t)) (hg : Gl X x) (hd : (x == ("__debug__" : Str)) = false := by decide) : PE X (.Name x pos) (tC (.str z)) := pe_glob hg hm ⟨t, rfl⟩ hd
theorem pe_bty {x : Str} {n : String} {pos : Pos} (hm : X.mg x = none) (hv : bootBuiltins x = some (.type n)) (hg : Gl X x) (hn : x ≠ "__name__" := by decide) (hd : (x == ("__debug__" : Str)) = false := by decide) : PE X (.Name x pos) (tC (.ty n)) := pe_bltn hg hm hv rfl hn hd
end
/-! ### loops and comprehensions over whatever is walked, n turns -/
theorem for_it {J : It} {n : Nat} {g : TG} {tb : TS} {D : Ends} {σ : L2.St} {H : Hp} (Pv : Nat → L2.St → Hp → Prop) (h0 : Pv 0 σ H) (hgo : ∀ i σ H, i < n → Pv i σ H → J.go i H) (hst : ∀ σ H, Pv n σ H → J.stop n H)
    (hs : ∀ i σ H, i < n → Pv i σ H → ∀ x H', J.yld i H x H' → g x σ H' fun σ2 H2 => tb { D with nx := Pv (i + 1), ct := Pv (i + 1), bk := D.nx } σ2 H2) (hd : ∀ σ H, Pv n σ H → D.nx σ H) :
    ∃ W : Nat → Nat → L2.St → Hp → Prop, (∃ m, W 0 m σ H) ∧ ∀ i m σ H, W i m σ H →
      (J.stop i H ∧ D.nx σ H) ∨ (J.go i H ∧ ∃ N : L2.St → Hp → Prop, (∀ σ' H', N σ' H' → ∃ m', m' < m ∧ W (i + 1) m' σ' H') ∧ ∀ x H', J.yld i H x H' → g x σ H' fun σ2 H2 => tb { D with nx := N, ct := N, bk := D.nx } σ2 H2) := by
  refine ⟨fun i m σ H => m = n - i ∧ i ≤ n ∧ Pv i σ H, ⟨n, (Nat.sub_zero n).symm, Nat.zero_le _, h0⟩, ?_⟩
  rintro i m σ H ⟨rfl, hi, p⟩
  rcases Nat.lt_or_ge i n with c | c
  · exact .inr ⟨hgo i σ H c p, Pv (i + 1), fun σ' H' p' => ⟨n - (i + 1), by omega, rfl, c, p'⟩, hs i σ H c p⟩
  · obtain rfl : i = n := by omega
    exact .inl ⟨hst σ H p, hd σ H p⟩
theorem lc_it {J : It} {n : Nat} {g : TG} {tt : TT} {te : TE} {vs : List Nat} {σ : L2.St} {H1 : Hp} {D : Addr} {Qd : Hp → Prop} (Pv : Nat → Hp → Prop) (h0 : Pv 0 (upd H1 D (.lst []))) (hgo : ∀ i H, i < n → Pv i H → J.go i H) (hst : ∀ H, Pv n H → J.stop n H)
    (hs : ∀ i H, i < n → Pv i H → ∀ x H', J.yld i H x H' → g x (wipe σ vs) H' fun σ2 H2 => wipe σ2 vs = wipe σ vs ∧ tt σ2 H2 fun b H3 =>
      if b = true then te σ2 H3 fun y H4 => ∃ acc, H4 D = some (.lst acc) ∧ acc.length < sizeLine ∧ Pv (i + 1) (upd H4 D (.lst (acc ++ [y]))) else Pv (i + 1) H3) (hd : ∀ H, Pv n H → Qd H) :
    ∃ W : Nat → Nat → Hp → Prop, (∃ m, W 0 m (upd H1 D (.lst []))) ∧ ∀ i m H, W i m H →
      (J.stop i H ∧ Qd H) ∨ (J.go i H ∧ ∃ Nx : Hp → Prop, (∀ H', Nx H' → ∃ m', m' < m ∧ W (i + 1) m' H') ∧ ∀ x H', J.yld i H x H' → g x (wipe σ vs) H' fun σ2 H2 => wipe σ2 vs = wipe σ vs ∧ tt σ2 H2 fun b H3 =>
        if b = true then te σ2 H3 fun y H4 => ∃ acc, H4 D = some (.lst acc) ∧ acc.length < sizeLine ∧ Nx (upd H4 D (.lst (acc ++ [y]))) else Nx H3) := by
  refine ⟨fun i m H => m = n - i ∧ i ≤ n ∧ Pv i H, ⟨n, (Nat.sub_zero n).symm, Nat.zero_le _, h0⟩, ?_⟩
  rintro i m H ⟨rfl, hi, p⟩
  rcases Nat.lt_or_ge i n with c | c
  · exact .inr ⟨hgo i H c p, Pv (i + 1), fun H' p' => ⟨n - (i + 1), by omega, rfl, c, p'⟩, hs i H c p⟩
  · obtain rfl : i = n := by omega
    exact .inl ⟨hst H p, hd H p⟩
/-- a Desk that is read (its table may be locked) -/
structure DeskR (C : Addr) (H : Hp) (p d : Addr) (room : Int) (c : CM) (gone total : Int) : Prop where
  ob : ∃ dx, H p = some (.ins C dx (dfl room d gone total))
  dc : Rd H d (.dK (kvc c))
theorem DeskAt.rd {C : Addr} {H : Hp} {p d : Addr} {room : Int} {c : CM} {gone total : Int} (D : DeskAt C H p d room c gone total) : DeskR C H p d room c gone total := ⟨D.ob, .inl D.dc⟩
theorem DGet.of {H : Hp} {d : Addr} {c : CM} (h : Rd H d (.dK (kvc c))) (n : Str) : DGet H d (.str n) ((getC c n).map V.int) := .inl ⟨kvc c, Sum.inr n, h, rfl, (valV_kvc n c).symm⟩
theorem IsD.of {H : Hp} {d : Addr} {c : CM} (h : Rd H d (.dK (kvc c))) : IsD H d := .inl ⟨_, h⟩
theorem getD_map (o : Option Int) (z : Int) : (o.map V.int).getD (.int z) = .int (o.getD z) := by
  cases o <;> rfl
theorem DPut.of {H : Hp} {d : Addr} {c : CM} (h : H d = some (.dK (kvc c))) (n : Str) (v : Int) (hl : c.length < sizeLine) : DPut H d (.str n) (.int v) (upd H d (.dK (kvc (putC c n v)))) :=
  .inl ⟨kvc c, Sum.inr n, h, rfl, by rw [len_kvc]; exact hl, by rw [put_kvc]⟩
theorem small {n : Nat} (h : n ≤ 100000) : n < sizeLine := by rw [sizeLine_eq]; omega
/-! ### what a coming keeps -/
theorem minL_le : ∀ (l : List Int) (w : Int), minL w l ≤ w ∧ ∀ y ∈ l, minL w l ≤ y
  | [], w => ⟨Int.le_refl _, fun _ h => nomatch h⟩
  | a :: l, w => by
    obtain ⟨h1, h2⟩ := minL_le l (min w a)
    have e : minL w (a :: l) = minL (min w a) l := rfl
    rw [e]
    refine ⟨by omega, fun y hy => ?_⟩
    rcases List.mem_cons.mp hy with rfl | hy
    · omega
    · exact h2 y hy
theorem minL_mem : ∀ (l : List Int) (w : Int), minL w l = w ∨ minL w l ∈ l
  | [], w => .inl rfl
  | a :: l, w => by
    have e : minL w (a :: l) = minL (min w a) l := rfl
    rw [e]
    rcases minL_mem l (min w a) with h | h
    · rcases Int.le_total w a with c | c
      · left
        rw [h]
        omega
      · right
        rw [h, Int.min_eq_right c]
        exact List.mem_cons_self ..
    · exact .inr (List.mem_cons_of_mem _ h)
theorem minL_uniq {l : List Int} {w m : Int} (h1 : m = w ∨ m ∈ l) (h2 : m ≤ w) (h3 : ∀ y ∈ l, m ≤ y) : m = minL w l := by
  obtain ⟨a1, a2⟩ := minL_le l w
  rcases minL_mem l w with b | b
  · rcases h1 with c | c
    · rw [c, b]
    · have := a2 m c
      omega
  · have := h3 _ b
    rcases h1 with c | c
    · omega
    · have := a2 m c
      omega
theorem keys_put (c : CM) (n : Str) (v : Int) : keysC (putC c n v) = if hasC c n = true then keysC c else keysC c ++ [n] := by
  unfold putC
  by_cases h : hasC c n = true
  · rw [if_pos h, if_pos h]
    unfold keysC
    rw [List.map_map]
    refine List.map_congr_left fun e _ => ?_
    simp only [Function.comp]
    split <;> rfl
  · rw [if_neg h, if_neg h]
    unfold keysC
    rw [List.map_append]
    rfl
theorem has_iff (c : CM) (n : Str) : hasC c n = true ↔ n ∈ keysC c := by
  unfold hasC keysC
  rw [List.any_eq_true, List.mem_map]
  constructor
  · rintro ⟨e, he, h⟩
    exact ⟨e, he, of_decide_eq_true h⟩
  · rintro ⟨e, he, h⟩
    exact ⟨e, he, decide_eq_true h⟩
theorem put_nodup {c : CM} {n : Str} {v : Int} (h : (keysC c).Nodup) : (keysC (putC c n v)).Nodup := by
  rw [keys_put]
  split
  · exact h
  · rename_i hn
    exact nd_snoc h fun hm => hn ((has_iff c n).mpr hm)
theorem put_len (c : CM) (n : Str) (v : Int) : (putC c n v).length = if hasC c n = true then c.length else c.length + 1 := by
  have e := congrArg List.length (keys_put c n v)
  unfold keysC at e
  rw [List.length_map] at e
  rw [e]
  split <;> simp
theorem lowered_keys (c : CM) (m : Int) : (keysC (lowered c m)).Sublist (keysC c) := by
  unfold lowered keysC
  rw [List.map_map]
  exact (List.filter_sublist).map _
theorem lowered_nodup {c : CM} {m : Int} (h : (keysC c).Nodup) : (keysC (lowered c m)).Nodup := (lowered_keys c m).nodup h
theorem lowered_len (c : CM) (m : Int) : (lowered c m).length ≤ c.length := by
  unfold lowered
  rw [List.length_map]
  exact List.length_filter_le _ _
theorem lowered_lt {c : CM} {m : Int} (h : ∃ e ∈ c, e.2 ≤ m) : (lowered c m).length < c.length := by
  obtain ⟨e, he, hm⟩ := h
  unfold lowered
  rw [List.length_map]
  exact List.length_filter_lt_length_iff_exists.mpr ⟨e, he, by simp; omega⟩
theorem come_nodup {room w : Int} {c : CM} {n : Str} (h : (keysC c).Nodup) : (keysC (come room c n w).1).Nodup := by
  unfold come
  split
  · dsimp only
    split
    · exact put_nodup (lowered_nodup h)
    · exact lowered_nodup h
  · exact put_nodup h
theorem come_len {room w : Int} {c : CM} {n : Str} (h : (c.length : Int) ≤ room) : ((come room c n w).1.length : Int) ≤ room := by
  unfold come
  split
  · dsimp only
    split
    · rename_i hw
      have hl : (lowered c (minL w (valsC c))).length < c.length := by
        rcases minL_mem (valsC c) w with e | e
        · rw [e] at hw
          omega
        · unfold valsC at e
          obtain ⟨z, hz, ez⟩ := List.mem_map.mp e
          exact lowered_lt ⟨z, hz, by show z.2 ≤ minL w (valsC c); unfold valsC; omega⟩
      rw [put_len]
      split <;> omega
    · have := lowered_len c (minL w (valsC c))
      omega
  · rename_i hn
    rw [put_len]
    split
    · exact h
    · rename_i h2
      have h3 : hasC c n = false := Bool.eq_false_iff.mpr h2
      have h4 : ¬ (c.length : Int) = room := fun z => hn ⟨h3, z⟩
      omega
end DK

set_option Elab.async false
set_option linter.all false
set_option maxRecDepth 100000
set_option maxHeartbeats 4000000
namespace DK
open PySem PySem.Spec PyProof.Rows L2
/-! ### the sorted ones -/
def sle (x y : Str) : Bool := !slt y x
theorem sle_tr (a b c : Str) (h1 : sle a b = true) (h2 : sle b c = true) : sle a c = true := by
  unfold sle at *
  rw [Bool.not_eq_true'] at *
  exact slt_tr a b c h1 h2
theorem sle_tot (a b : Str) : (sle a b || sle b a) = true := by
  unfold sle
  cases h1 : slt b a with
  | false => rfl
  | true =>
    rw [slt_asym _ _ h1]
    rfl
theorem sle_anti {a b : Str} (h1 : sle a b = true) (h2 : sle b a = true) : a = b := by
  unfold sle at *
  rw [Bool.not_eq_true'] at *
  exact slt_tot a b h2 h1
def sortS (l : List Str) : List Str := l.mergeSort sle
def sortC (c : CM) : CM := c.mergeSort fun e f => sle e.1 f.1
theorem sortS_perm (l : List Str) : (sortS l).Perm l := List.mergeSort_perm _ _
theorem sortC_perm (c : CM) : (sortC c).Perm c := List.mergeSort_perm _ _
theorem sortS_asc (l : List Str) : (sortS l).Pairwise fun x y => sle x y = true := List.pairwise_mergeSort sle_tr sle_tot l
theorem sortC_asc (c : CM) : (sortC c).Pairwise fun e f => sle e.1 f.1 = true := List.pairwise_mergeSort (fun a b c => sle_tr a.1 b.1 c.1) (fun a b => sle_tot a.1 b.1) c
theorem rising_pw : ∀ (r : List Str) (p : Str), risingS p r = true → (p :: r).Pairwise fun x y => sle x y = true
  | [], p, _ => List.pairwise_singleton _ _
  | x :: r, p, h => by
    unfold risingS at h
    rw [Bool.and_eq_true] at h
    have ih := rising_pw r x h.2
    have hpx : sle p x = true := by
      have h1 := h.1
      rw [Bool.not_eq_true'] at h1
      unfold sle slt
      rw [← ltCps_eq, h1]
      rfl
    rw [List.pairwise_cons]
    refine ⟨fun y hy => ?_, ih⟩
    rcases List.mem_cons.mp hy with rfl | hy
    · exact hpx
    · exact sle_tr _ _ _ hpx ((List.pairwise_cons.mp ih).1 y hy)
theorem sortedS_pw {l : List Str} (h : sortedS l = true) : l.Pairwise fun x y => sle x y = true := by
  cases l with
  | nil => exact List.Pairwise.nil
  | cons x r => exact rising_pw r x h
theorem sortS_eq {ys xs : List Str} (p : ys.Perm xs) (h : ys.Pairwise fun x y => sle x y = true) : ys = sortS xs :=
  List.Perm.eq_of_pairwise (fun a b _ _ h1 h2 => sle_anti h1 h2) h (sortS_asc xs) (p.trans (sortS_perm xs).symm)
theorem mem_eq {c : CM} (nd : (keysC c).Nodup) {e f : Str × Int} (he : e ∈ c) (hf : f ∈ c) (h : e.1 = f.1) : e = f := by
  have := nodup_val nd e he f hf h
  exact Prod.ext h this
theorem sortC_eq {c' c : CM} (nd : (keysC c).Nodup) (p : c'.Perm c) (h : c'.Pairwise fun e f => sle e.1 f.1 = true) : c' = sortC c :=
  List.Perm.eq_of_pairwise (fun a b ha hb h1 h2 => mem_eq nd (p.mem_iff.mp ha) ((sortC_perm c).mem_iff.mp hb) (sle_anti h1 h2)) h (sortC_asc c) (p.trans (sortC_perm c).symm)
theorem sortC_asc' {c' : CM} (h : Asc c') : c'.Pairwise fun e f => sle e.1 f.1 = true :=
  h.imp fun {e f} h => by
    unfold sle
    rw [h]
    rfl
theorem perm_keys {c' c : CM} (p : c'.Perm c) : (keysC c').Perm (keysC c) := by
  unfold keysC
  exact p.map _
theorem sortC_nodup {c : CM} (nd : (keysC c).Nodup) : (keysC (sortC c)).Nodup := (perm_keys (sortC_perm c)).nodup_iff.mpr nd
theorem sortC_len (c : CM) : (sortC c).length = c.length := (sortC_perm c).length_eq
theorem merge_new : ∀ (c a : CM), (keysC (a ++ c)).Nodup → mergeK (kvc a) (kvc c) = kvc (a ++ c)
  | [], a, _ => by
    rw [List.append_nil]
    rfl
  | e :: c, a, h => by
    have e1 : mergeK (kvc a) (kvc (e :: c)) = mergeK (putK (kvc a) (Sum.inr e.1) (V.int e.2)) (kvc c) := rfl
    have hn : hasC a e.1 = false := by
      refine Bool.eq_false_iff.mpr fun hh => ?_
      have hm := (has_iff a e.1).mp hh
      unfold keysC at h hm
      rw [List.map_append, List.nodup_append] at h
      exact h.2.2 _ hm _ (by simp) rfl
    rw [e1, put_kvc]
    have e2 : putC a e.1 e.2 = a ++ [e] := by
      unfold putC
      rw [if_neg (by rw [hn]; exact Bool.false_ne_true)]
    rw [e2, merge_new c (a ++ [e]) (by rw [List.append_assoc]; exact h), List.append_assoc]
    rfl
theorem merge_kvc {c : CM} (h : (keysC c).Nodup) : mergeK [] (kvc c) = kvc c := merge_new c [] h
theorem prs_paired {K : PySem.W.Frag} {H : Hp} {ts : List Addr} {c : CM} (h : PrsAt H ts c) : Paired (fun p (kv : Key × V) => SqT K H p [kV kv.1, kv.2]) ts (kvc c) := by
  unfold PrsAt at h
  induction h with
  | nil => exact .nil
  | cons r t ih => exact .cons (SqT.of r) ih
/-- the tables that are one up to their order -/
theorem getC_mem {c : CM} (nd : (keysC c).Nodup) {n : Str} {v : Int} : getC c n = some v ↔ (n, v) ∈ c := by
  unfold getC
  constructor
  · intro h
    cases e : c.find? (fun e => decide (e.1 = n)) with
    | none => rw [e] at h; cases h
    | some z =>
      rw [e] at h
      have h1 := List.mem_of_find?_eq_some e
      have h2 := List.find?_some (p := fun e : Str × Int => decide (e.1 = n)) e
      have h3 : z.1 = n := of_decide_eq_true h2
      have h4 : z.2 = v := Option.some.inj h
      rw [← h3, ← h4]
      exact h1
  · intro h
    cases e : c.find? (fun e => decide (e.1 = n)) with
    | none =>
      have := List.find?_eq_none.mp e _ h
      simp at this
    | some z =>
      have h1 := List.mem_of_find?_eq_some e
      have h2 : z.1 = n := of_decide_eq_true (List.find?_some (p := fun e : Str × Int => decide (e.1 = n)) e)
      have : z = (n, v) := mem_eq nd h1 h h2
      rw [this]
      rfl
theorem getC_perm {c c' : CM} (nd : (keysC c).Nodup) (p : c'.Perm c) (n : Str) : getC c' n = getC c n := by
  have nd' : (keysC c').Nodup := (perm_keys p).nodup_iff.mpr nd
  cases e : getC c n with
  | some v => exact (getC_mem nd').mpr (p.mem_iff.mpr ((getC_mem nd).mp e))
  | none =>
    cases e' : getC c' n with
    | none => rfl
    | some v =>
      have := (getC_mem nd).mpr (p.mem_iff.mp ((getC_mem nd').mp e'))
      rw [e] at this
      cases this
end DK

set_option Elab.async false
set_option linter.all false
set_option maxRecDepth 100000
set_option maxHeartbeats 4000000
namespace DK
open PySem PySem.Spec PyProof.Rows L2
/-! ### texts by their codes -/
abbrev cs (z : Str) : List Nat := z.cps.toList
theorem cs_len (z : Str) : z.length = (cs z).length := by simp [Str.length, cs]
theorem cs_app (x y : Str) : cs (x ++ y) = cs x ++ cs y := by
  show (x.cps ++ y.cps).toList = _
  simp [cs]
theorem cs_mk (l : List Nat) : cs ⟨l.toArray⟩ = l := by simp [cs]
theorem cs_inj {x y : Str} (h : cs x = cs y) : x = y := cps_inj h
theorem cut_to (z : Str) (k : Nat) : cs (cutS z none (some (k : Int))) = (cs z).take k := by
  unfold cutS
  rw [cs_mk, HT.sIx_none, HT.sIx_nat, List.drop_zero, Nat.sub_zero, cs_len]
  rcases Nat.le_total k (cs z).length with h | h
  · rw [Nat.min_eq_left h]
  · rw [Nat.min_eq_right h, List.take_of_length_le (Nat.le_refl _), List.take_of_length_le h]
theorem cut_from (z : Str) (k : Nat) : cs (cutS z (some (k : Int)) none) = (cs z).drop k := by
  unfold cutS
  rw [cs_mk, HT.sIx_none, HT.sIx_nat, cs_len]
  rw [List.take_of_length_le (by rw [List.length_drop]; exact Nat.le_refl _)]
  rcases Nat.le_total k (cs z).length with h | h
  · rw [Nat.min_eq_left h]
  · rw [Nat.min_eq_right h, List.drop_of_length_le (Nat.le_refl _), List.drop_of_length_le h]
theorem letters_at (i : Int) (h0 : 0 ≤ i) (h1 : i < 26) : atI (cs letters) i = some (97 + i.toNat) := by
  have e : cs letters = [97, 98, 99, 100, 101, 102, 103, 104, 105, 106, 107, 108, 109, 110, 111, 112, 113, 114, 115, 116, 117, 118, 119, 120, 121, 122] := by decide +kernel
  obtain ⟨k, rfl⟩ : ∃ k : Nat, i = (k : Int) := ⟨i.toNat, by omega⟩
  refine atI_nat ?_
  rw [e]
  have hk : k < 26 := by omega
  have all : ∀ j : Nat, j < 26 → ([97, 98, 99, 100, 101, 102, 103, 104, 105, 106, 107, 108, 109, 110, 111, 112, 113, 114, 115, 116, 117, 118, 119, 120, 121, 122] : List Nat)[j]? = some (97 + j) := by decide +kernel
  exact all k hk
theorem isName_iff (z : Str) : isName z = true ↔ 1 ≤ (cs z).length ∧ (cs z).length ≤ 8 ∧ ∀ c ∈ cs z, 97 ≤ c ∧ c ≤ 122 := by
  unfold isName
  rw [Bool.and_eq_true, List.all_eq_true, cs_len]
  constructor
  · rintro ⟨h1, h2⟩
    have := of_decide_eq_true h1
    exact ⟨this.1, this.2, fun c hc => of_decide_eq_true (h2 c hc)⟩
  · rintro ⟨h1, h2, h3⟩
    exact ⟨decide_eq_true ⟨h1, h2⟩, fun c hc => decide_eq_true (h3 c hc)⟩
/-- text times number: the codes -/
theorem mulS_ok {z : Str} {n : Int} (hz : z.length = 1) (h1 : 1 ≤ n) (h8 : n ≤ 8) : MulOk z n := by
  refine ⟨?_, fun _ _ => ?_, fun _ _ => ?_⟩
  · rw [Bool.or_eq_false_iff]
    exact ⟨decide_eq_false (by omega), decide_eq_false (by omega)⟩
  · rw [hz]
    have : (1 : Int) ≤ (2 ^ 63 - 1) / n := by
      rw [Int.le_ediv_iff_mul_le (by omega)]
      omega
    show ¬ ((1 : Nat) : Int) > _
    omega
  · rw [hz]
    unfold Builtin.Str.tooLong
    have h2 : 1 * n.toNat ≤ 8 := by omega
    refine decide_eq_false ?_
    generalize 1 * n.toNat = k at h2
    have : sizeLine = 16777216 := sizeLine_eq
    omega
theorem mulS_cs (c : Nat) : ∀ n : Nat, 1 ≤ n → n ≤ 8 → cs (PySem.Txt.mul ⟨#[c]⟩ (n : Int)) = List.replicate n c := by
  intro n h1 h8
  have h : n = 1 ∨ n = 2 ∨ n = 3 ∨ n = 4 ∨ n = 5 ∨ n = 6 ∨ n = 7 ∨ n = 8 := by omega
  rcases h with rfl | rfl | rfl | rfl | rfl | rfl | rfl | rfl <;> rfl
/-! ### the names that a law makes -/
/-- words of 1 to 8 letters, each with its own letter at one place -/
structure NamesOk (nm : List Str) : Prop where
  ok : ∀ n ∈ nm, isName n = true
  nd : nm.Nodup
/-- the k-th word by the letter at the place a -/
structure WordAt (q : Int) (a : Nat) (k : Nat) (z : Str) : Prop where
  nm : isName z = true
  at_ : (cs z)[a]? = some (97 + ((q + 5 * (k : Int)) % 26).toNat)
theorem words_ok {q : Int} {a : Nat} {nm : List Str} (hl : nm.length ≤ 14) (h : ∀ (k : Nat) (z : Str), nm[k]? = some z → WordAt q a k z) : NamesOk nm := by
  refine ⟨fun n hn => ?_, ?_⟩
  · obtain ⟨k, hk⟩ := List.mem_iff_getElem?.mp hn
    exact (h k n hk).nm
  · refine List.pairwise_iff_getElem.mpr fun i j hi hj hij e => ?_
    have ei : nm[i]? = some nm[i] := List.getElem?_eq_getElem hi
    have ej : nm[j]? = some nm[i] := by rw [e]; exact List.getElem?_eq_getElem hj
    have a1 := (h i _ ei).at_
    have a2 := (h j _ ej).at_
    rw [a1] at a2
    have := Option.some.inj a2
    omega
end DK

set_option Elab.async false
set_option linter.all false
set_option maxRecDepth 100000
set_option maxHeartbeats 4000000
namespace DK
open PySem PySem.Spec PyProof.Rows L2
/-! ### a number in a view of values: asked by walking -/
theorem no_contains : typeLookup (.type "dict_values") "__contains__" = pure none := by rw [typeLookup_type, builtinLookup_eq_fast]; kernel_rfl
theorem plain_in_loop : plainId "proto.contains_iter" = true := by decide +kernel
theorem entry_in_loop : entryFor table "proto.contains_iter" = some Builtin.«proto.contains_iter» := entryFor_of_tree (by kernel_rfl)
theorem code_in_loop {prog : Program} {w : World} {A : Around} {R : Result → Shared → Prop} {I : Addr} {fp wr : List Addr} {n : Nat} {P : Nat → Value → Prop} {St : Nat → Heap → Prop}
    (W : Walks prog w A.in1 I fp wr n P St) (val : Nat → Int) (hval : ∀ i v, P i v → ∃ t, v = .int (val i) t) (x : Int) (tx : Tok) :
    ∀ (k i : Nat) (s : Shared), n - i = k → i ≤ n → St i s.heap →
    (∀ (r : Bool) (h' : Heap) (tk : Nat), (r = true ↔ ∃ j, i ≤ j ∧ j < n ∧ val j = x) → (∀ b o, b ∉ wr → s.heap.get? b = some o → h'.get? b = some o) → R (.ok (.ret (.bool r))) { s with heap := h', toks := tk }) →
    codeAny (model prog w) A (.builtin "proto.contains_iter" ⟨[.ref I, .int x tx], []⟩) R s := by
  intro k
  induction k with
  | zero =>
    intro i s hk hi hst hR
    have hin : i = n := by omega
    subst hin
    refine codeAny_builtin entry_in_loop ?_
    rw [Around.under_plainId plain_in_loop _]
    show wpAny _ A.in1 (pyNext (.ref I) >>= _) _ _ s
    refine wpAny_bind (W.done s _ _ hst fun h' tk hk' => ?_)
    refine wpAny_bind (wpAny_rule ?_)
    exact wpAny_pure (hR false h' tk ⟨fun h => (nomatch h), fun ⟨j, h1, h2, _⟩ => absurd h2 (by omega)⟩ hk')
  | succ k ih =>
    intro i s hk hi hst hR
    have hlt : i < n := by omega
    refine codeAny_builtin entry_in_loop ?_
    rw [Around.under_plainId plain_in_loop _]
    show wpAny _ A.in1 (pyNext (.ref I) >>= _) _ _ s
    refine wpAny_bind (W.item i s _ _ hlt hst fun v h' tk hP hst' hk' => ?_)
    obtain ⟨t, rfl⟩ := hval i v hP
    refine wpAny_bind (wpAny_eqBool_int ?_)
    by_cases c : val i = x
    · have e : (val i == x) = true := by rw [c]; exact beq_self_eq_true x
      rw [e]
      refine wpAny_bind (wpAny_rule ?_)
      exact wpAny_pure (hR true h' tk ⟨fun _ => ⟨i, Nat.le_refl _, hlt, c⟩, fun _ => rfl⟩ hk')
    · have e : (val i == x) = false := by rw [beq_eq_false_iff_ne]; exact c
      rw [e]
      refine wpAny_pure ⟨plainId_quiet plain_in_loop _, ih (i + 1) _ (by omega) hlt hst' fun r h2 tk2 hr hk2 => hR r h2 tk2 (hr.trans ⟨fun ⟨j, h1, h2, h3⟩ => ⟨j, by omega, h2, h3⟩, fun ⟨j, h1, h2, h3⟩ => ?_⟩) fun b o hb e => hk2 b o hb (hk' b o hb e)⟩
      rcases Nat.eq_or_lt_of_le h1 with z | z
      · exact absurd (z ▸ h3) c
      · exact ⟨j, z, h2, h3⟩
section
variable {X : Cx} {pins : List (Addr × Obj)} {σ : L2.St} {H : Hp} {s : Shared}
def rInV : R2 := fun x y H Q => ∃ (i : Int) (p a : Addr) (kvs : List (Key × V)) (ns : List Int), x = .int i ∧ y = .ref p ∧ H p = some (viewV p a) ∧ H a = some (.dK kvs) ∧ kvs.map (·.2) = ns.map V.int ∧ ∀ b : Bool, (b = true ↔ i ∈ ns) → Q (.bl b) H
theorem op_inV (hc : X.calm = true) : OpR X (compareOp .In) rInV := by
  intro pins s σ H x y v u Q I rx ry h
  obtain ⟨i, p, a, kvs, ns, rfl, rfl, hp, ha, hns, q⟩ := h
  obtain ⟨tx, rfl⟩ : ∃ t, v = Value.int i t := rx
  obtain rfl : u = Value.ref p := ry
  obtain ⟨vs, ep, rel, z, hl, src⟩ := src_of I hp ha
  have hln : vs.length = ns.length := by rw [← hl]; exact len_at hns
  have K := PySem.W.kdl_values (prog := X.prog) (w := X.w) (r := p) (d := a) (knd := mixKind X.prog X.w) (kvs := vs) (ep := ep)
  have hT := K.type s src
  show wpAny _ _ (contains (.ref p) (.int i tx) >>= _) _ _ s
  refine wpAny_bind ?_
  unfold contains
  refine wpAny_holding ?_
  rw [stdlibNamesSay?_of_typeIs hT]
  refine wpAny_bind (wpAny_specialOf hT no_contains ?_)
  show wpAny _ _ (if ((none : Option Value) == some Value.none) = true then _ else _) _ _ s
  rw [if_neg (by decide)]
  refine wpAny_bind (wpAny_callSpecialUnlessNone?_none hT no_contains ?_)
  refine wpAny_bind (wpAny_rule ?_)
  obtain ⟨oI, St, hit, W, st⟩ := K.iter X.A.in1 s (show X.A.in1.handled = none from I.ok.hd hc) src
  refine wpAny_bind (wpAny_tryCatch (wpAny_of_in1 (hit _ _ ?_)))
  refine wpAny_bind (wpAny_runValue ?_)
  refine code_in_loop W (fun i => ns.getD i 0) (fun i v hv => val_at rel hns hv) i tx _ 0 _ rfl (Nat.zero_le _) st fun r h' tk hr hk => ?_
  have hk2 : ∀ b o, s.heap.get? b = some o → h'.get? b = some o := fun b o e =>
    hk b o (fun hI => absurd (Heap.lt_size e) (by rw [List.mem_singleton.mp hI]; exact Nat.lt_irrefl _)) (Heap.get?_push_of_some _ e)
  refine wpAny_pure (wpAny_pure ?_)
  refine ⟨.bl r, H, I.kept hk2, rfl, q r (hr.trans ⟨fun ⟨j, _, h2, h3⟩ => ?_, fun hm => ?_⟩)⟩
  · rw [hln] at h2
    rw [List.getD_eq_getElem?_getD, List.getElem?_eq_getElem h2] at h3
    exact h3 ▸ List.getElem_mem h2
  · obtain ⟨j, h2, h3⟩ := List.getElem_of_mem hm
    exact ⟨j, Nat.zero_le _, by rw [hln]; exact h2, by rw [List.getD_eq_getElem?_getD, List.getElem?_eq_getElem h2]; exact h3⟩
end
end DK

set_option Elab.async false
set_option linter.all false
set_option maxRecDepth 100000
set_option maxHeartbeats 4000000
namespace DK
open PySem PySem.Spec PyProof.Rows L2
/-! ### a table, name by name -/
theorem getC_put (c : CM) (n : Str) (v : Int) (m : Str) : getC (putC c n v) m = if m = n then some v else getC c m := by
  unfold putC
  by_cases h : hasC c n = true
  · rw [if_pos h]
    induction c with
    | nil => cases h
    | cons e c ih =>
      rw [List.map_cons]
      by_cases he : e.1 = n
      · rw [if_pos he]
        by_cases hm : m = n
        · rw [if_pos hm]
          simp [getC, he, hm]
        · rw [if_neg hm]
          have h1 : ¬ e.1 = m := fun z => hm (z.symm.trans he)
          by_cases h2 : hasC c n = true
          · have := ih h2
            rw [if_neg hm] at this
            unfold getC at this ⊢
            rw [List.find?_cons, List.find?_cons, decide_eq_false h1]
            exact this
          · have e1 : c.map (fun e => if e.1 = n then (e.1, v) else e) = c := by
              refine (List.map_congr_left fun x hx => ?_).trans (List.map_id _)
              rw [if_neg fun z => h2 (List.any_eq_true.mpr ⟨x, hx, decide_eq_true z⟩)]
              rfl
            rw [e1]
            unfold getC
            rw [List.find?_cons, List.find?_cons, decide_eq_false h1]
      · rw [if_neg he]
        have h2 : hasC c n = true := by
          unfold hasC at h ⊢
          rw [List.any_cons, decide_eq_false he, Bool.false_or] at h
          exact h
        have := ih h2
        unfold getC at this ⊢
        rw [List.find?_cons, List.find?_cons]
        by_cases h3 : e.1 = m
        · rw [decide_eq_true h3]
          rw [if_neg fun z => he (h3.trans z)]
        · rw [decide_eq_false h3]
          exact this
  · rw [if_neg h]
    have hn : getC c n = none := by
      have := has_get n c
      rw [Bool.eq_false_iff.mpr h] at this
      cases e : getC c n with
      | none => rfl
      | some y => rw [e] at this; cases this
    unfold getC at hn ⊢
    rw [List.find?_append]
    by_cases hm : m = n
    · rw [if_pos hm, hm]
      have : (c.find? fun e => decide (e.1 = n)) = none := Option.map_eq_none_iff.mp hn
      rw [this]
      simp
    · rw [if_neg hm]
      cases e : c.find? fun e => decide (e.1 = m) with
      | some y => rfl
      | none =>
        rw [Option.none_or, List.find?_cons, decide_eq_false (fun z : n = m => hm z.symm)]
        rfl
theorem getD0_put (c : CM) (n : Str) (v : Int) (m : Str) : getD0 (putC c n v) m = if m = n then v else getD0 c m := by
  unfold getD0
  rw [getC_put]
  split <;> rfl
def sumC (c : CM) : Int := (valsC c).sum
theorem sumC_cons (e : Str × Int) (c : CM) : sumC (e :: c) = e.2 + sumC c := by
  unfold sumC valsC
  rw [List.map_cons, List.sum_cons]
theorem getC_cons_ne {e : Str × Int} {c : CM} {m : Str} (h : ¬ e.1 = m) : getC (e :: c) m = getC c m := by
  unfold getC
  rw [List.find?_cons, decide_eq_false h]
theorem getC_cons_eq {e : Str × Int} {c : CM} {m : Str} (h : e.1 = m) : getC (e :: c) m = some e.2 := by
  unfold getC
  rw [List.find?_cons, decide_eq_true h]
  rfl
theorem map_same {c : CM} {n : Str} {v : Int} (h : n ∉ keysC c) : c.map (fun e => if e.1 = n then (e.1, v) else e) = c := by
  refine (List.map_congr_left fun x hx => ?_).trans (List.map_id _)
  rw [if_neg fun z => h (List.mem_map.mpr ⟨x, hx, z⟩)]
  rfl
theorem no_key {c : CM} {n : Str} (h : hasC c n = false) : n ∉ keysC c := fun z => by
  rw [(has_iff c n).mpr z] at h
  cases h
theorem get_none {c : CM} {n : Str} (h : n ∉ keysC c) : getC c n = none := by
  have := has_get n c
  cases e : getC c n with
  | none => rfl
  | some y =>
    rw [e] at this
    exact absurd ((has_iff c n).mp this) h
theorem sum_put {c : CM} (nd : (keysC c).Nodup) (n : Str) (v : Int) : sumC (putC c n v) = sumC c - getD0 c n + v := by
  unfold putC
  by_cases h : hasC c n = true
  · rw [if_pos h]
    induction c with
    | nil => cases h
    | cons e c ih =>
      obtain ⟨n1, n2⟩ := List.nodup_cons.mp (show (e.1 :: keysC c).Nodup from nd)
      rw [List.map_cons, sumC_cons, sumC_cons]
      by_cases he : e.1 = n
      · rw [if_pos he, map_same (by rw [← he]; exact n1)]
        unfold getD0
        rw [getC_cons_eq he]
        show v + sumC c = e.2 + sumC c - e.2 + v
        omega
      · rw [if_neg he]
        have h2 : hasC c n = true := by
          unfold hasC at h ⊢
          rw [List.any_cons, decide_eq_false he, Bool.false_or] at h
          exact h
        have := ih n2 h2
        unfold getD0 at this ⊢
        rw [getC_cons_ne he]
        omega
  · rw [if_neg h]
    have e0 : getD0 c n = 0 := by
      unfold getD0
      rw [get_none (no_key (Bool.eq_false_iff.mpr h))]
      rfl
    rw [e0]
    unfold sumC valsC
    rw [List.map_append, List.sum_append]
    simp
def posC (c : CM) : Prop := ∀ e ∈ c, 0 < e.2
theorem pos_put {c : CM} {n : Str} {v : Int} (h : posC c) (hv : 0 < v) : posC (putC c n v) := by
  intro e he
  unfold putC at he
  split at he
  · obtain ⟨x, hx, rfl⟩ := List.mem_map.mp he
    split
    · exact hv
    · exact h x hx
  · rcases List.mem_append.mp he with he | he
    · exact h e he
    · rw [List.mem_singleton.mp he]
      exact hv
theorem pos_get {c : CM} (h : posC c) (n : Str) : 0 ≤ getD0 c n := by
  unfold getD0 getC
  cases e : c.find? fun e => decide (e.1 = n) with
  | none => exact Int.le_refl _
  | some x =>
    have := h x (List.mem_of_find?_eq_some e)
    show 0 ≤ x.2
    omega
theorem pos_has {c : CM} {n : Str} (h : 0 < getD0 c n) : n ∈ keysC c := by
  refine Classical.byContradiction fun z => ?_
  unfold getD0 at h
  rw [get_none z] at h
  cases h
theorem has_pos {c : CM} {n : Str} (hp : posC c) (h : n ∈ keysC c) : ∃ v, getC c n = some v ∧ 0 < v := by
  have := has_get n c
  rw [(has_iff c n).mpr h] at this
  cases e : getC c n with
  | none => rw [e] at this; cases this
  | some v =>
    refine ⟨v, rfl, ?_⟩
    unfold getC at e
    obtain ⟨x, hx, rfl⟩ := Option.map_eq_some_iff.mp e
    exact hp x (List.mem_of_find?_eq_some hx)
theorem pos_lowered {c : CM} {m : Int} : posC (lowered c m) := by
  intro e he
  unfold lowered at he
  obtain ⟨x, hx, rfl⟩ := List.mem_map.mp he
  have := of_decide_eq_true (List.mem_filter.mp hx).2
  show 0 < x.2 - m
  omega
theorem lowered_cons (e : Str × Int) (c : CM) (m : Int) : lowered (e :: c) m = if m < e.2 then (e.1, e.2 - m) :: lowered c m else lowered c m := by
  unfold lowered
  by_cases h : m < e.2
  · rw [if_pos h, List.filter_cons_of_pos (by exact decide_eq_true h), List.map_cons]
  · rw [if_neg h, List.filter_cons_of_neg (by rw [decide_eq_true_eq]; exact h)]
theorem sum_lowered {m : Int} : ∀ c : CM, (∀ e ∈ c, m ≤ e.2) → sumC (lowered c m) = sumC c - c.length * m
  | [], _ => by simp [lowered, sumC, valsC]
  | e :: c, h => by
    have ih := sum_lowered c fun x hx => h x (List.mem_cons_of_mem _ hx)
    have he := h e (List.mem_cons_self ..)
    rw [lowered_cons, sumC_cons, List.length_cons]
    have hm : ((c.length + 1 : Nat) : Int) * m = (c.length : Int) * m + m := by
      rw [Int.natCast_add, Int.add_mul]
      omega
    rw [hm]
    split
    · rw [sumC_cons, ih]
      show e.2 - m + _ = _
      omega
    · rw [ih]
      omega
/-- what a name has after the lowering -/
theorem get_lowered {c : CM} (nd : (keysC c).Nodup) (hp : posC c) {m : Int} (hm : 0 ≤ m) (n : Str) : getD0 (lowered c m) n = if m < getD0 c n then getD0 c n - m else 0 := by
  induction c with
  | nil =>
    show (0 : Int) = if m < 0 then 0 - m else 0
    rw [if_neg (by omega)]
  | cons e c ih =>
    obtain ⟨n1, n2⟩ := List.nodup_cons.mp (show (e.1 :: keysC c).Nodup from nd)
    have hp2 : posC c := fun x hx => hp x (List.mem_cons_of_mem _ hx)
    have ih := ih n2 hp2
    rw [lowered_cons]
    by_cases he : e.1 = n
    · have e1 : getD0 (e :: c) n = e.2 := by unfold getD0; rw [getC_cons_eq he]; rfl
      rw [e1]
      by_cases h : m < e.2
      · rw [if_pos h, if_pos h]
        unfold getD0
        rw [getC_cons_eq (e := (e.1, e.2 - m)) he]
        rfl
      · rw [if_neg h, if_neg h]
        have : n ∉ keysC (lowered c m) := fun z => n1 (by rw [he]; exact (lowered_keys c m).subset z)
        unfold getD0
        rw [get_none this]
        rfl
    · have e1 : getD0 (e :: c) n = getD0 c n := by unfold getD0; rw [getC_cons_ne he]
      rw [e1, ← ih]
      split
      · unfold getD0
        rw [getC_cons_ne (e := (e.1, e.2 - m)) he]
      · rfl
/-! ### the bounds, and that a coming keeps them -/
structure Bnd (room : Int) (c : CM) (gone total : Int) (t : CM) : Prop where
  nd : (keysC c).Nodup
  ln : (c.length : Int) ≤ room
  ndt : (keysC t).Nodup
  pos : posC c
  post : posC t
  g0 : 0 ≤ gone
  tot : sumC t = total
  sm : sumC c + (room + 1) * gone = total
  lo : ∀ n, getD0 c n ≤ getD0 t n
  hi : ∀ n, getD0 t n ≤ getD0 c n + gone
  few : (t.length : Int) ≤ room → gone = 0 ∧ ∀ n, getC c n = getC t n
theorem bnd_start (room : Int) (h : 1 ≤ room) : Bnd room [] 0 0 [] := ⟨List.nodup_nil, by show ((0 : Nat) : Int) ≤ room; omega, List.nodup_nil, (fun _ h => nomatch h), (fun _ h => nomatch h), Int.le_refl _, rfl, by show (0 : Int) + (room + 1) * 0 = 0; omega, fun _ => Int.le_refl _, fun _ => Int.le_refl _, fun _ => ⟨rfl, fun _ => rfl⟩⟩
theorem same_len {c t : CM} (nc : (keysC c).Nodup) (nt : (keysC t).Nodup) (h : ∀ n, getC c n = getC t n) : c.length = t.length := by
  have p : (keysC c).Perm (keysC t) := (List.perm_ext_iff_of_nodup nc nt).mpr fun n => by
    rw [← has_iff, ← has_iff, has_get, has_get, h]
  have := p.length_eq
  unfold keysC at this
  rw [List.length_map, List.length_map] at this
  exact this
theorem bnd_come {room gone total w : Int} {c t : CM} {n : Str} (B : Bnd room c gone total t) (hw : 1 ≤ w) : Bnd room (come room c n w).1 (gone + (come room c n w).2) (total + w) (putC t n (getD0 t n + w)) := by
  have t0 := pos_get B.post n
  have c0 := pos_get B.pos n
  have st : sumC (putC t n (getD0 t n + w)) = total + w := by
    rw [sum_put B.ndt, B.tot]
    omega
  have few_put : ∀ c' : CM, c' = putC c n (getD0 c n + w) → gone = 0 → (∀ m, getC c m = getC t m) → ∀ m, getC c' m = getC (putC t n (getD0 t n + w)) m := by
    rintro c' rfl g e m
    rw [getC_put, getC_put, e m]
    have : getD0 c n = getD0 t n := by unfold getD0; rw [e n]
    rw [this]
  have tl : (t.length : Int) ≤ ((putC t n (getD0 t n + w)).length : Int) := by
    rw [put_len]
    split <;> omega
  refine ⟨come_nodup B.nd, come_len B.ln, put_nodup B.ndt, ?_, pos_put B.post (by omega), ?_, st, ?_, ?_, ?_, ?_⟩
  · unfold come
    split
    · dsimp only
      split
      · refine pos_put pos_lowered ?_
        have := pos_get (pos_lowered (c := c) (m := minL w (valsC c))) n
        omega
      · exact pos_lowered
    · exact pos_put B.pos (by omega)
  all_goals unfold come
  all_goals split
  all_goals try dsimp only
  -- what is lost
  · rename_i h
    have := B.g0
    rcases minL_mem (valsC c) w with e | e
    · omega
    · unfold valsC at e
      obtain ⟨z, hz, ez⟩ := List.mem_map.mp e
      have := B.pos z hz
      unfold valsC
      omega
  · have := B.g0
    omega
  -- the sum
  · rename_i h
    obtain ⟨l1, l2⟩ := minL_le (valsC c) w
    generalize hmm : minL w (valsC c) = mm at l1 l2 ⊢
    have hk := no_key h.1
    have s1 := sum_lowered (m := mm) c fun e he => l2 e.2 (List.mem_map_of_mem he)
    rw [h.2] at s1
    have e0 : getD0 (lowered c mm) n = 0 := by
      unfold getD0
      rw [get_none fun z => hk ((lowered_keys c mm).subset z)]
      rfl
    have e1 : (room + 1) * (gone + mm) = (room + 1) * gone + room * mm + mm := by
      rw [Int.mul_add, Int.add_mul room 1 mm]
      omega
    have sm := B.sm
    rw [e1]
    split
    · rw [sum_put (lowered_nodup B.nd), s1, e0]
      omega
    · rw [s1]
      omega
  · rw [sum_put B.nd]
    have := B.sm
    rw [show gone + 0 = gone by omega]
    omega
  -- from below
  · rename_i h
    intro m
    obtain ⟨l1, l2⟩ := minL_le (valsC c) w
    have m0 : 0 ≤ minL w (valsC c) := by
      rcases minL_mem (valsC c) w with e | e
      · omega
      · unfold valsC at e
        obtain ⟨z, hz, ez⟩ := List.mem_map.mp e
        have := B.pos z hz
        unfold valsC
        omega
    generalize minL w (valsC c) = mm at l1 l2 m0 ⊢
    have hk := no_key h.1
    have e0 : getD0 (lowered c mm) n = 0 := by
      unfold getD0
      rw [get_none fun z => hk ((lowered_keys c mm).subset z)]
      rfl
    have gl := get_lowered B.nd B.pos m0 m
    have lo := B.lo m
    have pm := pos_get B.pos m
    by_cases hmn : m = n
    · subst hmn
      split
      · rw [getD0_put, getD0_put, e0, if_pos rfl, if_pos rfl]
        omega
      · rw [getD0_put, e0, if_pos rfl]
        omega
    · split
      · rw [getD0_put, getD0_put, if_neg hmn, if_neg hmn, gl]
        split <;> omega
      · rw [getD0_put, if_neg hmn, gl]
        split <;> omega
  · intro m
    rw [getD0_put, getD0_put]
    have := B.lo m
    have := B.lo n
    split <;> omega
  -- from above
  · rename_i h
    intro m
    obtain ⟨l1, l2⟩ := minL_le (valsC c) w
    have m0 : 0 ≤ minL w (valsC c) := by
      rcases minL_mem (valsC c) w with e | e
      · omega
      · unfold valsC at e
        obtain ⟨z, hz, ez⟩ := List.mem_map.mp e
        have := B.pos z hz
        unfold valsC
        omega
    generalize minL w (valsC c) = mm at l1 l2 m0 ⊢
    have hk := no_key h.1
    have e0 : getD0 (lowered c mm) n = 0 := by
      unfold getD0
      rw [get_none fun z => hk ((lowered_keys c mm).subset z)]
      rfl
    have ec : getD0 c n = 0 := by
      unfold getD0
      rw [get_none hk]
      rfl
    have gl := get_lowered B.nd B.pos m0 m
    have hi := B.hi m
    have hin := B.hi n
    have pm := pos_get B.pos m
    by_cases hmn : m = n
    · subst hmn
      split
      · rw [getD0_put, getD0_put, e0, if_pos rfl, if_pos rfl]
        omega
      · rw [getD0_put, e0, if_pos rfl]
        omega
    · split
      · rw [getD0_put, getD0_put, if_neg hmn, if_neg hmn, gl]
        split <;> omega
      · rw [getD0_put, if_neg hmn, gl]
        split <;> omega
  · intro m
    rw [getD0_put, getD0_put]
    have := B.hi m
    have := B.hi n
    split <;> omega
  -- few names
  · rename_i h
    intro hf
    obtain ⟨g, e⟩ := B.few (by omega)
    have sl := same_len B.nd B.ndt e
    have hnt : hasC t n = false := by
      rw [has_get, ← e n, ← has_get]
      exact h.1
    rw [put_len, hnt, if_neg (by decide)] at hf
    have := h.2
    omega
  · intro hf
    obtain ⟨g, e⟩ := B.few (by omega)
    exact ⟨by omega, few_put _ rfl g e⟩
/-! ### what a law asks of the bounds -/
theorem heavy_in {room gone total : Int} {c t : CM} (B : Bnd room c gone total t) {n : Str} (hr : 1 ≤ room) (h : total < getD0 t n * (room + 1)) : n ∈ keysC c ∧ total < (getD0 c n + gone) * (room + 1) := by
  have hi := B.hi n
  have p0 : ∀ e ∈ c, 0 < e.2 := B.pos
  have s0 : 0 ≤ sumC c := by
    have : ∀ c : CM, posC c → 0 ≤ sumC c := by
      intro c
      induction c with
      | nil => intro _; exact Int.le_refl _
      | cons e c ih =>
        intro hp
        rw [sumC_cons]
        have := ih fun x hx => hp x (List.mem_cons_of_mem _ hx)
        have := hp e (List.mem_cons_self ..)
        omega
    exact this c B.pos
  have h2 : getD0 t n * (room + 1) ≤ (getD0 c n + gone) * (room + 1) := Int.mul_le_mul_of_nonneg_right hi (by omega)
  refine ⟨Classical.byContradiction fun z => ?_, by omega⟩
  have e0 : getD0 c n = 0 := by
    unfold getD0
    rw [get_none z]
    rfl
  rw [e0, Int.zero_add, Int.mul_comm gone] at h2
  have := B.sm
  omega
theorem sure_in {room gone total : Int} {c t : CM} (B : Bnd room c gone total t) {n : Str} (hr : 1 ≤ room) (hk : n ∈ keysC c) (h : total < (getD0 c n + 0) * (room + 1)) : n ∈ keysC t ∧ total < getD0 t n * (room + 1) := by
  have lo := B.lo n
  rw [Int.add_zero] at h
  have h2 : getD0 c n * (room + 1) ≤ getD0 t n * (room + 1) := Int.mul_le_mul_of_nonneg_right lo (by omega)
  obtain ⟨v, hv, hv0⟩ := has_pos B.pos hk
  have e : getD0 c n = v := by unfold getD0; rw [hv]; rfl
  exact ⟨pos_has (by omega), by omega⟩
theorem inV_str (n : Str) (l : List Str) : inV (.str n) (l.map V.str) = true ↔ n ∈ l := by
  unfold inV
  rw [List.any_map, List.any_eq_true]
  constructor
  · rintro ⟨x, hx, h⟩
    have : (x == n) = true := h
    rw [← eq_of_beq this]
    exact hx
  · intro h
    exact ⟨n, h, beq_self_eq_true n⟩
theorem flat_strs (l : List Str) : (l.map V.str).all flatV = true := by
  rw [List.all_map, List.all_eq_true]
  intro x _
  rfl
end DK

set_option Elab.async false
set_option linter.all false
set_option maxRecDepth 100000
set_option maxHeartbeats 4000000
namespace DK
open PySem PySem.Spec PyProof.Rows L2
/-! ### a caught exception that is held on by a name -/
/-- an exception of the class cls stands at a, nobody throws it any more -/
def Held (cls : Value) (d : Option Addr) (a : Addr) : HO := .ext fun h => ∃ (oe : Obj) (vs : Array Value), h.get? a = some oe ∧ Zc cls d oe ∧ oe.data = .fields vs
theorem held_ok {P : Program} {w : World} {H : Hp} {h : Heap} {a : Addr} {cls : Value} {d : Option Addr} {oe : Obj} {vs : Array Value} (e : h.get? a = some oe) (z : Zc cls d oe) (hd : oe.data = .fields vs) : ObjOk P w H h a (Held cls d a) :=
  ⟨⟨oe, vs, e, z, hd⟩, ⟨oe, e⟩, fun _ _ ⟨o, v, q, r⟩ k => ⟨o, v, k o q, r⟩⟩
section
variable {X : Cx} {pins : List (Addr × Obj)} {σ : L2.St} {H : Hp} {s : Shared}
/-- what the heap holds beside, new since the entry, may be tracked from here on -/
theorem beside {a : Addr} {cls : Value} {d : Option Addr} {oe : Obj} {vs : Array Value} (I : Inv X pins σ H s) (there : s.heap.get? a = some oe) (z : Zc cls d oe) (flds : oe.data = .fields vs) (na : H a = none)
    (fresh : X.s_0.heap.get? a = none) (apart : ∀ p ∈ X.pn ++ pins, p.1 ≠ a) (nL : X.env.locals ≠ a) (nC : ∀ x c, X.env.cells.lookup x = some c → c ≠ a) : Inv X pins σ (upd H a (Held cls d a)) s := by
  have old : ∀ (b : Addr) (o : Obj), X.s_0.heap.get? b = some o → b ≠ a := by
    intro b o e same
    rw [same, fresh] at e
    exact nomatch e
  have other : ∀ {b : Addr} {o : HO}, H b = some o → b ≠ a := by
    intro b o e same
    rw [same, na] at e
    exact nomatch e
  refine { ok := I.ok, os := I.os, bare := I.bare, base := ?base, loc := I.loc, cell := I.cell, free := ?free, freeC := ?freeC, pin := ?pin, hok := ?hok, len := I.len }
  case base =>
    refine { keep := I.base.keep, slot := I.base.slot, free := ?_, there := I.base.there, tups := ?_, frzs := ?_, tbls := ?_ }
    · intro b o e n hx
      rw [upd_ne (old b o e)]
      exact I.base.free b o e n hx
    · intro b xs e
      have now := I.base.tups b xs e
      rw [upd_ne (other now)]
      exact now
    · intro b o u e
      have now := I.base.frzs b o u e
      rw [upd_ne (other now)]
      exact now
    · intro b ps e
      obtain ⟨more, now⟩ := I.base.tbls b ps e
      refine ⟨more, ?_⟩
      rw [upd_ne (other now)]
      exact now
  case free =>
    rw [upd_ne nL]
    exact I.free
  case freeC =>
    intro x c e
    rw [upd_ne (nC x c e)]
    exact I.freeC x c e
  case pin =>
    intro p hp
    obtain ⟨h1, h2, h3⟩ := I.pin p hp
    refine ⟨h1, ?_, h3⟩
    rw [upd_ne (apart p hp)]
    exact h2
  case hok =>
    intro b o e
    by_cases same : b = a
    · subst same
      rw [upd_same] at e
      obtain rfl := Option.some.inj e
      exact held_ok there z flds
    · rw [upd_ne same] at e
      refine (I.hok b o e).stay (fun _ _ _ q => q) (fun c q => ?_) (fun c xs q => ?_)
      · rw [upd_ne (other q)]
        exact q
      · rw [upd_ne (other q)]
        exact q
end
/-- what 'except x as n: y = n' wishes: slot i is n's, slot j is y's -/
def wHold (K : PySem.W.Frag) (len : Nat) (c : Value) (i j : Nat) (Wout : WX) (D : Ends) : WX := fun cls d σ H =>
  ∃ b, PySem.W.exmOne K cls c = some b ∧ (b = true → ∀ a, H a = none → σ.length = len → D.nx (((σ.set i (some (.ref a))).set j (some (.ref a))).set i none) (upd H a (Held cls d a))) ∧ (b = false → Wout cls d σ H)
section
variable {X : Cx} {x n y : Str} {c : Value} {i j : Nat} {body : List Stmt} {np pos pos' : Pos} {tb : WX → TS} {Wout : WX} {st : Stmt}
theorem ps_try_hold (hstack : X.stack = X.env :: X.outer) (hframe : X.env.frame = some X.env.locals) (hex : X.ex = []) (hN : X.N.Nodup) (hi : X.N[i]? = some n) (hlocal : X.env.kindOf n = some .local) (hname : Names X x c) (tk : Takes X Wout)
    (hbody : ∀ (W : WX) (pn : List (Addr × Obj)) (xe : Value → Shared → Prop), Takes (X.tr pn xe) W → PassesOwn (model X.prog X.w) X.A X.env xe → PSs (X.tr pn xe) body (tb W))
    (hsuite : ∀ (a : Addr) (pn : List (Addr × Obj)), PSs (X.suite a pn) [st] (tAsg (tVar i) (gName j))) :
    PS X (.Try body [.ExceptHandler (some (.Name x np)) (some n) [st] pos'] [] [] pos) (fun D σ H => tb (wHold X.K X.N.length c i j Wout D) D σ H) := by
  refine ⟨fun pins s σ H D I h => ?_⟩
  have ok := I.ok
  have frames : X.A.frames = some (X.env :: X.outer) := by rw [ok.frames, hstack]
  let caught : Value → Shared → Prop := fun e s₁ => wpAny (model X.prog X.w) X.A (noteFrame e X.env) (fun _ s₂ => wpAny (model X.prog X.w) X.A (setFlight e none)
    (fun _ s₃ => wpAny (model X.prog X.w) X.A (handleBy e X.env [.ExceptHandler (some (.Name x np)) (some n) [st] pos']) (SP X pins D) X.xe s₃) X.xe s₂) X.xe s₁
  refine wpAny_Try_except (wpAny_mono ((hbody (wHold X.K X.N.length c i j Wout D) (X.pn ++ pins) caught ?takes PassesOwn.looking).run [] s σ H D (I.toTry _) h) ?flows fun _ _ z => z)
  case flows =>
    intro f s1 ended
    cases f with
    | next =>
      obtain ⟨σ', H', J, q⟩ := ended
      exact wpAny_execs_nil ⟨σ', H', J.ofTry ok, q⟩
    | brk =>
      obtain ⟨σ', H', J, q⟩ := ended
      exact ⟨σ', H', J.ofTry ok, q⟩
    | cont =>
      obtain ⟨σ', H', J, q⟩ := ended
      exact ⟨σ', H', J.ofTry ok, q⟩
    | ret u =>
      obtain ⟨v, σ', H', J, r, q⟩ := ended
      exact ⟨v, σ', H', J.ofTry ok, r, q⟩
  case takes =>
    rintro u s' ⟨a, B, sI, pinsI, σ', H', cls, d, rfl, J, ground, upto, sky, na, os, bare, b, hasked, hyes, hno⟩
    have J : Inv X pins σ' H' sI := J.ofTry ok
    have sky : Sky B (X.env :: X.outer) a (Zc cls d) X.env.locals s'.heap := by
      rw [← hstack]
      exact sky
    show wpAny (model X.prog X.w) X.A (noteFrame (.ref a) X.env) _ _ _
    refine Sky.land Zc.steady frames hframe sky fun h3 fly3 up3 => ?_
    have all3 := upto.trans up3
    have J3 : Inv X pins σ' H' { s' with heap := h3 } := J.landed ground fly3.1 all3 os bare
    obtain ⟨oe3, vs3, he3, hz3, hd3⟩ := fly3.there
    have notFrame : a ∉ frs (X.env :: X.outer) := by
      intro hm
      obtain ⟨_, o2, e2, no⟩ := fly3.2.2.1.mem hm
      rw [he3] at e2
      obtain rfl := Option.some.inj e2
      exact no _ hd3
    have unborn : sI.heap.get? a = none := by
      cases e : sI.heap.get? a with
      | none => rfl
      | some o =>
        have inB := ground a o e (by rw [hstack]; exact notFrame)
        rw [fly3.2.1] at inB
        exact nomatch inB
    have fresh : X.s_0.heap.get? a = none := by
      cases e : X.s_0.heap.get? a with
      | none => rfl
      | some o =>
        obtain ⟨o2, e2⟩ := J.base.there a o e (by rw [hex]; exact fun z => nomatch z)
        rw [unborn] at e2
        exact nomatch e2
    have apart : ∀ p ∈ X.pn ++ pins, p.1 ≠ a := by
      intro p hp same
      have born := (J.pin p hp).1
      rw [same, unborn] at born
      exact nomatch born
    have nL : X.env.locals ≠ a := by
      intro same
      refine notFrame (List.mem_filterMap.mpr ⟨X.env, List.mem_cons_self, ?_⟩)
      rw [hframe, same]
    have nF : a ∉ X.fs := by
      intro hm
      obtain ⟨e, he, q⟩ := List.mem_filterMap.mp hm
      exact notFrame (List.mem_filterMap.mpr ⟨e, List.mem_cons_of_mem _ he, q⟩)
    have nC : ∀ x c, X.env.cells.lookup x = some c → c ≠ a := by
      intro x c e same
      obtain ⟨v, o, ho, _⟩ := J.cell x c e
      rw [same, unborn] at ho
      exact nomatch ho
    have in3 := J3.suite he3 hd3 na (Ne.symm nL) nF
    refine wpAny_handleBy_cons (codeAny_handlers_test ?_) (by intro q; cases q)
    have kind : PySem.W.Looks (model X.prog X.w) h3 (typeOf (.ref a)) cls := by
      intro A Q E s keeps q
      refine wpAny_typeOf_ref (keeps _ _ he3) ?_
      rw [hz3.1]
      exact q
    have answer := PySem.W.exm_one (M := model X.prog X.w) J3.kIn kind hasked
    have named : ∀ {Q : Value → Shared → Prop} {E : Value → Shared → Prop}, Q c { s' with heap := h3 } →
        wpAny (model X.prog X.w) (X.A.mark (some (.ref a))) (eval (.Name x np) X.env) Q E { s' with heap := h3 } := by
      intro Q E q
      obtain ⟨hg, hdbg, found | ⟨unfound, built, notName⟩⟩ := hname
      · exact ld_glob (X := X.suite a ((a, oe3) :: (X.pn ++ pins))) in3 hg found q hdbg
      · exact ld_blt (X := X.suite a ((a, oe3) :: (X.pn ++ pins))) in3 hg unfound built q notName hdbg
    refine named (answer.here ?_)
    cases b with
    | true =>
      refine codeAny_handlers_suite_as (HandSPX.lands_againZ fly3 fun h4 fly4 up4 => ?_)
      have J4 : Inv X pins σ' H' { s' with heap := h4 } := J.landed ground fly4.1 (all3.trans up4) os bare
      obtain ⟨oe4, vs4, he4, hz4, hd4⟩ := fly4.there
      have in4 := J4.suite he4 hd4 na (Ne.symm nL) nF
      refine store_ok (X := X.suite a ((a, oe4) :: (X.pn ++ pins))) (v := .ref a) in4 hN hi (.inl hlocal) rfl (fun s5 in5 => ?_) (.inr hlocal)
      have inside : i < σ'.length := by
        rw [J4.len]
        exact (List.getElem?_eq_some_iff.mp hi).1
      have start : tAsg (tVar i) (gName j) { nx := fun σ6 H6 => σ6 = (σ'.set i (some (.ref a))).set j (some (.ref a)) ∧ H6 = H', rt := fun _ _ => False } (σ'.set i (some (.ref a))) H' :=
        ⟨.ref a, List.getElem?_set_self inside, rfl, rfl⟩
      refine wpAny_mono ((hsuite a ((a, oe4) :: (X.pn ++ pins))).run [] s5 _ H' _ in5 start) (fun f s6 ended => ?_) (fun _ _ z => False.elim z)
      cases f with
      | next =>
        obtain ⟨σ6, H6, in6, rfl, rfl⟩ := ended
        have pinned := in6.pin (a, oe4) (List.mem_append_left _ (List.mem_cons_self ..))
        have J6 := beside (in6.unsuite ok) pinned.1 hz4 hd4 pinned.2.1 fresh apart nL nC
        exact gone_ok J6 hN hi hlocal fun s7 J7 => ⟨_, _, J7, hyes rfl a na J4.len⟩
      | brk =>
        obtain ⟨_, _, _, z⟩ := ended
        exact z.elim
      | cont =>
        obtain ⟨_, _, _, z⟩ := ended
        exact z.elim
      | ret u =>
        obtain ⟨_, _, _, _, _, z⟩ := ended
        exact z.elim
    | false =>
      show wpAny _ X.A (handleBy (.ref a) X.env []) _ _ _
      refine wpAny_handleBy_nil ?_
      obtain ⟨_, _, _, oe, vs, T, oT, ts, he, hz, hd, h1, hr⟩ := id fly3
      have on : wpAny (model X.prog X.w) X.A (setFlight (.ref a) X.env.frame) (fun _ s4 => wpAny (model X.prog X.w) X.A (throw (.ref a) : Sem Flow) (SP X pins D) X.xe s4) X.xe { s' with heap := h3 } := by
        rw [hframe]
        refine HandSPX.setFlight_upZ fly3 fun h4 held4 up4 => wpAny_throw (tk _ _ ⟨a, B, sI, pins, σ', H', cls, d, rfl, J, ground, all3.trans up4, ?_, na, os, bare, hno rfl⟩)
        rw [hstack]
        exact .inr (.inr held4)
      unfold PySem.passOn
      refine wpAny_bind (wpAny_field he hd h1 ?_)
      have some' : ¬ ((Value.ref T == Value.none) = true) := by simp
      rw [if_neg some']
      first
        | exact wpAny_bind (wpAny_pure (wpAny_bind on))
        | exact wpAny_bind on
end
/-! ### isinstance of such an exception -/
/-- isinstance(e, c) -/
def rIsX (K : PySem.W.Frag) : List V → Hp → VK → Prop := fun xs H Q => ∃ (a D : Addr) (c : V) (cv : Value) (b : Bool), xs = [.ref a, c] ∧ H a = some (Held (.ref D) none a) ∧ ExcC K D ∧ ClsV c cv ∧ PySem.W.kitOne K (.ref D) cv = some b ∧ Q (.bl b) H
/-- isinstance(e, (c1, c2, ..)) -/
def rIsXT (K : PySem.W.Frag) : List V → Hp → VK → Prop := fun xs H Q => ∃ (a D tp : Addr) (cs : List V) (us : List Value) (b : Bool), xs = [.ref a, .ref tp] ∧ H a = some (Held (.ref D) none a) ∧ H tp = some (.tup cs) ∧ ExcC K D ∧ Paired ClsV cs us ∧ PySem.W.kitAny K (.ref D) us = some b ∧ Q (.bl b) H
section
variable {X : Cx} {pins : List (Addr × Obj)} {σ : L2.St} {H : Hp} {s : Shared}
theorem held_at {a D : Addr} (I : Inv X pins σ H s) (h : H a = some (Held (.ref D) none a)) : ∃ oe, PySem.W.InstAt s.heap a oe D none := by
  obtain ⟨⟨oc, od, dat, sl⟩, vs, e, ⟨z1, z2⟩, hd⟩ := (show ObjOk X.prog X.w H s.heap a (Held (.ref D) none a) from I.hok a _ h).1
  dsimp only at z1 z2 hd
  subst z1 z2 hd
  exact ⟨_, e, rfl, rfl, trivial⟩
theorem call_isX : CallR X (.builtin "isinstance") (rIsX X.K) := by
  intro pins s σ H xs us Q I r h
  obtain ⟨a, D, c, cv, b, rfl, ha, C, k, e, q⟩ := h
  obtain ⟨u1, u2, rfl, r1, r2⟩ := vals2 r
  obtain rfl : u1 = Value.ref a := r1
  obtain rfl := k.eq r2
  obtain ⟨oe, J⟩ := held_at I ha
  exact PySem.W.kia_one (PySem.W.handS_kitx_exc C.hg C.hk C.hs C.hd C.ha C.hn C.ht C.hm) I.kIn J e (fun z => nomatch z) fun tk => ⟨.bl b, H, I.tok tk, rfl, q⟩
theorem call_isXT : CallR X (.builtin "isinstance") (rIsXT X.K) := by
  intro pins s σ H xs us Q I r h
  obtain ⟨a, D, tp, cs, ws, b, rfl, ha, hT, C, k, e, q⟩ := h
  obtain ⟨u1, u2, rfl, r1, r2⟩ := vals2 r
  obtain rfl : u1 = Value.ref a := r1
  obtain rfl : u2 = Value.ref tp := r2
  obtain ⟨oe, J⟩ := held_at I ha
  obtain ⟨_, its, rv, ⟨oc, od, dt, sl⟩, h1, h2, n, h3⟩ := (show ObjOk X.prog X.w H s.heap tp (.tup cs) from I.hok tp _ hT)
  obtain rfl := ClsV.all k rv
  dsimp only at h2 h3
  subst h2 h3
  exact PySem.W.kia_tup (PySem.W.handS_kitx_exc C.hg C.hk C.hs C.hd C.ha C.hn C.ht C.hm) I.kIn J h1 e (fun z => nomatch z) fun tk => ⟨.bl b, H, I.tok tk, rfl, q⟩
end
end DK

set_option Elab.async false
set_option linter.all false
set_option maxRecDepth 100000
set_option maxHeartbeats 4000000
namespace DK
open PySem PySem.Spec PyProof.Rows L2
/-! ### what is taken from every count, where more names stand than drawers -/
def ige (x y : Int) : Bool := decide (y ≤ x)
/-- falling -/
def falls (l : List Int) : List Int := l.mergeSort ige
theorem falls_perm (l : List Int) : (falls l).Perm l := List.mergeSort_perm _ _
theorem ige_tr (a b c : Int) (h1 : ige a b = true) (h2 : ige b c = true) : ige a c = true := decide_eq_true (Int.le_trans (of_decide_eq_true h2) (of_decide_eq_true h1))
theorem ige_tot (a b : Int) : (ige a b || ige b a) = true := by
  rw [Bool.or_eq_true]
  rcases Int.le_total a b with h | h
  · exact .inr (decide_eq_true h)
  · exact .inl (decide_eq_true h)
theorem falls_pw (l : List Int) : (falls l).Pairwise fun x y => ige x y = true := List.pairwise_mergeSort ige_tr ige_tot l
theorem falls_eq {ys l : List Int} (p : ys.Perm l) (h : ys.Pairwise (· ≥ ·)) : ys = falls l :=
  (p.trans (falls_perm l).symm).eq_of_pairwise (le := fun x y => x ≥ y) (fun a b _ _ h1 h2 => Int.le_antisymm h2 h1) h ((falls_pw l).imp fun h => of_decide_eq_true h)
def cutAt (room : Int) (c : CM) : Int := if room < (c.length : Int) then (falls (valsC c)).getD room.toNat 0 else 0
theorem vals_len (c : CM) : (valsC c).length = c.length := by unfold valsC; rw [List.length_map]
theorem falls_len (c : CM) : (falls (valsC c)).length = c.length := by rw [(falls_perm _).length_eq, vals_len]
theorem cut_at {room : Int} {c : CM} (h0 : 0 ≤ room) (h : room < (c.length : Int)) : (falls (valsC c))[room.toNat]? = some (cutAt room c) := by
  unfold cutAt
  rw [if_pos h, List.getD_eq_getElem?_getD]
  have hl : room.toNat < (falls (valsC c)).length := by rw [falls_len]; omega
  rw [List.getElem?_eq_getElem hl]
  rfl
theorem cut_pos {room : Int} {c : CM} (h0 : 0 ≤ room) (hp : posC c) : 0 ≤ cutAt room c := by
  by_cases h : room < (c.length : Int)
  · have hm := List.mem_of_getElem? (cut_at h0 h)
    obtain ⟨e, he, h1⟩ := List.mem_map.mp ((falls_perm _).mem_iff.mp hm)
    have := hp e he
    omega
  · unfold cutAt
    rw [if_neg h]
    exact Int.le_refl _
/-- no more stand behind than there are drawers -/
theorem cut_len {room : Int} {c : CM} (h0 : 0 ≤ room) : ((lowered c (cutAt room c)).length : Int) ≤ room := by
  by_cases h : room < (c.length : Int)
  · have hm := cut_at h0 h
    generalize cutAt room c = m at hm
    have e1 : (lowered c m).length = ((valsC c).filter fun x => decide (m < x)).length := by
      unfold lowered valsC
      rw [List.length_map, List.filter_map, List.length_map]
      rfl
    have e2 := ((falls_perm (valsC c)).filter fun x => decide (m < x)).length_eq
    have split : falls (valsC c) = (falls (valsC c)).take room.toNat ++ (falls (valsC c)).drop room.toNat := (List.take_append_drop _ _).symm
    have dropNil : ((falls (valsC c)).drop room.toNat).filter (fun x => decide (m < x)) = [] := by
      rw [List.filter_eq_nil_iff]
      intro x hx hlt
      have hlt := of_decide_eq_true hlt
      obtain ⟨k, hk⟩ := List.mem_iff_getElem?.mp hx
      rw [List.getElem?_drop] at hk
      obtain ⟨hr, er⟩ := List.getElem?_eq_some_iff.mp hm
      obtain ⟨hj, ej⟩ := List.getElem?_eq_some_iff.mp hk
      by_cases hk0 : k = 0
      · subst hk0
        simp only [Nat.add_zero] at ej
        rw [er] at ej
        omega
      · have := of_decide_eq_true (List.pairwise_iff_getElem.mp (falls_pw (valsC c)) room.toNat (room.toNat + k) hr hj (by omega))
        rw [er, ej] at this
        omega
    rw [split, List.filter_append, dropNil, List.append_nil] at e2
    have l1 := List.length_filter_le (fun x => decide (m < x)) ((falls (valsC c)).take room.toNat)
    rw [List.length_take] at l1
    omega
  · have := lowered_len c (cutAt room c)
    omega
theorem lowered_zero {c : CM} (hp : posC c) : lowered c 0 = c := by
  induction c with
  | nil => rfl
  | cons e c ih =>
    rw [lowered_cons, if_pos (hp e (List.mem_cons_self ..)), ih fun x hx => hp x (List.mem_cons_of_mem _ hx)]
    rw [Int.sub_zero]
theorem cut_few {room : Int} {c : CM} (h : ¬ room < (c.length : Int)) : cutAt room c = 0 := by
  unfold cutAt
  rw [if_neg h]
/-! ### the order of a table does not matter -/
theorem perm_of_get {a b : CM} (na : (keysC a).Nodup) (nb : (keysC b).Nodup) (h : ∀ n, getC a n = getC b n) : a.Perm b := by
  have of : ∀ l : CM, (keysC l).Nodup → l.Nodup := fun l h => List.Pairwise.imp (fun h e => h (by rw [e])) (List.pairwise_map.mp h)
  have da := of a na
  have db := of b nb
  refine (List.perm_ext_iff_of_nodup da db).mpr fun e => ?_
  obtain ⟨n, v⟩ := e
  rw [← getC_mem na, ← getC_mem nb, h]
theorem vals_perm {a b : CM} (p : a.Perm b) : (valsC a).Perm (valsC b) := p.map _
theorem cut_perm {room : Int} {a b : CM} (p : a.Perm b) : cutAt room a = cutAt room b := by
  have e : falls (valsC a) = falls (valsC b) := falls_eq ((falls_perm _).trans (vals_perm p)) ((falls_pw _).imp fun h => of_decide_eq_true h)
  unfold cutAt
  rw [p.length_eq, e]
theorem lowered_perm {a b : CM} (p : a.Perm b) (m : Int) : (lowered a m).Perm (lowered b m) := (p.filter _).map _
theorem pos_perm {a b : CM} (p : a.Perm b) (h : posC b) : posC a := fun e he => h e (p.mem_iff.mp he)
theorem nodup_perm {a b : CM} (p : a.Perm b) (h : (keysC b).Nodup) : (keysC a).Nodup := (perm_keys p).nodup_iff.mpr h
theorem put_perm {a b : CM} (nb : (keysC b).Nodup) (p : a.Perm b) (n : Str) (v : Int) : (putC a n v).Perm (putC b n v) :=
  perm_of_get (put_nodup (nodup_perm p nb)) (put_nodup nb) fun m => by rw [getC_put, getC_put, getC_perm nb p]
theorem minL_perm {a b : List Int} (p : a.Perm b) (w : Int) : minL w a = minL w b := by
  obtain ⟨h1, h2⟩ := minL_le a w
  refine minL_uniq ?_ h1 fun y hy => h2 y (p.mem_iff.mpr hy)
  rcases minL_mem a w with h | h
  · exact .inl h
  · exact .inr (p.mem_iff.mp h)
theorem has_perm {a b : CM} (p : a.Perm b) (n : Str) : hasC a n = hasC b n := by
  rw [Bool.eq_iff_iff, has_iff, has_iff]
  exact (perm_keys p).mem_iff
theorem getD0_perm {a b : CM} (nb : (keysC b).Nodup) (p : a.Perm b) (n : Str) : getD0 a n = getD0 b n := by
  unfold getD0
  rw [getC_perm nb p]
theorem come_perm {a b : CM} (nb : (keysC b).Nodup) (p : a.Perm b) (room : Int) (n : Str) (w : Int) : (come room a n w).1.Perm (come room b n w).1 ∧ (come room a n w).2 = (come room b n w).2 := by
  have e1 := has_perm p n
  have e2 := p.length_eq
  have e3 := minL_perm (vals_perm p) w
  unfold come
  rw [e1, e2, e3]
  split
  · dsimp only
    refine ⟨?_, rfl⟩
    have pl := lowered_perm p (minL w (valsC b))
    rw [getD0_perm (lowered_nodup nb) pl]
    split
    · exact put_perm (lowered_nodup nb) pl n _
    · exact pl
  · rw [getD0_perm nb p]
    exact ⟨put_perm nb p n _, rfl⟩
theorem pos_come {room w : Int} {c : CM} {n : Str} (hp : posC c) (hw : 0 < w) : posC (come room c n w).1 := by
  unfold come
  split
  · dsimp only
    split
    · refine pos_put pos_lowered ?_
      have := pos_get (pos_lowered (c := c) (m := minL w (valsC c))) n
      omega
    · exact pos_lowered
  · refine pos_put hp ?_
    have := pos_get hp n
    omega
/-! ### one table poured into another -/
def addC (a b : CM) : CM := b.foldl (fun acc e => putC acc e.1 (getD0 acc e.1 + e.2)) a
theorem add_nodup : ∀ (b : CM) {a : CM}, (keysC a).Nodup → (keysC (addC a b)).Nodup
  | [], _, h => h
  | e :: b, a, h => add_nodup b (a := putC a e.1 (getD0 a e.1 + e.2)) (put_nodup h)
theorem add_get : ∀ (b : CM) (a : CM) (n : Str), (keysC b).Nodup → getC (addC a b) n = match getC b n with | some v => some (getD0 a n + v) | none => getC a n
  | [], a, n, _ => rfl
  | e :: b, a, n, nd => by
    obtain ⟨n1, n2⟩ := List.nodup_cons.mp (show (e.1 :: keysC b).Nodup from nd)
    have ih := add_get b (putC a e.1 (getD0 a e.1 + e.2)) n n2
    show getC (addC (putC a e.1 (getD0 a e.1 + e.2)) b) n = _
    rw [ih, getC_put, getD0_put]
    by_cases h : e.1 = n
    · subst h
      rw [get_none n1, getC_cons_eq rfl]
      dsimp only
      rw [if_pos rfl]
    · rw [getC_cons_ne h, if_neg (fun z => h z.symm), if_neg (fun z => h z.symm)]
theorem add_perm {a b a' b' : CM} (na : (keysC a').Nodup) (nb : (keysC b').Nodup) (pa : a.Perm a') (pb : b.Perm b') : (addC a b).Perm (addC a' b') :=
  perm_of_get (add_nodup b (nodup_perm pa na)) (add_nodup b' na) fun n => by
    rw [add_get b a n (nodup_perm pb nb), add_get b' a' n nb, getC_perm nb pb, getC_perm na pa, getD0_perm na pa]
theorem add_pos : ∀ (b : CM) {a : CM}, posC a → posC b → posC (addC a b)
  | [], _, h, _ => h
  | e :: b, a, h, h2 => add_pos b (a := putC a e.1 (getD0 a e.1 + e.2)) (pos_put h (by have := pos_get h e.1; have := h2 e (List.mem_cons_self ..); omega)) fun x hx => h2 x (List.mem_cons_of_mem _ hx)
theorem add_len : ∀ (b a : CM), (addC a b).length ≤ a.length + b.length
  | [], a => Nat.le_refl _
  | e :: b, a => by
    have h := add_len b (putC a e.1 (getD0 a e.1 + e.2))
    have h2 := put_len a e.1 (getD0 a e.1 + e.2)
    show (addC (putC a e.1 (getD0 a e.1 + e.2)) b).length ≤ _
    rw [List.length_cons]
    split at h2 <;> omega
theorem add_keys : ∀ (b a : CM) (n : Str), n ∈ keysC (addC a b) → n ∈ keysC a ∨ n ∈ keysC b
  | [], _, _, h => .inl h
  | e :: b, a, n, h => by
    rcases add_keys b (putC a e.1 (getD0 a e.1 + e.2)) n h with h | h
    · rw [keys_put] at h
      split at h
      · exact .inl h
      · rcases List.mem_append.mp h with h | h
        · exact .inl h
        · rw [List.mem_singleton.mp h]
          exact .inr (List.mem_cons_self ..)
    · exact .inr (List.mem_cons_of_mem _ h)
/-! ### a dict that an expression has just made, walked while it is not written -/
def tFrz (te : TE) : TE := fun σ H Q => te σ H fun x H1 => ∃ (d : Addr) (u : HO), x = .ref d ∧ H1 d = some u ∧ Mut (some u) ∧ ∀ od, Q x (upd H1 d (.frz od u))
theorem pe_frz {X : Cx} {e : Expr} {te : TE} (h : PE X e te) : PE X e (tFrz te) := by
  refine ⟨fun pins s σ H Q I hw => ?_⟩
  refine thn (h.run pins s σ H _ I hw) fun v s1 ⟨x, H1, I1, r, d, u, ex, hd, mu, q⟩ => ?_
  obtain ⟨od, I2⟩ := I1.lock hd mu
  exact ⟨x, _, I2, r, q od⟩
end DK

set_option Elab.async false
set_option linter.all false
set_option maxRecDepth 100000
set_option maxHeartbeats 4000000
namespace DK
open PySem PySem.Spec PyProof.Rows L2
/-! ### bounds that a coming, a pouring and a cut keep -/
structure Bn (room : Int) (c : CM) (gone total : Int) (t : CM) : Prop where
  nd : (keysC c).Nodup
  ndt : (keysC t).Nodup
  pos : posC c
  post : posC t
  g0 : 0 ≤ gone
  tot : sumC t = total
  sm : sumC c + (room + 1) * gone ≤ total
  lo : ∀ n, getD0 c n ≤ getD0 t n
  hi : ∀ n, getD0 t n ≤ getD0 c n + gone
theorem bn_start (room : Int) : Bn room [] 0 0 [] := ⟨List.nodup_nil, List.nodup_nil, (fun _ h => nomatch h), (fun _ h => nomatch h), Int.le_refl _, rfl, by show (0 : Int) + (room + 1) * 0 ≤ 0; omega, fun _ => Int.le_refl _, fun _ => Int.le_refl _⟩
theorem sum_add : ∀ (b : CM) {a : CM}, (keysC a).Nodup → sumC (addC a b) = sumC a + sumC b
  | [], a, _ => by
    show sumC a = sumC a + sumC []
    show sumC a = sumC a + 0
    omega
  | e :: b, a, h => by
    have ih := sum_add b (a := putC a e.1 (getD0 a e.1 + e.2)) (put_nodup h)
    show sumC (addC (putC a e.1 (getD0 a e.1 + e.2)) b) = _
    rw [ih, sum_put h, sumC_cons]
    omega
theorem get_add {a b : CM} (nb : (keysC b).Nodup) (n : Str) : getD0 (addC a b) n = getD0 a n + getD0 b n := by
  have h := add_get b a n nb
  show (getC (addC a b) n).getD 0 = _
  rw [h]
  have e : getD0 b n = (getC b n).getD 0 := rfl
  rw [e]
  cases getC b n with
  | none =>
    show getD0 a n = getD0 a n + 0
    omega
  | some v => rfl
/-- two together, not yet cut -/
theorem bn_add {room g1 T1 g2 T2 : Int} {c1 t1 c2 t2 : CM} (A : Bn room c1 g1 T1 t1) (B : Bn room c2 g2 T2 t2) : Bn room (addC c1 c2) (g1 + g2) (T1 + T2) (addC t1 t2) := by
  refine ⟨add_nodup _ A.nd, add_nodup _ A.ndt, add_pos _ A.pos B.pos, add_pos _ A.post B.post, by have := A.g0; have := B.g0; omega, ?_, ?_, fun n => ?_, fun n => ?_⟩
  · rw [sum_add _ A.ndt, A.tot, B.tot]
  · rw [sum_add _ A.nd, Int.mul_add]
    have := A.sm
    have := B.sm
    omega
  · rw [get_add B.nd, get_add B.ndt]
    have := A.lo n
    have := B.lo n
    omega
  · rw [get_add B.nd, get_add B.ndt]
    have := A.hi n
    have := B.hi n
    omega
theorem bn_perm {room g T : Int} {c c' t : CM} (p : c'.Perm c) (B : Bn room c g T t) : Bn room c' g T t :=
  ⟨nodup_perm p B.nd, B.ndt, pos_perm p B.pos, B.post, B.g0, B.tot, by rw [sum_perm' p]; exact B.sm, fun n => by rw [getD0_perm B.nd p]; exact B.lo n, fun n => by rw [getD0_perm B.nd p]; exact B.hi n⟩
where
  sum_perm' {c c' : CM} (p : c'.Perm c) : sumC c' = sumC c := by
    have : ∀ {l m : List Int}, l.Perm m → l.sum = m.sum := by
      intro l m q
      induction q with
      | nil => rfl
      | cons x _ ih => rw [List.sum_cons, List.sum_cons, ih]
      | swap x y l =>
        simp only [List.sum_cons]
        omega
      | trans _ _ h1 h2 => exact h1.trans h2
    exact this (p.map _)
def minS (m : Int) (l : List Int) : Int := (l.map fun x => min x m).sum
theorem minS_cons (m x : Int) (l : List Int) : minS m (x :: l) = min x m + minS m l := by
  unfold minS
  rw [List.map_cons, List.sum_cons]
theorem minS_pos {m : Int} (hm : 0 ≤ m) : ∀ l : List Int, (∀ x ∈ l, 0 ≤ x) → 0 ≤ minS m l
  | [], _ => Int.le_refl _
  | x :: l, h => by
    rw [minS_cons]
    have := minS_pos hm l fun y hy => h y (List.mem_cons_of_mem _ hy)
    have := h x (List.mem_cons_self ..)
    omega
theorem minS_ge {m : Int} (hm : 0 ≤ m) : ∀ (l : List Int) (k : Nat), k ≤ l.length → (∀ i x, i < k → l[i]? = some x → m ≤ x) → (∀ x ∈ l, 0 ≤ x) → (k : Int) * m ≤ minS m l
  | l, 0, _, _, h => by
    have := minS_pos hm l h
    simp only [Int.natCast_zero, Int.zero_mul]
    exact this
  | [], k + 1, hk, _, _ => by simp at hk
  | x :: l, k + 1, hk, h1, h => by
    rw [minS_cons]
    have ih := minS_ge hm l k (by simp at hk; omega) (fun i y hi hy => h1 (i + 1) y (by omega) (by rw [List.getElem?_cons_succ]; exact hy)) fun y hy => h y (List.mem_cons_of_mem _ hy)
    have hx := h1 0 x (by omega) rfl
    have e : ((k + 1 : Nat) : Int) * m = (k : Int) * m + m := by
      rw [Int.natCast_add, Int.add_mul]
      omega
    rw [e]
    omega
theorem minS_perm {m : Int} {a b : List Int} (p : a.Perm b) : minS m a = minS m b := by
  unfold minS
  have q := p.map fun x => min x m
  generalize a.map (fun x => min x m) = l at q
  generalize b.map (fun x => min x m) = l' at q
  induction q with
  | nil => rfl
  | cons x _ ih => rw [List.sum_cons, List.sum_cons, ih]
  | swap x y l =>
    simp only [List.sum_cons]
    omega
  | trans _ _ h1 h2 => exact h1.trans h2
theorem lowered_minS (m : Int) : ∀ c : CM, sumC (lowered c m) + minS m (valsC c) = sumC c
  | [] => rfl
  | e :: c => by
    have ih := lowered_minS m c
    show sumC (lowered (e :: c) m) + minS m (e.2 :: valsC c) = _
    rw [minS_cons, lowered_cons, sumC_cons]
    split
    · rw [sumC_cons]
      show e.2 - m + _ + _ = _
      omega
    · omega
/-- each of one more than the drawers loses the cut -/
theorem cut_sum {room : Int} {c : CM} (h0 : 0 ≤ room) (hp : posC c) : sumC (lowered c (cutAt room c)) + (room + 1) * cutAt room c ≤ sumC c := by
  have m0 := cut_pos h0 hp
  have e := lowered_minS (cutAt room c) c
  by_cases h : room < (c.length : Int)
  · have hm := cut_at h0 h
    generalize cutAt room c = m at hm m0 e ⊢
    have hlen := falls_len c
    obtain ⟨hr, er⟩ := List.getElem?_eq_some_iff.mp hm
    have k := minS_ge m0 (falls (valsC c)) (room.toNat + 1) (by omega) (fun i x hi hx => by
      obtain ⟨hj, ej⟩ := List.getElem?_eq_some_iff.mp hx
      by_cases hir : i = room.toNat
      · subst hir
        rw [er] at ej
        omega
      · have := of_decide_eq_true (List.pairwise_iff_getElem.mp (falls_pw (valsC c)) i room.toNat hj hr (by omega))
        rw [er, ej] at this
        exact this) (fun x hx => by
      obtain ⟨y, hy, rfl⟩ := List.mem_map.mp ((falls_perm _).mem_iff.mp hx)
      have := hp y hy
      omega)
    rw [minS_perm (falls_perm (valsC c))] at k
    have er2 : ((room.toNat + 1 : Nat) : Int) = room + 1 := by omega
    rw [er2] at k
    omega
  · rw [cut_few h, lowered_zero hp]
    omega
theorem bn_cut {room g T : Int} {c t : CM} (h0 : 0 ≤ room) (B : Bn room c g T t) : Bn room (lowered c (cutAt room c)) (g + cutAt room c) T t := by
  have m0 := cut_pos h0 B.pos
  have cs := cut_sum h0 B.pos
  refine ⟨lowered_nodup B.nd, B.ndt, pos_lowered, B.post, by have := B.g0; omega, B.tot, ?_, fun n => ?_, fun n => ?_⟩
  · have := B.sm
    rw [Int.mul_add]
    omega
  · rw [get_lowered B.nd B.pos m0]
    have := B.lo n
    have := pos_get B.post n
    split <;> omega
  · rw [get_lowered B.nd B.pos m0]
    have := B.hi n
    split <;> omega
theorem bn_less {room room' g T : Int} {c t : CM} (h : room' ≤ room) (B : Bn room c g T t) : Bn room' c g T t := by
  refine ⟨B.nd, B.ndt, B.pos, B.post, B.g0, B.tot, ?_, B.lo, B.hi⟩
  have h1 : (room' + 1) * g ≤ (room + 1) * g := Int.mul_le_mul_of_nonneg_right (by omega) B.g0
  have := B.sm
  omega
theorem bn_come {room gone total w : Int} {c t : CM} {n : Str} (B : Bn room c gone total t) (hl : (c.length : Int) ≤ room) (hw : 1 ≤ w) : Bn room (come room c n w).1 (gone + (come room c n w).2) (total + w) (putC t n (getD0 t n + w)) := by
  have t0 := pos_get B.post n
  have c0 := pos_get B.pos n
  have st : sumC (putC t n (getD0 t n + w)) = total + w := by
    rw [sum_put B.ndt, B.tot]
    omega
  have sm := B.sm
  have g0 := B.g0
  have pc := pos_come (room := room) (n := n) B.pos (show 0 < w by omega)
  by_cases h : hasC c n = false ∧ (c.length : Int) = room
  · obtain ⟨l1, l2⟩ := minL_le (valsC c) w
    have m0 : 0 ≤ minL w (valsC c) := by
      rcases minL_mem (valsC c) w with e | e
      · omega
      · obtain ⟨z, hz, ez⟩ := List.mem_map.mp e
        have := B.pos z hz
        omega
    have ec : come room c n w = (if 0 < w - minL w (valsC c) then putC (lowered c (minL w (valsC c))) n (getD0 (lowered c (minL w (valsC c))) n + (w - minL w (valsC c))) else lowered c (minL w (valsC c)), minL w (valsC c)) := by
      unfold come
      rw [if_pos h]
    rw [ec] at pc ⊢
    dsimp only at pc ⊢
    have hk := no_key h.1
    have s1 := sum_lowered (m := minL w (valsC c)) c fun e he => l2 e.2 (List.mem_map_of_mem he)
    rw [h.2] at s1
    generalize minL w (valsC c) = mm at l1 l2 m0 s1 pc ⊢
    have e0 : getD0 (lowered c mm) n = 0 := by
      unfold getD0
      rw [get_none fun z => hk ((lowered_keys c mm).subset z)]
      rfl
    have ecn : getD0 c n = 0 := by
      unfold getD0
      rw [get_none hk]
      rfl
    have e1 : (room + 1) * (gone + mm) = (room + 1) * gone + room * mm + mm := by
      rw [Int.mul_add, Int.add_mul room 1 mm]
      omega
    have hin := B.hi n
    refine ⟨?_, put_nodup B.ndt, pc, pos_put B.post (by omega), by omega, st, ?_, fun m => ?_, fun m => ?_⟩
    · split
      · exact put_nodup (lowered_nodup B.nd)
      · exact lowered_nodup B.nd
    · rw [e1]
      split
      · rw [sum_put (lowered_nodup B.nd), s1, e0]
        omega
      · rw [s1]
        omega
    · have gl := get_lowered B.nd B.pos m0 m
      have lo := B.lo m
      have pm := pos_get B.pos m
      by_cases hmn : m = n
      · subst hmn
        split
        · rw [getD0_put, getD0_put, e0, if_pos rfl, if_pos rfl]
          omega
        · rw [getD0_put, e0, if_pos rfl]
          omega
      · split
        · rw [getD0_put, getD0_put, if_neg hmn, if_neg hmn, gl]
          split <;> omega
        · rw [getD0_put, if_neg hmn, gl]
          split <;> omega
    · have gl := get_lowered B.nd B.pos m0 m
      have hi := B.hi m
      have pm := pos_get B.pos m
      by_cases hmn : m = n
      · subst hmn
        split
        · rw [getD0_put, getD0_put, e0, if_pos rfl, if_pos rfl]
          omega
        · rw [getD0_put, e0, if_pos rfl]
          omega
      · split
        · rw [getD0_put, getD0_put, if_neg hmn, if_neg hmn, gl]
          split <;> omega
        · rw [getD0_put, if_neg hmn, gl]
          split <;> omega
  · have ec : come room c n w = (putC c n (getD0 c n + w), 0) := by
      unfold come
      rw [if_neg h]
    rw [ec] at pc ⊢
    dsimp only at pc ⊢
    refine ⟨put_nodup B.nd, put_nodup B.ndt, pc, pos_put B.post (by omega), by omega, st, ?_, fun m => ?_, fun m => ?_⟩
    · rw [sum_put B.nd, show gone + 0 = gone by omega]
      omega
    · rw [getD0_put, getD0_put]
      have := B.lo m
      have := B.lo n
      split <;> omega
    · rw [getD0_put, getD0_put]
      have := B.hi m
      have := B.hi n
      split <;> omega
theorem bn_sum_pos {c : CM} (h : posC c) : 0 ≤ sumC c := by
  induction c with
  | nil => exact Int.le_refl _
  | cons e c ih =>
    rw [sumC_cons]
    have := ih fun x hx => h x (List.mem_cons_of_mem _ hx)
    have := h e (List.mem_cons_self ..)
    omega
/-- a heavy name may be shown -/
theorem bn_heavy {room gone total : Int} {c t : CM} (B : Bn room c gone total t) {n : Str} (hr : 1 ≤ room) (h : total < getD0 t n * (room + 1)) : n ∈ keysC c ∧ total < (getD0 c n + gone) * (room + 1) := by
  have h2 : getD0 t n * (room + 1) ≤ (getD0 c n + gone) * (room + 1) := Int.mul_le_mul_of_nonneg_right (B.hi n) (by omega)
  refine ⟨Classical.byContradiction fun z => ?_, by omega⟩
  have e0 : getD0 c n = 0 := by
    unfold getD0
    rw [get_none z]
    rfl
  rw [e0, Int.zero_add, Int.mul_comm gone] at h2
  have := B.sm
  have := bn_sum_pos B.pos
  omega
end DK

set_option Elab.async false
set_option linter.all false
set_option maxRecDepth 100000
set_option maxHeartbeats 4000000
namespace DK
open PySem PySem.Spec PyProof.Rows L2
/-! ### the weights of names in a list of comings -/
def wsum (pl : CM) (n : Str) : Int := ((pl.filter fun e => decide (e.1 = n)).map (·.2)).sum
def tally (ks : List Str) (pl : CM) : CM := ks.map fun n => (n, wsum pl n)
theorem wsum_nil (n : Str) : wsum [] n = 0 := rfl
theorem wsum_app (a b : CM) (n : Str) : wsum (a ++ b) n = wsum a n + wsum b n := by
  unfold wsum
  rw [List.filter_append, List.map_append, List.sum_append]
theorem wsum_one (e : Str × Int) (n : Str) : wsum [e] n = if e.1 = n then e.2 else 0 := by
  unfold wsum
  by_cases h : e.1 = n
  · simp [h]
  · simp [h]
theorem wsum_snoc (pl : CM) (e : Str × Int) (n : Str) : wsum (pl ++ [e]) n = if e.1 = n then wsum pl n + e.2 else wsum pl n := by
  rw [wsum_app, wsum_one]
  split <;> omega
theorem tally_keys (ks : List Str) (pl : CM) : keysC (tally ks pl) = ks := by
  unfold keysC tally
  rw [List.map_map]
  exact List.map_id' ks
theorem tally_len (ks : List Str) (pl : CM) : (tally ks pl).length = ks.length := by
  unfold tally
  rw [List.length_map]
theorem tally_has (ks : List Str) (pl : CM) (n : Str) : hasC (tally ks pl) n = true ↔ n ∈ ks := by
  rw [has_iff, tally_keys]
theorem tally_get {ks : List Str} {pl : CM} {n : Str} (h : n ∈ ks) : getC (tally ks pl) n = some (wsum pl n) := by
  induction ks with
  | nil => cases h
  | cons k ks ih =>
    unfold tally
    rw [List.map_cons]
    by_cases e : k = n
    · rw [← e]
      exact getC_cons_eq rfl
    · rw [getC_cons_ne e]
      rcases List.mem_cons.mp h with h | h
      · exact absurd h.symm e
      · exact ih h
theorem tally_put {ks : List Str} {pl : CM} {e : Str × Int} (h : e.1 ∈ ks) : putC (tally ks pl) e.1 (wsum pl e.1 + e.2) = tally ks (pl ++ [e]) := by
  unfold putC
  rw [if_pos ((tally_has _ _ _).mpr h)]
  unfold tally
  rw [List.map_map]
  refine List.map_congr_left fun n _ => ?_
  simp only [Function.comp]
  rw [wsum_snoc]
  by_cases z : n = e.1
  · rw [if_pos z, if_pos z.symm, z]
  · rw [if_neg z, if_neg fun y => z y.symm]
theorem tally_out {ks : List Str} {pl : CM} {e : Str × Int} (h : e.1 ∉ ks) : tally ks (pl ++ [e]) = tally ks pl := by
  unfold tally
  refine List.map_congr_left fun n hn => ?_
  rw [wsum_snoc, if_neg fun y => h (by rw [y]; exact hn)]
theorem tally_new {ks : List Str} {n : Str} (h : n ∉ ks) : putC (tally ks []) n 0 = tally (ks ++ [n]) [] := by
  unfold putC
  rw [if_neg fun z => h ((tally_has _ _ _).mp z)]
  unfold tally
  rw [List.map_append]
  rfl
theorem keys_sort (c : CM) : keysC (sortC c) = sortS (keysC c) := by
  refine sortS_eq (perm_keys (sortC_perm c)) ?_
  unfold keysC
  exact List.pairwise_map.mpr (sortC_asc c)
/-! ### pairs that stand in the heap as tuples -/
def VsAt (H : Hp) (ts : List Addr) (xs : List (V × V)) : Prop := Paired (fun (t : Addr) (e : V × V) => H t = some (.tup [e.1, e.2])) ts xs
def vpr (c : CM) : List (V × V) := c.map fun e => (.str e.1, .int e.2)
theorem vs_prs {H : Hp} {ts : List Addr} {c : CM} (h : PrsAt H ts c) : VsAt H ts (vpr c) := by
  unfold PrsAt at h
  unfold VsAt vpr
  induction h with
  | nil => exact .nil
  | cons r _ ih => exact .cons r ih
theorem vs_ex {H H' : Hp} {ts : List Addr} {xs : List (V × V)} (h : VsAt H ts xs) (e : Ex H H') : VsAt H' ts xs := by
  unfold VsAt at h ⊢
  induction h with
  | nil => exact .nil
  | cons r _ ih => exact .cons (e _ _ r) ih
theorem vs_app {H : Hp} {ts us : List Addr} {xs ys : List (V × V)} (h : VsAt H ts xs) (h2 : VsAt H us ys) : VsAt H (ts ++ us) (xs ++ ys) := by
  unfold VsAt at h h2 ⊢
  induction h with
  | nil => exact h2
  | cons r _ ih => exact .cons r ih
theorem prs_snoc {H : Hp} {ts : List Addr} {c : CM} {t : Addr} {e : Str × Int} (h : PrsAt H ts c) (h2 : H t = some (.tup [.str e.1, .int e.2])) : PrsAt H (ts ++ [t]) (c ++ [e]) := by
  unfold PrsAt at h ⊢
  induction h with
  | nil => exact .cons h2 .nil
  | cons r _ ih => exact .cons r ih
theorem prs_drop {H : Hp} {ts : List Addr} {c : CM} (h : PrsAt H ts c) : ∀ k : Nat, PrsAt H (ts.drop k) (c.drop k) := by
  unfold PrsAt at h ⊢
  induction h with
  | nil =>
    intro k
    rw [List.drop_nil, List.drop_nil]
    exact .nil
  | cons r t ih =>
    intro k
    cases k with
    | zero => exact .cons r t
    | succ k => exact ih k
theorem prs_len {H : Hp} {ts : List Addr} {c : CM} (h : PrsAt H ts c) : ts.length = c.length := by
  unfold PrsAt at h
  exact h.length
/-- what is written is none of the pairs -/
theorem prs_off {H H' : Hp} {ts : List Addr} {c : CM} {l : List Addr} (h : PrsAt H ts c) (o : Off l H H') (hl : ∀ b ∈ l, ∀ xs, H b ≠ some (.tup xs)) : PrsAt H' ts c := by
  unfold PrsAt at h ⊢
  induction h with
  | nil => exact .nil
  | cons r _ ih => exact .cons (o _ _ (fun z => hl _ z _ r) r) ih
theorem cut_fromV (xs : List V) (k : Nat) (h : k ≤ xs.length) : cutV xs (some (k : Int)) none = xs.drop k := by
  unfold cutV
  rw [HT.sIx_none, HT.sIx_nat, Nat.min_eq_left h, List.take_of_length_le]
  rw [List.length_drop]
  exact Nat.le_refl _
end DK

set_option Elab.async false
set_option linter.all false
set_option maxRecDepth 100000
set_option maxHeartbeats 4000000
namespace DK
open PySem PySem.Spec PyProof.Rows L2
/-! ### names of more than their share -/
def trueT (pl : CM) : CM := pl.foldl (fun t e => putC t e.1 (getD0 t e.1 + e.2)) []
def runC (r : Int) (pl : CM) : CM × Int × Int := pl.foldl (fun s e => ((come r s.1 e.1 e.2).1, s.2.1 + (come r s.1 e.1 e.2).2, s.2.2 + e.2)) ([], 0, 0)
theorem true_snoc (pl : CM) (e : Str × Int) : trueT (pl ++ [e]) = putC (trueT pl) e.1 (getD0 (trueT pl) e.1 + e.2) := by
  unfold trueT
  rw [List.foldl_append]
  rfl
theorem run_snoc (r : Int) (pl : CM) (e : Str × Int) : runC r (pl ++ [e]) = ((come r (runC r pl).1 e.1 e.2).1, (runC r pl).2.1 + (come r (runC r pl).1 e.1 e.2).2, (runC r pl).2.2 + e.2) := by
  unfold runC
  rw [List.foldl_append]
  rfl
theorem run_from {r : Int} : ∀ (pl : CM) (s : CM × Int × Int) (t : CM), Bnd r s.1 s.2.1 s.2.2 t → (∀ e ∈ pl, isWt e.2 = true) →
    Bnd r (pl.foldl (fun s e => ((come r s.1 e.1 e.2).1, s.2.1 + (come r s.1 e.1 e.2).2, s.2.2 + e.2)) s).1 (pl.foldl (fun s e => ((come r s.1 e.1 e.2).1, s.2.1 + (come r s.1 e.1 e.2).2, s.2.2 + e.2)) s).2.1
      (pl.foldl (fun s e => ((come r s.1 e.1 e.2).1, s.2.1 + (come r s.1 e.1 e.2).2, s.2.2 + e.2)) s).2.2 (pl.foldl (fun t e => putC t e.1 (getD0 t e.1 + e.2)) t)
  | [], _, _, B, _ => B
  | e :: pl, s, t, B, h => run_from pl _ _ (bnd_come (n := e.1) B (of_decide_eq_true (h e (List.mem_cons_self ..))).1) fun x hx => h x (List.mem_cons_of_mem _ hx)
theorem run_bnd {r : Int} (h1 : 1 ≤ r) {pl : CM} (h : ∀ e ∈ pl, isWt e.2 = true) : Bnd r (runC r pl).1 (runC r pl).2.1 (runC r pl).2.2 (trueT pl) := run_from pl ([], 0, 0) [] (bnd_start r h1) h
theorem wsum_cons (e : Str × Int) (pl : CM) (n : Str) : wsum (e :: pl) n = (if e.1 = n then e.2 else 0) + wsum pl n := by
  have h := wsum_app [e] pl n
  rw [wsum_one] at h
  exact h
theorem true_from (n : Str) : ∀ (pl t : CM), getD0 (pl.foldl (fun t e => putC t e.1 (getD0 t e.1 + e.2)) t) n = getD0 t n + wsum pl n
  | [], t => by rw [wsum_nil, Int.add_zero]; rfl
  | e :: pl, t => by
    rw [List.foldl_cons, true_from n pl, getD0_put, wsum_cons]
    by_cases h : e.1 = n
    · rw [if_pos h.symm, if_pos h, h]
      omega
    · rw [if_neg fun z => h z.symm, if_neg h]
      omega
theorem true_get (pl : CM) (n : Str) : getD0 (trueT pl) n = wsum pl n := by
  unfold trueT
  rw [true_from]
  exact Int.zero_add _
theorem run_tot_from (r : Int) : ∀ (pl : CM) (s : CM × Int × Int), (pl.foldl (fun s e => ((come r s.1 e.1 e.2).1, s.2.1 + (come r s.1 e.1 e.2).2, s.2.2 + e.2)) s).2.2 = s.2.2 + sumC pl
  | [], s => (Int.add_zero _).symm
  | e :: pl, s => by
    rw [List.foldl_cons, run_tot_from r pl, sumC_cons]
    dsimp only
    omega
theorem run_tot (r : Int) (pl : CM) : (runC r pl).2.2 = sumC pl := by
  unfold runC
  rw [run_tot_from]
  exact Int.zero_add _
theorem sum_nonneg {c : CM} (h : posC c) : 0 ≤ sumC c := by
  induction c with
  | nil => exact Int.le_refl _
  | cons e c ih =>
    rw [sumC_cons]
    have := h e (List.mem_cons_self ..)
    have := ih fun x hx => h x (List.mem_cons_of_mem _ hx)
    omega
structure Heavy (r : Int) (pl : CM) (L : List Str) : Prop where
  srt : L.Pairwise fun x y => sle x y = true
  nd : L.Nodup
  mem : ∀ n, n ∈ L ↔ sumC pl < wsum pl n * (r + 1)
theorem heavy_uniq {r : Int} {pl : CM} {L L' : List Str} (h : Heavy r pl L) (h' : Heavy r pl L') : L = L' :=
  List.Perm.eq_of_pairwise (fun a b _ _ h1 h2 => sle_anti h1 h2) h.srt h'.srt ((List.perm_ext_iff_of_nodup h.nd h'.nd).mpr fun n => by rw [h.mem, h'.mem])
theorem heavy_none {r : Int} {pl : CM} {L : List Str} (h : Heavy r pl L) (hn : ∀ n, ¬ sumC pl < wsum pl n * (r + 1)) : L = [] := by
  cases L with
  | nil => rfl
  | cons n L => exact absurd ((h.mem n).mp (List.mem_cons_self ..)) (hn n)
theorem heavy_one {r : Int} {pl : CM} {L : List Str} {x : Str} (h : Heavy r pl L) (hn : ∀ n, sumC pl < wsum pl n * (r + 1) ↔ n = x) : L = [x] :=
  heavy_uniq h ⟨List.pairwise_singleton _ _, List.pairwise_singleton _ _, fun n => by rw [List.mem_singleton, hn]⟩
theorem heavy_desk {r : Int} (h1 : 1 ≤ r) {pl : CM} (h : ∀ e ∈ pl, isWt e.2 = true) : Heavy r pl ((keysC (sortC (runC r pl).1)).filter fun n => decide ((runC r pl).2.2 < wsum pl n * (r + 1))) := by
  have B := run_bnd h1 h
  refine ⟨?_, (sortC_nodup B.nd).filter _, fun n => ?_⟩
  · rw [keys_sort]
    exact (sortS_asc _).filter _
  · rw [List.mem_filter, run_tot]
    refine ⟨fun h => of_decide_eq_true h.2, fun z => ⟨?_, decide_eq_true z⟩⟩
    have := heavy_in B (n := n) h1 (by rw [run_tot, true_get]; exact z)
    exact (perm_keys (sortC_perm _)).mem_iff.mpr this.1
theorem heavy_true {r : Int} (h1 : 1 ≤ r) {pl : CM} (h : ∀ e ∈ pl, isWt e.2 = true) : Heavy r pl ((sortS (keysC (trueT pl))).filter fun n => decide (sumC (trueT pl) < getD0 (trueT pl) n * (r + 1))) := by
  have B := run_bnd h1 h
  have e : sumC (trueT pl) = sumC pl := B.tot.trans (run_tot r pl)
  refine ⟨(sortS_asc _).filter _, ((sortS_perm _).nodup_iff.mpr B.ndt).filter _, fun n => ?_⟩
  rw [List.mem_filter, e, true_get]
  refine ⟨fun h => of_decide_eq_true h.2, fun z => ⟨?_, decide_eq_true z⟩⟩
  refine (sortS_perm _).mem_iff.mpr (pos_has ?_)
  rw [true_get]
  have h0 := sum_nonneg B.post
  rw [e] at h0
  refine Classical.byContradiction fun hh => ?_
  have h2 : wsum pl n ≤ 0 := by omega
  have := Int.mul_nonpos_of_nonpos_of_nonneg h2 (show (0 : Int) ≤ r + 1 by omega)
  omega
/-- names of one weight each -/
theorem wsum_even (W : Int) (n : Str) : ∀ ns : List Str, ns.Nodup → wsum (ns.map fun x => (x, W)) n = if n ∈ ns then W else 0
  | [], _ => rfl
  | x :: ns, nd => by
    obtain ⟨n1, n2⟩ := List.nodup_cons.mp nd
    rw [List.map_cons, wsum_cons, wsum_even W n ns n2]
    by_cases h : x = n
    · subst h
      rw [if_pos rfl, if_neg n1, if_pos (List.mem_cons_self ..)]
      omega
    · rw [if_neg h, Int.zero_add]
      by_cases h2 : n ∈ ns
      · rw [if_pos h2, if_pos (List.mem_cons_of_mem _ h2)]
      · rw [if_neg h2, if_neg fun z => ?_]
        rcases List.mem_cons.mp z with z | z
        · exact h z.symm
        · exact h2 z
theorem sum_even (W : Int) : ∀ ns : List Str, sumC (ns.map fun x => (x, W)) = ns.length * W
  | [] => by rw [List.length_nil]; show (0 : Int) = _; rw [show ((0 : Nat) : Int) = 0 from rfl, Int.zero_mul]
  | x :: ns => by
    rw [List.map_cons, sumC_cons, sum_even W ns, List.length_cons, Int.natCast_succ, Int.add_mul, Int.one_mul, Int.add_comm]
theorem sum_app (a b : CM) : sumC (a ++ b) = sumC a + sumC b := by
  unfold sumC valsC
  rw [List.map_append, List.sum_append]
end DK

set_option Elab.async false
set_option linter.all false
set_option maxRecDepth 100000
set_option maxHeartbeats 4000000
namespace DK
open PySem PySem.Spec PyProof.Rows L2
theorem true_len_from : ∀ (pl t : CM), (pl.foldl (fun t e => putC t e.1 (getD0 t e.1 + e.2)) t).length ≤ t.length + pl.length
  | [], t => Nat.le_refl _
  | e :: pl, t => by
    have h := true_len_from pl (putC t e.1 (getD0 t e.1 + e.2))
    have h2 := put_len t e.1 (getD0 t e.1 + e.2)
    rw [List.foldl_cons, List.length_cons]
    split at h2 <;> omega
theorem true_len (pl : CM) : (trueT pl).length ≤ pl.length := by
  have h := true_len_from pl []
  rw [List.length_nil, Nat.zero_add] at h
  exact h
theorem true_keys_from {n : Str} : ∀ (pl t : CM), n ∈ keysC (pl.foldl (fun t e => putC t e.1 (getD0 t e.1 + e.2)) t) → n ∈ keysC t ∨ ∃ e ∈ pl, e.1 = n
  | [], t, h => .inl h
  | e :: pl, t, h => by
    rw [List.foldl_cons] at h
    rcases true_keys_from pl _ h with h | ⟨x, hx, h⟩
    · rw [keys_put] at h
      split at h
      · exact .inl h
      · rcases List.mem_append.mp h with h | h
        · exact .inl h
        · exact .inr ⟨e, List.mem_cons_self .., (List.mem_singleton.mp h).symm⟩
    · exact .inr ⟨x, List.mem_cons_of_mem _ hx, h⟩
theorem true_keys {pl : CM} {n : Str} (h : n ∈ keysC (trueT pl)) : ∃ e ∈ pl, e.1 = n := by
  rcases true_keys_from pl [] h with h | h
  · cases h
  · exact h
theorem cut_toV (xs : List V) (k : Nat) (h : k ≤ xs.length) : cutV xs none (some (k : Int)) = xs.take k := by
  unfold cutV
  rw [HT.sIx_none, HT.sIx_nat, Nat.min_eq_left h]
  rfl
theorem even_none {W r : Int} {ns : List Str} {L : List Str} (nd : ns.Nodup) (hW : 0 ≤ W) (hr : r + 1 = ns.length) (h : Heavy r (ns.map fun x => (x, W)) L) : L = [] := by
  refine heavy_none h fun n => ?_
  rw [sum_even, wsum_even W n ns nd, hr]
  have h0 : (0 : Int) ≤ ns.length * W := Int.mul_nonneg (by omega) hW
  split
  · rw [Int.mul_comm]
    omega
  · rw [Int.zero_mul]
    omega
theorem even_one {W r : Int} {ns : List Str} {L : List Str} {x : Str} (nd : ns.Nodup) (hx : x ∈ ns) (hW : 0 ≤ W) (hr : r + 1 = ns.length) (h1 : 1 ≤ r) (h : Heavy r ((ns.map fun x => (x, W)) ++ [(x, 1)]) L) : L = [x] := by
  refine heavy_one h fun n => ?_
  rw [sum_app, sum_even, wsum_app, wsum_even W n ns nd, wsum_one, ← hr]
  have h0 : (0 : Int) ≤ (r + 1) * W := Int.mul_nonneg (by omega) hW
  have e1 : sumC [((x, 1) : Str × Int)] = 1 := rfl
  rw [e1]
  by_cases e : x = n
  · subst e
    rw [if_pos hx, if_pos rfl]
    have e : (W + 1) * (r + 1) = (r + 1) * W + (r + 1) := by rw [Int.add_mul, Int.one_mul, Int.mul_comm W]
    refine ⟨fun _ => rfl, fun _ => ?_⟩
    dsimp only
    rw [e]
    omega
  · rw [if_neg (c := (x, (1 : Int)).1 = n) e, Int.add_zero]
    refine ⟨fun h => ?_, fun h => absurd h.symm e⟩
    split at h
    · rw [Int.mul_comm W] at h
      omega
    · rw [Int.zero_mul] at h
      omega
theorem just_wsum (a b : Str) (x y : Int) (n : Str) : wsum [(a, x), (b, y)] n = (if a = n then x else 0) + (if b = n then y else 0) := by
  rw [wsum_cons, wsum_one]
theorem just_sum (a b : Str) (x y : Int) : sumC [(a, x), (b, y)] = x + y := by
  rw [sumC_cons]
  show x + (y + 0) = x + y
  omega
theorem just_heavy {u r : Int} {a b : Str} {L : List Str} (hab : a ≠ b) (hu : 1 ≤ u) (h1 : 1 ≤ r) (h : Heavy r [(a, u), (b, u * r)] L) : L = if r = 1 then [] else [b] := by
  have e : u * (r + 1) = u * r + u := by rw [Int.mul_add, Int.mul_one]
  have e2 : u * r * (r + 1) = u * r * r + u * r := by rw [Int.mul_add, Int.mul_one]
  by_cases hr : r = 1
  · rw [if_pos hr]
    subst hr
    refine heavy_none h fun n => ?_
    rw [just_sum, just_wsum]
    by_cases z1 : a = n
    · rw [if_pos z1, if_neg (fun z => hab (z1.trans z.symm))]
      omega
    · rw [if_neg z1]
      by_cases z2 : b = n
      · rw [if_pos z2]
        omega
      · rw [if_neg z2]
        omega
  · rw [if_neg hr]
    have hur : u ≤ u * r := by
      have := Int.mul_le_mul_of_nonneg_left h1 (show 0 ≤ u by omega)
      rw [Int.mul_one] at this
      exact this
    have hur2 : u * r * 2 ≤ u * r * r := Int.mul_le_mul_of_nonneg_left (show 2 ≤ r by omega) (show 0 ≤ u * r by omega)
    refine heavy_one h fun n => ?_
    rw [just_sum, just_wsum]
    by_cases z1 : a = n
    · rw [if_pos z1, if_neg (fun z => hab (z1.trans z.symm)), Int.add_zero, e]
      refine ⟨fun h => by omega, fun h => absurd (z1.trans h) hab⟩
    · rw [if_neg z1, Int.zero_add]
      by_cases z2 : b = n
      · rw [if_pos z2, e2]
        refine ⟨fun _ => z2.symm, fun _ => by omega⟩
      · rw [if_neg z2, Int.zero_mul]
        refine ⟨fun h => by omega, fun h => absurd h.symm z2⟩
end DK

set_option Elab.async false
set_option linter.all false
set_option maxRecDepth 100000
set_option maxHeartbeats 4000000
namespace DK
open PySem PySem.Spec PyProof.Rows L2
/-! ### what came lately: pieces of comings -/
abbrev S3 := CM × Int × Int
def pourD (r : Int) (s u : S3) : S3 := (lowered (addC (sortC s.1) (sortC u.1)) (cutAt r (addC (sortC s.1) (sortC u.1))), s.2.1 + u.2.1 + cutAt r (addC (sortC s.1) (sortC u.1)), s.2.2 + u.2.2)
def pourL (r : Int) (s u : S3) : S3 := (lowered (addC s.1 u.1) (cutAt r (addC s.1 u.1)), s.2.1 + u.2.1 + cutAt r (addC s.1 u.1), s.2.2 + u.2.2)
def tellD (r : Int) (xs : List CM) : S3 := xs.foldl (fun s x => pourD r s (runC r x)) ([], 0, 0)
def tellL (r : Int) (xs : List CM) : S3 := xs.foldl (fun s x => pourL r s (runC r x)) ([], 0, 0)
theorem tellD_snoc (r : Int) (xs : List CM) (x : CM) : tellD r (xs ++ [x]) = pourD r (tellD r xs) (runC r x) := by
  unfold tellD
  rw [List.foldl_append]
  rfl
theorem tellL_snoc (r : Int) (xs : List CM) (x : CM) : tellL r (xs ++ [x]) = pourL r (tellL r xs) (runC r x) := by
  unfold tellL
  rw [List.foldl_append]
  rfl
/-- what a told state keeps -/
structure Wel (r : Int) (s : S3) : Prop where
  nd : (keysC s.1).Nodup
  pc : posC s.1
  ln : (s.1.length : Int) ≤ r
def okX (nm : List Str) (x : CM) : Prop := ∀ e ∈ x, e.1 ∈ nm ∧ isWt e.2 = true
theorem run_wel {r : Int} (h1 : 1 ≤ r) {pl : CM} (h : ∀ e ∈ pl, isWt e.2 = true) : Wel r (runC r pl) := ⟨(run_bnd h1 h).nd, (run_bnd h1 h).pos, (run_bnd h1 h).ln⟩
theorem run_keys_from {r : Int} {n : Str} : ∀ (pl : CM) (s : S3), n ∈ keysC (pl.foldl (fun s e => ((come r s.1 e.1 e.2).1, s.2.1 + (come r s.1 e.1 e.2).2, s.2.2 + e.2)) s).1 → n ∈ keysC s.1 ∨ ∃ e ∈ pl, e.1 = n
  | [], s, h => .inl h
  | e :: pl, s, h => by
    rw [List.foldl_cons] at h
    rcases run_keys_from pl _ h with h | ⟨x, hx, h⟩
    · have put : ∀ (c' : CM) (v : Int), n ∈ keysC (putC c' e.1 v) → n ∈ keysC c' ∨ n = e.1 := by
        intro c' v h
        rw [keys_put] at h
        split at h
        · exact .inl h
        · rcases List.mem_append.mp h with h | h
          · exact .inl h
          · exact .inr (List.mem_singleton.mp h)
      have h2 : n ∈ keysC s.1 ∨ n = e.1 := by
        dsimp only at h
        unfold come at h
        split at h
        · dsimp only at h
          split at h
          · rcases put _ _ h with h | h
            · exact .inl ((lowered_keys _ _).subset h)
            · exact .inr h
          · exact .inl ((lowered_keys _ _).subset h)
        · exact put _ _ h
      rcases h2 with h2 | h2
      · exact .inl h2
      · exact .inr ⟨e, List.mem_cons_self .., h2.symm⟩
    · exact .inr ⟨x, List.mem_cons_of_mem _ hx, h⟩
theorem run_keys {r : Int} {pl : CM} {n : Str} (h : n ∈ keysC (runC r pl).1) : ∃ e ∈ pl, e.1 = n := by
  rcases run_keys_from pl _ h with h | h
  · cases h
  · exact h
theorem pourL_wel {r : Int} (h1 : 1 ≤ r) {s u : S3} (A : Wel r s) (B : Wel r u) : Wel r (pourL r s u) := ⟨lowered_nodup (add_nodup _ A.nd), pos_lowered, cut_len (by omega)⟩
theorem tellL_wel {r : Int} (h1 : 1 ≤ r) {xs : List CM} (h : ∀ x ∈ xs, ∀ e ∈ x, isWt e.2 = true) : Wel r (tellL r xs) := by
  have go : ∀ (xs : List CM) (s : S3), Wel r s → (∀ x ∈ xs, ∀ e ∈ x, isWt e.2 = true) → Wel r (xs.foldl (fun s x => pourL r s (runC r x)) s) := by
    intro xs
    induction xs with
    | nil => exact fun s A _ => A
    | cons x xs ih => exact fun s A h => ih _ (pourL_wel h1 A (run_wel h1 (h x (List.mem_cons_self ..)))) fun y hy => h y (List.mem_cons_of_mem _ hy)
  exact go xs _ ⟨List.nodup_nil, (fun _ h => nomatch h), by show ((0 : Nat) : Int) ≤ r; omega⟩ h
theorem tellL_keys {r : Int} {xs : List CM} {n : Str} (h : n ∈ keysC (tellL r xs).1) : ∃ x ∈ xs, ∃ e ∈ x, e.1 = n := by
  have go : ∀ (xs : List CM) (s : S3), n ∈ keysC (xs.foldl (fun s x => pourL r s (runC r x)) s).1 → n ∈ keysC s.1 ∨ ∃ x ∈ xs, ∃ e ∈ x, e.1 = n := by
    intro xs
    induction xs with
    | nil => exact fun s h => .inl h
    | cons x xs ih =>
      intro s h
      rcases ih _ h with h | ⟨y, hy, h⟩
      · have h := (lowered_keys _ _).subset h
        rcases add_keys _ _ _ h with h | h
        · exact .inl h
        · exact .inr ⟨x, List.mem_cons_self .., run_keys h⟩
      · exact .inr ⟨y, List.mem_cons_of_mem _ hy, h⟩
  rcases go xs _ h with h | h
  · cases h
  · exact h
theorem tell_sim {r : Int} (h1 : 1 ≤ r) {xs : List CM} (h : ∀ x ∈ xs, ∀ e ∈ x, isWt e.2 = true) : (tellD r xs).1.Perm (tellL r xs).1 ∧ (tellD r xs).2 = (tellL r xs).2 := by
  have go : ∀ (xs : List CM) (s u : S3), s.1.Perm u.1 → s.2 = u.2 → Wel r u → (∀ x ∈ xs, ∀ e ∈ x, isWt e.2 = true) →
      (xs.foldl (fun s x => pourD r s (runC r x)) s).1.Perm (xs.foldl (fun s x => pourL r s (runC r x)) u).1 ∧ (xs.foldl (fun s x => pourD r s (runC r x)) s).2 = (xs.foldl (fun s x => pourL r s (runC r x)) u).2 := by
    intro xs
    induction xs with
    | nil => exact fun s u p e _ _ => ⟨p, e⟩
    | cons x xs ih =>
      intro s u p e A h
      have B := run_wel h1 (h x (List.mem_cons_self ..))
      have pa := add_perm A.nd B.nd ((sortC_perm s.1).trans p) (sortC_perm (runC r x).1)
      have ec := cut_perm (room := r) pa
      refine ih _ _ ?_ ?_ (pourL_wel h1 A B) fun y hy => h y (List.mem_cons_of_mem _ hy)
      · show (lowered _ _).Perm (lowered _ _)
        rw [ec]
        exact lowered_perm pa _
      · show (s.2.1 + _ + cutAt _ _, s.2.2 + _) = (u.2.1 + _ + cutAt _ _, u.2.2 + _)
        rw [ec, e]
  exact go xs _ _ (List.Perm.refl _) rfl ⟨List.nodup_nil, (fun _ h => nomatch h), by show ((0 : Nat) : Int) ≤ r; omega⟩ h
/-- the last of a list -/
def lastn {α : Type} (k : Nat) (xs : List α) : List α := xs.drop (xs.length - k)
theorem lastn_len {α : Type} (k : Nat) (xs : List α) : (lastn k xs).length ≤ k := by
  unfold lastn
  rw [List.length_drop]
  omega
theorem lastn_mem {α : Type} {k : Nat} {xs : List α} {x : α} (h : x ∈ lastn k xs) : x ∈ xs := List.mem_of_mem_drop h
theorem lastn_map {α β : Type} (f : α → β) (k : Nat) (xs : List α) : lastn k (xs.map f) = (lastn k xs).map f := by
  unfold lastn
  rw [List.length_map, List.map_drop]
theorem cut_last (xs : List V) (k : Nat) (h : 1 ≤ k) : cutV xs (some (-(k : Int))) none = lastn k xs := by
  unfold cutV lastn
  have e : HT.sIx xs.length 0 (some (-(k : Int))) = xs.length - k := by
    have h2 := HT.clip_eq (-(k : Int)) xs.length 0
    rw [if_pos (by omega)] at h2
    omega
  rw [HT.sIx_none, e, List.take_of_length_le]
  rw [List.length_drop]
  omega
/-- one coming more -/
def stepP (pc pn : Nat) (s : List CM × CM) (e : Str × Int) : List CM × CM := if s.2.length + 1 = pc then (lastn pn (s.1 ++ [s.2 ++ [e]]), []) else (s.1, s.2 ++ [e])
/-! ### footprints -/
def Disj (F G : List Addr) : Prop := ∀ a ∈ F, a ∉ G
theorem Disj.symm {F G : List Addr} (h : Disj F G) : Disj G F := fun a ha hb => h a hb ha
theorem disj_new {H : Hp} {F F' G : List Addr} (h : Disj F G) (hf : ∀ a ∈ F', a ∈ F ∨ H a = none) (hg : ∀ b ∈ G, H b ≠ none) : Disj F' G := fun a ha hb => by
  rcases hf a ha with z | z
  · exact h a z hb
  · exact hg a hb z
theorem disj_fresh {H : Hp} {F G : List Addr} (hf : ∀ a ∈ F, H a = none) (hg : ∀ b ∈ G, H b ≠ none) : Disj F G := fun a ha hb => hg a hb (hf a ha)
/-! ### the fields of a row of desks -/
def lfl (room piece pieces : Int) (fl lp : Addr) (came : Int) : List (Str × V) := [(("room" : Str), .int room), (("piece" : Str), .int piece), (("pieces" : Str), .int pieces), (("full" : Str), .ref fl), (("latest" : Str), .ref lp), (("came" : Str), .int came)]
section
variable {room piece pieces came : Int} {fl lp : Addr}
theorem lk : ((("piece" : Str) == "room") = false) ∧ ((("pieces" : Str) == "room") = false) ∧ ((("full" : Str) == "room") = false) ∧ ((("latest" : Str) == "room") = false) ∧ ((("came" : Str) == "room") = false) ∧
    ((("pieces" : Str) == "piece") = false) ∧ ((("full" : Str) == "piece") = false) ∧ ((("latest" : Str) == "piece") = false) ∧ ((("came" : Str) == "piece") = false) ∧
    ((("full" : Str) == "pieces") = false) ∧ ((("latest" : Str) == "pieces") = false) ∧ ((("came" : Str) == "pieces") = false) ∧ ((("latest" : Str) == "full") = false) ∧ ((("came" : Str) == "full") = false) ∧ ((("came" : Str) == "latest") = false) := by decide +kernel
theorem ls6 : ((("room" : Str) == "room") = true) ∧ ((("piece" : Str) == "piece") = true) ∧ ((("pieces" : Str) == "pieces") = true) ∧ ((("full" : Str) == "full") = true) ∧ ((("latest" : Str) == "latest") = true) ∧ ((("came" : Str) == "came") = true) := by decide +kernel
theorem lfl_room : (lfl room piece pieces fl lp came).lookup ("room" : Str) = some (.int room) := by
  simp only [lfl, List.lookup, ls6.1]
theorem lfl_piece : (lfl room piece pieces fl lp came).lookup ("piece" : Str) = some (.int piece) := by
  simp only [lfl, List.lookup, lk.1, ls6.2.1]
theorem lfl_pieces : (lfl room piece pieces fl lp came).lookup ("pieces" : Str) = some (.int pieces) := by
  simp only [lfl, List.lookup, lk.2.1, lk.2.2.2.2.2.1, ls6.2.2.1]
theorem lfl_full : (lfl room piece pieces fl lp came).lookup ("full" : Str) = some (.ref fl) := by
  simp only [lfl, List.lookup, lk.2.2.1, lk.2.2.2.2.2.2.1, lk.2.2.2.2.2.2.2.2.2.1, ls6.2.2.2.1]
theorem lfl_latest : (lfl room piece pieces fl lp came).lookup ("latest" : Str) = some (.ref lp) := by
  simp only [lfl, List.lookup, lk.2.2.2.1, lk.2.2.2.2.2.2.2.1, lk.2.2.2.2.2.2.2.2.2.2.1, lk.2.2.2.2.2.2.2.2.2.2.2.2.1, ls6.2.2.2.2.1]
theorem lfl_came : (lfl room piece pieces fl lp came).lookup ("came" : Str) = some (.int came) := by
  simp only [lfl, List.lookup, lk.2.2.2.2.1, lk.2.2.2.2.2.2.2.2.1, lk.2.2.2.2.2.2.2.2.2.2.2.1, lk.2.2.2.2.2.2.2.2.2.2.2.2.2.1, lk.2.2.2.2.2.2.2.2.2.2.2.2.2.2, ls6.2.2.2.2.2]
theorem lfl_no {m : Str} (h : (m == "room") = false ∧ (m == "piece") = false ∧ (m == "pieces") = false ∧ (m == "full") = false ∧ (m == "latest") = false ∧ (m == "came") = false) : (lfl room piece pieces fl lp came).lookup m = none := by
  simp only [lfl, List.lookup, h.1, h.2.1, h.2.2.1, h.2.2.2.1, h.2.2.2.2.1, h.2.2.2.2.2]
theorem lne : ¬ ("room" : Str) = "piece" ∧ ¬ ("room" : Str) = "pieces" ∧ ¬ ("room" : Str) = "full" ∧ ¬ ("room" : Str) = "latest" ∧ ¬ ("room" : Str) = "came" ∧ ¬ ("piece" : Str) = "pieces" ∧ ¬ ("piece" : Str) = "full" ∧ ¬ ("piece" : Str) = "latest" ∧ ¬ ("piece" : Str) = "came" ∧
    ¬ ("pieces" : Str) = "full" ∧ ¬ ("pieces" : Str) = "latest" ∧ ¬ ("pieces" : Str) = "came" ∧ ¬ ("full" : Str) = "latest" ∧ ¬ ("full" : Str) = "came" ∧ ¬ ("latest" : Str) = "came" := by decide +kernel
theorem lfl_make : putF "came" (.int came) (putF "latest" (.ref lp) (putF "full" (.ref fl) (putF "pieces" (.int pieces) (putF "piece" (.int piece) (putF "room" (.int room) []))))) = lfl room piece pieces fl lp came := by
  simp only [putF, lfl, if_neg lne.1, if_neg lne.2.1, if_neg lne.2.2.1, if_neg lne.2.2.2.1, if_neg lne.2.2.2.2.1, if_neg lne.2.2.2.2.2.1, if_neg lne.2.2.2.2.2.2.1, if_neg lne.2.2.2.2.2.2.2.1, if_neg lne.2.2.2.2.2.2.2.2.1, if_neg lne.2.2.2.2.2.2.2.2.2.1, if_neg lne.2.2.2.2.2.2.2.2.2.2.1, if_neg lne.2.2.2.2.2.2.2.2.2.2.2.1, if_neg lne.2.2.2.2.2.2.2.2.2.2.2.2.1, if_neg lne.2.2.2.2.2.2.2.2.2.2.2.2.2.1, if_neg lne.2.2.2.2.2.2.2.2.2.2.2.2.2.2]
theorem lfl_put_came (z : Int) : putF "came" (.int z) (lfl room piece pieces fl lp came) = lfl room piece pieces fl lp z := by
  simp only [putF, lfl, if_neg lne.2.2.2.2.1, if_neg lne.2.2.2.2.2.2.2.2.1, if_neg lne.2.2.2.2.2.2.2.2.2.2.2.1, if_neg lne.2.2.2.2.2.2.2.2.2.2.2.2.2.1, if_neg lne.2.2.2.2.2.2.2.2.2.2.2.2.2.2, if_true]
theorem lfl_put_latest (z : Addr) : putF "latest" (.ref z) (lfl room piece pieces fl lp came) = lfl room piece pieces fl z came := by
  simp only [putF, lfl, if_neg lne.2.2.2.1, if_neg lne.2.2.2.2.2.2.2.1, if_neg lne.2.2.2.2.2.2.2.2.2.2.1, if_neg lne.2.2.2.2.2.2.2.2.2.2.2.2.1, if_true]
theorem lfl_put_full (z : Addr) : putF "full" (.ref z) (lfl room piece pieces fl lp came) = lfl room piece pieces z lp came := by
  simp only [putF, lfl, if_neg lne.2.2.1, if_neg lne.2.2.2.2.2.2.1, if_neg lne.2.2.2.2.2.2.2.2.2.1, if_true]
theorem put_len_le (f : Str) (v : V) : ∀ fs : List (Str × V), (putF f v fs).length ≤ fs.length + 1
  | [] => Nat.le_refl _
  | e :: fs => by
    unfold putF
    split
    · exact Nat.le_succ _
    · rw [List.length_cons, List.length_cons]
      have := put_len_le f v fs
      omega
end
end DK

set_option Elab.async false
set_option linter.all false
set_option maxRecDepth 100000
set_option maxHeartbeats 4000000
namespace DK
open PySem PySem.Spec PyProof.Rows L2
/-! ### what is told of pieces keeps within its bounds -/
def tblP (xs : List CM) : CM := xs.foldl (fun t x => addC t (trueT x)) []
theorem bn_run {r : Int} (h1 : 1 ≤ r) {pl : CM} (h : ∀ e ∈ pl, isWt e.2 = true) : Bn r (runC r pl).1 (runC r pl).2.1 (runC r pl).2.2 (trueT pl) :=
  let B := run_bnd h1 h
  ⟨B.nd, B.ndt, B.pos, B.post, B.g0, B.tot, by have := B.sm; omega, B.lo, B.hi⟩
theorem bn_tell {r : Int} (h1 : 1 ≤ r) {xs : List CM} (h : ∀ x ∈ xs, ∀ e ∈ x, isWt e.2 = true) : Bn r (tellD r xs).1 (tellD r xs).2.1 (tellD r xs).2.2 (tblP xs) := by
  have go : ∀ (xs : List CM) (s : S3) (t : CM), Bn r s.1 s.2.1 s.2.2 t → (∀ x ∈ xs, ∀ e ∈ x, isWt e.2 = true) →
      Bn r (xs.foldl (fun s x => pourD r s (runC r x)) s).1 (xs.foldl (fun s x => pourD r s (runC r x)) s).2.1 (xs.foldl (fun s x => pourD r s (runC r x)) s).2.2 (xs.foldl (fun t x => addC t (trueT x)) t) := by
    intro xs
    induction xs with
    | nil => exact fun s t B _ => B
    | cons x xs ih =>
      intro s t B h
      have B2 := bn_run h1 (h x (List.mem_cons_self ..))
      exact ih _ _ (bn_cut (by omega) (bn_add (bn_perm (sortC_perm _) B) (bn_perm (sortC_perm _) B2))) fun y hy => h y (List.mem_cons_of_mem _ hy)
  exact go xs _ _ (bn_start r) h
theorem wsum_flat (n : Str) : ∀ xs : List CM, wsum xs.flatten n = (xs.map fun x => wsum x n).sum
  | [] => rfl
  | x :: xs => by rw [List.flatten_cons, wsum_app, wsum_flat n xs, List.map_cons, List.sum_cons]
theorem tbl_get {r : Int} (h1 : 1 ≤ r) {xs : List CM} (h : ∀ x ∈ xs, ∀ e ∈ x, isWt e.2 = true) (n : Str) : getD0 (tblP xs) n = wsum xs.flatten n := by
  have go : ∀ (xs : List CM) (t : CM), (∀ x ∈ xs, ∀ e ∈ x, isWt e.2 = true) → getD0 (xs.foldl (fun t x => addC t (trueT x)) t) n = getD0 t n + (xs.map fun x => wsum x n).sum := by
    intro xs
    induction xs with
    | nil => exact fun t _ => (Int.add_zero _).symm
    | cons x xs ih =>
      intro t h
      have B2 := run_bnd h1 (h x (List.mem_cons_self ..))
      rw [List.foldl_cons, ih _ fun y hy => h y (List.mem_cons_of_mem _ hy), get_add B2.ndt, true_get, List.map_cons, List.sum_cons]
      omega
  rw [wsum_flat]
  unfold tblP
  rw [go xs [] h]
  exact Int.zero_add _
theorem sum_flat : ∀ xs : List CM, sumC xs.flatten = (xs.map sumC).sum
  | [] => rfl
  | x :: xs => by rw [List.flatten_cons, sum_app, sum_flat xs, List.map_cons, List.sum_cons]
theorem tell_tot (r : Int) (xs : List CM) : (tellD r xs).2.2 = sumC xs.flatten := by
  have go : ∀ (xs : List CM) (s : S3), (xs.foldl (fun s x => pourD r s (runC r x)) s).2.2 = s.2.2 + (xs.map sumC).sum := by
    intro xs
    induction xs with
    | nil => exact fun s => (Int.add_zero _).symm
    | cons x xs ih =>
      intro s
      rw [List.foldl_cons, ih]
      show s.2.2 + (runC r x).2.2 + _ = _
      rw [run_tot, List.map_cons, List.sum_cons]
      omega
  rw [sum_flat]
  unfold tellD
  rw [go]
  exact Int.zero_add _
/-- which of the comings are covered -/
def Cov (pn : Nat) (pl : CM) (fs : List CM) (la : CM) : Prop := ∃ pre : CM, pl = pre ++ (fs ++ [la]).flatten ∧ (pre ≠ [] → fs.length = pn)
theorem cov_step {pc pn : Nat} {pl : CM} {fs : List CM} {la : CM} {e : Str × Int} (hc : fs.length ≤ pn) (h : Cov pn pl fs la) : Cov pn (pl ++ [e]) (stepP pc pn (fs, la) e).1 (stepP pc pn (fs, la) e).2 := by
  obtain ⟨pre, rfl, hp⟩ := h
  have base : pre ++ (fs ++ [la]).flatten ++ [e] = pre ++ (fs ++ [la ++ [e]]).flatten := by
    rw [List.flatten_append, List.flatten_append]
    simp
  unfold stepP
  split
  · by_cases hf : fs.length + 1 ≤ pn
    · refine ⟨pre, ?_, fun hne => ?_⟩
      · rw [base]
        have e1 : lastn pn (fs ++ [la ++ [e]]) = fs ++ [la ++ [e]] := by
          unfold lastn
          rw [List.length_append, show fs.length + [la ++ [e]].length - pn = 0 by show fs.length + 1 - pn = 0; omega, List.drop_zero]
        rw [e1]
        simp
      · have := hp hne
        omega
    · have hl : fs.length = pn := by omega
      have e1 : lastn pn (fs ++ [la ++ [e]]) = (fs ++ [la ++ [e]]).drop 1 := by
        unfold lastn
        rw [List.length_append, show fs.length + [la ++ [e]].length - pn = 1 by show fs.length + 1 - pn = 1; omega]
      refine ⟨pre ++ ((fs ++ [la ++ [e]]).take 1).flatten, ?_, fun _ => ?_⟩
      · have e2 : (fs ++ [la ++ [e]]).flatten = ((fs ++ [la ++ [e]]).take 1).flatten ++ ((fs ++ [la ++ [e]]).drop 1).flatten := by rw [← List.flatten_append, List.take_append_drop]
        have e3 : ((fs ++ [la ++ [e]]).drop 1 ++ [([] : CM)]).flatten = ((fs ++ [la ++ [e]]).drop 1).flatten := by
          rw [List.flatten_append]
          exact List.append_nil _
        dsimp only
        rw [base, e1, e3, List.append_assoc, ← e2]
      · rw [e1, List.length_drop, List.length_append]
        show fs.length + 1 - 1 = pn
        omega
  · exact ⟨pre, base, hp⟩
theorem flat_len {pc : Nat} : ∀ {fs : List CM}, (∀ x ∈ fs, x.length = pc) → fs.flatten.length = fs.length * pc
  | [], _ => by rw [List.length_nil, Nat.zero_mul]; rfl
  | x :: fs, h => by
    rw [List.flatten_cons, List.length_append, h x (List.mem_cons_self ..), flat_len fun y hy => h y (List.mem_cons_of_mem _ hy), List.length_cons, Nat.succ_mul]
    omega
end DK

set_option Elab.async false
set_option linter.all false
set_option maxRecDepth 100000
set_option maxHeartbeats 4000000
namespace DK
open PySem PySem.Spec PyProof.Rows L2
/-! ### numbers and rows as texts -/
abbrev figures : Str := "0123456789"
def digC (c : Nat) : Bool := decide (48 ≤ c ∧ c ≤ 57)
abbrev mostN : Int := 10000000000000000000000000000000000000000000000000000000000000000000000
def numS (i : Int) : Str := Str.ofString (toString i)
theorem cs_num (n : Nat) : cs (numS (n : Int)) = TL.numL n := TL.tl_num n
theorem figures_contains (c : Nat) : figures.cps.contains c = digC c := by
  have e : figures.cps = #[48, 49, 50, 51, 52, 53, 54, 55, 56, 57] := by decide +kernel
  rw [e]
  unfold digC
  rcases Nat.lt_or_ge c 128 with h | h
  · revert c
    decide +kernel
  · have h1 : ¬ (48 ≤ c ∧ c ≤ 57) := by omega
    rw [decide_eq_false h1]
    refine Bool.eq_false_iff.mpr fun hm => ?_
    rw [Array.contains_iff] at hm
    simp only [List.mem_toArray, List.mem_cons, List.not_mem_nil, or_false] at hm
    omega
theorem strip_figures (x : Str) : decide (V.str (PySem.Txt.stripChars x figures) = V.str "") = x.cps.toList.all digC := by
  have e0 : ("" : Str) = Str.empty := by decide +kernel
  have e1 : (fun c => figures.cps.contains c) = digC := funext figures_contains
  have h := strip_empty_iff digC x
  unfold PySem.Txt.stripChars
  rw [show figures.cps.contains = digC from e1, e0]
  cases ha : x.cps.toList.all digC with
  | true =>
    rw [h.mpr ha]
    simp
  | false =>
    refine decide_eq_false fun e => ?_
    have := h.mp (V.str.inj e)
    rw [ha] at this
    cases this
theorem digs_of {l : List Nat} (h : l.all digC = true) : NumText.AllDigits l := fun c hc => of_decide_eq_true (List.all_eq_true.mp h c hc)
theorem of_digs {l : List Nat} (h : NumText.AllDigits l) : l.all digC = true := List.all_eq_true.mpr fun c hc => decide_eq_true (h c hc)
/-- the number that a word is, or none -/
def numOf (z : Str) (lo hi : Int) : Option Int :=
  if (decide (0 < z.length ∧ z.length < 73) && (cs z).all digC && !(decide ((cs z)[0]? = some 48) && decide (1 < z.length))) = true then
    if lo ≤ ((NumText.digitsVal (cs z) : Nat) : Int) ∧ ((NumText.digitsVal (cs z) : Nat) : Int) ≤ hi then some ((NumText.digitsVal (cs z) : Nat) : Int) else none
  else none
theorem num_head : ∀ (n : Nat), 1 ≤ n → (TL.numL n)[0]? ≠ some 48 := by
  intro n
  induction n using Nat.strongRecOn with
  | _ n ih =>
    intro h1
    by_cases h : n < 10
    · rw [TL.numL_lt h]
      intro e
      have := Option.some.inj e
      omega
    · rw [TL.numL_step (by omega)]
      have hne := TL.numL_ne (n / 10)
      rw [List.getElem?_append_left (List.length_pos_iff.mpr hne)]
      exact ih (n / 10) (by omega) (by omega)
theorem num_len (n : Nat) : (numS (n : Int)).length = (TL.numL n).length := by rw [cs_len, cs_num]
theorem num_short {n : Nat} (h : (n : Int) ≤ mostN) : (TL.numL n).length ≤ 71 := TL.numL_len (by decide) (by
  have h2 : (n : Int) ≤ 10000000000000000000000000000000000000000000000000000000000000000000000 := h
  have : n ≤ 10000000000000000000000000000000000000000000000000000000000000000000000 := by omega
  refine Nat.lt_of_le_of_lt this ?_
  decide +kernel)
theorem numOf_num {n : Nat} {lo hi : Int} (hm : (n : Int) ≤ mostN) (h1 : lo ≤ (n : Int)) (h2 : (n : Int) ≤ hi) : numOf (numS (n : Int)) lo hi = some (n : Int) := by
  have hl := num_short hm
  have hp : 0 < (TL.numL n).length := List.length_pos_iff.mpr (TL.numL_ne n)
  have hd := of_digs (TL.numL_digits n)
  have c3 : (decide ((TL.numL n)[0]? = some 48) && decide (1 < (TL.numL n).length)) = false := by
    by_cases h0 : n = 0
    · subst h0
      rfl
    · rw [decide_eq_false (num_head n (by omega)), Bool.false_and]
  unfold numOf
  rw [num_len, cs_num, TL.numL_val, decide_eq_true (show 0 < (TL.numL n).length ∧ (TL.numL n).length < 73 by omega), hd, c3]
  exact (if_pos rfl).trans (if_pos ⟨h1, h2⟩)
/-! ### the text of a desk -/
def headT (r g t : Int) : Str := Txt.join " " [("desk" : Str), numS r, numS g, numS t]
def rowT (e : Str × Int) : Str := e.1 ++ " " ++ numS e.2
def rowsT (r : Int) (c : CM) (g t : Int) : List Str := headT r g t :: c.map rowT
def textT (r : Int) (c : CM) (g t : Int) : Str := Txt.join "\n" (rowsT r c g t ++ [("" : Str)])
def textF (r : Int) (c : CM) (g t : Int) : Str := c.foldl (fun acc e => acc ++ (rowT e ++ "\n")) (headT r g t ++ "\n")
theorem joinL_snoc (S : List Nat) : ∀ (ps : List (List Nat)) (p : List Nat), ps ≠ [] → TL.joinL S (ps ++ [p]) = TL.joinL S ps ++ (S ++ p)
  | [], _, h => absurd rfl h
  | [a], p, _ => rfl
  | a :: b :: r, p, _ => by
    show a ++ (S ++ TL.joinL S ((b :: r) ++ [p])) = a ++ (S ++ TL.joinL S (b :: r)) ++ (S ++ p)
    rw [joinL_snoc S (b :: r) p (by simp), List.append_assoc, List.append_assoc]
theorem cs_join (y : Str) (ps : List Str) : cs (Txt.join y ps) = TL.joinL (cs y) (ps.map cs) := by
  rw [TL.join_eq]
  exact TL.tl_join y ps
theorem join_snoc (y : Str) (ps : List Str) (h : ps ≠ []) : Txt.join y (ps ++ [("" : Str)]) = Txt.join y ps ++ y := by
  refine cs_inj ?_
  rw [cs_join, List.map_append, cs_app, cs_join]
  have e : cs ("" : Str) = [] := by decide +kernel
  show TL.joinL (cs y) (ps.map cs ++ [cs ""]) = _
  rw [joinL_snoc _ _ _ (fun z => h (List.map_eq_nil_iff.mp z)), e, List.append_nil]
theorem text_join (r : Int) (c : CM) (g t : Int) : textT r c g t = Txt.join "\n" (rowsT r c g t) ++ "\n" := join_snoc _ _ (by unfold rowsT; simp)
theorem join_more (y : Str) (ps : List Str) (p : Str) (h : ps ≠ []) : Txt.join y (ps ++ [p]) = Txt.join y ps ++ (y ++ p) := by
  refine cs_inj ?_
  rw [cs_join, List.map_append, cs_app, cs_app, cs_join]
  exact joinL_snoc _ _ _ (fun z => h (List.map_eq_nil_iff.mp z))
theorem app_assoc (a b c : Str) : a ++ b ++ c = a ++ (b ++ c) := cs_inj (by rw [cs_app, cs_app, cs_app, cs_app, List.append_assoc])
theorem text_snoc (r : Int) (c : CM) (e : Str × Int) (g t : Int) : textT r (c ++ [e]) g t = textT r c g t ++ (rowT e ++ "\n") := by
  rw [text_join, text_join]
  have h : rowsT r (c ++ [e]) g t = rowsT r c g t ++ [rowT e] := by unfold rowsT; rw [List.map_append]; rfl
  rw [h, join_more _ _ _ (by unfold rowsT; simp), app_assoc, app_assoc, app_assoc]
theorem text_nil (r g t : Int) : textT r [] g t = headT r g t ++ "\n" := by
  rw [text_join]
  rfl
theorem cs_row (e : Str × Int) : cs (rowT e) = cs e.1 ++ (32 :: cs (numS e.2)) := by
  unfold rowT
  rw [cs_app, cs_app]
  have : cs (" " : Str) = [32] := by decide +kernel
  rw [this, List.append_assoc]
  rfl
theorem row_join (e : Str × Int) : rowT e = Txt.join " " [e.1, numS e.2] := by
  refine cs_inj ?_
  rw [cs_row, cs_join]
  have : cs (" " : Str) = [32] := by decide +kernel
  rw [this]
  rfl
/-- what a desk has that a text can tell -/
structure Good (r : Int) (c : CM) (g t : Int) : Prop where
  r1 : 1 ≤ r
  r2 : r ≤ 50
  nm : ∀ e ∈ c, isName e.1 = true
  asc : c.Pairwise fun e f => slt e.1 f.1 = true
  lo : ∀ e ∈ c, 1 ≤ e.2
  hi : ∀ e ∈ c, e.2 ≤ mostN
  ln : (c.length : Int) ≤ r
  g0 : 0 ≤ g
  g1 : g ≤ mostN
  t0 : 0 ≤ t
  t1 : t ≤ mostN
  sm : sumC c + (r + 1) * g ≤ t
theorem nat_of {i : Int} (h : 0 ≤ i) : ∃ n : Nat, i = (n : Int) := ⟨i.toNat, by omega⟩
theorem num_free {i : Int} (h : 0 ≤ i) {s : Nat} (hs : s < 48 ∨ 57 < s) : s ∉ cs (numS i) := by
  obtain ⟨n, rfl⟩ := nat_of h
  rw [cs_num]
  exact TL.numL_free hs
theorem name_free {n : Str} (h : isName n = true) {s : Nat} (hs : s < 97) : s ∉ cs n := fun hm => by
  have := ((isName_iff n).mp h).2.2 s hm
  omega
theorem desk_free {s : Nat} (hs : s < 97) : s ∉ cs ("desk" : Str) := by
  have : cs ("desk" : Str) = [100, 101, 115, 107] := by decide +kernel
  rw [this]
  intro h
  simp only [List.mem_cons, List.not_mem_nil, or_false] at h
  omega
theorem split_head {r g t : Int} (hr : 0 ≤ r) (hg : 0 ≤ g) (ht : 0 ≤ t) : Txt.split (headT r g t) " " = [("desk" : Str), numS r, numS g, numS t] := by
  refine TL.split_join (s := 32) (S := []) (by decide +kernel) (by decide +kernel) (by simp) fun p hp => ?_
  simp only [List.mem_cons, List.not_mem_nil, or_false] at hp
  rcases hp with rfl | rfl | rfl | rfl
  · exact desk_free (by decide)
  · exact num_free hr (.inl (by decide))
  · exact num_free hg (.inl (by decide))
  · exact num_free ht (.inl (by decide))
theorem split_row {e : Str × Int} (hn : isName e.1 = true) (h0 : 0 ≤ e.2) : Txt.split (rowT e) " " = [e.1, numS e.2] := by
  rw [row_join]
  refine TL.split_join (s := 32) (S := []) (by decide +kernel) (by decide +kernel) (by simp) fun p hp => ?_
  simp only [List.mem_cons, List.not_mem_nil, or_false] at hp
  rcases hp with rfl | rfl
  · exact name_free hn (by decide)
  · exact num_free h0 (.inl (by decide))
theorem head_free {r g t : Int} (hr : 0 ≤ r) (hg : 0 ≤ g) (ht : 0 ≤ t) : 10 ∉ cs (headT r g t) := by
  unfold headT
  rw [cs_join]
  have e : cs (" " : Str) = [32] := by decide +kernel
  rw [e]
  show 10 ∉ cs "desk" ++ ([32] ++ (cs (numS r) ++ ([32] ++ (cs (numS g) ++ ([32] ++ cs (numS t))))))
  intro h
  simp only [List.mem_append, List.mem_cons, List.not_mem_nil, or_false] at h
  rcases h with h | h | h | h | h | h | h
  · exact desk_free (by decide) h
  · cases h
  · exact num_free hr (.inl (by decide)) h
  · cases h
  · exact num_free hg (.inl (by decide)) h
  · cases h
  · exact num_free ht (.inl (by decide)) h
theorem row_free {e : Str × Int} (hn : isName e.1 = true) (h0 : 0 ≤ e.2) : 10 ∉ cs (rowT e) := by
  rw [cs_row]
  intro h
  rcases List.mem_append.mp h with h | h
  · exact name_free hn (by decide) h
  · rcases List.mem_cons.mp h with h | h
    · cases h
    · exact num_free h0 (.inl (by decide)) h
theorem split_text {r : Int} {c : CM} {g t : Int} (G : Good r c g t) : Txt.split (textT r c g t) "\n" = rowsT r c g t ++ [("" : Str)] := by
  refine TL.split_join (s := 10) (S := []) (by decide +kernel) (by decide +kernel) (by simp) fun p hp => ?_
  rcases List.mem_append.mp hp with h | h
  · rcases List.mem_cons.mp h with rfl | h
    · exact head_free (by have := G.r1; omega) G.g0 G.t0
    · obtain ⟨e, he, rfl⟩ := List.mem_map.mp h
      exact row_free (G.nm e he) (by have := G.lo e he; omega)
  · rw [List.mem_singleton.mp h]
    have : cs ("" : Str) = [] := by decide +kernel
    show 10 ∉ cs ("" : Str)
    rw [this]
    exact fun z => nomatch z
/-! ### how long they are -/
theorem str_len_app (a b : Str) : (a ++ b).length = a.length + b.length := by rw [cs_len, cs_app, List.length_append, ← cs_len, ← cs_len]
theorem num_len_le {i : Int} (h0 : 0 ≤ i) (h : i ≤ mostN) : (numS i).length ≤ 71 := by
  obtain ⟨n, rfl⟩ := nat_of h0
  rw [num_len]
  exact num_short h
theorem name_len {n : Str} (h : isName n = true) : 1 ≤ n.length ∧ n.length ≤ 8 := by
  have := (isName_iff n).mp h
  rw [cs_len]
  exact ⟨this.1, this.2.1⟩
theorem row_len {e : Str × Int} (hn : isName e.1 = true) (h0 : 0 ≤ e.2) (h : e.2 ≤ mostN) : (rowT e).length ≤ 80 := by
  have h1 := name_len hn
  have h2 := num_len_le h0 h
  have h3 : (" " : Str).length = 1 := by decide +kernel
  unfold rowT
  rw [str_len_app, str_len_app, h3]
  omega
theorem head_len {r g t : Int} (hr : 0 ≤ r) (hr2 : r ≤ mostN) (hg : 0 ≤ g) (hg2 : g ≤ mostN) (ht : 0 ≤ t) (ht2 : t ≤ mostN) : (headT r g t).length ≤ 250 := by
  have e : cs (" " : Str) = [32] := by decide +kernel
  have ed : (cs ("desk" : Str)).length = 4 := by decide +kernel
  have a1 := num_len_le hr hr2
  have a2 := num_len_le hg hg2
  have a3 := num_len_le ht ht2
  rw [cs_len] at a1 a2 a3
  rw [cs_len]
  unfold headT
  rw [cs_join, e]
  show (cs "desk" ++ ([32] ++ (cs (numS r) ++ ([32] ++ (cs (numS g) ++ ([32] ++ cs (numS t))))))).length ≤ 250
  simp only [List.length_append, List.length_cons, List.length_nil, ed]
  omega
theorem text_len {r g t : Int} (hr : 0 ≤ r) (hr2 : r ≤ mostN) (hg : 0 ≤ g) (hg2 : g ≤ mostN) (ht : 0 ≤ t) (ht2 : t ≤ mostN) (c : CM) (h : ∀ e ∈ c, isName e.1 = true ∧ 0 ≤ e.2 ∧ e.2 ≤ mostN) : (textT r c g t).length ≤ 251 + 81 * c.length := by
  have hn : ("\n" : Str).length = 1 := by decide +kernel
  have go : ∀ (k : Nat), k ≤ c.length → (textT r (c.take k) g t).length ≤ 251 + 81 * k := by
    intro k
    induction k with
    | zero =>
      intro _
      have := head_len hr hr2 hg hg2 ht ht2
      rw [List.take_zero, text_nil, str_len_app, hn]
      omega
    | succ k ih =>
      intro hk
      have ih := ih (by omega)
      have hm := h c[k] (List.getElem_mem _)
      have := row_len hm.1 hm.2.1 hm.2.2
      rw [List.take_succ_eq_append_getElem (by omega), text_snoc, str_len_app, str_len_app, hn]
      omega
  have := go c.length (Nat.le_refl _)
  rw [List.take_of_length_le (Nat.le_refl _)] at this
  exact this
end DK

set_option Elab.async false
set_option linter.all false
set_option maxRecDepth 100000
set_option maxHeartbeats 4000000
namespace DK
open PySem PySem.Spec PyProof.Rows L2
/-! ### a text read -/
def headOf (z : Str) : Option (Int × Int × Int) :=
  match Txt.split z " " with
  | [a, b, c, d] => if a = ("desk" : Str) then
      match numOf b 1 50, numOf c 0 mostN, numOf d 0 mostN with
      | some r, some g, some t => some (r, g, t)
      | _, _, _ => none
    else none
  | _ => none
def pairOf (z : Str) : Option (Str × Int) :=
  match Txt.split z " " with
  | [a, b] => if isName a = true then (numOf b 1 mostN).map fun n => (a, n) else none
  | _ => none
theorem head_of_text {r g t : Int} (r1 : 1 ≤ r) (r2 : r ≤ 50) (g0 : 0 ≤ g) (g1 : g ≤ mostN) (t0 : 0 ≤ t) (t1 : t ≤ mostN) : headOf (headT r g t) = some (r, g, t) := by
  unfold headOf
  rw [split_head (by omega) g0 t0]
  obtain ⟨a, rfl⟩ := nat_of (show 0 ≤ r by omega)
  obtain ⟨b, rfl⟩ := nat_of g0
  obtain ⟨c, rfl⟩ := nat_of t0
  have m : (50 : Int) ≤ mostN := by decide
  dsimp only
  rw [if_pos rfl, numOf_num (by omega) r1 r2, numOf_num g1 g0 g1, numOf_num t1 t0 t1]
theorem pair_of_row {e : Str × Int} (hn : isName e.1 = true) (h1 : 1 ≤ e.2) (h2 : e.2 ≤ mostN) : pairOf (rowT e) = some e := by
  unfold pairOf
  rw [split_row hn (by omega)]
  obtain ⟨n, v⟩ := e
  obtain ⟨a, rfl⟩ := nat_of (show 0 ≤ v by dsimp only at h1; omega)
  dsimp only at hn h1 h2 ⊢
  rw [if_pos hn, numOf_num h2 h1 h2]
  rfl
/-- a part is no longer than the whole -/
theorem joinL_le {S : List Nat} : ∀ {ps : List (List Nat)} {p : List Nat}, p ∈ ps → p.length ≤ (TL.joinL S ps).length
  | [], _, h => nomatch h
  | [a], p, h => by
    rw [List.mem_singleton.mp h]
    exact Nat.le_refl _
  | a :: b :: r, p, h => by
    show p.length ≤ (a ++ (S ++ TL.joinL S (b :: r))).length
    rw [List.length_append, List.length_append]
    rcases List.mem_cons.mp h with rfl | h
    · omega
    · have := joinL_le (S := S) h
      omega
theorem split_le {x y p : Str} (h : p ∈ Txt.split x y) : p.length ≤ x.length := by
  have e := StrLaws.join_split x y
  have h2 : cs x = TL.joinL (cs y) ((Txt.split x y).map cs) := by
    rw [← TL.tl_join, e]
  rw [cs_len, cs_len, h2]
  exact joinL_le (List.mem_map.mpr ⟨p, h, rfl⟩)
theorem figs_int {z : Str} (h0 : 0 < z.length) (h1 : z.length < 73) (hd : (cs z).all digC = true) : intText? z = some ((NumText.digitsVal (cs z) : Nat) : Int) ∧ z.length ≤ 640 := by
  refine ⟨intText_digits (digs_of hd) (fun e => ?_) (by omega), by omega⟩
  rw [cs_len] at h0
  rw [show cs z = [] from e] at h0
  exact absurd h0 (by decide)
theorem slt_le {a b : Str} : (!decide (b.cps.toList < a.cps.toList)) = !slt b a := rfl
theorem asc_sort {c : CM} (h : c.Pairwise fun e f => slt e.1 f.1 = true) : sortC c = c ∧ (keysC c).Nodup := by
  have nd : (keysC c).Nodup := by
    unfold keysC
    exact List.pairwise_map.mpr (h.imp fun {a b} h e => by rw [e, slt_irr] at h; cases h)
  refine ⟨?_, nd⟩
  refine (sortC_eq nd (List.Perm.refl _) (h.imp fun {a b} h => ?_)).symm
  unfold sle
  rw [slt_asym _ _ h]
  rfl
theorem sort_asc {c : CM} (nd : (keysC c).Nodup) : (sortC c).Pairwise fun e f => slt e.1 f.1 = true := by
  have h1 := sortC_asc c
  have h2 : (sortC c).Pairwise fun e f => e.1 ≠ f.1 := by
    have := sortC_nodup nd
    unfold keysC at this
    exact List.pairwise_map.mp this
  refine (h1.and h2).imp fun {a b} h => ?_
  cases hs : slt a.1 b.1 with
  | true => rfl
  | false =>
    have h3 : sle a.1 b.1 = true := h.1
    unfold sle at h3
    have h4 : slt b.1 a.1 = false := by
      cases hh : slt b.1 a.1 with
      | true => rw [hh] at h3; cases h3
      | false => rfl
    exact absurd (slt_tot _ _ hs h4) h.2
end DK

set_option Elab.async false
set_option linter.all false
set_option maxRecDepth 100000
set_option maxHeartbeats 4000000
namespace DK
open PySem PySem.Spec PyProof.Rows L2
/-! ### a desk that a text can tell -/
structure Tel (nm : List Str) (r : Int) (c : CM) (g t : Int) : Prop where
  nm : ∀ n ∈ keysC c, n ∈ nm
  pc : posC c
  g0 : 0 ≤ g
  sm : sumC c + (r + 1) * g ≤ t
  t1 : t ≤ mostN
theorem le_sum {c : CM} (h : posC c) : ∀ e ∈ c, e.2 ≤ sumC c := by
  induction c with
  | nil => exact fun _ h => nomatch h
  | cons x c ih =>
    have hc : posC c := fun e he => h e (List.mem_cons_of_mem _ he)
    have h0 := sum_nonneg hc
    have hx := h x (List.mem_cons_self ..)
    intro e he
    rw [sumC_cons]
    rcases List.mem_cons.mp he with rfl | he
    · omega
    · have := ih hc e he
      omega
section
variable {nm : List Str} {r : Int} {c : CM} {g t : Int}
theorem Tel.rg (T : Tel nm r c g t) (h1 : 1 ≤ r) : sumC c ≤ t ∧ g ≤ t ∧ 0 ≤ t := by
  have h0 := sum_nonneg T.pc
  have h2 : g * 1 ≤ g * (r + 1) := Int.mul_le_mul_of_nonneg_left (by omega) T.g0
  have h3 := T.sm
  rw [Int.mul_comm (r + 1) g] at h3
  have := T.g0
  omega
theorem Tel.v1 (T : Tel nm r c g t) (h1 : 1 ≤ r) : ∀ e ∈ c, e.2 ≤ mostN := fun e he => by
  have := le_sum T.pc e he
  have := (T.rg h1).1
  have := T.t1
  omega
theorem Tel.g1 (T : Tel nm r c g t) (h1 : 1 ≤ r) : g ≤ mostN := by
  have := (T.rg h1).2.1
  have := T.t1
  omega
theorem Tel.perm {c' : CM} (T : Tel nm r c g t) (p : c'.Perm c) (hs : sumC c' = sumC c) : Tel nm r c' g t := ⟨fun n hn => T.nm n ((perm_keys p).mem_iff.mp hn), pos_perm p T.pc, T.g0, by rw [hs]; exact T.sm, T.t1⟩
theorem Tel.good (T : Tel nm r c g t) (ok : ∀ n ∈ nm, isName n = true) (nd : (keysC c).Nodup) (ln : (c.length : Int) ≤ r) (r1 : 1 ≤ r) (r2 : r ≤ 50) (hs : sumC (sortC c) = sumC c) : Good r (sortC c) g t := by
  have mem : ∀ e ∈ sortC c, e ∈ c := fun e he => (sortC_perm c).mem_iff.mp he
  refine ⟨r1, r2, fun e he => ok _ (T.nm _ (List.mem_map.mpr ⟨e, mem e he, rfl⟩)), sort_asc nd, fun e he => ?_, fun e he => T.v1 r1 e (mem e he), ?_, T.g0, T.g1 r1, (T.rg r1).2.2, T.t1, ?_⟩
  · have := T.pc e (mem e he)
    omega
  · rw [sortC_len]
    exact ln
  · rw [hs]
    exact T.sm
theorem Tel.less {r' : Int} (T : Tel nm r c g t) (h0 : 1 ≤ r') (h : r' ≤ r) (p : (sortC c).Perm c) (hs : sumC (sortC c) = sumC c) : Tel nm r' (lowered (sortC c) (cutAt r' (sortC c))) (g + cutAt r' (sortC c)) t := by
  have ps := pos_perm p T.pc
  have cs := cut_sum (room := r') (by omega) ps
  have c0 := cut_pos (room := r') (by omega) ps
  refine ⟨fun n hn => T.nm n ((perm_keys p).mem_iff.mp ((lowered_keys _ _).subset hn)), pos_lowered, by have := T.g0; omega, ?_, T.t1⟩
  have h1 : (r' + 1) * g ≤ (r + 1) * g := Int.mul_le_mul_of_nonneg_right (by omega) T.g0
  have h2 := T.sm
  rw [Int.mul_add]
  omega
end
theorem sum_le_len {B : Int} : ∀ {pl : CM}, (∀ e ∈ pl, e.2 ≤ B) → sumC pl ≤ pl.length * B
  | [], _ => by rw [List.length_nil]; show (0 : Int) ≤ _; rw [show ((0 : Nat) : Int) = 0 from rfl, Int.zero_mul]; exact Int.le_refl _
  | e :: pl, h => by
    have ih := sum_le_len (pl := pl) fun x hx => h x (List.mem_cons_of_mem _ hx)
    have := h e (List.mem_cons_self ..)
    rw [sumC_cons, List.length_cons, Int.natCast_succ, Int.add_mul, Int.one_mul]
    omega
theorem run_tel {nm : List Str} {r : Int} (h1 : 1 ≤ r) {pl : CM} (hl : pl.length ≤ 63) (h : okX nm pl) : Tel nm r (runC r pl).1 (runC r pl).2.1 (runC r pl).2.2 := by
  have hw : ∀ e ∈ pl, isWt e.2 = true := fun e he => (h e he).2
  have B := run_bnd h1 hw
  refine ⟨fun n hn => ?_, B.pos, B.g0, by have := B.sm; omega, ?_⟩
  · obtain ⟨e, he, rfl⟩ := run_keys hn
    exact (h e he).1
  · rw [run_tot]
    have h2 : sumC pl ≤ pl.length * great := sum_le_len fun e he => (of_decide_eq_true (hw e he)).2
    have h3 : (pl.length : Int) * great ≤ 63 * great := Int.mul_le_mul_of_nonneg_right (by omega) (by decide)
    have h4 : 63 * great ≤ mostN := by decide
    omega
theorem sum_len_le {b : Nat} : ∀ {l : List Str}, (∀ x ∈ l, x.length ≤ b) → (l.map (·.length)).sum ≤ l.length * b
  | [], _ => by rw [List.length_nil, Nat.zero_mul]; exact Nat.le_refl _
  | x :: l, h => by
    have ih := sum_len_le (l := l) fun y hy => h y (List.mem_cons_of_mem _ hy)
    have := h x (List.mem_cons_self ..)
    rw [List.map_cons, List.sum_cons, List.length_cons, Nat.succ_mul]
    omega
end DK

set_option maxHeartbeats 8000000
namespace DK
open PySem PySem.Spec PyProof.Rows L2
def top (i : Nat) : Stmt := PySem.Challenge.pw_drawerdesk_k14_whole_goes_on.main.body.getD i (.Pass ⟨0, 0, 0, 0⟩)
abbrev sNoTextInit : Stmt := inClass (top 6) 0
abbrev pNoTextInit : List Str := ["self", "row"]
abbrev nNoTextInit : List Str := ["self", "row"]
theorem cNoTextInit : FnScope nNoTextInit pNoTextInit (defScope sNoTextInit) := ⟨rfl, rfl, rfl, by decide +kernel, rfl, by decide +kernel, by decide +kernel⟩
abbrev sIsWhole : Stmt := top 12
abbrev pIsWhole : List Str := ["thing"]
abbrev nIsWhole : List Str := ["thing"]
theorem cIsWhole : FnScope nIsWhole pIsWhole (defScope sIsWhole) := ⟨rfl, rfl, rfl, by decide +kernel, rfl, by decide +kernel, by decide +kernel⟩
abbrev sIsName : Stmt := top 13
abbrev pIsName : List Str := ["thing"]
abbrev nIsName : List Str := ["thing"]
theorem cIsName : FnScope nIsName pIsName (defScope sIsName) := ⟨rfl, rfl, rfl, by decide +kernel, rfl, by decide +kernel, by decide +kernel⟩
abbrev sNeedComing : Stmt := top 14
abbrev pNeedComing : List Str := ["name", "weight"]
abbrev nNeedComing : List Str := ["name", "weight"]
theorem cNeedComing : FnScope nNeedComing pNeedComing (defScope sNeedComing) := ⟨rfl, rfl, rfl, by decide +kernel, rfl, by decide +kernel, by decide +kernel⟩
abbrev sNeedDrawers : Stmt := top 15
abbrev pNeedDrawers : List Str := ["drawers"]
abbrev nNeedDrawers : List Str := ["drawers"]
theorem cNeedDrawers : FnScope nNeedDrawers pNeedDrawers (defScope sNeedDrawers) := ⟨rfl, rfl, rfl, by decide +kernel, rfl, by decide +kernel, by decide +kernel⟩
abbrev sLowered : Stmt := top 16
abbrev pLowered : List Str := ["counts", "less"]
abbrev nLowered : List Str := ["counts", "less", "found", "name", "count"]
theorem cLowered : FnScope nLowered pLowered (defScope sLowered) := ⟨rfl, rfl, rfl, by decide +kernel, rfl, by decide +kernel, by decide +kernel⟩
abbrev sDInit : Stmt := inClass (top 17) 0
abbrev pDInit : List Str := ["self", "drawers"]
abbrev nDInit : List Str := ["self", "drawers"]
theorem cDInit : FnScope nDInit pDInit (defScope sDInit) := ⟨rfl, rfl, rfl, by decide +kernel, rfl, by decide +kernel, by decide +kernel⟩
abbrev sDCome : Stmt := inClass (top 17) 1
abbrev pDCome : List Str := ["self", "name", "weight"]
abbrev nDCome : List Str := ["self", "name", "weight", "less"]
theorem cDCome : FnScope nDCome pDCome (defScope sDCome) := ⟨rfl, rfl, rfl, by decide +kernel, rfl, by decide +kernel, by decide +kernel⟩
abbrev sDShown : Stmt := inClass (top 17) 2
abbrev pDShown : List Str := ["self"]
abbrev nDShown : List Str := ["self"]
theorem cDShown : FnScope nDShown pDShown (defScope sDShown) := ⟨rfl, rfl, rfl, by decide +kernel, rfl, by decide +kernel, by decide +kernel⟩
abbrev sDLost : Stmt := inClass (top 17) 3
abbrev pDLost : List Str := ["self"]
abbrev nDLost : List Str := ["self"]
theorem cDLost : FnScope nDLost pDLost (defScope sDLost) := ⟨rfl, rfl, rfl, by decide +kernel, rfl, by decide +kernel, by decide +kernel⟩
abbrev sDWeight : Stmt := inClass (top 17) 4
abbrev pDWeight : List Str := ["self"]
abbrev nDWeight : List Str := ["self"]
theorem cDWeight : FnScope nDWeight pDWeight (defScope sDWeight) := ⟨rfl, rfl, rfl, by decide +kernel, rfl, by decide +kernel, by decide +kernel⟩
abbrev sDDrawers : Stmt := inClass (top 17) 5
abbrev pDDrawers : List Str := ["self"]
abbrev nDDrawers : List Str := ["self"]
theorem cDDrawers : FnScope nDDrawers pDDrawers (defScope sDDrawers) := ⟨rfl, rfl, rfl, by decide +kernel, rfl, by decide +kernel, by decide +kernel⟩
abbrev sDLeast : Stmt := inClass (top 17) 6
abbrev pDLeast : List Str := ["self", "name"]
abbrev nDLeast : List Str := ["self", "name"]
theorem cDLeast : FnScope nDLeast pDLeast (defScope sDLeast) := ⟨rfl, rfl, rfl, by decide +kernel, rfl, by decide +kernel, by decide +kernel⟩
abbrev sDMost : Stmt := inClass (top 17) 7
abbrev pDMost : List Str := ["self", "name"]
abbrev nDMost : List Str := ["self", "name"]
theorem cDMost : FnScope nDMost pDMost (defScope sDMost) := ⟨rfl, rfl, rfl, by decide +kernel, rfl, by decide +kernel, by decide +kernel⟩
abbrev sDMaybe : Stmt := inClass (top 17) 8
abbrev pDMaybe : List Str := ["self"]
abbrev nDMaybe : List Str := ["self", "name"]
theorem cDMaybe : FnScope nDMaybe pDMaybe (defScope sDMaybe) := ⟨rfl, rfl, rfl, by decide +kernel, rfl, by decide +kernel, by decide +kernel⟩
abbrev sDSurely : Stmt := inClass (top 17) 9
abbrev pDSurely : List Str := ["self"]
abbrev nDSurely : List Str := ["self", "name"]
theorem cDSurely : FnScope nDSurely pDSurely (defScope sDSurely) := ⟨rfl, rfl, rfl, by decide +kernel, rfl, by decide +kernel, by decide +kernel⟩
abbrev sDeskOf : Stmt := top 18
abbrev pDeskOf : List Str := ["drawers", "counts", "gone", "total"]
abbrev nDeskOf : List Str := ["drawers", "counts", "gone", "total", "found", "falling", "less"]
theorem cDeskOf : FnScope nDeskOf pDeskOf (defScope sDeskOf) := ⟨rfl, rfl, rfl, by decide +kernel, rfl, by decide +kernel, by decide +kernel⟩
abbrev sWritten : Stmt := top 22
abbrev pWritten : List Str := ["desk"]
abbrev nWritten : List Str := ["desk", "found", "name", "count"]
theorem cWritten : FnScope nWritten pWritten (defScope sWritten) := ⟨rfl, rfl, rfl, by decide +kernel, rfl, by decide +kernel, by decide +kernel⟩
abbrev sNumberOf : Stmt := top 23
abbrev pNumberOf : List Str := ["word", "least", "most"]
abbrev nNumberOf : List Str := ["word", "least", "most", "number"]
theorem cNumberOf : FnScope nNumberOf pNumberOf (defScope sNumberOf) := ⟨rfl, rfl, rfl, by decide +kernel, rfl, by decide +kernel, by decide +kernel⟩
abbrev sHeadOf : Stmt := top 24
abbrev pHeadOf : List Str := ["row"]
abbrev nHeadOf : List Str := ["row", "words", "found"]
theorem cHeadOf : FnScope nHeadOf pHeadOf (defScope sHeadOf) := ⟨rfl, rfl, rfl, by decide +kernel, rfl, by decide +kernel, by decide +kernel⟩
abbrev sPairOf : Stmt := top 25
abbrev pPairOf : List Str := ["row"]
abbrev nPairOf : List Str := ["row", "words", "count"]
theorem cPairOf : FnScope nPairOf pPairOf (defScope sPairOf) := ⟨rfl, rfl, rfl, by decide +kernel, rfl, by decide +kernel, by decide +kernel⟩
abbrev sRead : Stmt := top 26
abbrev pRead : List Str := ["text"]
abbrev nRead : List Str := ["text", "rows", "head", "counts", "last", "at", "pair"]
theorem cRead : FnScope nRead pRead (defScope sRead) := ⟨rfl, rfl, rfl, by decide +kernel, rfl, by decide +kernel, by decide +kernel⟩
abbrev sPoured : Stmt := top 28
abbrev pPoured : List Str := ["one", "other"]
abbrev nPoured : List Str := ["one", "other", "counts", "name", "count"]
theorem cPoured : FnScope nPoured pPoured (defScope sPoured) := ⟨rfl, rfl, rfl, by decide +kernel, rfl, by decide +kernel, by decide +kernel⟩
abbrev sSmaller : Stmt := top 29
abbrev pSmaller : List Str := ["desk", "drawers"]
abbrev nSmaller : List Str := ["desk", "drawers"]
theorem cSmaller : FnScope nSmaller pSmaller (defScope sSmaller) := ⟨rfl, rfl, rfl, by decide +kernel, rfl, by decide +kernel, by decide +kernel⟩
abbrev sLMixed : Stmt := top 31
abbrev pLMixed : List Str := ["_law_cell", "_law_k"]
abbrev nLMixed : List Str := ["_law_cell", "_law_k", "_law_mark"]
theorem cLMixed : FnScope nLMixed pLMixed (defScope sLMixed) := ⟨rfl, rfl, rfl, by decide +kernel, rfl, by decide +kernel, by decide +kernel⟩
abbrev sLNames : Stmt := top 32
abbrev pLNames : List Str := ["_law_script"]
abbrev nLNames : List Str := ["_law_script", "_law_letters", "_law_cell", "_law_base", "_law_at", "_law_names_here", "_law_k", "_law_letter", "_law_word"]
theorem cLNames : FnScope nLNames pLNames (defScope sLNames) := ⟨rfl, rfl, rfl, by decide +kernel, rfl, by decide +kernel, by decide +kernel⟩
abbrev sLComing : Stmt := top 33
abbrev pLComing : List Str := ["_law_names_here", "_law_cell", "_law_k"]
abbrev nLComing : List Str := ["_law_names_here", "_law_cell", "_law_k", "_law_mark", "_law_name", "_law_sort", "_law_weight"]
theorem cLComing : FnScope nLComing pLComing (defScope sLComing) := ⟨rfl, rfl, rfl, by decide +kernel, rfl, by decide +kernel, by decide +kernel⟩
abbrev sLDrawers : Stmt := top 34
abbrev pLDrawers : List Str := ["_law_script"]
abbrev nLDrawers : List Str := ["_law_script", "_law_mark"]
theorem cLDrawers : FnScope nLDrawers pLDrawers (defScope sLDrawers) := ⟨rfl, rfl, rfl, by decide +kernel, rfl, by decide +kernel, by decide +kernel⟩
abbrev sLTold : Stmt := top 35
abbrev pLTold : List Str := ["_law_desk"]
abbrev nLTold : List Str := ["_law_desk", "_law_told_here"]
theorem cLTold : FnScope nLTold pLTold (defScope sLTold) := ⟨rfl, rfl, rfl, by decide +kernel, rfl, by decide +kernel, by decide +kernel⟩
abbrev sLCome : Stmt := top 36
abbrev pLCome : List Str := ["_law_state", "_law_drawers_here", "_law_name", "_law_weight"]
abbrev nLCome : List Str := ["_law_state", "_law_drawers_here", "_law_name", "_law_weight", "_law_counts", "_law_gone", "_law_total", "_law_less", "_law_kept", "_law_one"]
theorem cLCome : FnScope nLCome pLCome (defScope sLCome) := ⟨rfl, rfl, rfl, by decide +kernel, rfl, by decide +kernel, by decide +kernel⟩
abbrev sLIs : Stmt := top 37
abbrev pLIs : List Str := ["_law_desk", "_law_state", "_law_drawers_here"]
abbrev nLIs : List Str := ["_law_desk", "_law_state", "_law_drawers_here", "_law_counts", "_law_gone", "_law_total"]
theorem cLIs : FnScope nLIs pLIs (defScope sLIs) := ⟨rfl, rfl, rfl, by decide +kernel, rfl, by decide +kernel, by decide +kernel⟩
abbrev sLaw : Stmt := top 38
abbrev pLaw : List Str := ["_law_script"]
abbrev nLaw : List Str := ["_law_script", "_law_names_here", "_law_drawers_here", "_law_one", "_law_other", "_law_state", "_law_k", "_law_cell", "_law_name", "_law_weight", "_law_mark", "_law_less"]
theorem cLaw : FnScope nLaw pLaw (defScope sLaw) := ⟨rfl, rfl, rfl, by decide +kernel, rfl, by decide +kernel, by decide +kernel⟩
/-! ### the checks -/
section
variable {P : Program} {w : World} {K : PySem.W.Frag} {mg : Str → Option Value} {base : Heap}
def spWhole (K : PySem.W.Frag) : Sp := fun vs H Q _ => ∃ x, vs = [x] ∧ Thing K H x ∧ Q (.bl (isWholeV x)) H
theorem ok_whole {f : Addr} {fd : FuncData} (F : Fun K "is_whole" "is_whole" sIsWhole f fd) (mI : mg "isinstance" = none) (mi : mg "int" = none) (mb : mg "bool" = none) : FnOk P w K mg base CX0 1 f fd pIsWhole (spWhole K) := by
  refine F.ok cIsWhole (fun vs H Q E h => ?_) (fun cdv A outer s H vs Q E hr h => ?_)
  · obtain ⟨x, rfl, _⟩ := h
    rfl
  · obtain ⟨x, rfl, ⟨t, ty, k1, k2, k3⟩, q⟩ := h
    refine ⟨_, pss_one (ps_ret (pe_and (pe_callB call_isi (by rfl) mI (by decide +kernel) (pa_cons (pv 0) (pa_cons (pe_bty (n := "int") mi (by decide +kernel) (by rfl)) pa_nil)))
      (pe_one (pe_not (pe_callB call_isi (by rfl) mI (by decide +kernel) (pa_cons (pv 0) (pa_cons (pe_bty (n := "bool") mb (by decide +kernel) (by rfl)) pa_nil))))))), ?_⟩
    refine ⟨_, rfl, x, .ty "int", t, .type "int", _, rfl, .ty "int", ty, k2, _, rfl, ?_⟩
    cases x <;> first | exact q | (refine iteT ⟨_, rfl, _, .ty "bool", t, .type "bool", _, rfl, .ty "bool", ty, k3, _, rfl, q⟩)
def spName (K : PySem.W.Frag) : Sp := fun vs H Q _ => ∃ x, vs = [x] ∧ Thing K H x ∧ (∀ z, x = .str z → z.length ≤ sizeLine) ∧ Q (.bl (isNameV x)) H
theorem ok_name {f : Addr} {fd : FuncData} (F : Fun K "is_name" "is_name" sIsName f fd) (mI : mg "isinstance" = none) (ms : mg "str" = none) (ml : mg "len" = none) {t8 tL : Tok} (m8 : mg "LONGEST" = some (.int 8 t8)) (mL : mg "LETTERS" = some (.str letters tL)) : FnOk P w K mg base CX0 1 f fd pIsName (spName K) := by
  refine F.ok cIsName (fun vs H Q E h => ?_) (fun cdv A outer s H vs Q E hr h => ?_)
  · obtain ⟨x, rfl, _⟩ := h
    rfl
  · obtain ⟨x, rfl, ⟨t, ty, k1, k2, k3⟩, hz, q⟩ := h
    refine ⟨_, pss_one (ps_ret (pe_and (pe_callB call_isi (by rfl) mI (by decide +kernel) (pa_cons (pv 0) (pa_cons (pe_bty (n := "str") ms (by decide +kernel) (by rfl)) pa_nil)))
      (pe_and (pe_chain op_le op_le pe_int (pe_callB call_len_str (by rfl) ml PySem.boot_len (pa_cons (pv 0) pa_nil)) (pe_gint m8 (by rfl)))
      (pe_one (pe_cmpR op_eq (pe_bm PySem.F.plainAttrs_str PySem.F.slot_str_strip PySem.F.type_str_strip mt_stripChars (pv 0) (pa_cons (pe_gstr mL (by rfl)) pa_nil)) pe_str (nomark _)))))), ?_⟩
    refine ⟨_, rfl, x, .ty "str", t, .type "str", _, rfl, .ty "str", ty, k1, _, rfl, ?_⟩
    cases x <;> first | exact q | skip
    rename_i z
    have hz := hz z rfl
    refine iteT ?_
    refine ⟨_, rfl, z, rfl, hz, _, _, rfl, rfl, _, rfl, ?_⟩
    refine ite2 (fun h1 => ?_) (fun h1 => ?_)
    · refine ⟨_, _, rfl, rfl, _, rfl, ?_⟩
      refine ite2 (fun h2 => ?_) (fun h2 => ?_)
      · refine ⟨_, rfl, rfl, _, _, rfl, rfl, hz, rfl, ?_⟩
        have e1 := of_decide_eq_true h1
        have e2 := of_decide_eq_true h2
        have e3 : isNameV (.str z) = decide (V.str (PySem.Txt.stripChars z letters) = V.str "") := by
          rw [strip_letters]
          show (decide (1 ≤ z.length ∧ z.length ≤ 8) && _) = _
          rw [decide_eq_true (show 1 ≤ z.length ∧ z.length ≤ 8 by omega), Bool.true_and]
        rw [← e3]
        exact q
      · have e2 := of_decide_eq_false (Bool.eq_false_iff.mpr h2)
        have e3 : isNameV (.str z) = false := by
          show (decide (1 ≤ z.length ∧ z.length ≤ 8) && _) = _
          rw [decide_eq_false (show ¬ (1 ≤ z.length ∧ z.length ≤ 8) by omega), Bool.false_and]
        rw [e3] at q
        exact q
    · have e1 := of_decide_eq_false (Bool.eq_false_iff.mpr h1)
      refine ⟨_, rfl, iteF ?_⟩
      have e3 : isNameV (.str z) = false := by
        show (decide (1 ≤ z.length ∧ z.length ≤ 8) && _) = _
        rw [decide_eq_false (show ¬ (1 ≤ z.length ∧ z.length ≤ 8) by omega), Bool.false_and]
      rw [e3] at q
      exact q
/-- a coming's name and weight -/
def spNeedComing (K : PySem.W.Frag) (CN CW : Addr) : Sp := fun vs H Q E => ∃ x y, vs = [x, y] ∧ Thing K H x ∧ Thing K H y ∧ (∀ z, x = .str z → z.length ≤ sizeLine) ∧
  (isNameV x = true → isWtV y = true → Q .non H) ∧ (isNameV x = false → E (.ref CN) none H) ∧ (isNameV x = true → isWtV y = false → E (.ref CW) none H)
theorem ok_needComing {CN CW f : Addr} {fd : FuncData} (F : Fun K "need_coming" "need_coming" sNeedComing f fd) (GN : Gf P w K mg base CX0 1 "is_name" pIsName (spName K)) (GW : Gf P w K mg base CX0 1 "is_whole" pIsWhole (spWhole K))
    {tG : Tok} (mG : mg "GREATEST" = some (.int great tG)) (eN : ExT K mg "NoName" CN) (eW : ExT K mg "NoWeight" CW) : FnOk P w K mg base (L2.CX P w) 2 f fd pNeedComing (spNeedComing K CN CW) := by
  obtain ⟨fN, fdN, gN, bN, mN, kN⟩ := GN.ex
  obtain ⟨fW, fdW, gW, bW, mW, kW⟩ := GW.ex
  refine F.okX cNeedComing (fun vs H Q E h => ?_) (fun cdv A outer s H vs Q E hr h => ?_)
  · obtain ⟨x, y, rfl, _⟩ := h
    rfl
  · obtain ⟨x, y, rfl, tx, ty, hz, q1, q2, q3⟩ := h
    refine ⟨_, pss_cons (ps_if (pt_not (pt_val (pe_call gN hr rfl mN kN bN .nil pass0 (pa_cons (pv 0) pa_nil)))) (pss_one (ps_raise rfl (takes_of rfl rfl rfl rfl) (pmk_own PySem.F.excBase_ValueError eN.x eN.g eN.k (raises_own eN.b eN.t) (by rfl)))) pss_nil)
      (pss_one (ps_if (PW.pt (pw_or (pt_not (pt_val (pe_call gW hr rfl mW kW bW .nil pass0 (pa_cons (pv 1) pa_nil))))
        (pw_or1 (pt_not (pt_chain op_le op_le pe_int (pv 1) (pe_gint mG (by rfl)))))))
        (pss_one (ps_raise rfl (takes_of rfl rfl rfl rfl) (pmk_own PySem.F.excBase_ValueError eW.x eW.g eW.k (raises_own eW.b eW.t) (by rfl)))) pss_nil)), ?_⟩
    refine ⟨_, rfl, x, rfl, tx, hz, _, rfl, ?_⟩
    cases hx : isNameV x with
    | false => exact iteT (q2 hx)
    | true =>
      refine iteF ?_
      refine ⟨_, rfl, y, rfl, ty, _, rfl, ?_⟩
      cases y <;> first | exact q3 hx rfl | skip
      rename_i i
      refine iteF ?_
      refine ⟨_, rfl, _, _, rfl, rfl, _, rfl, ?_⟩
      refine ite2 (fun h1 => ?_) (fun h1 => ?_)
      · refine ⟨_, _, rfl, rfl, _, rfl, ?_⟩
        have e1 := of_decide_eq_true h1
        cases h2 : decide (i ≤ great) with
        | true => exact iteF (q1 hx (decide_eq_true ⟨e1, of_decide_eq_true h2⟩))
        | false => exact iteT (q3 hx (decide_eq_false fun z => of_decide_eq_false h2 z.2))
      · have e1 := of_decide_eq_false (Bool.eq_false_iff.mpr h1)
        exact ⟨_, rfl, iteT (q3 hx (decide_eq_false fun z => e1 z.1))⟩
def spNeedDrawers (K : PySem.W.Frag) (CD : Addr) : Sp := fun vs H Q E => ∃ x, vs = [x] ∧ Thing K H x ∧ (isRoomV x = true → Q .non H) ∧ (isRoomV x = false → E (.ref CD) none H)
theorem ok_needDrawers {CD f : Addr} {fd : FuncData} (F : Fun K "need_drawers" "need_drawers" sNeedDrawers f fd) (GW : Gf P w K mg base CX0 1 "is_whole" pIsWhole (spWhole K))
    {tM : Tok} (mM : mg "MOST_DRAWERS" = some (.int 50 tM)) (eD : ExT K mg "NoDesk" CD) : FnOk P w K mg base (L2.CX P w) 2 f fd pNeedDrawers (spNeedDrawers K CD) := by
  obtain ⟨fW, fdW, gW, bW, mW, kW⟩ := GW.ex
  refine F.okX cNeedDrawers (fun vs H Q E h => ?_) (fun cdv A outer s H vs Q E hr h => ?_)
  · obtain ⟨x, rfl, _⟩ := h
    rfl
  · obtain ⟨x, rfl, tx, q1, q2⟩ := h
    refine ⟨_, pss_one (ps_if (PW.pt (pw_or (pt_not (pt_val (pe_call gW hr rfl mW kW bW .nil pass0 (pa_cons (pv 0) pa_nil))))
        (pw_or1 (pt_not (pt_chain op_le op_le pe_int (pv 0) (pe_gint mM (by rfl)))))))
        (pss_one (ps_raise rfl (takes_of rfl rfl rfl rfl) (pmk_own PySem.F.excBase_ValueError eD.x eD.g eD.k (raises_own eD.b eD.t) (by rfl)))) pss_nil), ?_⟩
    refine ⟨_, rfl, x, rfl, tx, _, rfl, ?_⟩
    cases x <;> first | exact q2 rfl | skip
    rename_i i
    refine iteF ?_
    refine ⟨_, rfl, _, _, rfl, rfl, _, rfl, ?_⟩
    refine ite2 (fun h1 => ?_) (fun h1 => ?_)
    · refine ⟨_, _, rfl, rfl, _, rfl, ?_⟩
      have e1 := of_decide_eq_true h1
      cases h2 : decide (i ≤ 50) with
      | true => exact iteF (q1 (decide_eq_true ⟨e1, of_decide_eq_true h2⟩))
      | false => exact iteT (q2 (decide_eq_false fun z => of_decide_eq_false h2 z.2))
    · have e1 := of_decide_eq_false (Bool.eq_false_iff.mpr h1)
      exact ⟨_, rfl, iteT (q2 (decide_eq_false fun z => e1 z.1))⟩
end
/-! ### lowered, the Desk -/
section
variable {P : Program} {w : World} {K : PySem.W.Frag} {mg : Str → Option Value} {base : Heap}
/-- a new table: those of the old one that have more, so much less -/
def spLowered : Sp := fun vs H Q _ => ∃ (d : Addr) (c : CM) (m : Int), vs = [.ref d, .int m] ∧ H d = some (.dK (kvc c)) ∧ (keysC c).Nodup ∧ c.length ≤ 1000 ∧
  ∀ (H' : Hp) (d' : Addr), H d' = none → Ex H H' → H' d' = some (.dK (kvc (lowered c m))) → Q (.ref d') H'
theorem ok_lowered {f : Addr} {fd : FuncData} (F : Fun K "lowered" "lowered" sLowered f fd) : FnOk P w K mg base CX0 1 f fd pLowered spLowered := by
  refine F.ok cLowered (fun vs H Q E h => ?_) (fun cdv A outer s H vs Q E hr h => ?_)
  · obtain ⟨d, c, m, rfl, _⟩ := h
    rfl
  · obtain ⟨d, c, m, rfl, hd, nd, hl, q⟩ := h
    have hu := hu_of hr
    refine ⟨_, pss_cons (ps_set (i := 2) cLowered.nd rfl (Or.inl rfl) pe_dnewK)
      (pss_cons (ps_lock (ps_for PassesOwn.never rfl (pi_items (pv 0)) (pg_tup rfl (pgs_cons (pg_name (i := 3) cLowered.nd rfl (Or.inl rfl)) (pgs_cons (pg_name (i := 4) cLowered.nd rfl (Or.inl rfl)) pgs_nil)))
        (pss_one (ps_if (pt_cmpR op_gt (pv 4) (pv 1) (nomark _)) (pss_one (ps_dput hu (pv 2) (pv 3) (pe_op op_sub (pv 4) (pv 1)) rfl)) pss_nil))))
      (pss_one (ps_ret (pv 2)))), ?_⟩
    intro f hf
    have ndf : d ≠ f := ne_of_none hd hf
    refine ⟨d, .dK (kvc c), by rw [upd_ne ndf]; exact hd, trivial, fun od => ⟨_, rfl, d, od, kvc c, rfl, upd_same, ?_⟩⟩
    refine for_it (n := c.length) (fun i σ H2 => ∃ v3 v4, σ = [some (.ref d), some (.int m), some (.ref f), v3, v4] ∧ H2 d = some (.frz od (.dK (kvc c))) ∧ H2 f = some (.dK (kvc (lowered (c.take i) m))) ∧ ∀ b o, b ≠ d → H b = some o → H2 b = some o)
      ⟨none, none, rfl, upd_same, by rw [upd_ne ndf.symm, upd_same]; rfl, fun b o hb e => by rw [upd_ne hb, upd_ne (ne_of_none e hf)]; exact e⟩ ?_ ?_ ?_ ?_
    · rintro i σ H2 hi ⟨v3, v4, rfl, h1, h2, h3⟩
      exact ⟨h1, by rw [len_kvc]; exact hi⟩
    · rintro σ H2 ⟨v3, v4, rfl, h1, h2, h3⟩
      exact ⟨h1, by rw [len_kvc]; exact Nat.le_refl _⟩
    · rintro i σ H2 hi ⟨v3, v4, rfl, h1, h2, h3⟩ x H3 ⟨T, k, v, hk, rfl, hT, rfl⟩
      have ei : c[i]? = some c[i] := List.getElem?_eq_getElem hi
      have e0 : (kvc c)[i]? = some (Sum.inr c[i].1, V.int c[i].2) := by
        unfold kvc
        rw [List.getElem?_map, ei]
        rfl
      rw [e0] at hk
      cases hk
      have nT : T ≠ f := fun z => by rw [z, h2] at hT; cases hT
      have dT : d ≠ T := fun z => by rw [← z, h1] at hT; cases hT
      refine ⟨T, _, rfl, SqT.of upd_same, rfl, _, _, rfl, _, _, rfl, rfl, ?_⟩
      refine ⟨_, rfl, _, rfl, _, _, rfl, rfl, _, rfl, ?_⟩
      have tk : c.take (i + 1) = c.take i ++ [c[i]] := List.take_succ_eq_append_getElem hi
      refine ite2 (fun h => ?_) (fun h => ?_)
      · have hlt : m < c[i].2 := of_decide_eq_true h
        refine ⟨_, rfl, _, rfl, _, _, rfl, rfl, _, rfl, _, rfl, f, _, rfl, DPut.of (by rw [upd_ne nT.symm]; exact h2) _ _ (small ?_), ?_⟩
        · have : (lowered (c.take i) m).length ≤ (c.take i).length := by unfold lowered; rw [List.length_map]; exact List.length_filter_le _ _
          have : (c.take i).length ≤ c.length := by rw [List.length_take]; omega
          omega
        · refine ⟨_, _, rfl, by rw [upd_ne ndf, upd_ne dT]; exact h1, ?_, fun b o hb e => ?_⟩
          · rw [upd_same, tk]
            have nk : hasC (lowered (c.take i) m) c[i].1 = false := by
              refine Bool.eq_false_iff.mpr fun hh => ?_
              unfold hasC at hh
              rw [List.any_eq_true] at hh
              obtain ⟨z, hz, ez⟩ := hh
              unfold lowered at hz
              obtain ⟨y, hy, rfl⟩ := List.mem_map.mp hz
              have hy2 := (List.mem_filter.mp hy).1
              obtain ⟨j, hj⟩ := List.mem_iff_getElem?.mp hy2
              have hji : j < i := by
                have := (List.getElem?_eq_some_iff.mp hj).1
                rw [List.length_take] at this
                omega
              rw [List.getElem?_take, if_pos hji] at hj
              have a1 : (keysC c)[j]? = some c[i].1 := by
                unfold keysC
                rw [List.getElem?_map, hj]
                exact congrArg some (of_decide_eq_true ez)
              have a2 : (keysC c)[i]? = some c[i].1 := by
                unfold keysC
                rw [List.getElem?_map, ei]
                rfl
              have := nd_ix nd a1 a2
              omega
            have e2 : putC (lowered (c.take i) m) c[i].1 (c[i].2 - m) = lowered (c.take i ++ [c[i]]) m := by
              unfold putC
              rw [if_neg (by rw [nk]; exact Bool.false_ne_true)]
              unfold lowered
              rw [List.filter_append, List.map_append]
              simp [hlt]
            rw [e2]
          · have hbT : H2 b = some o := h3 b o hb e
            rw [upd_ne (fun z => by rw [z] at e; rw [e] at hf; cases hf), upd_ne (fun z => by rw [z, hT] at hbT; cases hbT)]
            exact hbT
      · have hlt : ¬ m < c[i].2 := fun z => h (decide_eq_true z)
        refine ⟨_, _, rfl, by rw [upd_ne dT]; exact h1, ?_, fun b o hb e => ?_⟩
        · rw [upd_ne nT.symm, h2, tk]
          have e2 : lowered (c.take i ++ [c[i]]) m = lowered (c.take i) m := by
            unfold lowered
            rw [List.filter_append, List.map_append]
            simp [hlt]
          rw [e2]
        · have hbT : H2 b = some o := h3 b o hb e
          rw [upd_ne (fun z => by rw [z, hT] at hbT; cases hbT)]
          exact hbT
    · rintro σ H2 ⟨v3, v4, rfl, h1, h2, h3⟩
      refine ⟨h1, _, rfl, q _ f hf (fun b o e => ?_) ?_⟩
      · by_cases hb : b = d
        · rw [hb, upd_same]
          rw [hb, hd] at e
          exact e
        · rw [upd_ne hb]
          exact h3 b o hb e
      · rw [upd_ne ndf.symm, h2, List.take_of_length_le (Nat.le_refl _)]
end
/-- what is asked of the class Desk and of the names that its methods use -/
structure DkT (K : PySem.W.Frag) (mg : Str → Option Value) (C CN CW CD : Addr) : Prop where
  cl : Cls K C
  nR : NoAttr K C "room"
  nC : NoAttr K C "counts"
  nG : NoAttr K C "gone"
  nT : NoAttr K C "total"
  mgC : mg "Desk" = some (.ref C)
  len : mg "len" = none
  mn : mg "min" = none
  lst : mg "list" = none
  dct : mg "dict" = none
  srt : mg "sorted" = none
  eN : ExT K mg "NoName" CN
  eW : ExT K mg "NoWeight" CW
  eD : ExT K mg "NoDesk" CD
section
variable {P : Program} {w : World} {K : PySem.W.Frag} {mg : Str → Option Value} {base : Heap} {C CN CW CD : Addr}
/-- a fresh Desk -/
def spInit (K : PySem.W.Frag) (C CD : Addr) : Sp := fun vs H Q E => ∃ p x dx, vs = [.ref p, x] ∧ H p = some (.ins C dx []) ∧ Thing K H x ∧
  (∀ r, x = .int r → isRoomV x = true → ∀ (d : Addr) (H' : Hp), H d = none → Off [p] H H' → DeskAt C H' p d r [] 0 0 → Q .non H') ∧ (isRoomV x = false → E (.ref CD) none H)
theorem ok_init {f : Addr} {fd : FuncData} (F : Fun K "__init__" "Desk.__init__" sDInit f fd) (T : DkT K mg C CN CW CD) (GD : Gf P w K mg base (L2.CX P w) 2 "need_drawers" pNeedDrawers (spNeedDrawers K CD)) :
    FnOk P w K mg base (L2.CX P w) 3 f fd pDInit (spInit K C CD) := by
  obtain ⟨fD, fdD, gD, bD, mD, kD⟩ := GD.ex
  refine F.okX cDInit (fun vs H Q E h => ?_) (fun cdv A outer s H vs Q E hr h => ?_)
  · obtain ⟨p, x, dx, rfl, _⟩ := h
    rfl
  · obtain ⟨p, x, dx, rfl, hp, tx, q1, q2⟩ := h
    refine ⟨_, pss_cons (ps_expr (pe_call gD hr rfl mD kD bD .nil (passes_call (takes_of rfl rfl rfl rfl) (fun _ _ _ _ z => z)) (pa_cons (pv 1) pa_nil)))
      (pss_cons (ps_fld (pv 0) (pv 1) rfl) (pss_cons (ps_fld (pv 0) pe_dnewK rfl) (pss_cons (ps_fld (pv 0) pe_int rfl) (pss_one (ps_fld (pv 0) pe_int rfl))))), ?_⟩
    refine ⟨_, rfl, x, rfl, tx, fun hx => ?_, q2⟩
    cases x <;> first | (exact absurd hx Bool.false_ne_true) | skip
    rename_i r
    have hx' := of_decide_eq_true hx
    refine ⟨_, rfl, _, rfl, p, C, dx, _, rfl, hp, T.cl, T.nR, (by show 0 < 1000; decide), ?_⟩
    intro d hd
    have npd : p ≠ d := fun z => by rw [← z, upd_same] at hd; cases hd
    refine ⟨_, rfl, p, C, dx, _, rfl, (by rw [upd_ne npd]; exact upd_same), T.cl, T.nC, (by show 1 < 1000; decide), ?_⟩
    refine ⟨_, rfl, p, C, dx, _, rfl, upd_same, T.cl, T.nG, (by show (putF "counts" (V.ref d) [(("room" : Str), V.int r)]).length < 1000; simp only [putF, if_neg k_ne.1]; show 2 < 1000; decide), ?_⟩
    refine ⟨_, rfl, p, C, dx, _, rfl, upd_same, T.cl, T.nT, (by show (putF "gone" (V.int 0) (putF "counts" (V.ref d) [(("room" : Str), V.int r)])).length < 1000; simp only [putF, if_neg k_ne.1, if_neg k_ne.2.1, if_neg k_ne.2.2.2.1]; show 3 < 1000; decide), ?_⟩
    have hd0 : H d = none := by
      rw [upd_ne npd.symm] at hd
      exact hd
    refine q1 r rfl hx d _ hd0 (fun b o hb e => ?_) ⟨⟨dx, ?_⟩, ?_, List.nodup_nil, (by show ((0 : Nat) : Int) ≤ r; omega), hx'.1, hx'.2⟩
    · have nb : b ≠ p := fun z => hb (by rw [z]; exact List.mem_cons_self ..)
      rw [upd_ne nb, upd_ne nb, upd_ne nb, upd_ne (ne_of_none e hd0), upd_ne nb]
      exact e
    · rw [upd_same, ← dfl_make]
    · rw [upd_ne npd.symm, upd_ne npd.symm, upd_ne npd.symm, upd_same]
      rfl
/-- a coming -/
def spCome (K : PySem.W.Frag) (C CN CW : Addr) : Sp := fun vs H Q E => ∃ p d room c gone total x y, vs = [.ref p, x, y] ∧ DeskAt C H p d room c gone total ∧ Thing K H x ∧ Thing K H y ∧ (∀ z, x = .str z → z.length ≤ sizeLine) ∧
  (∀ n wt, x = .str n → y = .int wt → isName n = true → isWt wt = true → ∀ (H' : Hp) (d' : Addr), (d' = d ∨ H d' = none) → Off [p, d] H H' → DeskAt C H' p d' room (come room c n wt).1 (gone + (come room c n wt).2) (total + wt) → Q .non H') ∧
  (isNameV x = false → E (.ref CN) none H) ∧ (isNameV x = true → isWtV y = false → E (.ref CW) none H)
theorem ok_come {f : Addr} {fd : FuncData} {dvs : List V} (F : FunD K "come" "Desk.come" (defArgs sDCome) (defBody sDCome) (defScope sDCome) dvs [] f fd) (T : DkT K mg C CN CW CD)
    (GN : Gf P w K mg base (L2.CX P w) 2 "need_coming" pNeedComing (spNeedComing K CN CW)) (GL : Gf P w K mg base CX0 1 "lowered" pLowered spLowered) :
    FnOk P w K mg base (L2.CX P w) 3 f fd pDCome (spCome K C CN CW) := by
  obtain ⟨fN, fdN, gN, bN, mN, kN⟩ := GN.ex
  obtain ⟨fL, fdL, gL, bL, mL, kL⟩ := GL.ex
  refine F.ok cDCome (fun vs H Q E h => ?_) (fun cdv A outer s H vs Q E hr h => ?_)
  · obtain ⟨p, d, room, c, gone, total, x, y, rfl, _⟩ := h
    rfl
  · obtain ⟨p, d, room, c, gone, total, x, y, rfl, D, tx, ty, hz, q1, q2, q3⟩ := h
    have hu := hu_of hr
    refine ⟨_, pss_cons (ps_expr (pe_call gN hr rfl mN kN bN .nil (passes_call (takes_of rfl rfl rfl rfl) (fun _ _ _ _ z => z)) (pa_cons (pv 1) (pa_cons (pv 2) pa_nil))))
      (pss_cons (ps_fldaug (pv 0) (pv 2) in_add)
      (pss_cons (ps_if (PW.pt (pw_and (pt_cmp (pc_dnotin hu (pv 1) (pe_fld (pv 0) rfl))) (pw_and1 (pt_cmpR op_eq (pe_callB call_lenD (by rfl) T.len PySem.boot_len (pa_cons (pe_fld (pv 0) rfl) pa_nil)) (pe_fld (pv 0) rfl) (nomark _)))))
        (pss_cons (ps_set (i := 3) cDCome.nd rfl (Or.inl rfl) (pe_callB (cr_min rfl) (by rfl) T.mn (by decide +kernel) (pa_cons (pe_op op_cat (pe_lst (pa_cons (pv 2) pa_nil))
            (pe_callTy (call_listV rfl) (by rfl) T.lst (by decide +kernel) (pa_cons (pe_bm0 PySem.F.plainAttrs_dict PySem.F.slot_dict_values PySem.F.type_dict_values mt_vals (pe_fld (pv 0) rfl)) pa_nil))) pa_nil)))
          (pss_cons (ps_fld (pv 0) (pe_call gL (hr.mono (by decide)) rfl mL kL bL .nil pass0 (pa_cons (pe_fld (pv 0) rfl) (pa_cons (pv 3) pa_nil))) rfl)
          (pss_cons (ps_fldaug (pv 0) (pv 3) in_add)
          (pss_one (ps_aug (i := 2) cDCome.nd rfl (Or.inl rfl) (pv 3) ip_sub)))))
        pss_nil)
      (pss_one (ps_if (pt_cmpR op_gt (pv 2) pe_int (nomark _)) (pss_one (ps_dput hu (pe_fld (pv 0) rfl) (pv 1) (pe_op op_add (pe_dget2 hu (pe_fld (pv 0) rfl) (pv 1) pe_int ⟨rfl, rfl, rfl, rfl⟩) (pv 2)) rfl)) pss_nil)))), ?_⟩
    refine ⟨_, rfl, _, rfl, x, y, rfl, tx, ty, hz, fun hx hy => ?_, q2, q3⟩
    cases x <;> first | (exact absurd hx Bool.false_ne_true) | skip
    cases y <;> first | (exact absurd hy Bool.false_ne_true) | skip
    rename_i n wt
    have hk := q1 n wt rfl rfl hx hy
    have hw := of_decide_eq_true hy
    obtain ⟨⟨dx, hp⟩, hd, nd, hl, r1, r2⟩ := id D
    have npd := D.ne
    -- self.total += weight
    refine ⟨_, rfl, p, C, dx, _, _, rfl, hp, T.cl, T.nT, dfl_total _ _ _ _, _, rfl, _, _, rfl, rfl, dx, _, hp, (by show 4 < 1000; decide), ?_⟩
    rw [dfl_put_total]
    have hd1 : ∀ o, (upd H p o) d = some (.dK (kvc c)) := fun o => by rw [upd_ne npd.symm]; exact hd
    -- name not in self.counts and len(self.counts) == self.room
    refine ⟨_, rfl, _, rfl, p, C, dx, _, _, rfl, upd_same, T.cl, T.nC, dfl_counts _ _ _ _, d, _, rfl, DGet.of (.inl (hd1 _)) n, _, rfl, ?_⟩
    have eh : (!((getC c n).map V.int).isSome) = !hasC c n := by rw [has_get, Option.isSome_map]
    rw [eh]
    -- what the last two rows do, from a table c1 at d1 and a weight w1 that is left
    have last : ∀ (H2 : Hp) (d1 : Addr) (c1 : CM) (g1 w1 : Int) (v3 : Option V), 0 ≤ w1 → (d1 = d ∨ H d1 = none) → Off [p, d] H H2 → H2 p = some (.ins C dx (dfl room d1 g1 (total + wt))) → H2 d1 = some (.dK (kvc c1)) → c1.length ≤ 50 →
        (come room c n wt).1 = (if 0 < w1 then putC c1 n (getD0 c1 n + w1) else c1) → gone + (come room c n wt).2 = g1 →
        (tIfS (tTest (tOp (rI0 fun i j => .bl (decide (j < i))) (tVar 2) (tC (.int 0)))) (sDPut (tFld K (tVar 0) "counts") (tVar 1) (tOp (rI0 fun i j => .int (i + j)) (tDGet2 (tFld K (tVar 0) "counts") (tVar 1) (tC (.int 0))) (tVar 2))) tNext)
          { nx := fun _ H' => Q .non H', rt := Q } [some (.ref p), some (.str n), some (.int w1), v3] H2 := by
      intro H2 d1 c1 g1 w1 v3 h0 hd' off ho hc hlen e1 e2
      have npd1 : p ≠ d1 := ne_of ho hc (fun z => nomatch z)
      refine ⟨_, rfl, _, _, rfl, rfl, _, rfl, ?_⟩
      refine ite2 (fun h => ?_) (fun h => ?_)
      · have hlt : 0 < w1 := of_decide_eq_true h
        rw [if_pos hlt] at e1
        refine ⟨_, rfl, p, C, dx, _, _, rfl, ho, T.cl, T.nC, dfl_counts _ _ _ _, d1, rfl, IsD.of (.inl hc), _, rfl, _, DGet.of (.inl hc) n, ?_⟩
        rw [getD_map]
        refine ⟨_, rfl, _, _, rfl, rfl, _, rfl, p, C, dx, _, _, rfl, ho, T.cl, T.nC, dfl_counts _ _ _ _, _, rfl, d1, _, rfl, DPut.of hc n _ (small (by omega)), ?_⟩
        refine hk _ d1 hd' (fun b o hb e => ?_) ⟨⟨dx, ?_⟩, ?_, come_nodup nd, come_len hl, r1, r2⟩
        · have nb : b ≠ d1 := by
            rcases hd' with z | z
            · rw [z]
              exact fun y => hb (by rw [y]; exact List.mem_cons_of_mem _ (List.mem_cons_self ..))
            · exact ne_of_none e z
          rw [upd_ne nb]
          exact off b o hb e
        · rw [upd_ne npd1, ho, e2]
        · rw [upd_same, e1]
          rfl
      · have hlt : ¬ 0 < w1 := fun z => h (decide_eq_true z)
        rw [if_neg hlt] at e1
        exact hk _ d1 hd' off ⟨⟨dx, by rw [ho, e2]⟩, by rw [hc, e1], come_nodup nd, come_len hl, r1, r2⟩
    have offp : ∀ o, Off [p, d] H (upd H p o) := fun o => Off.upd (List.mem_cons_self ..)
    have plain : ¬ (hasC c n = false ∧ (c.length : Int) = room) → ∀ v3, (tIfS (tTest (tOp (rI0 fun i j => .bl (decide (j < i))) (tVar 2) (tC (.int 0)))) (sDPut (tFld K (tVar 0) "counts") (tVar 1) (tOp (rI0 fun i j => .int (i + j)) (tDGet2 (tFld K (tVar 0) "counts") (tVar 1) (tC (.int 0))) (tVar 2))) tNext)
          { nx := fun _ H' => Q .non H', rt := Q } [some (.ref p), some (.str n), some (.int wt), v3] (upd H p (.ins C dx (dfl room d gone (total + wt)))) := fun hn v3 => by
      refine last _ d c gone wt v3 (by omega) (.inl rfl) (offp _) upd_same (hd1 _) D.len ?_ ?_
      · unfold come
        rw [if_neg hn, if_pos (by omega)]
      · unfold come
        rw [if_neg hn]
        exact Int.add_zero _
    cases hh : hasC c n with
    | true => exact iteF (iteF (plain (fun z => by rw [hh] at z; cases z.1) _))
    | false =>
      refine iteT ?_
      refine ⟨_, rfl, p, C, dx, _, _, rfl, upd_same, T.cl, T.nC, dfl_counts _ _ _ _, d, _, rfl, hd1 _, _, rfl, p, C, dx, _, _, rfl, upd_same, T.cl, T.nR, dfl_room _ _ _ _, rfl, _, rfl, ?_⟩
      rw [len_kvc]
      refine ite2 (fun h => ?_) (fun h => ?_)
      · have hfull : (c.length : Int) = room := V.int.inj (of_decide_eq_true h)
        -- less = min([weight] + list(self.counts.values()))
        refine ⟨_, rfl, (by rw [sizeLine_eq]; show 1 ≤ 16777216; decide), fun l hl1 => ?_⟩
        have dl : d ≠ l := fun z => by rw [← z, hd1] at hl1; cases hl1
        have pl : p ≠ l := fun z => by rw [← z, upd_same] at hl1; cases hl1
        refine ⟨_, rfl, p, C, dx, _, _, rfl, (by rw [upd_ne pl]; exact upd_same), T.cl, T.nC, dfl_counts _ _ _ _, (.inr (.inr (.inl ⟨rfl, .inl ⟨_, by rw [upd_ne dl]; exact hd1 _⟩⟩))), d, kvc c, rfl, rfl, (by rw [upd_ne dl]; exact hd1 _), fun v hv => ?_⟩
        have dv : d ≠ v := fun z => by rw [← z, upd_ne dl, hd1] at hv; cases hv
        have pv' : p ≠ v := fun z => by rw [← z, upd_ne pl, upd_same] at hv; cases hv
        have lv : l ≠ v := fun z => by rw [← z, upd_same] at hv; cases hv
        refine ⟨v, d, kvc c, rfl, upd_same, (by rw [upd_ne dv, upd_ne dl]; exact hd1 _), fun l2 hl2 => ?_⟩
        have dl2 : d ≠ l2 := fun z => by rw [← z, upd_ne dv, upd_ne dl, hd1] at hl2; cases hl2
        have pl2 : p ≠ l2 := fun z => by rw [← z, upd_ne pv', upd_ne pl, upd_same] at hl2; cases hl2
        have ll2 : l ≠ l2 := fun z => by rw [← z, upd_ne lv, upd_same] at hl2; cases hl2
        refine ⟨l, l2, [.int wt], (kvc c).map (·.2), rfl, rfl, (by rw [upd_ne ll2, upd_ne lv]; exact upd_same), upd_same, ?_, fun l3 hl3 => ?_⟩
        · rw [List.length_map, len_kvc, sizeLine_eq]
          have := D.len
          simp only [List.length_cons, List.length_nil]
          omega
        have nl3 : ∀ b o, upd H p (.ins C dx (dfl room d gone (total + wt))) b = some o → (upd (upd (upd (upd (upd H p (.ins C dx (dfl room d gone (total + wt)))) l (.lst [.int wt])) v (viewV v d)) l2 (.lst ((kvc c).map (·.2)))) l3 (.lst ([.int wt] ++ (kvc c).map (·.2)))) b = some o := fun b o e => by
          have b1 : b ≠ l := ne_of_none e hl1
          have b2 : b ≠ v := fun z => by rw [← z, upd_ne b1, e] at hv; cases hv
          have b3 : b ≠ l2 := fun z => by rw [← z, upd_ne b2, upd_ne b1, e] at hl2; cases hl2
          have b4 : b ≠ l3 := fun z => by rw [← z, upd_ne b3, upd_ne b2, upd_ne b1, e] at hl3; cases hl3
          rw [upd_ne b4, upd_ne b3, upd_ne b2, upd_ne b1]
          exact e
        have hL3 : (upd (upd (upd (upd (upd H p (.ins C dx (dfl room d gone (total + wt)))) l (.lst [.int wt])) v (viewV v d)) l2 (.lst ((kvc c).map (·.2)))) l3 (.lst ([.int wt] ++ (kvc c).map (·.2)))) l3 = some (.lst ((wt :: valsC c).map V.int)) := by
          rw [upd_same, snd_kvc]
          rfl
        revert nl3 hL3
        generalize upd (upd (upd (upd (upd H p (.ins C dx (dfl room d gone (total + wt)))) l (.lst [.int wt])) v (viewV v d)) l2 (.lst ((kvc c).map (·.2)))) l3 (.lst ([.int wt] ++ (kvc c).map (·.2))) = H5
        intro nl3 hL3
        have hp5 := nl3 p _ upd_same
        have hd5 := nl3 d _ (hd1 _)
        refine ⟨l3, wt :: valsC c, rfl, SqL.of hL3, (by rw [List.length_cons]; omega), fun m hm hle => ?_⟩
        have em : m = minL wt (valsC c) := minL_uniq (by
          rcases List.mem_cons.mp hm with z | z
          · exact .inl z
          · exact .inr z) (hle _ (List.mem_cons_self ..)) (fun y hy => hle y (List.mem_cons_of_mem _ hy))
        have mle : m ≤ wt := hle _ (List.mem_cons_self ..)
        -- self.counts = lowered(self.counts, less)
        refine ⟨_, rfl, p, C, dx, _, _, rfl, hp5, T.cl, T.nC, dfl_counts _ _ _ _, _, rfl, d, c, m, rfl, hd5, nd, (by have := D.len; omega), fun H6 d' hd' ex6 hd6 => ?_⟩
        have hp6 := ex6 p _ hp5
        have npd' : p ≠ d' := ne_of hp6 hd6 (fun z => nomatch z)
        refine ⟨_, rfl, p, C, dx, _, rfl, hp6, T.cl, T.nC, (by show 4 < 1000; decide), ?_⟩
        rw [dfl_put_counts]
        -- self.gone += less; weight -= less
        refine ⟨_, rfl, p, C, dx, _, _, rfl, upd_same, T.cl, T.nG, dfl_gone _ _ _ _, _, rfl, _, _, rfl, rfl, dx, _, upd_same, (by show 4 < 1000; decide), ?_⟩
        rw [dfl_put_gone]
        refine ⟨_, rfl, _, rfl, _, _, rfl, rfl, ?_⟩
        have hd0 : H d' = none := by
          cases e : H d' with
          | none => rfl
          | some o =>
            have b1 : d' ≠ p := npd'.symm
            have := nl3 d' o (by rw [upd_ne b1]; exact e)
            rw [this] at hd'
            cases hd'
        refine last _ d' (lowered c m) (gone + m) (wt - m) _ (by omega) (.inr hd0) (fun b o hb e => ?_) upd_same (by rw [upd_ne npd'.symm, upd_ne npd'.symm]; exact hd6) (by have := lowered_len c m; have := D.len; omega) ?_ ?_
        · have nb : b ≠ p := fun z => hb (by rw [z]; exact List.mem_cons_self ..)
          rw [upd_ne nb, upd_ne nb]
          exact ex6 b o (nl3 b o (by rw [upd_ne nb]; exact e))
        · unfold come
          rw [if_pos ⟨hh, hfull⟩, ← em]
        · unfold come
          rw [if_pos ⟨hh, hfull⟩, ← em]
      · have hfull : ¬ (c.length : Int) = room := fun z => h (decide_eq_true (congrArg V.int z))
        exact plain (fun z => hfull z.2) _
end
section
variable {P : Program} {w : World} {K : PySem.W.Frag} {mg : Str → Option Value} {base : Heap} {C CN CW CD : Addr}
/-- shown(): a new dict, in the order of the names -/
def spShown (C : Addr) : Sp := fun vs H Q _ => ∃ p d room c gone total, vs = [.ref p] ∧ DeskAt C H p d room c gone total ∧ ∀ (H' : Hp) (q : Addr), H q = none → Ex H H' → H' q = some (.dK (kvc (sortC c))) → Q (.ref q) H'
theorem ok_shown {f : Addr} {fd : FuncData} (F : Fun K "shown" "Desk.shown" sDShown f fd) (T : DkT K mg C CN CW CD) : FnOk P w K mg base CX0 1 f fd pDShown (spShown C) := by
  refine F.ok cDShown (fun vs H Q E h => ?_) (fun cdv A outer s H vs Q E hr h => ?_)
  · obtain ⟨p, d, room, c, gone, total, rfl, _⟩ := h
    rfl
  · obtain ⟨p, d, room, c, gone, total, rfl, D, q⟩ := h
    refine ⟨_, pss_one (ps_ret (pe_callTy (call_dictP rfl) (by rfl) T.dct (by decide +kernel) (pa_cons (pe_callB (cr_sortedI rfl) (by rfl) T.srt (by decide +kernel)
      (pa_cons (pe_bm0 PySem.F.plainAttrs_dict PySem.F.slot_dict_items PySem.F.type_dict_items mt_items (pe_fld (pv 0) rfl)) pa_nil)) pa_nil))), ?_⟩
    obtain ⟨dx, hp⟩ := D.ob
    refine ⟨_, rfl, p, C, dx, _, _, rfl, hp, T.cl, T.nC, dfl_counts _ _ _ _, (.inr (.inr (.inl ⟨rfl, .inl ⟨_, D.dc⟩⟩))), d, kvc c, rfl, rfl, D.dc, fun v hv => ?_⟩
    have dv : d ≠ v := ne_of_none D.dc hv
    refine ⟨v, d, c, rfl, upd_same, (by rw [upd_ne dv]; exact D.dc), D.nd, fun H2 l ts c' ex hl hts pm as hL hP => ?_⟩
    have e : c' = sortC c := sortC_eq D.nd pm (sortC_asc' as)
    subst e
    refine ⟨l, ts, _, rfl, SqL.of hL, prs_paired hP, fun q' hq' => ?_⟩
    rw [merge_kvc (sortC_nodup D.nd)]
    have ex2 : Ex H H2 := fun b o eb => ex b o (by rw [upd_ne (ne_of_none eb hv)]; exact eb)
    refine q _ q' ?_ (fun b o eb => ?_) upd_same
    · cases e : H q' with
      | none => rfl
      | some o =>
        rw [ex2 _ _ e] at hq'
        cases hq'
    · rw [upd_ne (ne_of_none (ex2 b o eb) hq')]
      exact ex2 b o eb
/-- a number that a Desk holds -/
def spNum (C : Addr) (g : Int → Int → Int → Int) : Sp := fun vs H Q _ => ∃ p d room c gone total, vs = [.ref p] ∧ DeskR C H p d room c gone total ∧ Q (.int (g room gone total)) H
theorem ok_lost {f : Addr} {fd : FuncData} (F : Fun K "lost" "Desk.lost" sDLost f fd) (T : DkT K mg C CN CW CD) : FnOk P w K mg base CX0 1 f fd pDLost (spNum C fun _ g _ => g) := by
  refine F.ok cDLost (fun vs H Q E h => ?_) (fun cdv A outer s H vs Q E hr h => ?_)
  · obtain ⟨p, d, room, c, gone, total, rfl, _⟩ := h
    rfl
  · obtain ⟨p, d, room, c, gone, total, rfl, ⟨⟨dx, hp⟩, _⟩, q⟩ := h
    refine ⟨_, pss_one (ps_ret (pe_fld (pv 0) rfl)), ?_⟩
    exact ⟨_, rfl, p, C, dx, _, _, rfl, hp, T.cl, T.nG, dfl_gone _ _ _ _, q⟩
theorem ok_weight {f : Addr} {fd : FuncData} (F : Fun K "weight" "Desk.weight" sDWeight f fd) (T : DkT K mg C CN CW CD) : FnOk P w K mg base CX0 1 f fd pDWeight (spNum C fun _ _ t => t) := by
  refine F.ok cDWeight (fun vs H Q E h => ?_) (fun cdv A outer s H vs Q E hr h => ?_)
  · obtain ⟨p, d, room, c, gone, total, rfl, _⟩ := h
    rfl
  · obtain ⟨p, d, room, c, gone, total, rfl, ⟨⟨dx, hp⟩, _⟩, q⟩ := h
    refine ⟨_, pss_one (ps_ret (pe_fld (pv 0) rfl)), ?_⟩
    exact ⟨_, rfl, p, C, dx, _, _, rfl, hp, T.cl, T.nT, dfl_total _ _ _ _, q⟩
theorem ok_drawers {f : Addr} {fd : FuncData} (F : Fun K "drawers" "Desk.drawers" sDDrawers f fd) (T : DkT K mg C CN CW CD) : FnOk P w K mg base CX0 1 f fd pDDrawers (spNum C fun r _ _ => r) := by
  refine F.ok cDDrawers (fun vs H Q E h => ?_) (fun cdv A outer s H vs Q E hr h => ?_)
  · obtain ⟨p, d, room, c, gone, total, rfl, _⟩ := h
    rfl
  · obtain ⟨p, d, room, c, gone, total, rfl, ⟨⟨dx, hp⟩, _⟩, q⟩ := h
    refine ⟨_, pss_one (ps_ret (pe_fld (pv 0) rfl)), ?_⟩
    exact ⟨_, rfl, p, C, dx, _, _, rfl, hp, T.cl, T.nR, dfl_room _ _ _ _, q⟩
end
section
variable {P : Program} {w : World} {K : PySem.W.Frag} {mg : Str → Option Value} {base : Heap} {C CN CW CD : Addr}
/-- least(name), most(name): u is what is added -/
def spLeast (K : PySem.W.Frag) (C CN : Addr) (u : Int → Int) : Sp := fun vs H Q E => ∃ p d room c gone total x, vs = [.ref p, x] ∧ DeskR C H p d room c gone total ∧ Thing K H x ∧ (∀ z, x = .str z → z.length ≤ sizeLine) ∧
  (∀ n, x = .str n → isName n = true → Q (.int (getD0 c n + u gone)) H) ∧ (isNameV x = false → E (.ref CN) none H)
theorem name_size {n : Str} (h : isName n = true) : n.length ≤ sizeLine := by
  unfold isName at h
  rw [Bool.and_eq_true] at h
  have := of_decide_eq_true h.1
  rw [sizeLine_eq]
  omega
/-- the names shown whose share is more, rising -/
def overS (room : Int) (c : CM) (u total : Int) : List Str := sortS ((keysC c).filter fun n => decide (total < (getD0 c n + u) * (room + 1)))
def spOver (C : Addr) (u : Int → Int) : Sp := fun vs H Q _ => ∃ p d room c gone total, vs = [.ref p] ∧ DeskAt C H p d room c gone total ∧ (∀ n ∈ keysC c, isName n = true) ∧
  ∀ (H' : Hp) (q : Addr), H q = none → Ex H H' → H' q = some (.lst ((overS room c (u gone) total).map V.str)) → Q (.ref q) H'
abbrev tOver (K : PySem.W.Frag) (C CN : Addr) (m : Str) (u : Int → Int) : TT := tTest (tOp (rI0 fun i j => .bl (decide (j < i))) (tOp (rI CMul fun i j => .int (i * j)) (tMeth C m (spLeast K C CN u) [] E0 (tVar 0) (tCons (tVar 1) tNil)) (tOp (rI0 fun i j => .int (i + j)) (tFld K (tVar 0) "room") (tC (.int 1)))) (tFld K (tVar 0) "total"))
/-- the reading of sorted([name for name in self.counts if self.F(name) * (self.room + 1) > self.total]) -/
theorem over_reads {u : Int → Int} {Q : VK} {H : Hp} {p d : Addr} {room : Int} {c : CM} {gone total : Int} {m : Str} (T : DkT K mg C CN CW CD) (D : DeskAt C H p d room c gone total) (hn : ∀ n ∈ keysC c, isName n = true)
    (hm : (m == "room") = false ∧ (m == "counts") = false ∧ (m == "gone") = false ∧ (m == "total") = false)
    (q : ∀ (H' : Hp) (q : Addr), H q = none → Ex H H' → H' q = some (.lst ((overS room c (u gone) total).map V.str)) → Q (.ref q) H') :
    tCB (rSortedS K) (tCons (tLockE (tLc (iKeys (tFld K (tVar 0) "counts")) (gName 1) (tOver K C CN m u) (tVar 1) [1])) tNil)
      [some (.ref p), none] H Q := by
  obtain ⟨⟨dx, hp⟩, hd, nd, hl, r1, r2⟩ := id D
  have npd := D.ne
  refine ⟨d, .dK (kvc c), hd, trivial, fun od => ?_⟩
  refine ⟨_, rfl, p, C, dx, _, _, rfl, (by rw [upd_ne npd]; exact hp), T.cl, T.nC, dfl_counts _ _ _ _, d, od, rfl, .inl ⟨kvc c, upd_same, fun L hL => ?_⟩⟩
  have dL : d ≠ L := fun z => by rw [← z, upd_same] at hL; cases hL
  have pL : p ≠ L := fun z => by rw [← z, upd_ne npd, hp] at hL; cases hL
  have hL0 : H L = none := by
    rw [upd_ne dL.symm] at hL
    exact hL
  refine lc_it (n := c.length) (fun i H2 => H2 d = some (.frz od (.dK (kvc c))) ∧ (∀ b o, b ≠ d → H b = some o → H2 b = some o) ∧ H2 L = some (.lst ((((keysC c).take i).filter fun n => decide (total < (getD0 c n + u gone) * (room + 1))).map V.str)))
    ⟨by rw [upd_ne dL]; exact upd_same, fun b o hb e => by rw [upd_ne (ne_of_none e hL0), upd_ne hb]; exact e, upd_same⟩ ?_ ?_ ?_ ?_
  · rintro i H2 hi ⟨h1, h2, h3⟩
    exact ⟨h1, by rw [len_kvc]; exact hi⟩
  · rintro H2 ⟨h1, h2, h3⟩
    exact ⟨h1, by rw [len_kvc]; exact Nat.le_refl _⟩
  · rintro i H2 hi ⟨h1, h2, h3⟩ x H3 ⟨rfl, k, v, hk, rfl⟩
    have ei : c[i]? = some c[i] := List.getElem?_eq_getElem hi
    have e0 : (kvc c)[i]? = some (Sum.inr c[i].1, V.int c[i].2) := by
      unfold kvc
      rw [List.getElem?_map, ei]
      rfl
    rw [e0] at hk
    cases hk
    have ek : (keysC c)[i]? = some c[i].1 := by
      unfold keysC
      rw [List.getElem?_map, ei]
      rfl
    have hn1 := hn _ (List.mem_of_getElem? ek)
    have hp2 := h2 p _ npd hp
    have hil : i < (keysC c).length := (List.getElem?_eq_some_iff.mp ek).1
    have tk : (keysC c).take (i + 1) = (keysC c).take i ++ [c[i].1] := by
      rw [List.take_succ_eq_append_getElem hil]
      rw [(List.getElem?_eq_some_iff.mp ek).2]
    refine ⟨rfl, _, rfl, p, dx, _, rfl, hp2, dfl_no _ _ _ _ hm, _, rfl, p, d, room, c, gone, total, .str c[i].1, rfl, ⟨⟨dx, hp2⟩, .inr ⟨od, h1⟩⟩, thing_str _, fun z e => ?_, fun n en _ => ?_, fun hx => ?_⟩
    · cases e
      exact name_size hn1
    · cases en
      refine ⟨_, rfl, p, C, dx, _, _, rfl, hp2, T.cl, T.nR, dfl_room _ _ _ _, _, _, rfl, rfl, _, _, rfl, rfl, .inr ⟨by omega, by omega⟩, _, rfl, p, C, dx, _, _, rfl, hp2, T.cl, T.nT, dfl_total _ _ _ _, _, _, rfl, rfl, _, rfl, ?_⟩
      refine ite2 (fun h => ?_) (fun h => ?_)
      · refine ⟨_, rfl, _, h3, small ?_, by rw [upd_ne dL]; exact h1, fun b o hb e => by rw [upd_ne (ne_of_none e hL0)]; exact h2 b o hb e, ?_⟩
        · rw [List.length_map]
          have a1 := List.length_filter_le (fun n => decide (total < (getD0 c n + u gone) * (room + 1))) ((keysC c).take i)
          have a2 : ((keysC c).take i).length ≤ i := by rw [List.length_take]; omega
          have := D.len
          omega
        · rw [upd_same, tk, List.filter_append, List.map_append]
          have : [c[i].1].filter (fun n => decide (total < (getD0 c n + u gone) * (room + 1))) = [c[i].1] := by
            exact List.filter_cons_of_pos (p := fun n => decide (total < (getD0 c n + u gone) * (room + 1))) h
          rw [this]
          rfl
      · refine ⟨h1, h2, ?_⟩
        rw [h3, tk, List.filter_append, List.map_append]
        have : [c[i].1].filter (fun n => decide (total < (getD0 c n + u gone) * (room + 1))) = [] := by
          exact List.filter_cons_of_neg (p := fun n => decide (total < (getD0 c n + u gone) * (room + 1))) h
        rw [this]
        simp
    · rw [show isNameV (.str c[i].1) = true from hn1] at hx
      cases hx
  · rintro H2 ⟨h1, h2, h3⟩
    refine ⟨h1, L, (keysC c).filter fun n => decide (total < (getD0 c n + u gone) * (room + 1)), rfl, SqL.of ?_, ?_, fun ys l pm so hl' => ?_⟩
    · rw [upd_ne dL.symm, h3, List.take_of_length_le (by unfold keysC; rw [List.length_map]; exact Nat.le_refl _)]
    · have a1 := List.length_filter_le (fun n => decide (total < (getD0 c n + u gone) * (room + 1))) (keysC c)
      have a2 : (keysC c).length = c.length := by unfold keysC; rw [List.length_map]
      have := D.len
      omega
    · have ex1 : Ex H (upd H2 d (.dK (kvc c))) := fun b o e => by
        by_cases hb : b = d
        · rw [hb, upd_same]
          rw [hb, hd] at e
          exact e
        · rw [upd_ne hb]
          exact h2 b o hb e
      have hl0 : H l = none := by
        cases e : H l with
        | none => rfl
        | some o =>
          rw [ex1 _ _ e] at hl'
          cases hl'
      refine q _ l hl0 (fun b o e => by rw [upd_ne (ne_of_none (ex1 b o e) hl')]; exact ex1 b o e) ?_
      rw [upd_same, sortS_eq pm (sortedS_pw so)]
      rfl
end
section
variable {P : Program} {w : World} {K : PySem.W.Frag} {mg : Str → Option Value} {base : Heap} {C CN CW CD : Addr}
theorem ok_least {f : Addr} {fd : FuncData} (F : Fun K "least" "Desk.least" sDLeast f fd) (T : DkT K mg C CN CW CD) (GN : Gf P w K mg base CX0 1 "is_name" pIsName (spName K)) :
    FnOk P w K mg base (L2.CX P w) 2 f fd pDLeast (spLeast K C CN fun _ => 0) := by
  obtain ⟨fN, fdN, gN, bN, mN, kN⟩ := GN.ex
  refine F.okX cDLeast (fun vs H Q E h => ?_) (fun cdv A outer s H vs Q E hr h => ?_)
  · obtain ⟨p, d, room, c, gone, total, x, rfl, _⟩ := h
    rfl
  · obtain ⟨p, d, room, c, gone, total, x, rfl, ⟨⟨dx, hp⟩, hd⟩, tx, hz, q1, q2⟩ := h
    have hu := hu_of hr
    refine ⟨_, pss_cons (ps_if (pt_not (pt_val (pe_call gN hr rfl mN kN bN .nil pass0 (pa_cons (pv 1) pa_nil)))) (pss_one (ps_raise rfl (takes_of rfl rfl rfl rfl) (pmk_own PySem.F.excBase_ValueError T.eN.x T.eN.g T.eN.k (raises_own T.eN.b T.eN.t) (by rfl)))) pss_nil)
      (pss_one (ps_ret (pe_dget2 hu (pe_fld (pv 0) rfl) (pv 1) pe_int ⟨rfl, rfl, rfl, rfl⟩))), ?_⟩
    refine ⟨_, rfl, x, rfl, tx, hz, _, rfl, ?_⟩
    cases hx : isNameV x with
    | false => exact iteT (q2 hx)
    | true =>
      refine iteF ?_
      cases x <;> first | (exact absurd hx Bool.false_ne_true) | skip
      rename_i n
      refine ⟨_, rfl, p, C, dx, _, _, rfl, hp, T.cl, T.nC, dfl_counts _ _ _ _, d, rfl, IsD.of hd, _, rfl, _, DGet.of hd n, ?_⟩
      rw [getD_map]
      have := q1 n rfl hx
      rw [Int.add_zero] at this
      exact this
end
section
variable {P : Program} {w : World} {K : PySem.W.Frag} {mg : Str → Option Value} {base : Heap} {C CN CW CD : Addr}
theorem ok_most {f : Addr} {fd : FuncData} (F : Fun K "most" "Desk.most" sDMost f fd) (T : DkT K mg C CN CW CD) (GL : Gm P w K mg base (L2.CX P w) C 2 "least" pDLeast (spLeast K C CN fun _ => 0)) :
    FnOk P w K mg base (L2.CX P w) 3 f fd pDMost (spLeast K C CN fun g => g) := by
  obtain ⟨fL, fdL, gL, bL, mL⟩ := GL.ex
  refine F.okX cDMost (fun vs H Q E h => ?_) (fun cdv A outer s H vs Q E hr h => ?_)
  · obtain ⟨p, d, room, c, gone, total, x, rfl, _⟩ := h
    rfl
  · obtain ⟨p, d, room, c, gone, total, x, rfl, D, tx, hz, q1, q2⟩ := h
    refine ⟨_, pss_one (ps_ret (pe_op op_add (pe_meth (pv 0) T.cl mL gL hr bL .nil (passes_call (takes_of rfl rfl rfl rfl) (fun _ _ _ _ z => z)) (pa_cons (pv 1) pa_nil)) (pe_fld (pv 0) rfl))), ?_⟩
    obtain ⟨dx, hp⟩ := D.ob
    refine ⟨_, rfl, p, dx, _, rfl, hp, dfl_no _ _ _ _ (by decide +kernel), _, rfl, p, d, room, c, gone, total, x, rfl, D, tx, hz, fun n en hn => ?_, q2⟩
    refine ⟨_, rfl, p, C, dx, _, _, rfl, hp, T.cl, T.nG, dfl_gone _ _ _ _, _, _, rfl, rfl, ?_⟩
    rw [Int.add_zero]
    exact q1 n en hn
end
section
variable {P : Program} {w : World} {K : PySem.W.Frag} {mg : Str → Option Value} {base : Heap} {C CN CW CD : Addr}
theorem ok_maybe {f : Addr} {fd : FuncData} (F : Fun K "maybe" "Desk.maybe" sDMaybe f fd) (T : DkT K mg C CN CW CD) (GM : Gm P w K mg base (L2.CX P w) C 3 "most" pDMost (spLeast K C CN fun g => g)) : FnOk P w K mg base CX0 4 f fd pDMaybe (spOver C fun g => g) := by
  obtain ⟨fM, fdM, gM, bM, mM⟩ := GM.ex
  refine F.ok cDMaybe (fun vs H Q E h => ?_) (fun cdv A outer s H vs Q E hr h => ?_)
  · obtain ⟨p, d, room, c, gone, total, rfl, _⟩ := h
    rfl
  · obtain ⟨p, d, room, c, gone, total, rfl, D, hn, q⟩ := h
    refine ⟨_, pss_one (ps_ret (pe_callB cr_sortedS (by rfl) T.srt (by decide +kernel) (pa_cons (pe_lock (pe_lc (own := [("name", 1)]) (g := gName 1) (tt := tOver K C CN "most" fun g => g) rfl cDMaybe.nd (pi_keys (pe_fld (pv 0) rfl)) (blkOk_by (own := [("name", 1)]) (N := nDMaybe) (sc := defScope sDMaybe) (by decide +kernel))
      (fun _ _ _ _ _ => pg_name (i := 1) cDMaybe.nd rfl (Or.inl rfl)) (fun _ _ _ _ _ => pts_one (pt_cmpR op_gt (pe_op op_mul (pe_meth (pv 0) T.cl mM gM hr bM .nil passL (pa_cons (pv 1) pa_nil)) (pe_op op_add (pe_fld (pv 0) rfl) pe_int)) (pe_fld (pv 0) rfl) (nomark _))) (fun _ _ _ _ _ => pv 1))) pa_nil))), ?_⟩
    exact over_reads T D hn (by decide +kernel) q
end
section
variable {P : Program} {w : World} {K : PySem.W.Frag} {mg : Str → Option Value} {base : Heap} {C CN CW CD : Addr}
theorem ok_surely {f : Addr} {fd : FuncData} (F : Fun K "surely" "Desk.surely" sDSurely f fd) (T : DkT K mg C CN CW CD) (GM : Gm P w K mg base (L2.CX P w) C 2 "least" pDLeast (spLeast K C CN fun _ => 0)) : FnOk P w K mg base CX0 3 f fd pDSurely (spOver C fun _ => 0) := by
  obtain ⟨fM, fdM, gM, bM, mM⟩ := GM.ex
  refine F.ok cDSurely (fun vs H Q E h => ?_) (fun cdv A outer s H vs Q E hr h => ?_)
  · obtain ⟨p, d, room, c, gone, total, rfl, _⟩ := h
    rfl
  · obtain ⟨p, d, room, c, gone, total, rfl, D, hn, q⟩ := h
    refine ⟨_, pss_one (ps_ret (pe_callB cr_sortedS (by rfl) T.srt (by decide +kernel) (pa_cons (pe_lock (pe_lc (own := [("name", 1)]) (g := gName 1) (tt := tOver K C CN "least" fun _ => 0) rfl cDSurely.nd (pi_keys (pe_fld (pv 0) rfl)) (blkOk_by (own := [("name", 1)]) (N := nDSurely) (sc := defScope sDSurely) (by decide +kernel))
      (fun _ _ _ _ _ => pg_name (i := 1) cDSurely.nd rfl (Or.inl rfl)) (fun _ _ _ _ _ => pts_one (pt_cmpR op_gt (pe_op op_mul (pe_meth (pv 0) T.cl mM gM hr bM .nil passL (pa_cons (pv 1) pa_nil)) (pe_op op_add (pe_fld (pv 0) rfl) pe_int)) (pe_fld (pv 0) rfl) (nomark _))) (fun _ _ _ _ _ => pv 1))) pa_nil))), ?_⟩
    exact over_reads T D hn (by decide +kernel) q
end
/-! ### what a law draws -/
section
variable {P : Program} {w : World} {K : PySem.W.Frag} {mg : Str → Option Value} {base : Heap}
def spMixed : Sp := fun vs H Q _ => ∃ (c k : Int), vs = [.int c, .int k] ∧ ∀ m : Int, 0 ≤ m → m < 2147483647 → Q (.int m) H
theorem ok_mixed {f : Addr} {fd : FuncData} (F : Fun K "_law_mixed" "_law_mixed" sLMixed f fd) : FnOk P w K mg base CX0 1 f fd pLMixed spMixed := by
  refine F.ok cLMixed (fun vs H Q E h => ?_) (fun cdv A outer s H vs Q E hr h => ?_)
  · obtain ⟨c, k, rfl, _⟩ := h
    rfl
  · obtain ⟨c, k, rfl, q⟩ := h
    refine ⟨_, pss_cons (ps_set (i := 2) cLMixed.nd rfl (Or.inl rfl) (pe_op op_mod (pe_op op_mul (pe_op op_add (pe_op op_mod (pv 0) pe_int) (pe_op op_mul pe_int (pe_op op_add (pv 1) pe_int))) pe_int) pe_int))
      (pss_one (ps_ret (pe_op op_mod (pe_op op_mul (pe_op op_mod (pe_op op_mul (pv 2) (pv 2)) pe_int) pe_int) pe_int))), ?_⟩
    refine ⟨_, rfl, _, _, rfl, rfl, (by show (0 : Int) < _; decide), _, rfl, _, _, rfl, rfl, _, _, rfl, rfl, .inl (by decide), _, _, rfl, rfl, _, _, rfl, rfl, .inr (by decide), _, _, rfl, rfl, (by show (0 : Int) < _; decide), ?_⟩
    have h0 := Int.emod_nonneg ((c % 2147483629 + 104729 * (k + 1)) * 16807) (show (2147483647 : Int) ≠ 0 by decide)
    have h1 := Int.emod_lt_of_pos ((c % 2147483629 + 104729 * (k + 1)) * 16807) (show (0 : Int) < 2147483647 by decide)
    generalize (c % 2147483629 + 104729 * (k + 1)) * 16807 % 2147483647 = z at h0 h1 ⊢
    refine ⟨_, rfl, _, rfl, _, _, rfl, rfl, .inl ⟨by omega, by omega⟩, _, _, rfl, rfl, (by show (0 : Int) < _; decide), _, _, rfl, rfl, .inr (by decide), _, _, rfl, rfl, (by show (0 : Int) < _; decide), ?_⟩
    exact q _ (Int.emod_nonneg _ (by decide)) (Int.emod_lt_of_pos _ (by decide))
def spDrawers (K : PySem.W.Frag) : Sp := fun vs H Q _ => ∃ (a : Addr) (ns : List Int), vs = [.ref a] ∧ SqL K H a (ns.map V.int) ∧ ∀ (r : Int) (H' : Hp), 1 ≤ r → r ≤ 50 → Ex H H' → Q (.int r) H'
/-- script[i] if script else 0: some whole number -/
theorem cell_reads {Q : VK} {H : Hp} {a : Addr} {ns : List Int} {i : Int} {ti : TE} {σ : L2.St} (hσ : σ[0]? = some (some (.ref a))) (ht : ∀ Q : VK, Q (.int i) H → ti σ H Q) (h : SqL K H a (ns.map V.int)) (hi : i = 0 ∨ i = -1) (q : ∀ z : Int, Q (.int z) H) :
    tIf (fun σ H Q => tVar 0 σ H fun x H' => ∃ k, TruV K x H' k ∧ Q k H') (tOp (rIxL K) (tVar 0) ti) (tC (.int 0)) σ H Q := by
  refine ⟨_, hσ, _, .inl ⟨_, h, rfl⟩, ?_⟩
  cases ns with
  | nil => exact q 0
  | cons z ns =>
    refine ite2 (fun _ => ?_) (fun hh => absurd rfl hh)
    rcases hi with rfl | rfl
    · exact ⟨_, hσ, ht _ ⟨a, _, _, _, rfl, rfl, h, atI_nat (j := 0) rfl, q z⟩⟩
    · obtain ⟨l, y, e⟩ : ∃ l y, z :: ns = l ++ [y] := ⟨(z :: ns).dropLast, (z :: ns).getLast (by simp), (List.dropLast_concat_getLast _).symm⟩
      refine ⟨_, hσ, ht _ ⟨a, _, _, V.int y, rfl, rfl, h, ?_, q y⟩⟩
      rw [e, List.map_append]
      exact atI_last _ _
theorem ok_drawersL {f : Addr} {fd : FuncData} (F : Fun K "_law_drawers" "_law_drawers" sLDrawers f fd) (GM : Gf P w K mg base CX0 1 "_law_mixed" pLMixed spMixed) : FnOk P w K mg base CX0 2 f fd pLDrawers (spDrawers K) := by
  obtain ⟨fM, fdM, gM, bM, mM, kM⟩ := GM.ex
  refine F.ok cLDrawers (fun vs H Q E h => ?_) (fun cdv A outer s H vs Q E hr h => ?_)
  · obtain ⟨a, ns, rfl, _⟩ := h
    rfl
  · obtain ⟨a, ns, rfl, hS, q⟩ := h
    refine ⟨_, pss_cons (ps_set (i := 1) cLDrawers.nd rfl (Or.inl rfl) (pe_call gM hr rfl mM kM bM .nil pass0 (pa_cons (pe_ifExp (pt_truth (pv 0) (by intro _; rfl)) (pe_ix ix_list (pv 0) (pe_un un_neg pe_int) (fun _ _ => rfl)) pe_int) (pa_cons pe_int pa_nil))))
      (pss_one (ps_ret (pe_ix ix_list (pe_lst (pa_cons (pe_op op_add pe_int (pe_op op_mod (pe_op op_fdiv (pv 1) pe_int) pe_int)) (pa_cons (pe_op op_add pe_int (pe_op op_mod (pe_op op_fdiv (pv 1) pe_int) pe_int)) (pa_cons pe_int (pa_cons pe_int pa_nil)))))
        (pe_op op_fdiv (pe_op op_mod (pv 1) pe_int) pe_int) (fun _ _ => rfl)))), ?_⟩
    refine cell_reads (K := K) (a := a) (ns := ns) (i := -1) (ti := tUn (rU fun i => .int (-i)) (tC (.int 1))) (σ := [some (.ref a), none]) (by rfl) (fun Q' h' => ⟨1, rfl, h'⟩) hS (.inr rfl) fun z => ?_
    refine ⟨z, 901, rfl, fun m m0 m1 => ?_⟩
    refine ⟨_, rfl, _, _, rfl, rfl, ⟨by decide, by decide⟩, _, _, rfl, rfl, (by show (0 : Int) < _; decide), _, _, rfl, rfl, _, rfl, _, _, rfl, rfl, ⟨by decide, by decide⟩, _, _, rfl, rfl, (by show (0 : Int) < _; decide), _, _, rfl, rfl, (by rw [sizeLine_eq]; show 4 ≤ 16777216; decide), fun l hl => ?_⟩
    refine ⟨_, rfl, _, _, rfl, rfl, (by show (0 : Int) < _; decide), _, _, rfl, rfl, ⟨by decide, by decide⟩, l, [.int (1 + m / 8 % 4), .int (1 + m / 8 % 9), .int 3, .int 50], m % 8 / 2, ?_⟩
    have h := (show m % 8 / 2 = 0 ∨ m % 8 / 2 = 1 ∨ m % 8 / 2 = 2 ∨ m % 8 / 2 = 3 by omega)
    rcases h with e | e | e | e
    · exact ⟨_, rfl, rfl, SqL.of upd_same, by rw [e]; exact atI_nat (j := 0) rfl, q _ _ (by omega) (by omega) (Evl.Ex.new hl)⟩
    · exact ⟨_, rfl, rfl, SqL.of upd_same, by rw [e]; exact atI_nat (j := 1) rfl, q _ _ (by omega) (by omega) (Evl.Ex.new hl)⟩
    · exact ⟨_, rfl, rfl, SqL.of upd_same, by rw [e]; exact atI_nat (j := 2) rfl, q _ _ (by omega) (by omega) (Evl.Ex.new hl)⟩
    · exact ⟨_, rfl, rfl, SqL.of upd_same, by rw [e]; exact atI_nat (j := 3) rfl, q _ _ (by omega) (by omega) (Evl.Ex.new hl)⟩
end
section
variable {P : Program} {w : World} {K : PySem.W.Frag} {mg : Str → Option Value} {base : Heap}
def spNames (K : PySem.W.Frag) : Sp := fun vs H Q _ => ∃ (a : Addr) (ns : List Int), vs = [.ref a] ∧ SqL K H a (ns.map V.int) ∧ ∀ (nm : List Str) (p : Addr) (H' : Hp), nm.length = 14 → NamesOk nm → H p = none → Ex H H' → H' p = some (.lst (nm.map V.str)) → Q (.ref p) H'
theorem ok_names {f : Addr} {fd : FuncData} (F : Fun K "_law_names" "_law_names" sLNames f fd) (GM : Gf P w K mg base CX0 1 "_law_mixed" pLMixed spMixed) (ml : mg "len" = none) (mn : mg "min" = none) (mr : mg "range" = none) : FnOk P w K mg base CX0 2 f fd pLNames (spNames K) := by
  obtain ⟨fM, fdM, gM, bM, mM, kM⟩ := GM.ex
  refine F.ok cLNames (fun vs H Q E h => ?_) (fun cdv A outer s H vs Q E hr h => ?_)
  · obtain ⟨a, ns, rfl, _⟩ := h
    rfl
  · obtain ⟨a, ns, rfl, hS, q⟩ := h
    refine ⟨_, pss_cons (ps_set (i := 1) cLNames.nd rfl (Or.inl rfl) pe_str)
      (pss_cons (ps_set (i := 2) cLNames.nd rfl (Or.inl rfl) (pe_call gM hr rfl mM kM bM .nil pass0 (pa_cons (pe_ifExp (pt_truth (pv 0) (by intro _; rfl)) (pe_ix ix_list (pv 0) pe_int (fun _ _ => rfl)) pe_int) (pa_cons pe_int pa_nil))))
      (pss_cons (ps_set (i := 3) cLNames.nd rfl (Or.inl rfl) (pe_op op_mulS (pe_ix ix_str (pv 1) (pe_op op_mod (pv 2) pe_int) (fun _ _ => rfl)) (pe_op op_add pe_int (pe_op op_mod (pe_op op_fdiv (pv 2) pe_int) pe_int))))
      (pss_cons (ps_set (i := 4) cLNames.nd rfl (Or.inl rfl) (pe_op op_mod (pe_op op_fdiv (pv 2) pe_int) (pe_callB call_len_str (by rfl) ml PySem.boot_len (pa_cons (pv 3) pa_nil))))
      (pss_cons (ps_set (i := 5) cLNames.nd rfl (Or.inl rfl) (pe_lst pa_nil))
      (pss_cons (ps_for PassesOwn.never rfl (pi_range1 rfl mr (pa_cons pe_int pa_nil)) (pg_name (i := 6) cLNames.nd rfl (Or.inl rfl))
        (pss_cons (ps_set (i := 7) cLNames.nd rfl (Or.inl rfl) (pe_ix ix_str (pv 1) (pe_op op_mod (pe_op op_add (pe_op op_fdiv (pv 2) pe_int) (pe_op op_mul pe_int (pv 6))) pe_int) (fun _ _ => rfl)))
        (pss_cons (ps_set (i := 8) cLNames.nd rfl (Or.inl rfl) (pe_op op_add_str (pe_op op_add_str (pe_slice sl_str (pv 3) po_none (po_some (pv 4))) (pv 7)) (pe_slice sl_str (pv 3) (po_some (pe_op op_add (pv 4) pe_int)) po_none)))
        (pss_cons (ps_if (pt_cmpR op_eq (pe_op op_mod (pv 6) pe_int) pe_int (nomark _))
          (pss_one (ps_set (i := 8) cLNames.nd rfl (Or.inl rfl) (pe_slice sl_str (pe_op op_add_str (pv 8) (pv 8)) po_none (po_some (pe_callB (call_min2 rfl) (by rfl) mn (by decide +kernel) (pa_cons pe_int (pa_cons (pe_op op_add (pe_op op_add (pe_callB call_len_str (by rfl) ml PySem.boot_len (pa_cons (pv 8) pa_nil)) pe_int) (pe_op op_mod (pv 6) pe_int)) pa_nil)))))))
          pss_nil)
        (pss_cons (ps_if (pt_cmpR op_eq (pe_op op_mod (pv 6) pe_int) pe_int (nomark _))
          (pss_one (ps_set (i := 8) cLNames.nd rfl (Or.inl rfl) (pe_slice sl_str (pv 8) po_none (po_some (pe_op op_add (pv 4) pe_int)))))
          pss_nil)
        (pss_one (ps_expr (pe_bm PySem.F.plainAttrs_list PySem.F.slot_list_append PySem.F.type_list_append mt_append (pv 5) (pa_cons (pv 8) pa_nil)))))))))
      (pss_one (ps_ret (pv 5)))))))), ?_⟩
    refine cell_reads (K := K) (a := a) (ns := ns) (i := 0) (ti := tC (.int 0)) (σ := [some (.ref a), some (.str letters), none, none, none, none, none, none, none]) (by rfl) (fun Q' h' => h') hS (.inl rfl) fun z => ?_
    refine ⟨z, 900, rfl, fun m m0 m1 => ?_⟩
    have b26 := Int.emod_nonneg m (show (26 : Int) ≠ 0 by decide)
    have b26' := Int.emod_lt_of_pos m (show (0 : Int) < 26 by decide)
    -- the base: one letter, 1 to 8 times
    refine ⟨_, rfl, _, rfl, _, _, rfl, rfl, (by show (0 : Int) < _; decide), letters, m % 26, _, rfl, rfl, (by rw [sizeLine_eq]; decide +kernel), letters_at _ b26 b26', ?_⟩
    refine ⟨_, rfl, _, _, rfl, rfl, ⟨by decide, by decide⟩, _, _, rfl, rfl, (by show (0 : Int) < _; decide), _, _, rfl, rfl, ?_⟩
    obtain ⟨L, hL, hL1, hL8⟩ : ∃ L : Nat, 1 + m / 26 % 8 = (L : Int) ∧ 1 ≤ L ∧ L ≤ 8 := ⟨(1 + m / 26 % 8).toNat, by omega, by omega, by omega⟩
    dsimp only
    rw [hL]
    refine ⟨_, _, rfl, rfl, mulS_ok rfl (by omega) (by omega), ?_⟩
    have hbase := mulS_cs (97 + (m % 26).toNat) L hL1 hL8
    generalize PySem.Txt.mul ⟨#[97 + (m % 26).toNat]⟩ (L : Int) = bs at hbase ⊢
    have hbl : bs.length = L := by rw [cs_len, hbase, List.length_replicate]
    -- the place
    refine ⟨_, rfl, _, _, rfl, rfl, ⟨by decide, by decide⟩, _, rfl, bs, rfl, (by rw [hbl, sizeLine_eq]; omega), _, _, rfl, rfl, (by show (0 : Int) < (bs.length : Int); rw [hbl]; omega), ?_⟩
    dsimp only
    rw [hbl]
    have hp0 := Int.emod_nonneg (m / 208) (show ((L : Nat) : Int) ≠ 0 by omega)
    have hp1 := Int.emod_lt_of_pos (m / 208) (show (0 : Int) < ((L : Nat) : Int) by omega)
    obtain ⟨at_, hat⟩ : ∃ k : Nat, m / 208 % (L : Int) = (k : Int) := ⟨(m / 208 % (L : Int)).toNat, by omega⟩
    rw [hat] at hp1 ⊢
    have hatL : at_ < L := by omega
    refine ⟨Nat.zero_le _, fun p hp => ?_⟩
    refine ⟨14, rfl, by decide, by decide, for_range (lo := 0) (n := 14) (fun i σ H2 => ∃ (nm : List Str) (v6 v7 v8 : Option V), σ = [some (.ref a), some (.str letters), some (.int m), some (.str bs), some (.int (at_ : Int)), some (.ref p), v6, v7, v8] ∧ Ex H H2 ∧ nm.length = i ∧ i ≤ 14 ∧
        (∀ (k : Nat) (z : Str), nm[k]? = some z → WordAt (m / 1664) at_ k z) ∧ H2 p = some (.lst (nm.map V.str)))
      ⟨[], none, none, none, rfl, Evl.Ex.new hp, rfl, by decide, fun k z e => by simp at e, upd_same⟩ ?_ ?_⟩
    · rintro i σ H2 hi ⟨nm, v6, v7, v8, rfl, ex, hl, hi', hw, h2⟩
      have hk : (0 : Int) + (i : Int) = (i : Int) := Int.zero_add _
      show tSeq _ _ _ _ _
      have c0 := Int.emod_nonneg (m / 1664 + 5 * (i : Int)) (show (26 : Int) ≠ 0 by decide)
      have c1 := Int.emod_lt_of_pos (m / 1664 + 5 * (i : Int)) (show (0 : Int) < 26 by decide)
      dsimp only
      rw [hk]
      refine ⟨_, rfl, _, rfl, _, _, rfl, rfl, ⟨by decide, by decide⟩, _, rfl, _, _, rfl, rfl, .inl (by decide), _, _, rfl, rfl, _, _, rfl, rfl, (by show (0 : Int) < _; decide), letters, _, _, rfl, rfl, (by rw [sizeLine_eq]; decide +kernel), letters_at _ c0 c1, ?_⟩
      obtain ⟨lc, hlc⟩ : ∃ lc : Nat, lc = 97 + ((m / 1664 + 5 * (i : Int)) % 26).toNat := ⟨_, rfl⟩
      dsimp only
      rw [← hlc]
      -- the word
      have szb : bs.length ≤ sizeLine := by rw [hbl, sizeLine_eq]; omega
      refine ⟨_, rfl, _, rfl, _, rfl, bs, rfl, szb, _, rfl, _, _, rfl, rfl, ?_, ?_⟩
      · have := cutS_length bs none (some (at_ : Int))
        show _ + 1 ≤ _
        rw [sizeLine_eq]
        omega
      have e1 : (at_ : Int) + 1 = ((at_ + 1 : Nat) : Int) := by omega
      refine ⟨_, rfl, _, rfl, _, _, rfl, rfl, _, rfl, ?_⟩
      dsimp only
      rw [e1]
      refine ⟨bs, rfl, szb, ?_⟩
      have w0 : cs (cutS bs none (some (at_ : Int)) ++ ⟨#[lc]⟩ ++ cutS bs (some ((at_ + 1 : Nat) : Int)) none) = (cs bs).take at_ ++ [lc] ++ (cs bs).drop (at_ + 1) := by
        rw [cs_app, cs_app, cut_to, cut_from]
      have hwl : ((cs bs).take at_ ++ [lc] ++ (cs bs).drop (at_ + 1)).length = L := by
        rw [List.length_append, List.length_append, List.length_take, List.length_drop, hbase, List.length_replicate]
        simp only [List.length_cons, List.length_nil]
        omega
      refine ⟨_, _, rfl, rfl, ?_, ?_⟩
      · have l1 : (cutS bs none (some (at_ : Int)) ++ ⟨#[lc]⟩).length ≤ 9 := by
          rw [cs_len, cs_app, cut_to, List.length_append, List.length_take, hbase, List.length_replicate]
          show _ + 1 ≤ 9
          omega
        have l2 := cutS_length bs (some ((at_ + 1 : Nat) : Int)) none
        rw [sizeLine_eq]
        omega
      generalize cutS bs none (some (at_ : Int)) ++ ⟨#[lc]⟩ ++ cutS bs (some ((at_ + 1 : Nat) : Int)) none = wd at w0 ⊢
      have low : ∀ c ∈ cs wd, 97 ≤ c ∧ c ≤ 122 := by
        intro c hc
        rw [w0, List.mem_append, List.mem_append] at hc
        have rep : c ∈ cs bs → 97 ≤ c ∧ c ≤ 122 := fun h => by
          rw [hbase, List.mem_replicate] at h
          omega
        rcases hc with (hc | hc) | hc
        · exact rep (List.mem_of_mem_take hc)
        · rw [List.mem_singleton] at hc
          omega
        · exact rep (List.mem_of_mem_drop hc)
      have hwdl : (cs wd).length = L := by rw [w0]; exact hwl
      have atw : (cs wd)[at_]? = some lc := by
        rw [w0, List.append_assoc, List.getElem?_append_right (by rw [List.length_take]; omega)]
        have : at_ - ((cs bs).take at_).length = 0 := by rw [List.length_take, hbase, List.length_replicate]; omega
        rw [this]
        rfl
      -- what the rest makes of a word that has its letter
      have fin : ∀ (z : Str) (v7' : Option V), (∀ c ∈ cs z, 97 ≤ c ∧ c ≤ 122) → 1 ≤ (cs z).length → (cs z).length ≤ 8 → (cs z)[at_]? = some lc → ∀ H3, Ex H H3 → H3 p = some (.lst (nm.map V.str)) →
          tDrop (tBM K "list" rAppend (tVar 5) (tCons (tVar 8) tNil)) { nx := fun σ' H' => ∃ (nm : List Str) (v6 v7 v8 : Option V), σ' = [some (.ref a), some (.str letters), some (.int m), some (.str bs), some (.int (at_ : Int)), some (.ref p), v6, v7, v8] ∧ Ex H H' ∧ nm.length = i + 1 ∧ i + 1 ≤ 14 ∧
              (∀ (k : Nat) (z : Str), nm[k]? = some z → WordAt (m / 1664) at_ k z) ∧ H' p = some (.lst (nm.map V.str)), rt := Q } [some (.ref a), some (.str letters), some (.int m), some (.str bs), some (.int (at_ : Int)), some (.ref p), some (.int (i : Int)), v7', some (.str z)] H3 := by
        intro z v7' h1 h2' h3 h4 H3 ex3 hp3
        refine ⟨_, rfl, .inl ⟨rfl, _, SqL.of hp3⟩, _, rfl, p, _, _, rfl, rfl, hp3, small (by rw [List.length_map]; omega), nm ++ [z], _, _, _, rfl, fun b o e => ?_, by rw [List.length_append, hl]; rfl, by omega, fun k y hk' => ?_, ?_⟩
        · rw [upd_ne (ne_of_none e hp)]
          exact ex3 b o e
        · rcases Nat.lt_or_ge k nm.length with c | c
          · rw [List.getElem?_append_left c] at hk'
            exact hw k y hk'
          · rw [List.getElem?_append_right c] at hk'
            have ek : k = nm.length := by
              have := (List.getElem?_eq_some_iff.mp hk').1
              simp only [List.length_cons, List.length_nil] at this
              omega
            rw [ek, Nat.sub_self] at hk'
            have ey : z = y := Option.some.inj hk'
            rw [← ey, ek, hl]
            exact ⟨(isName_iff z).mpr ⟨h2', h3, h1⟩, by rw [h4, hlc]⟩
        · rw [upd_same, List.map_append]
          rfl
      have cutLast : ∀ (z : Str) (v7' : Option V), (∀ c ∈ cs z, 97 ≤ c ∧ c ≤ 122) → 1 ≤ (cs z).length → (cs z).length ≤ 8 → (cs z)[at_]? = some lc → ∀ H3, Ex H H3 → H3 p = some (.lst (nm.map V.str)) →
          tSeq (tIfS (tTest (tOp rEq (tOp (rI (fun _ j => 0 < j) fun i j => .int (i % j)) (tVar 6) (tC (.int 5))) (tC (.int 4)))) (tAsg (tSl rSlS (tVar 8) tNoPart (tPart (tOp (rI0 fun i j => .int (i + j)) (tVar 4) (tC (.int 1))))) (gName 8)) tNext) (tDrop (tBM K "list" rAppend (tVar 5) (tCons (tVar 8) tNil)))
            { nx := fun σ' H' => ∃ (nm : List Str) (v6 v7 v8 : Option V), σ' = [some (.ref a), some (.str letters), some (.int m), some (.str bs), some (.int (at_ : Int)), some (.ref p), v6, v7, v8] ∧ Ex H H' ∧ nm.length = i + 1 ∧ i + 1 ≤ 14 ∧
              (∀ (k : Nat) (z : Str), nm[k]? = some z → WordAt (m / 1664) at_ k z) ∧ H' p = some (.lst (nm.map V.str)), rt := Q } [some (.ref a), some (.str letters), some (.int m), some (.str bs), some (.int (at_ : Int)), some (.ref p), some (.int (i : Int)), v7', some (.str z)] H3 := by
        intro z v7' h1 h2' h3 h4 H3 ex3 hp3
        refine ⟨_, rfl, _, _, rfl, rfl, (by show (0 : Int) < _; decide), rfl, _, rfl, ?_⟩
        refine ite2 (fun _ => ?_) (fun _ => fin z v7' h1 h2' h3 h4 H3 ex3 hp3)
        refine ⟨_, rfl, _, rfl, _, _, rfl, rfl, _, rfl, ?_⟩
        dsimp only
        rw [e1]
        refine ⟨z, rfl, by rw [cs_len, sizeLine_eq]; omega, ?_⟩
        have e3 := cut_to z (at_ + 1)
        have hlt : at_ < (cs z).length := (List.getElem?_eq_some_iff.mp h4).1
        refine fin _ v7' (fun c hc => ?_) ?_ ?_ ?_ H3 ex3 hp3
        · rw [e3] at hc
          exact h1 c (List.mem_of_mem_take hc)
        · rw [e3, List.length_take]
          omega
        · rw [e3, List.length_take]
          omega
        · rw [e3, List.getElem?_take, if_pos (Nat.lt_succ_self _)]
          exact h4
      refine ⟨_, rfl, _, _, rfl, rfl, (by show (0 : Int) < _; decide), rfl, _, rfl, ?_⟩
      refine ite2 (fun _ => ?_) (fun _ => cutLast wd _ low (by omega) (by omega) atw H2 ex h2)
      have hww : wd.length = L := by rw [cs_len]; exact hwdl
      refine ⟨_, rfl, _, rfl, _, _, rfl, rfl, (by rw [hww, sizeLine_eq]; omega), _, rfl, wd, rfl, (by rw [hww, sizeLine_eq]; omega), _, _, rfl, rfl, _, rfl, _, _, rfl, rfl, (by show (0 : Int) < _; decide), _, _, rfl, rfl, _, _, rfl, _, rfl, ?_⟩
      dsimp only
      rw [hww]
      obtain ⟨N, hN, hN1, hN2⟩ : ∃ N : Nat, (if (L : Int) + 1 + (i : Int) % 2 < 8 then (L : Int) + 1 + (i : Int) % 2 else 8) = (N : Int) ∧ L ≤ N ∧ N ≤ 8 := by
        have := Int.emod_nonneg (i : Int) (show (2 : Int) ≠ 0 by decide)
        split
        · exact ⟨((L : Int) + 1 + (i : Int) % 2).toNat, by omega, by omega, by omega⟩
        · exact ⟨8, rfl, hL8, Nat.le_refl _⟩
      rw [hN]
      refine ⟨_, rfl, by rw [cs_len, cs_app, List.length_append, hwdl, sizeLine_eq]; omega, ?_⟩
      have e4 := cut_to (wd ++ wd) N
      rw [cs_app] at e4
      refine cutLast _ _ (fun c hc => ?_) ?_ ?_ ?_ H2 ex h2
      · rw [e4] at hc
        have := List.mem_of_mem_take hc
        rw [List.mem_append] at this
        exact this.elim (low c) (low c)
      · rw [e4, List.length_take, List.length_append]
        omega
      · rw [e4, List.length_take]
        omega
      · rw [e4, List.getElem?_take, if_pos (by omega), List.getElem?_append_left (by omega)]
        exact atw
    · rintro σ H2 ⟨nm, v6, v7, v8, rfl, ex, hl, hi', hw, h2⟩
      exact ⟨_, rfl, q nm p H2 hl (words_ok (by omega) hw) hp ex h2⟩
end
/-! ### one coming -/
section
variable {P : Program} {w : World} {K : PySem.W.Frag} {mg : Str → Option Value} {base : Heap}
theorem none_ex {H H' : Hp} {p : Addr} (e : Ex H H') (h : H' p = none) : H p = none := by
  cases c : H p with
  | none => rfl
  | some o => rw [e p o c] at h; cases h
theorem sql_ex {H H' : Hp} {a : Addr} {xs : List V} (h : SqL K H a xs) (e : Ex H H') : SqL K H' a xs := by
  rcases h with (h | h) | h
  · exact .inl (.inl (e _ _ h))
  · obtain ⟨o, h⟩ := h
    exact .inl (.inr ⟨o, e _ _ h⟩)
  · exact .inr h
def spComing (K : PySem.W.Frag) : Sp := fun vs H Q _ => ∃ (a : Addr) (nm : List Str) (c k : Int), vs = [.ref a, .int c, .int k] ∧ SqL K H a (nm.map V.str) ∧ nm.length = 14 ∧
  ∀ (n : Str) (x : Int) (p : Addr) (H' : Hp), n ∈ nm → isWt x = true → Ex H H' → H p = none → H' p = some (.tup [.str n, .int x]) → Q (.ref p) H'
theorem ok_coming {f : Addr} {fd : FuncData} (F : Fun K "_law_coming" "_law_coming" sLComing f fd) (GM : Gf P w K mg base CX0 1 "_law_mixed" pLMixed spMixed) : FnOk P w K mg base CX0 2 f fd pLComing (spComing K) := by
  obtain ⟨fM, fdM, gM, bM, mM, kM⟩ := GM.ex
  refine F.ok cLComing (fun vs H Q E h => ?_) (fun cdv A outer s H vs Q E hr h => ?_)
  · obtain ⟨a, nm, c, k, rfl, _⟩ := h
    rfl
  · obtain ⟨a, nm, c, k, rfl, hS, hl, q⟩ := h
    refine ⟨_, pss_cons (ps_set (i := 3) cLComing.nd rfl (Or.inl rfl) (pe_call gM hr rfl mM kM bM .nil pass0 (pa_cons (pv 1) (pa_cons (pv 2) pa_nil))))
      (pss_cons (ps_set (i := 4) cLComing.nd rfl (Or.inl rfl) (pe_ix ix_list (pv 0) (pe_op op_mod (pe_op op_mod (pv 3) (pe_ix ix_list (pe_lst (pa_cons pe_int (pa_cons pe_int (pa_cons pe_int pa_nil)))) (pe_op op_mod (pe_op op_fdiv (pv 3) pe_int) pe_int) (fun _ _ => rfl))) pe_int) (fun _ _ => rfl)))
      (pss_cons (ps_set (i := 5) cLComing.nd rfl (Or.inl rfl) (pe_op op_mod (pe_op op_fdiv (pv 3) pe_int) pe_int))
      (pss_cons (ps_set (i := 6) cLComing.nd rfl (Or.inl rfl) (pe_op op_add pe_int (pe_op op_mod (pe_op op_fdiv (pv 3) pe_int) (pe_ix ix_list (pe_lst (pa_cons pe_int (pa_cons pe_int (pa_cons pe_int pa_nil)))) (pe_op op_mod (pv 5) pe_int) (fun _ _ => rfl)))))
      (pss_cons (ps_if (pt_cmpR op_gt (pv 5) pe_int (nomark _))
        (pss_one (ps_set (i := 6) cLComing.nd rfl (Or.inl rfl) (pe_op op_add pe_int (pe_op op_mod (pe_op op_add (pe_op op_pow (pv 3) pe_int) (pe_op op_mod (pv 1) (pe_op op_pow pe_int pe_int))) (pe_op op_pow pe_int pe_int)))))
        pss_nil)
      (pss_one (ps_ret (pe_tup (pa_cons (pv 4) (pa_cons (pv 6) pa_nil))))))))), ?_⟩
    have sz3 : 3 ≤ sizeLine := by rw [sizeLine_eq]; decide
    -- one of three whole numbers
    have three : ∀ (x y z j : Int) (Q : VK) (H2 : Hp) (l : Addr), 0 ≤ j → j < 3 → (Q (.int x) (upd H2 l (.lst [.int x, .int y, .int z])) ∧ Q (.int y) (upd H2 l (.lst [.int x, .int y, .int z])) ∧ Q (.int z) (upd H2 l (.lst [.int x, .int y, .int z]))) →
        rIxL K (V.ref l) (V.int j) (upd H2 l (.lst [.int x, .int y, .int z])) Q := by
      intro x y z j Q H2 l j0 j3 ⟨q0, q1, q2⟩
      have h := (show j = 0 ∨ j = 1 ∨ j = 2 by omega)
      rcases h with e | e | e
      · exact ⟨l, _, j, _, rfl, rfl, SqL.of upd_same, by rw [e]; exact atI_nat (j := 0) rfl, q0⟩
      · exact ⟨l, _, j, _, rfl, rfl, SqL.of upd_same, by rw [e]; exact atI_nat (j := 1) rfl, q1⟩
      · exact ⟨l, _, j, _, rfl, rfl, SqL.of upd_same, by rw [e]; exact atI_nat (j := 2) rfl, q2⟩
    refine ⟨_, rfl, _, rfl, c, k, rfl, fun m m0 m1 => ?_⟩
    have tail : ∀ (b : Int) (nx : Str) (σ5 : Int) (H2 : Hp), nx ∈ nm → Ex H H2 → 0 < b → b ≤ 60 → ∀ mm : Int, 0 ≤ mm → mm < b → 
        tSeq (tIfS (tTest (tOp (rI0 fun i j => .bl (decide (j < i))) (tVar 5) (tC (.int 9)))) (tAsg (tOp (rI0 fun i j => .int (i + j)) (tC (.int 1)) (tOp (rI (fun _ j => 0 < j) fun i j => .int (i % j)) (tOp (rI0 fun i j => .int (i + j)) (tOp (rI CPow fun i j => .int (i ^ j.toNat)) (tVar 3) (tC (.int 7))) (tOp (rI (fun _ j => 0 < j) fun i j => .int (i % j)) (tVar 1) (tOp (rI CPow fun i j => .int (i ^ j.toNat)) (tC (.int 10)) (tC (.int 59))))) (tOp (rI CPow fun i j => .int (i ^ j.toNat)) (tC (.int 10)) (tC (.int 60))))) (gName 6)) tNext)
          (tRet (tTup (tCons (tVar 4) (tCons (tVar 6) tNil)))) { nx := fun x H' => Q V.non H', rt := Q } [some (.ref a), some (.int c), some (.int k), some (.int m), some (.str nx), some (.int σ5), some (.int (1 + mm))] H2 := by
      intro b nx s5 H2 hn ex b0 b60 mm mm0 mm1
      have wt1 : isWt (1 + mm) = true := decide_eq_true (by unfold great; omega)
      have last : ∀ y : Int, isWt y = true → tRet (tTup (tCons (tVar 4) (tCons (tVar 6) tNil))) { nx := fun x H' => Q V.non H', rt := Q } [some (.ref a), some (.int c), some (.int k), some (.int m), some (.str nx), some (.int s5), some (.int y)] H2 := by
        intro y hy
        exact ⟨_, rfl, _, rfl, by rw [sizeLine_eq]; show 2 ≤ 16777216; decide, fun p hp => q nx y p _ hn hy (ex.trans (Evl.Ex.new hp)) (none_ex ex hp) upd_same⟩
      refine ⟨_, rfl, _, _, rfl, rfl, _, rfl, ?_⟩
      refine ite2 (fun _ => ?_) (fun _ => last _ wt1)
      have p59 : (0 : Int) < (10 : Int) ^ (59 : Int).toNat := by decide +kernel
      have p60 : (10 : Int) ^ (60 : Int).toNat = great := by decide +kernel
      refine ⟨_, rfl, _, _, rfl, rfl, ⟨by decide, by decide, ?_⟩, _, rfl, _, _, rfl, rfl, ⟨by decide, by decide, by decide⟩, _, _, rfl, rfl, p59, _, _, rfl, rfl, _, _, rfl, rfl, ⟨by decide, by decide, by decide⟩, _, _, rfl, rfl, (by dsimp only; rw [p60]; decide), _, _, rfl, rfl, ?_⟩
      · show m.natAbs < 2 ^ 64
        omega
      · dsimp only
        rw [p60]
        refine last _ (decide_eq_true ?_)
        have h1 := Int.emod_nonneg (m ^ (7 : Int).toNat + c % (10 : Int) ^ (59 : Int).toNat) (show great ≠ 0 by decide)
        have h2 := Int.emod_lt_of_pos (m ^ (7 : Int).toNat + c % (10 : Int) ^ (59 : Int).toNat) (show 0 < great by decide)
        omega
    -- the weight
    have mid : ∀ (j : Int) (H2 : Hp), 0 ≤ j → j < 14 → Ex H H2 → ∃ (a' : Addr) (xs : List V) (i : Int) (v : V), (V.ref a = .ref a') ∧ (V.int j = .int i) ∧ SqL K H2 a' xs ∧ atI xs i = some v ∧
        tSeq (tAsg (tOp (rI (fun _ j => 0 < j) fun i j => .int (i % j)) (tOp (rI CDiv fun i j => .int (i / j)) (tVar 3) (tC (.int 42))) (tC (.int 12))) (gName 5)) (tSeq (tAsg (tOp (rI0 fun i j => .int (i + j)) (tC (.int 1)) (tOp (rI (fun _ j => 0 < j) fun i j => .int (i % j)) (tOp (rI CDiv fun i j => .int (i / j)) (tVar 3) (tC (.int 600))) (tOp (rIxL K) (tLst (tCons (tC (.int 1)) (tCons (tC (.int 9)) (tCons (tC (.int 60)) tNil)))) (tOp (rI (fun _ j => 0 < j) fun i j => .int (i % j)) (tVar 5) (tC (.int 3)))))) (gName 6))
         (tSeq (tIfS (tTest (tOp (rI0 fun i j => .bl (decide (j < i))) (tVar 5) (tC (.int 9)))) (tAsg (tOp (rI0 fun i j => .int (i + j)) (tC (.int 1)) (tOp (rI (fun _ j => 0 < j) fun i j => .int (i % j)) (tOp (rI0 fun i j => .int (i + j)) (tOp (rI CPow fun i j => .int (i ^ j.toNat)) (tVar 3) (tC (.int 7))) (tOp (rI (fun _ j => 0 < j) fun i j => .int (i % j)) (tVar 1) (tOp (rI CPow fun i j => .int (i ^ j.toNat)) (tC (.int 10)) (tC (.int 59))))) (tOp (rI CPow fun i j => .int (i ^ j.toNat)) (tC (.int 10)) (tC (.int 60))))) (gName 6)) tNext)
          (tRet (tTup (tCons (tVar 4) (tCons (tVar 6) tNil)))))) { nx := fun x H' => Q V.non H', rt := Q } [some (.ref a), some (.int c), some (.int k), some (.int m), some v, none, none] H2 := by
      intro j H2 j0 j1 ex
      obtain ⟨jn, rfl⟩ : ∃ n : Nat, j = (n : Int) := ⟨j.toNat, by omega⟩
      have hjn : jn < nm.length := by omega
      refine ⟨a, _, _, .str nm[jn], rfl, rfl, sql_ex hS ex, atI_nat (by rw [List.getElem?_map, List.getElem?_eq_getElem hjn]; rfl), ?_⟩
      have hin : nm[jn] ∈ nm := List.getElem_mem hjn
      generalize nm[jn] = nx at hin ⊢
      refine ⟨_, rfl, _, _, rfl, rfl, ⟨by decide, by decide⟩, _, _, rfl, rfl, (by show (0 : Int) < _; decide), _, rfl, ?_⟩
      dsimp only
      have s0 := Int.emod_nonneg (m / 42) (show (12 : Int) ≠ 0 by decide)
      refine ⟨_, _, rfl, rfl, ⟨by decide, by decide⟩, sz3, ?_⟩
      intro l hl
      refine ⟨_, rfl, _, _, rfl, rfl, (by show (0 : Int) < _; decide), ?_⟩
      refine three _ _ _ _ _ _ l (Int.emod_nonneg _ (by decide)) (Int.emod_lt_of_pos _ (by decide)) ?_
      have ex2 := ex.trans (Evl.Ex.new (o := .lst [.int 1, .int 9, .int 60]) hl)
      have part : ∀ b : Int, 0 < b → b ≤ 60 → 0 ≤ m / 600 % b ∧ m / 600 % b < b := fun b b0 _ => ⟨Int.emod_nonneg _ (by omega), Int.emod_lt_of_pos _ b0⟩
      refine ⟨?_, ?_, ?_⟩
      · exact ⟨_, _, rfl, rfl, (by show (0 : Int) < _; decide), _, _, rfl, rfl, tail 1 nx _ _ hin ex2 (by decide) (by decide) _ (part 1 (by decide) (by decide)).1 (part 1 (by decide) (by decide)).2⟩
      · exact ⟨_, _, rfl, rfl, (by show (0 : Int) < _; decide), _, _, rfl, rfl, tail 9 nx _ _ hin ex2 (by decide) (by decide) _ (part 9 (by decide) (by decide)).1 (part 9 (by decide) (by decide)).2⟩
      · exact ⟨_, _, rfl, rfl, (by show (0 : Int) < _; decide), _, _, rfl, rfl, tail 60 nx _ _ hin ex2 (by decide) (by decide) _ (part 60 (by decide) (by decide)).1 (part 60 (by decide) (by decide)).2⟩
    refine ⟨_, rfl, _, rfl, sz3, ?_⟩
    intro l hl
    refine ⟨_, rfl, _, _, rfl, rfl, ⟨by decide, by decide⟩, _, _, rfl, rfl, (by show (0 : Int) < _; decide), ?_⟩
    refine three _ _ _ _ _ _ l (Int.emod_nonneg _ (by decide)) (Int.emod_lt_of_pos _ (by decide)) ?_
    have ex1 : Ex H (upd H l (.lst [.int 4, .int 14, .int 9])) := Evl.Ex.new hl
    refine ⟨?_, ?_, ?_⟩
    · exact ⟨_, _, rfl, rfl, (by show (0 : Int) < _; decide), _, _, rfl, rfl, (by show (0 : Int) < _; decide), mid _ _ (Int.emod_nonneg _ (by decide)) (Int.emod_lt_of_pos _ (by decide)) ex1⟩
    · exact ⟨_, _, rfl, rfl, (by show (0 : Int) < _; decide), _, _, rfl, rfl, (by show (0 : Int) < _; decide), mid _ _ (Int.emod_nonneg _ (by decide)) (Int.emod_lt_of_pos _ (by decide)) ex1⟩
    · exact ⟨_, _, rfl, rfl, (by show (0 : Int) < _; decide), _, _, rfl, rfl, (by show (0 : Int) < _; decide), mid _ _ (Int.emod_nonneg _ (by decide)) (Int.emod_lt_of_pos _ (by decide)) ex1⟩
end
/-! ### all that a law calls -/
structure LawG (P : Program) (w : World) (K : PySem.W.Frag) (mg : Str → Option Value) (base : Heap) (C CN CW CD : Addr) : Prop where
  T : DkT K mg C CN CW CD
  made : ∃ fI fdI, Mk K C fI ∧ FnOk P w K mg base (L2.CX P w) 3 fI fdI pDInit (spInit K C CD) ∧ Binds K fdI pDInit []
  come : Gm P w K mg base (L2.CX P w) C 3 "come" pDCome (spCome K C CN CW)
  shown : Gm P w K mg base CX0 C 1 "shown" pDShown (spShown C)
  lost : Gm P w K mg base CX0 C 1 "lost" pDLost (spNum C fun _ g _ => g)
  weight : Gm P w K mg base CX0 C 1 "weight" pDWeight (spNum C fun _ _ t => t)
  drawers : Gm P w K mg base CX0 C 1 "drawers" pDDrawers (spNum C fun r _ _ => r)
  least : Gm P w K mg base (L2.CX P w) C 2 "least" pDLeast (spLeast K C CN fun _ => 0)
  most : Gm P w K mg base (L2.CX P w) C 3 "most" pDMost (spLeast K C CN fun g => g)
  maybe : Gm P w K mg base CX0 C 4 "maybe" pDMaybe (spOver C fun g => g)
  surely : Gm P w K mg base CX0 C 3 "surely" pDSurely (spOver C fun _ => 0)
  mixed : Gf P w K mg base CX0 1 "_law_mixed" pLMixed spMixed
  names : Gf P w K mg base CX0 2 "_law_names" pLNames (spNames K)
  drawn : Gf P w K mg base CX0 2 "_law_drawers" pLDrawers (spDrawers K)
  coming : Gf P w K mg base CX0 2 "_law_coming" pLComing (spComing K)
/-- law's: a list of at most 63 ints is handed in, True comes out -/
def spLaw (K : PySem.W.Frag) : Sp := fun vs H Q _ => ∃ (a : Addr) (ns : List Int), vs = [.ref a] ∧ SqL K H a (ns.map V.int) ∧ ns.length ≤ 63 ∧ ∀ H', Q (.bl true) H'
/-! the same three readings under names that nothing looks into -/
@[irreducible] def wMeth := @L2.tMeth
@[irreducible] def wMake := @L2.tMake
@[irreducible] def wLc := @L2.tLc
theorem wMeth_eq : @wMeth = @L2.tMeth := by unfold wMeth; rfl
theorem wMake_eq : @wMake = @L2.tMake := by unfold wMake; rfl
theorem wLc_eq : @wLc = @L2.tLc := by unfold wLc; rfl
theorem ex_off {Hb H H' : Hp} {l : List Addr} (e : Ex Hb H) (o : Off l H H') (hl : ∀ b ∈ l, Hb b = none) : Ex Hb H' := fun b u hb => o b u (fun z => by rw [hl b z] at hb; cases hb) (e b u hb)
section
variable {K : PySem.W.Frag} {C CN CW CD : Addr} {σ : L2.St} {H : Hp} {Q : VK} {i j : Nat} {p d : Addr} {room gone total : Int} {c : CM}
/-! reading a method's call on a Desk that stands in a slot -/
theorem rd_shown (hσ : σ[i]? = some (some (.ref p))) (D : DeskAt C H p d room c gone total) (q : ∀ (H' : Hp) (r : Addr), H r = none → Ex H H' → H' r = some (.dK (kvc (sortC c))) → Q (.ref r) H') : wMeth C "shown" (spShown C) [] E0 (tVar i) tNil σ H Q := by
  rw [wMeth_eq]
  obtain ⟨dx, hp⟩ := D.ob
  exact ⟨_, hσ, p, dx, _, rfl, hp, dfl_no _ _ _ _ (by decide +kernel), p, d, room, c, gone, total, rfl, D, q⟩
theorem rd_num {m : Str} {g : Int → Int → Int → Int} (hm : (m == "room") = false ∧ (m == "counts") = false ∧ (m == "gone") = false ∧ (m == "total") = false) (hσ : σ[i]? = some (some (.ref p))) (D : DeskAt C H p d room c gone total) (q : Q (.int (g room gone total)) H) : wMeth C m (spNum C g) [] E0 (tVar i) tNil σ H Q := by
  rw [wMeth_eq]
  obtain ⟨dx, hp⟩ := D.ob
  exact ⟨_, hσ, p, dx, _, rfl, hp, dfl_no _ _ _ _ hm, p, d, room, c, gone, total, rfl, D.rd, q⟩
theorem rd_over {m : Str} {u : Int → Int} (hm : (m == "room") = false ∧ (m == "counts") = false ∧ (m == "gone") = false ∧ (m == "total") = false) (hσ : σ[i]? = some (some (.ref p))) (D : DeskAt C H p d room c gone total) (hn : ∀ n ∈ keysC c, isName n = true)
    (q : ∀ (H' : Hp) (r : Addr), H r = none → Ex H H' → H' r = some (.lst ((overS room c (u gone) total).map V.str)) → Q (.ref r) H') : wMeth C m (spOver C u) [] E0 (tVar i) tNil σ H Q := by
  rw [wMeth_eq]
  obtain ⟨dx, hp⟩ := D.ob
  exact ⟨_, hσ, p, dx, _, rfl, hp, dfl_no _ _ _ _ hm, p, d, room, c, gone, total, rfl, D, hn, q⟩
theorem rd_least {m : Str} {u : Int → Int} {n : Str} (hm : (m == "room") = false ∧ (m == "counts") = false ∧ (m == "gone") = false ∧ (m == "total") = false) (hσ : σ[i]? = some (some (.ref p))) (hj : σ[j]? = some (some (.str n))) (D : DeskAt C H p d room c gone total) (hn : isName n = true)
    (q : Q (.int (getD0 c n + u gone)) H) : wMeth C m (spLeast K C CN u) [] E0 (tVar i) (tCons (tVar j) tNil) σ H Q := by
  rw [wMeth_eq]
  obtain ⟨dx, hp⟩ := D.ob
  refine ⟨_, hσ, p, dx, _, rfl, hp, dfl_no _ _ _ _ hm, _, hj, p, d, room, c, gone, total, .str n, rfl, D.rd, thing_str n, fun z e => ?_, fun n' e _ => ?_, fun e => ?_⟩
  · cases e
    exact name_size hn
  · cases e
    exact q
  · rw [show isNameV (.str n) = true from hn] at e
    cases e
/-- a coming of a drawn name with a drawn weight -/
theorem rd_come {k : Nat} {n : Str} {wt : Int} (hσ : σ[i]? = some (some (.ref p))) (hj : σ[j]? = some (some (.str n))) (hk : σ[k]? = some (some (.int wt))) (D : DeskAt C H p d room c gone total) (hn : isName n = true) (hw : isWt wt = true)
    (q : ∀ (H' : Hp) (d' : Addr), (d' = d ∨ H d' = none) → Off [p, d] H H' → DeskAt C H' p d' room (come room c n wt).1 (gone + (come room c n wt).2) (total + wt) → Q .non H') : wMeth C "come" (spCome K C CN CW) [] E0 (tVar i) (tCons (tVar j) (tCons (tVar k) tNil)) σ H Q := by
  rw [wMeth_eq]
  obtain ⟨dx, hp⟩ := D.ob
  refine ⟨_, hσ, p, dx, _, rfl, hp, dfl_no _ _ _ _ (by decide +kernel), _, hj, _, hk, p, d, room, c, gone, total, .str n, .int wt, rfl, D, thing_str n, thing_int wt, fun z e => ?_, fun n' w' e1 e2 _ _ H' d' h1 h2 h3 => ?_, fun e => ?_, fun _ e => ?_⟩
  · cases e
    exact name_size hn
  · cases e1
    cases e2
    exact q H' d' h1 h2 h3
  · rw [show isNameV (.str n) = true from hn] at e
    cases e
  · rw [show isWtV (.int wt) = true from hw] at e
    cases e
/-- a new Desk -/
theorem rd_new {t : TA} {r : Int} (ht : ∀ Q : List V → Hp → Prop, Q [.int r] H → t σ H Q) (h1 : 1 ≤ r) (h2 : r ≤ 50)
    (q : ∀ (p d : Addr) (H' : Hp), H p = none → H d = none → p ≠ d → Ex H H' → DeskAt C H' p d r [] 0 0 → Q (.ref p) H') : wMake C (spInit K C CD) [] E0 t σ H Q := by
  rw [wMake_eq]
  refine ht _ fun p dx hp hdx hne => ⟨p, .int r, dx, rfl, upd_same, thing_int r, fun r' e hr d H' hd off D => ?_, fun e => ?_⟩
  · cases e
    have nd : d ≠ p := fun z => by rw [z, upd_same] at hd; cases hd
    have nx : d ≠ dx := fun z => by rw [z, upd_ne hne, upd_same] at hd; cases hd
    refine ⟨rfl, q p d H' hp ?_ nd.symm (fun b o e => off b o (fun z => ?_) ?_) D⟩
    · rw [upd_ne nd, upd_ne nx] at hd
      exact hd
    · rw [List.mem_singleton.mp z, hp] at e
      cases e
    · rw [upd_ne (ne_of_none e hp), upd_ne (ne_of_none e hdx)]
      exact e
  · rw [show isRoomV (.int r) = true from decide_eq_true ⟨h1, h2⟩] at e
    cases e
end
theorem come_keys {room w : Int} {c : CM} {n m : Str} (h : m ∈ keysC (come room c n w).1) : m ∈ keysC c ∨ m = n := by
  have put : ∀ (c' : CM) (v : Int), m ∈ keysC (putC c' n v) → m ∈ keysC c' ∨ m = n := by
    intro c' v h
    rw [keys_put] at h
    split at h
    · exact .inl h
    · rcases List.mem_append.mp h with h | h
      · exact .inl h
      · exact .inr (List.mem_singleton.mp h)
  unfold come at h
  split at h
  · dsimp only at h
    split at h
    · rcases put _ _ h with h | h
      · exact .inl ((lowered_keys c _).subset h)
      · exact .inr h
    · exact .inl ((lowered_keys c _).subset h)
  · exact put _ _ h
theorem nodup_sub : ∀ {l m : List Str}, l.Nodup → (∀ x ∈ l, x ∈ m) → l.length ≤ m.length
  | [], _, _, _ => Nat.zero_le _
  | a :: l, m, nd, h => by
    obtain ⟨n1, n2⟩ := List.nodup_cons.mp nd
    have ha := h a (List.mem_cons_self ..)
    have := nodup_sub (m := m.erase a) n2 fun x hx => (List.mem_erase_of_ne (fun z : x = a => n1 (z ▸ hx))).mpr (h x (List.mem_cons_of_mem _ hx))
    rw [List.length_erase_of_mem ha] at this
    have hm : 0 < m.length := List.length_pos_of_mem ha
    rw [List.length_cons]
    omega
/-! ### reading statement by statement: what a test or a value comes to, for whatever is wanted behind -/
theorem sq_if {c : TT} {t rest : TS} {D : Ends} {σ : L2.St} {H : Hp} (P : Hp → Prop) (h : ∀ Q : Bool → Hp → Prop, (∀ H', P H' → Q false H') → c σ H Q) (k : ∀ H', P H' → rest D σ H') : tSeq (tIfS c t tNext) rest D σ H := h _ fun H' p => iteF (k H' p)
theorem sq_ifT {c : TT} {t rest : TS} {D : Ends} {σ : L2.St} {H : Hp} (P : Hp → Prop) (h : ∀ Q : Bool → Hp → Prop, (∀ H', P H' → Q true H') → c σ H Q) (k : ∀ H', P H' → t { D with nx := rest D } σ H') : tSeq (tIfS c t tNext) rest D σ H := h _ fun H' p => iteT (k H' p)
theorem sq_set {te : TE} {i : Nat} {rest : TS} {D : Ends} {σ : L2.St} {H : Hp} (P : V → Hp → Prop) (h : ∀ Q : VK, (∀ v H', P v H' → Q v H') → te σ H Q) (k : ∀ v H', P v H' → rest D (σ.set i (some v)) H') : tSeq (tAsg te (gName i)) rest D σ H := h _ fun v H' p => k v H' p
theorem sq_any {st rest : TS} {D : Ends} {σ : L2.St} {H : Hp} (P : L2.St → Hp → Prop) (h : ∀ D' : Ends, (∀ σ' H', P σ' H' → D'.nx σ' H') → st D' σ H) (k : ∀ σ' H', P σ' H' → rest D σ' H') : tSeq st rest D σ H := h { D with nx := rest D } k
section
variable {K : PySem.W.Frag} {σ : L2.St} {H : Hp} {Q : VK}
/-- sorted([k for k in d if ..]): the names of a table, those that pass -/
theorem keys_reads {tt : TT} {d : Addr} {c : CM} {i v : Nat} (f : Str → Bool) (hi : ∀ σ' : L2.St, σ' = σ → σ'[i]? = some (some (.ref d))) (hd : H d = some (.dK (kvc c))) (hl : c.length ≤ 63) (hw : ∀ n : Str, wipe ((wipe σ [v]).set v (some (.str n))) [v] = wipe σ [v]) (hv : ∀ n : Str, ((wipe σ [v]).set v (some (.str n)))[v]? = some (some (.str n)))
    (hc : ∀ (n : Str) (o : Obj) (H' : Hp) (Qb : Bool → Hp → Prop), n ∈ keysC c → H' d = some (.frz o (.dK (kvc c))) → Qb (f n) H' → tt ((wipe σ [v]).set v (some (.str n))) H' Qb)
    (q : ∀ (H' : Hp) (r : Addr), H r = none → Ex H H' → H' r = some (.lst ((sortS ((keysC c).filter f)).map V.str)) → Q (.ref r) H') :
    tCB (rSortedS K) (tCons (tLockE (wLc (iKeys (tVar i)) (gName v) tt (tVar v) [v])) tNil) σ H Q := by
  rw [wLc_eq]
  refine ⟨d, .dK (kvc c), hd, trivial, fun od => ?_⟩
  refine ⟨_, hi _ rfl, d, od, rfl, .inl ⟨kvc c, upd_same, fun L hL => ?_⟩⟩
  have dL : d ≠ L := fun z => by rw [← z, upd_same] at hL; cases hL
  have hL0 : H L = none := by
    rw [upd_ne dL.symm] at hL
    exact hL
  refine DK.lc_it (n := c.length) (fun i H2 => H2 d = some (.frz od (.dK (kvc c))) ∧ (∀ b o, b ≠ d → H b = some o → H2 b = some o) ∧ H2 L = some (.lst ((((keysC c).take i).filter f).map V.str)))
    ⟨by rw [upd_ne dL]; exact upd_same, fun b o hb e => by rw [upd_ne (ne_of_none e hL0), upd_ne hb]; exact e, upd_same⟩ ?_ ?_ ?_ ?_
  · rintro i H2 hi ⟨h1, h2, h3⟩
    exact ⟨h1, by rw [len_kvc]; exact hi⟩
  · rintro H2 ⟨h1, h2, h3⟩
    exact ⟨h1, by rw [len_kvc]; exact Nat.le_refl _⟩
  · rintro i H2 hi ⟨h1, h2, h3⟩ x H3 ⟨rfl, k, y, hk, rfl⟩
    have ei : c[i]? = some c[i] := List.getElem?_eq_getElem hi
    have e0 : (kvc c)[i]? = some (Sum.inr c[i].1, V.int c[i].2) := by
      unfold kvc
      rw [List.getElem?_map, ei]
      rfl
    rw [e0] at hk
    cases hk
    have ek : (keysC c)[i]? = some c[i].1 := by
      unfold keysC
      rw [List.getElem?_map, ei]
      rfl
    have hil : i < (keysC c).length := (List.getElem?_eq_some_iff.mp ek).1
    have tk : (keysC c).take (i + 1) = (keysC c).take i ++ [c[i].1] := by
      rw [List.take_succ_eq_append_getElem hil]
      rw [(List.getElem?_eq_some_iff.mp ek).2]
    refine ⟨hw _, hc _ od H3 _ (List.mem_of_getElem? ek) h1 ?_⟩
    refine ite2 (fun h => ?_) (fun h => ?_)
    · refine ⟨_, hv _, _, h3, small ?_, by rw [upd_ne dL]; exact h1, fun b o hb e => by rw [upd_ne (ne_of_none e hL0)]; exact h2 b o hb e, ?_⟩
      · rw [List.length_map]
        have a1 := List.length_filter_le f ((keysC c).take i)
        have a2 : ((keysC c).take i).length ≤ i := by rw [List.length_take]; omega
        omega
      · rw [upd_same, tk, List.filter_append, List.map_append, List.filter_cons_of_pos h]
        rfl
    · refine ⟨h1, h2, ?_⟩
      rw [h3, tk, List.filter_append, List.map_append, List.filter_cons_of_neg h]
      simp
  · rintro H2 ⟨h1, h2, h3⟩
    refine ⟨h1, L, (keysC c).filter f, rfl, SqL.of ?_, ?_, fun ys l pm so hl' => ?_⟩
    · rw [upd_ne dL.symm, h3, List.take_of_length_le (by unfold keysC; rw [List.length_map]; exact Nat.le_refl _)]
    · have a1 := List.length_filter_le f (keysC c)
      have a2 : (keysC c).length = c.length := by unfold keysC; rw [List.length_map]
      omega
    · have ex1 : Ex H (upd H2 d (.dK (kvc c))) := fun b o e => by
        by_cases hb : b = d
        · rw [hb, upd_same]
          rw [hb, hd] at e
          exact e
        · rw [upd_ne hb]
          exact h2 b o hb e
      refine q _ l (none_ex ex1 hl') (fun b o e => by rw [upd_ne (ne_of_none (ex1 b o e) hl')]; exact ex1 b o e) ?_
      rw [upd_same, sortS_eq pm (sortedS_pw so)]
/-- [x for x in l if ..] of texts of which none passes -/
theorem none_reads {te : TE} {tt : TT} {v : Nat} {xs : List Str} (hte : ∀ R : VK, (∀ (a : Addr) (H1 : Hp), Ex H H1 → H1 a = some (.lst (xs.map V.str)) → R (.ref a) H1) → te σ H R) (hw : ∀ n : Str, wipe ((wipe σ [v]).set v (some (.str n))) [v] = wipe σ [v])
    (hc : ∀ (n : Str) (H' : Hp) (Qb : Bool → Hp → Prop), n ∈ xs → Ex H H' → (∀ H'' : Hp, Ex H' H'' → Qb false H'') → tt ((wipe σ [v]).set v (some (.str n))) H' Qb)
    (q : ∀ (H' : Hp) (r : Addr), Ex H H' → H' r = some (.lst []) → Q (.ref r) H') :
    wLc (iList K te) (gName v) tt (tVar v) [v] σ H Q := by
  rw [wLc_eq]
  refine hte _ fun a H1 ex1 e1 => ?_
  refine ⟨a, rfl, ⟨_, SqL.of e1⟩, fun L hL => ?_⟩
  have aL := ne_of_none e1 hL
  refine lc_list (K := K) (a := a) (xs := xs.map V.str) (fun _ H2 => Ex H1 H2 ∧ H2 L = some (.lst [])) ⟨Evl.Ex.new hL, upd_same⟩ (fun i H2 _ h => SqL.of (h.1 _ _ e1)) ?_ ?_
  · rintro i x H2 hi ⟨h1, h2⟩
    obtain ⟨n, hn, rfl⟩ := List.mem_map.mp (List.mem_of_getElem? hi)
    exact ⟨hw n, hc n H2 _ hn (ex1.trans h1) fun H3 h3 => iteF ⟨h1.trans h3, h3 _ _ h2⟩⟩
  · rintro H2 ⟨h1, h2⟩
    exact q H2 L (ex1.trans h1) h2
end
theorem sum_permI {l m : List Int} (p : l.Perm m) : l.sum = m.sum := by
  induction p with
  | nil => rfl
  | cons x _ ih => rw [List.sum_cons, List.sum_cons, ih]
  | swap x y l =>
    simp only [List.sum_cons]
    omega
  | trans _ _ h1 h2 => exact h1.trans h2
theorem sum_perm {c c' : CM} (p : c'.Perm c) : sumC c' = sumC c := sum_permI (p.map _)
theorem iteD {c A B : Prop} [Decidable c] (hc : c) (h : A) : if decide c = true then A else B := by
  rw [if_pos (decide_eq_true hc)]
  exact h
section
variable {K : PySem.W.Frag} {C CN CW CD : Addr} {σ : L2.St} {H : Hp} {Q : VK}
/-- a number of a Desk that an expression gives -/
theorem rd_numA {ta : TE} {m : Str} {g : Int → Int → Int → Int} {room gone total : Int} {c : CM} (hm : (m == "room") = false ∧ (m == "counts") = false ∧ (m == "gone") = false ∧ (m == "total") = false)
    (ht : ∀ R : VK, (∀ (p d : Addr) (H' : Hp), Ex H H' → DeskAt C H' p d room c gone total → R (.ref p) H') → ta σ H R) (q : ∀ H' : Hp, Ex H H' → Q (.int (g room gone total)) H') : wMeth C m (spNum C g) [] E0 ta tNil σ H Q := by
  rw [wMeth_eq]
  refine ht _ fun p d H' e D => ?_
  obtain ⟨dx, hp⟩ := D.ob
  exact ⟨p, dx, _, rfl, hp, dfl_no _ _ _ _ hm, p, d, room, c, gone, total, rfl, D.rd, q H' e⟩
/-- a coming, the arguments as they are written -/
theorem rd_comeA {i : Nat} {p d : Addr} {room gone total : Int} {c : CM} {ta : TA} {n : Str} {wt : Int} (hσ : σ[i]? = some (some (.ref p))) (ht : ∀ R : List V → Hp → Prop, R [.str n, .int wt] H → ta σ H R) (D : DeskAt C H p d room c gone total) (hn : isName n = true) (hw : isWt wt = true)
    (q : ∀ (H' : Hp) (d' : Addr), (d' = d ∨ H d' = none) → Off [p, d] H H' → DeskAt C H' p d' room (come room c n wt).1 (gone + (come room c n wt).2) (total + wt) → Q .non H') : wMeth C "come" (spCome K C CN CW) [] E0 (tVar i) ta σ H Q := by
  rw [wMeth_eq]
  obtain ⟨dx, hp⟩ := D.ob
  refine ⟨_, hσ, p, dx, _, rfl, hp, dfl_no _ _ _ _ (by decide +kernel), ht _ ⟨p, d, room, c, gone, total, .str n, .int wt, rfl, D, thing_str n, thing_int wt, fun z e => ?_, fun n' w' e1 e2 _ _ H' d' h1 h2 h3 => ?_, fun e => ?_, fun _ e => ?_⟩⟩
  · cases e
    exact name_size hn
  · cases e1
    cases e2
    exact q H' d' h1 h2 h3
  · rw [show isNameV (.str n) = true from hn] at e
    cases e
  · rw [show isWtV (.int wt) = true from hw] at e
    cases e
end
section
variable {K : PySem.W.Frag} {C CN CW CD : Addr} {σ : L2.St} {H : Hp} {Q : VK}
/-- a coming to a Desk that an expression gives -/
theorem rd_comeI {p d : Addr} {room gone total : Int} {c : CM} {to : TE} {ta : TA} {n : Str} {wt : Int} (ho : ∀ R : VK, R (.ref p) H → to σ H R) (ht : ∀ R : List V → Hp → Prop, R [.str n, .int wt] H → ta σ H R) (D : DeskAt C H p d room c gone total) (hn : isName n = true) (hw : isWt wt = true)
    (q : ∀ (H' : Hp) (d' : Addr), (d' = d ∨ H d' = none) → Off [p, d] H H' → DeskAt C H' p d' room (come room c n wt).1 (gone + (come room c n wt).2) (total + wt) → Q .non H') : wMeth C "come" (spCome K C CN CW) [] E0 to ta σ H Q := by
  have h := rd_comeA (K := K) (CN := CN) (CW := CW) (σ := [some (.ref p)]) (i := 0) (ta := fun _ H' R => H' = H ∧ R [.str n, .int wt] H') rfl (fun R hR => ⟨rfl, hR⟩) D hn hw q
  rw [wMeth_eq] at h ⊢
  obtain ⟨v, hv, a, dx, fs, e1, e2, e3, _, h2⟩ := h
  cases hv
  cases e1
  exact ho _ ⟨p, dx, fs, rfl, e2, e3, ht _ h2⟩
end
/-! ### the state that a law keeps beside: a tuple of a table, what is lost, the sum -/
structure StAt (H : Hp) (a d : Addr) (c : CM) (g t : Int) : Prop where
  tp : H a = some (.tup [.ref d, .int g, .int t])
  dc : H d = some (.dK (kvc c))
theorem StAt.ex {H H' : Hp} {a d : Addr} {c : CM} {g t : Int} (S : StAt H a d c g t) (e : Ex H H') : StAt H' a d c g t := ⟨e _ _ S.tp, e _ _ S.dc⟩
theorem low_step {c : CM} {m : Int} {i : Nat} (nd : (keysC c).Nodup) (hi : i < c.length) : lowered (c.take (i + 1)) m = if m < c[i].2 then putC (lowered (c.take i) m) c[i].1 (c[i].2 - m) else lowered (c.take i) m := by
  have ei : c[i]? = some c[i] := List.getElem?_eq_getElem hi
  have tk : c.take (i + 1) = c.take i ++ [c[i]] := List.take_succ_eq_append_getElem hi
  have nk : hasC (lowered (c.take i) m) c[i].1 = false := by
    refine Bool.eq_false_iff.mpr fun hh => ?_
    have hk := (lowered_keys (c.take i) m).subset ((has_iff _ _).mp hh)
    unfold keysC at hk
    obtain ⟨j, hj⟩ := List.mem_iff_getElem?.mp hk
    rw [List.getElem?_map] at hj
    have hji : j < i := by
      refine Classical.byContradiction fun z => ?_
      rw [List.getElem?_take, if_neg z] at hj
      cases hj
    rw [List.getElem?_take, if_pos hji] at hj
    have a1 : (keysC c)[j]? = some c[i].1 := by
      unfold keysC
      rw [List.getElem?_map]
      exact hj
    have a2 : (keysC c)[i]? = some c[i].1 := by
      unfold keysC
      rw [List.getElem?_map, ei]
      rfl
    have := nd_ix nd a1 a2
    omega
  rw [tk]
  have ap : lowered (c.take i ++ [c[i]]) m = lowered (c.take i) m ++ lowered [c[i]] m := by
    unfold lowered
    rw [List.filter_append, List.map_append]
  rw [ap, lowered_cons]
  split
  · unfold putC
    rw [if_neg (by rw [nk]; exact Bool.false_ne_true)]
    rfl
  · show _ ++ [] = _
    rw [List.append_nil]
section
variable {K : PySem.W.Frag} {σ : L2.St} {H : Hp} {D : Ends}
/-- for k in d: with d not written -/
theorem st_keys {tb : TS} {d : Addr} {c : CM} {i v : Nat} (Pv : Obj → Nat → L2.St → Hp → Prop) (hσ : σ[i]? = some (some (.ref d))) (hd : H d = some (.dK (kvc c))) (h0 : ∀ o, Pv o 0 σ (upd H d (.frz o (.dK (kvc c)))))
    (hl : ∀ o j σ' H', Pv o j σ' H' → H' d = some (.frz o (.dK (kvc c))))
    (hs : ∀ o j σ' H' (hj : j < c.length), Pv o j σ' H' → ∀ D' : Ends, (∀ σ2 H2, Pv o (j + 1) σ2 H2 → D'.nx σ2 H2) → tb D' (σ'.set v (some (.str c[j].1))) H')
    (hn : ∀ o σ' H', Pv o c.length σ' H' → D.nx σ' (upd H' d (.dK (kvc c)))) : tLock (tFor (iKeys (tVar i)) (gName v) tb) D σ H := by
  refine ⟨d, .dK (kvc c), hd, trivial, fun od => ⟨_, hσ, d, od, rfl, .inl ⟨kvc c, upd_same, ?_⟩⟩⟩
  refine for_it (n := c.length) (Pv od) (h0 od) ?_ ?_ ?_ ?_
  · intro j σ' H' hj h
    exact ⟨hl _ _ _ _ h, by rw [len_kvc]; exact hj⟩
  · intro σ' H' h
    exact ⟨hl _ _ _ _ h, by rw [len_kvc]; exact Nat.le_refl _⟩
  · rintro j σ' H' hj h x H3 ⟨rfl, k, y, hk, rfl⟩
    have e0 : (kvc c)[j]? = some (Sum.inr c[j].1, V.int c[j].2) := by
      unfold kvc
      rw [List.getElem?_map, List.getElem?_eq_getElem hj]
      rfl
    rw [e0] at hk
    cases hk
    exact hs od j σ' H3 hj h _ fun σ2 H2 h2 => h2
  · intro σ' H' h
    exact ⟨hl _ _ _ _ h, hn _ _ _ h⟩
end
theorem getC_at {c : CM} (nd : (keysC c).Nodup) {i : Nat} (hi : i < c.length) : getC c c[i].1 = some c[i].2 := (getC_mem nd).mpr (List.getElem_mem hi)
section
variable {P : Program} {w : World} {K : PySem.W.Frag} {mg : Str → Option Value} {base : Heap}
def spLCome : Sp := fun vs H Q _ => ∃ (a d : Addr) (r : Int) (n : Str) (wt : Int) (c : CM) (g t : Int), vs = [.ref a, .int r, .str n, .int wt] ∧ StAt H a d c g t ∧ (keysC c).Nodup ∧ (c.length : Int) ≤ r ∧ 1 ≤ r ∧ c.length ≤ 50 ∧
  ∀ (H' : Hp) (q d' : Addr), Ex H H' → H q = none → H d' = none → StAt H' q d' (come r c n wt).1 (g + (come r c n wt).2) (t + wt) → Q (.ref q) H'
theorem ok_lcome {f : Addr} {fd : FuncData} (F : Fun K "_law_come" "_law_come" sLCome f fd) (zd : mg "dict" = none) (zl : mg "len" = none) (zm : mg "min" = none) : FnOk P w K mg base CX0 1 f fd pLCome spLCome := by
  refine F.ok cLCome (fun vs H Q E h => ?_) (fun cdv A outer s H vs Q E hr h => ?_)
  · obtain ⟨a, d, r, n, wt, c, g, t, rfl, _⟩ := h
    rfl
  · obtain ⟨a, d, r, n, wt, c, g, t, rfl, S, nd, hl, r1, hl50, q⟩ := h
    have hu := hu_of hr
    refine ⟨_, pss_cons (ps_asg (pv 0) (pg_tup rfl (pgs_cons (pg_name (i := 4) cLCome.nd rfl (Or.inl rfl)) (pgs_cons (pg_name (i := 5) cLCome.nd rfl (Or.inl rfl)) (pgs_cons (pg_name (i := 6) cLCome.nd rfl (Or.inl rfl)) pgs_nil)))))
      (pss_cons (ps_set (i := 4) cLCome.nd rfl (Or.inl rfl) (pe_callTy call_dictD (by rfl) zd (by decide +kernel) (pa_cons (pv 4) pa_nil)))
      (pss_cons (ps_if (pt_cmp (pc_din hu (pv 2) (pv 4))) (pss_cons (ps_dput hu (pv 4) (pv 2) (pe_op op_add (pe_dget hu (pv 4) (pv 2) (fun _ _ => rfl)) (pv 3)) rfl) (pss_one (ps_ret (pe_tup (pa_cons (pv 4) (pa_cons (pv 5) (pa_cons (pe_op op_add (pv 6) (pv 3)) pa_nil))))))) pss_nil)
      (pss_cons (ps_if (pt_cmpR op_lt (pe_callB call_lenD (by rfl) zl PySem.boot_len (pa_cons (pv 4) pa_nil)) (pv 1) (nomark _)) (pss_cons (ps_dput hu (pv 4) (pv 2) (pv 3) rfl) (pss_one (ps_ret (pe_tup (pa_cons (pv 4) (pa_cons (pv 5) (pa_cons (pe_op op_add (pv 6) (pv 3)) pa_nil))))))) pss_nil)
      (pss_cons (ps_set (i := 7) cLCome.nd rfl (Or.inl rfl) (pe_callB (cr_min rfl) (by rfl) zm (by decide +kernel) (pa_cons (pe_lst (pa_cons (pv 3) (pa_cons (pe_callB (cr_minV rfl) (by rfl) zm (by decide +kernel) (pa_cons (pe_bm0 PySem.F.plainAttrs_dict PySem.F.slot_dict_values PySem.F.type_dict_values mt_vals (pv 4)) pa_nil)) pa_nil))) pa_nil)))
      (pss_cons (ps_set (i := 8) cLCome.nd rfl (Or.inl rfl) pe_dnewK)
      (pss_cons (ps_lock (ps_for PassesOwn.never rfl (pi_keys (pv 4)) (pg_name (i := 9) cLCome.nd rfl (Or.inl rfl))
        (pss_one (ps_if (pt_cmpR op_gt (pe_op op_sub (pe_dget hu (pv 4) (pv 9) (fun _ _ => rfl)) (pv 7)) pe_int (nomark _)) (pss_one (ps_dput hu (pv 8) (pv 9) (pe_op op_sub (pe_dget hu (pv 4) (pv 9) (fun _ _ => rfl)) (pv 7)) rfl)) pss_nil))))
      (pss_cons (ps_if (pt_cmpR op_gt (pe_op op_sub (pv 3) (pv 7)) pe_int (nomark _)) (pss_one (ps_dput hu (pv 8) (pv 2) (pe_op op_sub (pv 3) (pv 7)) rfl)) pss_nil)
      (pss_one (ps_ret (pe_tup (pa_cons (pv 8) (pa_cons (pe_op op_add (pv 5) (pv 7)) (pa_cons (pe_op op_add (pv 6) (pv 3)) pa_nil))))))))))))), ?_⟩
    have sz3 : 3 ≤ sizeLine := by rw [sizeLine_eq]; decide
    refine sq_any (fun σ' H' => σ' = [some (.ref a), some (.int r), some (.str n), some (.int wt), some (.ref d), some (.int g), some (.int t), none, none, none] ∧ H = H') (fun D' hD => ⟨_, rfl, a, _, rfl, SqT.of S.tp, rfl, _, _, rfl, _, _, rfl, _, _, rfl, rfl, hD _ _ ⟨rfl, rfl⟩⟩) ?_
    rintro σ' _ ⟨rfl, rfl⟩
    refine sq_any (fun σ' H' => ∃ d2 : Addr, σ' = [some (.ref a), some (.int r), some (.str n), some (.int wt), some (.ref d2), some (.int g), some (.int t), none, none, none] ∧ H d2 = none ∧ H' = upd H d2 (.dK (kvc c))) (fun D' hD => ⟨_, rfl, d, kvc c, rfl, .inl S.dc, fun d2 hd2 => hD _ _ ⟨d2, rfl, hd2, rfl⟩⟩) ?_
    rintro σ' H2' ⟨d2, rfl, hd2, rfl⟩
    have ex2 : Ex H (upd H d2 (.dK (kvc c))) := Evl.Ex.new hd2
    have h2 : (upd H d2 (.dK (kvc c))) d2 = some (.dK (kvc c)) := upd_same
    generalize upd H d2 (.dK (kvc c)) = H2 at ex2 h2 ⊢
    -- a new tuple on a table that is written anew
    have give : ∀ (c' : CM) (g' t' : Int) (H3 : Hp) (tt : TA) (σ : L2.St) (D : Ends) (d' : Addr), D.rt = Q → H d' = none → Ex H H3 → H3 d' = some (.dK (kvc c')) → c' = (come r c n wt).1 → g' = g + (come r c n wt).2 → t' = t + wt → (∀ Q : List V → Hp → Prop, Q [.ref d', .int g', .int t'] H3 → tt σ H3 Q) →
        tRet (tTup tt) D σ H3 := by
      rintro c' g' t' H3 tt σ D d' hD hd' ex3 h3 rfl rfl rfl htt
      show tTup tt σ H3 D.rt
      rw [hD]
      refine htt _ ⟨sz3, fun p hp => q _ p d' (ex3.trans (Evl.Ex.new hp)) (none_ex ex3 hp) hd' ⟨upd_same, by rw [upd_ne (ne_of_none h3 hp)]; exact h3⟩⟩
    have put_ex : ∀ (H3 : Hp) (d' : Addr) (o : HO), Ex H H3 → H d' = none → Ex H (upd H3 d' o) := fun H3 d' o e hd' b u hb => by
      rw [upd_ne (ne_of_none hb hd')]
      exact e b u hb
    have ask : ∀ Q : Bool → Hp → Prop, Q (hasC c n) H2 → tB (tDIn (tVar 2) (tVar 4)) [some (.ref a), some (.int r), some (.str n), some (.int wt), some (.ref d2), some (.int g), some (.int t), none, none, none] H2 Q := fun Q' h' => ⟨_, rfl, _, rfl, d2, _, rfl, DGet.of (.inl h2) n, _, rfl, by rw [Option.isSome_map, ← has_get]; exact h'⟩
    by_cases hh : hasC c n = true
    · refine sq_ifT (fun H' => H2 = H') (fun Q' h' => ask Q' (by rw [hh]; exact h' _ rfl)) ?_
      rintro _ rfl
      obtain ⟨v, hv⟩ : ∃ v, getC c n = some v := by
        have := has_get n c
        rw [hh] at this
        cases e : getC c n with
        | none => rw [e] at this; cases this
        | some v => exact ⟨v, rfl⟩
      have dg := DGet.of (.inl h2) n
      rw [hv] at dg
      refine sq_any (fun σ' H' => σ' = [some (.ref a), some (.int r), some (.str n), some (.int wt), some (.ref d2), some (.int g), some (.int t), none, none, none] ∧ H' = upd H2 d2 (.dK (kvc (putC c n (v + wt))))) (fun D' hD => ⟨_, rfl, _, rfl, d2, _, rfl, dg, _, rfl, _, _, rfl, rfl, _, rfl, _, rfl, d2, _, rfl, DPut.of h2 n (v + wt) (small (by omega)), hD _ _ ⟨rfl, rfl⟩⟩) ?_
      rintro σ' H3 ⟨rfl, rfl⟩
      have ec : come r c n wt = (putC c n (v + wt), 0) := by
        unfold come
        rw [if_neg (fun z => by rw [hh] at z; cases z.1)]
        unfold getD0
        rw [hv]
        rfl
      refine give (putC c n (v + wt)) g (t + wt) _ _ _ _ d2 ?_ hd2 (put_ex _ _ _ ex2 hd2) upd_same (by rw [ec]) (by rw [ec]; omega) rfl ?_
      · rfl
      exact fun Q' h' => ⟨_, rfl, _, rfl, _, rfl, _, rfl, _, _, rfl, rfl, h'⟩
    · have hh' : hasC c n = false := Bool.eq_false_iff.mpr hh
      refine sq_if (fun H' => H2 = H') (fun Q' h' => ask Q' (by rw [hh']; exact h' _ rfl)) ?_
      rintro _ rfl
      have e0 : getD0 c n = 0 := by
        unfold getD0
        rw [get_none (no_key hh')]
        rfl
      have ask2 : ∀ (b : Bool) (Q : Bool → Hp → Prop), decide ((c.length : Int) < r) = b → Q b H2 → tTest (tOp (rI0 fun i j => .bl (decide (i < j))) (tCB (fun xs H Q => ∃ a kvs, xs = [V.ref a] ∧ H a = some (.dK kvs) ∧ Q (.int kvs.length) H) (tCons (tVar 4) tNil)) (tVar 1)) [some (.ref a), some (.int r), some (.str n), some (.int wt), some (.ref d2), some (.int g), some (.int t), none, none, none] H2 Q := fun b Q' hb h' => ⟨_, rfl, d2, kvc c, rfl, h2, _, rfl, _, _, rfl, rfl, _, rfl, by rw [len_kvc, hb]; exact h'⟩
      by_cases hlt : (c.length : Int) < r
      · refine sq_ifT (fun H' => H2 = H') (fun Q' h' => ask2 true Q' (decide_eq_true hlt) (h' _ rfl)) ?_
        rintro _ rfl
        refine sq_any (fun σ' H' => σ' = [some (.ref a), some (.int r), some (.str n), some (.int wt), some (.ref d2), some (.int g), some (.int t), none, none, none] ∧ H' = upd H2 d2 (.dK (kvc (putC c n wt)))) (fun D' hD => ⟨_, rfl, _, rfl, _, rfl, d2, _, rfl, DPut.of h2 n wt (small (by omega)), hD _ _ ⟨rfl, rfl⟩⟩) ?_
        rintro σ' H3 ⟨rfl, rfl⟩
        have ec : come r c n wt = (putC c n wt, 0) := by
          unfold come
          rw [if_neg (fun z => by omega), e0, Int.zero_add]
        refine give (putC c n wt) g (t + wt) _ _ _ _ d2 ?_ hd2 (put_ex _ _ _ ex2 hd2) upd_same (by rw [ec]) (by rw [ec]; omega) rfl ?_
        · rfl
        exact fun Q' h' => ⟨_, rfl, _, rfl, _, rfl, _, rfl, _, _, rfl, rfl, h'⟩
      · have hfull : (c.length : Int) = r := by omega
        refine sq_if (fun H' => H2 = H') (fun Q' h' => ask2 false Q' (decide_eq_false hlt) (h' _ rfl)) ?_
        rintro _ rfl
        -- less
        refine sq_any (fun σ' H' => ∃ m : Int, σ' = [some (.ref a), some (.int r), some (.str n), some (.int wt), some (.ref d2), some (.int g), some (.int t), some (.int m), none, none] ∧ m = minL wt (valsC c) ∧ Ex H2 H') (fun D' hD => ?_) ?_
        · refine ⟨_, rfl, _, rfl, (.inr (.inr (.inl ⟨rfl, .inl ⟨_, h2⟩⟩))), d2, kvc c, rfl, rfl, h2, fun v hv => ⟨v, d2, kvc c, valsC c, rfl, upd_same, (by rw [upd_ne (ne_of_none h2 hv)]; exact h2), snd_kvc c, (by unfold valsC; rw [List.length_map]; omega), fun m0 hm0 hle0 => ?_⟩⟩
          refine ⟨by rw [sizeLine_eq]; show 2 ≤ 16777216; decide, fun l hl' => ⟨l, [wt, m0], rfl, SqL.of upd_same, Nat.succ_pos _, fun m hm hle => hD _ _ ⟨m, rfl, ?_, (Evl.Ex.new hv).trans (Evl.Ex.new hl')⟩⟩⟩
          refine minL_uniq ?_ (hle _ (List.mem_cons_self ..)) (fun y hy => ?_)
          · rcases List.mem_cons.mp hm with z | z
            · exact .inl z
            · rw [List.mem_singleton.mp z]
              exact .inr hm0
          · have h1 := hle m0 (List.mem_cons_of_mem _ (List.mem_cons_self ..))
            have h3 := hle0 y hy
            omega
        rintro σ' H4 ⟨m, rfl, em, ex4⟩
        have exH4 : Ex H H4 := ex2.trans ex4
        have h4 := ex4 _ _ h2
        refine sq_any (fun σ' H' => ∃ k : Addr, σ' = [some (.ref a), some (.int r), some (.str n), some (.int wt), some (.ref d2), some (.int g), some (.int t), some (.int m), some (.ref k), none] ∧ H4 k = none ∧ H' = upd H4 k (.dK [])) (fun D' hD => ?_) ?_
        · intro k hk
          exact hD _ _ ⟨k, rfl, hk, rfl⟩
        rintro σ' H4' ⟨k, rfl, hk, rfl⟩
        have hk0 : H k = none := none_ex exH4 hk
        have d2k : d2 ≠ k := ne_of_none h4 hk
        refine sq_any (fun σ' H' => ∃ v9 : Option V, σ' = [some (.ref a), some (.int r), some (.str n), some (.int wt), some (.ref d2), some (.int g), some (.int t), some (.int m), some (.ref k), v9] ∧ Ex H H' ∧ H' k = some (.dK (kvc (lowered c m)))) (fun D' hD => ?_) ?_
        · refine st_keys (d := d2) (c := c) (fun o j σ' H' => ∃ v9 : Option V, σ' = [some (.ref a), some (.int r), some (.str n), some (.int wt), some (.ref d2), some (.int g), some (.int t), some (.int m), some (.ref k), v9] ∧ Ex H H' ∧ H' d2 = some (.frz o (.dK (kvc c))) ∧ H' k = some (.dK (kvc (lowered (c.take j) m))))
            rfl (by rw [upd_ne d2k]; exact h4) (fun o => ⟨_, rfl, put_ex _ _ _ (put_ex _ _ _ exH4 hk0) hd2, upd_same, by rw [upd_ne d2k.symm, upd_same]; rfl⟩) (fun o j σ' H' ⟨_, _, _, h, _⟩ => h) ?_ ?_
          · rintro o j σ' H' hj ⟨v9, rfl, e, h5, h6⟩ D2 hD2
            have dg := DGet.of (.inr ⟨o, h5⟩ : Rd H' d2 (.dK (kvc c))) c[j].1
            rw [getC_at nd hj] at dg
            refine ⟨_, rfl, _, rfl, d2, _, rfl, dg, _, rfl, _, _, rfl, rfl, _, _, rfl, rfl, _, rfl, ?_⟩
            refine ite2 (fun h => ?_) (fun h => ?_)
            · have hlt2 : m < c[j].2 := by
                have := of_decide_eq_true h
                omega
              refine ⟨_, rfl, _, rfl, d2, _, rfl, dg, _, rfl, _, _, rfl, rfl, _, rfl, _, rfl, k, _, rfl, DPut.of h6 _ _ (small ?_), hD2 _ _ ⟨_, rfl, put_ex _ _ _ e hk0, by rw [upd_ne d2k]; exact h5, ?_⟩⟩
              · have h7 := lowered_len (c.take j) m
                rw [List.length_take] at h7
                omega
              · rw [upd_same, low_step nd hj, if_pos hlt2]
            · have hlt2 : ¬ m < c[j].2 := fun z => h (decide_eq_true (by omega))
              refine hD2 _ _ ⟨_, rfl, e, h5, ?_⟩
              rw [low_step nd hj, if_neg hlt2]
              exact h6
          · rintro o σ' H' ⟨v9, rfl, e, h5, h6⟩
            refine hD _ _ ⟨v9, rfl, put_ex _ _ _ e hd2, ?_⟩
            rw [upd_ne d2k.symm, h6, List.take_of_length_le (Nat.le_refl _)]
        rintro σ' H5 ⟨v9, rfl, ex5, h5⟩
        have ec : come r c n wt = (if 0 < wt - m then putC (lowered c m) n (wt - m) else lowered c m, m) := by
          have e1 : getD0 (lowered c m) n = 0 := by
            unfold getD0
            rw [get_none fun z => no_key hh' ((lowered_keys c m).subset z)]
            rfl
          unfold come
          rw [if_pos ⟨hh', hfull⟩]
          dsimp only
          rw [← em, e1, Int.zero_add]
        refine sq_any (fun σ' H' => σ' = [some (.ref a), some (.int r), some (.str n), some (.int wt), some (.ref d2), some (.int g), some (.int t), some (.int m), some (.ref k), v9] ∧ Ex H H' ∧ H' k = some (.dK (kvc (come r c n wt).1))) (fun D' hD => ?_) ?_
        · refine ⟨_, rfl, _, rfl, _, _, rfl, rfl, _, _, rfl, rfl, _, rfl, ?_⟩
          rw [ec] at hD
          refine ite2 (fun h => ?_) (fun h => ?_)
          · have h' : 0 < wt - m := of_decide_eq_true h
            rw [if_pos h'] at hD
            refine ⟨_, rfl, _, rfl, _, _, rfl, rfl, _, rfl, _, rfl, k, _, rfl, DPut.of h5 _ _ (small ?_), hD _ _ ⟨rfl, put_ex _ _ _ ex5 hk0, upd_same⟩⟩
            have h7 := lowered_len c m
            omega
          · have h' : ¬ 0 < wt - m := fun z => h (decide_eq_true z)
            rw [if_neg h'] at hD
            exact hD _ _ ⟨rfl, ex5, h5⟩
        rintro σ' H6 ⟨rfl, ex6, h6⟩
        refine give (come r c n wt).1 (g + m) (t + wt) _ _ _ _ k ?_ hk0 ex6 h6 rfl (by rw [ec]) rfl ?_
        · rfl
        exact fun Q' h' => ⟨_, rfl, _, rfl, _, rfl, _, _, rfl, rfl, _, rfl, _, rfl, _, _, rfl, rfl, h'⟩
end
/-! ### lists of texts and of pairs, compared -/
theorem strOk_name {n : Str} (h : isName n = true) : PyData.canLay0 (.str n) = true := by
  have h2 := ((isName_iff n).mp h).2.2
  simp only [PyData.canLay0, PyData.strOk]
  rw [Array.all_eq_true']
  intro x hx
  have := h2 x (Array.mem_def.mp hx)
  exact decide_eq_true (by omega)
def strsD (l : List Str) : PyData := .list (l.map .str)
def prD2 (e : Str × Int) : PyData := .tuple [.str e.1, .int e.2]
def prsD (c : CM) : PyData := .list (c.map prD2)
section
variable {K : PySem.W.Frag} {H : Hp}
theorem dpAll_strs (l : List Str) : DpAll K H (l.map V.str) (l.map .str) := by
  induction l with
  | nil => exact .nil
  | cons n l ih => exact .cons (.str n) ih
theorem dp_strs {a : Addr} {l : List Str} (h : H a = some (.lst (l.map V.str))) : Dp K H (.ref a) (strsD l) := .lst (SqL.of h) (dpAll_strs l)
theorem shaped_strs {l : List Str} (h : ∀ n ∈ l, isName n = true) : SeqAt.shaped (strsD l) = true := by
  have h1 : PyData.canLayAll0 (l.map .str) = true := by
    induction l with
    | nil => simp [PyData.canLayAll0]
    | cons n l ih =>
      simp only [List.map_cons, PyData.canLayAll0, strOk_name (h n (List.mem_cons_self ..)), ih fun x hx => h x (List.mem_cons_of_mem _ hx), Bool.and_self]
  have h2 : PyData.depthAll (l.map .str) ≤ 0 := by
    clear h h1
    induction l with
    | nil => simp [PyData.depthAll]
    | cons n l ih =>
      simp only [List.map_cons, PyData.depthAll, PyData.depth]
      omega
  have h3 : PyData.depth (strsD l) ≤ 64 := by
    unfold strsD
    simp only [PyData.depth]
    omega
  show (PyData.canLay0 (strsD l) && decide (PyData.depth (strsD l) ≤ 64)) = true
  rw [Bool.and_eq_true]
  exact ⟨by unfold strsD; simp only [PyData.canLay0]; exact h1, decide_eq_true h3⟩
theorem dpAll_prs {ts : List Addr} {c : CM} (h : PrsAt H ts c) : DpAll K H (ts.map V.ref) (c.map prD2) := by
  unfold PrsAt at h
  induction h with
  | nil => exact .nil
  | cons r _ ih => exact .cons (.tup (SqT.of r) (.cons (.str _) (.cons (.int _) .nil))) ih
theorem dp_prs {a : Addr} {ts : List Addr} {c : CM} (h : H a = some (.lst (ts.map V.ref))) (hp : PrsAt H ts c) : Dp K H (.ref a) (prsD c) := .lst (SqL.of h) (dpAll_prs hp)
theorem shaped_prs {c : CM} (h : ∀ n ∈ keysC c, isName n = true) : SeqAt.shaped (prsD c) = true := by
  have h1 : PyData.canLayAll0 (c.map prD2) = true := by
    induction c with
    | nil => simp [PyData.canLayAll0]
    | cons e c ih =>
      have he := strOk_name (h e.1 (List.mem_cons_self ..))
      have ih := ih fun x hx => h x (List.mem_cons_of_mem _ hx)
      simp only [List.map_cons, PyData.canLayAll0, prD2, PyData.canLay0, ih] at he ⊢
      simp [he]
  have h2 : PyData.depthAll (c.map prD2) ≤ 1 := by
    clear h h1
    induction c with
    | nil => simp [PyData.depthAll]
    | cons e c ih =>
      simp only [List.map_cons, PyData.depthAll, PyData.depth, prD2]
      omega
  have h3 : PyData.depth (prsD c) ≤ 64 := by
    unfold prsD
    simp only [PyData.depth]
    omega
  show (PyData.canLay0 (prsD c) && decide (PyData.depth (prsD c) ≤ 64)) = true
  rw [Bool.and_eq_true]
  exact ⟨by unfold prsD; simp only [PyData.canLay0]; exact h1, decide_eq_true h3⟩
theorem eqv_shaped {d : PyData} (h : SeqAt.shaped d = true) : PyData.eqv d d = true := SeqAt.eqv_refl d (Bool.and_eq_true_iff.mp h).1
end
theorem prs_of {H : Hp} {ts : List Addr} {c : CM} (h : Paired (fun (t : Addr) (q : Key × V) => H t = some (.tup [kV q.1, q.2])) ts (kvc c)) : PrsAt H ts c := by
  unfold kvc at h
  unfold PrsAt
  induction c generalizing ts with
  | nil => cases h; exact .nil
  | cons e c ih =>
    cases h with
    | cons r t => exact .cons r (ih t)
theorem prs_ex {H H' : Hp} {ts : List Addr} {c : CM} (h : PrsAt H ts c) (e : Ex H H') : PrsAt H' ts c := by
  unfold PrsAt at h ⊢
  induction h with
  | nil => exact .nil
  | cons r _ ih => exact .cons (e _ _ r) ih
/-! ### a Desk and the state beside it: alike -/
section
variable {P : Program} {w : World} {K : PySem.W.Frag} {mg : Str → Option Value} {base : Heap} {C CN CW CD : Addr}
def spLIs (C : Addr) : Sp := fun vs H Q _ => ∃ (p d a d2 : Addr) (r : Int) (c c2 : CM) (g t : Int), vs = [.ref p, .ref a, .int r] ∧ DeskAt C H p d r c g t ∧ StAt H a d2 c2 g t ∧ c2.Perm c ∧ (∀ n ∈ keysC c, isName n = true) ∧ ∀ H' : Hp, Ex H H' → Q (.bl true) H'
theorem ok_lis {f : Addr} {fd : FuncData} (F : Fun K "_law_is" "_law_is" sLIs f fd) (T : DkT K mg C CN CW CD) (GS : Gm P w K mg base CX0 C 1 "shown" pDShown (spShown C)) (GL : Gm P w K mg base CX0 C 1 "lost" pDLost (spNum C fun _ g _ => g))
    (GW : Gm P w K mg base CX0 C 1 "weight" pDWeight (spNum C fun _ _ t => t)) (GD : Gm P w K mg base CX0 C 1 "drawers" pDDrawers (spNum C fun r _ _ => r)) : FnOk P w K mg base CX0 2 f fd pLIs (spLIs C) := by
  obtain ⟨f2, fd2, gSh, bSh, mSh⟩ := GS.ex
  obtain ⟨f3, fd3, gLo, bLo, mLo⟩ := GL.ex
  obtain ⟨f4, fd4, gWe, bWe, mWe⟩ := GW.ex
  obtain ⟨f5, fd5, gDr, bDr, mDr⟩ := GD.ex
  refine F.ok cLIs (fun vs H Q E h => ?_) (fun cdv A outer s H vs Q E hr h => ?_)
  · obtain ⟨p, d, a, d2, r, c, c2, g, t, rfl, _⟩ := h
    rfl
  · obtain ⟨p, d, a, d2, r, c, c2, g, t, rfl, D, S, pm, kn, q⟩ := h
    have hu64 := hr.units
    refine ⟨_, pss_cons (ps_asg (pv 1) (pg_tup rfl (pgs_cons (pg_name (i := 3) cLIs.nd rfl (Or.inl rfl)) (pgs_cons (pg_name (i := 4) cLIs.nd rfl (Or.inl rfl)) (pgs_cons (pg_name (i := 5) cLIs.nd rfl (Or.inl rfl)) pgs_nil)))))
      (pss_cons (ps_if (pt_cmpR (op_neD hu64) (LiI.pe_listItems rfl (pe_meth0 (pv 0) T.cl mSh gSh hr bSh .nil pass0) rfl T.lst (by decide +kernel))
          (pe_callB (cr_sortedI rfl) (by rfl) T.srt (by decide +kernel) (pa_cons (pe_bm0 PySem.F.plainAttrs_dict PySem.F.slot_dict_items PySem.F.type_dict_items mt_items (pv 3)) pa_nil)) (nomark _))
        (pss_one (ps_ret pe_bl)) pss_nil)
      (pss_one (ps_ret (pe_cmpR (op_eqD hu64) (pe_tup (pa_cons (pe_meth0 (pv 0) T.cl mLo gLo hr bLo .nil pass0) (pa_cons (pe_meth0 (pv 0) T.cl mWe gWe hr bWe .nil pass0) (pa_cons (pe_meth0 (pv 0) T.cl mDr gDr hr bDr .nil pass0) pa_nil))))
        (pe_tup (pa_cons (pv 4) (pa_cons (pv 5) (pa_cons (pv 2) pa_nil)))) (nomark _))))), ?_⟩
    rw [← wMeth_eq]
    refine sq_any (fun σ' H' => σ' = [some (.ref p), some (.ref a), some (.int r), some (.ref d2), some (.int g), some (.int t)] ∧ H = H') (fun D' hD => ⟨_, rfl, a, _, rfl, SqT.of S.tp, rfl, _, _, rfl, _, _, rfl, _, _, rfl, rfl, hD _ _ ⟨rfl, rfl⟩⟩) ?_
    rintro σ' _ ⟨rfl, rfl⟩
    have nd2 : (keysC c2).Nodup := (perm_keys pm).nodup_iff.mpr D.nd
    have ks : ∀ n ∈ keysC (sortC c), isName n = true := fun n hn => kn n ((perm_keys (sortC_perm c)).mem_iff.mp hn)
    have sh := shaped_prs ks
    refine sq_if (fun H' => Ex H H') (fun Q' hQ => ?_) ?_
    · refine rd_shown rfl D fun H2 y hy ex2 ey => ?_
      refine ⟨y, kvc (sortC c), rfl, ey, fun H3 l ts ex3 hl hts nlt el prs => ?_⟩
      have ex3' : Ex H2 H3 := ex3
      have S3 := S.ex (ex2.trans ex3')
      refine ⟨_, rfl, (.inr (.inr (.inl ⟨rfl, .inl ⟨_, S3.dc⟩⟩))), d2, kvc c2, rfl, rfl, S3.dc, fun v hv => ?_⟩
      refine ⟨v, d2, c2, rfl, upd_same, (by rw [upd_ne (ne_of_none S3.dc hv)]; exact S3.dc), nd2, fun H4 l2 ts2 c' ex4 hl2 hts2 pm2 as el2 prs2 => ?_⟩
      have e : c' = sortC c := sortC_eq D.nd (pm2.trans pm) (sortC_asc' as)
      subst e
      have exv : Ex H3 H4 := (Evl.Ex.new hv).trans ex4
      exact ⟨prsD (sortC c), prsD (sortC c), dp_prs (exv _ _ el) (prs_ex (prs_of prs) exv), dp_prs el2 prs2, sh, sh, _, rfl, by rw [eqv_shaped sh]; exact hQ _ ((ex2.trans ex3').trans exv)⟩
    · intro H2 ex2
      have D2 := D.ex ex2
      have sz3 : 3 ≤ sizeLine := by rw [sizeLine_eq]; decide
      refine rd_num (by decide +kernel) rfl D2 ?_
      refine rd_num (by decide +kernel) rfl D2 ?_
      refine rd_num (by decide +kernel) rfl D2 ?_
      refine ⟨sz3, fun t1 ht1 => ⟨_, rfl, _, rfl, _, rfl, sz3, fun t2 ht2 => ?_⟩⟩
      refine ⟨.tuple [.int g, .int t, .int r], .tuple [.int g, .int t, .int r], .tup (SqT.of (by rw [upd_ne (ne_of_none upd_same ht2), upd_same])) (.cons (.int _) (.cons (.int _) (.cons (.int _) .nil))), .tup (SqT.of upd_same) (.cons (.int _) (.cons (.int _) (.cons (.int _) .nil))), rfl, rfl, ?_⟩
      rw [eqv_shaped (d := .tuple [.int g, .int t, .int r]) rfl]
      exact q _ ((ex2.trans (Evl.Ex.new ht1)).trans (Evl.Ex.new ht2))
end
/-! ### a Desk of given counts -/
section
variable {P : Program} {w : World} {K : PySem.W.Frag} {mg : Str → Option Value} {base : Heap} {C CN CW CD CQ : Addr}
def spDeskOf (C : Addr) : Sp := fun vs H Q _ => ∃ (r : Int) (d : Addr) (c : CM) (g t : Int), vs = [.int r, .ref d, .int g, .int t] ∧ 1 ≤ r ∧ r ≤ 50 ∧ H d = some (.dK (kvc c)) ∧ (keysC c).Nodup ∧ c.length ≤ 1000 ∧
  ∀ (H' : Hp) (p d' : Addr), Ex H H' → H p = none → H d' = none → DeskAt C H' p d' r (lowered c (cutAt r c)) (g + cutAt r c) t → Q (.ref p) H'
theorem ok_deskOf {f fI : Addr} {fd fdI : FuncData} (F : Fun K "desk_of" "desk_of" sDeskOf f fd) (T : DkT K mg C CN CW CD) (MI : Mk K C fI) (GI : FnOk P w K mg base (L2.CX P w) 3 fI fdI pDInit (spInit K C CD)) (bI : Binds K fdI pDInit [])
    (GL : Gf P w K mg base CX0 1 "lowered" pLowered spLowered) : FnOk P w K mg base CX0 5 f fd pDeskOf (spDeskOf C) := by
  obtain ⟨fL, fdL, gL, bL, mL, kL⟩ := GL.ex
  refine F.ok cDeskOf (fun vs H Q E h => ?_) (fun cdv A outer s H vs Q E hr h => ?_)
  · obtain ⟨r, d, c, g, t, rfl, _⟩ := h
    rfl
  · obtain ⟨r, d, c, g, t, rfl, r1, r2, hd, nd, hl, q⟩ := h
    refine ⟨_, pss_cons (ps_set (i := 4) cDeskOf.nd rfl (Or.inl rfl) (pe_make MI GI hr rfl T.mgC bI .nil passL (pa_cons (pv 0) pa_nil)))
      (pss_cons (ps_set (i := 5) cDeskOf.nd rfl (Or.inl rfl) (pe_callBK (cr_sortedVR rfl) (by rfl) T.srt (by decide +kernel) (pa_cons (pe_bm0 PySem.F.plainAttrs_dict PySem.F.slot_dict_values PySem.F.type_dict_values mt_vals (pv 1)) pa_nil) (pk_cons pe_bl pk_nil)))
      (pss_cons (ps_set (i := 6) cDeskOf.nd rfl (Or.inl rfl) pe_int)
      (pss_cons (ps_if (pt_cmpR op_gt (pe_callB call_len_seq (by rfl) T.len PySem.boot_len (pa_cons (pv 5) pa_nil)) (pv 0) (nomark _)) (pss_one (ps_set (i := 6) cDeskOf.nd rfl (Or.inl rfl) (pe_ix ix_list (pv 5) (pv 0) (fun _ _ => rfl)))) pss_nil)
      (pss_cons (ps_fld (pv 4) (pe_call gL (hr.mono (by decide)) rfl mL kL bL .nil pass0 (pa_cons (pv 1) (pa_cons (pv 6) pa_nil))) rfl)
      (pss_cons (ps_fld (pv 4) (pe_op op_add (pv 2) (pv 6)) rfl)
      (pss_cons (ps_fld (pv 4) (pv 3) rfl)
      (pss_one (ps_ret (pv 4))))))))), ?_⟩
    rw [← wMake_eq]
    refine sq_any (fun σ' H' => ∃ (p d0 : Addr), σ' = [some (.int r), some (.ref d), some (.int g), some (.int t), some (.ref p), none, none] ∧ H p = none ∧ Ex H H' ∧ DeskAt C H' p d0 r [] 0 0)
      (fun D' hD => rd_new (fun Q' h' => ⟨_, rfl, h'⟩) r1 r2 fun p d0 H1 np nd0 _ ex1 D0 => hD _ _ ⟨p, d0, rfl, np, ex1, D0⟩) ?_
    rintro σ' H1 ⟨p, d0, rfl, np, ex1, D0⟩
    refine sq_any (fun σ' H' => ∃ l : Addr, σ' = [some (.int r), some (.ref d), some (.int g), some (.int t), some (.ref p), some (.ref l), none] ∧ Ex H1 H' ∧ H' l = some (.lst ((falls (valsC c)).map V.int))) (fun D' hD => ?_) ?_
    · have hd1 := ex1 _ _ hd
      refine ⟨_, rfl, (.inr (.inr (.inl ⟨rfl, .inl ⟨_, hd1⟩⟩))), d, kvc c, rfl, rfl, hd1, fun v hv => ⟨rfl, v, d, kvc c, valsC c, rfl, upd_same, by rw [upd_ne (ne_of_none hd1 hv)]; exact hd1, snd_kvc c, fun ns' l pm so hl' => ?_⟩⟩
      rw [falls_eq pm so]
      exact hD _ _ ⟨l, rfl, (Evl.Ex.new hv).trans (Evl.Ex.new hl'), upd_same⟩
    rintro σ' H2 ⟨l, rfl, ex2, el⟩
    refine sq_any (fun σ' H' => σ' = [some (.int r), some (.ref d), some (.int g), some (.int t), some (.ref p), some (.ref l), some (.int 0)] ∧ H2 = H') (fun D' hD => hD _ _ ⟨rfl, rfl⟩) ?_
    rintro σ' _ ⟨rfl, rfl⟩
    refine sq_any (fun σ' H' => σ' = [some (.int r), some (.ref d), some (.int g), some (.int t), some (.ref p), some (.ref l), some (.int (cutAt r c))] ∧ H2 = H') (fun D' hD => ?_) ?_
    · refine ⟨_, rfl, l, _, rfl, .inl (SqL.of el), _, rfl, _, _, rfl, rfl, _, rfl, ?_⟩
      rw [List.length_map, falls_len]
      refine ite2 (fun h => ?_) (fun h => ?_)
      · have h := of_decide_eq_true h
        obtain ⟨k, hk⟩ : ∃ k : Nat, r = (k : Int) := ⟨r.toNat, by omega⟩
        have hc := cut_at (by omega) h
        refine ⟨_, rfl, _, rfl, l, _, r, .int (cutAt r c), rfl, rfl, SqL.of el, ?_, hD _ _ ⟨rfl, rfl⟩⟩
        rw [hk] at hc ⊢
        refine atI_nat ?_
        rw [List.getElem?_map]
        simp only [Int.toNat_natCast] at hc
        rw [hc]
        rfl
      · have h : ¬ r < (c.length : Int) := fun z => h (decide_eq_true z)
        rw [cut_few h] at hD
        exact hD _ _ ⟨rfl, rfl⟩
    rintro σ' _ ⟨rfl, rfl⟩
    obtain ⟨dx, hp⟩ := (D0.ex ex2).ob
    have exH2 : Ex H H2 := ex1.trans ex2
    refine sq_any (fun σ' H' => ∃ d' : Addr, σ' = [some (.int r), some (.ref d), some (.int g), some (.int t), some (.ref p), some (.ref l), some (.int (cutAt r c))] ∧ H d' = none ∧ Ex H H' ∧ H' p = some (.ins C dx (dfl r d' 0 0)) ∧ H' d' = some (.dK (kvc (lowered c (cutAt r c))))) (fun D' hD => ?_) ?_
    · refine ⟨_, rfl, _, rfl, d, c, _, rfl, exH2 _ _ hd, nd, hl, fun H3 d' hd' ex3 ed' => ?_⟩
      have hp3 := ex3 _ _ hp
      have npd : p ≠ d' := ne_of hp3 ed' (fun z => nomatch z)
      refine ⟨_, rfl, p, C, dx, _, rfl, hp3, T.cl, T.nC, (by show 4 < 1000; decide), ?_⟩
      rw [dfl_put_counts]
      refine hD _ _ ⟨d', rfl, none_ex exH2 hd', fun b o e => ?_, upd_same, by rw [upd_ne npd.symm]; exact ed'⟩
      rw [upd_ne (ne_of_none e np)]
      exact ex3 _ _ (exH2 _ _ e)
    rintro σ' H3 ⟨d', rfl, nd', ex3, hp3, hd3⟩
    have npd : p ≠ d' := ne_of hp3 hd3 (fun z => nomatch z)
    refine sq_any (fun σ' H' => σ' = [some (.int r), some (.ref d), some (.int g), some (.int t), some (.ref p), some (.ref l), some (.int (cutAt r c))] ∧ Ex H H' ∧ H' p = some (.ins C dx (dfl r d' (g + cutAt r c) 0)) ∧ H' d' = some (.dK (kvc (lowered c (cutAt r c))))) (fun D' hD => ?_) ?_
    · refine ⟨_, rfl, _, rfl, _, _, rfl, rfl, _, rfl, p, C, dx, _, rfl, hp3, T.cl, T.nG, (by show 4 < 1000; decide), ?_⟩
      rw [dfl_put_gone]
      refine hD _ _ ⟨rfl, fun b o e => ?_, upd_same, by rw [upd_ne npd.symm]; exact hd3⟩
      rw [upd_ne (ne_of_none e np)]
      exact ex3 _ _ e
    rintro σ' H4 ⟨rfl, ex4, hp4, hd4⟩
    refine sq_any (fun σ' H' => σ' = [some (.int r), some (.ref d), some (.int g), some (.int t), some (.ref p), some (.ref l), some (.int (cutAt r c))] ∧ Ex H H' ∧ H' p = some (.ins C dx (dfl r d' (g + cutAt r c) t)) ∧ H' d' = some (.dK (kvc (lowered c (cutAt r c))))) (fun D' hD => ?_) ?_
    · refine ⟨_, rfl, _, rfl, p, C, dx, _, rfl, hp4, T.cl, T.nT, (by show 4 < 1000; decide), ?_⟩
      rw [dfl_put_total]
      refine hD _ _ ⟨rfl, fun b o e => ?_, upd_same, by rw [upd_ne npd.symm]; exact hd4⟩
      rw [upd_ne (ne_of_none e np)]
      exact ex4 _ _ e
    rintro σ' H5 ⟨rfl, ex5, hp5, hd5⟩
    exact ⟨_, rfl, q H5 p d' ex5 np nd' ⟨⟨dx, hp5⟩, hd5, lowered_nodup nd, cut_len (by omega), r1, r2⟩⟩
end
/-! ### a smaller Desk -/
section
variable {P : Program} {w : World} {K : PySem.W.Frag} {mg : Str → Option Value} {base : Heap} {C CN CW CD CQ : Addr}
def spSmaller (K : PySem.W.Frag) (C CD CQ : Addr) : Sp := fun vs H Q E => ∃ (p d : Addr) (room : Int) (c : CM) (g t : Int) (x : V), vs = [.ref p, x] ∧ DeskAt C H p d room c g t ∧ Thing K H x ∧
  (∀ r, x = .int r → 1 ≤ r → r ≤ room → ∀ (H' : Hp) (p' d' : Addr), Ex H H' → H p' = none → H d' = none → DeskAt C H' p' d' r (lowered (sortC c) (cutAt r (sortC c))) (g + cutAt r (sortC c)) t → Q (.ref p') H') ∧
  (isRoomV x = false → E (.ref CD) none H) ∧ (∀ r, x = .int r → isRoomV x = true → room < r → E (.ref CQ) none H)
theorem ok_smaller {f : Addr} {fd : FuncData} (F : Fun K "smaller" "smaller" sSmaller f fd) (T : DkT K mg C CN CW CD) (eQ : ExT K mg "NoMatch" CQ) (GD : Gf P w K mg base (L2.CX P w) 2 "need_drawers" pNeedDrawers (spNeedDrawers K CD))
    (GO : Gf P w K mg base CX0 5 "desk_of" pDeskOf (spDeskOf C)) (GS : Gm P w K mg base CX0 C 1 "shown" pDShown (spShown C)) (GL : Gm P w K mg base CX0 C 1 "lost" pDLost (spNum C fun _ g _ => g))
    (GW : Gm P w K mg base CX0 C 1 "weight" pDWeight (spNum C fun _ _ t => t)) (GR : Gm P w K mg base CX0 C 1 "drawers" pDDrawers (spNum C fun r _ _ => r)) : FnOk P w K mg base (L2.CX P w) 6 f fd pSmaller (spSmaller K C CD CQ) := by
  obtain ⟨fD, fdD, gD, bD, mD, kD⟩ := GD.ex
  obtain ⟨fO, fdO, gO, bO, mO, kO⟩ := GO.ex
  obtain ⟨f2, fd2, gSh, bSh, mSh⟩ := GS.ex
  obtain ⟨f3, fd3, gLo, bLo, mLo⟩ := GL.ex
  obtain ⟨f4, fd4, gWe, bWe, mWe⟩ := GW.ex
  obtain ⟨f5, fd5, gDr, bDr, mDr⟩ := GR.ex
  refine F.okX cSmaller (fun vs H Q E h => ?_) (fun cdv A outer s H vs Q E hr h => ?_)
  · obtain ⟨p, d, room, c, g, t, x, rfl, _⟩ := h
    rfl
  · obtain ⟨p, d, room, c, g, t, x, rfl, D, tx, q1, q2, q3⟩ := h
    refine ⟨_, pss_cons (ps_expr (pe_call gD (hr.mono (by decide)) rfl mD kD bD .nil (passes_call (takes_of rfl rfl rfl rfl) (fun _ _ _ _ z => z)) (pa_cons (pv 1) pa_nil)))
      (pss_cons (ps_if (pt_cmpR op_gt (pv 1) (pe_meth0 (pv 0) T.cl mDr gDr (hr.mono (by decide)) bDr .nil pass0) (nomark _)) (pss_one (ps_raise rfl (takes_of rfl rfl rfl rfl) (pmk_own PySem.F.excBase_ValueError eQ.x eQ.g eQ.k (raises_own eQ.b eQ.t) (by rfl)))) pss_nil)
      (pss_one (ps_ret (pe_call gO (hr.mono (by decide)) rfl mO kO bO .nil pass0 (pa_cons (pv 1) (pa_cons (pe_meth0 (pv 0) T.cl mSh gSh (hr.mono (by decide)) bSh .nil pass0) (pa_cons (pe_meth0 (pv 0) T.cl mLo gLo (hr.mono (by decide)) bLo .nil pass0) (pa_cons (pe_meth0 (pv 0) T.cl mWe gWe (hr.mono (by decide)) bWe .nil pass0) pa_nil)))))))), ?_⟩
    rw [← wMeth_eq]
    refine ⟨_, rfl, x, rfl, tx, fun hx => ?_, q2⟩
    cases x <;> first | (exact absurd hx Bool.false_ne_true) | skip
    rename_i r
    have hx' := of_decide_eq_true hx
    refine ⟨_, rfl, ?_⟩
    refine rd_num (by decide +kernel) rfl D ?_
    refine ⟨_, _, rfl, rfl, _, rfl, ?_⟩
    refine ite2 (fun h => q3 r rfl hx (of_decide_eq_true h)) (fun h => ?_)
    have hle : r ≤ room := by
      have : ¬ room < r := fun z => h (decide_eq_true z)
      omega
    refine ⟨_, rfl, ?_⟩
    refine rd_shown rfl D fun H1 y hy ex1 ey => ?_
    refine rd_num (by decide +kernel) rfl (D.ex ex1) ?_
    refine rd_num (by decide +kernel) rfl (D.ex ex1) ?_
    refine ⟨r, y, sortC c, g, t, rfl, hx'.1, hx'.2, ey, sortC_nodup D.nd, ?_, fun H2 p' d' ex2 hp' hd' D2 => q1 r rfl hx'.1 hle H2 p' d' (ex1.trans ex2) (none_ex ex1 hp') (none_ex ex1 hd') D2⟩
    rw [sortC_len]
    have := D.len
    omega
end
/-! ### two Desks poured -/
section
variable {P : Program} {w : World} {K : PySem.W.Frag} {mg : Str → Option Value} {base : Heap} {C CN CW CD CQ : Addr}
def spPoured (C CQ : Addr) : Sp := fun vs H Q E => ∃ (p d : Addr) (r : Int) (c : CM) (g t : Int) (p2 d2 : Addr) (r2 : Int) (c2 : CM) (g2 t2 : Int), vs = [.ref p, .ref p2] ∧ DeskAt C H p d r c g t ∧ DeskAt C H p2 d2 r2 c2 g2 t2 ∧
  (r = r2 → ∀ (H' : Hp) (p' d' : Addr), Ex H H' → H p' = none → H d' = none → DeskAt C H' p' d' r (lowered (addC (sortC c) (sortC c2)) (cutAt r (addC (sortC c) (sortC c2)))) (g + g2 + cutAt r (addC (sortC c) (sortC c2))) (t + t2) → Q (.ref p') H') ∧
  (r ≠ r2 → E (.ref CQ) none H)
theorem add_snoc (a b : CM) (e : Str × Int) : addC a (b ++ [e]) = putC (addC a b) e.1 (getD0 (addC a b) e.1 + e.2) := by
  unfold addC
  rw [List.foldl_append]
  rfl
theorem ok_poured {f : Addr} {fd : FuncData} (F : Fun K "poured" "poured" sPoured f fd) (T : DkT K mg C CN CW CD) (eQ : ExT K mg "NoMatch" CQ)
    (GO : Gf P w K mg base CX0 5 "desk_of" pDeskOf (spDeskOf C)) (GS : Gm P w K mg base CX0 C 1 "shown" pDShown (spShown C)) (GL : Gm P w K mg base CX0 C 1 "lost" pDLost (spNum C fun _ g _ => g))
    (GW : Gm P w K mg base CX0 C 1 "weight" pDWeight (spNum C fun _ _ t => t)) (GR : Gm P w K mg base CX0 C 1 "drawers" pDDrawers (spNum C fun r _ _ => r)) : FnOk P w K mg base (L2.CX P w) 6 f fd pPoured (spPoured C CQ) := by
  obtain ⟨fO, fdO, gO, bO, mO, kO⟩ := GO.ex
  obtain ⟨f2, fd2, gSh, bSh, mSh⟩ := GS.ex
  obtain ⟨f3, fd3, gLo, bLo, mLo⟩ := GL.ex
  obtain ⟨f4, fd4, gWe, bWe, mWe⟩ := GW.ex
  obtain ⟨f5, fd5, gDr, bDr, mDr⟩ := GR.ex
  refine F.okX cPoured (fun vs H Q E h => ?_) (fun cdv A outer s H vs Q E hr h => ?_)
  · obtain ⟨p, d, r, c, g, t, p2, d2, r2, c2, g2, t2, rfl, _⟩ := h
    rfl
  · obtain ⟨p, d, r, c, g, t, p2, d2, r2, c2, g2, t2, rfl, D, D2, q1, q2⟩ := h
    have hu := hu_of hr
    refine ⟨_, pss_cons (ps_if (pt_cmpR op_ne (pe_meth0 (pv 0) T.cl mDr gDr (hr.mono (by decide)) bDr .nil pass0) (pe_meth0 (pv 1) T.cl mDr gDr (hr.mono (by decide)) bDr .nil pass0) (nomark _)) (pss_one (ps_raise rfl (takes_of rfl rfl rfl rfl) (pmk_own PySem.F.excBase_ValueError eQ.x eQ.g eQ.k (raises_own eQ.b eQ.t) (by rfl)))) pss_nil)
      (pss_cons (ps_set (i := 2) cPoured.nd rfl (Or.inl rfl) (pe_meth0 (pv 0) T.cl mSh gSh (hr.mono (by decide)) bSh .nil pass0))
      (pss_cons (ps_for (passes_of rfl) rfl (pi_items (pe_frz (pe_meth0 (pv 1) T.cl mSh gSh (hr.mono (by decide)) bSh .nil pass0))) (pg_tup rfl (pgs_cons (pg_name (i := 3) cPoured.nd rfl (Or.inl rfl)) (pgs_cons (pg_name (i := 4) cPoured.nd rfl (Or.inl rfl)) pgs_nil)))
        (pss_one (ps_dput hu (pv 2) (pv 3) (pe_op op_add (pe_dget2 hu (pv 2) (pv 3) pe_int ⟨rfl, rfl, rfl, rfl⟩) (pv 4)) rfl)))
      (pss_one (ps_ret (pe_call gO (hr.mono (by decide)) rfl mO kO bO .nil pass0 (pa_cons (pe_meth0 (pv 0) T.cl mDr gDr (hr.mono (by decide)) bDr .nil pass0) (pa_cons (pv 2) (pa_cons (pe_op op_add (pe_meth0 (pv 0) T.cl mLo gLo (hr.mono (by decide)) bLo .nil pass0) (pe_meth0 (pv 1) T.cl mLo gLo (hr.mono (by decide)) bLo .nil pass0))
        (pa_cons (pe_op op_add (pe_meth0 (pv 0) T.cl mWe gWe (hr.mono (by decide)) bWe .nil pass0) (pe_meth0 (pv 1) T.cl mWe gWe (hr.mono (by decide)) bWe .nil pass0)) pa_nil))))))))), ?_⟩
    rw [← wMeth_eq]
    by_cases hrr : r = r2
    · refine sq_if (fun H' => H = H') (fun Q' hQ => ?_) ?_
      · refine rd_num (by decide +kernel) rfl D ?_
        refine rd_num (by decide +kernel) rfl D2 ?_
        refine ⟨rfl, _, rfl, ?_⟩
        have e : decide (V.int r = V.int r2) = true := decide_eq_true (congrArg V.int hrr)
        rw [e]
        exact hQ _ rfl
      rintro _ rfl
      refine sq_any (fun σ' H' => ∃ y : Addr, σ' = [some (.ref p), some (.ref p2), some (.ref y), none, none] ∧ H y = none ∧ Ex H H' ∧ H' y = some (.dK (kvc (sortC c)))) (fun D' hD => rd_shown rfl D fun H1 y hy ex ey => hD _ _ ⟨y, rfl, hy, ex, ey⟩) ?_
      rintro σ' H1 ⟨y, rfl, ny, ex1, ey⟩
      have l1 : (sortC c).length ≤ 50 := by
        rw [sortC_len]
        exact D.len
      have l2 : (sortC c2).length ≤ 50 := by
        rw [sortC_len]
        exact D2.len
      refine sq_any (fun σ' H' => ∃ v3 v4 : Option V, σ' = [some (.ref p), some (.ref p2), some (.ref y), v3, v4] ∧ Ex H H' ∧ H' y = some (.dK (kvc (addC (sortC c) (sortC c2))))) (fun D' hD => ?_) ?_
      · refine rd_shown rfl (D2.ex ex1) fun H2 x hx ex2 ex' => ?_
        have yx : y ≠ x := ne_of_none ey hx
        have ey2 := ex2 _ _ ey
        have x0 : H x = none := none_ex ex1 hx
        refine ⟨x, _, rfl, ex', trivial, fun od => ⟨x, od, kvc (sortC c2), rfl, upd_same, ?_⟩⟩
        refine for_it (n := (sortC c2).length) (fun i σ H3 => ∃ v3 v4 : Option V, σ = [some (.ref p), some (.ref p2), some (.ref y), v3, v4] ∧ Ex H H3 ∧ H3 x = some (.frz od (.dK (kvc (sortC c2)))) ∧ H3 y = some (.dK (kvc (addC (sortC c) ((sortC c2).take i)))))
          ⟨none, none, rfl, fun b o e => by rw [upd_ne (ne_of_none e x0)]; exact ex2 _ _ (ex1 _ _ e), upd_same, by rw [upd_ne yx]; exact ey2⟩ ?_ ?_ ?_ ?_
        · rintro i σ H3 hi ⟨v3, v4, rfl, h1, h2, h3⟩
          exact ⟨h2, by rw [len_kvc]; exact hi⟩
        · rintro σ H3 ⟨v3, v4, rfl, h1, h2, h3⟩
          exact ⟨h2, by rw [len_kvc]; exact Nat.le_refl _⟩
        · rintro i σ H3 hi ⟨v3, v4, rfl, h1, h2, h3⟩ z H4 ⟨T1, k, v, hk, rfl, hT, rfl⟩
          have e0 : (kvc (sortC c2))[i]? = some (Sum.inr (sortC c2)[i].1, V.int (sortC c2)[i].2) := by
            unfold kvc
            rw [List.getElem?_map, List.getElem?_eq_getElem hi]
            rfl
          rw [e0] at hk
          cases hk
          have yT : y ≠ T1 := ne_of_none h3 hT
          have xT : x ≠ T1 := ne_of_none h2 hT
          have ey4 : (upd H3 T1 (.tup [.str (sortC c2)[i].1, .int (sortC c2)[i].2])) y = some (.dK (kvc (addC (sortC c) ((sortC c2).take i)))) := by rw [upd_ne yT]; exact h3
          refine ⟨T1, _, rfl, SqT.of upd_same, rfl, _, _, rfl, _, _, rfl, rfl, ?_⟩
          refine ⟨_, rfl, y, rfl, IsD.of (.inl ey4), _, rfl, _, DGet.of (.inl ey4) _, ?_⟩
          rw [getD_map]
          have la := add_len ((sortC c2).take i) (sortC c)
          rw [List.length_take] at la
          refine ⟨_, rfl, _, _, rfl, rfl, _, rfl, _, rfl, y, _, rfl, DPut.of ey4 _ _ (small (by omega)), _, _, rfl, fun b o e => ?_, ?_, ?_⟩
          · rw [upd_ne (ne_of_none e ny), upd_ne (ne_of_none (h1 _ _ e) hT)]
            exact h1 _ _ e
          · rw [upd_ne yx.symm, upd_ne xT]
            exact h2
          · rw [upd_same, List.take_succ_eq_append_getElem hi, add_snoc]
            rfl
        · rintro σ H3 ⟨v3, v4, rfl, h1, h2, h3⟩
          rw [List.take_of_length_le (Nat.le_refl _)] at h3
          exact hD _ _ ⟨v3, v4, rfl, h1, h3⟩
      rintro σ' H3 ⟨v3, v4, rfl, ex3, ey3⟩
      have D3 := D.ex ex3
      have D23 := D2.ex ex3
      refine rd_num (by decide +kernel) rfl D3 ?_
      refine ⟨_, rfl, ?_⟩
      refine rd_num (by decide +kernel) rfl D3 ?_
      refine rd_num (by decide +kernel) rfl D23 ?_
      refine ⟨_, _, rfl, rfl, ?_⟩
      refine rd_num (by decide +kernel) rfl D3 ?_
      refine rd_num (by decide +kernel) rfl D23 ?_
      have la := add_len (sortC c2) (sortC c)
      exact ⟨_, _, rfl, rfl, r, y, addC (sortC c) (sortC c2), g + g2, t + t2, rfl, D.r1, D.r2, ey3, add_nodup _ (sortC_nodup D.nd), by omega, fun H4 p' d' ex4 hp' hd' D4 => q1 hrr H4 p' d' (ex3.trans ex4) (none_ex ex3 hp') (none_ex ex3 hd') D4⟩
    · refine rd_num (by decide +kernel) rfl D ?_
      refine rd_num (by decide +kernel) rfl D2 ?_
      refine ⟨rfl, _, rfl, ?_⟩
      have e : decide (V.int r = V.int r2) = false := decide_eq_false fun z => hrr (V.int.inj z)
      rw [e]
      exact iteT (q2 hrr)
end
/-! ### texts: written -/
theorem ip_addS {X : Cx} : PIp X .Add (fun x y H Q => ∃ i j, x = .str i ∧ y = .str j ∧ i.length + j.length ≤ sizeLine ∧ Q (.str (i ++ j)) H) := fun pins s σ H x y v u Q I r1 r2 h => iop_add_str pins s σ H x y v u Q I r1 r2 h
/-- a statement that is not come to -/
def tDead : TS := fun _ _ _ => False
theorem ps_dead {X : Cx} {st : Stmt} : PS X st tDead := ⟨fun _ _ _ _ _ _ h => h.elim⟩
theorem log_most {i : Int} (h0 : 0 ≤ i) (h : i ≤ mostN) : i.natAbs.log2 < 1920 := by
  by_cases hz : i.natAbs = 0
  · rw [hz]; decide
  · refine (Nat.log2_lt hz).mpr ?_
    have e : i.natAbs ≤ 10000000000000000000000000000000000000000000000000000000000000000000000 := by
      have h2 : i ≤ 10000000000000000000000000000000000000000000000000000000000000000000000 := h
      omega
    refine Nat.lt_of_le_of_lt e ?_
    decide +kernel
/-- the numbers of a desk that a text can tell -/
structure Nums (r : Int) (c : CM) (g t : Int) : Prop where
  nm : ∀ e ∈ c, isName e.1 = true
  v0 : ∀ e ∈ c, 0 ≤ e.2
  v1 : ∀ e ∈ c, e.2 ≤ mostN
  g0 : 0 ≤ g
  g1 : g ≤ mostN
  t0 : 0 ≤ t
  t1 : t ≤ mostN
section
variable {P : Program} {w : World} {K : PySem.W.Frag} {mg : Str → Option Value} {base : Heap} {C CN CW CD : Addr}
def spWritten (C : Addr) : Sp := fun vs H Q _ => ∃ (p d : Addr) (r : Int) (c : CM) (g t : Int), vs = [.ref p] ∧ DeskAt C H p d r c g t ∧ Nums r c g t ∧ ∀ H' : Hp, Ex H H' → Q (.str (textT r (sortC c) g t)) H'
theorem ok_written {f : Addr} {fd : FuncData} (F : Fun K "written" "written" sWritten f fd) (T : DkT K mg C CN CW CD) (GS : Gm P w K mg base CX0 C 1 "shown" pDShown (spShown C)) (GL : Gm P w K mg base CX0 C 1 "lost" pDLost (spNum C fun _ g _ => g))
    (GW : Gm P w K mg base CX0 C 1 "weight" pDWeight (spNum C fun _ _ t => t)) (GR : Gm P w K mg base CX0 C 1 "drawers" pDDrawers (spNum C fun r _ _ => r)) (zs : mg "str" = none) : FnOk P w K mg base CX0 2 f fd pWritten (spWritten C) := by
  obtain ⟨f2, fd2, gSh, bSh, mSh⟩ := GS.ex
  obtain ⟨f3, fd3, gLo, bLo, mLo⟩ := GL.ex
  obtain ⟨f4, fd4, gWe, bWe, mWe⟩ := GW.ex
  obtain ⟨f5, fd5, gDr, bDr, mDr⟩ := GR.ex
  refine F.ok cWritten (fun vs H Q E h => ?_) (fun cdv A outer s H vs Q E hr h => ?_)
  · obtain ⟨p, d, r, c, g, t, rfl, _⟩ := h
    rfl
  · obtain ⟨p, d, r, c, g, t, rfl, D, N, q⟩ := h
    refine ⟨_, pss_cons (ps_set (i := 1) cWritten.nd rfl (Or.inl rfl) (pe_op op_add_str (pe_bm PySem.F.plainAttrs_str PySem.F.slot_str_join PySem.F.type_str_join mt_join pe_str (pa_cons (pe_lst (pa_cons pe_str
          (pa_cons (pe_callTy call_str_int (by rfl) zs (by decide +kernel) (pa_cons (pe_meth0 (pv 0) T.cl mDr gDr hr bDr .nil pass0) pa_nil)) (pa_cons (pe_callTy call_str_int (by rfl) zs (by decide +kernel) (pa_cons (pe_meth0 (pv 0) T.cl mLo gLo hr bLo .nil pass0) pa_nil))
          (pa_cons (pe_callTy call_str_int (by rfl) zs (by decide +kernel) (pa_cons (pe_meth0 (pv 0) T.cl mWe gWe hr bWe .nil pass0) pa_nil)) pa_nil))))) pa_nil)) pe_str))
      (pss_cons (ps_for PassesOwn.never rfl (pi_items (pe_frz (pe_meth0 (pv 0) T.cl mSh gSh hr bSh .nil pass0))) (pg_tup rfl (pgs_cons (pg_name (i := 2) cWritten.nd rfl (Or.inl rfl)) (pgs_cons (pg_name (i := 3) cWritten.nd rfl (Or.inl rfl)) pgs_nil)))
        (pss_one (ps_aug (i := 1) cWritten.nd rfl (Or.inl rfl) (pe_op op_add_str (pe_op op_add_str (pe_op op_add_str (pv 2) pe_str) (pe_callTy call_str_int (by rfl) zs (by decide +kernel) (pa_cons (pv 3) pa_nil))) pe_str) ip_addS)))
      (pss_one (ps_ret (pv 1)))), ?_⟩
    rw [← wMeth_eq]
    have r1 := D.r1
    have r2 := D.r2
    have rm : r ≤ mostN := by have h : (50 : Int) ≤ mostN := by decide
                              omega
    have four : 4 ≤ sizeLine := by rw [sizeLine_eq]; decide
    have l50 := D.len
    have scl := sortC_len c
    have sm : ∀ e ∈ sortC c, isName e.1 = true ∧ 0 ≤ e.2 ∧ e.2 ≤ mostN := fun e he => by
      have h := (sortC_perm c).mem_iff.mp he
      exact ⟨N.nm e h, N.v0 e h, N.v1 e h⟩
    have nl : ("\n" : Str).length = 1 := by decide +kernel
    have bl : (" " : Str).length = 1 := by decide +kernel
    have hln := head_len (by omega) rm N.g0 N.g1 N.t0 N.t1 (r := r)
    refine sq_any (fun σ' H' => σ' = [some (.ref p), some (.str (textT r [] g t)), none, none] ∧ Ex H H') (fun D' hD => ?_) ?_
    · refine ⟨rfl, ?_⟩
      refine rd_num (by decide +kernel) rfl D ?_
      refine ⟨r, rfl, log_most (by omega) rm, ?_⟩
      refine rd_num (by decide +kernel) rfl D ?_
      refine ⟨g, rfl, log_most N.g0 N.g1, ?_⟩
      refine rd_num (by decide +kernel) rfl D ?_
      refine ⟨t, rfl, log_most N.t0 N.t1, ?_⟩
      refine ⟨four, fun l hl => ?_⟩
      refine ⟨" ", l, [("desk" : Str), numS r, numS g, numS t], rfl, rfl, .inl (SqL.of upd_same), ?_, _, _, rfl, rfl, ?_, hD _ _ ⟨?_, Evl.Ex.new hl⟩⟩
      · have a1 := num_len_le (by omega) rm (i := r)
        have a2 := num_len_le N.g0 N.g1
        have a3 := num_len_le N.t0 N.t1
        have a4 : ("desk" : Str).length = 4 := by decide +kernel
        show ("desk" : Str).length + ((numS r).length + ((numS g).length + ((numS t).length + 0))) + 4 * (" " : Str).length ≤ 16777216
        omega
      · show (headT r g t).length + ("\n" : Str).length ≤ sizeLine
        rw [nl, sizeLine_eq]
        omega
      · rw [text_nil]
        rfl
    rintro σ' H1 ⟨rfl, ex1⟩
    refine sq_any (fun σ' H' => ∃ v2 v3 : Option V, σ' = [some (.ref p), some (.str (textT r (sortC c) g t)), v2, v3] ∧ Ex H H') (fun D' hD => ?_) ?_
    · refine rd_shown rfl (D.ex ex1) fun H2 x hx ex2 ex' => ?_
      have x0 : H x = none := none_ex ex1 hx
      refine ⟨x, _, rfl, ex', trivial, fun od => ⟨x, od, kvc (sortC c), rfl, upd_same, ?_⟩⟩
      refine for_it (n := (sortC c).length) (fun i σ H3 => ∃ v2 v3 : Option V, σ = [some (.ref p), some (.str (textT r ((sortC c).take i) g t)), v2, v3] ∧ Ex H H3 ∧ H3 x = some (.frz od (.dK (kvc (sortC c)))))
        ⟨none, none, rfl, fun b o e => by rw [upd_ne (ne_of_none e x0)]; exact ex2 _ _ (ex1 _ _ e), upd_same⟩ ?_ ?_ ?_ ?_
      · rintro i σ H3 hi ⟨v2, v3, rfl, h1, h2⟩
        exact ⟨h2, by rw [len_kvc]; exact hi⟩
      · rintro σ H3 ⟨v2, v3, rfl, h1, h2⟩
        exact ⟨h2, by rw [len_kvc]; exact Nat.le_refl _⟩
      · rintro i σ H3 hi ⟨v2, v3, rfl, h1, h2⟩ z H4 ⟨T1, k, v, hk, rfl, hT, rfl⟩
        have e0 : (kvc (sortC c))[i]? = some (Sum.inr (sortC c)[i].1, V.int (sortC c)[i].2) := by
          unfold kvc
          rw [List.getElem?_map, List.getElem?_eq_getElem hi]
          rfl
        rw [e0] at hk
        cases hk
        have xT : x ≠ T1 := ne_of_none h2 hT
        have tk : (sortC c).take (i + 1) = (sortC c).take i ++ [(sortC c)[i]] := List.take_succ_eq_append_getElem hi
        have me := sm _ (List.getElem_mem hi)
        have n8 := name_len me.1
        have n71 := num_len_le me.2.1 me.2.2
        have tl := text_len (by omega) rm N.g0 N.g1 N.t0 N.t1 (r := r) ((sortC c).take i) fun e he => sm e (List.mem_of_mem_take he)
        rw [List.length_take] at tl
        have n1 : ((sortC c)[i].1 ++ (" " : Str)).length = (sortC c)[i].1.length + 1 := by rw [str_len_app, bl]
        have n2 : ((sortC c)[i].1 ++ (" " : Str) ++ numS (sortC c)[i].2).length = (sortC c)[i].1.length + 1 + (numS (sortC c)[i].2).length := by rw [str_len_app, n1]
        have n3 : ((sortC c)[i].1 ++ (" " : Str) ++ numS (sortC c)[i].2 ++ ("\n" : Str)).length = (sortC c)[i].1.length + 1 + (numS (sortC c)[i].2).length + 1 := by rw [str_len_app, n2, nl]
        refine ⟨T1, _, rfl, SqT.of upd_same, rfl, _, _, rfl, _, _, rfl, rfl, ?_⟩
        refine ⟨_, rfl, _, rfl, _, _, rfl, rfl, by rw [bl, sizeLine_eq]; omega, _, rfl, _, rfl, log_most me.2.1 me.2.2, _, _, rfl, rfl, by rw [n1, sizeLine_eq]; show _ + (numS (sortC c)[i].2).length ≤ _; omega, _, _, rfl, rfl, ?_, ?_⟩
        · show ((sortC c)[i].1 ++ (" " : Str) ++ numS (sortC c)[i].2).length + ("\n" : Str).length ≤ sizeLine
          rw [n2, nl, sizeLine_eq]
          omega
        refine ⟨_, _, rfl, rfl, ?_, ?_⟩
        · show _ + ((sortC c)[i].1 ++ (" " : Str) ++ numS (sortC c)[i].2 ++ ("\n" : Str)).length ≤ sizeLine
          rw [n3, sizeLine_eq]
          omega
        refine ⟨some (.str (sortC c)[i].1), some (.int (sortC c)[i].2), ?_, fun b o e => ?_, ?_⟩
        · rw [tk, text_snoc]
          rfl
        · rw [upd_ne (ne_of_none (h1 _ _ e) hT)]
          exact h1 _ _ e
        · rw [upd_ne xT]
          exact h2
      · rintro σ H3 ⟨v2, v3, rfl, h1, h2⟩
        rw [List.take_of_length_le (Nat.le_refl _)]
        exact hD _ _ ⟨v2, v3, rfl, h1⟩
    rintro σ' H2 ⟨v2, v3, rfl, ex2⟩
    exact ⟨_, rfl, q H2 ex2⟩
end
/-! ### texts: the words of a row -/
theorem sq_ifB {c : TT} {t rest : TS} {D : Ends} {σ : L2.St} {H : Hp} (b : Bool) (h : ∀ Q : Bool → Hp → Prop, Q b H → c σ H Q) (kt : b = true → t { D with nx := rest D } σ H) (kf : b = false → rest D σ H) : tSeq (tIfS c t tNext) rest D σ H := by
  refine h _ ?_
  cases b with
  | true => exact (if_pos rfl).mpr (kt rfl)
  | false => exact (if_neg Bool.false_ne_true).mpr (kf rfl)
section
variable {P : Program} {w : World} {K : PySem.W.Frag} {mg : Str → Option Value} {base : Heap} {C CN CW CD : Addr}
def ovV : Option Int → V
  | some n => .int n
  | none => .non
def spNumOf : Sp := fun vs H Q _ => ∃ (z : Str) (lo hi : Int), vs = [.str z, .int lo, .int hi] ∧ z.length ≤ sizeLine ∧ Q (ovV (numOf z lo hi)) H
theorem ok_numOf {f : Addr} {fd : FuncData} (F : Fun K "number_of" "number_of" sNumberOf f fd) (zl : mg "len" = none) (zi : mg "int" = none) {tF : Tok} (mF : mg "FIGURES" = some (.str figures tF)) : FnOk P w K mg base CX0 1 f fd pNumberOf spNumOf := by
  refine F.ok cNumberOf (fun vs H Q E h => ?_) (fun cdv A outer s H vs Q E hr h => ?_)
  · obtain ⟨z, lo, hi, rfl, _⟩ := h
    rfl
  · obtain ⟨z, lo, hi, rfl, hz, q⟩ := h
    refine ⟨_, pss_cons (ps_if (PW.pt (pw_or (pt_not (pt_chain op_lt op_lt pe_int (pe_callB call_len_str (by rfl) zl PySem.boot_len (pa_cons (pv 0) pa_nil)) pe_int))
          (pw_or (pt_cmpR op_ne (pe_bm PySem.F.plainAttrs_str PySem.F.slot_str_strip PySem.F.type_str_strip mt_stripChars (pv 0) (pa_cons (pe_gstr mF (by rfl)) pa_nil)) pe_str (nomark _))
          (pw_or1 (PW.pt (pw_and (pt_cmpR op_eq (pe_ix ix_str (pv 0) pe_int (fun _ _ => rfl)) pe_str (nomark _)) (pw_and1 (pt_cmpR op_gt (pe_callB call_len_str (by rfl) zl PySem.boot_len (pa_cons (pv 0) pa_nil)) pe_int (nomark _)))))))))
        (pss_one (ps_ret pe_non)) pss_nil)
      (pss_cons (ps_set (i := 3) cNumberOf.nd rfl (Or.inl rfl) (pe_callTy call_int_str (by rfl) zi (by decide +kernel) (pa_cons (pv 0) pa_nil)))
      (pss_cons (ps_if (pt_not (pt_chain op_le op_le (pv 1) (pv 3) (pv 2))) (pss_one (ps_ret pe_non)) pss_nil)
      (pss_one (ps_ret (pv 3))))), ?_⟩
    have no : (decide (0 < z.length ∧ z.length < 73) && (cs z).all digC && !(decide ((cs z)[0]? = some 48) && decide (1 < z.length))) = false → Q .non H := fun h => by
      unfold numOf at q
      rw [h, if_neg Bool.false_ne_true] at q
      exact q
    generalize hb : (decide (0 < z.length ∧ z.length < 73) && (cs z).all digC && !(decide ((cs z)[0]? = some 48) && decide (1 < z.length))) = b at no
    refine sq_ifB (!b) (fun Q' hQ => ?_) (fun hbt => no (by rw [Bool.not_eq_true'] at hbt; exact hbt)) (fun hbf => ?_)
    · have no : b = false → Q' true H := fun h => by rw [h] at hQ; exact hQ
      have hD' : b = true → Q' false H := fun h => by rw [h] at hQ; exact hQ
      rw [← hb] at no hD'
      refine ⟨_, rfl, z, rfl, hz, _, _, rfl, rfl, _, rfl, ?_⟩
      refine ite2 (fun h1 => ?_) (fun h1 => ?_)
      · have f1 : (0 : Int) < (z.length : Int) := of_decide_eq_true h1
        refine ⟨_, _, rfl, rfl, _, rfl, ?_⟩
        cases h2 : decide ((z.length : Int) < 73) with
        | true =>
          have f2 := of_decide_eq_true h2
          have f12 : decide (0 < z.length ∧ z.length < 73) = true := decide_eq_true ⟨by omega, by omega⟩
          refine iteF ?_
          refine ⟨_, rfl, rfl, _, _, rfl, rfl, hz, rfl, _, rfl, ?_⟩
          rw [strip_figures z]
          cases h3 : (cs z).all digC with
          | true =>
            refine iteF ?_
            obtain ⟨c0, hc0⟩ : ∃ c0, (cs z)[0]? = some c0 := ⟨(cs z)[0]'(by rw [← cs_len]; omega), List.getElem?_eq_getElem (by rw [← cs_len]; omega)⟩
            refine ⟨_, rfl, z, 0, c0, rfl, rfl, hz, atI_nat (j := 0) hc0, rfl, _, rfl, ?_⟩
            have e0 : decide (V.str ⟨#[c0]⟩ = V.str "0") = decide ((cs z)[0]? = some 48) := by
              rw [hc0]
              have ez : ("0" : Str) = ⟨#[48]⟩ := by decide +kernel
              rw [ez]
              by_cases hc : c0 = 48
              · subst hc
                rw [decide_eq_true rfl, decide_eq_true rfl]
              · rw [decide_eq_false fun e => hc ?_, decide_eq_false fun e => hc (Option.some.inj e)]
                have e1 : ([c0] : List Nat) = [48] := congrArg (fun s : Str => s.cps.toList) (V.str.inj e)
                exact (List.cons.inj e1).1
            rw [e0]
            cases h4 : decide ((cs z)[0]? = some 48) with
            | true =>
              refine ⟨_, rfl, z, rfl, hz, _, _, rfl, rfl, _, rfl, ?_⟩
              cases h5 : decide (1 < (z.length : Int)) with
              | true =>
                have : decide (1 < z.length) = true := decide_eq_true (by have := of_decide_eq_true h5; omega)
                refine no ?_
                rw [h4, this, Bool.and_self, Bool.not_true, Bool.and_false]
              | false =>
                have : decide (1 < z.length) = false := decide_eq_false (by have := of_decide_eq_false h5; omega)
                refine hD' ?_
                rw [f12, h3, h4, this]
                rfl
            | false =>
              refine hD' ?_
              rw [f12, h3, h4]
              rfl
          | false =>
            refine iteT (no ?_)
            rw [h3, Bool.and_false, Bool.false_and]
        | false =>
          refine iteT (no ?_)
          rw [decide_eq_false (show ¬ (0 < z.length ∧ z.length < 73) from fun h => of_decide_eq_false h2 (by omega)), Bool.false_and, Bool.false_and]
      · refine ⟨_, rfl, iteT (no ?_)⟩
        have f1 : ¬ (0 : Int) < (z.length : Int) := fun h => h1 (decide_eq_true h)
        rw [decide_eq_false (show ¬ (0 < z.length ∧ z.length < 73) by omega), Bool.false_and, Bool.false_and]
    have hb : (decide (0 < z.length ∧ z.length < 73) && (cs z).all digC && !(decide ((cs z)[0]? = some 48) && decide (1 < z.length))) = true := by
      rw [hb]
      rw [Bool.not_eq_false'] at hbf
      exact hbf
    have hb' := hb
    rw [Bool.and_eq_true, Bool.and_eq_true] at hb'
    have hl := of_decide_eq_true hb'.1.1
    have hi' := figs_int hl.1 hl.2 hb'.1.2
    unfold numOf at q
    rw [hb, if_pos rfl] at q
    refine ⟨_, rfl, z, _, rfl, hi'.1, hi'.2, ?_⟩
    refine ⟨_, rfl, _, rfl, _, _, rfl, rfl, _, rfl, ?_⟩
    refine ite2 (fun h1 => ?_) (fun h1 => ?_)
    · have f1 := of_decide_eq_true h1
      refine ⟨_, rfl, _, _, rfl, rfl, _, rfl, ?_⟩
      cases h2 : decide (((NumText.digitsVal (cs z) : Nat) : Int) ≤ hi) with
      | true =>
        rw [if_pos ⟨f1, of_decide_eq_true h2⟩] at q
        exact iteF ⟨_, rfl, q⟩
      | false =>
        rw [if_neg fun h => of_decide_eq_false h2 h.2] at q
        exact iteT q
    · rw [if_neg fun h => h1 (decide_eq_true h.1)] at q
      exact ⟨_, rfl, iteT q⟩
def spHeadOf : Sp := fun vs H Q _ => ∃ (z : Str), vs = [.str z] ∧ z.length + 2 ≤ sizeLine ∧ (headOf z = none → ∀ H' : Hp, Ex H H' → Q .non H') ∧ (∀ r g t, headOf z = some (r, g, t) → ∀ (H' : Hp) (l : Addr), Ex H H' → H l = none → H' l = some (.lst [.int r, .int g, .int t]) → Q (.ref l) H')
theorem four_of {α : Type} {l : List α} (h : l.length = 4) : ∃ a b c d, l = [a, b, c, d] := by
  match l, h with
  | [a, b, c, d], _ => exact ⟨a, b, c, d, rfl⟩
theorem two_of {α : Type} {l : List α} (h : l.length = 2) : ∃ a b, l = [a, b] := by
  match l, h with
  | [a, b], _ => exact ⟨a, b, rfl⟩
theorem head_not4 {z : Str} (h : ¬ (Txt.split z " ").length = 4) : headOf z = none := by
  unfold headOf
  generalize Txt.split z " " = ws at h
  match ws, h with
  | [], _ => rfl
  | [_], _ => rfl
  | [_, _], _ => rfl
  | [_, _, _], _ => rfl
  | [_, _, _, _], h => exact absurd rfl h
  | _ :: _ :: _ :: _ :: _ :: _, _ => rfl
theorem pair_not2 {z : Str} (h : ¬ (Txt.split z " ").length = 2) : pairOf z = none := by
  unfold pairOf
  generalize Txt.split z " " = ws at h
  match ws, h with
  | [], _ => rfl
  | [_], _ => rfl
  | [_, _], h => exact absurd rfl h
  | _ :: _ :: _ :: _, _ => rfl
theorem ov_flat (o : Option Int) : flatV (ovV o) = true := by
  cases o <;> rfl
theorem ov_in (a b c : Option Int) : inV .non [ovV a, ovV b, ovV c] = (decide (a = none) || decide (b = none) || decide (c = none)) := by
  cases a <;> cases b <;> cases c <;> rfl
theorem ok_headOf {f : Addr} {fd : FuncData} (F : Fun K "head_of" "head_of" sHeadOf f fd) (GN : Gf P w K mg base CX0 1 "number_of" pNumberOf spNumOf) (zl : mg "len" = none) {tM tN : Tok} (mM : mg "MOST_DRAWERS" = some (.int 50 tM)) (mN' : mg "MOST_NUMBER" = some (.int mostN tN)) : FnOk P w K mg base CX0 2 f fd pHeadOf spHeadOf := by
  obtain ⟨fN, fdN, gN, bN, mN, kN⟩ := GN.ex
  refine F.ok cHeadOf (fun vs H Q E h => ?_) (fun cdv A outer s H vs Q E hr h => ?_)
  · obtain ⟨z, rfl, _⟩ := h
    rfl
  · obtain ⟨z, rfl, hz, q1, q2⟩ := h
    refine ⟨_, pss_cons (ps_set (i := 1) cHeadOf.nd rfl (Or.inl rfl) (pe_split (pv 0) pe_str))
      (pss_cons (ps_if (PW.pt (pw_or (pt_cmpR op_ne (pe_callB call_len_seq (by rfl) zl PySem.boot_len (pa_cons (pv 1) pa_nil)) pe_int (nomark _)) (pw_or1 (pt_cmpR op_ne (pe_ix ix_list (pv 1) pe_int (fun _ _ => rfl)) pe_str (nomark _))))) (pss_one (ps_ret pe_non)) pss_nil)
      (pss_cons (ps_set (i := 2) cHeadOf.nd rfl (Or.inl rfl) (pe_lst (pa_cons (pe_call gN hr rfl mN kN bN .nil pass0 (pa_cons (pe_ix ix_list (pv 1) pe_int (fun _ _ => rfl)) (pa_cons pe_int (pa_cons (pe_gint mM (by rfl)) pa_nil))))
          (pa_cons (pe_call gN hr rfl mN kN bN .nil pass0 (pa_cons (pe_ix ix_list (pv 1) pe_int (fun _ _ => rfl)) (pa_cons pe_int (pa_cons (pe_gint mN' (by rfl)) pa_nil)))) pa_nil))))
      (pss_cons (ps_expr (pe_bm PySem.F.plainAttrs_list PySem.F.slot_list_append PySem.F.type_list_append mt_append (pv 2) (pa_cons (pe_call gN hr rfl mN kN bN .nil pass0 (pa_cons (pe_ix ix_list (pv 1) pe_int (fun _ _ => rfl)) (pa_cons pe_int (pa_cons (pe_gint mN' (by rfl)) pa_nil)))) pa_nil)))
      (pss_cons (ps_if (pt_cmpR op_in_seq pe_non (pv 2) (by rfl)) (pss_one (ps_ret pe_non)) pss_nil)
      (pss_one (ps_ret (pv 2))))))), ?_⟩
    have two : 2 ≤ sizeLine := by rw [sizeLine_eq]; decide
    refine sq_any (fun σ' H' => ∃ lw : Addr, σ' = [some (.str z), some (.ref lw), none] ∧ Ex H H' ∧ H' lw = some (.lst ((Txt.split z " ").map V.str))) (fun D' hD => ⟨_, rfl, ⟨_, rfl⟩, z, " ", rfl, rfl, (by decide +kernel), hz, fun lw hlw => hD _ _ ⟨lw, rfl, Evl.Ex.new hlw, upd_same⟩⟩) ?_
    rintro σ' H1 ⟨lw, rfl, ex1, ew⟩
    by_cases h4 : (Txt.split z " ").length = 4
    · obtain ⟨a, b, c, d, hws⟩ := four_of h4
      have hle : ∀ p ∈ [a, b, c, d], p.length ≤ sizeLine := fun p hp => by
        have := split_le (x := z) (y := " ") (p := p) (by rw [hws]; exact hp)
        omega
      rw [hws] at ew
      by_cases hd : a = ("desk" : Str)
      · subst hd
        have hh : headOf z = match numOf b 1 50, numOf c 0 mostN, numOf d 0 mostN with
            | some r, some g, some t => some (r, g, t)
            | _, _, _ => none := by
          unfold headOf
          rw [hws]
          dsimp only
          refine (if_pos rfl).trans ?_
          cases numOf b 1 50 <;> cases numOf c 0 mostN <;> cases numOf d 0 mostN <;> rfl
        refine sq_if (fun H' => H1 = H') (fun Q' hQ => ?_) ?_
        · refine ⟨_, rfl, lw, _, rfl, .inl (SqL.of ew), rfl, _, rfl, iteF ?_⟩
          exact ⟨_, rfl, lw, _, 0, _, rfl, rfl, SqL.of ew, atI_nat (j := 0) rfl, rfl, _, rfl, hQ _ rfl⟩
        rintro _ rfl
        refine sq_any (fun σ' H' => ∃ l : Addr, σ' = [some (.str z), some (.ref lw), some (.ref l)] ∧ H1 l = none ∧ H' = upd H1 l (.lst [ovV (numOf b 1 50), ovV (numOf c 0 mostN)])) (fun D' hD => ?_) ?_
        · refine ⟨_, rfl, lw, _, 1, _, rfl, rfl, SqL.of ew, atI_nat (j := 1) rfl, b, 1, 50, rfl, hle b (by simp), ?_⟩
          exact ⟨_, rfl, lw, _, 2, _, rfl, rfl, SqL.of ew, atI_nat (j := 2) rfl, c, 0, mostN, rfl, hle c (by simp), two, fun l hl => hD _ _ ⟨l, rfl, hl, rfl⟩⟩
        rintro σ' H2 ⟨l, rfl, hl, rfl⟩
        have ew2 := Evl.Ex.new (o := .lst [ovV (numOf b 1 50), ovV (numOf c 0 mostN)]) hl _ _ ew
        refine sq_any (fun σ' H' => σ' = [some (.str z), some (.ref lw), some (.ref l)] ∧ Ex H1 H' ∧ H' l = some (.lst [ovV (numOf b 1 50), ovV (numOf c 0 mostN), ovV (numOf d 0 mostN)])) (fun D' hD => ?_) ?_
        · refine ⟨_, rfl, .inl ⟨rfl, _, SqL.of upd_same⟩, _, rfl, lw, _, 3, _, rfl, rfl, SqL.of ew2, atI_nat (j := 3) rfl, d, 0, mostN, rfl, hle d (by simp), l, _, _, rfl, rfl, upd_same, small (by show 2 ≤ 100000; decide), hD _ _ ⟨rfl, fun x o e => ?_, upd_same⟩⟩
          rw [upd_ne (ne_of_none e hl), upd_ne (ne_of_none e hl)]
          exact e
        rintro σ' H3 ⟨rfl, ex3, el⟩
        refine sq_ifB (decide (numOf b 1 50 = none) || decide (numOf c 0 mostN = none) || decide (numOf d 0 mostN = none)) (fun Q' hQ => ?_) (fun ht => ?_) (fun hf => ?_)
        · refine ⟨_, rfl, l, _, rfl, .inl (SqL.of el), rfl, ?_, _, rfl, ?_⟩
          · simp only [List.all_cons, List.all_nil, ov_flat, Bool.and_self]
          · rw [if_neg Bool.false_ne_true, ov_in]
            exact hQ
        · refine q1 ?_ H3 (ex1.trans ex3)
          rw [hh]
          cases hb : numOf b 1 50 <;> cases hc : numOf c 0 mostN <;> cases hdd : numOf d 0 mostN <;> first | rfl | (rw [hb, hc, hdd] at ht; cases ht)
        · cases hb : numOf b 1 50 with
          | none => rw [hb] at hf; cases hf
          | some r =>
            cases hc : numOf c 0 mostN with
            | none => rw [hb, hc] at hf; cases hf
            | some g =>
              cases hdd : numOf d 0 mostN with
              | none => rw [hb, hc, hdd] at hf; cases hf
              | some t =>
                rw [hb, hc, hdd] at hh el
                exact ⟨_, rfl, q2 r g t hh H3 l (ex1.trans ex3) (none_ex ex1 hl) el⟩
      · refine ⟨_, rfl, lw, _, rfl, .inl (SqL.of ew), rfl, _, rfl, iteF ?_⟩
        refine ⟨_, rfl, lw, _, 0, _, rfl, rfl, SqL.of ew, atI_nat (j := 0) rfl, rfl, _, rfl, ?_⟩
        rw [decide_eq_false (show ¬ V.str a = V.str "desk" from fun e => hd (V.str.inj e))]
        refine iteT (q1 ?_ H1 ex1)
        unfold headOf
        rw [hws]
        dsimp only
        rw [if_neg hd]
    · refine ⟨_, rfl, lw, _, rfl, .inl (SqL.of ew), rfl, _, rfl, ?_⟩
      rw [List.length_map, decide_eq_false (show ¬ V.int ((Txt.split z " ").length : Int) = V.int 4 from fun e => h4 (by have := V.int.inj e; omega))]
      exact iteT (q1 (head_not4 h4) H1 ex1)
def spPairOf : Sp := fun vs H Q _ => ∃ (z : Str), vs = [.str z] ∧ z.length + 2 ≤ sizeLine ∧ (pairOf z = none → ∀ H' : Hp, Ex H H' → Q .non H') ∧ (∀ e, pairOf z = some e → ∀ (H' : Hp) (l : Addr), Ex H H' → H l = none → H' l = some (.tup [.str e.1, .int e.2]) → Q (.ref l) H')
theorem ok_pairOf {f : Addr} {fd : FuncData} (F : Fun K "pair_of" "pair_of" sPairOf f fd) (GN : Gf P w K mg base CX0 1 "number_of" pNumberOf spNumOf) (GI : Gf P w K mg base CX0 1 "is_name" pIsName (spName K)) (zl : mg "len" = none) {tN : Tok} (mN' : mg "MOST_NUMBER" = some (.int mostN tN)) : FnOk P w K mg base CX0 2 f fd pPairOf spPairOf := by
  obtain ⟨fN, fdN, gN, bN, mN, kN⟩ := GN.ex
  obtain ⟨fI, fdI, gI, bI, mI, kI⟩ := GI.ex
  refine F.ok cPairOf (fun vs H Q E h => ?_) (fun cdv A outer s H vs Q E hr h => ?_)
  · obtain ⟨z, rfl, _⟩ := h
    rfl
  · obtain ⟨z, rfl, hz, q1, q2⟩ := h
    refine ⟨_, pss_cons (ps_set (i := 1) cPairOf.nd rfl (Or.inl rfl) (pe_split (pv 0) pe_str))
      (pss_cons (ps_if (PW.pt (pw_or (pt_cmpR op_ne (pe_callB call_len_seq (by rfl) zl PySem.boot_len (pa_cons (pv 1) pa_nil)) pe_int (nomark _)) (pw_or1 (pt_not (pt_val (pe_call gI hr rfl mI kI bI .nil pass0 (pa_cons (pe_ix ix_list (pv 1) pe_int (fun _ _ => rfl)) pa_nil))))))) (pss_one (ps_ret pe_non)) pss_nil)
      (pss_cons (ps_set (i := 2) cPairOf.nd rfl (Or.inl rfl) (pe_call gN hr rfl mN kN bN .nil pass0 (pa_cons (pe_ix ix_list (pv 1) pe_int (fun _ _ => rfl)) (pa_cons pe_int (pa_cons (pe_gint mN' (by rfl)) pa_nil)))))
      (pss_cons (ps_if (pt_cmp (pc_isN (pv 2))) (pss_one (ps_ret pe_non)) pss_nil)
      (pss_one (ps_ret (pe_tup (pa_cons (pe_ix ix_list (pv 1) pe_int (fun _ _ => rfl)) (pa_cons (pv 2) pa_nil)))))))), ?_⟩
    have two : 2 ≤ sizeLine := by rw [sizeLine_eq]; decide
    refine sq_any (fun σ' H' => ∃ lw : Addr, σ' = [some (.str z), some (.ref lw), none] ∧ Ex H H' ∧ H' lw = some (.lst ((Txt.split z " ").map V.str))) (fun D' hD => ⟨_, rfl, ⟨_, rfl⟩, z, " ", rfl, rfl, (by decide +kernel), hz, fun lw hlw => hD _ _ ⟨lw, rfl, Evl.Ex.new hlw, upd_same⟩⟩) ?_
    rintro σ' H1 ⟨lw, rfl, ex1, ew⟩
    by_cases h2 : (Txt.split z " ").length = 2
    · obtain ⟨a, b, hws⟩ := two_of h2
      have hle : ∀ p ∈ [a, b], p.length ≤ sizeLine := fun p hp => by
        have := split_le (x := z) (y := " ") (p := p) (by rw [hws]; exact hp)
        omega
      rw [hws] at ew
      have hh : pairOf z = if isName a = true then (numOf b 1 mostN).map fun n => (a, n) else none := by
        unfold pairOf
        rw [hws]
      refine sq_ifB (!isName a) (fun Q' hQ => ?_) (fun ht => ?_) (fun hf => ?_)
      · refine ⟨_, rfl, lw, _, rfl, .inl (SqL.of ew), rfl, _, rfl, iteF ?_⟩
        exact ⟨_, rfl, lw, _, 0, _, rfl, rfl, SqL.of ew, atI_nat (j := 0) rfl, .str a, rfl, thing_str a, fun y e => by cases e; exact hle a (by simp), _, rfl, hQ⟩
      · refine q1 ?_ H1 ex1
        rw [hh, if_neg]
        intro e
        rw [e] at ht
        cases ht
      · have hn : isName a = true := by
          cases e : isName a with
          | true => rfl
          | false => rw [e] at hf; cases hf
        rw [if_pos hn] at hh
        refine sq_any (fun σ' H' => σ' = [some (.str z), some (.ref lw), some (ovV (numOf b 1 mostN))] ∧ H1 = H') (fun D' hD => ⟨_, rfl, lw, _, 1, _, rfl, rfl, SqL.of ew, atI_nat (j := 1) rfl, b, 1, mostN, rfl, hle b (by simp), hD _ _ ⟨rfl, rfl⟩⟩) ?_
        rintro σ' _ ⟨rfl, rfl⟩
        cases hb : numOf b 1 mostN with
        | none =>
          rw [hb] at hh
          exact ⟨_, rfl, _, rfl, iteT (q1 hh H1 ex1)⟩
        | some n =>
          rw [hb] at hh
          refine ⟨_, rfl, _, rfl, iteF ?_⟩
          exact ⟨_, rfl, lw, _, 0, _, rfl, rfl, SqL.of ew, atI_nat (j := 0) rfl, _, rfl, two, fun l hl => q2 (a, n) hh _ l (ex1.trans (Evl.Ex.new hl)) (none_ex ex1 hl) upd_same⟩
    · refine ⟨_, rfl, lw, _, rfl, .inl (SqL.of ew), rfl, _, rfl, ?_⟩
      rw [List.length_map, decide_eq_false (show ¬ V.int ((Txt.split z " ").length : Int) = V.int 2 from fun e => h2 (by have := V.int.inj e; omega))]
      exact iteT (q1 (pair_not2 h2) H1 ex1)
end
/-! ### texts: a good one read -/
section
variable {P : Program} {w : World} {K : PySem.W.Frag} {mg : Str → Option Value} {base : Heap} {C CN CW CD : Addr}
def spReadG (C : Addr) : Sp := fun vs H Q _ => ∃ (r : Int) (c : CM) (g t : Int), vs = [.str (textT r c g t)] ∧ Good r c g t ∧ ∀ (H' : Hp) (p d : Addr), Ex H H' → H p = none → H d = none → DeskAt C H' p d r c g t → Q (.ref p) H'
theorem put_take {c : CM} (nd : (keysC c).Nodup) {i : Nat} (hi : i < c.length) : putC (c.take i) c[i].1 c[i].2 = c.take (i + 1) := by
  have tk : c.take (i + 1) = c.take i ++ [c[i]] := List.take_succ_eq_append_getElem hi
  have hn : ¬ hasC (c.take i) c[i].1 = true := fun h => by
    have h1 := (has_iff _ _).mp h
    have h2 : (keysC (c.take (i + 1))).Nodup := by
      unfold keysC
      rw [List.map_take]
      exact (List.take_sublist _ _).nodup nd
    rw [tk] at h2
    unfold keysC at h2 h1
    rw [List.map_append, List.nodup_append] at h2
    exact h2.2.2 _ h1 _ (List.mem_singleton.mpr rfl) rfl
  unfold putC
  rw [if_neg hn, tk]
theorem empty_slt {n : Str} (h : isName n = true) : slt "" n = true := by
  have h1 := ((isName_iff n).mp h).1
  have e : cs ("" : Str) = [] := by decide +kernel
  unfold slt
  refine decide_eq_true ?_
  show cs "" < cs n
  rw [e]
  cases hc : cs n with
  | nil => rw [hc] at h1; exact absurd h1 (by decide)
  | cons a l => exact List.nil_lt_cons a l
theorem rows_len (r : Int) (c : CM) (g t : Int) : (rowsT r c g t ++ [("" : Str)]).length = c.length + 2 := by
  unfold rowsT
  rw [List.length_append, List.length_cons, List.length_map]
  rfl
theorem rows_at {r : Int} {c : CM} {g t : Int} {i : Nat} (hi : i < c.length) : ((rowsT r c g t ++ [("" : Str)]).map V.str)[i + 1]? = some (V.str (rowT c[i])) := by
  rw [List.getElem?_map, List.getElem?_append_left (by unfold rowsT; rw [List.length_cons, List.length_map]; omega)]
  unfold rowsT
  rw [List.getElem?_cons_succ, List.getElem?_map, List.getElem?_eq_getElem hi]
  rfl
theorem rows_end {r : Int} {c : CM} {g t : Int} : ((rowsT r c g t ++ [("" : Str)]).map V.str)[c.length + 1]? = some (V.str "") := by
  rw [List.getElem?_map]
  have h : (rowsT r c g t).length = c.length + 1 := by unfold rowsT; rw [List.length_cons, List.length_map]
  rw [List.getElem?_append_right (by omega), h, Nat.sub_self]
  rfl
theorem ok_readG {f : Addr} {fd : FuncData} (F : Fun K "read" "read" sRead f fd) (T : DkT K mg C CN CW CD) (GH : Gf P w K mg base CX0 2 "head_of" pHeadOf spHeadOf) (GP : Gf P w K mg base CX0 2 "pair_of" pPairOf spPairOf) (GO : Gf P w K mg base CX0 5 "desk_of" pDeskOf (spDeskOf C))
    (zr : mg "range" = none) (zs : mg "sum" = none) : FnOk P w K mg base CX0 6 f fd pRead (spReadG C) := by
  obtain ⟨fH, fdH, gH, bH, mH, kH⟩ := GH.ex
  obtain ⟨fP, fdP, gP, bP, mP, kP⟩ := GP.ex
  obtain ⟨fO, fdO, gO, bO, mO, kO⟩ := GO.ex
  refine F.ok cRead (fun vs H Q E h => ?_) (fun cdv A outer s H vs Q E hr h => ?_)
  · obtain ⟨r, c, g, t, rfl, _⟩ := h
    rfl
  · obtain ⟨r, c, g, t, rfl, G, q⟩ := h
    have hu := hu_of hr
    refine ⟨_, pss_cons (ps_set (i := 1) cRead.nd rfl (Or.inl rfl) (pe_split (pv 0) pe_str))
      (pss_cons (ps_if (pt_cmpR op_eq (pv 0) pe_str (nomark _)) (pss_one ps_dead) pss_nil)
      (pss_cons (ps_set (i := 2) cRead.nd rfl (Or.inl rfl) (pe_call gH (hr.mono (by decide)) rfl mH kH bH .nil pass0 (pa_cons (pe_ix ix_list (pv 1) pe_int (fun _ _ => rfl)) pa_nil)))
      (pss_cons (ps_if (pt_cmp (pc_isN (pv 2))) (pss_one ps_dead) pss_nil)
      (pss_cons (ps_set (i := 3) cRead.nd rfl (Or.inl rfl) pe_dnewK)
      (pss_cons (ps_set (i := 4) cRead.nd rfl (Or.inl rfl) pe_str)
      (pss_cons (ps_for PassesOwn.never rfl (pi_range2 rfl zr (pa_cons pe_int (pa_cons (pe_callB call_len_seq (by rfl) T.len PySem.boot_len (pa_cons (pv 1) pa_nil)) pa_nil))) (pg_name (i := 5) cRead.nd rfl (Or.inl rfl))
        (pss_cons (ps_if (PW.pt (pw_and (pt_cmpR op_eq (pv 5) (pe_op op_sub (pe_callB call_len_seq (by rfl) T.len PySem.boot_len (pa_cons (pv 1) pa_nil)) pe_int) (nomark _)) (pw_and1 (pt_cmpR op_eq (pe_ix ix_list (pv 1) (pv 5) (fun _ _ => rfl)) pe_str (nomark _))))) (pss_one ps_continue) pss_nil)
        (pss_cons (ps_set (i := 6) cRead.nd rfl (Or.inl rfl) (pe_call gP (hr.mono (by decide)) rfl mP kP bP .nil pass0 (pa_cons (pe_ix ix_list (pv 1) (pv 5) (fun _ _ => rfl)) pa_nil)))
        (pss_cons (ps_if (PW.pt (pw_or (pt_cmp (pc_isN (pv 6))) (pw_or (pt_cmpR op_le_str (pe_ix ix_tup (pv 6) pe_int (fun _ _ => rfl)) (pv 4) (nomark _)) (pw_or1 (pt_cmpR op_eq (pe_callB call_lenD (by rfl) T.len PySem.boot_len (pa_cons (pv 3) pa_nil)) (pe_ix ix_list (pv 2) pe_int (fun _ _ => rfl)) (nomark _)))))) (pss_one ps_dead) pss_nil)
        (pss_cons (ps_dput hu (pv 3) (pe_ix ix_tup (pv 6) pe_int (fun _ _ => rfl)) (pe_ix ix_tup (pv 6) pe_int (fun _ _ => rfl)) rfl)
        (pss_one (ps_set (i := 4) cRead.nd rfl (Or.inl rfl) (pe_ix ix_tup (pv 6) pe_int (fun _ _ => rfl)))))))))
      (pss_cons (ps_if (PW.pt (pw_or (pt_cmpR op_ne (pe_ix ix_list (pv 1) (pe_un un_neg pe_int) (fun _ _ => rfl)) pe_str (nomark _))
          (pw_or1 (pt_cmpR op_gt (pe_op op_add (pe_callB (cr_sumV rfl) (by rfl) zs boot_sum (pa_cons (pe_bm0 PySem.F.plainAttrs_dict PySem.F.slot_dict_values PySem.F.type_dict_values mt_vals (pv 3)) pa_nil)) (pe_op op_mul (pe_op op_add (pe_ix ix_list (pv 2) pe_int (fun _ _ => rfl)) pe_int) (pe_ix ix_list (pv 2) pe_int (fun _ _ => rfl))))
            (pe_ix ix_list (pv 2) pe_int (fun _ _ => rfl)) (nomark _))))) (pss_one ps_dead) pss_nil)
      (pss_one (ps_ret (pe_call gO hr rfl mO kO bO .nil pass0 (pa_cons (pe_ix ix_list (pv 2) pe_int (fun _ _ => rfl)) (pa_cons (pv 3) (pa_cons (pe_ix ix_list (pv 2) pe_int (fun _ _ => rfl)) (pa_cons (pe_ix ix_list (pv 2) pe_int (fun _ _ => rfl)) pa_nil)))))))))))))), ?_⟩
    have asc := asc_sort G.asc
    have nd := asc.2
    have r50 := G.r2
    have cl50 : c.length ≤ 50 := by have := G.ln; omega
    have rm : r ≤ mostN := by have h : (50 : Int) ≤ mostN := by decide
                              omega
    have tl := text_len (by have := G.r1; omega) rm G.g0 G.g1 G.t0 G.t1 (r := r) c fun e he => ⟨G.nm e he, by have := G.lo e he; omega, G.hi e he⟩
    have szl : ∀ n : Nat, n ≤ 100000 → n ≤ sizeLine := fun n h => by rw [sizeLine_eq]; omega
    have rl := rows_len r c g t
    have r0 : ((rowsT r c g t ++ [("" : Str)]).map V.str)[0]? = some (V.str (headT r g t)) := rfl
    have rend : (rowsT r c g t ++ [("" : Str)]).map V.str = (rowsT r c g t).map V.str ++ [V.str ""] := by rw [List.map_append]; rfl
    have z0 : ¬ textT r c g t = "" := fun e => by
      have h := congrArg cs e
      rw [text_join, cs_app] at h
      have h1 : cs ("\n" : Str) = [10] := by decide +kernel
      have h2 : cs ("" : Str) = [] := by decide +kernel
      rw [h1, h2] at h
      have := congrArg List.length h
      rw [List.length_append] at this
      simp at this
    generalize hz : textT r c g t = z at tl z0
    have sp : Txt.split z "\n" = rowsT r c g t ++ [("" : Str)] := by rw [← hz]; exact split_text G
    refine sq_any (fun σ' H' => ∃ lr : Addr, σ' = [some (.str z), some (.ref lr), none, none, none, none, none] ∧ Ex H H' ∧ H' lr = some (.lst ((rowsT r c g t ++ [("" : Str)]).map V.str))) (fun D' hD => ⟨_, rfl, ⟨_, rfl⟩, z, "\n", rfl, rfl, (by decide +kernel), szl _ (by omega), fun lr hlr => hD _ _ ⟨lr, rfl, Evl.Ex.new hlr, by rw [upd_same, sp]⟩⟩) ?_
    rintro σ' H1 ⟨lr, rfl, ex1, er⟩
    refine sq_if (fun H' => H1 = H') (fun Q' hQ => ⟨_, rfl, rfl, _, rfl, ?_⟩) ?_
    · rw [decide_eq_false (show ¬ V.str z = V.str "" from fun e => z0 (V.str.inj e))]
      exact hQ _ rfl
    rintro _ rfl
    have hol := head_of_text G.r1 G.r2 G.g0 G.g1 G.t0 G.t1
    have hlen := head_len (by have := G.r1; omega) rm G.g0 G.g1 G.t0 G.t1 (r := r)
    refine sq_any (fun σ' H' => ∃ hl : Addr, σ' = [some (.str z), some (.ref lr), some (.ref hl), none, none, none, none] ∧ Ex H1 H' ∧ H' hl = some (.lst [.int r, .int g, .int t])) (fun D' hD => ?_) ?_
    · refine ⟨_, rfl, lr, _, 0, _, rfl, rfl, SqL.of er, atI_nat (j := 0) r0, headT r g t, rfl, szl _ (by omega), fun h => ?_, fun r' g' t' h H' l ex hl el => ?_⟩
      · rw [hol] at h
        cases h
      · rw [hol] at h
        cases h
        exact hD _ _ ⟨l, rfl, ex, el⟩
    rintro σ' H2 ⟨hl, rfl, ex2, ehl⟩
    refine sq_if (fun H' => H2 = H') (fun Q' hQ => ⟨_, rfl, _, rfl, hQ _ rfl⟩) ?_
    rintro _ rfl
    refine sq_any (fun σ' H' => ∃ d : Addr, σ' = [some (.str z), some (.ref lr), some (.ref hl), some (.ref d), none, none, none] ∧ H2 d = none ∧ Ex H2 H' ∧ H' d = some (.dK [])) (fun D' hD d hd => hD _ _ ⟨d, rfl, hd, Evl.Ex.new hd, upd_same⟩) ?_
    rintro σ' H3 ⟨d, rfl, nd2, ex3, ed⟩
    refine sq_any (fun σ' H' => σ' = [some (.str z), some (.ref lr), some (.ref hl), some (.ref d), some (.str ""), none, none] ∧ H3 = H') (fun D' hD => hD _ _ ⟨rfl, rfl⟩) ?_
    rintro σ' _ ⟨rfl, rfl⟩
    have er2 := ex2 _ _ er
    -- the rows
    refine sq_any (fun σ' H' => ∃ v4 v5 v6 : Option V, σ' = [some (.str z), some (.ref lr), some (.ref hl), some (.ref d), v4, v5, v6] ∧ Ex H2 H' ∧ H' d = some (.dK (kvc c))) (fun D' hD => ?_) ?_
    · refine ⟨_, rfl, lr, _, rfl, .inl (SqL.of (ex3 _ _ er2)), 1, _, rfl, ⟨by decide, by decide, ?_, ?_⟩, ?_⟩
      · rw [List.length_map, rl]
        omega
      · rw [List.length_map, rl]
        omega
      rw [List.length_map, rl, show (((c.length + 2 : Nat) : Int) - 1).toNat = c.length + 1 by omega]
      refine for_range (lo := 1) (n := c.length + 1) (fun i σ H' => ∃ (last : Str) (v5 v6 : Option V), σ = [some (.str z), some (.ref lr), some (.ref hl), some (.ref d), some (.str last), v5, v6] ∧ Ex H2 H' ∧ H' d = some (.dK (kvc (c.take i))) ∧ (∀ hi : i < c.length, slt last c[i].1 = true))
        ⟨"", _, _, rfl, ex3, ed, fun hi => empty_slt (G.nm _ (List.getElem_mem _))⟩ ?_ ?_
      · rintro i σ H4 hi ⟨last, v5, v6, rfl, ex4, ed4, sl⟩
        have er4 := ex4 _ _ er2
        have eh4 := ex4 _ _ ehl
        have eat : V.int (1 + (i : Int)) = V.int ((i + 1 : Nat) : Int) := congrArg V.int (by omega)
        by_cases hc : i < c.length
        · have me := List.getElem_mem hc
          refine sq_if (fun H' => H4 = H') (fun Q' hQ => ?_) ?_
          · refine ⟨_, rfl, _, rfl, lr, _, rfl, .inl (SqL.of er4), _, _, rfl, rfl, rfl, _, rfl, ?_⟩
            rw [List.length_map, rl, decide_eq_false (show ¬ V.int (1 + (i : Int)) = V.int (((c.length + 2 : Nat) : Int) - 1) from fun e => by have := V.int.inj e; omega)]
            exact hQ _ rfl
          rintro _ rfl
          have rlen := row_len (G.nm _ me) (by have := G.lo _ me; omega) (G.hi _ me)
          have pr := pair_of_row (G.nm _ me) (G.lo _ me) (G.hi _ me)
          refine sq_any (fun σ' H' => ∃ tp : Addr, σ' = [some (.str z), some (.ref lr), some (.ref hl), some (.ref d), some (.str last), some (.int (1 + (i : Int))), some (.ref tp)] ∧ Ex H4 H' ∧ H' tp = some (.tup [.str c[i].1, .int c[i].2])) (fun D2 hD2 => ?_) ?_
          · refine ⟨_, rfl, _, rfl, lr, _, _, _, rfl, eat, SqL.of er4, atI_nat (rows_at hc), rowT c[i], rfl, szl _ (by omega), fun h => ?_, fun e h H' l ex hl el => ?_⟩
            · rw [pr] at h
              cases h
            · rw [pr] at h
              cases h
              exact hD2 _ _ ⟨l, rfl, ex, el⟩
          rintro σ' H5 ⟨tp, rfl, ex5, etp⟩
          have ed5 := ex5 _ _ ed4
          have eh5 := ex5 _ _ eh4
          have hln : (c.take i).length = i := by rw [List.length_take]; omega
          refine sq_if (fun H' => H5 = H') (fun Q' hQ => ?_) ?_
          · refine ⟨_, rfl, _, rfl, iteF ?_⟩
            refine ⟨_, rfl, tp, _, 0, _, rfl, rfl, SqT.of etp, atI_nat (j := 0) rfl, _, rfl, _, _, rfl, rfl, _, rfl, ?_⟩
            rw [slt_le, sl hc]
            refine iteF ?_
            refine ⟨_, rfl, d, _, rfl, ed5, _, rfl, hl, _, 0, _, rfl, rfl, SqL.of eh5, atI_nat (j := 0) rfl, rfl, _, rfl, ?_⟩
            rw [len_kvc, hln, decide_eq_false (show ¬ V.int (i : Int) = V.int r from fun e => by have := V.int.inj e; have := G.ln; omega)]
            exact hQ _ rfl
          rintro _ rfl
          refine ⟨_, rfl, tp, _, 1, _, rfl, rfl, SqT.of etp, atI_nat (j := 1) rfl, _, rfl, _, rfl, tp, _, 0, _, rfl, rfl, SqT.of etp, atI_nat (j := 0) rfl, d, _, rfl, DPut.of ed5 _ _ (small (by omega)), ?_⟩
          have dtp : d ≠ tp := fun e => by rw [← e, ed5] at etp; cases etp
          refine ⟨_, rfl, tp, _, 0, _, rfl, rfl, SqT.of (by rw [upd_ne dtp.symm]; exact etp), atI_nat (j := 0) rfl, c[i].1, _, _, rfl, fun b o hb => ?_, ?_, fun hi2 => ?_⟩
          · rw [upd_ne (ne_of_none hb nd2)]
            exact ex5 _ _ (ex4 _ _ hb)
          · rw [upd_same, put_take nd hc]
          · exact List.pairwise_iff_getElem.mp G.asc i (i + 1) hc hi2 (by omega)
        · have hic : i = c.length := by omega
          subst hic
          refine sq_ifB true (fun Q' hQ => ?_) (fun _ => ?_) (fun h => nomatch h)
          · refine ⟨_, rfl, _, rfl, lr, _, rfl, .inl (SqL.of er4), _, _, rfl, rfl, rfl, _, rfl, ?_⟩
            rw [List.length_map, rl, decide_eq_true (show V.int (1 + (c.length : Int)) = V.int (((c.length + 2 : Nat) : Int) - 1) from congrArg V.int (by omega))]
            refine ⟨_, rfl, _, rfl, lr, _, _, _, rfl, eat, SqL.of er4, atI_nat rows_end, rfl, _, rfl, ?_⟩
            rw [decide_eq_true rfl]
            exact hQ
          · refine ⟨last, _, _, rfl, ex4, ?_, fun hi2 => absurd hi2 (by omega)⟩
            rw [ed4, List.take_of_length_le (Nat.le_refl _), List.take_of_length_le (by omega)]
      · rintro σ H4 ⟨last, v5, v6, rfl, ex4, ed4, _⟩
        rw [List.take_of_length_le (by omega)] at ed4
        exact hD _ _ ⟨_, _, _, rfl, ex4, ed4⟩
    rintro σ' H4 ⟨v4, v5, v6, rfl, ex4, ed4⟩
    have er4 := ex4 _ _ er2
    have eh4 := ex4 _ _ ehl
    -- they go together
    refine sq_if (fun H' => Ex H4 H') (fun Q' hQ => ?_) ?_
    · refine ⟨_, rfl, 1, rfl, lr, _, _, _, rfl, rfl, SqL.of er4, by rw [rend]; exact atI_last _ _, rfl, _, rfl, ?_⟩
      rw [decide_eq_true rfl]
      refine iteF ?_
      refine ⟨_, rfl, (.inr (.inr (.inl ⟨rfl, .inl ⟨_, ed4⟩⟩))), d, kvc c, rfl, rfl, ed4, fun v hv => ⟨v, d, kvc c, valsC c, rfl, upd_same, (by rw [upd_ne (ne_of_none ed4 hv)]; exact ed4), snd_kvc _, ?_⟩⟩
      have exv := Evl.Ex.new (o := viewV v d) hv
      have ehv := exv _ _ eh4
      refine ⟨_, rfl, hl, _, 0, _, rfl, rfl, SqL.of ehv, atI_nat (j := 0) rfl, _, _, rfl, rfl, _, rfl, hl, _, 1, _, rfl, rfl, SqL.of ehv, atI_nat (j := 1) rfl, _, _, rfl, rfl, .inl ⟨by have := G.r1; omega, by omega⟩, _, _, rfl, rfl, _, rfl, hl, _, 2, _, rfl, rfl, SqL.of ehv, atI_nat (j := 2) rfl, _, _, rfl, rfl, _, rfl, ?_⟩
      have sm : (valsC c).sum + (r + 1) * g ≤ t := G.sm
      rw [decide_eq_false (show ¬ t < (valsC c).sum + (r + 1) * g by omega)]
      exact hQ _ exv
    intro H5 ex5
    have eh5 := ex5 _ _ eh4
    have c0 : cutAt r c = 0 := cut_few (by have := G.ln; omega)
    have pc : posC c := fun e he => by have := G.lo e he; omega
    refine ⟨_, rfl, hl, _, 0, _, rfl, rfl, SqL.of eh5, atI_nat (j := 0) rfl, _, rfl, _, rfl, hl, _, 1, _, rfl, rfl, SqL.of eh5, atI_nat (j := 1) rfl, _, rfl, hl, _, 2, _, rfl, rfl, SqL.of eh5, atI_nat (j := 2) rfl, r, d, c, g, t, rfl, G.r1, G.r2, ex5 _ _ ed4, nd, by omega, fun H6 p d' ex6 hp hd D => ?_⟩
    rw [c0, lowered_zero pc, Int.add_zero] at D
    have exA := ((ex1.trans ex2).trans ex4).trans ex5
    exact q H6 p d' (exA.trans ex6) (none_ex exA hp) (none_ex exA hd) D
end
/-! ### all that a desk tells -/
theorem joinL_mem {S : List Nat} {x : Nat} : ∀ {ps : List (List Nat)}, x ∈ TL.joinL S ps → x ∈ S ∨ ∃ p ∈ ps, x ∈ p
  | [], h => nomatch h
  | [p], h => .inr ⟨p, List.mem_singleton.mpr rfl, h⟩
  | p :: q :: r, h => by
    have h : x ∈ p ++ (S ++ TL.joinL S (q :: r)) := h
    rcases List.mem_append.mp h with h | h
    · exact .inr ⟨p, List.mem_cons_self .., h⟩
    · rcases List.mem_append.mp h with h | h
      · exact .inl h
      · rcases joinL_mem h with h | ⟨y, hy, h⟩
        · exact .inl h
        · exact .inr ⟨y, List.mem_cons_of_mem _ hy, h⟩
theorem num_small {i : Int} (h : 0 ≤ i) : ∀ x ∈ cs (numS i), x ≤ 122 := fun x hx => by
  obtain ⟨n, rfl⟩ := nat_of h
  rw [cs_num] at hx
  have := TL.numL_digits n x hx
  omega
theorem name_small {n : Str} (h : isName n = true) : ∀ x ∈ cs n, x ≤ 122 := fun x hx => (((isName_iff n).mp h).2.2 x hx).2
theorem text_small {r : Int} {c : CM} {g t : Int} (hr : 0 ≤ r) (N : Nums r c g t) : ∀ x ∈ cs (textT r c g t), x ≤ 122 := fun x hx => by
  have e1 : cs ("\n" : Str) = [10] := by decide +kernel
  have e2 : cs (" " : Str) = [32] := by decide +kernel
  have e3 : cs ("desk" : Str) = [100, 101, 115, 107] := by decide +kernel
  have e4 : cs ("" : Str) = [] := by decide +kernel
  unfold textT at hx
  rw [cs_join] at hx
  rcases joinL_mem hx with h | ⟨p, hp, h⟩
  · rw [e1] at h
    rw [List.mem_singleton.mp h]
    decide
  · rw [List.map_append] at hp
    rcases List.mem_append.mp hp with hp | hp
    · obtain ⟨y, hy, rfl⟩ := List.mem_map.mp hp
      rcases List.mem_cons.mp hy with rfl | hy
      · unfold headT at h
        rw [cs_join] at h
        rcases joinL_mem h with h | ⟨p, hp, h⟩
        · rw [e2] at h
          rw [List.mem_singleton.mp h]
          decide
        · simp only [List.map_cons, List.map_nil, List.mem_cons, List.not_mem_nil, or_false] at hp
          rcases hp with rfl | rfl | rfl | rfl
          · rw [e3] at h
            simp only [List.mem_cons, List.not_mem_nil, or_false] at h
            omega
          · exact num_small hr x h
          · exact num_small N.g0 x h
          · exact num_small N.t0 x h
      · obtain ⟨e, he, rfl⟩ := List.mem_map.mp hy
        rw [cs_row] at h
        rcases List.mem_append.mp h with h | h
        · exact name_small (N.nm e he) x h
        · rcases List.mem_cons.mp h with h | h
          · omega
          · exact num_small (N.v0 e he) x h
    · rw [List.map_cons, List.map_nil, List.mem_singleton] at hp
      rw [hp, e4] at h
      cases h
def toldD (r : Int) (c : CM) (g t : Int) : PyData := .list [prsD (sortC c), .int g, .int t, .int r, strsD (overS r c g t), strsD (overS r c 0 t), .str (textT r (sortC c) g t)]
theorem over_names {r : Int} {c : CM} {u t : Int} (h : ∀ n ∈ keysC c, isName n = true) : ∀ n ∈ overS r c u t, isName n = true := fun n hn => by
  unfold overS at hn
  exact h n (List.mem_filter.mp ((sortS_perm _).mem_iff.mp hn)).1
theorem shaped_lay {d : PyData} (h : SeqAt.shaped d = true) : PyData.canLay0 d = true ∧ PyData.depth d ≤ 64 := by
  have h : (PyData.canLay0 d && decide (PyData.depth d ≤ 64)) = true := h
  rw [Bool.and_eq_true] at h
  exact ⟨h.1, of_decide_eq_true h.2⟩
theorem depth_prs (c : CM) : PyData.depth (prsD c) ≤ 3 := by
  have h2 : PyData.depthAll (c.map prD2) ≤ 1 := by
    induction c with
    | nil => simp [PyData.depthAll]
    | cons e c ih =>
      simp only [List.map_cons, PyData.depthAll, PyData.depth, prD2]
      omega
  unfold prsD
  simp only [PyData.depth]
  omega
theorem depth_strs (l : List Str) : PyData.depth (strsD l) ≤ 3 := by
  have h2 : PyData.depthAll (l.map .str) ≤ 0 := by
    induction l with
    | nil => simp [PyData.depthAll]
    | cons n l ih =>
      simp only [List.map_cons, PyData.depthAll, PyData.depth]
      omega
  unfold strsD
  simp only [PyData.depth]
  omega
theorem told_shaped {r : Int} {c : CM} {g t : Int} (hr : 0 ≤ r) (N : Nums r (sortC c) g t) (kn : ∀ n ∈ keysC c, isName n = true) : SeqAt.shaped (toldD r c g t) = true := by
  have a1 := shaped_lay (shaped_prs (c := sortC c) fun n hn => kn n ((perm_keys (sortC_perm c)).mem_iff.mp hn))
  have a2 := shaped_lay (shaped_strs (over_names (r := r) (u := g) (t := t) kn))
  have a3 := shaped_lay (shaped_strs (over_names (r := r) (u := 0) (t := t) kn))
  have a4 : PyData.canLay0 (.str (textT r (sortC c) g t)) = true := by
    simp only [PyData.canLay0, PyData.strOk]
    rw [Array.all_eq_true']
    intro x hx
    have := text_small hr N x (Array.mem_def.mp hx)
    exact decide_eq_true (by omega)
  have d1 := depth_prs (sortC c)
  have d2 := depth_strs (overS r c g t)
  have d3 := depth_strs (overS r c 0 t)
  show (PyData.canLay0 (toldD r c g t) && decide (PyData.depth (toldD r c g t) ≤ 64)) = true
  rw [Bool.and_eq_true]
  refine ⟨?_, decide_eq_true ?_⟩
  · unfold toldD
    rw [PyData.canLay0, PyData.canLayAll0, PyData.canLayAll0, PyData.canLayAll0, PyData.canLayAll0, PyData.canLayAll0, PyData.canLayAll0, PyData.canLayAll0, PyData.canLayAll0, a1.1, a2.1, a3.1, a4]
    rfl
  · unfold toldD
    simp only [PyData.depth, PyData.depthAll]
    omega
theorem told_perm {r : Int} {c c' : CM} {g t : Int} (nd : (keysC c).Nodup) (p : c'.Perm c) : toldD r c' g t = toldD r c g t := by
  have nd' := nodup_perm p nd
  have hs : sortC c' = sortC c := sortC_eq nd ((sortC_perm c').trans p) (sortC_asc c')
  have ho : ∀ u, overS r c' u t = overS r c u t := fun u => by
    unfold overS
    have e : ((keysC c').filter fun n => decide (t < (getD0 c' n + u) * (r + 1))) = (keysC c').filter fun n => decide (t < (getD0 c n + u) * (r + 1)) := by
      refine List.filter_congr fun n _ => ?_
      rw [getD0_perm nd p]
    rw [e]
    exact sortS_eq ((sortS_perm _).trans ((perm_keys p).filter _)) (sortS_asc _)
  unfold toldD
  rw [hs, ho g, ho 0]
section
variable {P : Program} {w : World} {K : PySem.W.Frag} {mg : Str → Option Value} {base : Heap} {C CN CW CD : Addr}
def spTold14 (K : PySem.W.Frag) (C : Addr) : Sp := fun vs H Q _ => ∃ (p d : Addr) (r : Int) (c : CM) (g t : Int), vs = [.ref p] ∧ DeskAt C H p d r c g t ∧ Nums r c g t ∧ ∀ (H' : Hp) (l : Addr), Ex H H' → Dp K H' (.ref l) (toldD r c g t) → SeqAt.shaped (toldD r c g t) = true → Q (.ref l) H'
theorem dp_mono {K : PySem.W.Frag} {H H' : Hp} (e : Ex H H') : (∀ (d : PyData) (v : V), Dp K H v d → Dp K H' v d) := by
  intro d v h
  induction h using Dp.rec (motive_2 := fun vs ds _ => DpAll K H' vs ds) with
  | non => exact .non
  | bl b => exact .bl b
  | int i => exact .int i
  | str x => exact .str x
  | lst hs _ ih => exact .lst (sql_ex hs e) ih
  | tup hs _ ih =>
    refine .tup ?_ ih
    rcases hs with (h | ⟨o, h⟩) | h
    · exact .inl (.inl (e _ _ h))
    · exact .inl (.inr ⟨o, e _ _ h⟩)
    · exact .inr h
  | nil => exact .nil
  | cons _ _ h1 h2 => exact .cons h1 h2
theorem ok_told14 {f : Addr} {fd : FuncData} (F : Fun K "_law_told" "_law_told" sLTold f fd) (T : DkT K mg C CN CW CD) (GS : Gm P w K mg base CX0 C 1 "shown" pDShown (spShown C)) (GL : Gm P w K mg base CX0 C 1 "lost" pDLost (spNum C fun _ g _ => g))
    (GW : Gm P w K mg base CX0 C 1 "weight" pDWeight (spNum C fun _ _ t => t)) (GR : Gm P w K mg base CX0 C 1 "drawers" pDDrawers (spNum C fun r _ _ => r)) (GM : Gm P w K mg base CX0 C 4 "maybe" pDMaybe (spOver C fun g => g)) (GY : Gm P w K mg base CX0 C 3 "surely" pDSurely (spOver C fun _ => 0))
    (GT : Gf P w K mg base CX0 2 "written" pWritten (spWritten C)) : FnOk P w K mg base CX0 5 f fd pLTold (spTold14 K C) := by
  obtain ⟨f2, fd2, gSh, bSh, mSh⟩ := GS.ex
  obtain ⟨f3, fd3, gLo, bLo, mLo⟩ := GL.ex
  obtain ⟨f4, fd4, gWe, bWe, mWe⟩ := GW.ex
  obtain ⟨f5, fd5, gDr, bDr, mDr⟩ := GR.ex
  obtain ⟨f6, fd6, gMa, bMa, mMa⟩ := GM.ex
  obtain ⟨f7, fd7, gSu, bSu, mSu⟩ := GY.ex
  obtain ⟨fW, fdW, gW, bW, mW, kpW⟩ := GT.ex
  refine F.ok cLTold (fun vs H Q E h => ?_) (fun cdv A outer s H vs Q E hr h => ?_)
  · obtain ⟨p, d, r, c, g, t, rfl, _⟩ := h
    rfl
  · obtain ⟨p, d, r, c, g, t, rfl, D, N, q⟩ := h
    refine ⟨_, pss_cons (ps_set (i := 1) cLTold.nd rfl (Or.inl rfl) (pe_lst (pa_cons (LiI.pe_listItems rfl (pe_meth0 (pv 0) T.cl mSh gSh (hr.mono (by decide)) bSh .nil pass0) rfl T.lst (by decide +kernel)) (pa_cons (pe_meth0 (pv 0) T.cl mLo gLo (hr.mono (by decide)) bLo .nil pass0)
        (pa_cons (pe_meth0 (pv 0) T.cl mWe gWe (hr.mono (by decide)) bWe .nil pass0) (pa_cons (pe_meth0 (pv 0) T.cl mDr gDr (hr.mono (by decide)) bDr .nil pass0) pa_nil))))))
      (pss_one (ps_ret (pe_op op_cat (pv 1) (pe_lst (pa_cons (pe_meth0 (pv 0) T.cl mMa gMa hr bMa .nil pass0) (pa_cons (pe_meth0 (pv 0) T.cl mSu gSu (hr.mono (by decide)) bSu .nil pass0) (pa_cons (pe_call gW (hr.mono (by decide)) rfl mW kpW bW .nil pass0 (pa_cons (pv 0) pa_nil)) pa_nil))))))), ?_⟩
    rw [← wMeth_eq]
    have kn : ∀ n ∈ keysC c, isName n = true := fun n hn => by
      unfold keysC at hn
      obtain ⟨e, he, rfl⟩ := List.mem_map.mp hn
      exact N.nm e he
    have N' : Nums r (sortC c) g t := by
      have mem : ∀ e ∈ sortC c, e ∈ c := fun e he => (sortC_perm c).mem_iff.mp he
      exact ⟨fun e he => N.nm e (mem e he), fun e he => N.v0 e (mem e he), fun e he => N.v1 e (mem e he), N.g0, N.g1, N.t0, N.t1⟩
    have sh := told_shaped (r := r) (g := g) (t := t) (by have := D.r1; omega) N' kn
    have big : ∀ n : Nat, n ≤ 1000 → n ≤ sizeLine := fun n h => by rw [sizeLine_eq]; omega
    refine sq_any (fun σ' H' => ∃ (l li : Addr) (ts : List Addr), σ' = [some (.ref p), some (.ref l)] ∧ Ex H H' ∧ H' l = some (.lst [.ref li, .int g, .int t, .int r]) ∧ H' li = some (.lst (ts.map V.ref)) ∧ PrsAt H' ts (sortC c)) (fun D' hD => ?_) ?_
    · refine rd_shown rfl D fun H2 x hx ex2 ex' => ?_
      refine ⟨x, kvc (sortC c), rfl, ex', fun H3 l ts ex3 hl hts nlt el prs => ?_⟩
      have ex23 := ex2.trans ex3
      refine rd_num (by decide +kernel) rfl (D.ex ex23) ?_
      refine rd_num (by decide +kernel) rfl (D.ex ex23) ?_
      refine rd_num (by decide +kernel) rfl (D.ex ex23) ?_
      refine ⟨big 4 (by decide), fun l2 hl2 => ?_⟩
      have x2 := Evl.Ex.new (o := .lst [.ref l, .int g, .int t, .int r]) hl2
      exact hD _ _ ⟨l2, l, ts, rfl, ex23.trans x2, upd_same, x2 _ _ el, prs_ex (prs_of prs) x2⟩
    rintro σ' H1 ⟨l, li, ts, rfl, ex1, el, eli, hp⟩
    refine ⟨_, rfl, ?_⟩
    refine rd_over (by decide +kernel) rfl (D.ex ex1) kn fun H2 m hm ex2 em => ?_
    refine rd_over (by decide +kernel) rfl (D.ex (ex1.trans ex2)) kn fun H3 su hsu ex3 esu => ?_
    refine ⟨_, rfl, p, d, r, c, g, t, rfl, D.ex ((ex1.trans ex2).trans ex3), N, fun H4 ex4 => ⟨big 3 (by decide), fun l2 hl2 => ?_⟩⟩
    have x2 := Evl.Ex.new (o := .lst [.ref m, .ref su, .str (textT r (sortC c) g t)]) hl2
    have exA := ((ex2.trans ex3).trans ex4).trans x2
    refine ⟨l, l2, _, _, rfl, rfl, exA _ _ el, upd_same, big _ (by show 7 ≤ 1000; decide), fun l3 hl3 => ?_⟩
    have x3 := Evl.Ex.new (o := .lst ([V.ref li, .int g, .int t, .int r] ++ [.ref m, .ref su, .str (textT r (sortC c) g t)])) hl3
    refine q _ l3 (ex1.trans (exA.trans x3)) (.lst (SqL.of upd_same) ?_) sh
    have exB := exA.trans x3
    exact .cons (dp_prs (exB _ _ eli) (prs_ex hp exB)) (.cons (.int g) (.cons (.int t) (.cons (.int r) (.cons (dp_strs (((ex3.trans ex4).trans (x2.trans x3)) _ _ em)) (.cons (dp_strs ((ex4.trans (x2.trans x3)) _ _ esu)) (.cons (.str _) .nil))))))
end
theorem tel_nums {nm : List Str} {r : Int} {c : CM} {g t : Int} (T : Tel nm r c g t) (ok : ∀ n ∈ nm, isName n = true) (r1 : 1 ≤ r) : Nums r c g t :=
  ⟨fun e he => ok _ (T.nm _ (List.mem_map.mpr ⟨e, he, rfl⟩)), fun e he => by have := T.pc e he; omega, T.v1 r1, T.g0, T.g1 r1, (T.rg r1).2.2, T.t1⟩
abbrev st14 (a pn : Addr) (r : Int) (p1 p2 sa : Addr) (v6 v7 v8 v9 v10 v11 : Option V) : L2.St :=
  [some (.ref a), some (.ref pn), some (.int r), some (.ref p1), some (.ref p2), some (.ref sa), v6, v7, v8, v9, v10, v11]
/-- two desks and a state, alike but for the order -/
structure Two (C : Addr) (H2 H : Hp) (r : Int) (p1 d1 : Addr) (c1 : CM) (p2 d2 sa ds : Addr) (c2 : CM) (g t : Int) : Prop where
  ex : Ex H2 H
  D1 : DeskAt C H p1 d1 r c1 g t
  D2 : DeskAt C H p2 d2 r c2 g t
  S : StAt H sa ds c2 g t
  pm : c1.Perm c2
  n1 : H2 p1 = none
  m1 : H2 d1 = none
  n2 : H2 p2 = none
  m2 : H2 d2 = none
  pp : p1 ≠ p2
  dd : d1 ≠ d2
  e1 : d1 ≠ ds
  e2 : d2 ≠ ds
theorem Two.mono {C : Addr} {H2 H H' : Hp} {r : Int} {p1 d1 : Addr} {c1 : CM} {p2 d2 sa ds : Addr} {c2 : CM} {g t : Int} (W : Two C H2 H r p1 d1 c1 p2 d2 sa ds c2 g t) (e : Ex H H') : Two C H2 H' r p1 d1 c1 p2 d2 sa ds c2 g t :=
  ⟨W.ex.trans e, W.D1.ex e, W.D2.ex e, W.S.ex e, W.pm, W.n1, W.m1, W.n2, W.m2, W.pp, W.dd, W.e1, W.e2⟩
theorem desk_ne {C : Addr} {H : Hp} {p d q e : Addr} {r g t : Int} {c k : CM} (D : DeskAt C H p d r c g t) (h : H e = some (.dK (kvc k))) : p ≠ e := fun z => by
  obtain ⟨dx, hp⟩ := D.ob
  rw [z, h] at hp
  cases hp
section
variable {P : Program} {w : World} {K : PySem.W.Frag} {mg : Str → Option Value} {base : Heap} {C CN CW CD CQ : Addr}
theorem ok_law {f : Addr} {fd : FuncData} (F : Fun K "law" "law" sLaw f fd) (G : LawG P w K mg base C CN CW CD) (GLC : Gf P w K mg base CX0 1 "_law_come" pLCome spLCome) (GLI : Gf P w K mg base CX0 2 "_law_is" pLIs (spLIs C))
    (GT : Gf P w K mg base CX0 5 "_law_told" pLTold (spTold14 K C)) (GW : Gf P w K mg base CX0 2 "written" pWritten (spWritten C)) (GR : Gf P w K mg base CX0 6 "read" pRead (spReadG C)) (GS : Gf P w K mg base (L2.CX P w) 6 "smaller" pSmaller (spSmaller K C CD CQ)) (GP : Gf P w K mg base (L2.CX P w) 6 "poured" pPoured (spPoured C CQ))
    (mE : mg "enumerate" = none) : FnOk P w K mg base CX0 7 f fd pLaw (spLaw K) := by
  have T := G.T
  obtain ⟨fI, fdI, MI, GI, bI⟩ := G.made
  obtain ⟨f1, fd1, gCm, bCm, mCm⟩ := G.come.ex
  obtain ⟨fN, fdN, gN, bN, mN, kpN⟩ := G.names.ex
  obtain ⟨fD, fdD, gD, bD, mD, kpD⟩ := G.drawn.ex
  obtain ⟨fC, fdC, gC, bC, mC, kpC⟩ := G.coming.ex
  obtain ⟨fX, fdX, gX, bX, mX, kpX⟩ := G.mixed.ex
  obtain ⟨fL, fdL, gL, bL, mL, kpL⟩ := GLC.ex
  obtain ⟨fS, fdS, gS, bS, mS, kpS⟩ := GLI.ex
  obtain ⟨fT, fdT, gT, bT, mT, kpT⟩ := GT.ex
  obtain ⟨fW, fdW, gW, bW, mW, kpW⟩ := GW.ex
  obtain ⟨fR, fdR, gR, bR, mR, kpR⟩ := GR.ex
  obtain ⟨fM, fdM, gM, bM, mM, kpM⟩ := GS.ex
  obtain ⟨fO, fdO, gO, bO, mO, kpO⟩ := GP.ex
  refine F.ok cLaw (fun vs H Q E h => ?_) (fun cdv A outer s H vs Q E hr h => ?_)
  · obtain ⟨a, ns, rfl, _⟩ := h
    rfl
  · obtain ⟨a, ns, rfl, hS, hlen, q⟩ := h
    have hu64 := hr.units
    refine ⟨_, pss_cons (ps_set (i := 1) cLaw.nd rfl (Or.inl rfl) (pe_call gN (hr.mono (by decide)) rfl mN kpN bN .nil pass0 (pa_cons (pv 0) pa_nil)))
      (pss_cons (ps_set (i := 2) cLaw.nd rfl (Or.inl rfl) (pe_call gD (hr.mono (by decide)) rfl mD kpD bD .nil pass0 (pa_cons (pv 0) pa_nil)))
      (pss_cons (ps_set (i := 3) cLaw.nd rfl (Or.inl rfl) (pe_make MI GI (hr.mono (by decide)) rfl T.mgC bI .nil passL (pa_cons (pv 2) pa_nil)))
      (pss_cons (ps_set (i := 4) cLaw.nd rfl (Or.inl rfl) (pe_make MI GI (hr.mono (by decide)) rfl T.mgC bI .nil passL (pa_cons (pv 2) pa_nil)))
      (pss_cons (ps_set (i := 5) cLaw.nd rfl (Or.inl rfl) (pe_tup (pa_cons pe_dnewK (pa_cons pe_int (pa_cons pe_int pa_nil)))))
      (pss_cons (ps_for PassesOwn.never rfl (pi_enum rfl mE (pa_cons (pv 0) pa_nil)) (pg_tup rfl (pgs_cons (pg_name (i := 6) cLaw.nd rfl (Or.inl rfl)) (pgs_cons (pg_name (i := 7) cLaw.nd rfl (Or.inl rfl)) pgs_nil)))
        (pss_cons (ps_asg (pe_call gC (hr.mono (by decide)) rfl mC kpC bC .nil pass0 (pa_cons (pv 1) (pa_cons (pv 7) (pa_cons (pv 6) pa_nil)))) (pg_tup rfl (pgs_cons (pg_name (i := 8) cLaw.nd rfl (Or.inl rfl)) (pgs_cons (pg_name (i := 9) cLaw.nd rfl (Or.inl rfl)) pgs_nil))))
        (pss_cons (ps_expr (pe_meth (pv 3) T.cl mCm gCm (hr.mono (by decide)) bCm .nil passL (pa_cons (pv 8) (pa_cons (pv 9) pa_nil))))
        (pss_cons (ps_expr (pe_meth (pv 4) T.cl mCm gCm (hr.mono (by decide)) bCm .nil passL (pa_cons (pv 8) (pa_cons (pv 9) pa_nil))))
        (pss_cons (ps_set (i := 5) cLaw.nd rfl (Or.inl rfl) (pe_call gL (hr.mono (by decide)) rfl mL kpL bL .nil pass0 (pa_cons (pv 5) (pa_cons (pv 2) (pa_cons (pv 8) (pa_cons (pv 9) pa_nil))))))
        (pss_cons (ps_set (i := 10) cLaw.nd rfl (Or.inl rfl) (pe_call gX (hr.mono (by decide)) rfl mX kpX bX .nil pass0 (pa_cons (pv 7) (pa_cons (pe_op op_add (pv 6) pe_int) pa_nil))))
        (pss_cons (ps_if (pt_cmpR op_eq (pe_op op_mod (pv 10) pe_int) pe_int (nomark _)) (pss_one (ps_set (i := 3) cLaw.nd rfl (Or.inl rfl) (pe_call gR hr rfl mR kpR bR .nil pass0 (pa_cons (pe_call gW (hr.mono (by decide)) rfl mW kpW bW .nil pass0 (pa_cons (pv 3) pa_nil)) pa_nil)))) pss_nil)
        (pss_cons (ps_if (pt_cmpR op_eq (pe_op op_mod (pv 10) pe_int) pe_int (nomark _))
          (pss_cons (ps_set (i := 11) cLaw.nd rfl (Or.inl rfl) (pe_op op_add pe_int (pe_op op_mod (pe_op op_fdiv (pv 10) pe_int) (pv 2))))
          (pss_cons (ps_if (pt_cmpR (op_neD hu64) (pe_call gT (hr.mono (by decide)) rfl mT kpT bT .nil pass0 (pa_cons (pe_call gM hr rfl mM kpM bM .nil passL (pa_cons (pv 3) (pa_cons (pv 11) pa_nil))) pa_nil)) (pe_call gT (hr.mono (by decide)) rfl mT kpT bT .nil pass0 (pa_cons (pe_call gM hr rfl mM kpM bM .nil passL (pa_cons (pv 4) (pa_cons (pv 11) pa_nil))) pa_nil)) (nomark _)) (pss_one (ps_ret pe_bl)) pss_nil)
          (pss_one (ps_if (pt_cmpR (op_neD hu64) (pe_call gT (hr.mono (by decide)) rfl mT kpT bT .nil pass0 (pa_cons (pe_call gO hr rfl mO kpO bO .nil passL (pa_cons (pv 3) (pa_cons (pv 4) pa_nil))) pa_nil)) (pe_call gT (hr.mono (by decide)) rfl mT kpT bT .nil pass0 (pa_cons (pe_call gO hr rfl mO kpO bO .nil passL (pa_cons (pv 4) (pa_cons (pv 3) pa_nil))) pa_nil)) (nomark _)) (pss_one (ps_ret pe_bl)) pss_nil))))
          pss_nil)
        (pss_one (ps_if (PW.pt (pw_or (pt_cmpR (op_neD hu64) (pe_call gT (hr.mono (by decide)) rfl mT kpT bT .nil pass0 (pa_cons (pv 3) pa_nil)) (pe_call gT (hr.mono (by decide)) rfl mT kpT bT .nil pass0 (pa_cons (pv 4) pa_nil)) (nomark _))
            (pw_or1 (pt_not (pt_val (pe_call gS (hr.mono (by decide)) rfl mS kpS bS .nil pass0 (pa_cons (pv 3) (pa_cons (pv 5) (pa_cons (pv 2) pa_nil))))))))) (pss_one (ps_ret pe_bl)) pss_nil))))))))))
      (pss_one (ps_ret (pe_cmpR (op_eqD hu64) (pe_call gT (hr.mono (by decide)) rfl mT kpT bT .nil pass0 (pa_cons (pe_call gR hr rfl mR kpR bR .nil pass0 (pa_cons (pe_call gW (hr.mono (by decide)) rfl mW kpW bW .nil pass0 (pa_cons (pv 3) pa_nil)) pa_nil)) pa_nil)) (pe_call gT (hr.mono (by decide)) rfl mT kpT bT .nil pass0 (pa_cons (pv 4) pa_nil)) (nomark _))))))))), ?_⟩
    rw [← wMeth_eq, ← wMake_eq]
    have big : ∀ n : Nat, n ≤ 1000 → n ≤ sizeLine := fun n h => by rw [sizeLine_eq]; omega
    have mod0 : ∀ (x b : Int), 0 < b → 0 ≤ x % b ∧ x % b < b := fun x b h => ⟨Int.emod_nonneg x (by omega), Int.emod_lt_of_pos x h⟩
    refine sq_any (fun σ' H' => ∃ (nm : List Str) (pn : Addr), σ' = [some (.ref a), some (.ref pn), none, none, none, none, none, none, none, none, none, none] ∧ nm.length = 14 ∧ NamesOk nm ∧ Ex H H' ∧ H' pn = some (.lst (nm.map V.str)))
      (fun D' hD => ⟨_, rfl, a, ns, rfl, hS, fun nm pn H1 hnl hnm hpn ex1 e1 => hD _ _ ⟨nm, pn, rfl, hnl, hnm, ex1, e1⟩⟩) ?_
    rintro σ' H1 ⟨nm, pn, rfl, hnl, hnm, ex1, e1⟩
    refine sq_any (fun σ' H' => ∃ r : Int, σ' = [some (.ref a), some (.ref pn), some (.int r), none, none, none, none, none, none, none, none, none] ∧ 1 ≤ r ∧ r ≤ 50 ∧ Ex H1 H')
      (fun D' hD => ⟨_, rfl, a, ns, rfl, sql_ex hS ex1, fun r H2 r1 r2 ex2 => hD _ _ ⟨r, rfl, r1, r2, ex2⟩⟩) ?_
    rintro σ' H2 ⟨r, rfl, r1, r2, ex2⟩
    have e2 : H2 pn = some (.lst (nm.map V.str)) := ex2 _ _ e1
    have hS2 : SqL K H2 a (ns.map V.int) := sql_ex hS (ex1.trans ex2)
    have okn : ∀ n ∈ nm, isName n = true := fun n hn => hnm.ok n hn
    refine sq_any (fun σ' H' => ∃ p d : Addr, σ' = [some (.ref a), some (.ref pn), some (.int r), some (.ref p), none, none, none, none, none, none, none, none] ∧ H2 p = none ∧ H2 d = none ∧ Ex H2 H' ∧ DeskAt C H' p d r [] 0 0)
      (fun D' hD => rd_new (fun Q' h' => ⟨_, rfl, h'⟩) r1 r2 fun p d0 H3 np nd0 npd ex3 D0 => hD _ _ ⟨p, d0, rfl, np, nd0, ex3, D0⟩) ?_
    rintro σ' H3 ⟨p1, d1, rfl, n1, m1, ex3, D1⟩
    refine sq_any (fun σ' H' => ∃ p d : Addr, σ' = [some (.ref a), some (.ref pn), some (.int r), some (.ref p1), some (.ref p), none, none, none, none, none, none, none] ∧ H3 p = none ∧ H3 d = none ∧ Ex H3 H' ∧ DeskAt C H' p d r [] 0 0)
      (fun D' hD => rd_new (fun Q' h' => ⟨_, rfl, h'⟩) r1 r2 fun p d0 H3 np nd0 npd ex3 D0 => hD _ _ ⟨p, d0, rfl, np, nd0, ex3, D0⟩) ?_
    rintro σ' H4 ⟨p2, d2, rfl, n2, m2, ex4, D2⟩
    refine sq_any (fun σ' H' => ∃ sa ds : Addr, σ' = st14 a pn r p1 p2 sa none none none none none none ∧ H4 ds = none ∧ Ex H4 H' ∧ StAt H' sa ds [] 0 0)
      (fun D' hD d2 hd2 => ⟨big 3 (by decide), fun sa hsa => hD _ _ ⟨sa, d2, rfl, hd2, (Evl.Ex.new hd2).trans (Evl.Ex.new hsa), upd_same, by rw [upd_ne (ne_of_none upd_same hsa)]; exact upd_same⟩⟩) ?_
    rintro σ' H5 ⟨sa, ds, rfl, hds, ex5, S5⟩
    have W5 : Two C H2 H5 r p1 d1 [] p2 d2 sa ds [] 0 0 := by
      obtain ⟨dx, hp1⟩ := D1.ob
      exact ⟨(ex3.trans ex4).trans ex5, (D1.ex ex4).ex ex5, D2.ex ex5, S5, List.Perm.refl _, n1, m1, none_ex ex3 n2, none_ex ex3 m2, ne_of_none hp1 n2, ne_of_none D1.dc m2, ne_of_none (ex4 _ _ D1.dc) hds, ne_of_none D2.dc hds⟩
    have tell : ∀ {pl : CM}, okX nm pl → pl.length ≤ 63 → Tel nm r (runC r pl).1 (runC r pl).2.1 (runC r pl).2.2 ∧ (runC r pl).2.2 ≤ 63 * great := fun {pl} h hl => by
      refine ⟨run_tel r1 hl h, ?_⟩
      rw [run_tot]
      have h2 : sumC pl ≤ pl.length * great := sum_le_len fun e he => (of_decide_eq_true (h e he).2).2
      have h3 : (pl.length : Int) * great ≤ 63 * great := Int.mul_le_mul_of_nonneg_right (by omega) (by decide)
      omega
    have g126 : 126 * great ≤ mostN := by decide
    have e63 : 63 * great + 63 * great = 126 * great := by decide
    refine sq_any (fun σ H' => ∃ (p1 d1 : Addr) (c1 : CM) (p2 d2 sa ds : Addr) (pl : CM) (v6 v7 v8 v9 v10 v11 : Option V), σ = st14 a pn r p1 p2 sa v6 v7 v8 v9 v10 v11 ∧ Two C H2 H' r p1 d1 c1 p2 d2 sa ds (runC r pl).1 (runC r pl).2.1 (runC r pl).2.2 ∧ okX nm pl ∧ pl.length ≤ 63) (fun D' hD => ?_) ?_
    · refine ⟨_, rfl, a, ns.map V.int, rfl, sql_ex hS2 W5.ex, for_it (n := ns.length) (fun i σ H' => ∃ (p1 d1 : Addr) (c1 : CM) (p2 d2 sa ds : Addr) (pl : CM) (v6 v7 v8 v9 v10 v11 : Option V), σ = st14 a pn r p1 p2 sa v6 v7 v8 v9 v10 v11 ∧ Two C H2 H' r p1 d1 c1 p2 d2 sa ds (runC r pl).1 (runC r pl).2.1 (runC r pl).2.2 ∧ okX nm pl ∧ pl.length = i)
        ⟨p1, d1, [], p2, d2, sa, ds, [], _, _, _, _, _, _, rfl, W5, (fun _ h => nomatch h), rfl⟩ ?_ ?_ ?_ ?_⟩
      · rintro i σ H' hi ⟨p1, d1, c1, p2, d2, sa, ds, pl, v6, v7, v8, v9, v10, v11, rfl, W, _⟩
        exact ⟨ns.map V.int, .int ns[i], sql_ex hS2 W.ex, by rw [List.getElem?_map, List.getElem?_eq_getElem hi]; rfl⟩
      · rintro σ H' ⟨p1, d1, c1, p2, d2, sa, ds, pl, v6, v7, v8, v9, v10, v11, rfl, W, _⟩
        exact ⟨ns.map V.int, sql_ex hS2 W.ex, by rw [List.length_map]; exact Nat.le_refl _⟩
      · clear W5 S5 D1 D2 ex3 ex4 ex5 n1 m1 n2 m2 hds
        rintro i σ H6 hi ⟨p1, d1, c1, p2, d2, sa, ds, pl, v6, v7, v8, v9, v10, v11, rfl, W, po, pl'⟩ x H7 ⟨T1, y, rfl, nT1, rfl, hy⟩
        have ey := hy _ (sql_ex hS2 W.ex)
        rw [List.getElem?_map, List.getElem?_eq_getElem hi] at ey
        cases ey
        generalize ns[i] = z
        have W7 := W.mono (Evl.Ex.new (o := .tup [.int ((i : Nat) : Int), .int z]) nT1)
        refine ⟨T1, _, rfl, SqT.of upd_same, rfl, _, _, rfl, _, _, rfl, rfl, ?_⟩
        refine sq_any (fun σ' H' => ∃ (n : Str) (wt : Int), σ' = st14 a pn r p1 p2 sa (some (.int ((i : Nat) : Int))) (some (.int z)) (some (.str n)) (some (.int wt)) v10 v11 ∧ n ∈ nm ∧ isWt wt = true ∧ Ex (upd H6 T1 (.tup [.int ((i : Nat) : Int), .int z])) H')
          (fun D' hD => ⟨_, rfl, _, rfl, _, rfl, pn, nm, z, _, rfl, SqL.of (W7.ex _ _ e2), hnl, fun n wt T2 H6 hn hwt exB nT2 eT2 => ⟨T2, _, rfl, SqT.of eT2, rfl, _, _, rfl, _, _, rfl, rfl, hD _ _ ⟨n, wt, rfl, hn, hwt, exB⟩⟩⟩) ?_
        rintro σ' H8 ⟨n, wt, rfl, hn, hwt, exB⟩
        have W8 := W7.mono exB
        clear W W7 exB
        have po' : okX nm (pl ++ [(n, wt)]) := fun e he => by
          rcases List.mem_append.mp he with h | h
          · exact po e h
          · rw [List.mem_singleton.mp h]
            exact ⟨hn, hwt⟩
        have pl'' : (pl ++ [(n, wt)]).length = i + 1 := by rw [List.length_append, pl']; rfl
        have rs := run_snoc r pl (n, wt)
        have tb := tell po' (by omega)
        rw [rs] at tb
        have nd2 := W8.D2.nd
        have cp := come_perm nd2 W8.pm r n wt
        -- one
        refine sq_any (fun σ' H' => ∃ d1' : Addr, σ' = st14 a pn r p1 p2 sa (some (.int ((i : Nat) : Int))) (some (.int z)) (some (.str n)) (some (.int wt)) v10 v11 ∧ (d1' = d1 ∨ H8 d1' = none) ∧ Off [p1, d1] H8 H' ∧ DeskAt C H' p1 d1' r (come r c1 n wt).1 ((runC r pl).2.1 + (come r c1 n wt).2) ((runC r pl).2.2 + wt))
          (fun D' hD => rd_come rfl rfl rfl W8.D1 (okn n hn) hwt fun H7 d' hd' off D7 => hD _ _ ⟨d', rfl, hd', off, D7⟩) ?_
        rintro σ' H9 ⟨d1', rfl, hd1, off1, D19⟩
        have ex9 := ex_off W8.ex off1 fun b hb => by
          rcases List.mem_cons.mp hb with e | e
          · rw [e]; exact W8.n1
          · rw [List.mem_singleton.mp e]; exact W8.m1
        have D29 : DeskAt C H9 p2 d2 r (runC r pl).1 (runC r pl).2.1 (runC r pl).2.2 := by
          obtain ⟨dx, hp2⟩ := W8.D2.ob
          refine W8.D2.off off1 (fun hm => ?_) (fun hm => ?_)
          · rcases List.mem_cons.mp hm with e | e
            · exact W8.pp e.symm
            · exact desk_ne (q := p2) W8.D2 W8.D1.dc (List.mem_singleton.mp e)
          · rcases List.mem_cons.mp hm with e | e
            · exact desk_ne (q := p1) W8.D1 W8.D2.dc e.symm
            · exact W8.dd (List.mem_singleton.mp e).symm
        have S9 : StAt H9 sa ds (runC r pl).1 (runC r pl).2.1 (runC r pl).2.2 := by
          obtain ⟨dx, hp1⟩ := W8.D1.ob
          refine ⟨off1 _ _ (fun hm => ?_) W8.S.tp, off1 _ _ (fun hm => ?_) W8.S.dc⟩
          · have h := W8.S.tp
            rcases List.mem_cons.mp hm with e | e
            · rw [e, hp1] at h; cases h
            · rw [List.mem_singleton.mp e, W8.D1.dc] at h; cases h
          · rcases List.mem_cons.mp hm with e | e
            · exact desk_ne (q := p1) W8.D1 W8.S.dc e.symm
            · exact W8.e1 (List.mem_singleton.mp e).symm
        have m1' : H2 d1' = none := by
          rcases hd1 with rfl | h
          · exact W8.m1
          · exact none_ex W8.ex h
        have dd' : d1' ≠ d2 := by
          rcases hd1 with rfl | h
          · exact W8.dd
          · exact (ne_of_none W8.D2.dc h).symm
        have e1' : d1' ≠ ds := by
          rcases hd1 with rfl | h
          · exact W8.e1
          · exact (ne_of_none W8.S.dc h).symm
        -- the other
        refine sq_any (fun σ' H' => ∃ d2' : Addr, σ' = st14 a pn r p1 p2 sa (some (.int ((i : Nat) : Int))) (some (.int z)) (some (.str n)) (some (.int wt)) v10 v11 ∧ (d2' = d2 ∨ H9 d2' = none) ∧ Off [p2, d2] H9 H' ∧ DeskAt C H' p2 d2' r (come r (runC r pl).1 n wt).1 ((runC r pl).2.1 + (come r (runC r pl).1 n wt).2) ((runC r pl).2.2 + wt))
          (fun D' hD => rd_come rfl rfl rfl D29 (okn n hn) hwt fun H7 d' hd' off D7 => hD _ _ ⟨d', rfl, hd', off, D7⟩) ?_
        rintro σ' H10 ⟨d2', rfl, hd2, off2, D210⟩
        have ex10 := ex_off ex9 off2 fun b hb => by
          rcases List.mem_cons.mp hb with e | e
          · rw [e]; exact W8.n2
          · rw [List.mem_singleton.mp e]; exact W8.m2
        have D110 : DeskAt C H10 p1 d1' r (come r c1 n wt).1 ((runC r pl).2.1 + (come r c1 n wt).2) ((runC r pl).2.2 + wt) := by
          refine D19.off off2 (fun hm => ?_) (fun hm => ?_)
          · rcases List.mem_cons.mp hm with e | e
            · exact W8.pp e
            · exact desk_ne (q := p1) D19 D29.dc (List.mem_singleton.mp e)
          · rcases List.mem_cons.mp hm with e | e
            · exact desk_ne (q := p2) D29 D19.dc e.symm
            · exact dd' (List.mem_singleton.mp e)
        have S10 : StAt H10 sa ds (runC r pl).1 (runC r pl).2.1 (runC r pl).2.2 := by
          obtain ⟨dx, hp2⟩ := D29.ob
          refine ⟨off2 _ _ (fun hm => ?_) S9.tp, off2 _ _ (fun hm => ?_) S9.dc⟩
          · have h := S9.tp
            rcases List.mem_cons.mp hm with e | e
            · rw [e, hp2] at h; cases h
            · rw [List.mem_singleton.mp e, D29.dc] at h; cases h
          · rcases List.mem_cons.mp hm with e | e
            · exact desk_ne (q := p2) D29 S9.dc e.symm
            · exact W8.e2 (List.mem_singleton.mp e).symm
        have m2' : H2 d2' = none := by
          rcases hd2 with rfl | h
          · exact W8.m2
          · exact none_ex ex9 h
        have dd'' : d1' ≠ d2' := by
          rcases hd2 with rfl | h
          · exact dd'
          · exact ne_of_none D19.dc h
        -- the state
        refine sq_any (fun σ' H' => ∃ sa' ds' : Addr, σ' = st14 a pn r p1 p2 sa' (some (.int ((i : Nat) : Int))) (some (.int z)) (some (.str n)) (some (.int wt)) v10 v11 ∧ H10 ds' = none ∧ Ex H10 H' ∧ StAt H' sa' ds' (come r (runC r pl).1 n wt).1 ((runC r pl).2.1 + (come r (runC r pl).1 n wt).2) ((runC r pl).2.2 + wt))
          (fun D' hD => ⟨_, rfl, _, rfl, _, rfl, _, rfl, sa, ds, r, n, wt, _, _, _, rfl, S10, nd2, W8.D2.ln, r1, W8.D2.len, fun H8 q8 d8 ex8 hq8 hd8 S8 => hD _ _ ⟨q8, d8, rfl, hd8, ex8, S8⟩⟩) ?_
        rintro σ' H11 ⟨sa', ds', rfl, hds', ex1011, S11⟩
        rw [cp.2] at D110
        have W11 : Two C H2 H11 r p1 d1' (come r c1 n wt).1 p2 d2' sa' ds' (come r (runC r pl).1 n wt).1 ((runC r pl).2.1 + (come r (runC r pl).1 n wt).2) ((runC r pl).2.2 + wt) :=
          ⟨ex10.trans ex1011, D110.ex ex1011, D210.ex ex1011, S11, cp.1, W8.n1, m1', W8.n2, m2', W8.pp, dd'', ne_of_none D110.dc hds', ne_of_none D210.dc hds'⟩
        have rs1 : (runC r (pl ++ [(n, wt)])).1 = (come r (runC r pl).1 n wt).1 := by rw [rs]
        have rs2 : (runC r (pl ++ [(n, wt)])).2.1 = (runC r pl).2.1 + (come r (runC r pl).1 n wt).2 := by rw [rs]
        have rs3 : (runC r (pl ++ [(n, wt)])).2.2 = (runC r pl).2.2 + wt := by rw [rs]
        dsimp only at tb
        rw [← rs1, ← rs2, ← rs3] at W11 tb
        clear rs rs1 rs2 rs3 S11 S10 S9 D110 D210 D29 D19 W8 cp off1 off2 ex9 ex10 ex1011
        generalize (come r c1 n wt).1 = k1 at W11
        generalize hc : (runC r (pl ++ [(n, wt)])).1 = c at W11 tb
        generalize hg : (runC r (pl ++ [(n, wt)])).2.1 = g at W11 tb
        generalize ht : (runC r (pl ++ [(n, wt)])).2.2 = t at W11 tb
        obtain ⟨Te, t63⟩ := tb
        have Nm := tel_nums Te okn r1
        -- the mark
        refine sq_any (fun σ' H' => ∃ m : Int, σ' = st14 a pn r p1 p2 sa' (some (.int ((i : Nat) : Int))) (some (.int z)) (some (.str n)) (some (.int wt)) (some (.int m)) v11 ∧ 0 ≤ m ∧ H11 = H') (fun D' hD => ⟨_, rfl, _, rfl, _, _, rfl, rfl, _, _, rfl, fun m m0 m1 => hD _ _ ⟨m, rfl, m0, rfl⟩⟩) ?_
        rintro σ' _ ⟨m, rfl, m0, rfl⟩
        have ndc := W11.D2.nd
        -- written and read
        refine sq_any (fun σ' H' => ∃ (p1 d1 : Addr) (k1 : CM), σ' = st14 a pn r p1 p2 sa' (some (.int ((i : Nat) : Int))) (some (.int z)) (some (.str n)) (some (.int wt)) (some (.int m)) v11 ∧ Two C H2 H' r p1 d1 k1 p2 d2' sa' ds' c g t) (fun D' hD => ?_) ?_
        · refine ⟨_, rfl, _, _, rfl, rfl, (by show (0 : Int) < _; decide), rfl, _, rfl, ?_⟩
          refine ite2 (fun _ => ?_) (fun _ => hD _ _ ⟨p1, d1', k1, rfl, W11⟩)
          have Tk := Te.perm W11.pm (sum_perm W11.pm)
          have hs := sum_perm (sortC_perm k1)
          have Go := Tk.good okn W11.D1.nd W11.D1.ln r1 r2 hs
          refine ⟨_, rfl, p1, d1', r, k1, g, t, rfl, W11.D1, tel_nums Tk okn r1, fun H12 ex12 => ?_⟩
          refine ⟨r, sortC k1, g, t, rfl, Go, fun H13 p3 d3 ex13 hp hd D => hD _ _ ⟨p3, d3, sortC k1, rfl, ?_⟩⟩
          have W12 := W11.mono ex12
          have W13 := W12.mono ex13
          obtain ⟨dx, hp2⟩ := W12.D2.ob
          exact ⟨W13.ex, D, W13.D2, W13.S, (sortC_perm k1).trans W11.pm, none_ex W12.ex hp, none_ex W12.ex hd, W13.n2, W13.m2, (ne_of_none hp2 hp).symm, (ne_of_none W12.D2.dc hd).symm, (ne_of_none W12.S.dc hd).symm, W13.e2⟩
        rintro σ' H12 ⟨p1', d1'', k, rfl, W12⟩
        clear W11
        have Tk := Te.perm W12.pm (sum_perm W12.pm)
        have Nk := tel_nums Tk okn r1
        have tp := told_perm (r := r) (g := g) (t := t) ndc W12.pm
        have ss : sortC k = sortC c := sortC_eq ndc ((sortC_perm k).trans W12.pm) (sortC_asc k)
        have hs := sum_perm (sortC_perm c)
        -- smaller and poured
        refine sq_any (fun σ' H' => ∃ v11 : Option V, σ' = st14 a pn r p1' p2 sa' (some (.int ((i : Nat) : Int))) (some (.int z)) (some (.str n)) (some (.int wt)) (some (.int m)) v11 ∧ Ex H12 H') (fun D' hD => ?_) ?_
        · refine ⟨_, rfl, _, _, rfl, rfl, (by show (0 : Int) < _; decide), rfl, _, rfl, ?_⟩
          refine ite2 (fun _ => ?_) (fun _ => hD _ _ ⟨_, rfl, Evl.Ex.refl _⟩)
          have hmr := mod0 (m / 16) r (by omega)
          refine sq_any (fun σ' H' => σ' = st14 a pn r p1' p2 sa' (some (.int ((i : Nat) : Int))) (some (.int z)) (some (.str n)) (some (.int wt)) (some (.int m)) (some (.int (1 + m / 16 % r))) ∧ H12 = H') (fun D2 hD2 => ⟨_, rfl, _, _, rfl, rfl, ⟨by decide, by decide⟩, _, rfl, _, _, rfl, rfl, (by show (0 : Int) < r; omega), _, _, rfl, rfl, hD2 _ _ ⟨rfl, rfl⟩⟩) ?_
          rintro σ' _ ⟨rfl, rfl⟩
          generalize hr' : 1 + m / 16 % r = r'
          have Tl := Te.less (r' := r') (by omega) (by omega) (sortC_perm c) hs
          have Nl := tel_nums Tl okn (by omega)
          have small : ∀ {p d : Addr} {k : CM} {H' : Hp} {R : VK}, DeskAt C H' p d r k g t → sortC k = sortC c → (∀ (H'' : Hp) (p' d' : Addr), Ex H' H'' → DeskAt C H'' p' d' r' (lowered (sortC c) (cutAt r' (sortC c))) (g + cutAt r' (sortC c)) t → R (.ref p') H'') → spSmaller K C CD CQ [.ref p, .int r'] H' R E0 := by
            intro p d k H' R D hk hR
            refine ⟨p, d, r, k, g, t, .int r', rfl, D, thing_int r', fun r'' e h1 h2 H' p' d' ex hp hd D => ?_, fun h => ?_, fun r'' e h1 h2 => ?_⟩
            · cases e
              rw [hk] at D
              exact hR _ _ _ ex D
            · rw [show isRoomV (.int r') = true from decide_eq_true ⟨by omega, by omega⟩] at h
              cases h
            · cases e
              omega
          refine sq_if (fun H' => Ex H12 H') (fun Q' hQ => ?_) ?_
          · refine ⟨_, rfl, _, rfl, ?_⟩
            dsimp only [tNil]
            refine small W12.D1 ss fun Ha pa da exa Da => ?_
            refine ⟨pa, da, r', _, _, t, rfl, Da, Nl, fun Hb l exb dp sh => ?_⟩
            refine ⟨_, rfl, _, rfl, ?_⟩
            dsimp only [tNil]
            refine small (W12.D2.ex (exa.trans exb)) rfl fun Hc pc dc exc Dc => ?_
            refine ⟨pc, dc, r', _, _, t, rfl, Dc, Nl, fun Hd l2 exd dp2 sh2 => ?_⟩
            refine ⟨_, _, dp_mono (exc.trans exd) _ _ dp, dp2, sh, sh2, _, rfl, ?_⟩
            rw [eqv_shaped sh]
            exact hQ _ ((exa.trans exb).trans (exc.trans exd))
          intro H13 ex13
          have W13 := W12.mono ex13
          have pos := pos_perm (sortC_perm c) Te.pc
          have snd := sortC_nodup ndc
          have Tp : Tel nm r (lowered (addC (sortC c) (sortC c)) (cutAt r (addC (sortC c) (sortC c)))) (g + g + cutAt r (addC (sortC c) (sortC c))) (t + t) := by
            have pa := add_pos (sortC c) pos pos
            have csm := cut_sum (room := r) (by omega) pa
            have c0 := cut_pos (room := r) (by omega) pa
            rw [sum_add _ snd, hs] at csm
            refine ⟨fun n hn => ?_, pos_lowered, by have := Te.g0; omega, ?_, by omega⟩
            · have h := (lowered_keys _ _).subset hn
              have hk : n ∈ keysC (sortC c) := by
                rcases add_keys _ _ _ h with h | h
                · exact h
                · exact h
              exact Te.nm n ((perm_keys (sortC_perm c)).mem_iff.mp hk)
            · have h2 := Te.sm
              rw [Int.mul_add, Int.mul_add]
              omega
          have Np := tel_nums Tp okn r1
          have pour : ∀ {p d p' d' : Addr} {k k' : CM} {H' : Hp} {R : VK}, DeskAt C H' p d r k g t → DeskAt C H' p' d' r k' g t → sortC k = sortC c → sortC k' = sortC c → (∀ (H'' : Hp) (p' d' : Addr), Ex H' H'' → DeskAt C H'' p' d' r (lowered (addC (sortC c) (sortC c)) (cutAt r (addC (sortC c) (sortC c)))) (g + g + cutAt r (addC (sortC c) (sortC c))) (t + t) → R (.ref p') H'') → spPoured C CQ [.ref p, .ref p'] H' R E0 := by
            intro p d p' d' k k' H' R D D' hk hk' hR
            refine ⟨p, d, r, k, g, t, p', d', r, k', g, t, rfl, D, D', fun _ H'' p'' d'' ex hp hd D => ?_, fun h => absurd rfl h⟩
            rw [hk, hk'] at D
            exact hR _ _ _ ex D
          refine ⟨_, rfl, _, rfl, ?_⟩
          dsimp only [tNil]
          refine pour W13.D1 W13.D2 ss rfl fun Ha pa da exa Da => ?_
          refine ⟨pa, da, r, _, _, _, rfl, Da, Np, fun Hb l exb dp sh => ?_⟩
          have Wb := W13.mono (exa.trans exb)
          refine ⟨_, rfl, _, rfl, ?_⟩
          dsimp only [tNil]
          refine pour Wb.D2 Wb.D1 rfl ss fun Hc pc dc exc Dc => ?_
          refine ⟨pc, dc, r, _, _, _, rfl, Dc, Np, fun Hd l2 exd dp2 sh2 => ?_⟩
          refine ⟨_, _, dp_mono (exc.trans exd) _ _ dp, dp2, sh, sh2, _, rfl, ?_⟩
          rw [eqv_shaped sh]
          exact iteF (hD _ _ ⟨_, rfl, ex13.trans ((exa.trans exb).trans (exc.trans exd))⟩)
        rintro σ' H13 ⟨v11', rfl, ex13⟩
        have W13 := W12.mono ex13
        clear W12
        -- both tell the same
        refine ⟨_, rfl, p1', d1'', r, k, g, t, rfl, W13.D1, Nk, fun Ha l exa dp sh => ?_⟩
        refine ⟨_, rfl, p2, d2', r, c, g, t, rfl, W13.D2.ex exa, Nm, fun Hb l2 exb dp2 sh2 => ?_⟩
        rw [tp] at dp sh
        refine ⟨_, _, dp_mono exb _ _ dp, dp2, sh, sh2, _, rfl, ?_⟩
        rw [eqv_shaped sh]
        refine iteF ?_
        have Wb := W13.mono (exa.trans exb)
        refine ⟨_, rfl, _, rfl, _, rfl, p1', d1'', sa', ds', r, k, c, g, t, rfl, Wb.D1, Wb.S, W13.pm.symm, fun n hn => okn n (Tk.nm n hn), fun Hc exc => ⟨_, rfl, iteF ?_⟩⟩
        have Wc := Wb.mono exc
        rw [← hc, ← hg, ← ht] at Wc
        exact ⟨p1', d1'', k, p2, d2', sa', ds', pl ++ [(n, wt)], _, _, _, _, _, _, rfl, Wc, po', pl''⟩
      · rintro σ H' ⟨p1, d1, c1, p2, d2, sa, ds, pl, v6, v7, v8, v9, v10, v11, rfl, W, po, pl'⟩
        exact hD _ _ ⟨p1, d1, c1, p2, d2, sa, ds, pl, _, _, _, _, _, _, rfl, W, po, by omega⟩
    rintro σ' H6 ⟨q1, e1, k, q2, e2', sb, es, pl, v6, v7, v8, v9, v10, v11, rfl, W, po, pl63⟩
    obtain ⟨Te, t63⟩ := tell po pl63
    generalize (runC r pl).1 = c at W Te
    generalize (runC r pl).2.1 = g at W Te
    generalize (runC r pl).2.2 = t at W Te
    have Nm := tel_nums Te okn r1
    have Tk := Te.perm W.pm (sum_perm W.pm)
    have hs := sum_perm (sortC_perm k)
    have Go := Tk.good okn W.D1.nd W.D1.ln r1 r2 hs
    have Ts := Tk.perm (sortC_perm k) hs
    have tp := told_perm (r := r) (g := g) (t := t) W.D2.nd ((sortC_perm k).trans W.pm)
    refine ⟨_, rfl, q1, e1, r, k, g, t, rfl, W.D1, tel_nums Tk okn r1, fun Ha exa => ?_⟩
    refine ⟨r, sortC k, g, t, rfl, Go, fun Hb p3 d3 exb hp hd D => ?_⟩
    refine ⟨p3, d3, r, sortC k, g, t, rfl, D, tel_nums Ts okn r1, fun Hc l exc dp sh => ?_⟩
    refine ⟨_, rfl, q2, e2', r, c, g, t, rfl, W.D2.ex ((exa.trans exb).trans exc), Nm, fun Hd l2 exd dp2 sh2 => ?_⟩
    rw [tp] at dp sh
    refine ⟨_, _, dp_mono exd _ _ dp, dp2, sh, sh2, ?_⟩
    show Q (.bl (PyData.eqv _ _)) _
    rw [eqv_shaped sh]
    exact q _
end
/-! ### what the top has written, each a fact that k_is finds, and the law over it -/
theorem all_mk {l : PySem.W.OpenLaw} {w : World} {K : PySem.W.Frag} {h : Heap} {mg : Str → Option Value} {fa C fIsWhole fIsName fNeedComing fNeedDrawers fLowered fDCome fDShown fDLost fDWeight fDDrawers fDLeast fDMost fDMaybe fDSurely fDeskOf fPoured fSmaller fWritten fNumberOf fHeadOf fPairOf fRead fLMixed fLNames fLDrawers fLComing fLCome fLIs fLTold fDInit fLaw CN CW CD CQ tD : Addr} (X : K.In h) (G : h.Ns mainGlobals mg) (hfa : mg "law" = some (.ref fa))
    {odIsWhole anIsWhole odIsName anIsName odNeedComing anNeedComing odNeedDrawers anNeedDrawers odLowered anLowered odDCome anDCome odDShown anDShown odDLost anDLost odDWeight anDWeight odDDrawers anDDrawers odDLeast anDLeast odDMost anDMost odDMaybe anDMaybe odDSurely anDSurely odDeskOf anDeskOf odPoured anPoured odSmaller anSmaller odWritten anWritten odNumberOf anNumberOf odHeadOf anHeadOf odPairOf anPairOf odRead anRead odLMixed anLMixed odLNames anLNames odLDrawers anLDrawers odLComing anLComing odLCome anLCome odLIs anLIs odLTold anLTold odDInit anDInit odLaw anLaw odT : Option Addr} {slIsWhole slIsName slNeedComing slNeedDrawers slLowered slDCome slDShown slDLost slDWeight slDDrawers slDLeast slDMost slDMaybe slDSurely slDeskOf slPoured slSmaller slWritten slNumberOf slHeadOf slPairOf slRead slLMixed slLNames slLDrawers slLComing slLCome slLIs slLTold slDInit slLaw slT : Array (Option Value)} {ocIsWhole kVIsWhole dcIsWhole pmIsWhole cdIsWhole ctIsWhole ocIsName kVIsName dcIsName pmIsName cdIsName ctIsName ocNeedComing kVNeedComing dcNeedComing pmNeedComing cdNeedComing ctNeedComing ocNeedDrawers kVNeedDrawers dcNeedDrawers pmNeedDrawers cdNeedDrawers ctNeedDrawers ocLowered kVLowered dcLowered pmLowered cdLowered ctLowered ocDCome kVDCome dcDCome pmDCome cdDCome ctDCome ocDShown kVDShown dcDShown pmDShown cdDShown ctDShown ocDLost kVDLost dcDLost pmDLost cdDLost ctDLost ocDWeight kVDWeight dcDWeight pmDWeight cdDWeight ctDWeight ocDDrawers kVDDrawers dcDDrawers pmDDrawers cdDDrawers ctDDrawers ocDLeast kVDLeast dcDLeast pmDLeast cdDLeast ctDLeast ocDMost kVDMost dcDMost pmDMost cdDMost ctDMost ocDMaybe kVDMaybe dcDMaybe pmDMaybe cdDMaybe ctDMaybe ocDSurely kVDSurely dcDSurely pmDSurely cdDSurely ctDSurely ocDeskOf kVDeskOf dcDeskOf pmDeskOf cdDeskOf ctDeskOf ocPoured kVPoured dcPoured pmPoured cdPoured ctPoured ocSmaller kVSmaller dcSmaller pmSmaller cdSmaller ctSmaller ocWritten kVWritten dcWritten pmWritten cdWritten ctWritten ocNumberOf kVNumberOf dcNumberOf pmNumberOf cdNumberOf ctNumberOf ocHeadOf kVHeadOf dcHeadOf pmHeadOf cdHeadOf ctHeadOf ocPairOf kVPairOf dcPairOf pmPairOf cdPairOf ctPairOf ocRead kVRead dcRead pmRead cdRead ctRead ocLMixed kVLMixed dcLMixed pmLMixed cdLMixed ctLMixed ocLNames kVLNames dcLNames pmLNames cdLNames ctLNames ocLDrawers kVLDrawers dcLDrawers pmLDrawers cdLDrawers ctLDrawers ocLComing kVLComing dcLComing pmLComing cdLComing ctLComing ocLCome kVLCome dcLCome pmLCome cdLCome ctLCome ocLIs kVLIs dcLIs pmLIs cdLIs ctLIs ocLTold kVLTold dcLTold pmLTold cdLTold ctLTold ocDInit kVDInit dcDInit pmDInit cdDInit ctDInit ocLaw kVLaw dcLaw pmLaw cdLaw ctLaw ocT : Value} {t8 tL tG tM tT tFi tMN : Tok} {nT : Nat}
    (aC : PySem.W.nsIn K mainGlobals "Desk" = some (some (.ref C)))
    (aIsWhole : PySem.W.nsIn K mainGlobals "is_whole" = some (some (.ref fIsWhole)))
    (lIsWhole : K.lookup fIsWhole = some ⟨ocIsWhole, odIsWhole, .func (PySem.W.fnOf "is_whole" "is_whole" (defArgs sIsWhole) (defBody sIsWhole) (defScope sIsWhole) .none kVIsWhole dcIsWhole pmIsWhole anIsWhole cdIsWhole ctIsWhole), slIsWhole⟩)
    (cIsWhole : PySem.W.codeIn K cdIsWhole "is_whole" = true)
    (kIsWhole : PySem.W.keepIn K (.ref fIsWhole) = true)
    (aIsName : PySem.W.nsIn K mainGlobals "is_name" = some (some (.ref fIsName)))
    (lIsName : K.lookup fIsName = some ⟨ocIsName, odIsName, .func (PySem.W.fnOf "is_name" "is_name" (defArgs sIsName) (defBody sIsName) (defScope sIsName) .none kVIsName dcIsName pmIsName anIsName cdIsName ctIsName), slIsName⟩)
    (cIsName : PySem.W.codeIn K cdIsName "is_name" = true)
    (kIsName : PySem.W.keepIn K (.ref fIsName) = true)
    (aNeedComing : PySem.W.nsIn K mainGlobals "need_coming" = some (some (.ref fNeedComing)))
    (lNeedComing : K.lookup fNeedComing = some ⟨ocNeedComing, odNeedComing, .func (PySem.W.fnOf "need_coming" "need_coming" (defArgs sNeedComing) (defBody sNeedComing) (defScope sNeedComing) .none kVNeedComing dcNeedComing pmNeedComing anNeedComing cdNeedComing ctNeedComing), slNeedComing⟩)
    (cNeedComing : PySem.W.codeIn K cdNeedComing "need_coming" = true)
    (kNeedComing : PySem.W.keepIn K (.ref fNeedComing) = true)
    (aNeedDrawers : PySem.W.nsIn K mainGlobals "need_drawers" = some (some (.ref fNeedDrawers)))
    (lNeedDrawers : K.lookup fNeedDrawers = some ⟨ocNeedDrawers, odNeedDrawers, .func (PySem.W.fnOf "need_drawers" "need_drawers" (defArgs sNeedDrawers) (defBody sNeedDrawers) (defScope sNeedDrawers) .none kVNeedDrawers dcNeedDrawers pmNeedDrawers anNeedDrawers cdNeedDrawers ctNeedDrawers), slNeedDrawers⟩)
    (cNeedDrawers : PySem.W.codeIn K cdNeedDrawers "need_drawers" = true)
    (kNeedDrawers : PySem.W.keepIn K (.ref fNeedDrawers) = true)
    (aLowered : PySem.W.nsIn K mainGlobals "lowered" = some (some (.ref fLowered)))
    (lLowered : K.lookup fLowered = some ⟨ocLowered, odLowered, .func (PySem.W.fnOf "lowered" "lowered" (defArgs sLowered) (defBody sLowered) (defScope sLowered) .none kVLowered dcLowered pmLowered anLowered cdLowered ctLowered), slLowered⟩)
    (cLowered : PySem.W.codeIn K cdLowered "lowered" = true)
    (kLowered : PySem.W.keepIn K (.ref fLowered) = true)
    (aDCome : PySem.W.findIn K (.ref C) "come" = some (some (.ref fDCome)))
    (iDCome : PySem.W.isFn K (.ref fDCome) = true)
    (lDCome : K.lookup fDCome = some ⟨ocDCome, odDCome, .func (PySem.W.fnOf "come" "Desk.come" (defArgs sDCome) (defBody sDCome) (defScope sDCome) (.ref tD) kVDCome dcDCome pmDCome anDCome cdDCome ctDCome), slDCome⟩)
    (cDCome : PySem.W.codeIn K cdDCome "Desk.come" = true)
    (kDCome : PySem.W.keepIn K (.ref fDCome) = true)
    (aDShown : PySem.W.findIn K (.ref C) "shown" = some (some (.ref fDShown)))
    (iDShown : PySem.W.isFn K (.ref fDShown) = true)
    (lDShown : K.lookup fDShown = some ⟨ocDShown, odDShown, .func (PySem.W.fnOf "shown" "Desk.shown" (defArgs sDShown) (defBody sDShown) (defScope sDShown) .none kVDShown dcDShown pmDShown anDShown cdDShown ctDShown), slDShown⟩)
    (cDShown : PySem.W.codeIn K cdDShown "Desk.shown" = true)
    (kDShown : PySem.W.keepIn K (.ref fDShown) = true)
    (aDLost : PySem.W.findIn K (.ref C) "lost" = some (some (.ref fDLost)))
    (iDLost : PySem.W.isFn K (.ref fDLost) = true)
    (lDLost : K.lookup fDLost = some ⟨ocDLost, odDLost, .func (PySem.W.fnOf "lost" "Desk.lost" (defArgs sDLost) (defBody sDLost) (defScope sDLost) .none kVDLost dcDLost pmDLost anDLost cdDLost ctDLost), slDLost⟩)
    (cDLost : PySem.W.codeIn K cdDLost "Desk.lost" = true)
    (kDLost : PySem.W.keepIn K (.ref fDLost) = true)
    (aDWeight : PySem.W.findIn K (.ref C) "weight" = some (some (.ref fDWeight)))
    (iDWeight : PySem.W.isFn K (.ref fDWeight) = true)
    (lDWeight : K.lookup fDWeight = some ⟨ocDWeight, odDWeight, .func (PySem.W.fnOf "weight" "Desk.weight" (defArgs sDWeight) (defBody sDWeight) (defScope sDWeight) .none kVDWeight dcDWeight pmDWeight anDWeight cdDWeight ctDWeight), slDWeight⟩)
    (cDWeight : PySem.W.codeIn K cdDWeight "Desk.weight" = true)
    (kDWeight : PySem.W.keepIn K (.ref fDWeight) = true)
    (aDDrawers : PySem.W.findIn K (.ref C) "drawers" = some (some (.ref fDDrawers)))
    (iDDrawers : PySem.W.isFn K (.ref fDDrawers) = true)
    (lDDrawers : K.lookup fDDrawers = some ⟨ocDDrawers, odDDrawers, .func (PySem.W.fnOf "drawers" "Desk.drawers" (defArgs sDDrawers) (defBody sDDrawers) (defScope sDDrawers) .none kVDDrawers dcDDrawers pmDDrawers anDDrawers cdDDrawers ctDDrawers), slDDrawers⟩)
    (cDDrawers : PySem.W.codeIn K cdDDrawers "Desk.drawers" = true)
    (kDDrawers : PySem.W.keepIn K (.ref fDDrawers) = true)
    (aDLeast : PySem.W.findIn K (.ref C) "least" = some (some (.ref fDLeast)))
    (iDLeast : PySem.W.isFn K (.ref fDLeast) = true)
    (lDLeast : K.lookup fDLeast = some ⟨ocDLeast, odDLeast, .func (PySem.W.fnOf "least" "Desk.least" (defArgs sDLeast) (defBody sDLeast) (defScope sDLeast) .none kVDLeast dcDLeast pmDLeast anDLeast cdDLeast ctDLeast), slDLeast⟩)
    (cDLeast : PySem.W.codeIn K cdDLeast "Desk.least" = true)
    (kDLeast : PySem.W.keepIn K (.ref fDLeast) = true)
    (aDMost : PySem.W.findIn K (.ref C) "most" = some (some (.ref fDMost)))
    (iDMost : PySem.W.isFn K (.ref fDMost) = true)
    (lDMost : K.lookup fDMost = some ⟨ocDMost, odDMost, .func (PySem.W.fnOf "most" "Desk.most" (defArgs sDMost) (defBody sDMost) (defScope sDMost) .none kVDMost dcDMost pmDMost anDMost cdDMost ctDMost), slDMost⟩)
    (cDMost : PySem.W.codeIn K cdDMost "Desk.most" = true)
    (kDMost : PySem.W.keepIn K (.ref fDMost) = true)
    (aDMaybe : PySem.W.findIn K (.ref C) "maybe" = some (some (.ref fDMaybe)))
    (iDMaybe : PySem.W.isFn K (.ref fDMaybe) = true)
    (lDMaybe : K.lookup fDMaybe = some ⟨ocDMaybe, odDMaybe, .func (PySem.W.fnOf "maybe" "Desk.maybe" (defArgs sDMaybe) (defBody sDMaybe) (defScope sDMaybe) .none kVDMaybe dcDMaybe pmDMaybe anDMaybe cdDMaybe ctDMaybe), slDMaybe⟩)
    (cDMaybe : PySem.W.codeIn K cdDMaybe "Desk.maybe" = true)
    (kDMaybe : PySem.W.keepIn K (.ref fDMaybe) = true)
    (aDSurely : PySem.W.findIn K (.ref C) "surely" = some (some (.ref fDSurely)))
    (iDSurely : PySem.W.isFn K (.ref fDSurely) = true)
    (lDSurely : K.lookup fDSurely = some ⟨ocDSurely, odDSurely, .func (PySem.W.fnOf "surely" "Desk.surely" (defArgs sDSurely) (defBody sDSurely) (defScope sDSurely) .none kVDSurely dcDSurely pmDSurely anDSurely cdDSurely ctDSurely), slDSurely⟩)
    (cDSurely : PySem.W.codeIn K cdDSurely "Desk.surely" = true)
    (kDSurely : PySem.W.keepIn K (.ref fDSurely) = true)
    (aDeskOf : PySem.W.nsIn K mainGlobals "desk_of" = some (some (.ref fDeskOf)))
    (lDeskOf : K.lookup fDeskOf = some ⟨ocDeskOf, odDeskOf, .func (PySem.W.fnOf "desk_of" "desk_of" (defArgs sDeskOf) (defBody sDeskOf) (defScope sDeskOf) .none kVDeskOf dcDeskOf pmDeskOf anDeskOf cdDeskOf ctDeskOf), slDeskOf⟩)
    (cDeskOf : PySem.W.codeIn K cdDeskOf "desk_of" = true)
    (kDeskOf : PySem.W.keepIn K (.ref fDeskOf) = true)
    (aPoured : PySem.W.nsIn K mainGlobals "poured" = some (some (.ref fPoured)))
    (lPoured : K.lookup fPoured = some ⟨ocPoured, odPoured, .func (PySem.W.fnOf "poured" "poured" (defArgs sPoured) (defBody sPoured) (defScope sPoured) .none kVPoured dcPoured pmPoured anPoured cdPoured ctPoured), slPoured⟩)
    (cPoured : PySem.W.codeIn K cdPoured "poured" = true)
    (kPoured : PySem.W.keepIn K (.ref fPoured) = true)
    (aSmaller : PySem.W.nsIn K mainGlobals "smaller" = some (some (.ref fSmaller)))
    (lSmaller : K.lookup fSmaller = some ⟨ocSmaller, odSmaller, .func (PySem.W.fnOf "smaller" "smaller" (defArgs sSmaller) (defBody sSmaller) (defScope sSmaller) .none kVSmaller dcSmaller pmSmaller anSmaller cdSmaller ctSmaller), slSmaller⟩)
    (cSmaller : PySem.W.codeIn K cdSmaller "smaller" = true)
    (kSmaller : PySem.W.keepIn K (.ref fSmaller) = true)
    (aWritten : PySem.W.nsIn K mainGlobals "written" = some (some (.ref fWritten)))
    (lWritten : K.lookup fWritten = some ⟨ocWritten, odWritten, .func (PySem.W.fnOf "written" "written" (defArgs sWritten) (defBody sWritten) (defScope sWritten) .none kVWritten dcWritten pmWritten anWritten cdWritten ctWritten), slWritten⟩)
    (cWritten : PySem.W.codeIn K cdWritten "written" = true)
    (kWritten : PySem.W.keepIn K (.ref fWritten) = true)
    (aNumberOf : PySem.W.nsIn K mainGlobals "number_of" = some (some (.ref fNumberOf)))
    (lNumberOf : K.lookup fNumberOf = some ⟨ocNumberOf, odNumberOf, .func (PySem.W.fnOf "number_of" "number_of" (defArgs sNumberOf) (defBody sNumberOf) (defScope sNumberOf) .none kVNumberOf dcNumberOf pmNumberOf anNumberOf cdNumberOf ctNumberOf), slNumberOf⟩)
    (cNumberOf : PySem.W.codeIn K cdNumberOf "number_of" = true)
    (kNumberOf : PySem.W.keepIn K (.ref fNumberOf) = true)
    (aHeadOf : PySem.W.nsIn K mainGlobals "head_of" = some (some (.ref fHeadOf)))
    (lHeadOf : K.lookup fHeadOf = some ⟨ocHeadOf, odHeadOf, .func (PySem.W.fnOf "head_of" "head_of" (defArgs sHeadOf) (defBody sHeadOf) (defScope sHeadOf) .none kVHeadOf dcHeadOf pmHeadOf anHeadOf cdHeadOf ctHeadOf), slHeadOf⟩)
    (cHeadOf : PySem.W.codeIn K cdHeadOf "head_of" = true)
    (kHeadOf : PySem.W.keepIn K (.ref fHeadOf) = true)
    (aPairOf : PySem.W.nsIn K mainGlobals "pair_of" = some (some (.ref fPairOf)))
    (lPairOf : K.lookup fPairOf = some ⟨ocPairOf, odPairOf, .func (PySem.W.fnOf "pair_of" "pair_of" (defArgs sPairOf) (defBody sPairOf) (defScope sPairOf) .none kVPairOf dcPairOf pmPairOf anPairOf cdPairOf ctPairOf), slPairOf⟩)
    (cPairOf : PySem.W.codeIn K cdPairOf "pair_of" = true)
    (kPairOf : PySem.W.keepIn K (.ref fPairOf) = true)
    (aRead : PySem.W.nsIn K mainGlobals "read" = some (some (.ref fRead)))
    (lRead : K.lookup fRead = some ⟨ocRead, odRead, .func (PySem.W.fnOf "read" "read" (defArgs sRead) (defBody sRead) (defScope sRead) .none kVRead dcRead pmRead anRead cdRead ctRead), slRead⟩)
    (cRead : PySem.W.codeIn K cdRead "read" = true)
    (kRead : PySem.W.keepIn K (.ref fRead) = true)
    (aLMixed : PySem.W.nsIn K mainGlobals "_law_mixed" = some (some (.ref fLMixed)))
    (lLMixed : K.lookup fLMixed = some ⟨ocLMixed, odLMixed, .func (PySem.W.fnOf "_law_mixed" "_law_mixed" (defArgs sLMixed) (defBody sLMixed) (defScope sLMixed) .none kVLMixed dcLMixed pmLMixed anLMixed cdLMixed ctLMixed), slLMixed⟩)
    (cLMixed : PySem.W.codeIn K cdLMixed "_law_mixed" = true)
    (kLMixed : PySem.W.keepIn K (.ref fLMixed) = true)
    (aLNames : PySem.W.nsIn K mainGlobals "_law_names" = some (some (.ref fLNames)))
    (lLNames : K.lookup fLNames = some ⟨ocLNames, odLNames, .func (PySem.W.fnOf "_law_names" "_law_names" (defArgs sLNames) (defBody sLNames) (defScope sLNames) .none kVLNames dcLNames pmLNames anLNames cdLNames ctLNames), slLNames⟩)
    (cLNames : PySem.W.codeIn K cdLNames "_law_names" = true)
    (kLNames : PySem.W.keepIn K (.ref fLNames) = true)
    (aLDrawers : PySem.W.nsIn K mainGlobals "_law_drawers" = some (some (.ref fLDrawers)))
    (lLDrawers : K.lookup fLDrawers = some ⟨ocLDrawers, odLDrawers, .func (PySem.W.fnOf "_law_drawers" "_law_drawers" (defArgs sLDrawers) (defBody sLDrawers) (defScope sLDrawers) .none kVLDrawers dcLDrawers pmLDrawers anLDrawers cdLDrawers ctLDrawers), slLDrawers⟩)
    (cLDrawers : PySem.W.codeIn K cdLDrawers "_law_drawers" = true)
    (kLDrawers : PySem.W.keepIn K (.ref fLDrawers) = true)
    (aLComing : PySem.W.nsIn K mainGlobals "_law_coming" = some (some (.ref fLComing)))
    (lLComing : K.lookup fLComing = some ⟨ocLComing, odLComing, .func (PySem.W.fnOf "_law_coming" "_law_coming" (defArgs sLComing) (defBody sLComing) (defScope sLComing) .none kVLComing dcLComing pmLComing anLComing cdLComing ctLComing), slLComing⟩)
    (cLComing : PySem.W.codeIn K cdLComing "_law_coming" = true)
    (kLComing : PySem.W.keepIn K (.ref fLComing) = true)
    (aLCome : PySem.W.nsIn K mainGlobals "_law_come" = some (some (.ref fLCome)))
    (lLCome : K.lookup fLCome = some ⟨ocLCome, odLCome, .func (PySem.W.fnOf "_law_come" "_law_come" (defArgs sLCome) (defBody sLCome) (defScope sLCome) .none kVLCome dcLCome pmLCome anLCome cdLCome ctLCome), slLCome⟩)
    (cLCome : PySem.W.codeIn K cdLCome "_law_come" = true)
    (kLCome : PySem.W.keepIn K (.ref fLCome) = true)
    (aLIs : PySem.W.nsIn K mainGlobals "_law_is" = some (some (.ref fLIs)))
    (lLIs : K.lookup fLIs = some ⟨ocLIs, odLIs, .func (PySem.W.fnOf "_law_is" "_law_is" (defArgs sLIs) (defBody sLIs) (defScope sLIs) .none kVLIs dcLIs pmLIs anLIs cdLIs ctLIs), slLIs⟩)
    (cLIs : PySem.W.codeIn K cdLIs "_law_is" = true)
    (kLIs : PySem.W.keepIn K (.ref fLIs) = true)
    (aLTold : PySem.W.nsIn K mainGlobals "_law_told" = some (some (.ref fLTold)))
    (lLTold : K.lookup fLTold = some ⟨ocLTold, odLTold, .func (PySem.W.fnOf "_law_told" "_law_told" (defArgs sLTold) (defBody sLTold) (defScope sLTold) .none kVLTold dcLTold pmLTold anLTold cdLTold ctLTold), slLTold⟩)
    (cLTold : PySem.W.codeIn K cdLTold "_law_told" = true)
    (kLTold : PySem.W.keepIn K (.ref fLTold) = true)
    (aDInit : PySem.W.findIn K (.ref C) "__init__" = some (some (.ref fDInit)))
    (iDInit : PySem.W.isFn K (.ref fDInit) = true)
    (lDInit : K.lookup fDInit = some ⟨ocDInit, odDInit, .func (PySem.W.fnOf "__init__" "Desk.__init__" (defArgs sDInit) (defBody sDInit) (defScope sDInit) .none kVDInit dcDInit pmDInit anDInit cdDInit ctDInit), slDInit⟩)
    (cDInit : PySem.W.codeIn K cdDInit "Desk.__init__" = true)
    (kDInit : PySem.W.keepIn K (.ref fDInit) = true)
    (aLaw : PySem.W.nsIn K mainGlobals "law" = some (some (.ref fLaw)))
    (lLaw : K.lookup fLaw = some ⟨ocLaw, odLaw, .func (PySem.W.fnOf "law" "law" (defArgs sLaw) (defBody sLaw) (defScope sLaw) .none kVLaw dcLaw pmLaw anLaw cdLaw ctLaw), slLaw⟩)
    (cLaw : PySem.W.codeIn K cdLaw "law" = true)
    (kLaw : PySem.W.keepIn K (.ref fLaw) = true)
    (lT : K.lookup tD = some ⟨ocT, odT, .seq #[.int 1 tT] nT, slT⟩)
    (pg : PySem.W.plainGet K C Str.empty = true)
    (hd : PySem.W.hasDictIn K C = true)
    (po : PySem.W.plainOver K C = true)
    (sa : PySem.W.findIn K (.ref C) "__setattr__" = some (some (.builtin "object.__setattr__")))
    (mk : PySem.W.makesIn K C = true)
    (kc : PySem.W.keepIn K (.ref C) = true)
    (n_room : PySem.W.findIn K (.ref C) "room" = some none)
    (n_counts : PySem.W.findIn K (.ref C) "counts" = some none)
    (n_gone : PySem.W.findIn K (.ref C) "gone" = some none)
    (n_total : PySem.W.findIn K (.ref C) "total" = some none)
    (o_len : PySem.W.nsIn K mainGlobals "len" = some none)
    (o_min : PySem.W.nsIn K mainGlobals "min" = some none)
    (o_list : PySem.W.nsIn K mainGlobals "list" = some none)
    (o_dict : PySem.W.nsIn K mainGlobals "dict" = some none)
    (o_sorted : PySem.W.nsIn K mainGlobals "sorted" = some none)
    (o_isinstance : PySem.W.nsIn K mainGlobals "isinstance" = some none)
    (o_int : PySem.W.nsIn K mainGlobals "int" = some none)
    (o_bool : PySem.W.nsIn K mainGlobals "bool" = some none)
    (o_str : PySem.W.nsIn K mainGlobals "str" = some none)
    (o_range : PySem.W.nsIn K mainGlobals "range" = some none)
    (o_enumerate : PySem.W.nsIn K mainGlobals "enumerate" = some none)
    (o_sum : PySem.W.nsIn K mainGlobals "sum" = some none)
    (v_LONGEST : PySem.W.nsIn K mainGlobals "LONGEST" = some (some (.int 8 t8)))
    (v_LETTERS : PySem.W.nsIn K mainGlobals "LETTERS" = some (some (.str "abcdefghijklmnopqrstuvwxyz" tL)))
    (v_GREATEST : PySem.W.nsIn K mainGlobals "GREATEST" = some (some (.int 1000000000000000000000000000000000000000000000000000000000000 tG)))
    (v_MOST_DRAWERS : PySem.W.nsIn K mainGlobals "MOST_DRAWERS" = some (some (.int 50 tM)))
    (v_FIGURES : PySem.W.nsIn K mainGlobals "FIGURES" = some (some (.str "0123456789" tFi)))
    (v_MOST_NUMBER : PySem.W.nsIn K mainGlobals "MOST_NUMBER" = some (some (.int 10000000000000000000000000000000000000000000000000000000000000000000000 tMN)))
    (ea_NoName : PySem.W.nsIn K mainGlobals "NoName" = some (some (.ref CN)))
    (ex_NoName : PySem.W.excIn K CN [.type "ValueError", .type "Exception", .type "BaseException", .type "object"] "ValueError.__new__" = true)
    (ek_NoName : PySem.W.keepIn K (.ref CN) = true)
    (eb_NoName : PySem.W.subIn K (.ref CN) (.type "BaseException") = some true)
    (et_NoName : PySem.W.typeIn K (.ref CN) = some (.type "type"))
    (ea_NoWeight : PySem.W.nsIn K mainGlobals "NoWeight" = some (some (.ref CW)))
    (ex_NoWeight : PySem.W.excIn K CW [.type "ValueError", .type "Exception", .type "BaseException", .type "object"] "ValueError.__new__" = true)
    (ek_NoWeight : PySem.W.keepIn K (.ref CW) = true)
    (eb_NoWeight : PySem.W.subIn K (.ref CW) (.type "BaseException") = some true)
    (et_NoWeight : PySem.W.typeIn K (.ref CW) = some (.type "type"))
    (ea_NoDesk : PySem.W.nsIn K mainGlobals "NoDesk" = some (some (.ref CD)))
    (ex_NoDesk : PySem.W.excIn K CD [.type "ValueError", .type "Exception", .type "BaseException", .type "object"] "ValueError.__new__" = true)
    (ek_NoDesk : PySem.W.keepIn K (.ref CD) = true)
    (eb_NoDesk : PySem.W.subIn K (.ref CD) (.type "BaseException") = some true)
    (et_NoDesk : PySem.W.typeIn K (.ref CD) = some (.type "type"))
    (ea_NoMatch : PySem.W.nsIn K mainGlobals "NoMatch" = some (some (.ref CQ)))
    (ex_NoMatch : PySem.W.excIn K CQ [.type "ValueError", .type "Exception", .type "BaseException", .type "object"] "ValueError.__new__" = true)
    (ek_NoMatch : PySem.W.keepIn K (.ref CQ) = true)
    (eb_NoMatch : PySem.W.subIn K (.ref CQ) (.type "BaseException") = some true)
    (et_NoMatch : PySem.W.typeIn K (.ref CQ) = some (.type "type"))
    : ∃ fd : FuncData, (∀ (s : Shared) (v : Value), BindsTo s fd ⟨[v], []⟩ [("_law_script", v)]) ∧ ∀ base : Heap, K.In base → base.Ns mainGlobals mg → FnOk l.prog w K mg base CX0 7 fa fd pLaw (spLaw K) := by
  have e := hfa.symm.trans (PySem.W.mg_of X G aLaw)
  cases e
  have z_len := PySem.W.mg_none_of X G o_len
  have z_min := PySem.W.mg_none_of X G o_min
  have z_list := PySem.W.mg_none_of X G o_list
  have z_dict := PySem.W.mg_none_of X G o_dict
  have z_sorted := PySem.W.mg_none_of X G o_sorted
  have z_isinstance := PySem.W.mg_none_of X G o_isinstance
  have z_int := PySem.W.mg_none_of X G o_int
  have z_bool := PySem.W.mg_none_of X G o_bool
  have z_str := PySem.W.mg_none_of X G o_str
  have z_range := PySem.W.mg_none_of X G o_range
  have z_enumerate := PySem.W.mg_none_of X G o_enumerate
  have z_sum := PySem.W.mg_none_of X G o_sum
  have g_LONGEST := PySem.W.mg_of X G v_LONGEST
  have g_LETTERS := PySem.W.mg_of X G v_LETTERS
  have g_GREATEST := PySem.W.mg_of X G v_GREATEST
  have g_MOST_DRAWERS := PySem.W.mg_of X G v_MOST_DRAWERS
  have g_FIGURES := PySem.W.mg_of X G v_FIGURES
  have g_MOST_NUMBER := PySem.W.mg_of X G v_MOST_NUMBER
  have eN : ExT K mg "NoName" CN := ⟨PySem.W.mg_of X G ea_NoName, ex_NoName, ek_NoName, eb_NoName, et_NoName⟩
  have eW : ExT K mg "NoWeight" CW := ⟨PySem.W.mg_of X G ea_NoWeight, ex_NoWeight, ek_NoWeight, eb_NoWeight, et_NoWeight⟩
  have eD : ExT K mg "NoDesk" CD := ⟨PySem.W.mg_of X G ea_NoDesk, ex_NoDesk, ek_NoDesk, eb_NoDesk, et_NoDesk⟩
  have eM : ExT K mg "NoMatch" CQ := ⟨PySem.W.mg_of X G ea_NoMatch, ex_NoMatch, ek_NoMatch, eb_NoMatch, et_NoMatch⟩
  have T : DkT K mg C CN CW CD := ⟨⟨pg, hd, po, sa⟩, n_room, n_counts, n_gone, n_total, PySem.W.mg_of X G aC, z_len, z_min, z_list, z_dict, z_sorted, eN, eW, eD⟩
  have F_IsWhole := fun_mk (st := sIsWhole) lIsWhole cIsWhole kIsWhole
  have b_IsWhole := F_IsWhole.binds (ps := pIsWhole) fun _ _ _ _ _ _ us hl => match us, hl with | [_], _ => rfl
  have F_IsName := fun_mk (st := sIsName) lIsName cIsName kIsName
  have b_IsName := F_IsName.binds (ps := pIsName) fun _ _ _ _ _ _ us hl => match us, hl with | [_], _ => rfl
  have F_NeedComing := fun_mk (st := sNeedComing) lNeedComing cNeedComing kNeedComing
  have b_NeedComing := F_NeedComing.binds (ps := pNeedComing) fun _ _ _ _ _ _ us hl => match us, hl with | [_, _], _ => rfl
  have F_NeedDrawers := fun_mk (st := sNeedDrawers) lNeedDrawers cNeedDrawers kNeedDrawers
  have b_NeedDrawers := F_NeedDrawers.binds (ps := pNeedDrawers) fun _ _ _ _ _ _ us hl => match us, hl with | [_], _ => rfl
  have F_Lowered := fun_mk (st := sLowered) lLowered cLowered kLowered
  have b_Lowered := F_Lowered.binds (ps := pLowered) fun _ _ _ _ _ _ us hl => match us, hl with | [_, _], _ => rfl
  have F_DCome : FunD K "come" "Desk.come" (defArgs sDCome) (defBody sDCome) (defScope sDCome) [.int 1] [] fDCome (PySem.W.fnOf "come" "Desk.come" (defArgs sDCome) (defBody sDCome) (defScope sDCome) (.ref tD) kVDCome dcDCome pmDCome anDCome cdDCome ctDCome) := ⟨⟨ocDCome, odDCome, .ref tD, kVDCome, dcDCome, pmDCome, anDCome, cdDCome, ctDCome, slDCome, rfl, lDCome, cDCome, .inr ⟨by simp, tD, _, [.int 1 tT], nT, rfl, lT, rfl, .cons ⟨tT, rfl⟩ .nil⟩, .inl rfl⟩, kDCome⟩
  have b_DCome : Binds K (PySem.W.fnOf "come" "Desk.come" (defArgs sDCome) (defBody sDCome) (defScope sDCome) (.ref tD) kVDCome dcDCome pmDCome anDCome cdDCome ctDCome) pDCome [] := by
    obtain ⟨ds, hv, hb⟩ := F_DCome.binds1 (ps := pDCome) 3 1 (by simp) rfl fun _ _ _ _ _ _ _ us its h1 h2 => match us, its, h1, h2 with | [_, _, _], [_], _, _ => ⟨_, rfl, rfl⟩
    cases hv
    exact hb
  have F_DShown := fun_mk (st := sDShown) lDShown cDShown kDShown
  have b_DShown := F_DShown.binds (ps := pDShown) fun _ _ _ _ _ _ us hl => match us, hl with | [_], _ => rfl
  have F_DLost := fun_mk (st := sDLost) lDLost cDLost kDLost
  have b_DLost := F_DLost.binds (ps := pDLost) fun _ _ _ _ _ _ us hl => match us, hl with | [_], _ => rfl
  have F_DWeight := fun_mk (st := sDWeight) lDWeight cDWeight kDWeight
  have b_DWeight := F_DWeight.binds (ps := pDWeight) fun _ _ _ _ _ _ us hl => match us, hl with | [_], _ => rfl
  have F_DDrawers := fun_mk (st := sDDrawers) lDDrawers cDDrawers kDDrawers
  have b_DDrawers := F_DDrawers.binds (ps := pDDrawers) fun _ _ _ _ _ _ us hl => match us, hl with | [_], _ => rfl
  have F_DLeast := fun_mk (st := sDLeast) lDLeast cDLeast kDLeast
  have b_DLeast := F_DLeast.binds (ps := pDLeast) fun _ _ _ _ _ _ us hl => match us, hl with | [_, _], _ => rfl
  have F_DMost := fun_mk (st := sDMost) lDMost cDMost kDMost
  have b_DMost := F_DMost.binds (ps := pDMost) fun _ _ _ _ _ _ us hl => match us, hl with | [_, _], _ => rfl
  have F_DMaybe := fun_mk (st := sDMaybe) lDMaybe cDMaybe kDMaybe
  have b_DMaybe := F_DMaybe.binds (ps := pDMaybe) fun _ _ _ _ _ _ us hl => match us, hl with | [_], _ => rfl
  have F_DSurely := fun_mk (st := sDSurely) lDSurely cDSurely kDSurely
  have b_DSurely := F_DSurely.binds (ps := pDSurely) fun _ _ _ _ _ _ us hl => match us, hl with | [_], _ => rfl
  have F_DeskOf := fun_mk (st := sDeskOf) lDeskOf cDeskOf kDeskOf
  have b_DeskOf := F_DeskOf.binds (ps := pDeskOf) fun _ _ _ _ _ _ us hl => match us, hl with | [_, _, _, _], _ => rfl
  have F_Poured := fun_mk (st := sPoured) lPoured cPoured kPoured
  have b_Poured := F_Poured.binds (ps := pPoured) fun _ _ _ _ _ _ us hl => match us, hl with | [_, _], _ => rfl
  have F_Smaller := fun_mk (st := sSmaller) lSmaller cSmaller kSmaller
  have b_Smaller := F_Smaller.binds (ps := pSmaller) fun _ _ _ _ _ _ us hl => match us, hl with | [_, _], _ => rfl
  have F_Written := fun_mk (st := sWritten) lWritten cWritten kWritten
  have b_Written := F_Written.binds (ps := pWritten) fun _ _ _ _ _ _ us hl => match us, hl with | [_], _ => rfl
  have F_NumberOf := fun_mk (st := sNumberOf) lNumberOf cNumberOf kNumberOf
  have b_NumberOf := F_NumberOf.binds (ps := pNumberOf) fun _ _ _ _ _ _ us hl => match us, hl with | [_, _, _], _ => rfl
  have F_HeadOf := fun_mk (st := sHeadOf) lHeadOf cHeadOf kHeadOf
  have b_HeadOf := F_HeadOf.binds (ps := pHeadOf) fun _ _ _ _ _ _ us hl => match us, hl with | [_], _ => rfl
  have F_PairOf := fun_mk (st := sPairOf) lPairOf cPairOf kPairOf
  have b_PairOf := F_PairOf.binds (ps := pPairOf) fun _ _ _ _ _ _ us hl => match us, hl with | [_], _ => rfl
  have F_Read := fun_mk (st := sRead) lRead cRead kRead
  have b_Read := F_Read.binds (ps := pRead) fun _ _ _ _ _ _ us hl => match us, hl with | [_], _ => rfl
  have F_LMixed := fun_mk (st := sLMixed) lLMixed cLMixed kLMixed
  have b_LMixed := F_LMixed.binds (ps := pLMixed) fun _ _ _ _ _ _ us hl => match us, hl with | [_, _], _ => rfl
  have F_LNames := fun_mk (st := sLNames) lLNames cLNames kLNames
  have b_LNames := F_LNames.binds (ps := pLNames) fun _ _ _ _ _ _ us hl => match us, hl with | [_], _ => rfl
  have F_LDrawers := fun_mk (st := sLDrawers) lLDrawers cLDrawers kLDrawers
  have b_LDrawers := F_LDrawers.binds (ps := pLDrawers) fun _ _ _ _ _ _ us hl => match us, hl with | [_], _ => rfl
  have F_LComing := fun_mk (st := sLComing) lLComing cLComing kLComing
  have b_LComing := F_LComing.binds (ps := pLComing) fun _ _ _ _ _ _ us hl => match us, hl with | [_, _, _], _ => rfl
  have F_LCome := fun_mk (st := sLCome) lLCome cLCome kLCome
  have b_LCome := F_LCome.binds (ps := pLCome) fun _ _ _ _ _ _ us hl => match us, hl with | [_, _, _, _], _ => rfl
  have F_LIs := fun_mk (st := sLIs) lLIs cLIs kLIs
  have b_LIs := F_LIs.binds (ps := pLIs) fun _ _ _ _ _ _ us hl => match us, hl with | [_, _, _], _ => rfl
  have F_LTold := fun_mk (st := sLTold) lLTold cLTold kLTold
  have b_LTold := F_LTold.binds (ps := pLTold) fun _ _ _ _ _ _ us hl => match us, hl with | [_], _ => rfl
  have F_DInit := fun_mk (st := sDInit) lDInit cDInit kDInit
  have b_DInit := F_DInit.binds (ps := pDInit) fun _ _ _ _ _ _ us hl => match us, hl with | [_, _], _ => rfl
  have F_Law := fun_mk (st := sLaw) lLaw cLaw kLaw
  refine ⟨PySem.W.fnOf "law" "law" (defArgs sLaw) (defBody sLaw) (defScope sLaw) .none kVLaw dcLaw pmLaw anLaw cdLaw ctLaw, fun s v => .of_eq rfl, fun base _ _ => ?_⟩
  have G_IsWhole : Gf l.prog w K mg base CX0 1 "is_whole" pIsWhole (spWhole K) := ⟨fIsWhole, _, ok_whole F_IsWhole z_isinstance z_int z_bool, b_IsWhole, PySem.W.mg_of X G aIsWhole, kIsWhole⟩
  have G_IsName : Gf l.prog w K mg base CX0 1 "is_name" pIsName (spName K) := ⟨fIsName, _, ok_name F_IsName z_isinstance z_str z_len g_LONGEST g_LETTERS, b_IsName, PySem.W.mg_of X G aIsName, kIsName⟩
  have G_NeedComing : Gf l.prog w K mg base (L2.CX l.prog w) 2 "need_coming" pNeedComing (spNeedComing K CN CW) := ⟨fNeedComing, _, ok_needComing F_NeedComing G_IsName G_IsWhole g_GREATEST eN eW, b_NeedComing, PySem.W.mg_of X G aNeedComing, kNeedComing⟩
  have G_NeedDrawers : Gf l.prog w K mg base (L2.CX l.prog w) 2 "need_drawers" pNeedDrawers (spNeedDrawers K CD) := ⟨fNeedDrawers, _, ok_needDrawers F_NeedDrawers G_IsWhole g_MOST_DRAWERS eD, b_NeedDrawers, PySem.W.mg_of X G aNeedDrawers, kNeedDrawers⟩
  have M_Desk : Mk K C fDInit := ⟨mk, aDInit, iDInit, kc⟩
  have OK_Init := ok_init (P := l.prog) (w := w) (base := base) F_DInit T G_NeedDrawers
  have G_Lowered : Gf l.prog w K mg base CX0 1 "lowered" pLowered spLowered := ⟨fLowered, _, ok_lowered F_Lowered, b_Lowered, PySem.W.mg_of X G aLowered, kLowered⟩
  have G_DCome : Gm l.prog w K mg base (L2.CX l.prog w) C 3 "come" pDCome (spCome K C CN CW) := ⟨fDCome, _, ok_come F_DCome T G_NeedComing G_Lowered, b_DCome, ⟨aDCome, iDCome, kDCome⟩⟩
  have G_DShown : Gm l.prog w K mg base CX0 C 1 "shown" pDShown (spShown C) := ⟨fDShown, _, ok_shown F_DShown T, b_DShown, ⟨aDShown, iDShown, kDShown⟩⟩
  have G_DLost : Gm l.prog w K mg base CX0 C 1 "lost" pDLost (spNum C fun _ g _ => g) := ⟨fDLost, _, ok_lost F_DLost T, b_DLost, ⟨aDLost, iDLost, kDLost⟩⟩
  have G_DWeight : Gm l.prog w K mg base CX0 C 1 "weight" pDWeight (spNum C fun _ _ t => t) := ⟨fDWeight, _, ok_weight F_DWeight T, b_DWeight, ⟨aDWeight, iDWeight, kDWeight⟩⟩
  have G_DDrawers : Gm l.prog w K mg base CX0 C 1 "drawers" pDDrawers (spNum C fun r _ _ => r) := ⟨fDDrawers, _, ok_drawers F_DDrawers T, b_DDrawers, ⟨aDDrawers, iDDrawers, kDDrawers⟩⟩
  have G_DLeast : Gm l.prog w K mg base (L2.CX l.prog w) C 2 "least" pDLeast (spLeast K C CN fun _ => 0) := ⟨fDLeast, _, ok_least F_DLeast T G_IsName, b_DLeast, ⟨aDLeast, iDLeast, kDLeast⟩⟩
  have G_DMost : Gm l.prog w K mg base (L2.CX l.prog w) C 3 "most" pDMost (spLeast K C CN fun g => g) := ⟨fDMost, _, ok_most F_DMost T G_DLeast, b_DMost, ⟨aDMost, iDMost, kDMost⟩⟩
  have G_DMaybe : Gm l.prog w K mg base CX0 C 4 "maybe" pDMaybe (spOver C fun g => g) := ⟨fDMaybe, _, ok_maybe F_DMaybe T G_DMost, b_DMaybe, ⟨aDMaybe, iDMaybe, kDMaybe⟩⟩
  have G_DSurely : Gm l.prog w K mg base CX0 C 3 "surely" pDSurely (spOver C fun _ => 0) := ⟨fDSurely, _, ok_surely F_DSurely T G_DLeast, b_DSurely, ⟨aDSurely, iDSurely, kDSurely⟩⟩
  have G_DeskOf : Gf l.prog w K mg base CX0 5 "desk_of" pDeskOf (spDeskOf C) := ⟨fDeskOf, _, ok_deskOf F_DeskOf T M_Desk OK_Init b_DInit G_Lowered, b_DeskOf, PySem.W.mg_of X G aDeskOf, kDeskOf⟩
  have G_Poured : Gf l.prog w K mg base (L2.CX l.prog w) 6 "poured" pPoured (spPoured C CQ) := ⟨fPoured, _, ok_poured F_Poured T eM G_DeskOf G_DShown G_DLost G_DWeight G_DDrawers, b_Poured, PySem.W.mg_of X G aPoured, kPoured⟩
  have G_Smaller : Gf l.prog w K mg base (L2.CX l.prog w) 6 "smaller" pSmaller (spSmaller K C CD CQ) := ⟨fSmaller, _, ok_smaller F_Smaller T eM G_NeedDrawers G_DeskOf G_DShown G_DLost G_DWeight G_DDrawers, b_Smaller, PySem.W.mg_of X G aSmaller, kSmaller⟩
  have G_Written : Gf l.prog w K mg base CX0 2 "written" pWritten (spWritten C) := ⟨fWritten, _, ok_written F_Written T G_DShown G_DLost G_DWeight G_DDrawers z_str, b_Written, PySem.W.mg_of X G aWritten, kWritten⟩
  have G_NumberOf : Gf l.prog w K mg base CX0 1 "number_of" pNumberOf spNumOf := ⟨fNumberOf, _, ok_numOf F_NumberOf z_len z_int g_FIGURES, b_NumberOf, PySem.W.mg_of X G aNumberOf, kNumberOf⟩
  have G_HeadOf : Gf l.prog w K mg base CX0 2 "head_of" pHeadOf spHeadOf := ⟨fHeadOf, _, ok_headOf F_HeadOf G_NumberOf z_len g_MOST_DRAWERS g_MOST_NUMBER, b_HeadOf, PySem.W.mg_of X G aHeadOf, kHeadOf⟩
  have G_PairOf : Gf l.prog w K mg base CX0 2 "pair_of" pPairOf spPairOf := ⟨fPairOf, _, ok_pairOf F_PairOf G_NumberOf G_IsName z_len g_MOST_NUMBER, b_PairOf, PySem.W.mg_of X G aPairOf, kPairOf⟩
  have G_Read : Gf l.prog w K mg base CX0 6 "read" pRead (spReadG C) := ⟨fRead, _, ok_readG F_Read T G_HeadOf G_PairOf G_DeskOf z_range z_sum, b_Read, PySem.W.mg_of X G aRead, kRead⟩
  have G_LMixed : Gf l.prog w K mg base CX0 1 "_law_mixed" pLMixed spMixed := ⟨fLMixed, _, ok_mixed F_LMixed, b_LMixed, PySem.W.mg_of X G aLMixed, kLMixed⟩
  have G_LNames : Gf l.prog w K mg base CX0 2 "_law_names" pLNames (spNames K) := ⟨fLNames, _, ok_names F_LNames G_LMixed z_len z_min z_range, b_LNames, PySem.W.mg_of X G aLNames, kLNames⟩
  have G_LDrawers : Gf l.prog w K mg base CX0 2 "_law_drawers" pLDrawers (spDrawers K) := ⟨fLDrawers, _, ok_drawersL F_LDrawers G_LMixed, b_LDrawers, PySem.W.mg_of X G aLDrawers, kLDrawers⟩
  have G_LComing : Gf l.prog w K mg base CX0 2 "_law_coming" pLComing (spComing K) := ⟨fLComing, _, ok_coming F_LComing G_LMixed, b_LComing, PySem.W.mg_of X G aLComing, kLComing⟩
  have G_LCome : Gf l.prog w K mg base CX0 1 "_law_come" pLCome spLCome := ⟨fLCome, _, ok_lcome F_LCome z_dict z_len z_min, b_LCome, PySem.W.mg_of X G aLCome, kLCome⟩
  have G_LIs : Gf l.prog w K mg base CX0 2 "_law_is" pLIs (spLIs C) := ⟨fLIs, _, ok_lis F_LIs T G_DShown G_DLost G_DWeight G_DDrawers, b_LIs, PySem.W.mg_of X G aLIs, kLIs⟩
  have G_LTold : Gf l.prog w K mg base CX0 5 "_law_told" pLTold (spTold14 K C) := ⟨fLTold, _, ok_told14 F_LTold T G_DShown G_DLost G_DWeight G_DDrawers G_DMaybe G_DSurely G_Written, b_LTold, PySem.W.mg_of X G aLTold, kLTold⟩
  have LG : LawG l.prog w K mg base C CN CW CD := ⟨T, ⟨fDInit, _, ⟨mk, aDInit, iDInit, kc⟩, ok_init F_DInit T G_NeedDrawers, b_DInit⟩, G_DCome, G_DShown, G_DLost, G_DWeight, G_DDrawers, G_DLeast, G_DMost, G_DMaybe, G_DSurely, G_LMixed, G_LNames, G_LDrawers, G_LComing⟩
  exact ok_law F_Law LG G_LCome G_LIs G_LTold G_Written G_Read G_Smaller G_Poured z_enumerate
theorem walk {l : PySem.W.OpenLaw} {q : Program} {loose : List Str} {XP : (Str → Option Value) → Heap → Prop} {YP : World → Heap → Prop} {d : DefRec} {K : Params → PySem.W.Frag} (hn : l.most = some 63) (hdf : d.params.defaults = [])
    (hY : ∀ (w : World) (h : Heap), YP w h → (K w.params).In h)
    (F : ∀ (w : World) (mg : Str → Option Value) (fa : Addr) (h : Heap), (K w.params).In h → h.Ns mainGlobals mg → mg d.name = some (.ref fa) →
      ∃ fd : FuncData, (∀ (s : Shared) (u : Value), BindsTo s fd ⟨[u], []⟩ [("_law_script", u)]) ∧ ∀ base : Heap, (K w.params).In base → base.Ns mainGlobals mg → FnOk l.prog w (K w.params) mg base CX0 7 fa fd pLaw (spLaw (K w.params))) :
    PySem.W.WalkO q loose XP YP l.row.toRowW d [] (fun f vs => PySem.call f vs) :=
  L2.walk_of (n := 63) (k := 7) (x := "_law_script") (CX := fun _ => CX0) (sp := fun w => spLaw (K w.params)) hn (by decide) hdf ⟨rfl, by decide, by decide⟩ hY F (fun _ _ a ns hl _ hS => ⟨a, ns, rfl, hS, hl, fun _ => rfl⟩) fun _ _ _ _ _ z => z
end DK
open PySem PySem.W PyProof.Rows
set_option maxRecDepth 100000 in
set_option maxHeartbeats 0 in
theorem PySem.Challenge.cw_drawerdesk_k14_whole_goes_on_holds : PySem.Challenge.rw_drawerdesk_k14_whole_goes_on.Holds := by
  w_on; o_law; k_head; (case hw => w_witness2)
  k_fill
  refine DK.walk (l := PySem.Challenge.rw_drawerdesk_k14_whole_goes_on) rfl rfl (fun w h Y => PySem.W.kIn_of Y) ?F
  case F =>
    intro w mg fa h KX G hmg
    refine' DK.all_mk KX G hmg ?aC ?aIsWhole ?lIsWhole ?cIsWhole ?kIsWhole ?aIsName ?lIsName ?cIsName ?kIsName ?aNeedComing ?lNeedComing ?cNeedComing ?kNeedComing ?aNeedDrawers ?lNeedDrawers ?cNeedDrawers ?kNeedDrawers ?aLowered ?lLowered ?cLowered ?kLowered ?aDCome ?iDCome ?lDCome ?cDCome ?kDCome ?aDShown ?iDShown ?lDShown ?cDShown ?kDShown ?aDLost ?iDLost ?lDLost ?cDLost ?kDLost ?aDWeight ?iDWeight ?lDWeight ?cDWeight ?kDWeight ?aDDrawers ?iDDrawers ?lDDrawers ?cDDrawers ?kDDrawers ?aDLeast ?iDLeast ?lDLeast ?cDLeast ?kDLeast ?aDMost ?iDMost ?lDMost ?cDMost ?kDMost ?aDMaybe ?iDMaybe ?lDMaybe ?cDMaybe ?kDMaybe ?aDSurely ?iDSurely ?lDSurely ?cDSurely ?kDSurely ?aDeskOf ?lDeskOf ?cDeskOf ?kDeskOf ?aPoured ?lPoured ?cPoured ?kPoured ?aSmaller ?lSmaller ?cSmaller ?kSmaller ?aWritten ?lWritten ?cWritten ?kWritten ?aNumberOf ?lNumberOf ?cNumberOf ?kNumberOf ?aHeadOf ?lHeadOf ?cHeadOf ?kHeadOf ?aPairOf ?lPairOf ?cPairOf ?kPairOf ?aRead ?lRead ?cRead ?kRead ?aLMixed ?lLMixed ?cLMixed ?kLMixed ?aLNames ?lLNames ?cLNames ?kLNames ?aLDrawers ?lLDrawers ?cLDrawers ?kLDrawers ?aLComing ?lLComing ?cLComing ?kLComing ?aLCome ?lLCome ?cLCome ?kLCome ?aLIs ?lLIs ?cLIs ?kLIs ?aLTold ?lLTold ?cLTold ?kLTold ?aDInit ?iDInit ?lDInit ?cDInit ?kDInit ?aLaw ?lLaw ?cLaw ?kLaw ?lT ?pg ?hd ?po ?sa ?mk ?kc ?n_room ?n_counts ?n_gone ?n_total ?o_len ?o_min ?o_list ?o_dict ?o_sorted ?o_isinstance ?o_int ?o_bool ?o_str ?o_range ?o_enumerate ?o_sum ?v_LONGEST ?v_LETTERS ?v_GREATEST ?v_MOST_DRAWERS ?v_FIGURES ?v_MOST_NUMBER ?ea_NoName ?ex_NoName ?ek_NoName ?eb_NoName ?et_NoName ?ea_NoWeight ?ex_NoWeight ?ek_NoWeight ?eb_NoWeight ?et_NoWeight ?ea_NoDesk ?ex_NoDesk ?ek_NoDesk ?eb_NoDesk ?et_NoDesk ?ea_NoMatch ?ex_NoMatch ?ek_NoMatch ?eb_NoMatch ?et_NoMatch
    (case aC => k_is)
    (case aIsWhole => k_is)
    (case lIsWhole => k_is)
    (case cIsWhole => k_is)
    (case kIsWhole => k_is)
    (case aIsName => k_is)
    (case lIsName => k_is)
    (case cIsName => k_is)
    (case kIsName => k_is)
    (case aNeedComing => k_is)
    (case lNeedComing => k_is)
    (case cNeedComing => k_is)
    (case kNeedComing => k_is)
    (case aNeedDrawers => k_is)
    (case lNeedDrawers => k_is)
    (case cNeedDrawers => k_is)
    (case kNeedDrawers => k_is)
    (case aLowered => k_is)
    (case lLowered => k_is)
    (case cLowered => k_is)
    (case kLowered => k_is)
    (case aDCome => k_is)
    (case iDCome => k_is)
    (case lDCome => k_is)
    (case cDCome => k_is)
    (case kDCome => k_is)
    (case aDShown => k_is)
    (case iDShown => k_is)
    (case lDShown => k_is)
    (case cDShown => k_is)
    (case kDShown => k_is)
    (case aDLost => k_is)
    (case iDLost => k_is)
    (case lDLost => k_is)
    (case cDLost => k_is)
    (case kDLost => k_is)
    (case aDWeight => k_is)
    (case iDWeight => k_is)
    (case lDWeight => k_is)
    (case cDWeight => k_is)
    (case kDWeight => k_is)
    (case aDDrawers => k_is)
    (case iDDrawers => k_is)
    (case lDDrawers => k_is)
    (case cDDrawers => k_is)
    (case kDDrawers => k_is)
    (case aDLeast => k_is)
    (case iDLeast => k_is)
    (case lDLeast => k_is)
    (case cDLeast => k_is)
    (case kDLeast => k_is)
    (case aDMost => k_is)
    (case iDMost => k_is)
    (case lDMost => k_is)
    (case cDMost => k_is)
    (case kDMost => k_is)
    (case aDMaybe => k_is)
    (case iDMaybe => k_is)
    (case lDMaybe => k_is)
    (case cDMaybe => k_is)
    (case kDMaybe => k_is)
    (case aDSurely => k_is)
    (case iDSurely => k_is)
    (case lDSurely => k_is)
    (case cDSurely => k_is)
    (case kDSurely => k_is)
    (case aDeskOf => k_is)
    (case lDeskOf => k_is)
    (case cDeskOf => k_is)
    (case kDeskOf => k_is)
    (case aPoured => k_is)
    (case lPoured => k_is)
    (case cPoured => k_is)
    (case kPoured => k_is)
    (case aSmaller => k_is)
    (case lSmaller => k_is)
    (case cSmaller => k_is)
    (case kSmaller => k_is)
    (case aWritten => k_is)
    (case lWritten => k_is)
    (case cWritten => k_is)
    (case kWritten => k_is)
    (case aNumberOf => k_is)
    (case lNumberOf => k_is)
    (case cNumberOf => k_is)
    (case kNumberOf => k_is)
    (case aHeadOf => k_is)
    (case lHeadOf => k_is)
    (case cHeadOf => k_is)
    (case kHeadOf => k_is)
    (case aPairOf => k_is)
    (case lPairOf => k_is)
    (case cPairOf => k_is)
    (case kPairOf => k_is)
    (case aRead => k_is)
    (case lRead => k_is)
    (case cRead => k_is)
    (case kRead => k_is)
    (case aLMixed => k_is)
    (case lLMixed => k_is)
    (case cLMixed => k_is)
    (case kLMixed => k_is)
    (case aLNames => k_is)
    (case lLNames => k_is)
    (case cLNames => k_is)
    (case kLNames => k_is)
    (case aLDrawers => k_is)
    (case lLDrawers => k_is)
    (case cLDrawers => k_is)
    (case kLDrawers => k_is)
    (case aLComing => k_is)
    (case lLComing => k_is)
    (case cLComing => k_is)
    (case kLComing => k_is)
    (case aLCome => k_is)
    (case lLCome => k_is)
    (case cLCome => k_is)
    (case kLCome => k_is)
    (case aLIs => k_is)
    (case lLIs => k_is)
    (case cLIs => k_is)
    (case kLIs => k_is)
    (case aLTold => k_is)
    (case lLTold => k_is)
    (case cLTold => k_is)
    (case kLTold => k_is)
    (case aDInit => k_is)
    (case iDInit => k_is)
    (case lDInit => k_is)
    (case cDInit => k_is)
    (case kDInit => k_is)
    (case aLaw => k_is)
    (case lLaw => k_is)
    (case cLaw => k_is)
    (case kLaw => k_is)
    (case lT => k_is)
    (case pg => k_is)
    (case hd => k_is)
    (case po => k_is)
    (case sa => k_is)
    (case mk => k_is)
    (case kc => k_is)
    (case n_room => k_is)
    (case n_counts => k_is)
    (case n_gone => k_is)
    (case n_total => k_is)
    (case o_len => k_is)
    (case o_min => k_is)
    (case o_list => k_is)
    (case o_dict => k_is)
    (case o_sorted => k_is)
    (case o_isinstance => k_is)
    (case o_int => k_is)
    (case o_bool => k_is)
    (case o_str => k_is)
    (case o_range => k_is)
    (case o_enumerate => k_is)
    (case o_sum => k_is)
    (case v_LONGEST => k_is)
    (case v_LETTERS => k_is)
    (case v_GREATEST => k_is)
    (case v_MOST_DRAWERS => k_is)
    (case v_FIGURES => k_is)
    (case v_MOST_NUMBER => k_is)
    (case ea_NoName => k_is)
    (case ex_NoName => k_exc)
    (case ek_NoName => k_is)
    (case eb_NoName => k_is)
    (case et_NoName => k_is)
    (case ea_NoWeight => k_is)
    (case ex_NoWeight => k_exc)
    (case ek_NoWeight => k_is)
    (case eb_NoWeight => k_is)
    (case et_NoWeight => k_is)
    (case ea_NoDesk => k_is)
    (case ex_NoDesk => k_exc)
    (case ek_NoDesk => k_is)
    (case eb_NoDesk => k_is)
    (case et_NoDesk => k_is)
    (case ea_NoMatch => k_is)
    (case ex_NoMatch => k_exc)
    (case ek_NoMatch => k_is)
    (case eb_NoMatch => k_is)
    (case et_NoMatch => k_is)
#print axioms PySem.Challenge.cw_drawerdesk_k14_whole_goes_on_holds
